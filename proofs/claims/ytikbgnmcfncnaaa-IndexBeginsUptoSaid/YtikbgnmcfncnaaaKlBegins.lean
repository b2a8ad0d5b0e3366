/-
  A part of the proof: K_lBeginsd K_lBegins.
-/
import Derived.Test.YtikbgnmcfncnaaaXQlBegins
import Derived.Test.YtikbgnmcfncnaaaE4
import Derived.Test.YtikbgnmcfncnaaaE5
import Derived.Test.YtikbgnmcfncnaaaKBegin
import Derived.Test.YtikbgnmcfncnaaaKHalves
import Derived.Test.YtikbgnmcfncnaaaKchkNew
import Derived.Test.YtikbgnmcfncnaaaKworks
set_option linter.unusedVariables false
set_option linter.unusedSimpArgs false
noncomputable section
namespace Go.Eng
section
open Go Go.Eng Go.Proofs
set_option maxHeartbeats 4000000
set_option maxRecDepth 100000
def qI:List Kd:=[k64,.str,k64,k64,.str,k64,k64]
def qV:List AC:=((Fd Try.prog 9 Try.f14.params.toList 0).map (·.1)).getD []
def qS:List Rf:=[.e 15,.e 16,.e 17,.e 18,.e 19,.e 20,.e 21,.e 22,.e 23,.e 24,.e 25,.e 26,.e 27,.e 28,.e 29,.e 30,.e 31,.e 32,.e 33,.e 34,.e 35,.e 36,.e 37,.e 38,.e 39,.e 40]
def qp:List En:=[⟨7,.slen,[.e 1]⟩,
 ⟨8,.lt,[.c (.int 100),.e 7]⟩,
 ⟨9,.not,[.e 8]⟩,
 ⟨10,.slen,[.e 4]⟩,
 ⟨11,.lt,[.c (.int 100),.e 10]⟩,
 ⟨12,.or,[.e 8,.e 11]⟩,
 ⟨13,.outB "works.0" Db,[]⟩,
 ⟨14,.not,[.e 12]⟩,
 ⟨15,.outI "Begin.0" lw,[.e 0,.e 1,.e 2,.e 3,.e 4,.e 5,.e 6]⟩,
 ⟨16,.outI "Begin.1" lv,[.e 0,.e 1,.e 2,.e 3,.e 4,.e 5,.e 6]⟩,
 ⟨17,.outI "Begin.2" ln,[.e 0,.e 1,.e 2,.e 3,.e 4,.e 5,.e 6]⟩,
 ⟨18,.outI "Begin.3" l9,[.e 0,.e 1,.e 2,.e 3,.e 4,.e 5,.e 6]⟩,
 ⟨19,.outI "Begin.4" l8,[.e 0,.e 1,.e 2,.e 3,.e 4,.e 5,.e 6]⟩,
 ⟨20,.outI "Begin.5" l6,[.e 0,.e 1,.e 2,.e 3,.e 4,.e 5,.e 6]⟩,
 ⟨21,.outI "Begin.6" lf,[.e 0,.e 1,.e 2,.e 3,.e 4,.e 5,.e 6]⟩,
 ⟨22,.outI "Begin.7" ly,[.e 0,.e 1,.e 2,.e 3,.e 4,.e 5,.e 6]⟩]
def qg:List En:=[⟨23,.outI "Begin.8" lz,[.e 0,.e 1,.e 2,.e 3,.e 4,.e 5,.e 6]⟩,
 ⟨24,.outB "Begin.9" mA,[.e 0,.e 1,.e 2,.e 3,.e 4,.e 5,.e 6]⟩,
 ⟨25,.outB "Begin.10" kX,[.e 0,.e 1,.e 2,.e 3,.e 4,.e 5,.e 6]⟩,
 ⟨26,.outB "Begin.11" lK,[.e 0,.e 1,.e 2,.e 3,.e 4,.e 5,.e 6]⟩,
 ⟨27,.outB "Begin.12" kR,[.e 0,.e 1,.e 2,.e 3,.e 4,.e 5,.e 6]⟩,
 ⟨28,.outB "Begin.13" lI,[.e 0,.e 1,.e 2,.e 3,.e 4,.e 5,.e 6]⟩,
 ⟨29,.outB "Begin.14" lA,[.e 0,.e 1,.e 2,.e 3,.e 4,.e 5,.e 6]⟩,
 ⟨30,.outB "Begin.15" kY,[.e 0,.e 1,.e 2,.e 3,.e 4,.e 5,.e 6]⟩,
 ⟨31,.outB "Begin.16" lY,[.e 0,.e 1,.e 2,.e 3,.e 4,.e 5,.e 6]⟩,
 ⟨32,.outI "Begin.17" kZ,[.e 0,.e 1,.e 2,.e 3,.e 4,.e 5,.e 6]⟩,
 ⟨33,.outI "Begin.18" lO,[.e 0,.e 1,.e 2,.e 3,.e 4,.e 5,.e 6]⟩,
 ⟨34,.outB "Begin.19" lJ,[.e 0,.e 1,.e 2,.e 3,.e 4,.e 5,.e 6]⟩,
 ⟨35,.outB "Begin.20" kh,[.e 0,.e 1,.e 2,.e 3,.e 4,.e 5,.e 6]⟩,
 ⟨36,.outB "Begin.21" lF,[.e 0,.e 1,.e 2,.e 3,.e 4,.e 5,.e 6]⟩,
 ⟨37,.outI "Begin.22" kU,[.e 0,.e 1,.e 2,.e 3,.e 4,.e 5,.e 6]⟩,
 ⟨38,.outI "Begin.23" lH,[.e 0,.e 1,.e 2,.e 3,.e 4,.e 5,.e 6]⟩]
def qn:List En:=[⟨39,.outI "Begin.24" lX,[.e 0,.e 1,.e 2,.e 3,.e 4,.e 5,.e 6]⟩,
 ⟨40,.outI "Begin.25" kV,[.e 0,.e 1,.e 2,.e 3,.e 4,.e 5,.e 6]⟩,
 ⟨41,.outI "Begin.26" kS,[.e 0,.e 1,.e 2,.e 3,.e 4,.e 5,.e 6]⟩,
 ⟨42,.ne,[.e 41,.c (.int 0)]⟩,
 ⟨43,.and,[.e 14,.e 42]⟩,
 ⟨44,.outB "works.0" Db,[]⟩,
 ⟨45,.and,[.e 14,.n 42]⟩,
 ⟨46,.lt,[.e 0,.c (.int 0)]⟩,
 ⟨47,.and,[.e 45,.n 46]⟩,
 ⟨48,.le,[.c (.int 4),.e 0]⟩,
 ⟨49,.or,[.e 46,.e 48]⟩,
 ⟨50,.and,[.e 45,.e 49]⟩,
 ⟨51,.and,[.e 45,.n 49]⟩,
 ⟨52,.pick .i,[.e 0,.c (.int 12),.c (.int 12),.c (.int 6),.c (.int 12)]⟩,
 ⟨53,.pick .i,[.e 0,.c (.int 0),.c (.int 7),.c (.int 0),.c (.int 0)]⟩,
 ⟨54,.pick .i,[.e 0,.c (.int 0),.c (.int 10),.c (.int 0),.c (.int 0)]⟩]
def qt:List En:=[⟨55,.pick .b,[.e 0,.c (.bool true),.c (.bool true),.c (.bool true),.c (.bool false)]⟩,
 ⟨56,.pick .b,[.e 0,.c (.bool true),.c (.bool false),.c (.bool true),.c (.bool false)]⟩,
 ⟨57,.pick .b,[.e 0,.c (.bool false),.c (.bool false),.c (.bool false),.c (.bool true)]⟩,
 ⟨58,.ite .i,[.e 50,.c (.int 0),.e 52]⟩,
 ⟨59,.ite .i,[.e 50,.c (.int 0),.e 53]⟩,
 ⟨60,.ite .i,[.e 50,.c (.int 0),.e 54]⟩,
 ⟨61,.ite .b,[.e 50,.c (.bool false),.e 55]⟩,
 ⟨62,.ite .b,[.e 50,.c (.bool false),.e 56]⟩,
 ⟨63,.ite .b,[.e 50,.c (.bool false),.e 57]⟩,
 ⟨64,.ite .i,[.e 50,.c (.int 3),.c (.int 0)]⟩,
 ⟨65,.or,[.e 50,.e 51]⟩,
 ⟨66,.ne,[.e 64,.c (.int 0)]⟩,
 ⟨67,.and,[.e 45,.n 66]⟩,
 ⟨68,.outI "chkNew.0" qG,qS⟩,
 ⟨69,.ne,[.e 68,.c (.int 0)]⟩,
 ⟨70,.or,[.e 66,.e 69]⟩]
def rE:List En:=[⟨71,.and,[.e 45,.n 70]⟩,
 ⟨72,.ne,[.e 15,.e 0]⟩,
 ⟨73,.or,[.e 70,.e 72]⟩,
 ⟨74,.and,[.e 45,.n 73]⟩,
 ⟨75,.ne,[.e 16,.c (.int 0)]⟩,
 ⟨76,.or,[.e 73,.e 75]⟩,
 ⟨77,.and,[.e 45,.n 76]⟩,
 ⟨78,.ne,[.e 37,.c (.int 0)]⟩,
 ⟨79,.or,[.e 76,.e 78]⟩,
 ⟨80,.and,[.e 45,.e 79]⟩,
 ⟨81,.and,[.e 45,.n 79]⟩,
 ⟨82,.and,[.e 81,.e 62]⟩,
 ⟨83,.and,[.e 81,.n 62]⟩,
 ⟨84,.eqs [.i,.i],[.e 32,.c (.int 0),.e 33,.c (.int 0)]⟩,
 ⟨85,.and,[.e 83,.e 84]⟩,
 ⟨86,.outB "works.0" Db,[]⟩]
def rA:List En:=[⟨87,.and,[.e 84,.e 86]⟩,
 ⟨88,.outI "Halves.0" jh,[.e 1,.e 2,.e 3,.e 4,.e 5,.e 6]⟩,
 ⟨89,.outI "Halves.1" jl,[.e 1,.e 2,.e 3,.e 4,.e 5,.e 6]⟩,
 ⟨90,.outI "Halves.2" ji,[.e 1,.e 2,.e 3,.e 4,.e 5,.e 6]⟩,
 ⟨91,.w2 .i64 .sub,[.e 3,.e 6]⟩,
 ⟨92,.eq,[.e 90,.c (.int 0)]⟩,
 ⟨93,.and,[.e 82,.e 92]⟩,
 ⟨94,.eqs [.i,.i],[.e 32,.e 88,.e 33,.e 89]⟩,
 ⟨95,.and,[.e 92,.e 94]⟩,
 ⟨96,.and,[.e 82,.e 95]⟩,
 ⟨97,.w2 .i64 .sub,[.e 88,.e 89]⟩,
 ⟨98,.o2 .min,[.e 91,.c (.int 40)]⟩,
 ⟨99,.o2 .max,[.c (.int (-40)),.e 98]⟩,
 ⟨100,.eq,[.e 97,.e 99]⟩,
 ⟨101,.and,[.e 95,.e 100]⟩,
 ⟨102,.and,[.e 82,.e 101]⟩]
def rC:List En:=[⟨103,.o2 .min,[.e 88,.e 89]⟩,
 ⟨104,.eq,[.e 103,.c (.int 0)]⟩,
 ⟨105,.and,[.e 101,.e 104]⟩,
 ⟨106,.and,[.e 82,.e 105]⟩,
 ⟨107,.outB "works.0" Db,[]⟩,
 ⟨108,.and,[.e 105,.e 107]⟩,
 ⟨109,.ite .b,[.e 83,.e 87,.e 108]⟩,
 ⟨110,.ite .i,[.e 83,.e 64,.e 90]⟩,
 ⟨111,.or,[.e 83,.e 82]⟩,
 ⟨112,.ite .b,[.e 80,.c (.bool false),.e 109]⟩,
 ⟨113,.ite .i,[.e 80,.e 64,.e 110]⟩,
 ⟨114,.or,[.e 80,.e 111]⟩,
 ⟨115,.ite .b,[.e 43,.e 44,.e 112]⟩,
 ⟨116,.or,[.e 43,.e 114]⟩,
 ⟨117,.ite .b,[.e 12,.e 13,.e 115]⟩,
 ⟨118,.or,[.e 12,.e 116]⟩]
def qK:List En:=qp++(qg++(qn++(qt++(rE++(rA++(rC))))))
def qa:List ObE:=[⟨some 67,.pre "chkNew.p0" qA,qS⟩,
 ⟨some 51,.inr,[.e 0,.c (.int 4)]⟩]
def sD:List Rf:=[.e 117]
theorem sA:TG 7 (UY Try.prog [(52,mC),(28,jZ),(56,qB),(15,G6)] AW 3000 20 14 qV 7)=some (117,(qK).map En.be,qa.map ObE.be):=by kernel_rfl
theorem r9 {T:Tab}(hz1:(S T 1).size<=140737488355328)(hz4:(S T 4).size<=140737488355328)(A0:AH T qK):
  ((B T 117)=(true))/\
  (B T 67=true->I T 16=(0:Int)/\I T 17=(0:Int)/\I T 18=(-1:Int)/\I T 19=(-1:Int)/\I T 20=(0:Int)/\I T 21=(0:Int)/\I T 22=(0:Int)/\I T 23=(0:Int)/\B T 24=false/\B T 25=false/\B T 26=false/\B T 27=false/\B T 28=false/\B T 29=false/\B T 30=false/\B T 31=false/\B T 34=false/\B T 35=false/\B T 36=false/\I T 37=(0:Int)/\I T 38=(0:Int)/\I T 39=(-1:Int)/\I T 40=(-1:Int)/\0<=I T 15/\I T 15<=3/\0<=I T 32/\I T 32<=40/\0<=I T 33/\I T 33<=40/\(¬((I T 15)=0\/I T 15=2)->I T 32=0/\I T 33=0))/\
  (B T 51=true->0<=I T 0/\I T 0 < 4):=by
 obtain⟨F0,A0⟩:=A0.cut;obtain⟨F1,A0⟩:=A0.cut;obtain⟨F2,A0⟩:=A0.cut;obtain⟨F3,A0⟩:=A0.cut;obtain⟨F4,A0⟩:=A0.cut;obtain⟨F5,A0⟩:=A0.cut;have F6:=A0;clear A0;have kk:(B T 45)=true->Am ((S T 1)) (I T 2) (I T 3) ((S T 4)) (I T 5) (I T 6)=0/\0<=I T 0/\I T 0<=3/\B T 50=false/\B T 66=false:=by
  obtain⟨-,-,e41,e42,-,-,e45,e46,-,e48,e49,e50,-⟩:=F2;obtain⟨-,-,-,-,-,-,-,-,-,e64,-,e66,-⟩:=F3;replace e41:I T 41=(mN (I T 0) (S T 1) (I T 2) (I T 3) (S T 4) (I T 5) (I T 6)):=e41;simp only[AI,AP,zN,zR,zL,zS] at e42 e45 e46 e48 e49 e50 e64 e66;intro h45;have n42:(B T 42)=false:=(e45.1 h45).2;have x41:(I T 41)=0:=by
   by_cases h:(I T 41)=0
   .exact h
   .exact absurd (e42.2 h) (by simp[n42])
  rw[e41] at x41;have hp:Am ((S T 1)) (I T 2) (I T 3) ((S T 4)) (I T 5) (I T 6)=0:=by
   unfold mN at x41;split at x41
   .assumption
   .rename_i h;exact absurd x41 h
  have hc:0<=I T 0/\I T 0<=3:=by
   unfold mN at x41;rw[if_pos hp] at x41;split at x41
   .rename_i h;exact kM.1 h
   .cases x41
  have n49:¬B T 49=true:=by rw[e49,e46,e48];omega
  have n50:(B T 50)=false:=Bool.eq_false_iff.2 fun h=>n49 (e50.1 h).2;have x64:(I T 64)=0:=by rw[e64,n50];rfl
  exact⟨hp,hc.1,hc.2,n50,Bool.eq_false_iff.2 fun h=>(e66.1 h) x64⟩
 refine⟨?_,?_,?_⟩
 .obtain⟨-,-,-,-,-,-,e13,e14,e15,e16,-⟩:=F0;obtain⟨-,-,-,-,-,-,-,-,-,e32,e33,-,-,-,e37,-⟩:=F1;obtain⟨-,-,-,-,e43,e44,e45,-⟩:=F2;obtain⟨-,e56,-,-,-,-,-,e62,-,-,-,-,-,e68,e69,e70,-⟩:=F3;obtain⟨-,e72,e73,-,e75,e76,-,e78,e79,e80,e81,-,e83,e84,-,e86,-⟩:=F4;obtain⟨e87,e88,e89,e90,e91,e92,-,e94,e95,-,e97,e98,e99,e100,e101,-⟩:=F5;obtain⟨e103,e104,e105,-,e107,e108,e109,-,-,e112,-,-,e115,-,e117,-⟩:=F6;replace e13:B T 13=(true):=e13;replace e15:I T 15=(if jK (I T 0) (S T 1) (I T 2) (I T 3) (S T 4) (I T 5) (I T 6)=true then (I T 0) else 0):=e15;replace e16:I T 16=((0:Int)):=e16;replace e32:I T 32=(if jk (I T 0) (S T 1) (I T 2) (I T 3) (S T 4) (I T 5) (I T 6)=true then (jJ (I T 3) (I T 6)) else 0):=e32;replace e33:I T 33=(if jk (I T 0) (S T 1) (I T 2) (I T 3) (S T 4) (I T 5) (I T 6)=true then (jJ (I T 6) (I T 3)) else 0):=e33;replace e37:I T 37=((0:Int)):=e37;replace e44:B T 44=(true):=e44;replace e68:I T 68=((0:Int)):=e68;replace e86:B T 86=(true):=e86;replace e88:I T 88=(if Am (S T 1) (I T 2) (I T 3) (S T 4) (I T 5) (I T 6)=0 then jJ (I T 3) (I T 6) else 0):=e88;replace e89:I T 89=(if Am (S T 1) (I T 2) (I T 3) (S T 4) (I T 5) (I T 6)=0 then jJ (I T 6) (I T 3) else 0):=e89;replace e90:I T 90=(Am (S T 1) (I T 2) (I T 3) (S T 4) (I T 5) (I T 6)):=e90;replace e107:B T 107=(true):=e107;simp only[AI,AP,zN,zC,zR,Nk,Nw,and_false,or_false,EN,and_true,LW,w2P,zL,zS] at e14 e43 e45 e56 e62 e69 e70 e72 e73 e75 e76 e78 e79 e80 e81 e83 e84 e87 e91 e92 e94 e95 e97 e98 e99 e100 e101 e103 e104 e105 e108 e109 e112 e115 e117;have h13:=e13;have h44:=e44;have h107:=e107;have h86:=e86;refine e117.2 ?_;by_cases h12:(B T 12)=true
  .exact .inl ⟨h12,h13⟩
  have n12:(B T 12)=false:=by simpa using h12
  refine .inr ⟨n12,e115.2 ?_⟩;have h14:=e14.2 n12;by_cases h42:(B T 42)=true
  .exact .inl ⟨e43.2 ⟨h14,h42⟩,h44⟩
  have n42:(B T 42)=false:=by simpa using h42
  have n43:(B T 43)=false:=Bool.eq_false_iff.2 fun h=>h42 (e43.1 h).2;have h45:=e45.2 ⟨h14,n42⟩;obtain⟨hp,hc0,hc1,n50,n66⟩:=kk h45;have hB:=jI.2 ⟨hp,hc0,hc1⟩;have x15:=e15.trans (if_pos hB);have n69:¬B T 69=true:=fun h=>(e69.1 h) e68;have n70:¬B T 70=true:=fun h=>(e70.1 h).elim (by simp[n66]) n69;have n73:¬B T 73=true:=fun h=>(e73.1 h).elim n70 fun h=>(e72.1 h) x15;have n76:¬B T 76=true:=fun h=>(e76.1 h).elim n73 fun h=>(e75.1 h) e16;have n79:¬B T 79=true:=fun h=>(e79.1 h).elim n76 fun h=>(e78.1 h) e37;have n80:(B T 80)=false:=Bool.eq_false_iff.2 fun h=>n79 (e80.1 h).2;have h81:=e81.2 ⟨h45,by simpa using n79⟩;refine .inr ⟨n43,e112.2 ⟨n80,e109.2 ?_⟩⟩;have k62:(B T 62)=true↔((I T 0)=0\/I T 0=2):=by rw[e62,e56];simp only[n50,true_and];omega
  by_cases h62:(B T 62)=true
  .have n83:(B T 83)=false:=Bool.eq_false_iff.2 fun h=>by rw[h62] at e83;exact Bool.noConfusion (e83.1 h).2
   have hH:=jM.2 ⟨⟨hp,hc0,hc1⟩,k62.1 h62⟩;obtain⟨q1,q2,-⟩:=JA hp;have q3:=(Ea.1 q1).2.2;have q4:=(Ea.1 q2).2.2;have x88:=e88.trans (if_pos hp);have x89:=e89.trans (if_pos hp);have x32:=e32.trans (if_pos hH);have x33:=e33.trans (if_pos hH);have a1:=mH (I T 3) (I T 6);have a2:=mH (I T 6) (I T 3);have x91:=e91 (by omega) (by omega);have x97:=e97 (by omega) (by omega);have h100:(I T 97)=I T 99:=by
    rw[e99,e98,x97,x91,x88,x89];unfold jJ
    (repeat' split)<;>omega
   have h104:(I T 103)=0:=by
    rw[e103,x88,x89];rcases rk (I T 3) (I T 6) with h|h
    all_goals split<;>omega
   exact .inr ⟨n83,e108.2 ⟨e105.2 ⟨e101.2 ⟨e95.2 ⟨e92.2 (e90.trans hp),e94.2 ⟨x32.trans x88.symm,x33.trans x89.symm⟩⟩,e100.2 h100⟩,e104.2 h104⟩,h107⟩⟩
  .have h83:=e83.2 ⟨h81,by simpa using h62⟩;have nH:¬jk (I T 0) ((S T 1)) (I T 2) (I T 3) ((S T 4)) (I T 5) (I T 6)=true:=fun h=>h62 (k62.2 (jM.1 h).2);exact .inl ⟨h83,e87.2 ⟨e84.2 ⟨e32.trans (if_neg nH),e33.trans (if_neg nH)⟩,h86⟩⟩
 .obtain⟨-,-,-,-,-,-,-,-,e15,e16,e17,e18,e19,e20,e21,e22,-⟩:=F0;obtain⟨e23,e24,e25,e26,e27,e28,e29,e30,e31,e32,e33,e34,e35,e36,e37,e38,-⟩:=F1;obtain⟨e39,e40,-⟩:=F2;obtain⟨-,-,-,-,-,-,-,-,-,-,-,-,e67,-⟩:=F3;replace e15:I T 15=(if jK (I T 0) (S T 1) (I T 2) (I T 3) (S T 4) (I T 5) (I T 6)=true then (I T 0) else 0):=e15;replace e16:I T 16=((0:Int)):=e16;replace e17:I T 17=((0:Int)):=e17;replace e18:I T 18=(if jK (I T 0) (S T 1) (I T 2) (I T 3) (S T 4) (I T 5) (I T 6)=true then -1 else 0):=e18;replace e19:I T 19=(if jK (I T 0) (S T 1) (I T 2) (I T 3) (S T 4) (I T 5) (I T 6)=true then -1 else 0):=e19;replace e20:I T 20=((0:Int)):=e20;replace e21:I T 21=((0:Int)):=e21;replace e22:I T 22=((0:Int)):=e22;replace e23:I T 23=((0:Int)):=e23;replace e24:B T 24=(false):=e24;replace e25:B T 25=(false):=e25;replace e26:B T 26=(false):=e26;replace e27:B T 27=(false):=e27;replace e28:B T 28=(false):=e28;replace e29:B T 29=(false):=e29;replace e30:B T 30=(false):=e30;replace e31:B T 31=(false):=e31;replace e32:I T 32=(if jk (I T 0) (S T 1) (I T 2) (I T 3) (S T 4) (I T 5) (I T 6)=true then (jJ (I T 3) (I T 6)) else 0):=e32;replace e33:I T 33=(if jk (I T 0) (S T 1) (I T 2) (I T 3) (S T 4) (I T 5) (I T 6)=true then (jJ (I T 6) (I T 3)) else 0):=e33;replace e34:B T 34=(false):=e34;replace e35:B T 35=(false):=e35;replace e36:B T 36=(false):=e36;replace e37:I T 37=((0:Int)):=e37;replace e38:I T 38=((0:Int)):=e38;replace e39:I T 39=(if jK (I T 0) (S T 1) (I T 2) (I T 3) (S T 4) (I T 5) (I T 6)=true then -1 else 0):=e39;replace e40:I T 40=(if jK (I T 0) (S T 1) (I T 2) (I T 3) (S T 4) (I T 5) (I T 6)=true then -1 else 0):=e40;simp only[AI,AP,zN,zR] at e67;intro h67;obtain⟨hp,hc0,hc1,n50,n66⟩:=kk (e67.1 h67).1;have hB:=jI.2 ⟨hp,hc0,hc1⟩;have x15:=e15.trans (if_pos hB);have a1:=mH (I T 3) (I T 6);have a2:=mH (I T 6) (I T 3);have y32:0<=I T 32/\I T 32<=40:=by rw[e32];split<;>omega
  have y33:0<=I T 33/\I T 33<=40:=by rw[e33];split<;>omega
  refine⟨e16,e17,e18.trans (if_pos hB),e19.trans (if_pos hB),e20,e21,e22,e23,e24,e25,e26,e27,e28,e29,e30,e31,e34,e35,e36,e37,e38,e39.trans (if_pos hB),e40.trans (if_pos hB),by omega,by omega,y32.1,y32.2,y33.1,y33.2,fun hn=>?_⟩;rw[x15] at hn;have nH:¬jk (I T 0) ((S T 1)) (I T 2) (I T 3) ((S T 4)) (I T 5) (I T 6)=true:=fun h=>hn (jM.1 h).2;exact⟨e32.trans (if_neg nH),e33.trans (if_neg nH)⟩
 .obtain⟨-,-,-,-,-,-,-,-,-,-,-,-,e51,-⟩:=F2;simp only[AI,AP,zN,zR] at e51;intro h51;obtain⟨hp,hc0,hc1,n50,n66⟩:=kk (e51.1 h51).1;omega
theorem rP:Fd Try.prog 9 Try.f14.params.toList 0=some (qV,qI):=by kernel_rfl
theorem rd:∀p∈([(52,mC),(28,jZ),(56,qB),(15,G6)]:List (FuncId × AV)),Ae Try.prog p.1 p.2:=by simp only[List.forall_mem_cons];exact⟨pN,mg,r8,U9,fun _ h=>absurd h (by simp)⟩
theorem rm:∀T:Tab,AK T (BK 0 qI)->Bnd T 0 qI->RE 1048576 T 0 qI->Ac T ((qK).map En.be)->G5 T qa/\B T 117=true:=by
 intro T hS hBd hBl hE;obtain⟨-,hz1,-,-,hz4,-⟩:=hBd;replace hz1:(S T 1).size<=140737488355328:=hz1;replace hz4:(S T 4).size<=140737488355328:=hz4;clear hBl
 skip
 obtain⟨A0,hO⟩:=BG (tys:=[.b]) (rs:=sD) hS (by kernel_rfl) hE;obtain⟨q0,r0,r1⟩:=r9 hz1 hz4 A0;exact⟨⟨r0,r1,trivial⟩,q0⟩
end
end Go.Eng
end
