/-
  A part of the proof: K_Begind K_Begin.
-/
import Derived.Test.YtikbgnmcfncnaaaXQlBegins
import Derived.Test.YtikbgnmcfncnaaaE4
import Derived.Test.YtikbgnmcfncnaaaE5
import Derived.Test.YtikbgnmcfncnaaaKHalves
set_option linter.unusedVariables false
set_option linter.unusedSimpArgs false
noncomputable section
namespace Go.Eng
section
open Go Go.Eng Go.Proofs
set_option maxHeartbeats 4000000
set_option maxRecDepth 100000
def lw:List U->Int:=fun us=>(if jK (aI us 0) (aS us 1) (aI us 2) (aI us 3) (aS us 4) (aI us 5) (aI us 6)=true then (aI us 0) else 0)
def lv:List U->Int:=fun us=>((0:Int))
def ln:List U->Int:=fun us=>((0:Int))
def l9:List U->Int:=fun us=>(if jK (aI us 0) (aS us 1) (aI us 2) (aI us 3) (aS us 4) (aI us 5) (aI us 6)=true then -1 else 0)
def l8:List U->Int:=fun us=>(if jK (aI us 0) (aS us 1) (aI us 2) (aI us 3) (aS us 4) (aI us 5) (aI us 6)=true then -1 else 0)
def l6:List U->Int:=fun us=>((0:Int))
def lf:List U->Int:=fun us=>((0:Int))
def ly:List U->Int:=fun us=>((0:Int))
def lz:List U->Int:=fun us=>((0:Int))
def mA:List U->Bool:=fun us=>(false)
def kX:List U->Bool:=fun us=>(false)
def lK:List U->Bool:=fun us=>(false)
def kR:List U->Bool:=fun us=>(false)
def lI:List U->Bool:=fun us=>(false)
def lA:List U->Bool:=fun us=>(false)
def kY:List U->Bool:=fun us=>(false)
def lY:List U->Bool:=fun us=>(false)
def kZ:List U->Int:=fun us=>(if jk (aI us 0) (aS us 1) (aI us 2) (aI us 3) (aS us 4) (aI us 5) (aI us 6)=true then (jJ (aI us 3) (aI us 6)) else 0)
def lO:List U->Int:=fun us=>(if jk (aI us 0) (aS us 1) (aI us 2) (aI us 3) (aS us 4) (aI us 5) (aI us 6)=true then (jJ (aI us 6) (aI us 3)) else 0)
def lJ:List U->Bool:=fun us=>(false)
def kh:List U->Bool:=fun us=>(false)
def lF:List U->Bool:=fun us=>(false)
def kU:List U->Int:=fun us=>((0:Int))
def lH:List U->Int:=fun us=>((0:Int))
def lX:List U->Int:=fun us=>(if jK (aI us 0) (aS us 1) (aI us 2) (aI us 3) (aS us 4) (aI us 5) (aI us 6)=true then -1 else 0)
def kV:List U->Int:=fun us=>(if jK (aI us 0) (aS us 1) (aI us 2) (aI us 3) (aS us 4) (aI us 5) (aI us 6)=true then -1 else 0)
def kS:List U->Int:=fun us=>(mN (aI us 0) (aS us 1) (aI us 2) (aI us 3) (aS us 4) (aI us 5) (aI us 6))
def mC:AV:={ sh:=[.one (k64),.agg [.str,k64,k64],.agg [.str,k64,k64]],blks:=[],outs:=[(.s "Begin.0",Bl lw),(.s "Begin.1",Bl lv),(.s "Begin.2",Bl ln),(.s "Begin.3",Bl l9),(.s "Begin.4",Bl l8),(.s "Begin.5",Bl l6),(.s "Begin.6",Bl lf),(.s "Begin.7",Bl ly),(.s "Begin.8",Bl lz),(.s "Begin.9",LP mA),(.s "Begin.10",LP kX),(.s "Begin.11",LP lK),(.s "Begin.12",LP kR),(.s "Begin.13",LP lI),(.s "Begin.14",LP lA),(.s "Begin.15",LP kY),(.s "Begin.16",LP lY),(.s "Begin.17",Bl kZ),(.s "Begin.18",Bl lO),(.s "Begin.19",LP lJ),(.s "Begin.20",LP kh),(.s "Begin.21",LP lF),(.s "Begin.22",Bl kU),(.s "Begin.23",Bl lH),(.s "Begin.24",Bl lX),(.s "Begin.25",Bl kV),(.s "Begin.26",Bl kS)],c:= .tup [.agg [(C4 7),(C4 8),(C4 9),(C4 10),(C4 11),(C4 12),(C4 13),(C4 14),(C4 15),.b 16,.b 17,.b 18,.b 19,.b 20,.b 21,.b 22,.b 23,(C4 24),(C4 25),.b 26,.b 27,.b 28,(C4 29),(C4 30),(C4 31),(C4 32)],(C4 33)],m':=[],pre:=[] }
def oH:List En:=[⟨7,.outI "Halves.0" jh,[.e 1,.e 2,.e 3,.e 4,.e 5,.e 6]⟩,
 ⟨8,.outI "Halves.1" jl,[.e 1,.e 2,.e 3,.e 4,.e 5,.e 6]⟩,
 ⟨9,.outI "Halves.2" ji,[.e 1,.e 2,.e 3,.e 4,.e 5,.e 6]⟩,
 ⟨10,.ne,[.e 9,.c (.int 0)]⟩,
 ⟨11,.not,[.e 10]⟩,
 ⟨12,.lt,[.e 0,.c (.int 0)]⟩,
 ⟨13,.and,[.e 11,.n 12]⟩,
 ⟨14,.le,[.c (.int 4),.e 0]⟩,
 ⟨15,.or,[.e 12,.e 14]⟩,
 ⟨16,.and,[.e 11,.e 15]⟩,
 ⟨17,.and,[.e 11,.n 15]⟩,
 ⟨18,.pick .i,[.e 0,.c (.int 12),.c (.int 12),.c (.int 6),.c (.int 12)]⟩,
 ⟨19,.pick .i,[.e 0,.c (.int 0),.c (.int 7),.c (.int 0),.c (.int 0)]⟩,
 ⟨20,.pick .i,[.e 0,.c (.int 0),.c (.int 10),.c (.int 0),.c (.int 0)]⟩,
 ⟨21,.pick .b,[.e 0,.c (.bool true),.c (.bool true),.c (.bool true),.c (.bool false)]⟩,
 ⟨22,.pick .b,[.e 0,.c (.bool true),.c (.bool false),.c (.bool true),.c (.bool false)]⟩]
def nu:List En:=[⟨23,.pick .b,[.e 0,.c (.bool false),.c (.bool false),.c (.bool false),.c (.bool true)]⟩,
 ⟨24,.ite .i,[.e 16,.c (.int 0),.e 18]⟩,
 ⟨25,.ite .i,[.e 16,.c (.int 0),.e 19]⟩,
 ⟨26,.ite .i,[.e 16,.c (.int 0),.e 20]⟩,
 ⟨27,.ite .b,[.e 16,.c (.bool false),.e 21]⟩,
 ⟨28,.ite .b,[.e 16,.c (.bool false),.e 22]⟩,
 ⟨29,.ite .b,[.e 16,.c (.bool false),.e 23]⟩,
 ⟨30,.ite .i,[.e 16,.c (.int 3),.c (.int 0)]⟩,
 ⟨31,.or,[.e 16,.e 17]⟩,
 ⟨32,.ne,[.e 30,.c (.int 0)]⟩,
 ⟨33,.and,[.e 11,.n 32]⟩,
 ⟨34,.or,[.e 32,.n 28]⟩,
 ⟨35,.and,[.e 11,.e 34]⟩,
 ⟨36,.and,[.e 11,.n 34]⟩,
 ⟨37,.ite .i,[.e 34,.c (.int 0),.e 7]⟩,
 ⟨38,.ite .i,[.e 34,.c (.int 0),.e 8]⟩]
def oI:List En:=[⟨39,.lt,[.e 0,.c (.int 0)]⟩,
 ⟨40,.and,[.e 11,.n 39]⟩,
 ⟨41,.le,[.c (.int 4),.e 0]⟩,
 ⟨42,.or,[.e 39,.e 41]⟩,
 ⟨43,.and,[.e 11,.e 42]⟩,
 ⟨44,.and,[.e 11,.n 42]⟩,
 ⟨45,.pick .i,[.e 0,.c (.int 12),.c (.int 12),.c (.int 6),.c (.int 12)]⟩,
 ⟨46,.pick .i,[.e 0,.c (.int 0),.c (.int 7),.c (.int 0),.c (.int 0)]⟩,
 ⟨47,.pick .i,[.e 0,.c (.int 0),.c (.int 10),.c (.int 0),.c (.int 0)]⟩,
 ⟨48,.pick .b,[.e 0,.c (.bool true),.c (.bool true),.c (.bool true),.c (.bool false)]⟩,
 ⟨49,.pick .b,[.e 0,.c (.bool true),.c (.bool false),.c (.bool true),.c (.bool false)]⟩,
 ⟨50,.pick .b,[.e 0,.c (.bool false),.c (.bool false),.c (.bool false),.c (.bool true)]⟩,
 ⟨51,.ite .i,[.e 43,.c (.int 0),.e 45]⟩,
 ⟨52,.ite .i,[.e 43,.c (.int 0),.e 46]⟩,
 ⟨53,.ite .i,[.e 43,.c (.int 0),.e 47]⟩,
 ⟨54,.ite .b,[.e 43,.c (.bool false),.e 48]⟩]
def oE:List En:=[⟨55,.ite .b,[.e 43,.c (.bool false),.e 49]⟩,
 ⟨56,.ite .b,[.e 43,.c (.bool false),.e 50]⟩,
 ⟨57,.ite .i,[.e 43,.c (.int 3),.c (.int 0)]⟩,
 ⟨58,.or,[.e 43,.e 44]⟩,
 ⟨59,.ne,[.e 57,.c (.int 0)]⟩,
 ⟨60,.and,[.e 11,.e 59]⟩,
 ⟨61,.and,[.e 11,.n 59]⟩,
 ⟨62,.and,[.e 61,.e 55]⟩,
 ⟨63,.and,[.e 61,.n 55]⟩,
 ⟨64,.ite .i,[.e 55,.c (.int 40),.c (.int 0)]⟩,
 ⟨65,.o2 .min,[.e 37,.e 38]⟩,
 ⟨66,.le,[.c (.int 0),.e 65]⟩,
 ⟨67,.and,[.e 61,.e 66]⟩,
 ⟨68,.o2 .max,[.e 37,.e 38]⟩,
 ⟨69,.le,[.e 68,.e 64]⟩,
 ⟨70,.and,[.e 66,.e 69]⟩]
def oC:List En:=[⟨71,.and,[.e 61,.e 70]⟩,
 ⟨72,.and,[.e 61,.n 70]⟩,
 ⟨73,.ite .i,[.e 72,.c (.int 0),.e 0]⟩,
 ⟨74,.ite .i,[.e 72,.c (.int 0),.c (.int (-1))]⟩,
 ⟨75,.ite .i,[.e 72,.c (.int 0),.c (.int (-1))]⟩,
 ⟨76,.ite .i,[.e 72,.c (.int 0),.e 37]⟩,
 ⟨77,.ite .i,[.e 72,.c (.int 0),.e 38]⟩,
 ⟨78,.ite .i,[.e 72,.c (.int 0),.c (.int (-1))]⟩,
 ⟨79,.ite .i,[.e 72,.c (.int 0),.c (.int (-1))]⟩,
 ⟨80,.ite .i,[.e 72,.c (.int 2),.c (.int 0)]⟩,
 ⟨81,.or,[.e 72,.e 71]⟩,
 ⟨82,.ite .i,[.e 60,.c (.int 0),.e 73]⟩,
 ⟨83,.ite .i,[.e 60,.c (.int 0),.e 74]⟩,
 ⟨84,.ite .i,[.e 60,.c (.int 0),.e 75]⟩,
 ⟨85,.ite .i,[.e 60,.c (.int 0),.e 76]⟩,
 ⟨86,.ite .i,[.e 60,.c (.int 0),.e 77]⟩]
def oB:List En:=[⟨87,.ite .i,[.e 60,.c (.int 0),.e 78]⟩,
 ⟨88,.ite .i,[.e 60,.c (.int 0),.e 79]⟩,
 ⟨89,.ite .i,[.e 60,.e 57,.e 80]⟩,
 ⟨90,.or,[.e 60,.e 81]⟩,
 ⟨91,.ite .i,[.e 10,.c (.int 0),.e 82]⟩,
 ⟨92,.ite .i,[.e 10,.c (.int 0),.e 83]⟩,
 ⟨93,.ite .i,[.e 10,.c (.int 0),.e 84]⟩,
 ⟨94,.ite .i,[.e 10,.c (.int 0),.e 85]⟩,
 ⟨95,.ite .i,[.e 10,.c (.int 0),.e 86]⟩,
 ⟨96,.ite .i,[.e 10,.c (.int 0),.e 87]⟩,
 ⟨97,.ite .i,[.e 10,.c (.int 0),.e 88]⟩,
 ⟨98,.ite .i,[.e 10,.e 7,.e 37]⟩,
 ⟨99,.ite .i,[.e 10,.e 8,.e 38]⟩,
 ⟨100,.ite .i,[.e 10,.e 9,.e 89]⟩,
 ⟨101,.ite .i,[.e 10,.e 9,.e 30]⟩,
 ⟨102,.or,[.e 10,.e 11]⟩]
def me:List En:=oH++(nu++(oI++(oE++(oC++(oB)))))
def ph:List ObE:=[⟨some 44,.inr,[.e 0,.c (.int 4)]⟩,
 ⟨some 17,.inr,[.e 0,.c (.int 4)]⟩]
def oM:List Rf:=[.e 91,.c (.int 0),.c (.int 0),.e 92,.e 93,.c (.int 0),.c (.int 0),.c (.int 0),.c (.int 0),.c (.bool false),.c (.bool false),.c (.bool false),.c (.bool false),.c (.bool false),.c (.bool false),.c (.bool false),.c (.bool false),.e 94,.e 95,.c (.bool false),.c (.bool false),.c (.bool false),.c (.int 0),.c (.int 0),.e 96,.e 97,.e 100]
theorem pl:mC.sees oM (mC.run Try.prog [(28,jZ)] AW 3000 20 52)=some ((me).map En.be,ph.map ObE.be,[]):=by kernel_rfl
theorem pi {T:Tab}(hz1:(S T 1).size<=140737488355328)(hz4:(S T 4).size<=140737488355328)(A0:AH T me):
  ((I T 91)=(if jK (I T 0) (S T 1) (I T 2) (I T 3) (S T 4) (I T 5) (I T 6)=true then (I T 0) else 0))/\
  (0=((0:Int)))/\
  (0=((0:Int)))/\
  ((I T 92)=(if jK (I T 0) (S T 1) (I T 2) (I T 3) (S T 4) (I T 5) (I T 6)=true then -1 else 0))/\
  ((I T 93)=(if jK (I T 0) (S T 1) (I T 2) (I T 3) (S T 4) (I T 5) (I T 6)=true then -1 else 0))/\
  (0=((0:Int)))/\
  (0=((0:Int)))/\
  (0=((0:Int)))/\
  (0=((0:Int)))/\
  (false=(false))/\
  (false=(false))/\
  (false=(false))/\
  (false=(false))/\
  (false=(false))/\
  (false=(false))/\
  (false=(false))/\
  (false=(false))/\
  ((I T 94)=(if jk (I T 0) (S T 1) (I T 2) (I T 3) (S T 4) (I T 5) (I T 6)=true then (jJ (I T 3) (I T 6)) else 0))/\
  ((I T 95)=(if jk (I T 0) (S T 1) (I T 2) (I T 3) (S T 4) (I T 5) (I T 6)=true then (jJ (I T 6) (I T 3)) else 0))/\
  (false=(false))/\
  (false=(false))/\
  (false=(false))/\
  (0=((0:Int)))/\
  (0=((0:Int)))/\
  ((I T 96)=(if jK (I T 0) (S T 1) (I T 2) (I T 3) (S T 4) (I T 5) (I T 6)=true then -1 else 0))/\
  ((I T 97)=(if jK (I T 0) (S T 1) (I T 2) (I T 3) (S T 4) (I T 5) (I T 6)=true then -1 else 0))/\
  ((I T 100)=(mN (I T 0) (S T 1) (I T 2) (I T 3) (S T 4) (I T 5) (I T 6)))/\
  (B T 44=true->0<=I T 0/\I T 0 < 4)/\
  (B T 17=true->0<=I T 0/\I T 0 < 4):=by
 obtain⟨F0,A0⟩:=A0.cut;obtain⟨F1,A0⟩:=A0.cut;obtain⟨F2,A0⟩:=A0.cut;obtain⟨F3,A0⟩:=A0.cut;obtain⟨F4,A0⟩:=A0.cut;have F5:=A0;clear A0;have bg:((B T 10)=true↔¬Am ((S T 1)) (I T 2) (I T 3) ((S T 4)) (I T 5) (I T 6)=0)/\(Am ((S T 1)) (I T 2) (I T 3) ((S T 4)) (I T 5) (I T 6)=0->(0<=I T 0/\I T 0<=3)->B T 60=false/\B T 72=false/\I T 37=(if jL (I T 0)=true then jJ (I T 3) (I T 6) else 0)/\I T 38=(if jL (I T 0)=true then jJ (I T 6) (I T 3) else 0))/\(Am ((S T 1)) (I T 2) (I T 3) ((S T 4)) (I T 5) (I T 6)=0->¬(0<=I T 0/\I T 0<=3)->B T 60=true/\I T 57=3):=by
  obtain⟨e7,e8,e9,e10,e11,e12,-,e14,e15,e16,-,-,-,-,-,e22,-⟩:=F0;obtain⟨-,-,-,-,-,e28,-,e30,-,e32,-,e34,-,-,e37,e38,-⟩:=F1;obtain⟨e39,-,e41,e42,e43,-,-,-,-,-,e49,-⟩:=F2;obtain⟨e55,-,e57,-,e59,e60,-,-,-,e64,e65,e66,-,e68,e69,e70,-⟩:=F3;obtain⟨-,e72,-⟩:=F4;replace e7:I T 7=(if Am (S T 1) (I T 2) (I T 3) (S T 4) (I T 5) (I T 6)=0 then jJ (I T 3) (I T 6) else 0):=e7;replace e8:I T 8=(if Am (S T 1) (I T 2) (I T 3) (S T 4) (I T 5) (I T 6)=0 then jJ (I T 6) (I T 3) else 0):=e8;replace e9:I T 9=(Am (S T 1) (I T 2) (I T 3) (S T 4) (I T 5) (I T 6)):=e9;simp only[AI,AP,zN,zC,zR,Nk,Nw,and_false,or_false,LW,zL,zS] at e10 e11 e12 e14 e15 e16 e22 e28 e30 e32 e34 e37 e38 e39 e41 e42 e43 e49 e55 e57 e59 e60 e64 e65 e66 e68 e69 e70 e72;have k10:(B T 10)=true↔¬Am ((S T 1)) (I T 2) (I T 3) ((S T 4)) (I T 5) (I T 6)=0:=by rw[e10,e9]
  refine⟨k10,fun hp hc=>?_,fun hp hc=>?_⟩
  .have n10:(B T 10)=false:=by simpa using fun h=>(k10.1 h) hp
   have h11:=e11.2 n10;have n15:¬B T 15=true:=by rw[e15,e12,e14];omega
   have n42:¬B T 42=true:=by rw[e42,e39,e41];omega
   have n16:(B T 16)=false:=by simpa using fun h=>n15 (e16.1 h).2
   have n43:(B T 43)=false:=by simpa using fun h=>n42 (e43.1 h).2
   have x30:(I T 30)=0:=by rw[e30,n16];rfl
   have x57:(I T 57)=0:=by rw[e57,n43];rfl
   have n32:¬B T 32=true:=fun h=>e32.1 h x30;have n59:¬B T 59=true:=fun h=>e59.1 h x57;have n60:(B T 60)=false:=by simpa using fun h=>n59 (e60.1 h).2
   have k22:(B T 22)=true↔jL (I T 0)=true:=by rw[e22,jN];omega
   have k49:(B T 49)=true↔jL (I T 0)=true:=by rw[e49,jN];omega
   have k28:(B T 28)=true↔jL (I T 0)=true:=by rw[e28,n16,k22];simp
   have k55:(B T 55)=true↔jL (I T 0)=true:=by rw[e55,n43,k49];simp
   refine⟨n60,?_⟩;by_cases hb:jL (I T 0)=true
   .have h28:=k28.2 hb;have n34:¬B T 34=true:=by
     rw[e34];rintro (h|h)
     .exact n32 h
     .rw[h28] at h;cases h
    have x37:(I T 37)=jJ (I T 3) (I T 6):=by rw[e37,if_neg n34,e7,if_pos hp]
    have x38:(I T 38)=jJ (I T 6) (I T 3):=by rw[e38,if_neg n34,e8,if_pos hp]
    have x64:(I T 64)=40:=by rw[e64,if_pos (k55.2 hb)]
    have a1:=mH (I T 3) (I T 6);have a2:=mH (I T 6) (I T 3);have h66:(B T 66)=true:=by rw[e66,e65,x37,x38];split<;>omega
    have h69:(B T 69)=true:=by rw[e69,e68,x37,x38,x64];split<;>omega
    have h70:=e70.2 ⟨h66,h69⟩;have n72:(B T 72)=false:=Bool.eq_false_iff.2 fun h=>by have:=(e72.1 h).2;rw[h70] at this;cases this
    exact⟨n72,by rw[if_pos hb];exact x37,by rw[if_pos hb];exact x38⟩
   .have n28:(B T 28)=false:=by simpa using fun h=>hb (k28.1 h)
    have h34:=e34.2 (.inr n28);have x37:(I T 37)=0:=by rw[e37,if_pos h34]
    have x38:(I T 38)=0:=by rw[e38,if_pos h34]
    have x64:(I T 64)=0:=by rw[e64,if_neg (fun h=>hb (k55.1 h))]
    have h66:(B T 66)=true:=by rw[e66,e65,x37,x38];decide
    have h69:(B T 69)=true:=by rw[e69,e68,x37,x38,x64];decide
    have h70:=e70.2 ⟨h66,h69⟩;have n72:(B T 72)=false:=Bool.eq_false_iff.2 fun h=>by have:=(e72.1 h).2;rw[h70] at this;cases this
    exact⟨n72,by rw[if_neg hb];exact x37,by rw[if_neg hb];exact x38⟩
  .have n10:(B T 10)=false:=by simpa using fun h=>(k10.1 h) hp
   have h42:(B T 42)=true:=by rw[e42,e39,e41];omega
   have h43:=e43.2 ⟨e11.2 n10,h42⟩;have x57:(I T 57)=3:=by rw[e57,if_pos h43]
   exact⟨e60.2 ⟨e11.2 n10,e59.2 (by omega)⟩,x57⟩
 refine⟨?_,?_,?_,?_,?_,?_,?_,?_,?_,?_,?_,?_,?_,?_,?_,?_,?_,?_,?_,?_,?_,?_,?_,?_,?_,?_,?_,?_,?_⟩
 .obtain⟨-,-,e73,-,-,-,-,-,-,-,-,e82,-⟩:=F4;obtain⟨-,-,-,-,e91,-⟩:=F5;simp only[AI,AP,zR,zL,zS] at e73 e82 e91;obtain⟨k10,kA,kB⟩:=bg;by_cases hp:Am ((S T 1)) (I T 2) (I T 3) ((S T 4)) (I T 5) (I T 6)=0
  .have n10:¬B T 10=true:=fun h=>k10.1 h hp;by_cases hc:(0<=I T 0/\I T 0<=3)
   .obtain⟨n60,n72,x37,x38⟩:=kA hp hc;rw[e91,if_neg n10,e82,if_neg (by simp[n60]),e73,if_neg (by simp[n72]),if_pos (jI.2 ⟨hp,hc⟩)]
   .obtain⟨h60,x57⟩:=kB hp hc;rw[e91,if_neg n10,e82,if_pos h60,if_neg (fun h=>hc (jI.1 h).2)]
  .rw[e91,if_pos (k10.2 hp),if_neg (fun h=>hp (jI.1 h).1)]
 .first|(rfl)|(grind (splits:=100))
 .first|(rfl)|(grind (splits:=100))
 .obtain⟨-,-,-,e74,-,-,-,-,-,-,-,-,e83,-⟩:=F4;obtain⟨-,-,-,-,-,e92,-⟩:=F5;simp only[AI,AP,zR,zL,zS] at e74 e83 e92;obtain⟨k10,kA,kB⟩:=bg;by_cases hp:Am ((S T 1)) (I T 2) (I T 3) ((S T 4)) (I T 5) (I T 6)=0
  .have n10:¬B T 10=true:=fun h=>k10.1 h hp;by_cases hc:(0<=I T 0/\I T 0<=3)
   .obtain⟨n60,n72,x37,x38⟩:=kA hp hc;rw[e92,if_neg n10,e83,if_neg (by simp[n60]),e74,if_neg (by simp[n72]),if_pos (jI.2 ⟨hp,hc⟩)]
   .obtain⟨h60,x57⟩:=kB hp hc;rw[e92,if_neg n10,e83,if_pos h60,if_neg (fun h=>hc (jI.1 h).2)]
  .rw[e92,if_pos (k10.2 hp),if_neg (fun h=>hp (jI.1 h).1)]
 .obtain⟨-,-,-,-,e75,-,-,-,-,-,-,-,-,e84,-⟩:=F4;obtain⟨-,-,-,-,-,-,e93,-⟩:=F5;simp only[AI,AP,zR,zL,zS] at e75 e84 e93;obtain⟨k10,kA,kB⟩:=bg;by_cases hp:Am ((S T 1)) (I T 2) (I T 3) ((S T 4)) (I T 5) (I T 6)=0
  .have n10:¬B T 10=true:=fun h=>k10.1 h hp;by_cases hc:(0<=I T 0/\I T 0<=3)
   .obtain⟨n60,n72,x37,x38⟩:=kA hp hc;rw[e93,if_neg n10,e84,if_neg (by simp[n60]),e75,if_neg (by simp[n72]),if_pos (jI.2 ⟨hp,hc⟩)]
   .obtain⟨h60,x57⟩:=kB hp hc;rw[e93,if_neg n10,e84,if_pos h60,if_neg (fun h=>hc (jI.1 h).2)]
  .rw[e93,if_pos (k10.2 hp),if_neg (fun h=>hp (jI.1 h).1)]
 .first|(rfl)|(grind (splits:=100))
 .first|(rfl)|(grind (splits:=100))
 .first|(rfl)|(grind (splits:=100))
 .first|(rfl)|(grind (splits:=100))
 .first|(rfl)|(refine jO ?_;grind (splits:=100))
 .first|(rfl)|(refine jO ?_;grind (splits:=100))
 .first|(rfl)|(refine jO ?_;grind (splits:=100))
 .first|(rfl)|(refine jO ?_;grind (splits:=100))
 .first|(rfl)|(refine jO ?_;grind (splits:=100))
 .first|(rfl)|(refine jO ?_;grind (splits:=100))
 .first|(rfl)|(refine jO ?_;grind (splits:=100))
 .first|(rfl)|(refine jO ?_;grind (splits:=100))
 .obtain⟨-,-,-,-,-,e76,-,-,-,-,-,-,-,-,e85,-⟩:=F4;obtain⟨-,-,-,-,-,-,-,e94,-⟩:=F5;simp only[AI,AP,zR,zL,zS] at e76 e85 e94;obtain⟨k10,kA,kB⟩:=bg;by_cases hp:Am ((S T 1)) (I T 2) (I T 3) ((S T 4)) (I T 5) (I T 6)=0
  .have n10:¬B T 10=true:=fun h=>k10.1 h hp;by_cases hc:(0<=I T 0/\I T 0<=3)
   .obtain⟨n60,n72,x37,x38⟩:=kA hp hc;rw[e94,if_neg n10,e85,if_neg (by simp[n60]),e76,if_neg (by simp[n72])];rw[x37];by_cases hb:jL (I T 0)=true
    .rw[if_pos hb,if_pos (jM.2 ⟨⟨hp,hc⟩,jN.1 hb⟩)]
    .rw[if_neg hb,if_neg (fun h=>hb (jN.2 (jM.1 h).2))]
   .obtain⟨h60,x57⟩:=kB hp hc;rw[e94,if_neg n10,e85,if_pos h60,if_neg (fun h=>hc (jM.1 h).1.2)]
  .rw[e94,if_pos (k10.2 hp),if_neg (fun h=>hp (jM.1 h).1.1)]
 .obtain⟨-,-,-,-,-,-,e77,-,-,-,-,-,-,-,-,e86,-⟩:=F4;obtain⟨-,-,-,-,-,-,-,-,e95,-⟩:=F5;simp only[AI,AP,zR,zL,zS] at e77 e86 e95;obtain⟨k10,kA,kB⟩:=bg;by_cases hp:Am ((S T 1)) (I T 2) (I T 3) ((S T 4)) (I T 5) (I T 6)=0
  .have n10:¬B T 10=true:=fun h=>k10.1 h hp;by_cases hc:(0<=I T 0/\I T 0<=3)
   .obtain⟨n60,n72,x37,x38⟩:=kA hp hc;rw[e95,if_neg n10,e86,if_neg (by simp[n60]),e77,if_neg (by simp[n72])];rw[x38];by_cases hb:jL (I T 0)=true
    .rw[if_pos hb,if_pos (jM.2 ⟨⟨hp,hc⟩,jN.1 hb⟩)]
    .rw[if_neg hb,if_neg (fun h=>hb (jN.2 (jM.1 h).2))]
   .obtain⟨h60,x57⟩:=kB hp hc;rw[e95,if_neg n10,e86,if_pos h60,if_neg (fun h=>hc (jM.1 h).1.2)]
  .rw[e95,if_pos (k10.2 hp),if_neg (fun h=>hp (jM.1 h).1.1)]
 .first|(rfl)|(refine jO ?_;grind (splits:=100))
 .first|(rfl)|(refine jO ?_;grind (splits:=100))
 .first|(rfl)|(refine jO ?_;grind (splits:=100))
 .first|(rfl)|(grind (splits:=100))
 .first|(rfl)|(grind (splits:=100))
 .obtain⟨-,-,-,-,-,-,-,e78,-⟩:=F4;obtain⟨e87,-,-,-,-,-,-,-,-,e96,-⟩:=F5;simp only[AI,AP,zR,zL,zS] at e78 e87 e96;obtain⟨k10,kA,kB⟩:=bg;by_cases hp:Am ((S T 1)) (I T 2) (I T 3) ((S T 4)) (I T 5) (I T 6)=0
  .have n10:¬B T 10=true:=fun h=>k10.1 h hp;by_cases hc:(0<=I T 0/\I T 0<=3)
   .obtain⟨n60,n72,x37,x38⟩:=kA hp hc;rw[e96,if_neg n10,e87,if_neg (by simp[n60]),e78,if_neg (by simp[n72]),if_pos (jI.2 ⟨hp,hc⟩)]
   .obtain⟨h60,x57⟩:=kB hp hc;rw[e96,if_neg n10,e87,if_pos h60,if_neg (fun h=>hc (jI.1 h).2)]
  .rw[e96,if_pos (k10.2 hp),if_neg (fun h=>hp (jI.1 h).1)]
 .obtain⟨-,-,-,-,-,-,-,-,e79,-⟩:=F4;obtain⟨-,e88,-,-,-,-,-,-,-,-,e97,-⟩:=F5;simp only[AI,AP,zR,zL,zS] at e79 e88 e97;obtain⟨k10,kA,kB⟩:=bg;by_cases hp:Am ((S T 1)) (I T 2) (I T 3) ((S T 4)) (I T 5) (I T 6)=0
  .have n10:¬B T 10=true:=fun h=>k10.1 h hp;by_cases hc:(0<=I T 0/\I T 0<=3)
   .obtain⟨n60,n72,x37,x38⟩:=kA hp hc;rw[e97,if_neg n10,e88,if_neg (by simp[n60]),e79,if_neg (by simp[n72]),if_pos (jI.2 ⟨hp,hc⟩)]
   .obtain⟨h60,x57⟩:=kB hp hc;rw[e97,if_neg n10,e88,if_pos h60,if_neg (fun h=>hc (jI.1 h).2)]
  .rw[e97,if_pos (k10.2 hp),if_neg (fun h=>hp (jI.1 h).1)]
 .obtain⟨-,-,e9,-⟩:=F0;obtain⟨-,-,-,-,-,-,-,-,-,e80,-⟩:=F4;obtain⟨-,-,e89,-,-,-,-,-,-,-,-,-,-,e100,-⟩:=F5;replace e9:I T 9=(Am (S T 1) (I T 2) (I T 3) (S T 4) (I T 5) (I T 6)):=e9;simp only[AI,AP,zR,zL,zS] at e80 e89 e100;obtain⟨k10,kA,kB⟩:=bg;unfold mN;by_cases hp:Am ((S T 1)) (I T 2) (I T 3) ((S T 4)) (I T 5) (I T 6)=0
  .have n10:¬B T 10=true:=fun h=>k10.1 h hp;rw[if_pos hp];by_cases hc:(0<=I T 0/\I T 0<=3)
   .obtain⟨n60,n72,x37,x38⟩:=kA hp hc;rw[e100,if_neg n10,e89,if_neg (by simp[n60]),e80,if_neg (by simp[n72]),if_pos (kM.2 hc)]
   .obtain⟨h60,x57⟩:=kB hp hc;rw[e100,if_neg n10,e89,if_pos h60,if_neg (fun h=>hc (kM.1 h)),x57]
  .rw[e100,if_pos (k10.2 hp),if_neg hp,e9]
 .obtain⟨e39,-,e41,e42,-,e44,-⟩:=F2;simp only[AI,AP,zN,zR] at e39 e41 e42 e44;intro h;have:=(e44.1 h).2;have n42:¬B T 42=true:=by rw[this];simp
  rw[e42,e39,e41] at n42;omega
 .obtain⟨-,-,-,-,-,e12,-,e14,e15,-,e17,-⟩:=F0;simp only[AI,AP,zN,zR] at e12 e14 e15 e17;intro h;have:=(e17.1 h).2;have n15:¬B T 15=true:=by rw[this];simp
  rw[e15,e12,e14] at n15;omega
theorem pN:Ae Try.prog 52 mC:=by
 refine BH (l:=[(28,jZ)]) Bh (by simp only[List.forall_mem_cons];exact⟨mg,fun _ h=>absurd h (by simp)⟩) pl (by kernel_rfl) fun T us hpre hT hul hS hBd hE=>?_;change us.length=7 at hul;obtain⟨-,hz1,-,-,hz4,-⟩:=hBd;replace hz1:(S T 1).size<=140737488355328:=hz1;replace hz4:(S T 4).size<=140737488355328:=hz4;have ha0:aI us 0=I T 0:=inI hT hul (by decide);have ha1:aS us 1=S T 1:=inS hT hul (by decide);have ha2:aI us 2=I T 2:=inI hT hul (by decide);have ha3:aI us 3=I T 3:=inI hT hul (by decide);have ha4:aS us 4=S T 4:=inS hT hul (by decide);have ha5:aI us 5=I T 5:=inI hT hul (by decide);have ha6:aI us 6=I T 6:=inI hT hul (by decide);clear hpre
 skip
 obtain⟨A0,hO⟩:=BG (tys:=[.i,.i,.i,.i,.i,.i,.i,.i,.i,.b,.b,.b,.b,.b,.b,.b,.b,.i,.i,.b,.b,.b,.i,.i,.i,.i,.i]) (rs:=oM) hS (by kernel_rfl) hE;obtain⟨q0,q1,q2,q3,q4,q5,q6,q7,q8,q9,q10,q11,q12,q13,q14,q15,q16,q17,q18,q19,q20,q21,q22,q23,q24,q25,q26,r0,r1⟩:=pi hz1 hz4 A0;refine⟨⟨r0,r1,trivial⟩,hO.trans ?_⟩;exact (lc (by show U.int (I T 91)= .int (lw us);unfold lw;rw[ha0,ha1,ha2,ha3,ha4,ha5,ha6];exact congrArg U.int q0) (lc (by show U.int 0= .int (lv us);unfold lv;exact congrArg U.int q1) (lc (by show U.int 0= .int (ln us);unfold ln;exact congrArg U.int q2) (lc (by show U.int (I T 92)= .int (l9 us);unfold l9;rw[ha0,ha1,ha2,ha3,ha4,ha5,ha6];exact congrArg U.int q3) (lc (by show U.int (I T 93)= .int (l8 us);unfold l8;rw[ha0,ha1,ha2,ha3,ha4,ha5,ha6];exact congrArg U.int q4) (lc (by show U.int 0= .int (l6 us);unfold l6;exact congrArg U.int q5) (lc (by show U.int 0= .int (lf us);unfold lf;exact congrArg U.int q6) (lc (by show U.int 0= .int (ly us);unfold ly;exact congrArg U.int q7) (lc (by show U.int 0= .int (lz us);unfold lz;exact congrArg U.int q8) (lc (by show U.bool false= .bool (mA us);unfold mA;exact congrArg U.bool q9) (lc (by show U.bool false= .bool (kX us);unfold kX;exact congrArg U.bool q10) (lc (by show U.bool false= .bool (lK us);unfold lK;exact congrArg U.bool q11) (lc (by show U.bool false= .bool (kR us);unfold kR;exact congrArg U.bool q12) (lc (by show U.bool false= .bool (lI us);unfold lI;exact congrArg U.bool q13) (lc (by show U.bool false= .bool (lA us);unfold lA;exact congrArg U.bool q14) (lc (by show U.bool false= .bool (kY us);unfold kY;exact congrArg U.bool q15) (lc (by show U.bool false= .bool (lY us);unfold lY;exact congrArg U.bool q16) (lc (by show U.int (I T 94)= .int (kZ us);unfold kZ;rw[ha0,ha1,ha2,ha3,ha4,ha5,ha6];exact congrArg U.int q17) (lc (by show U.int (I T 95)= .int (lO us);unfold lO;rw[ha0,ha1,ha2,ha3,ha4,ha5,ha6];exact congrArg U.int q18) (lc (by show U.bool false= .bool (lJ us);unfold lJ;exact congrArg U.bool q19) (lc (by show U.bool false= .bool (kh us);unfold kh;exact congrArg U.bool q20) (lc (by show U.bool false= .bool (lF us);unfold lF;exact congrArg U.bool q21) (lc (by show U.int 0= .int (kU us);unfold kU;exact congrArg U.int q22) (lc (by show U.int 0= .int (lH us);unfold lH;exact congrArg U.int q23) (lc (by show U.int (I T 96)= .int (lX us);unfold lX;rw[ha0,ha1,ha2,ha3,ha4,ha5,ha6];exact congrArg U.int q24) (lc (by show U.int (I T 97)= .int (kV us);unfold kV;rw[ha0,ha1,ha2,ha3,ha4,ha5,ha6];exact congrArg U.int q25) (lc (by show U.int (I T 100)= .int (kS us);unfold kS;rw[ha0,ha1,ha2,ha3,ha4,ha5,ha6];exact congrArg U.int q26) rfl)))))))))))))))))))))))))))
end
end Go.Eng
end
