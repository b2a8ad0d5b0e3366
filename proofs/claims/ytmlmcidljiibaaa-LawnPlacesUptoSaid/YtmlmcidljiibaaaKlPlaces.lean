/-
  A part of the proof: K_lPlacesd K_lPlaces.
-/
import Derived.Test.YtmlmcidljiibaaaXQlPlaces
import Derived.Test.YtmlmcidljiibaaaE3
import Derived.Test.YtmlmcidljiibaaaE4
import Derived.Test.YtmlmcidljiibaaaKgreat
import Derived.Test.YtmlmcidljiibaaaKworks
import Derived.Test.YtmlmcidljiibaaaKqposts
import Derived.Test.YtmlmcidljiibaaaKqrposts
import Derived.Test.YtmlmcidljiibaaaKqon
import Derived.Test.YtmlmcidljiibaaaKqron
import Derived.Test.YtmlmcidljiibaaaKcellat
import Derived.Test.YtmlmcidljiibaaaKrcellat
import Derived.Test.YtmlmcidljiibaaaKqspot
import Derived.Test.YtmlmcidljiibaaaKqrspot
import Derived.Test.YtmlmcidljiibaaaKqplace
import Derived.Test.YtmlmcidljiibaaaKqrplace
import Derived.Test.YtmlmcidljiibaaaKqnumber
import Derived.Test.YtmlmcidljiibaaaKqrnumber
import Derived.Test.YtmlmcidljiibaaaKqbaulk
import Derived.Test.YtmlmcidljiibaaaKqrbaulk
set_option linter.unusedVariables false
set_option linter.unusedSimpArgs false
noncomputable section
open Go Go.Eng Go.Proofs
set_option maxHeartbeats 4000000
set_option maxRecDepth 100000
namespace Go.Eng
def ly:List Kd:=[.str,k64,k64,k64,.list [k64,k64,k64,k64,.bool],k64,k64,k64,k64,k64,.list [k64,k64,k64],k64,k64,k64]
def ni:List AC:=((HI Try.prog 9 Try.f11.params.toList 0).map (·.1)).getD []
def lL:List Rf:=[.e 0,.e 1,.e 2,.e 3,.e 4,.e 5,.e 6,.e 7,.e 8,.e 9,.e 10]
def lJ:List Rf:=[.e 0,.e 1,.e 2,.e 3,.e 4,.e 5,.e 6,.e 7,.e 8,.e 9,.e 10,.e 11,.e 12]
def lU:List Rf:=[.e 0,.e 1,.e 2,.e 3,.e 4,.e 5,.e 6,.e 7,.e 8,.e 9,.e 10,.e 13]
def oH:List En:=[⟨14,.outB "great.0" JV,lL⟩,
 ⟨15,.outB "works.0" HN,[]⟩,
 ⟨16,.not,[.e 14]⟩,
 ⟨17,.outL "qposts.0" mm,lL⟩,
 ⟨18,.outI "qposts.1" mr,lL⟩,
 ⟨19,.outL "qrposts.0" mK,lL⟩,
 ⟨20,.outI "qrposts.1" mH,lL⟩,
 ⟨21,.ne,[.e 18,.e 20]⟩,
 ⟨22,.and,[.e 16,.n 21]⟩,
 ⟨23,.len,[.e 17]⟩,
 ⟨24,.len,[.e 19]⟩,
 ⟨25,.ne,[.e 23,.e 24]⟩,
 ⟨26,.or,[.e 21,.e 25]⟩,
 ⟨27,.and,[.e 16,.e 26]⟩,
 ⟨28,.and,[.e 16,.n 26]⟩]
def lr:List En:=oH
def oA:List En:=[⟨30,.len,[.e 17]⟩,
 ⟨31,.lt,[.e 29,.e 30]⟩,
 ⟨32,.and,[.e 28,.e 31]⟩,
 ⟨33,.and,[.e 28,.n 31]⟩,
 ⟨34,.get .i 0,[.e 17,.e 29]⟩,
 ⟨35,.get .i 1,[.e 17,.e 29]⟩,
 ⟨36,.get .i 2,[.e 17,.e 29]⟩,
 ⟨37,.get .i 0,[.e 19,.e 29]⟩,
 ⟨38,.get .i 1,[.e 19,.e 29]⟩,
 ⟨39,.get .i 2,[.e 19,.e 29]⟩,
 ⟨40,.nes [.i,.i,.i],[.e 34,.e 37,.e 35,.e 38,.e 36,.e 39]⟩,
 ⟨41,.and,[.e 32,.e 40]⟩,
 ⟨42,.and,[.e 32,.n 40]⟩,
 ⟨43,.w2 .i64 .add,[.e 29,.c (.int 1)]⟩]
def lg:List En:=oA
def nS:List ObE:=[⟨some 32,.inl,[.e 29,.e 19]⟩,⟨some 32,.inl,[.e 29,.e 17]⟩]
def lv:Ae:=mkD 29 1 lg 42 [.e 43] nS [19,17,28]
def mL:List Rf:=[.e 19,.e 17,.e 28,.c (.int 0)]
def n9:List En:=[⟨44,.outB "qon.0" nP,lJ⟩,
 ⟨45,.outI "qon.1" nN,lJ⟩,
 ⟨46,.outB "qron.0" nK,lJ⟩,
 ⟨47,.outI "qron.1" nJ,lJ⟩,
 ⟨48,.outI "cellat.0" ml,lJ⟩,
 ⟨49,.outI "cellat.1" mv,lJ⟩,
 ⟨50,.outI "cellat.2" mg,lJ⟩,
 ⟨51,.outI "cellat.3" mi,lJ⟩,
 ⟨52,.outI "rcellat.0" mM,lJ⟩,
 ⟨53,.outI "rcellat.1" mQ,lJ⟩,
 ⟨54,.outI "rcellat.2" mO,lJ⟩,
 ⟨55,.outI "rcellat.3" mI,lJ⟩,
 ⟨56,.outI "qspot.0" nF,lJ⟩,
 ⟨57,.outI "qspot.1" nE,lJ⟩,
 ⟨58,.outB "qspot.2" nD,lJ⟩,
 ⟨59,.outI "qspot.3" nC,lJ⟩]
def oK:List En:=[⟨60,.outI "qrspot.0" mj,lJ⟩,
 ⟨61,.outI "qrspot.1" mc,lJ⟩,
 ⟨62,.outB "qrspot.2" mn,lJ⟩,
 ⟨63,.outI "qrspot.3" mw,lJ⟩,
 ⟨64,.neb,[.e 44,.e 46]⟩,
 ⟨65,.and,[.e 33,.n 64]⟩,
 ⟨66,.nes [.i,.i,.i],[.e 48,.e 52,.e 49,.e 53,.e 50,.e 54]⟩,
 ⟨67,.or,[.e 64,.e 66]⟩,
 ⟨68,.and,[.e 33,.n 67]⟩,
 ⟨69,.nes [.i,.i],[.e 56,.e 60,.e 57,.e 61]⟩,
 ⟨70,.or,[.e 67,.e 69]⟩,
 ⟨71,.and,[.e 33,.n 70]⟩,
 ⟨72,.neb,[.e 58,.e 62]⟩,
 ⟨73,.or,[.e 70,.e 72]⟩,
 ⟨74,.and,[.e 33,.n 73]⟩,
 ⟨75,.ne,[.e 45,.e 47]⟩]
def oF:List En:=[⟨76,.or,[.e 73,.e 75]⟩,
 ⟨77,.and,[.e 33,.n 76]⟩,
 ⟨78,.ne,[.e 51,.e 55]⟩,
 ⟨79,.or,[.e 76,.e 78]⟩,
 ⟨80,.and,[.e 33,.n 79]⟩,
 ⟨81,.ne,[.e 59,.e 63]⟩,
 ⟨82,.or,[.e 79,.e 81]⟩,
 ⟨83,.and,[.e 33,.e 82]⟩,
 ⟨84,.and,[.e 33,.n 82]⟩,
 ⟨85,.outI "qplace.0" mp,lU⟩,
 ⟨86,.outI "qplace.1" mq,lU⟩,
 ⟨87,.outI "qplace.2" mZ,lU⟩,
 ⟨88,.outI "qrplace.0" mG,lU⟩,
 ⟨89,.outI "qrplace.1" mB,lU⟩,
 ⟨90,.outI "qrplace.2" mF,lU⟩,
 ⟨91,.outI "qnumber.0" mA,lJ⟩]
def oB:List En:=[⟨92,.outI "qnumber.1" mP,lJ⟩,
 ⟨93,.outI "qrnumber.0" l6,lJ⟩,
 ⟨94,.outI "qrnumber.1" l8,lJ⟩,
 ⟨95,.outI "qbaulk.0" me,lJ⟩,
 ⟨96,.outI "qbaulk.1" mf,lJ⟩,
 ⟨97,.outI "qrbaulk.0" mC,lJ⟩,
 ⟨98,.outI "qrbaulk.1" mD,lJ⟩,
 ⟨99,.eqs [.i,.i],[.e 85,.e 88,.e 86,.e 89]⟩,
 ⟨100,.and,[.e 84,.e 99]⟩,
 ⟨101,.eq,[.e 91,.e 93]⟩,
 ⟨102,.and,[.e 99,.e 101]⟩,
 ⟨103,.and,[.e 84,.e 102]⟩,
 ⟨104,.eq,[.e 95,.e 97]⟩,
 ⟨105,.and,[.e 102,.e 104]⟩,
 ⟨106,.and,[.e 84,.e 105]⟩,
 ⟨107,.eq,[.e 87,.e 90]⟩]
def n6:List En:=[⟨108,.and,[.e 105,.e 107]⟩,
 ⟨109,.and,[.e 84,.e 108]⟩,
 ⟨110,.eq,[.e 92,.e 94]⟩,
 ⟨111,.and,[.e 108,.e 110]⟩,
 ⟨112,.and,[.e 84,.e 111]⟩,
 ⟨113,.eq,[.e 96,.e 98]⟩,
 ⟨114,.and,[.e 111,.e 113]⟩,
 ⟨115,.and,[.e 84,.e 114]⟩,
 ⟨116,.outB "works.0" HN,[]⟩,
 ⟨117,.and,[.e 114,.e 116]⟩,
 ⟨118,.ite .i,[.e 83,.e 51,.e 92]⟩,
 ⟨119,.ite .i,[.e 83,.e 63,.e 98]⟩,
 ⟨120,.ite .i,[.e 83,.e 55,.e 94]⟩,
 ⟨121,.ite .i,[.e 83,.e 45,.e 87]⟩,
 ⟨122,.ite .i,[.e 83,.e 59,.e 96]⟩,
 ⟨123,.ite .b,[.e 83,.c (.bool false),.e 117]⟩]
def n8:List En:=[⟨124,.ite .i,[.e 83,.e 47,.e 90]⟩,
 ⟨125,.or,[.e 83,.e 84]⟩,
 ⟨126,.ite .i,[.e 41,.e 18,.e 121]⟩,
 ⟨127,.ite .b,[.e 41,.c (.bool false),.e 123]⟩,
 ⟨128,.ite .i,[.e 41,.e 20,.e 124]⟩,
 ⟨129,.or,[.e 41,.e 125]⟩,
 ⟨130,.ite .i,[.e 27,.e 18,.e 126]⟩,
 ⟨131,.ite .b,[.e 27,.c (.bool false),.e 127]⟩,
 ⟨132,.ite .i,[.e 27,.e 20,.e 128]⟩,
 ⟨133,.or,[.e 27,.e 129]⟩,
 ⟨134,.ite .b,[.e 14,.e 15,.e 131]⟩,
 ⟨135,.or,[.e 14,.e 133]⟩]
def nG:List En:=n9++(oK++(oF++(oB++(n6++(n8)))))
def nn:List ObE:=[⟨some 28,.owes lv,[.e 19,.e 17,.e 28,.c (.int 0)]⟩]
def pf:List Rf:=[.e 134]
theorem pe:WP 14 (YW Try.prog [(12,J6),(13,KO),(40,m7),(41,mX),(42,nj),(43,nM),(44,m8),(45,mU),(33,nI),(46,nB),(38,nA),(47,mS),(34,mW),(48,l7),(49,my),(50,mV)] Ah 3000 20 11 ni 14)=some (134,(lr++((BJ lv [.i] mL)++(lg++(nG)))).map En.be,nn.map ObE.be):=by kernel_rfl
theorem oc {T:Tab}(hz0:(S T 0).size≤140737488355328)(hl4:(L T 4).length≤140737488355328)(hl10:(L T 10).length≤140737488355328)(g:Ln)(hg:g=Ln.mk (S T 0) (I T 1) (I T 2) (I T 3) (L T 4) (I T 5) (I T 6) (I T 7) (I T 8) (I T 9) (L T 10))(hb4:(L T 4).length≤1048576)(hb10:(L T 10).length≤1048576)(g1:Ln)(z1:g1=Ln.mk (S T 0) (I T 1) (I T 2) (I T 3) (L T 4) (I T 5) (I T 6) (I T 7) (I T 8) (I T 9) (L T 10))(A0:AJ T lr):
  (g1=g)∧((L T 17)=lS g1)∧((L T 17)=L T 19)∧(((L T 17)).length≤140737488355328):=by
 have F0:=A0;clear A0
 have hg1:g1=g:=by
  rw[z1,hg]
 have hr17:(L T 17)=lS g1:=by
  obtain⟨-,-,-,e17,-⟩:=F0
  replace e17:L T 17=(lS g1):=by rw[←show gAt 0 (lL.map (Rf.eval T))=g1 from z1.symm];exact e17
  exact e17
 have hlen:(L T 17)=L T 19:=by
  obtain⟨-,-,-,e17,-,e19,-⟩:=F0
  replace e17:L T 17=(lS g1):=by rw[←show gAt 0 (lL.map (Rf.eval T))=g1 from z1.symm];exact e17
  replace e19:L T 19=(lS g1):=by rw[←show gAt 0 (lL.map (Rf.eval T))=g1 from z1.symm];exact e19
  rw[e17,e19]
 have hl17:((L T 17)).length≤140737488355328:=by
  obtain⟨-,-,-,e17,-⟩:=F0
  replace e17:L T 17=(lS g1):=by rw[←show gAt 0 (lL.map (Rf.eval T))=g1 from z1.symm];exact e17
  rw[e17]
  unfold lS
  split
  ·rename_i h
   have:=(CP h).2.2.2.1
   rw[show (BC g1).length=2*g1.hoops.length+1 from JR]
   omega
  ·exact Nat.zero_le _
 exact⟨hg1,hr17,hlen,hl17⟩
theorem oq {T:Tab}(hlen:(L T 17)=L T 19)(hl17:((L T 17)).length≤140737488355328)(hS:AL T ([(17,.r 0),(17,.r 1),(17,.r 2),(19,.r 0),(19,.r 1),(19,.r 2)]++Al (BT 0 ly) lr))(hB:Ag T (lg.map En.be))(hH:Ag T ((BJ lv [.i] mL).map En.be)):
  (lv).owes (mL.map (Rf.eval T))∧AL T (hds 29 [.i])∧(0≤I T 29∧I T 29≤((L T 17)).length)∧¬B T 42=true:=by
 refine Bl (nh:=29) (k:=1) (pcn:=42) (top:=44) (bes:=lg) (bos:=nS) (nxt:=[.e 43]) (inits:=[.c (.int 0)]) (fv:=[19,17,28]) (tys:=[.i]) (by kernel_rfl) rfl rfl rfl rfl hS (by kernel_rfl) (by kernel_rfl) hB (BK hH) (fun s=>0≤(aI s 0)∧(aI s 0)≤((L T 17)).length) (fun s=>(((L T 17)).length - (aI s 0)).toNat) ?_ ?_
 ·show 0≤(0:Int)∧(0:Int)≤((L T 17)).length
  clear hS hB hH
  exact⟨by omega,by omega⟩
 ·intro T2 hfv hF inv
  replace inv:0≤I T2 29∧I T2 29≤((L T 17)).length:=inv
  clear hS hB hH
  replace hF:AJ T2 lg:=hF
  have F0:=hF;clear hF
  have fv19:L T2 19=L T 19:=fvL (hfv 19 (by decide))
  have fv17:L T2 17=L T 17:=fvL (hfv 17 (by decide))
  have fv28:B T2 28=B T 28:=fvB (hfv 28 (by decide))
  clear hfv
  suffices hz:(B T2 32=true→0≤I T2 29∧I T2 29 < ((L T2 19)).length)∧(B T2 32=true→0≤I T2 29∧I T2 29 < ((L T2 17)).length)∧(B T2 42=true→(0≤I T2 43∧I T2 43≤((L T 17)).length))∧(B T2 42=true→(((L T 17)).length - (I T2 43)).toNat < (((L T 17)).length - (I T2 29)).toNat) from
   let⟨r0,r1,nx,mz⟩:=hz;⟨⟨r0,r1,trivial⟩,fun hp=>⟨nx hp,mz hp⟩⟩
  refine⟨?_,?_,?_,?_⟩
  ·obtain⟨e30,e31,e32,-⟩:=F0
   simp only[AE,AF,zR,zL] at e30 e31 e32
   obtain⟨v1,v2⟩:=inv
   intro hp
   have h:=e31.1 (e32.1 hp).2
   rw[e30,fv17] at h
   try rw[fv17]
   try rw[fv19,←hlen]
   omega
  ·obtain⟨e30,e31,e32,-⟩:=F0
   simp only[AE,AF,zR,zL] at e30 e31 e32
   obtain⟨v1,v2⟩:=inv
   intro hp
   have h:=e31.1 (e32.1 hp).2
   rw[e30,fv17] at h
   try rw[fv17]
   try rw[fv19,←hlen]
   omega
  ·obtain⟨e30,e31,e32,-,e34,e35,e36,e37,e38,e39,e40,-,e42,e43,-⟩:=F0
   simp only[AE,AF,zN,zR,Bb,and_true,w2P,zL] at*
   obtain⟨v1,v2⟩:=inv
   intro hp
   have hq:=e42.1 hp
   have h:=e31.1 (e32.1 hq.1).2
   rw[e30,fv17] at h
   have e:(I T2 43)=I T2 29+1:=e43 (by omega) (by omega)
   exact⟨by omega,by omega⟩
  ·obtain⟨e30,e31,e32,-,e34,e35,e36,e37,e38,e39,e40,-,e42,e43,-⟩:=F0
   simp only[AE,AF,zN,zR,Bb,and_true,w2P,zL] at*
   obtain⟨v1,v2⟩:=inv
   intro hp
   have hq:=e42.1 hp
   have h:=e31.1 (e32.1 hq.1).2
   rw[e30,fv17] at h
   have e:(I T2 43)=I T2 29+1:=e43 (by omega) (by omega)
   omega
theorem pE {T:Tab}(hz0:(S T 0).size≤140737488355328)(hl4:(L T 4).length≤140737488355328)(hl10:(L T 10).length≤140737488355328)(g:Ln)(hg:g=Ln.mk (S T 0) (I T 1) (I T 2) (I T 3) (L T 4) (I T 5) (I T 6) (I T 7) (I T 8) (I T 9) (L T 10))(hb4:(L T 4).length≤1048576)(hb10:(L T 10).length≤1048576)(g1:Ln)(z1:g1=Ln.mk (S T 0) (I T 1) (I T 2) (I T 3) (L T 4) (I T 5) (I T 6) (I T 7) (I T 8) (I T 9) (L T 10))(hg1:g1=g)(hr17:(L T 17)=lS g1)(hlen:(L T 17)=L T 19)(hl17:((L T 17)).length≤140737488355328)(inv0:0≤I T 29∧I T 29≤((L T 17)).length)(np0:¬B T 42=true)(g2:Ln)(z2:g2=Ln.mk (S T 0) (I T 1) (I T 2) (I T 3) (L T 4) (I T 5) (I T 6) (I T 7) (I T 8) (I T 9) (L T 10))(g3:Ln)(z3:g3=Ln.mk (S T 0) (I T 1) (I T 2) (I T 3) (L T 4) (I T 5) (I T 6) (I T 7) (I T 8) (I T 9) (L T 10))(A0:AJ T lr)(B0:AJ T lg)(A1:AJ T nG):
  ((B T 134)=(true)):=by
 have F0:=A0;clear A0
 have F1:=B0;clear B0
 obtain⟨F2,A1⟩:=A1.cut
 obtain⟨F3,A1⟩:=A1.cut
 obtain⟨F4,A1⟩:=A1.cut
 obtain⟨F5,A1⟩:=A1.cut
 obtain⟨F6,A1⟩:=A1.cut
 have F7:=A1;clear A1
 have h40:(B T 40)=false:=by
  obtain⟨-,-,-,e17,-,e19,-⟩:=F0
  obtain⟨-,-,-,-,e34,e35,e36,e37,e38,e39,e40,-⟩:=F1
  replace e17:L T 17=(lS g1):=by rw[←show gAt 0 (lL.map (Rf.eval T))=g1 from z1.symm];exact e17
  replace e19:L T 19=(lS g1):=by rw[←show gAt 0 (lL.map (Rf.eval T))=g1 from z1.symm];exact e19
  simp only[AE,AF,zR,Bb,and_true,zL] at*
  cases k:(B T 40) with
  |false=>rfl
  |true=>
   exfalso
   refine e40.1 k ⟨?_,?_,?_⟩
   ·rw[e34,e37,hlen]
   ·rw[e35,e38,hlen]
   ·rw[e36,e39,hlen]
 have h41:(B T 41)=false∧B T 27=false∧B T 82=false:=by
  obtain⟨e14,-,e16,e17,e18,e19,e20,e21,-,e23,e24,e25,e26,e27,e28,-⟩:=F0
  obtain⟨e30,e31,e32,-,e34,e35,e36,e37,e38,e39,e40,e41,-⟩:=F1
  obtain⟨e44,e45,e46,e47,e48,e49,e50,e51,e52,e53,e54,e55,e56,e57,e58,e59,-⟩:=F2
  obtain⟨e60,e61,e62,e63,e64,-,e66,e67,-,e69,e70,-,e72,e73,-,e75,-⟩:=F3
  obtain⟨e76,-,e78,e79,-,e81,e82,-⟩:=F4
  replace e14:B T 14=(Ld g1):=by rw[←show gAt 0 (lL.map (Rf.eval T))=g1 from z1.symm];exact e14
  replace e17:L T 17=(lS g1):=by rw[←show gAt 0 (lL.map (Rf.eval T))=g1 from z1.symm];exact e17
  replace e18:I T 18=(AT g1):=by rw[←show gAt 0 (lL.map (Rf.eval T))=g1 from z1.symm];exact e18
  replace e19:L T 19=(lS g1):=by rw[←show gAt 0 (lL.map (Rf.eval T))=g1 from z1.symm];exact e19
  replace e20:I T 20=(AT g1):=by rw[←show gAt 0 (lL.map (Rf.eval T))=g1 from z1.symm];exact e20
  replace e44:B T 44=(onR g2 (I T 11) (I T 12)):=by rw[←show gAt 0 (lJ.map (Rf.eval T))=g2 from z2.symm];exact e44
  replace e45:I T 45=(A6 g2 (I T 11) (I T 12)):=by rw[←show gAt 0 (lJ.map (Rf.eval T))=g2 from z2.symm];exact e45
  replace e46:B T 46=(onR g2 (I T 11) (I T 12)):=by rw[←show gAt 0 (lJ.map (Rf.eval T))=g2 from z2.symm];exact e46
  replace e47:I T 47=(A6 g2 (I T 11) (I T 12)):=by rw[←show gAt 0 (lJ.map (Rf.eval T))=g2 from z2.symm];exact e47
  replace e48:I T 48=(lP g2 (I T 11) (I T 12) 0):=by rw[←show gAt 0 (lJ.map (Rf.eval T))=g2 from z2.symm];exact e48
  replace e49:I T 49=(lP g2 (I T 11) (I T 12) 1):=by rw[←show gAt 0 (lJ.map (Rf.eval T))=g2 from z2.symm];exact e49
  replace e50:I T 50=(lP g2 (I T 11) (I T 12) 2):=by rw[←show gAt 0 (lJ.map (Rf.eval T))=g2 from z2.symm];exact e50
  replace e51:I T 51=(lf g2 (I T 11) (I T 12)):=by rw[←show gAt 0 (lJ.map (Rf.eval T))=g2 from z2.symm];exact e51
  replace e52:I T 52=(lP g2 (I T 11) (I T 12) 0):=by rw[←show gAt 0 (lJ.map (Rf.eval T))=g2 from z2.symm];exact e52
  replace e53:I T 53=(lP g2 (I T 11) (I T 12) 1):=by rw[←show gAt 0 (lJ.map (Rf.eval T))=g2 from z2.symm];exact e53
  replace e54:I T 54=(lP g2 (I T 11) (I T 12) 2):=by rw[←show gAt 0 (lJ.map (Rf.eval T))=g2 from z2.symm];exact e54
  replace e55:I T 55=(lf g2 (I T 11) (I T 12)):=by rw[←show gAt 0 (lJ.map (Rf.eval T))=g2 from z2.symm];exact e55
  replace e56:I T 56=(mJ g2 (I T 11) (I T 12)):=by rw[←show gAt 0 (lJ.map (Rf.eval T))=g2 from z2.symm];exact e56
  replace e57:I T 57=(mN g2 (I T 11) (I T 12)):=by rw[←show gAt 0 (lJ.map (Rf.eval T))=g2 from z2.symm];exact e57
  replace e58:B T 58=(mE g2 (I T 11) (I T 12)):=by rw[←show gAt 0 (lJ.map (Rf.eval T))=g2 from z2.symm];exact e58
  replace e59:I T 59=(A6 g2 (I T 11) (I T 12)):=by rw[←show gAt 0 (lJ.map (Rf.eval T))=g2 from z2.symm];exact e59
  replace e60:I T 60=(mJ g2 (I T 11) (I T 12)):=by rw[←show gAt 0 (lJ.map (Rf.eval T))=g2 from z2.symm];exact e60
  replace e61:I T 61=(mN g2 (I T 11) (I T 12)):=by rw[←show gAt 0 (lJ.map (Rf.eval T))=g2 from z2.symm];exact e61
  replace e62:B T 62=(mE g2 (I T 11) (I T 12)):=by rw[←show gAt 0 (lJ.map (Rf.eval T))=g2 from z2.symm];exact e62
  replace e63:I T 63=(A6 g2 (I T 11) (I T 12)):=by rw[←show gAt 0 (lJ.map (Rf.eval T))=g2 from z2.symm];exact e63
  simp only[AE,AF,zN,zR,Bb,and_true,zL] at*
  refine⟨?_,?_,?_⟩
  ·cases k:(B T 41) with
   |false=>rfl
   |true=>have:=(e41.1 k).2;simp[h40] at this
  ·cases k:(B T 27) with
   |false=>rfl
   |true=>
    exfalso
    rcases e26.1 (e27.1 k).2 with h|h
    ·exact e21.1 h (by rw[e18,e20])
    ·exact e25.1 h (by rw[e23,e24,hlen])
  ·cases k:(B T 82) with
   |false=>rfl
   |true=>
    exfalso
    have h64:¬B T 64=true:=fun h=>e64.1 h (by rw[e44,e46])
    have h66:¬B T 66=true:=fun h=>e66.1 h ⟨by rw[e48,e52],by rw[e49,e53],by rw[e50,e54]⟩
    have h69:¬B T 69=true:=fun h=>e69.1 h ⟨by rw[e56,e60],by rw[e57,e61]⟩
    have h72:¬B T 72=true:=fun h=>e72.1 h (by rw[e58,e62])
    have h75:¬B T 75=true:=fun h=>e75.1 h (by rw[e45,e47])
    have h78:¬B T 78=true:=fun h=>e78.1 h (by rw[e51,e55])
    have h81:¬B T 81=true:=fun h=>e81.1 h (by rw[e59,e63])
    have h79:=(e82.1 k).resolve_right h81
    have h76:=(e79.1 h79).resolve_right h78
    have h73:=(e76.1 h76).resolve_right h75
    have h70:=(e73.1 h73).resolve_right h72
    have h67:=(e70.1 h70).resolve_right h69
    exact ((e67.1 h67).resolve_right h66) |> h64
 ·obtain⟨e14,e15,e16,e17,e18,e19,e20,e21,-,e23,e24,e25,e26,e27,e28,-⟩:=F0
  obtain⟨e30,e31,e32,e33,e34,e35,e36,e37,e38,e39,e40,e41,e42,-⟩:=F1
  obtain⟨e44,e45,e46,e47,e48,e49,e50,e51,e52,e53,e54,e55,e56,e57,e58,e59,-⟩:=F2
  obtain⟨e60,e61,e62,e63,e64,-,e66,e67,-,e69,e70,-,e72,e73,-,e75,-⟩:=F3
  obtain⟨e76,-,e78,e79,-,e81,e82,e83,-,e85,e86,e87,e88,e89,e90,e91,-⟩:=F4
  obtain⟨e92,e93,e94,e95,e96,e97,e98,e99,-,e101,e102,-,e104,e105,-,e107,-⟩:=F5
  obtain⟨e108,-,e110,e111,-,e113,e114,-,e116,e117,-,-,-,-,-,e123,-⟩:=F6
  obtain⟨-,-,-,e127,-,-,-,e131,-,-,e134,-⟩:=F7
  replace e14:B T 14=(Ld g1):=by rw[←show gAt 0 (lL.map (Rf.eval T))=g1 from z1.symm];exact e14
  replace e15:B T 15=(true):=e15
  replace e17:L T 17=(lS g1):=by rw[←show gAt 0 (lL.map (Rf.eval T))=g1 from z1.symm];exact e17
  replace e18:I T 18=(AT g1):=by rw[←show gAt 0 (lL.map (Rf.eval T))=g1 from z1.symm];exact e18
  replace e19:L T 19=(lS g1):=by rw[←show gAt 0 (lL.map (Rf.eval T))=g1 from z1.symm];exact e19
  replace e20:I T 20=(AT g1):=by rw[←show gAt 0 (lL.map (Rf.eval T))=g1 from z1.symm];exact e20
  replace e44:B T 44=(onR g2 (I T 11) (I T 12)):=by rw[←show gAt 0 (lJ.map (Rf.eval T))=g2 from z2.symm];exact e44
  replace e45:I T 45=(A6 g2 (I T 11) (I T 12)):=by rw[←show gAt 0 (lJ.map (Rf.eval T))=g2 from z2.symm];exact e45
  replace e46:B T 46=(onR g2 (I T 11) (I T 12)):=by rw[←show gAt 0 (lJ.map (Rf.eval T))=g2 from z2.symm];exact e46
  replace e47:I T 47=(A6 g2 (I T 11) (I T 12)):=by rw[←show gAt 0 (lJ.map (Rf.eval T))=g2 from z2.symm];exact e47
  replace e48:I T 48=(lP g2 (I T 11) (I T 12) 0):=by rw[←show gAt 0 (lJ.map (Rf.eval T))=g2 from z2.symm];exact e48
  replace e49:I T 49=(lP g2 (I T 11) (I T 12) 1):=by rw[←show gAt 0 (lJ.map (Rf.eval T))=g2 from z2.symm];exact e49
  replace e50:I T 50=(lP g2 (I T 11) (I T 12) 2):=by rw[←show gAt 0 (lJ.map (Rf.eval T))=g2 from z2.symm];exact e50
  replace e51:I T 51=(lf g2 (I T 11) (I T 12)):=by rw[←show gAt 0 (lJ.map (Rf.eval T))=g2 from z2.symm];exact e51
  replace e52:I T 52=(lP g2 (I T 11) (I T 12) 0):=by rw[←show gAt 0 (lJ.map (Rf.eval T))=g2 from z2.symm];exact e52
  replace e53:I T 53=(lP g2 (I T 11) (I T 12) 1):=by rw[←show gAt 0 (lJ.map (Rf.eval T))=g2 from z2.symm];exact e53
  replace e54:I T 54=(lP g2 (I T 11) (I T 12) 2):=by rw[←show gAt 0 (lJ.map (Rf.eval T))=g2 from z2.symm];exact e54
  replace e55:I T 55=(lf g2 (I T 11) (I T 12)):=by rw[←show gAt 0 (lJ.map (Rf.eval T))=g2 from z2.symm];exact e55
  replace e56:I T 56=(mJ g2 (I T 11) (I T 12)):=by rw[←show gAt 0 (lJ.map (Rf.eval T))=g2 from z2.symm];exact e56
  replace e57:I T 57=(mN g2 (I T 11) (I T 12)):=by rw[←show gAt 0 (lJ.map (Rf.eval T))=g2 from z2.symm];exact e57
  replace e58:B T 58=(mE g2 (I T 11) (I T 12)):=by rw[←show gAt 0 (lJ.map (Rf.eval T))=g2 from z2.symm];exact e58
  replace e59:I T 59=(A6 g2 (I T 11) (I T 12)):=by rw[←show gAt 0 (lJ.map (Rf.eval T))=g2 from z2.symm];exact e59
  replace e60:I T 60=(mJ g2 (I T 11) (I T 12)):=by rw[←show gAt 0 (lJ.map (Rf.eval T))=g2 from z2.symm];exact e60
  replace e61:I T 61=(mN g2 (I T 11) (I T 12)):=by rw[←show gAt 0 (lJ.map (Rf.eval T))=g2 from z2.symm];exact e61
  replace e62:B T 62=(mE g2 (I T 11) (I T 12)):=by rw[←show gAt 0 (lJ.map (Rf.eval T))=g2 from z2.symm];exact e62
  replace e63:I T 63=(A6 g2 (I T 11) (I T 12)):=by rw[←show gAt 0 (lJ.map (Rf.eval T))=g2 from z2.symm];exact e63
  replace e85:I T 85=(mT g3 (I T 13)):=by rw[←show gAt 0 (lU.map (Rf.eval T))=g3 from z3.symm];exact e85
  replace e86:I T 86=(mR g3 (I T 13)):=by rw[←show gAt 0 (lU.map (Rf.eval T))=g3 from z3.symm];exact e86
  replace e87:I T 87=(ln g3 (I T 13)):=by rw[←show gAt 0 (lU.map (Rf.eval T))=g3 from z3.symm];exact e87
  replace e88:I T 88=(mT g3 (I T 13)):=by rw[←show gAt 0 (lU.map (Rf.eval T))=g3 from z3.symm];exact e88
  replace e89:I T 89=(mR g3 (I T 13)):=by rw[←show gAt 0 (lU.map (Rf.eval T))=g3 from z3.symm];exact e89
  replace e90:I T 90=(ln g3 (I T 13)):=by rw[←show gAt 0 (lU.map (Rf.eval T))=g3 from z3.symm];exact e90
  replace e91:I T 91=(lz g2 (I T 11) (I T 12)):=by rw[←show gAt 0 (lJ.map (Rf.eval T))=g2 from z2.symm];exact e91
  replace e92:I T 92=(lw g2 (I T 11) (I T 12)):=by rw[←show gAt 0 (lJ.map (Rf.eval T))=g2 from z2.symm];exact e92
  replace e93:I T 93=(lz g2 (I T 11) (I T 12)):=by rw[←show gAt 0 (lJ.map (Rf.eval T))=g2 from z2.symm];exact e93
  replace e94:I T 94=(lw g2 (I T 11) (I T 12)):=by rw[←show gAt 0 (lJ.map (Rf.eval T))=g2 from z2.symm];exact e94
  replace e95:I T 95=(mY g2 (I T 11) (I T 12)):=by rw[←show gAt 0 (lJ.map (Rf.eval T))=g2 from z2.symm];exact e95
  replace e96:I T 96=(A6 g2 (I T 11) (I T 12)):=by rw[←show gAt 0 (lJ.map (Rf.eval T))=g2 from z2.symm];exact e96
  replace e97:I T 97=(mY g2 (I T 11) (I T 12)):=by rw[←show gAt 0 (lJ.map (Rf.eval T))=g2 from z2.symm];exact e97
  replace e98:I T 98=(A6 g2 (I T 11) (I T 12)):=by rw[←show gAt 0 (lJ.map (Rf.eval T))=g2 from z2.symm];exact e98
  replace e116:B T 116=(true):=e116
  simp only[AE,AF,zN,zC,zR,Bb,and_true,zL] at*
  rw[e134]
  by_cases h:(B T 14)=true
  ·exact .inl ⟨h,e15⟩
  ·refine .inr ⟨by simpa using h,?_⟩
   have n27:¬B T 27=true:=by simp[h41.2.1]
   have n41:¬B T 41=true:=by simp[h41.1]
   have n83:¬B T 83=true:=fun k=>by have:=(e83.1 k).2;simp[h41.2.2] at this
   have h117:(B T 117)=true:=by
    refine e117.2 ⟨e114.2 ⟨e111.2 ⟨e108.2 ⟨e105.2 ⟨e102.2 ⟨e99.2 ⟨?_,?_⟩,e101.2 ?_⟩,e104.2 ?_⟩,e107.2 ?_⟩,e110.2 ?_⟩,e113.2 ?_⟩,e116⟩
    ·rw[e85,e88]
    ·rw[e86,e89]
    ·rw[e91,e93]
    ·rw[e95,e97]
    ·rw[e87,e90]
    ·rw[e92,e94]
    ·rw[e96,e98]
   clear hlen hl17 h40 h41 hg1
   grind
theorem oV:HI Try.prog 9 Try.f11.params.toList 0=some (ni,ly):=by kernel_rfl
theorem oh:∀p∈([(12,J6),(13,KO),(40,m7),(41,mX),(42,nj),(43,nM),(44,m8),(45,mU),(33,nI),(46,nB),(38,nA),(47,mS),(34,mW),(48,l7),(49,my),(50,mV)]:List (FuncId × Ak)),Aq Try.prog p.1 p.2:=by simp only[List.forall_mem_cons];exact⟨aa,av,pN,o8,qN,qI,pG,o7,ph,pQ,pF,oy,oz,ol,pH,o6,fun _ h=>absurd h (by simp)⟩
theorem o9:∀T:Tab,AL T (BT 0 ly)→Bnd T 0 ly→TW 1048576 T 0 ly→Ag T ((lr++((BJ lv [.i] mL)++(lg++(nG)))).map En.be)→Nj T nn∧B T 134=true:=by
 intro T hS hBd hBl hE
 obtain⟨hz0,-,-,-,⟨hl4,he4⟩,-,-,-,-,-,⟨hl10,he10⟩,-⟩:=hBd
 replace hz0:(S T 0).size≤140737488355328:=hz0
 replace hl4:(L T 4).length≤140737488355328:=hl4
 replace hl10:(L T 10).length≤140737488355328:=hl10
 obtain⟨g,hg⟩:∃g:Ln,g=Ln.mk (S T 0) (I T 1) (I T 2) (I T 3) (L T 4) (I T 5) (I T 6) (I T 7) (I T 8) (I T 9) (L T 10):=⟨_,rfl⟩
 obtain⟨hb4,hb10,-⟩:=hBl
 replace hb4:(L T 4).length≤1048576:=hb4
 replace hb10:(L T 10).length≤1048576:=hb10
 rw[List.map_append,List.map_append,List.map_append] at hE
 have hA:=hE.left
 replace hE:=hE.right
 have hH:=hE.left
 replace hE:=hE.right
 have hB:=hE.left
 replace hE:=hE.right
 obtain⟨A0,hS1⟩:=Ac hS (by kernel_rfl) hA
 obtain⟨g1,z1⟩:∃g:Ln,g=Ln.mk (S T 0) (I T 1) (I T 2) (I T 3) (L T 4) (I T 5) (I T 6) (I T 7) (I T 8) (I T 9) (L T 10):=⟨_,rfl⟩
 obtain⟨hg1,hr17,hlen,hl17⟩:=oc hz0 hl4 hl10 g hg hb4 hb10 g1 z1 A0
 replace hS1:AL T ([(17,.r 0),(17,.r 1),(17,.r 2),(19,.r 0),(19,.r 1),(19,.r 2)]++Al (BT 0 ly) lr):=⟨lu hr17 (by decide),lu hr17 (by decide),lu hr17 (by decide),lu (hlen▸hr17) (by decide),lu (hlen▸hr17) (by decide),lu (hlen▸hr17) (by decide),hS1⟩
 obtain⟨ow0,hS2,inv0,np0⟩:=oq hlen hl17 hS1 hB hH
 have hF2:=(Ac (hS2.append hS1) (l:=lg) (by kernel_rfl) hB)
 obtain⟨B0,hS⟩:=hF2
 clear hA hB hH hS1 hS2
 obtain⟨A1,hO⟩:=Ar (tys:=[.b]) (rs:=pf) hS (by kernel_rfl) hE
 obtain⟨g2,z2⟩:∃g:Ln,g=Ln.mk (S T 0) (I T 1) (I T 2) (I T 3) (L T 4) (I T 5) (I T 6) (I T 7) (I T 8) (I T 9) (L T 10):=⟨_,rfl⟩
 obtain⟨g3,z3⟩:∃g:Ln,g=Ln.mk (S T 0) (I T 1) (I T 2) (I T 3) (L T 4) (I T 5) (I T 6) (I T 7) (I T 8) (I T 9) (L T 10):=⟨_,rfl⟩
 have q0:=pE hz0 hl4 hl10 g hg hb4 hb10 g1 z1 hg1 hr17 hlen hl17 inv0 np0 g2 z2 g3 z3 A0 B0 A1
 exact⟨⟨(fun _=>ow0),trivial⟩,q0⟩
end Go.Eng
end
