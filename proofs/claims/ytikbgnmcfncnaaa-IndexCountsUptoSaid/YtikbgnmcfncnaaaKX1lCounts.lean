/-
  A part of the proof: the evaluator of code and its soundness.
-/
import Derived.Test.YtikbgnmcfncnaaaXQlCounts
import Derived.Test.YtikbgnmcfncnaaaE4
import Derived.Test.YtikbgnmcfncnaaaE5
import Derived.Test.YtikbgnmcfncnaaaKX0lCounts
import Derived.Test.YtikbgnmcfncnaaaKB0
import Derived.Test.YtikbgnmcfncnaaaKB3
set_option linter.unusedVariables false
set_option linter.unusedSimpArgs false
noncomputable section
namespace Go.Eng
section
open Go Go.Eng Go.Proofs
set_option maxHeartbeats 4000000
set_option maxRecDepth 100000
def lL:List U->Int:=fun us=>(if jK (aI us 0) (aS us 1) (aI us 2) (aI us 3) (aS us 4) (aI us 5) (aI us 6)=true then (aI us 0) else 0)
def km:List U->Int:=fun us=>((0:Int))
def kq:List U->Int:=fun us=>((0:Int))
def lW:List U->Int:=fun us=>(if jK (aI us 0) (aS us 1) (aI us 2) (aI us 3) (aS us 4) (aI us 5) (aI us 6)=true then -1 else 0)
def lZ:List U->Int:=fun us=>(if jK (aI us 0) (aS us 1) (aI us 2) (aI us 3) (aS us 4) (aI us 5) (aI us 6)=true then -1 else 0)
def ko:List U->Int:=fun us=>((0:Int))
def lU:List U->Int:=fun us=>((0:Int))
def lG:List U->Int:=fun us=>((0:Int))
def lB:List U->Int:=fun us=>((0:Int))
def lV:List U->Bool:=fun us=>(false)
def jq:List U->Bool:=fun us=>(false)
def j6:List U->Bool:=fun us=>(false)
def kI:List U->Bool:=fun us=>(false)
def kE:List U->Bool:=fun us=>(false)
def jt:List U->Bool:=fun us=>(false)
def jr:List U->Bool:=fun us=>(false)
def kD:List U->Bool:=fun us=>(false)
def j8:List U->Int:=fun us=>(if jk (aI us 0) (aS us 1) (aI us 2) (aI us 3) (aS us 4) (aI us 5) (aI us 6)=true then (jJ (aI us 3) (aI us 6)) else 0)
def j5:List U->Int:=fun us=>(if jk (aI us 0) (aS us 1) (aI us 2) (aI us 3) (aS us 4) (aI us 5) (aI us 6)=true then (jJ (aI us 6) (aI us 3)) else 0)
def ju:List U->Bool:=fun us=>(false)
def kG:List U->Bool:=fun us=>(false)
def kH:List U->Bool:=fun us=>(false)
def jv:List U->Int:=fun us=>((0:Int))
def jx:List U->Int:=fun us=>((0:Int))
def kF:List U->Int:=fun us=>(if jK (aI us 0) (aS us 1) (aI us 2) (aI us 3) (aS us 4) (aI us 5) (aI us 6)=true then -1 else 0)
def j9:List U->Int:=fun us=>(if jK (aI us 0) (aS us 1) (aI us 2) (aI us 3) (aS us 4) (aI us 5) (aI us 6)=true then -1 else 0)
def js:List U->Int:=fun us=>(mN (aI us 0) (aS us 1) (aI us 2) (aI us 3) (aS us 4) (aI us 5) (aI us 6))
def jY:AV:={ sh:=[.one (k64),.agg [.str,k64,k64],.agg [.str,k64,k64]],blks:=[],outs:=[(.s "rBegin.0",Bl lL),(.s "rBegin.1",Bl km),(.s "rBegin.2",Bl kq),(.s "rBegin.3",Bl lW),(.s "rBegin.4",Bl lZ),(.s "rBegin.5",Bl ko),(.s "rBegin.6",Bl lU),(.s "rBegin.7",Bl lG),(.s "rBegin.8",Bl lB),(.s "rBegin.9",LP lV),(.s "rBegin.10",LP jq),(.s "rBegin.11",LP j6),(.s "rBegin.12",LP kI),(.s "rBegin.13",LP kE),(.s "rBegin.14",LP jt),(.s "rBegin.15",LP jr),(.s "rBegin.16",LP kD),(.s "rBegin.17",Bl j8),(.s "rBegin.18",Bl j5),(.s "rBegin.19",LP ju),(.s "rBegin.20",LP kG),(.s "rBegin.21",LP kH),(.s "rBegin.22",Bl jv),(.s "rBegin.23",Bl jx),(.s "rBegin.24",Bl kF),(.s "rBegin.25",Bl j9),(.s "rBegin.26",Bl js)],c:= .tup [.agg [(C4 7),(C4 8),(C4 9),(C4 10),(C4 11),(C4 12),(C4 13),(C4 14),(C4 15),.b 16,.b 17,.b 18,.b 19,.b 20,.b 21,.b 22,.b 23,(C4 24),(C4 25),.b 26,.b 27,.b 28,(C4 29),(C4 30),(C4 31),(C4 32)],(C4 33)],m':=[],pre:=[] }
def nQ:List En:=[⟨7,.outI "two.0" jW,[.e 1,.e 2,.e 3,.e 4,.e 5,.e 6]⟩,
 ⟨8,.ne,[.e 7,.c (.int 0)]⟩,
 ⟨9,.outI "two.0" jW,[.e 1,.e 2,.e 3,.e 4,.e 5,.e 6]⟩,
 ⟨10,.not,[.e 8]⟩,
 ⟨11,.lt,[.e 0,.c (.int 0)]⟩,
 ⟨12,.and,[.e 10,.n 11]⟩,
 ⟨13,.le,[.c (.int 4),.e 0]⟩,
 ⟨14,.or,[.e 11,.e 13]⟩,
 ⟨15,.and,[.e 10,.e 14]⟩,
 ⟨16,.and,[.e 10,.n 14]⟩]
def jV:List En:=nQ
def nN:List En:=[⟨18,.lt,[.e 17,.c (.int 2)]⟩,
 ⟨19,.and,[.e 16,.e 18]⟩,
 ⟨20,.and,[.e 16,.n 18]⟩,
 ⟨21,.pick .i,[.e 17,.c (.int 0),.c (.int 0)]⟩,
 ⟨22,.pick .i,[.e 17,.c (.int 0),.c (.int 0)]⟩,
 ⟨23,.pick .i,[.e 17,.c (.int 0),.c (.int 0)]⟩,
 ⟨24,.w2 .i64 .add,[.e 17,.c (.int 1)]⟩]
def jP:List En:=nN
def mT:List ObE:=[⟨some 19,.inr,[.e 17,.c (.int 2)]⟩,⟨some 19,.inr,[.e 17,.c (.int 2)]⟩,⟨some 19,.inr,[.e 17,.c (.int 2)]⟩]
def kQ:Ag:=mkD 17 1 jP 19 [.e 24] mT [16]
def mG:List Rf:=[.e 16,.c (.int 0)]
def nJ:List En:=[⟨25,.ite .i,[.e 15,.c (.int 0),.e 0]⟩,
 ⟨26,.ite .i,[.e 15,.c (.int 0),.c (.int (-1))]⟩,
 ⟨27,.ite .i,[.e 15,.c (.int 0),.c (.int (-1))]⟩,
 ⟨28,.ite .i,[.e 15,.c (.int 0),.c (.int (-1))]⟩,
 ⟨29,.ite .i,[.e 15,.c (.int 0),.c (.int (-1))]⟩,
 ⟨30,.ite .i,[.e 15,.c (.int 3),.c (.int 0)]⟩,
 ⟨31,.or,[.e 15,.e 16]⟩,
 ⟨32,.ne,[.e 30,.c (.int 0)]⟩,
 ⟨33,.and,[.e 10,.e 32]⟩,
 ⟨34,.and,[.e 10,.n 32]⟩,
 ⟨35,.w2 .i64 .sub,[.e 3,.e 6]⟩,
 ⟨36,.o2 .max,[.c (.int 0),.e 35]⟩,
 ⟨37,.o2 .min,[.c (.int 40),.e 36]⟩,
 ⟨38,.w2 .i64 .sub,[.e 6,.e 3]⟩,
 ⟨39,.o2 .max,[.c (.int 0),.e 38]⟩,
 ⟨40,.o2 .min,[.c (.int 40),.e 39]⟩]
def nc:List En:=[⟨41,.lt,[.e 0,.c (.int 0)]⟩,
 ⟨42,.and,[.e 34,.n 41]⟩,
 ⟨43,.le,[.c (.int 4),.e 0]⟩,
 ⟨44,.or,[.e 41,.e 43]⟩,
 ⟨45,.and,[.e 34,.e 44]⟩,
 ⟨46,.and,[.e 34,.n 44]⟩]
def ki:List En:=nJ++(nc)
def ng:List En:=[⟨48,.lt,[.e 47,.c (.int 2)]⟩,
 ⟨49,.and,[.e 46,.e 48]⟩,
 ⟨50,.and,[.e 46,.n 48]⟩,
 ⟨51,.pick .i,[.e 47,.e 37,.e 40]⟩,
 ⟨52,.pick .i,[.e 47,.e 37,.e 40]⟩,
 ⟨53,.pick .i,[.e 47,.e 37,.e 40]⟩,
 ⟨54,.lt,[.c (.int 0),.e 53]⟩,
 ⟨55,.and,[.e 49,.e 54]⟩,
 ⟨56,.eq,[.e 0,.c (.int 1)]⟩,
 ⟨57,.and,[.e 55,.e 56]⟩,
 ⟨58,.and,[.e 55,.n 56]⟩,
 ⟨59,.eq,[.e 0,.c (.int 2)]⟩,
 ⟨60,.and,[.e 58,.e 59]⟩,
 ⟨61,.and,[.e 58,.n 59]⟩,
 ⟨62,.eq,[.e 0,.c (.int 3)]⟩,
 ⟨63,.and,[.e 61,.e 62]⟩]
def nq:List En:=[⟨64,.and,[.e 61,.n 62]⟩,
 ⟨65,.ite .i,[.e 59,.c (.int 6),.c (.int 12)]⟩,
 ⟨66,.ite .b,[.e 59,.c (.bool true),.c (.bool false)]⟩,
 ⟨67,.ite .b,[.e 59,.c (.bool true),.c (.bool false)]⟩,
 ⟨68,.ite .b,[.e 59,.c (.bool false),.c (.bool true)]⟩,
 ⟨69,.or,[.e 60,.e 63]⟩,
 ⟨70,.ite .i,[.e 56,.c (.int 12),.e 65]⟩,
 ⟨71,.ite .i,[.e 56,.c (.int 7),.c (.int 0)]⟩,
 ⟨72,.ite .i,[.e 56,.c (.int 10),.c (.int 0)]⟩,
 ⟨73,.ite .b,[.e 56,.c (.bool true),.e 66]⟩,
 ⟨74,.ite .b,[.e 56,.c (.bool false),.e 67]⟩,
 ⟨75,.ite .b,[.e 56,.c (.bool false),.e 68]⟩,
 ⟨76,.or,[.e 57,.e 69]⟩,
 ⟨77,.ite .i,[.e 76,.e 70,.c (.int 12)]⟩,
 ⟨78,.ite .i,[.e 76,.e 71,.c (.int 0)]⟩,
 ⟨79,.ite .i,[.e 76,.e 72,.c (.int 0)]⟩]
def cn:List En:=[⟨80,.ite .b,[.e 76,.e 73,.c (.bool true)]⟩,
 ⟨81,.ite .b,[.e 76,.e 74,.c (.bool true)]⟩,
 ⟨82,.ite .b,[.e 76,.e 75,.c (.bool false)]⟩,
 ⟨83,.or,[.e 76,.e 64]⟩,
 ⟨84,.and,[.e 54,.n 81]⟩,
 ⟨85,.and,[.e 49,.e 84]⟩,
 ⟨86,.and,[.e 49,.n 84]⟩,
 ⟨87,.w2 .i64 .add,[.e 47,.c (.int 1)]⟩]
def jS:List En:=ng++(nq++(cn))
def mW:List ObE:=[⟨some 49,.inr,[.e 47,.c (.int 2)]⟩,⟨some 49,.inr,[.e 47,.c (.int 2)]⟩,⟨some 49,.inr,[.e 47,.c (.int 2)]⟩]
def lQ:Ag:=mkD 47 1 jS 86 [.e 87] mW [0,37,40,46]
def mF:List Rf:=[.e 0,.e 37,.e 40,.e 46,.c (.int 0)]
def nT:List En:=[⟨88,.ite .b,[.e 85,.c (.bool false),.c (.bool true)]⟩,
 ⟨89,.or,[.e 85,.e 50]⟩,
 ⟨90,.and,[.e 46,.e 88]⟩,
 ⟨91,.and,[.e 46,.n 88]⟩,
 ⟨92,.ite .i,[.e 91,.c (.int 0),.e 0]⟩,
 ⟨93,.ite .i,[.e 91,.c (.int 0),.c (.int (-1))]⟩,
 ⟨94,.ite .i,[.e 91,.c (.int 0),.c (.int (-1))]⟩,
 ⟨95,.ite .i,[.e 91,.c (.int 0),.e 37]⟩,
 ⟨96,.ite .i,[.e 91,.c (.int 0),.e 40]⟩,
 ⟨97,.ite .i,[.e 91,.c (.int 0),.c (.int (-1))]⟩,
 ⟨98,.ite .i,[.e 91,.c (.int 0),.c (.int (-1))]⟩,
 ⟨99,.ite .i,[.e 91,.c (.int 2),.c (.int 0)]⟩,
 ⟨100,.or,[.e 91,.e 90]⟩,
 ⟨101,.ite .i,[.e 45,.c (.int 0),.e 92]⟩,
 ⟨102,.ite .i,[.e 45,.c (.int 0),.e 93]⟩,
 ⟨103,.ite .i,[.e 45,.c (.int 0),.e 94]⟩]
def nd:List En:=[⟨104,.ite .i,[.e 45,.c (.int 0),.e 95]⟩,
 ⟨105,.ite .i,[.e 45,.c (.int 0),.e 96]⟩,
 ⟨106,.ite .i,[.e 45,.c (.int 0),.e 97]⟩,
 ⟨107,.ite .i,[.e 45,.c (.int 0),.e 98]⟩,
 ⟨108,.ite .i,[.e 45,.c (.int 3),.e 99]⟩,
 ⟨109,.or,[.e 45,.e 100]⟩,
 ⟨110,.eq,[.e 108,.c (.int 0)]⟩,
 ⟨111,.and,[.e 34,.e 110]⟩,
 ⟨112,.and,[.e 34,.n 110]⟩,
 ⟨113,.ite .i,[.e 110,.e 101,.e 25]⟩,
 ⟨114,.ite .i,[.e 110,.e 102,.e 26]⟩,
 ⟨115,.ite .i,[.e 110,.e 103,.e 27]⟩,
 ⟨116,.ite .i,[.e 110,.e 104,.c (.int 0)]⟩,
 ⟨117,.ite .i,[.e 110,.e 105,.c (.int 0)]⟩,
 ⟨118,.ite .i,[.e 110,.e 106,.e 28]⟩,
 ⟨119,.ite .i,[.e 110,.e 107,.e 29]⟩]
def nK:List En:=[⟨120,.ite .i,[.e 33,.c (.int 0),.e 113]⟩,
 ⟨121,.ite .i,[.e 33,.c (.int 0),.e 114]⟩,
 ⟨122,.ite .i,[.e 33,.c (.int 0),.e 115]⟩,
 ⟨123,.ite .i,[.e 33,.c (.int 0),.e 116]⟩,
 ⟨124,.ite .i,[.e 33,.c (.int 0),.e 117]⟩,
 ⟨125,.ite .i,[.e 33,.c (.int 0),.e 118]⟩,
 ⟨126,.ite .i,[.e 33,.c (.int 0),.e 119]⟩,
 ⟨127,.ite .i,[.e 33,.e 25,.e 113]⟩,
 ⟨128,.ite .i,[.e 33,.e 26,.e 114]⟩,
 ⟨129,.ite .i,[.e 33,.e 27,.e 115]⟩,
 ⟨130,.ite .i,[.e 33,.c (.int 0),.e 116]⟩,
 ⟨131,.ite .i,[.e 33,.c (.int 0),.e 117]⟩,
 ⟨132,.ite .i,[.e 33,.e 28,.e 118]⟩,
 ⟨133,.ite .i,[.e 33,.e 29,.e 119]⟩,
 ⟨134,.ite .i,[.e 33,.e 30,.c (.int 0)]⟩,
 ⟨135,.ite .i,[.e 33,.e 30,.e 108]⟩]
def nM:List En:=[⟨136,.or,[.e 33,.e 34]⟩,
 ⟨137,.ite .i,[.e 8,.c (.int 0),.e 120]⟩,
 ⟨138,.ite .i,[.e 8,.c (.int 0),.e 121]⟩,
 ⟨139,.ite .i,[.e 8,.c (.int 0),.e 122]⟩,
 ⟨140,.ite .i,[.e 8,.c (.int 0),.e 123]⟩,
 ⟨141,.ite .i,[.e 8,.c (.int 0),.e 124]⟩,
 ⟨142,.ite .i,[.e 8,.c (.int 0),.e 125]⟩,
 ⟨143,.ite .i,[.e 8,.c (.int 0),.e 126]⟩,
 ⟨144,.ite .i,[.e 8,.e 9,.e 134]⟩,
 ⟨145,.or,[.e 8,.e 136]⟩]
def mV:List En:=nT++(nd++(nK++(nM)))
def pJ:List ObE:=[⟨some 46,.owes lQ,[.e 0,.e 37,.e 40,.e 46,.c (.int 0)]⟩,
 ⟨some 16,.owes kQ,[.e 16,.c (.int 0)]⟩]
def nP:List Rf:=[.e 137,.c (.int 0),.c (.int 0),.e 138,.e 139,.c (.int 0),.c (.int 0),.c (.int 0),.c (.int 0),.c (.bool false),.c (.bool false),.c (.bool false),.c (.bool false),.c (.bool false),.c (.bool false),.c (.bool false),.c (.bool false),.e 140,.e 141,.c (.bool false),.c (.bool false),.c (.bool false),.c (.int 0),.c (.int 0),.e 142,.e 143,.e 144]
theorem pP:jY.sees nP (jY.run Try.prog [(91,lC)] AW 3000 20 53)=some ((jV++((BS kQ [.i] mG)++(jP++(ki++((BS lQ [.i] mF)++(jS++(mV))))))).map En.be,pJ.map ObE.be,[]):=by kernel_rfl
theorem oG {T:Tab}(hz1:(S T 1).size<=140737488355328)(hz4:(S T 4).size<=140737488355328)(A0:AH T jV):
  ((I T 7)=Am ((S T 1)) (I T 2) (I T 3) ((S T 4)) (I T 5) (I T 6)):=by
 have F0:=A0;clear A0;have q7:(I T 7)=Am ((S T 1)) (I T 2) (I T 3) ((S T 4)) (I T 5) (I T 6):=by
  obtain⟨e7,-⟩:=F0;replace e7:I T 7=(Am (S T 1) (I T 2) (I T 3) (S T 4) (I T 5) (I T 6)):=e7;exact e7
 exact q7
theorem oY {T:Tab}(hS:AK T (Ab (BK 0 jY.ks) jV))(hB:Ac T (jP.map En.be))(hH:Ac T ((BS kQ [.i] mG).map En.be)):
  (kQ).owes (mG.map (Rf.eval T))/\AK T (hds 17 [.i])/\(0<=I T 17/\I T 17<=2)/\¬B T 19=true:=by
 refine CK (nh:=17) (k:=1) (pcn:=19) (top:=25) (bes:=jP) (bos:=mT) (nxt:=[.e 24]) (inits:=[.c (.int 0)]) (fv:=[16]) (tys:=[.i]) (by kernel_rfl) rfl rfl rfl rfl hS (by kernel_rfl) (by kernel_rfl) hB (BV hH) (fun s=>0<=(aI s 0)/\(aI s 0)<=2) (fun s=>(2 - (aI s 0)).toNat) ?_ ?_
 .show 0<=(0:Int)/\(0:Int)<=2;clear hS hB hH;exact⟨by omega,by omega⟩
 .intro T2 hfv hF inv;replace inv:0<=I T2 17/\I T2 17<=2:=inv;clear hS hB hH;replace hF:AH T2 jP:=hF;have F0:=hF;clear hF;have fv16:B T2 16=B T 16:=fvB (hfv 16 (by decide));clear hfv
  suffices hz:(B T2 19=true->0<=I T2 17/\I T2 17 < 2)/\(B T2 19=true->0<=I T2 17/\I T2 17 < 2)/\(B T2 19=true->0<=I T2 17/\I T2 17 < 2)/\(B T2 19=true->(0<=I T2 24/\I T2 24<=2))/\(B T2 19=true->(2 - (I T2 24)).toNat < (2 - (I T2 17)).toNat) from
   let⟨r0,r1,r2,nx,mz⟩:=hz;⟨⟨r0,r1,r2,trivial⟩,fun hp=>⟨nx hp,mz hp⟩⟩
  refine⟨?_,?_,?_,?_,?_⟩
  .obtain⟨e18,e19,-⟩:=F0;simp only[AI,AP,zR] at e18 e19;obtain⟨v1,v2⟩:=inv;intro hp;have h18:=e18.1 (e19.1 hp).2;omega
  .obtain⟨e18,e19,-⟩:=F0;simp only[AI,AP,zR] at e18 e19;obtain⟨v1,v2⟩:=inv;intro hp;have h18:=e18.1 (e19.1 hp).2;omega
  .obtain⟨e18,e19,-⟩:=F0;simp only[AI,AP,zR] at e18 e19;obtain⟨v1,v2⟩:=inv;intro hp;have h18:=e18.1 (e19.1 hp).2;omega
  .obtain⟨e18,e19,-,-,-,-,e24,-⟩:=F0;simp only[AI,AP,zR,w2P] at e18 e19 e24;obtain⟨v1,v2⟩:=inv;intro hp;have h18:=e18.1 (e19.1 hp).2;have x24:=e24 (by omega) (by omega);omega
  .obtain⟨e18,e19,-,-,-,-,e24,-⟩:=F0;simp only[AI,AP,zR,w2P] at e18 e19 e24;obtain⟨v1,v2⟩:=inv;intro hp;have h18:=e18.1 (e19.1 hp).2;have x24:=e24 (by omega) (by omega);omega
theorem n9 {T:Tab}(hz1:(S T 1).size<=140737488355328)(hz4:(S T 4).size<=140737488355328)(q7:(I T 7)=Am ((S T 1)) (I T 2) (I T 3) ((S T 4)) (I T 5) (I T 6))(inv0:0<=I T 17/\I T 17<=2)(np0:¬B T 19=true)(A0:AH T jV)(B0:AH T jP)(A1:AH T ki):
  ((B T 8)=true↔¬Am ((S T 1)) (I T 2) (I T 3) ((S T 4)) (I T 5) (I T 6)=0)/\((B T 46)=true->0<=I T 0/\I T 0<=3)/\(Am ((S T 1)) (I T 2) (I T 3) ((S T 4)) (I T 5) (I T 6)=0->I T 37=jJ (I T 3) (I T 6)/\I T 40=jJ (I T 6) (I T 3)):=by
 have F0:=A0;clear A0;have F1:=B0;clear B0;obtain⟨F2,A1⟩:=A1.cut;have F3:=A1;clear A1;have k8:(B T 8)=true↔¬Am ((S T 1)) (I T 2) (I T 3) ((S T 4)) (I T 5) (I T 6)=0:=by
  obtain⟨e7,e8,-⟩:=F0;replace e7:I T 7=(Am (S T 1) (I T 2) (I T 3) (S T 4) (I T 5) (I T 6)):=e7;simp only[AI,zR] at e8;rw[e8,e7]
 have g46:(B T 46)=true->0<=I T 0/\I T 0<=3:=by
  obtain⟨e41,-,e43,e44,-,e46,-⟩:=F3;simp only[AI,AP,zN,zR] at e41 e43 e44 e46;intro h;have h1:=(e46.1 h).2;have n44:¬B T 44=true:=by rw[h1];simp
  rw[e44,e41,e43] at n44;omega
 have k37:Am ((S T 1)) (I T 2) (I T 3) ((S T 4)) (I T 5) (I T 6)=0->I T 37=jJ (I T 3) (I T 6)/\I T 40=jJ (I T 6) (I T 3):=by
  obtain⟨-,-,-,-,-,-,-,-,-,-,e35,e36,e37,e38,e39,e40,-⟩:=F2;simp only[AI,zR,LW,w2P] at e35 e36 e37 e38 e39 e40;intro hp;obtain⟨p1,p2,-⟩:=JA hp;rw[Ea] at p1 p2;have x35:=e35 (by omega) (by omega);have x38:=e38 (by omega) (by omega);unfold jJ;rw[e37,e36,x35,e40,e39,x38];constructor<;>(repeat' split)<;>omega
 exact⟨k8,g46,k37⟩
theorem oW {T:Tab}(g46:(B T 46)=true->0<=I T 0/\I T 0<=3)(hS:AK T (Ab (Ab (hds 17 [.i]++(Ab (BK 0 jY.ks) jV)) jP) ki))(hB:Ac T (jS.map En.be))(hH:Ac T ((BS lQ [.i] mF).map En.be)):
  (lQ).owes (mF.map (Rf.eval T))/\AK T (hds 47 [.i])/\(0<=I T 47/\I T 47<=2/\(0 < I T 47->0 < I T 37->jL (I T 0)=true)/\(1 < I T 47->0 < I T 40->jL (I T 0)=true))/\¬B T 86=true:=by
 refine CK (nh:=47) (k:=1) (pcn:=86) (top:=88) (bes:=jS) (bos:=mW) (nxt:=[.e 87]) (inits:=[.c (.int 0)]) (fv:=[0,37,40,46]) (tys:=[.i]) (by kernel_rfl) rfl rfl rfl rfl hS (by kernel_rfl) (by kernel_rfl) hB (BV hH) (fun s=>0<=(aI s 0)/\(aI s 0)<=2/\(0 < (aI s 0)->0 < I T 37->jL (I T 0)=true)/\(1 < (aI s 0)->0 < I T 40->jL (I T 0)=true)) (fun s=>(2 - (aI s 0)).toNat) ?_ ?_
 .show 0<=(0:Int)/\(0:Int)<=2/\(0 < (0:Int)->0 < I T 37->jL (I T 0)=true)/\(1 < (0:Int)->0 < I T 40->jL (I T 0)=true);clear hS hB hH;exact⟨by omega,by omega,fun h=>by omega,fun h=>by omega⟩
 .intro T2 hfv hF inv;replace inv:0<=I T2 47/\I T2 47<=2/\(0 < I T2 47->0 < I T 37->jL (I T 0)=true)/\(1 < I T2 47->0 < I T 40->jL (I T 0)=true):=inv;clear hS hB hH;replace hF:AH T2 jS:=hF;obtain⟨F0,hF⟩:=hF.cut;obtain⟨F1,hF⟩:=hF.cut;have F2:=hF;clear hF;have fv0:I T2 0=I T 0:=fvI (hfv 0 (by decide));have fv37:I T2 37=I T 37:=fvI (hfv 37 (by decide));have fv40:I T2 40=I T 40:=fvI (hfv 40 (by decide));have fv46:B T2 46=B T 46:=fvB (hfv 46 (by decide));clear hfv
  suffices hz:(B T2 49=true->0<=I T2 47/\I T2 47 < 2)/\(B T2 49=true->0<=I T2 47/\I T2 47 < 2)/\(B T2 49=true->0<=I T2 47/\I T2 47 < 2)/\(B T2 86=true->(0<=I T2 87/\I T2 87<=2/\(0 < I T2 87->0 < I T 37->jL (I T 0)=true)/\(1 < I T2 87->0 < I T 40->jL (I T 0)=true)))/\(B T2 86=true->(2 - (I T2 87)).toNat < (2 - (I T2 47)).toNat) from
   let⟨r0,r1,r2,nx,mz⟩:=hz;⟨⟨r0,r1,r2,trivial⟩,fun hp=>⟨nx hp,mz hp⟩⟩
  refine⟨?_,?_,?_,?_,?_⟩
  .obtain⟨e48,e49,-⟩:=F0;simp only[AI,AP,zR] at e48 e49;obtain⟨v1,v2,v3,v4⟩:=inv;intro hp;have h48:=e48.1 (e49.1 hp).2;omega
  .obtain⟨e48,e49,-⟩:=F0;simp only[AI,AP,zR] at e48 e49;obtain⟨v1,v2,v3,v4⟩:=inv;intro hp;have h48:=e48.1 (e49.1 hp).2;omega
  .obtain⟨e48,e49,-⟩:=F0;simp only[AI,AP,zR] at e48 e49;obtain⟨v1,v2,v3,v4⟩:=inv;intro hp;have h48:=e48.1 (e49.1 hp).2;omega
  .obtain⟨e48,e49,-,-,-,e53,e54,e55,e56,e57,e58,e59,e60,e61,e62,e63,-⟩:=F0;obtain⟨-,-,-,e67,-,e69,-,-,-,-,e74,-,e76,-⟩:=F1;obtain⟨-,e81,-,-,e84,-,e86,e87,-⟩:=F2;simp only[AI,AP,zN,zC,zR,Nk,Nw,and_false,or_false,w2P,zL,zS] at e48 e49 e53 e54 e55 e56 e57 e58 e59 e60 e61 e62 e63 e67 e69 e74 e76 e81 e84 e86 e87;obtain⟨v1,v2,v3,v4⟩:=inv;intro hp;have h49:=(e86.1 hp).1;have h84:=(e86.1 hp).2;have h48:=e48.1 (e49.1 h49).2;have x87:=e87 (by omega) (by omega);have hc:=g46 (by rw[<-fv46];exact (e49.1 h49).1);have k81:(B T2 54)=true->jL (I T 0)=true:=fun h54=>by
    have h55:=e55.2 ⟨h49,h54⟩;have h81:(B T2 81)=true:=by
     by_cases h:(B T2 81)=true
     .exact h
     .have:(B T2 84)=true:=e84.2 ⟨h54,by simpa using h⟩;rw[this] at h84;cases h84
    rw[jN];rw[fv0] at e56 e59 e62;have zz:True:=by have _:=e57;have _:=e58;have _:=e60;have _:=e61;have _:=e63;have _:=e67;have _:=e69;have _:=e74;have _:=e76;have _:=e81;have _:=e56;have _:=e59;have _:=e62;trivial
    grind
   rw[fv37,fv40] at e53;refine⟨by omega,by omega,fun _ h=>?_,fun _ h=>?_⟩
   .by_cases h0:(I T2 47)=0
    .exact k81 (e54.2 (by rw[e53];(repeat' split)<;>omega))
    .exact v3 (by omega) h
   .by_cases h0:(I T2 47)=1
    .exact k81 (e54.2 (by rw[e53];(repeat' split)<;>omega))
    .exact v4 (by omega) h
  .obtain⟨e48,e49,-⟩:=F0;obtain⟨-,-,-,-,-,-,e86,e87,-⟩:=F2;simp only[AI,AP,zN,zR,w2P] at e48 e49 e86 e87;obtain⟨v1,v2,v3,v4⟩:=inv;intro hp;have h48:=e48.1 (e49.1 (e86.1 hp).1).2;have x87:=e87 (by omega) (by omega);omega
theorem pM {T:Tab}(hz1:(S T 1).size<=140737488355328)(hz4:(S T 4).size<=140737488355328)(q7:(I T 7)=Am ((S T 1)) (I T 2) (I T 3) ((S T 4)) (I T 5) (I T 6))(inv0:0<=I T 17/\I T 17<=2)(np0:¬B T 19=true)(k8:(B T 8)=true↔¬Am ((S T 1)) (I T 2) (I T 3) ((S T 4)) (I T 5) (I T 6)=0)(g46:(B T 46)=true->0<=I T 0/\I T 0<=3)(k37:Am ((S T 1)) (I T 2) (I T 3) ((S T 4)) (I T 5) (I T 6)=0->I T 37=jJ (I T 3) (I T 6)/\I T 40=jJ (I T 6) (I T 3))(inv1:0<=I T 47/\I T 47<=2/\(0 < I T 47->0 < I T 37->jL (I T 0)=true)/\(1 < I T 47->0 < I T 40->jL (I T 0)=true))(np1:¬B T 86=true)(A0:AH T jV)(B0:AH T jP)(A1:AH T ki)(B1:AH T jS)(A2:AH T mV):
  ((I T 137)=(if jK (I T 0) (S T 1) (I T 2) (I T 3) (S T 4) (I T 5) (I T 6)=true then (I T 0) else 0))/\
  (0=((0:Int)))/\
  (0=((0:Int)))/\
  ((I T 138)=(if jK (I T 0) (S T 1) (I T 2) (I T 3) (S T 4) (I T 5) (I T 6)=true then -1 else 0))/\
  ((I T 139)=(if jK (I T 0) (S T 1) (I T 2) (I T 3) (S T 4) (I T 5) (I T 6)=true then -1 else 0))/\
  (0=((0:Int)))/\
  (0=((0:Int)))/\
  (0=((0:Int)))/\
  (0=((0:Int)))/\
  (false=(false))/\
  (false=(false))/\
  (false=(false))/\
  (false=(false))/\
  (false=(false))/\
  (false=(false))/\
  (false=(false))/\
  (false=(false))/\
  ((I T 140)=(if jk (I T 0) (S T 1) (I T 2) (I T 3) (S T 4) (I T 5) (I T 6)=true then (jJ (I T 3) (I T 6)) else 0))/\
  ((I T 141)=(if jk (I T 0) (S T 1) (I T 2) (I T 3) (S T 4) (I T 5) (I T 6)=true then (jJ (I T 6) (I T 3)) else 0))/\
  (false=(false))/\
  (false=(false))/\
  (false=(false))/\
  (0=((0:Int)))/\
  (0=((0:Int)))/\
  ((I T 142)=(if jK (I T 0) (S T 1) (I T 2) (I T 3) (S T 4) (I T 5) (I T 6)=true then -1 else 0))/\
  ((I T 143)=(if jK (I T 0) (S T 1) (I T 2) (I T 3) (S T 4) (I T 5) (I T 6)=true then -1 else 0))/\
  ((I T 144)=(mN (I T 0) (S T 1) (I T 2) (I T 3) (S T 4) (I T 5) (I T 6))):=by
 have F0:=A0;clear A0;have F1:=B0;clear B0;obtain⟨F2,A1⟩:=A1.cut;have F3:=A1;clear A1;obtain⟨F4,B1⟩:=B1.cut;obtain⟨F5,B1⟩:=B1.cut;have F6:=B1;clear B1;obtain⟨F7,A2⟩:=A2.cut;obtain⟨F8,A2⟩:=A2.cut;obtain⟨F9,A2⟩:=A2.cut;have F10:=A2;clear A2;have bg:(Am ((S T 1)) (I T 2) (I T 3) ((S T 4)) (I T 5) (I T 6)=0->(0<=I T 0/\I T 0<=3)->B T 33=false/\B T 15=false/\B T 45=false/\((B T 110)=true↔¬B T 91=true)/\((B T 91)=true->¬jL (I T 0)=true)/\(¬jL (I T 0)=true->¬B T 91=true->I T 37=0/\I T 40=0))/\(Am ((S T 1)) (I T 2) (I T 3) ((S T 4)) (I T 5) (I T 6)=0->¬(0<=I T 0/\I T 0<=3)->B T 33=true/\I T 30=3):=by
  obtain⟨-,-,-,e10,e11,-,e13,e14,e15,-⟩:=F0;obtain⟨-,-,-,-,-,e30,-,e32,e33,e34,-⟩:=F2;obtain⟨e41,-,e43,e44,e45,e46,-⟩:=F3;obtain⟨e48,e49,-,-,-,-,-,e55,e56,e57,e58,e59,e60,e61,e62,e63,-⟩:=F4;obtain⟨-,-,-,e67,-,e69,-,-,-,-,e74,-,e76,-⟩:=F5;obtain⟨-,e81,-,-,e84,e85,e86,-⟩:=F6;obtain⟨e88,-,-,e91,-,-,-,-,-,-,-,e99,-⟩:=F7;obtain⟨-,-,-,-,e108,-,e110,-⟩:=F8;simp only[AI,AP,zN,zC,zR,zL,zS] at e10 e11 e13 e14 e15 e30 e32 e33 e34 e41 e43 e44 e45 e46 e48 e49 e55 e56 e57 e58 e59 e60 e61 e62 e63 e67 e69 e74 e76 e81 e84 e85 e86 e88 e91 e99 e108 e110;refine⟨fun hp hc=>?_,fun hp hc=>?_⟩
  .have n8:(B T 8)=false:=by simpa using fun h=>(k8.1 h) hp
   have h10:=e10.2 n8;have n14:¬B T 14=true:=by rw[e14,e11,e13];omega
   have n44:¬B T 44=true:=by rw[e44,e41,e43];omega
   have n15:(B T 15)=false:=Bool.eq_false_iff.2 fun h=>n14 (e15.1 h).2;have x30:(I T 30)=0:=by rw[e30,n15];rfl
   have n32:¬B T 32=true:=fun h=>e32.1 h x30;have n33:(B T 33)=false:=Bool.eq_false_iff.2 fun h=>n32 (e33.1 h).2;have h34:=e34.2 ⟨h10,by simpa using n32⟩;have n45:(B T 45)=false:=Bool.eq_false_iff.2 fun h=>n44 (e45.1 h).2;have h46:=e46.2 ⟨h34,by simpa using n44⟩;have k110:(B T 110)=true↔¬B T 91=true:=by
    rw[e110,e108,n45,e99];by_cases h:(B T 91)=true
    .simp[h]
    .simp[h]
   obtain⟨v1,v2,v3,v4⟩:=inv1;have k84:(B T 49)=true->B T 84=true->((B T 54)=true/\¬jL (I T 0)=true):=fun h49 h84=>by
    have h54:=(e84.1 h84).1;have h55:=e55.2 ⟨h49,h54⟩;have n81:(B T 81)=false:=(e84.1 h84).2;refine⟨h54,?_⟩;rw[jN];have zz:True:=by have _:=e57;have _:=e58;have _:=e60;have _:=e61;have _:=e63;have _:=e67;have _:=e69;have _:=e74;have _:=e76;have _:=e81;have _:=e56;have _:=e59;have _:=e62;trivial
    grind
   refine⟨n33,n15,n45,k110,fun h=>?_,fun hb h=>?_⟩
   .have h88:=(e91.1 h).2;have h85:(B T 85)=true:=by
     by_cases h:(B T 85)=true
     .exact h
     .have:(B T 88)=true:=e88.2 (by simpa using h);rw[this] at h88;cases h88
    exact (k84 (e85.1 h85).1 (e85.1 h85).2).2
   .have n85:¬B T 85=true:=fun h85=>h (e91.2 ⟨h46,by cases h88:(B T 88);rfl;exact absurd h85 (by simpa using e88.1 h88)⟩);have n49:¬B T 49=true:=fun h49=>by
     by_cases h84:(B T 84)=true
     .exact n85 (e85.2 ⟨h49,h84⟩)
     .exact np1 (e86.2 ⟨h49,by simpa using h84⟩)
    have n48:¬I T 47 < 2:=fun h=>n49 (e49.2 ⟨h46,e48.2 h⟩);have a1:¬0 < I T 37:=fun h=>hb (v3 (by omega) h);have a2:¬0 < I T 40:=fun h=>hb (v4 (by omega) h);obtain⟨k1,k2⟩:=k37 hp;have a3:=mH (I T 3) (I T 6);have a4:=mH (I T 6) (I T 3);omega
  .have n8:(B T 8)=false:=by simpa using fun h=>(k8.1 h) hp
   have h14:(B T 14)=true:=by rw[e14,e11,e13];omega
   have h15:=e15.2 ⟨e10.2 n8,h14⟩;have x30:(I T 30)=3:=by rw[e30,if_pos h15]
   exact⟨e33.2 ⟨e10.2 n8,e32.2 (by omega)⟩,x30⟩
 obtain⟨-,-,e9,-⟩:=id F0;obtain⟨e25,e26,e27,e28,e29,-⟩:=id F2;obtain⟨-,-,-,-,e92,e93,e94,e95,e96,e97,e98,-,-,e101,e102,e103,-⟩:=id F7;obtain⟨e104,e105,e106,e107,-,-,-,-,-,e113,e114,e115,e116,e117,e118,e119,-⟩:=id F8;obtain⟨e120,e121,e122,e123,e124,e125,e126,-,-,-,-,-,-,-,e134,-⟩:=id F9;obtain⟨-,e137,e138,e139,e140,e141,e142,e143,e144,-⟩:=id F10;replace e9:I T 9=(Am (S T 1) (I T 2) (I T 3) (S T 4) (I T 5) (I T 6)):=e9;simp only[AI,AP,zR,zL,zS] at e25 e26 e27 e28 e29 e92 e93 e94 e95 e96 e97 e98 e101 e102 e103 e104 e105 e106 e107 e113 e114 e115 e116 e117 e118 e119 e120 e121 e122 e123 e124 e125 e126 e134 e137 e138 e139 e140 e141 e142 e143 e144;refine⟨?_,?_,?_,?_,?_,?_,?_,?_,?_,?_,?_,?_,?_,?_,?_,?_,?_,?_,?_,?_,?_,?_,?_,?_,?_,?_,?_⟩
 .obtain⟨kA,kB⟩:=bg;by_cases hp:Am ((S T 1)) (I T 2) (I T 3) ((S T 4)) (I T 5) (I T 6)=0
  .have n8:¬B T 8=true:=fun h=>k8.1 h hp;by_cases hc:(0<=I T 0/\I T 0<=3)
   .obtain⟨n33,n15,n45,k110,kb,kz⟩:=kA hp hc;by_cases h91:(B T 91)=true
    .rw[e137,if_neg n8,e120,if_neg (by simp[n33]),e113,if_neg (fun h=>k110.1 h h91),e25,if_neg (by simp[n15]),if_pos (jI.2 ⟨hp,hc⟩)]
    .rw[e137,if_neg n8,e120,if_neg (by simp[n33]),e113,if_pos (k110.2 h91),e101,if_neg (by simp[n45]),e92,if_neg h91,if_pos (jI.2 ⟨hp,hc⟩)]
   .obtain⟨h33,x30⟩:=kB hp hc;rw[e137,if_neg n8,e120,if_pos h33,if_neg (fun h=>hc (jI.1 h).2)]
  .rw[e137,if_pos (k8.2 hp),if_neg (fun h=>hp (jI.1 h).1)]
 .rfl
 .rfl
 .obtain⟨kA,kB⟩:=bg;by_cases hp:Am ((S T 1)) (I T 2) (I T 3) ((S T 4)) (I T 5) (I T 6)=0
  .have n8:¬B T 8=true:=fun h=>k8.1 h hp;by_cases hc:(0<=I T 0/\I T 0<=3)
   .obtain⟨n33,n15,n45,k110,kb,kz⟩:=kA hp hc;by_cases h91:(B T 91)=true
    .rw[e138,if_neg n8,e121,if_neg (by simp[n33]),e114,if_neg (fun h=>k110.1 h h91),e26,if_neg (by simp[n15]),if_pos (jI.2 ⟨hp,hc⟩)]
    .rw[e138,if_neg n8,e121,if_neg (by simp[n33]),e114,if_pos (k110.2 h91),e102,if_neg (by simp[n45]),e93,if_neg h91,if_pos (jI.2 ⟨hp,hc⟩)]
   .obtain⟨h33,x30⟩:=kB hp hc;rw[e138,if_neg n8,e121,if_pos h33,if_neg (fun h=>hc (jI.1 h).2)]
  .rw[e138,if_pos (k8.2 hp),if_neg (fun h=>hp (jI.1 h).1)]
 .obtain⟨kA,kB⟩:=bg;by_cases hp:Am ((S T 1)) (I T 2) (I T 3) ((S T 4)) (I T 5) (I T 6)=0
  .have n8:¬B T 8=true:=fun h=>k8.1 h hp;by_cases hc:(0<=I T 0/\I T 0<=3)
   .obtain⟨n33,n15,n45,k110,kb,kz⟩:=kA hp hc;by_cases h91:(B T 91)=true
    .rw[e139,if_neg n8,e122,if_neg (by simp[n33]),e115,if_neg (fun h=>k110.1 h h91),e27,if_neg (by simp[n15]),if_pos (jI.2 ⟨hp,hc⟩)]
    .rw[e139,if_neg n8,e122,if_neg (by simp[n33]),e115,if_pos (k110.2 h91),e103,if_neg (by simp[n45]),e94,if_neg h91,if_pos (jI.2 ⟨hp,hc⟩)]
   .obtain⟨h33,x30⟩:=kB hp hc;rw[e139,if_neg n8,e122,if_pos h33,if_neg (fun h=>hc (jI.1 h).2)]
  .rw[e139,if_pos (k8.2 hp),if_neg (fun h=>hp (jI.1 h).1)]
 .rfl
 .rfl
 .rfl
 .rfl
 .rfl
 .rfl
 .rfl
 .rfl
 .rfl
 .rfl
 .rfl
 .rfl
 .obtain⟨kA,kB⟩:=bg;by_cases hp:Am ((S T 1)) (I T 2) (I T 3) ((S T 4)) (I T 5) (I T 6)=0
  .have n8:¬B T 8=true:=fun h=>k8.1 h hp;by_cases hc:(0<=I T 0/\I T 0<=3)
   .obtain⟨n33,n15,n45,k110,kb,kz⟩:=kA hp hc;by_cases h91:(B T 91)=true
    .rw[e140,if_neg n8,e123,if_neg (by simp[n33]),e116,if_neg (fun h=>k110.1 h h91),if_neg (fun h=>kb h91 (jN.2 (jM.1 h).2))]
    .rw[e140,if_neg n8,e123,if_neg (by simp[n33]),e116,if_pos (k110.2 h91),e104,if_neg (by simp[n45]),e95,if_neg h91];by_cases hb:jL (I T 0)=true
     .rw[if_pos (jM.2 ⟨⟨hp,hc⟩,jN.1 hb⟩)];exact (k37 hp).1
     .rw[if_neg (fun h=>hb (jN.2 (jM.1 h).2))];exact (kz hb h91).1
   .obtain⟨h33,x30⟩:=kB hp hc;rw[e140,if_neg n8,e123,if_pos h33,if_neg (fun h=>hc (jM.1 h).1.2)]
  .rw[e140,if_pos (k8.2 hp),if_neg (fun h=>hp (jM.1 h).1.1)]
 .obtain⟨kA,kB⟩:=bg;by_cases hp:Am ((S T 1)) (I T 2) (I T 3) ((S T 4)) (I T 5) (I T 6)=0
  .have n8:¬B T 8=true:=fun h=>k8.1 h hp;by_cases hc:(0<=I T 0/\I T 0<=3)
   .obtain⟨n33,n15,n45,k110,kb,kz⟩:=kA hp hc;by_cases h91:(B T 91)=true
    .rw[e141,if_neg n8,e124,if_neg (by simp[n33]),e117,if_neg (fun h=>k110.1 h h91),if_neg (fun h=>kb h91 (jN.2 (jM.1 h).2))]
    .rw[e141,if_neg n8,e124,if_neg (by simp[n33]),e117,if_pos (k110.2 h91),e105,if_neg (by simp[n45]),e96,if_neg h91];by_cases hb:jL (I T 0)=true
     .rw[if_pos (jM.2 ⟨⟨hp,hc⟩,jN.1 hb⟩)];exact (k37 hp).2
     .rw[if_neg (fun h=>hb (jN.2 (jM.1 h).2))];exact (kz hb h91).2
   .obtain⟨h33,x30⟩:=kB hp hc;rw[e141,if_neg n8,e124,if_pos h33,if_neg (fun h=>hc (jM.1 h).1.2)]
  .rw[e141,if_pos (k8.2 hp),if_neg (fun h=>hp (jM.1 h).1.1)]
 .rfl
 .rfl
 .rfl
 .rfl
 .rfl
 .obtain⟨kA,kB⟩:=bg;by_cases hp:Am ((S T 1)) (I T 2) (I T 3) ((S T 4)) (I T 5) (I T 6)=0
  .have n8:¬B T 8=true:=fun h=>k8.1 h hp;by_cases hc:(0<=I T 0/\I T 0<=3)
   .obtain⟨n33,n15,n45,k110,kb,kz⟩:=kA hp hc;by_cases h91:(B T 91)=true
    .rw[e142,if_neg n8,e125,if_neg (by simp[n33]),e118,if_neg (fun h=>k110.1 h h91),e28,if_neg (by simp[n15]),if_pos (jI.2 ⟨hp,hc⟩)]
    .rw[e142,if_neg n8,e125,if_neg (by simp[n33]),e118,if_pos (k110.2 h91),e106,if_neg (by simp[n45]),e97,if_neg h91,if_pos (jI.2 ⟨hp,hc⟩)]
   .obtain⟨h33,x30⟩:=kB hp hc;rw[e142,if_neg n8,e125,if_pos h33,if_neg (fun h=>hc (jI.1 h).2)]
  .rw[e142,if_pos (k8.2 hp),if_neg (fun h=>hp (jI.1 h).1)]
 .obtain⟨kA,kB⟩:=bg;by_cases hp:Am ((S T 1)) (I T 2) (I T 3) ((S T 4)) (I T 5) (I T 6)=0
  .have n8:¬B T 8=true:=fun h=>k8.1 h hp;by_cases hc:(0<=I T 0/\I T 0<=3)
   .obtain⟨n33,n15,n45,k110,kb,kz⟩:=kA hp hc;by_cases h91:(B T 91)=true
    .rw[e143,if_neg n8,e126,if_neg (by simp[n33]),e119,if_neg (fun h=>k110.1 h h91),e29,if_neg (by simp[n15]),if_pos (jI.2 ⟨hp,hc⟩)]
    .rw[e143,if_neg n8,e126,if_neg (by simp[n33]),e119,if_pos (k110.2 h91),e107,if_neg (by simp[n45]),e98,if_neg h91,if_pos (jI.2 ⟨hp,hc⟩)]
   .obtain⟨h33,x30⟩:=kB hp hc;rw[e143,if_neg n8,e126,if_pos h33,if_neg (fun h=>hc (jI.1 h).2)]
  .rw[e143,if_pos (k8.2 hp),if_neg (fun h=>hp (jI.1 h).1)]
 .obtain⟨kA,kB⟩:=bg;unfold mN;by_cases hp:Am ((S T 1)) (I T 2) (I T 3) ((S T 4)) (I T 5) (I T 6)=0
  .have n8:¬B T 8=true:=fun h=>k8.1 h hp;rw[if_pos hp];by_cases hc:(0<=I T 0/\I T 0<=3)
   .obtain⟨n33,-⟩:=kA hp hc;rw[e144,if_neg n8,e134,if_neg (by simp[n33]),if_pos (kM.2 hc)]
   .obtain⟨h33,x30⟩:=kB hp hc;rw[e144,if_neg n8,e134,if_pos h33,if_neg (fun h=>hc (kM.1 h)),x30]
  .rw[e144,if_pos (k8.2 hp),if_neg hp,e9]
theorem ou:Ae Try.prog 53 jY:=by
 refine BH (l:=[(91,lC)]) Bh (by simp only[wJ];exact⟨nR,fun _ h=>absurd h (by simp)⟩) pP (by kernel_rfl) fun T us hpre hT hul hS hBd hE=>?_;change us.length=7 at hul;obtain⟨-,hz1,-,-,hz4,-⟩:=hBd;replace hz1:(S T 1).size<=140737488355328:=hz1;replace hz4:(S T 4).size<=140737488355328:=hz4;have ha0:aI us 0=I T 0:=inI hT hul (by decide);have ha1:aS us 1=S T 1:=inS hT hul (by decide);have ha2:aI us 2=I T 2:=inI hT hul (by decide);have ha3:aI us 3=I T 3:=inI hT hul (by decide);have ha4:aS us 4=S T 4:=inS hT hul (by decide);have ha5:aI us 5=I T 5:=inI hT hul (by decide);have ha6:aI us 6=I T 6:=inI hT hul (by decide);clear hpre;rw[v7,v7,v7,v7,v7,v7] at hE;have hA:=hE.left;replace hE:=hE.right;have hH:=hE.left;replace hE:=hE.right;have hB:=hE.left;replace hE:=hE.right;obtain⟨A0,hS1⟩:=Ai hS (by kernel_rfl) hA;have q7:=oG hz1 hz4 A0;obtain⟨ow0,hS2,inv0,np0⟩:=oY hS1 hB hH;have hF2:=(Ai (hS2.append hS1) (l:=jP) (by kernel_rfl) hB);obtain⟨B0,hS⟩:=hF2;clear hA hB hH hS1 hS2;have hA:=hE.left;replace hE:=hE.right;have hH:=hE.left;replace hE:=hE.right;have hB:=hE.left;replace hE:=hE.right;obtain⟨A1,hS1⟩:=Ai hS (by kernel_rfl) hA;obtain⟨k8,g46,k37⟩:=n9 hz1 hz4 q7 inv0 np0 A0 B0 A1;obtain⟨ow1,hS2,inv1,np1⟩:=oW g46 hS1 hB hH;have hF2:=(Ai (hS2.append hS1) (l:=jS) (by kernel_rfl) hB);obtain⟨B1,hS⟩:=hF2;clear hA hB hH hS1 hS2;obtain⟨A2,hO⟩:=BG (tys:=[.i,.i,.i,.i,.i,.i,.i,.i,.i,.b,.b,.b,.b,.b,.b,.b,.b,.i,.i,.b,.b,.b,.i,.i,.i,.i,.i]) (rs:=nP) hS (by kernel_rfl) hE;obtain⟨q0,q1,q2,q3,q4,q5,q6,q7,q8,q9,q10,q11,q12,q13,q14,q15,q16,q17,q18,q19,q20,q21,q22,q23,q24,q25,q26⟩:=pM hz1 hz4 q7 inv0 np0 k8 g46 k37 inv1 np1 A0 B0 A1 B1 A2;refine⟨⟨(fun _=>ow1),(fun _=>ow0),trivial⟩,hO.trans ?_⟩;exact (lc (by show U.int (I T 137)= .int (lL us);unfold lL;rw[ha0,ha1,ha2,ha3,ha4,ha5,ha6];exact congrArg U.int q0) (lc (by show U.int 0= .int (km us);unfold km;exact congrArg U.int q1) (lc (by show U.int 0= .int (kq us);unfold kq;exact congrArg U.int q2) (lc (by show U.int (I T 138)= .int (lW us);unfold lW;rw[ha0,ha1,ha2,ha3,ha4,ha5,ha6];exact congrArg U.int q3) (lc (by show U.int (I T 139)= .int (lZ us);unfold lZ;rw[ha0,ha1,ha2,ha3,ha4,ha5,ha6];exact congrArg U.int q4) (lc (by show U.int 0= .int (ko us);unfold ko;exact congrArg U.int q5) (lc (by show U.int 0= .int (lU us);unfold lU;exact congrArg U.int q6) (lc (by show U.int 0= .int (lG us);unfold lG;exact congrArg U.int q7) (lc (by show U.int 0= .int (lB us);unfold lB;exact congrArg U.int q8) (lc (by show U.bool false= .bool (lV us);unfold lV;exact congrArg U.bool q9) (lc (by show U.bool false= .bool (jq us);unfold jq;exact congrArg U.bool q10) (lc (by show U.bool false= .bool (j6 us);unfold j6;exact congrArg U.bool q11) (lc (by show U.bool false= .bool (kI us);unfold kI;exact congrArg U.bool q12) (lc (by show U.bool false= .bool (kE us);unfold kE;exact congrArg U.bool q13) (lc (by show U.bool false= .bool (jt us);unfold jt;exact congrArg U.bool q14) (lc (by show U.bool false= .bool (jr us);unfold jr;exact congrArg U.bool q15) (lc (by show U.bool false= .bool (kD us);unfold kD;exact congrArg U.bool q16) (lc (by show U.int (I T 140)= .int (j8 us);unfold j8;rw[ha0,ha1,ha2,ha3,ha4,ha5,ha6];exact congrArg U.int q17) (lc (by show U.int (I T 141)= .int (j5 us);unfold j5;rw[ha0,ha1,ha2,ha3,ha4,ha5,ha6];exact congrArg U.int q18) (lc (by show U.bool false= .bool (ju us);unfold ju;exact congrArg U.bool q19) (lc (by show U.bool false= .bool (kG us);unfold kG;exact congrArg U.bool q20) (lc (by show U.bool false= .bool (kH us);unfold kH;exact congrArg U.bool q21) (lc (by show U.int 0= .int (jv us);unfold jv;exact congrArg U.int q22) (lc (by show U.int 0= .int (jx us);unfold jx;exact congrArg U.int q23) (lc (by show U.int (I T 142)= .int (kF us);unfold kF;rw[ha0,ha1,ha2,ha3,ha4,ha5,ha6];exact congrArg U.int q24) (lc (by show U.int (I T 143)= .int (j9 us);unfold j9;rw[ha0,ha1,ha2,ha3,ha4,ha5,ha6];exact congrArg U.int q25) (lc (by show U.int (I T 144)= .int (js us);unfold js;rw[ha0,ha1,ha2,ha3,ha4,ha5,ha6];exact congrArg U.int q26) rfl)))))))))))))))))))))))))))
def l7:List Kd:=[.str,k64,k64,.str,k64,k64,k64,k64,.bool,k64,k64]
def mU:List AC:=((Fd Try.prog 9 Try.f12.params.toList 0).map (·.1)).getD []
def nA:List En:=[⟨11,.slen,[.e 0]⟩,
 ⟨12,.lt,[.c (.int 100),.e 11]⟩,
 ⟨13,.not,[.e 12]⟩,
 ⟨14,.slen,[.e 3]⟩,
 ⟨15,.lt,[.c (.int 100),.e 14]⟩,
 ⟨16,.or,[.e 12,.e 15]⟩,
 ⟨17,.outB "works.0" Db,[]⟩,
 ⟨18,.not,[.e 16]⟩,
 ⟨19,.outI "Gain.0" G9,[.e 6,.e 7,.e 8]⟩,
 ⟨20,.outI "Gain.1" HR,[.e 6,.e 7,.e 8]⟩,
 ⟨21,.outI "rGain.0" lu,[.e 6,.e 7,.e 8]⟩,
 ⟨22,.outI "rGain.1" lh,[.e 6,.e 7,.e 8]⟩,
 ⟨23,.outI "Trigger.0" FS,[.e 9]⟩,
 ⟨24,.outI "Trigger.1" FU,[.e 9]⟩,
 ⟨25,.outI "rTrigger.0" jm,[.e 9]⟩,
 ⟨26,.outI "rTrigger.1" jj,[.e 9]⟩]
def nF:List En:=[⟨27,.outS "Count.0" GZ,[.e 0,.e 1,.e 2,.e 3,.e 4,.e 5,.e 8]⟩,
 ⟨28,.outI "Count.1" GW,[.e 0,.e 1,.e 2,.e 3,.e 4,.e 5,.e 8]⟩,
 ⟨29,.outI "Count.2" GL,[.e 0,.e 1,.e 2,.e 3,.e 4,.e 5,.e 8]⟩,
 ⟨30,.outS "Count.3" GM,[.e 0,.e 1,.e 2,.e 3,.e 4,.e 5,.e 8]⟩,
 ⟨31,.outI "Count.4" GK,[.e 0,.e 1,.e 2,.e 3,.e 4,.e 5,.e 8]⟩,
 ⟨32,.outI "Count.5" GQ,[.e 0,.e 1,.e 2,.e 3,.e 4,.e 5,.e 8]⟩,
 ⟨33,.outI "Count.6" GS,[.e 0,.e 1,.e 2,.e 3,.e 4,.e 5,.e 8]⟩,
 ⟨34,.outS "rCount.0" lD,[.e 0,.e 1,.e 2,.e 3,.e 4,.e 5,.e 8]⟩,
 ⟨35,.outI "rCount.1" lS,[.e 0,.e 1,.e 2,.e 3,.e 4,.e 5,.e 8]⟩,
 ⟨36,.outI "rCount.2" lP,[.e 0,.e 1,.e 2,.e 3,.e 4,.e 5,.e 8]⟩,
 ⟨37,.outS "rCount.3" lT,[.e 0,.e 1,.e 2,.e 3,.e 4,.e 5,.e 8]⟩,
 ⟨38,.outI "rCount.4" kw,[.e 0,.e 1,.e 2,.e 3,.e 4,.e 5,.e 8]⟩,
 ⟨39,.outI "rCount.5" lN,[.e 0,.e 1,.e 2,.e 3,.e 4,.e 5,.e 8]⟩,
 ⟨40,.outI "rCount.6" kW,[.e 0,.e 1,.e 2,.e 3,.e 4,.e 5,.e 8]⟩,
 ⟨41,.outI "Halves.0" jh,[.e 0,.e 1,.e 2,.e 3,.e 4,.e 5]⟩,
 ⟨42,.outI "Halves.1" jl,[.e 0,.e 1,.e 2,.e 3,.e 4,.e 5]⟩]
def nC:List En:=[⟨43,.outI "Halves.2" ji,[.e 0,.e 1,.e 2,.e 3,.e 4,.e 5]⟩,
 ⟨44,.outI "rHalves.0" jz,[.e 0,.e 1,.e 2,.e 3,.e 4,.e 5]⟩,
 ⟨45,.outI "rHalves.1" j7,[.e 0,.e 1,.e 2,.e 3,.e 4,.e 5]⟩,
 ⟨46,.outI "rHalves.2" jy,[.e 0,.e 1,.e 2,.e 3,.e 4,.e 5]⟩,
 ⟨47,.outI "Begin.0" lw,[.e 10,.e 0,.e 1,.e 2,.e 3,.e 4,.e 5]⟩,
 ⟨48,.outI "Begin.1" lv,[.e 10,.e 0,.e 1,.e 2,.e 3,.e 4,.e 5]⟩,
 ⟨49,.outI "Begin.2" ln,[.e 10,.e 0,.e 1,.e 2,.e 3,.e 4,.e 5]⟩,
 ⟨50,.outI "Begin.3" l9,[.e 10,.e 0,.e 1,.e 2,.e 3,.e 4,.e 5]⟩,
 ⟨51,.outI "Begin.4" l8,[.e 10,.e 0,.e 1,.e 2,.e 3,.e 4,.e 5]⟩,
 ⟨52,.outI "Begin.5" l6,[.e 10,.e 0,.e 1,.e 2,.e 3,.e 4,.e 5]⟩,
 ⟨53,.outI "Begin.6" lf,[.e 10,.e 0,.e 1,.e 2,.e 3,.e 4,.e 5]⟩,
 ⟨54,.outI "Begin.7" ly,[.e 10,.e 0,.e 1,.e 2,.e 3,.e 4,.e 5]⟩,
 ⟨55,.outI "Begin.8" lz,[.e 10,.e 0,.e 1,.e 2,.e 3,.e 4,.e 5]⟩,
 ⟨56,.outB "Begin.9" mA,[.e 10,.e 0,.e 1,.e 2,.e 3,.e 4,.e 5]⟩,
 ⟨57,.outB "Begin.10" kX,[.e 10,.e 0,.e 1,.e 2,.e 3,.e 4,.e 5]⟩,
 ⟨58,.outB "Begin.11" lK,[.e 10,.e 0,.e 1,.e 2,.e 3,.e 4,.e 5]⟩]
def nB:List En:=[⟨59,.outB "Begin.12" kR,[.e 10,.e 0,.e 1,.e 2,.e 3,.e 4,.e 5]⟩,
 ⟨60,.outB "Begin.13" lI,[.e 10,.e 0,.e 1,.e 2,.e 3,.e 4,.e 5]⟩,
 ⟨61,.outB "Begin.14" lA,[.e 10,.e 0,.e 1,.e 2,.e 3,.e 4,.e 5]⟩,
 ⟨62,.outB "Begin.15" kY,[.e 10,.e 0,.e 1,.e 2,.e 3,.e 4,.e 5]⟩,
 ⟨63,.outB "Begin.16" lY,[.e 10,.e 0,.e 1,.e 2,.e 3,.e 4,.e 5]⟩,
 ⟨64,.outI "Begin.17" kZ,[.e 10,.e 0,.e 1,.e 2,.e 3,.e 4,.e 5]⟩,
 ⟨65,.outI "Begin.18" lO,[.e 10,.e 0,.e 1,.e 2,.e 3,.e 4,.e 5]⟩,
 ⟨66,.outB "Begin.19" lJ,[.e 10,.e 0,.e 1,.e 2,.e 3,.e 4,.e 5]⟩,
 ⟨67,.outB "Begin.20" kh,[.e 10,.e 0,.e 1,.e 2,.e 3,.e 4,.e 5]⟩,
 ⟨68,.outB "Begin.21" lF,[.e 10,.e 0,.e 1,.e 2,.e 3,.e 4,.e 5]⟩,
 ⟨69,.outI "Begin.22" kU,[.e 10,.e 0,.e 1,.e 2,.e 3,.e 4,.e 5]⟩,
 ⟨70,.outI "Begin.23" lH,[.e 10,.e 0,.e 1,.e 2,.e 3,.e 4,.e 5]⟩,
 ⟨71,.outI "Begin.24" lX,[.e 10,.e 0,.e 1,.e 2,.e 3,.e 4,.e 5]⟩,
 ⟨72,.outI "Begin.25" kV,[.e 10,.e 0,.e 1,.e 2,.e 3,.e 4,.e 5]⟩,
 ⟨73,.outI "Begin.26" kS,[.e 10,.e 0,.e 1,.e 2,.e 3,.e 4,.e 5]⟩,
 ⟨74,.outI "rBegin.0" lL,[.e 10,.e 0,.e 1,.e 2,.e 3,.e 4,.e 5]⟩]
def m8:List En:=[⟨75,.outI "rBegin.1" km,[.e 10,.e 0,.e 1,.e 2,.e 3,.e 4,.e 5]⟩,
 ⟨76,.outI "rBegin.2" kq,[.e 10,.e 0,.e 1,.e 2,.e 3,.e 4,.e 5]⟩,
 ⟨77,.outI "rBegin.3" lW,[.e 10,.e 0,.e 1,.e 2,.e 3,.e 4,.e 5]⟩,
 ⟨78,.outI "rBegin.4" lZ,[.e 10,.e 0,.e 1,.e 2,.e 3,.e 4,.e 5]⟩,
 ⟨79,.outI "rBegin.5" ko,[.e 10,.e 0,.e 1,.e 2,.e 3,.e 4,.e 5]⟩,
 ⟨80,.outI "rBegin.6" lU,[.e 10,.e 0,.e 1,.e 2,.e 3,.e 4,.e 5]⟩,
 ⟨81,.outI "rBegin.7" lG,[.e 10,.e 0,.e 1,.e 2,.e 3,.e 4,.e 5]⟩,
 ⟨82,.outI "rBegin.8" lB,[.e 10,.e 0,.e 1,.e 2,.e 3,.e 4,.e 5]⟩,
 ⟨83,.outB "rBegin.9" lV,[.e 10,.e 0,.e 1,.e 2,.e 3,.e 4,.e 5]⟩,
 ⟨84,.outB "rBegin.10" jq,[.e 10,.e 0,.e 1,.e 2,.e 3,.e 4,.e 5]⟩,
 ⟨85,.outB "rBegin.11" j6,[.e 10,.e 0,.e 1,.e 2,.e 3,.e 4,.e 5]⟩,
 ⟨86,.outB "rBegin.12" kI,[.e 10,.e 0,.e 1,.e 2,.e 3,.e 4,.e 5]⟩,
 ⟨87,.outB "rBegin.13" kE,[.e 10,.e 0,.e 1,.e 2,.e 3,.e 4,.e 5]⟩,
 ⟨88,.outB "rBegin.14" jt,[.e 10,.e 0,.e 1,.e 2,.e 3,.e 4,.e 5]⟩,
 ⟨89,.outB "rBegin.15" jr,[.e 10,.e 0,.e 1,.e 2,.e 3,.e 4,.e 5]⟩,
 ⟨90,.outB "rBegin.16" kD,[.e 10,.e 0,.e 1,.e 2,.e 3,.e 4,.e 5]⟩]
def m9:List En:=[⟨91,.outI "rBegin.17" j8,[.e 10,.e 0,.e 1,.e 2,.e 3,.e 4,.e 5]⟩,
 ⟨92,.outI "rBegin.18" j5,[.e 10,.e 0,.e 1,.e 2,.e 3,.e 4,.e 5]⟩,
 ⟨93,.outB "rBegin.19" ju,[.e 10,.e 0,.e 1,.e 2,.e 3,.e 4,.e 5]⟩,
 ⟨94,.outB "rBegin.20" kG,[.e 10,.e 0,.e 1,.e 2,.e 3,.e 4,.e 5]⟩,
 ⟨95,.outB "rBegin.21" kH,[.e 10,.e 0,.e 1,.e 2,.e 3,.e 4,.e 5]⟩,
 ⟨96,.outI "rBegin.22" jv,[.e 10,.e 0,.e 1,.e 2,.e 3,.e 4,.e 5]⟩,
 ⟨97,.outI "rBegin.23" jx,[.e 10,.e 0,.e 1,.e 2,.e 3,.e 4,.e 5]⟩,
 ⟨98,.outI "rBegin.24" kF,[.e 10,.e 0,.e 1,.e 2,.e 3,.e 4,.e 5]⟩,
 ⟨99,.outI "rBegin.25" j9,[.e 10,.e 0,.e 1,.e 2,.e 3,.e 4,.e 5]⟩,
 ⟨100,.outI "rBegin.26" js,[.e 10,.e 0,.e 1,.e 2,.e 3,.e 4,.e 5]⟩,
 ⟨101,.eq,[.e 19,.e 21]⟩,
 ⟨102,.and,[.e 18,.e 101]⟩,
 ⟨103,.eq,[.e 23,.e 25]⟩,
 ⟨104,.and,[.e 101,.e 103]⟩,
 ⟨105,.and,[.e 18,.e 104]⟩,
 ⟨106,.eqs [.s,.i,.i],[.e 27,.e 34,.e 28,.e 35,.e 29,.e 36]⟩]
def nD:List En:=[⟨107,.and,[.e 104,.e 106]⟩,
 ⟨108,.and,[.e 18,.e 107]⟩,
 ⟨109,.eqs [.s,.i,.i],[.e 30,.e 37,.e 31,.e 38,.e 32,.e 39]⟩,
 ⟨110,.and,[.e 107,.e 109]⟩,
 ⟨111,.and,[.e 18,.e 110]⟩,
 ⟨112,.eqs [.i,.i],[.e 41,.e 44,.e 42,.e 45]⟩,
 ⟨113,.and,[.e 110,.e 112]⟩,
 ⟨114,.and,[.e 18,.e 113]⟩,
 ⟨115,.eqs [.i,.i,.i,.i,.i,.i,.i,.i,.i,.b,.b,.b,.b,.b,.b,.b,.b,.i,.i,.b,.b,.b,.i,.i,.i,.i],[.e 47,.e 74,.e 48,.e 75,.e 49,.e 76,.e 50,.e 77,.e 51,.e 78,.e 52,.e 79,.e 53,.e 80,.e 54,.e 81,.e 55,.e 82,.e 56,.e 83,.e 57,.e 84,.e 58,.e 85,.e 59,.e 86,.e 60,.e 87,.e 61,.e 88,.e 62,.e 89,.e 63,.e 90,.e 64,.e 91,.e 65,.e 92,.e 66,.e 93,.e 67,.e 94,.e 68,.e 95,.e 69,.e 96,.e 70,.e 97,.e 71,.e 98,.e 72,.e 99]⟩,
 ⟨116,.and,[.e 113,.e 115]⟩,
 ⟨117,.and,[.e 18,.e 116]⟩,
 ⟨118,.eq,[.e 20,.e 22]⟩,
 ⟨119,.and,[.e 116,.e 118]⟩,
 ⟨120,.and,[.e 18,.e 119]⟩,
 ⟨121,.eq,[.e 24,.e 26]⟩,
 ⟨122,.and,[.e 119,.e 121]⟩]
def my:List En:=[⟨123,.and,[.e 18,.e 122]⟩,
 ⟨124,.eq,[.e 33,.e 40]⟩,
 ⟨125,.and,[.e 122,.e 124]⟩,
 ⟨126,.and,[.e 18,.e 125]⟩,
 ⟨127,.eq,[.e 43,.e 46]⟩,
 ⟨128,.and,[.e 125,.e 127]⟩,
 ⟨129,.and,[.e 18,.e 128]⟩,
 ⟨130,.eq,[.e 73,.e 100]⟩,
 ⟨131,.and,[.e 128,.e 130]⟩,
 ⟨132,.and,[.e 18,.e 131]⟩,
 ⟨133,.outB "works.0" Db,[]⟩,
 ⟨134,.and,[.e 131,.e 133]⟩,
 ⟨135,.ite .b,[.e 16,.e 17,.e 134]⟩,
 ⟨136,.or,[.e 16,.e 18]⟩]
def mB:List En:=nA++(nF++(nC++(nB++(m8++(m9++(nD++(my)))))))
def mq:List ObE:=[]
def oz:List Rf:=[.e 135]
theorem ow:TG 11 (UY Try.prog [(17,NM),(48,mD),(29,Hw),(49,jn),(16,FC),(50,ld),(28,jZ),(51,kL),(52,mC),(53,jY),(15,G6)] AW 3000 20 12 mU 11)=some (135,(mB).map En.be,mq.map ObE.be):=by kernel_rfl
theorem ov {T:Tab}(hz0:(S T 0).size<=140737488355328)(hz3:(S T 3).size<=140737488355328)(A0:AH T mB):
  ((B T 135)=(true)):=by
 obtain⟨F0,A0⟩:=A0.cut;obtain⟨F1,A0⟩:=A0.cut;obtain⟨F2,A0⟩:=A0.cut;obtain⟨F3,A0⟩:=A0.cut;obtain⟨F4,A0⟩:=A0.cut;obtain⟨F5,A0⟩:=A0.cut;obtain⟨F6,A0⟩:=A0.cut;have F7:=A0;clear A0
 .obtain⟨-,-,-,-,-,-,e17,-,e19,e20,e21,e22,e23,e24,e25,e26,-⟩:=F0;obtain⟨e27,e28,e29,e30,e31,e32,e33,e34,e35,e36,e37,e38,e39,e40,e41,e42,-⟩:=F1;obtain⟨e43,e44,e45,e46,e47,e48,e49,e50,e51,e52,e53,e54,e55,e56,e57,e58,-⟩:=F2;obtain⟨e59,e60,e61,e62,e63,e64,e65,e66,e67,e68,e69,e70,e71,e72,e73,e74,-⟩:=F3;obtain⟨e75,e76,e77,e78,e79,e80,e81,e82,e83,e84,e85,e86,e87,e88,e89,e90,-⟩:=F4;obtain⟨e91,e92,e93,e94,e95,e96,e97,e98,e99,e100,e101,-,e103,e104,-,e106,-⟩:=F5;obtain⟨e107,-,e109,e110,-,e112,e113,-,e115,e116,-,e118,e119,-,e121,e122,-⟩:=F6;obtain⟨-,e124,e125,-,e127,e128,-,e130,e131,-,e133,e134,e135,-⟩:=F7;replace e17:B T 17=(true):=e17;replace e19:I T 19=(if (Ay (I T 6) (-10000) 10000&&Ay (I T 7) (-10000) 10000)=true then Ar (I T 6) (I T 7) (B T 8) else 0):=e19;replace e20:I T 20=(if (Ay (I T 6) (-10000) 10000&&Ay (I T 7) (-10000) 10000)=true then 0 else 3):=e20;replace e21:I T 21=(if (Ay (I T 6) (-10000) 10000&&Ay (I T 7) (-10000) 10000)=true then Ar (I T 6) (I T 7) (B T 8) else 0):=e21;replace e22:I T 22=(if (Ay (I T 6) (-10000) 10000&&Ay (I T 7) (-10000) 10000)=true then 0 else 3):=e22;replace e23:I T 23=(if Ay (I T 9) (-12) 48=true then BU (I T 9) else 0):=e23;replace e24:I T 24=(if Ay (I T 9) (-12) 48=true then 0 else 3):=e24;replace e25:I T 25=(if Ay (I T 9) (-12) 48=true then BU (I T 9) else 0):=e25;replace e26:I T 26=(if Ay (I T 9) (-12) 48=true then 0 else 3):=e26;replace e27:S T 27=(if Am (S T 0) (I T 1) (I T 2) (S T 3) (I T 4) (I T 5)=0 then (S T 0) else (⟨#[]⟩:ByteArray)):=e27;replace e28:I T 28=(if Am (S T 0) (I T 1) (I T 2) (S T 3) (I T 4) (I T 5)=0 then Ax (I T 1) (Ar (I T 1) (I T 4) (B T 8)) else 0):=e28;replace e29:I T 29=(if Am (S T 0) (I T 1) (I T 2) (S T 3) (I T 4) (I T 5)=0 then CT (Ax (I T 1) (Ar (I T 1) (I T 4) (B T 8))) (I T 2) else 0):=e29;replace e30:S T 30=(if Am (S T 0) (I T 1) (I T 2) (S T 3) (I T 4) (I T 5)=0 then (S T 3) else (⟨#[]⟩:ByteArray)):=e30;replace e31:I T 31=(if Am (S T 0) (I T 1) (I T 2) (S T 3) (I T 4) (I T 5)=0 then Ax (I T 4) (-(Ar (I T 1) (I T 4) (B T 8))) else 0):=e31;replace e32:I T 32=(if Am (S T 0) (I T 1) (I T 2) (S T 3) (I T 4) (I T 5)=0 then CT (Ax (I T 4) (-(Ar (I T 1) (I T 4) (B T 8)))) (I T 5) else 0):=e32;replace e33:I T 33=(Am (S T 0) (I T 1) (I T 2) (S T 3) (I T 4) (I T 5)):=e33;replace e34:S T 34=(if Am (S T 0) (I T 1) (I T 2) (S T 3) (I T 4) (I T 5)=0 then (S T 0) else (⟨#[]⟩:ByteArray)):=e34;replace e35:I T 35=(if Am (S T 0) (I T 1) (I T 2) (S T 3) (I T 4) (I T 5)=0 then Ax (I T 1) (Ar (I T 1) (I T 4) (B T 8)) else 0):=e35;replace e36:I T 36=(if Am (S T 0) (I T 1) (I T 2) (S T 3) (I T 4) (I T 5)=0 then CT (Ax (I T 1) (Ar (I T 1) (I T 4) (B T 8))) (I T 2) else 0):=e36;replace e37:S T 37=(if Am (S T 0) (I T 1) (I T 2) (S T 3) (I T 4) (I T 5)=0 then (S T 3) else (⟨#[]⟩:ByteArray)):=e37;replace e38:I T 38=(if Am (S T 0) (I T 1) (I T 2) (S T 3) (I T 4) (I T 5)=0 then Ax (I T 4) (-(Ar (I T 1) (I T 4) (B T 8))) else 0):=e38;replace e39:I T 39=(if Am (S T 0) (I T 1) (I T 2) (S T 3) (I T 4) (I T 5)=0 then CT (Ax (I T 4) (-(Ar (I T 1) (I T 4) (B T 8)))) (I T 5) else 0):=e39;replace e40:I T 40=(Am (S T 0) (I T 1) (I T 2) (S T 3) (I T 4) (I T 5)):=e40;replace e41:I T 41=(if Am (S T 0) (I T 1) (I T 2) (S T 3) (I T 4) (I T 5)=0 then jJ (I T 2) (I T 5) else 0):=e41;replace e42:I T 42=(if Am (S T 0) (I T 1) (I T 2) (S T 3) (I T 4) (I T 5)=0 then jJ (I T 5) (I T 2) else 0):=e42;replace e43:I T 43=(Am (S T 0) (I T 1) (I T 2) (S T 3) (I T 4) (I T 5)):=e43;replace e44:I T 44=(if Am (S T 0) (I T 1) (I T 2) (S T 3) (I T 4) (I T 5)=0 then jJ (I T 2) (I T 5) else 0):=e44;replace e45:I T 45=(if Am (S T 0) (I T 1) (I T 2) (S T 3) (I T 4) (I T 5)=0 then jJ (I T 5) (I T 2) else 0):=e45;replace e46:I T 46=(Am (S T 0) (I T 1) (I T 2) (S T 3) (I T 4) (I T 5)):=e46;replace e47:I T 47=(if jK (I T 10) (S T 0) (I T 1) (I T 2) (S T 3) (I T 4) (I T 5)=true then (I T 10) else 0):=e47;replace e48:I T 48=((0:Int)):=e48;replace e49:I T 49=((0:Int)):=e49;replace e50:I T 50=(if jK (I T 10) (S T 0) (I T 1) (I T 2) (S T 3) (I T 4) (I T 5)=true then -1 else 0):=e50;replace e51:I T 51=(if jK (I T 10) (S T 0) (I T 1) (I T 2) (S T 3) (I T 4) (I T 5)=true then -1 else 0):=e51;replace e52:I T 52=((0:Int)):=e52;replace e53:I T 53=((0:Int)):=e53;replace e54:I T 54=((0:Int)):=e54;replace e55:I T 55=((0:Int)):=e55;replace e56:B T 56=(false):=e56;replace e57:B T 57=(false):=e57;replace e58:B T 58=(false):=e58;replace e59:B T 59=(false):=e59;replace e60:B T 60=(false):=e60;replace e61:B T 61=(false):=e61;replace e62:B T 62=(false):=e62;replace e63:B T 63=(false):=e63;replace e64:I T 64=(if jk (I T 10) (S T 0) (I T 1) (I T 2) (S T 3) (I T 4) (I T 5)=true then (jJ (I T 2) (I T 5)) else 0):=e64;replace e65:I T 65=(if jk (I T 10) (S T 0) (I T 1) (I T 2) (S T 3) (I T 4) (I T 5)=true then (jJ (I T 5) (I T 2)) else 0):=e65;replace e66:B T 66=(false):=e66;replace e67:B T 67=(false):=e67;replace e68:B T 68=(false):=e68;replace e69:I T 69=((0:Int)):=e69;replace e70:I T 70=((0:Int)):=e70;replace e71:I T 71=(if jK (I T 10) (S T 0) (I T 1) (I T 2) (S T 3) (I T 4) (I T 5)=true then -1 else 0):=e71;replace e72:I T 72=(if jK (I T 10) (S T 0) (I T 1) (I T 2) (S T 3) (I T 4) (I T 5)=true then -1 else 0):=e72;replace e73:I T 73=(mN (I T 10) (S T 0) (I T 1) (I T 2) (S T 3) (I T 4) (I T 5)):=e73;replace e74:I T 74=(if jK (I T 10) (S T 0) (I T 1) (I T 2) (S T 3) (I T 4) (I T 5)=true then (I T 10) else 0):=e74;replace e75:I T 75=((0:Int)):=e75;replace e76:I T 76=((0:Int)):=e76;replace e77:I T 77=(if jK (I T 10) (S T 0) (I T 1) (I T 2) (S T 3) (I T 4) (I T 5)=true then -1 else 0):=e77;replace e78:I T 78=(if jK (I T 10) (S T 0) (I T 1) (I T 2) (S T 3) (I T 4) (I T 5)=true then -1 else 0):=e78;replace e79:I T 79=((0:Int)):=e79;replace e80:I T 80=((0:Int)):=e80;replace e81:I T 81=((0:Int)):=e81;replace e82:I T 82=((0:Int)):=e82;replace e83:B T 83=(false):=e83;replace e84:B T 84=(false):=e84;replace e85:B T 85=(false):=e85;replace e86:B T 86=(false):=e86;replace e87:B T 87=(false):=e87;replace e88:B T 88=(false):=e88;replace e89:B T 89=(false):=e89;replace e90:B T 90=(false):=e90;replace e91:I T 91=(if jk (I T 10) (S T 0) (I T 1) (I T 2) (S T 3) (I T 4) (I T 5)=true then (jJ (I T 2) (I T 5)) else 0):=e91;replace e92:I T 92=(if jk (I T 10) (S T 0) (I T 1) (I T 2) (S T 3) (I T 4) (I T 5)=true then (jJ (I T 5) (I T 2)) else 0):=e92;replace e93:B T 93=(false):=e93;replace e94:B T 94=(false):=e94;replace e95:B T 95=(false):=e95;replace e96:I T 96=((0:Int)):=e96;replace e97:I T 97=((0:Int)):=e97;replace e98:I T 98=(if jK (I T 10) (S T 0) (I T 1) (I T 2) (S T 3) (I T 4) (I T 5)=true then -1 else 0):=e98;replace e99:I T 99=(if jK (I T 10) (S T 0) (I T 1) (I T 2) (S T 3) (I T 4) (I T 5)=true then -1 else 0):=e99;replace e100:I T 100=(mN (I T 10) (S T 0) (I T 1) (I T 2) (S T 3) (I T 4) (I T 5)):=e100;replace e133:B T 133=(true):=e133;simp only[AI,AP,zR,EN,and_true,zL,zS] at e101 e103 e104 e106 e107 e109 e110 e112 e113 e115 e116 e118 e119 e121 e122 e124 e125 e127 e128 e130 e131 e134 e135;have h104:=e104.2 ⟨e101.2 (e19.trans e21.symm),e103.2 (e23.trans e25.symm)⟩;have h107:=e107.2 ⟨h104,e106.2 ⟨e27.trans e34.symm,e28.trans e35.symm,e29.trans e36.symm⟩⟩;have h110:=e110.2 ⟨h107,e109.2 ⟨e30.trans e37.symm,e31.trans e38.symm,e32.trans e39.symm⟩⟩;have h113:=e113.2 ⟨h110,e112.2 ⟨e41.trans e44.symm,e42.trans e45.symm⟩⟩;have h116:=e116.2 ⟨h113,e115.2 ⟨e47.trans e74.symm,e48.trans e75.symm,e49.trans e76.symm,e50.trans e77.symm,e51.trans e78.symm,e52.trans e79.symm,e53.trans e80.symm,e54.trans e81.symm,e55.trans e82.symm,(by rw[e56,e83]),(by rw[e57,e84]),(by rw[e58,e85]),(by rw[e59,e86]),(by rw[e60,e87]),(by rw[e61,e88]),(by rw[e62,e89]),(by rw[e63,e90]),e64.trans e91.symm,e65.trans e92.symm,(by rw[e66,e93]),(by rw[e67,e94]),(by rw[e68,e95]),e69.trans e96.symm,e70.trans e97.symm,e71.trans e98.symm,e72.trans e99.symm⟩⟩;have h134:=e134.2 ⟨e131.2 ⟨e128.2 ⟨e125.2 ⟨e122.2 ⟨e119.2 ⟨h116,e118.2 (e20.trans e22.symm)⟩,e121.2 (e24.trans e26.symm)⟩,e124.2 (e33.trans e40.symm)⟩,e127.2 (e43.trans e46.symm)⟩,e130.2 (e73.trans e100.symm)⟩,e133⟩;rw[e135];cases h16:(B T 16)
  .exact .inr ⟨by simp,h134⟩
  .exact .inl ⟨by simp,e17⟩
theorem ni:Fd Try.prog 9 Try.f12.params.toList 0=some (mU,l7):=by kernel_rfl
theorem nz:∀p∈([(17,NM),(48,mD),(29,Hw),(49,jn),(16,FC),(50,ld),(28,jZ),(51,kL),(52,mC),(53,jY),(15,G6)]:List (FuncId × AV)),Ae Try.prog p.1 p.2:=by simp only[wJ];exact⟨gA,pK,YQ,n7,PF,ox,mg,oR,pN,ou,U9,fun _ h=>absurd h (by simp)⟩
theorem oV:∀T:Tab,AK T (BK 0 l7)->Bnd T 0 l7->RE 1048576 T 0 l7->Ac T ((mB).map En.be)->G5 T mq/\B T 135=true:=by
 intro T hS hBd hBl hE;obtain⟨hz0,-,-,hz3,-⟩:=hBd;replace hz0:(S T 0).size<=140737488355328:=hz0;replace hz3:(S T 3).size<=140737488355328:=hz3;clear hBl
 skip
 obtain⟨A0,hO⟩:=BG (tys:=[.b]) (rs:=oz) hS (by kernel_rfl) hE;have q0:=ov hz0 hz3 A0;exact⟨trivial,q0⟩
end
end Go.Eng
end
