/-
  A part of the proof: K_gradedd K_graded.
-/
import Derived.Test.YtikbgnmcfncnaaaE4
import Derived.Test.YtikbgnmcfncnaaaE6
import Derived.Test.YtikbgnmcfncnaaaKTrigger
set_option linter.unusedVariables false
set_option linter.unusedSimpArgs false
noncomputable section
open Go Go.Eng Go.Proofs
set_option maxHeartbeats 4000000
set_option maxRecDepth 100000
namespace Go.Eng
def ED:List U→Bool:=fun us=>(D2 (aI us 1) (aI us 2))
def Jg:AV:={ sh:=[.agg [.str,k64,k64]],blks:=[],outs:=[(.s "graded.0",MJ ED)],c:= .b 3,m':=[],pre:=[] }
def Tq:List En:=[⟨3,.lt,[.e 2,.c (.int (-12))]⟩,
 ⟨4,.not,[.e 3]⟩,
 ⟨5,.lt,[.c (.int 48),.e 2]⟩,
 ⟨6,.or,[.e 3,.e 5]⟩,
 ⟨7,.not,[.e 6]⟩,
 ⟨8,.lt,[.c (.int (-12)),.e 2]⟩,
 ⟨9,.and,[.e 7,.e 8]⟩,
 ⟨10,.w2 .i64 .sub,[.e 2,.c (.int 1)]⟩,
 ⟨11,.outI "Trigger.0" Fi,[.e 10]⟩,
 ⟨12,.outI "Trigger.1" FZ,[.e 10]⟩,
 ⟨13,.ne,[.e 12,.c (.int 0)]⟩,
 ⟨14,.and,[.e 9,.n 13]⟩,
 ⟨15,.le,[.e 11,.e 1]⟩,
 ⟨16,.or,[.e 13,.e 15]⟩,
 ⟨17,.and,[.e 9,.e 16]⟩,
 ⟨18,.and,[.e 9,.n 16]⟩]
def VG:List En:=[⟨19,.and,[.e 7,.n 8]⟩,
 ⟨20,.or,[.e 18,.e 19]⟩,
 ⟨21,.lt,[.e 2,.c (.int 48)]⟩,
 ⟨22,.and,[.e 20,.e 21]⟩,
 ⟨23,.w2 .i64 .add,[.e 2,.c (.int 1)]⟩,
 ⟨24,.outI "Trigger.0" Fi,[.e 23]⟩,
 ⟨25,.outI "Trigger.1" FZ,[.e 23]⟩,
 ⟨26,.ne,[.e 25,.c (.int 0)]⟩,
 ⟨27,.and,[.e 22,.n 26]⟩,
 ⟨28,.le,[.e 1,.e 24]⟩,
 ⟨29,.or,[.e 26,.e 28]⟩,
 ⟨30,.and,[.e 22,.e 29]⟩,
 ⟨31,.and,[.e 22,.n 29]⟩,
 ⟨32,.and,[.e 20,.n 21]⟩,
 ⟨33,.or,[.e 31,.e 32]⟩,
 ⟨34,.ite .b,[.e 30,.c (.bool false),.c (.bool true)]⟩]
def U5:List En:=[⟨35,.or,[.e 30,.e 33]⟩,
 ⟨36,.ite .b,[.e 17,.c (.bool false),.e 34]⟩,
 ⟨37,.or,[.e 17,.e 35]⟩,
 ⟨38,.ite .b,[.e 6,.c (.bool false),.e 36]⟩,
 ⟨39,.or,[.e 6,.e 37]⟩]
def QO:List En:=Tq++(VG++(U5))
def dq:List ObE:=[]
def Ug:List Rf:=[.e 38]
theorem eB:Jg.sees Ug (Jg.run Try.prog [(29,Hj)] AW 3000 20 18)=some ((QO).map En.be,dq.map ObE.be,[]):=by kernel_rfl
theorem ep {T:Tab}(hz0:(S T 0).size≤140737488355328)(A0:AH T QO):
  ((B T 38)=(D2 (I T 1) (I T 2))):=by
 obtain⟨F0,A0⟩:=A0.cut
 obtain⟨F1,A0⟩:=A0.cut
 have F2:=A0;clear A0
 ·obtain⟨e3,-,e5,e6,e7,e8,e9,e10,e11,e12,e13,-,e15,e16,e17,e18,-⟩:=F0
  obtain⟨e19,e20,e21,e22,e23,e24,e25,e26,-,e28,e29,e30,-,-,-,e34,-⟩:=F1
  obtain⟨-,e36,-,e38,-⟩:=F2
  replace e11:I T 11=(if C1 (I T 10) (-12) 48=true then BR (I T 10) else 0):=e11
  replace e12:I T 12=(if C1 (I T 10) (-12) 48=true then 0 else 3):=e12
  replace e24:I T 24=(if C1 (I T 23) (-12) 48=true then BR (I T 23) else 0):=e24
  replace e25:I T 25=(if C1 (I T 23) (-12) 48=true then 0 else 3):=e25
  simp only[AI,AS,zN,zC,zR,w2P,zL,zS] at e3 e5 e6 e7 e8 e9 e10 e13 e15 e16 e17 e18 e19 e20 e21 e22 e23 e26 e28 e29 e30 e34 e36 e38
  refine Bool.eq_iff_iff.2 (Iff.trans ?_ Hc.symm)
  by_cases hr: -12≤I T 2∧I T 2≤48
  ·have x10:=e10 (by omega) (by omega)
   have x23:=e23 (by omega) (by omega)
   have h10: -12 < I T 2→C1 (I T 10) (-12) 48=true:=fun a=>Ev.2 (by omega)
   have h23:(I T 2) < 48→C1 (I T 23) (-12) 48=true:=fun a=>Ev.2 (by omega)
   have y11: -12 < I T 2→((I T 11)=BR ((I T 2) - 1)∧I T 12=0):=fun a=>by
    rw[if_pos (h10 a)] at e11 e12;rw[x10] at e11;exact⟨e11,e12⟩
   have y24:(I T 2) < 48→((I T 24)=BR ((I T 2)+1)∧I T 25=0):=fun a=>by
    rw[if_pos (h23 a)] at e24 e25;rw[x23] at e24;exact⟨e24,e25⟩
   clear e10 e23 e11 e12 e24 e25 h10 h23
   grind
  ·clear e10 e23 e11 e12 e24 e25
   grind
theorem an:Ai Try.prog 18 Jg:=by
 refine BG (l:=[(29,Hj)]) Bq (by simp only[List.forall_mem_cons];exact⟨YX,fun _ h=>absurd h (by simp)⟩) eB (by kernel_rfl) fun T us hpre hT hul hS hBd hE=>?_
 change us.length=3 at hul
 obtain⟨hz0,-⟩:=hBd
 replace hz0:(S T 0).size≤140737488355328:=hz0
 have ha1:aI us 1=I T 1:=inI hT hul (by decide)
 have ha2:aI us 2=I T 2:=inI hT hul (by decide)
 clear hpre
 skip
 obtain⟨A0,hO⟩:=BI (tys:=[.b]) (rs:=Ug) hS (by kernel_rfl) hE
 have q0:=ep hz0 A0
 refine⟨trivial,hO.trans ?_⟩
 exact (lc (by show U.bool (B T 38)= .bool (ED us);unfold ED;rw[ha1,ha2];exact congrArg U.bool q0) rfl)
end Go.Eng
end
