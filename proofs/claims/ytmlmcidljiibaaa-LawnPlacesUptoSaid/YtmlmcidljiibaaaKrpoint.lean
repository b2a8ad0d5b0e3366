/-
  A part of the proof: K_rpointd K_rpoint.
-/
import Derived.Test.YtmlmcidljiibaaaE3
import Derived.Test.YtmlmcidljiibaaaE4
set_option linter.unusedVariables false
set_option linter.unusedSimpArgs false
noncomputable section
open Go Go.Eng Go.Proofs
set_option maxHeartbeats 4000000
set_option maxRecDepth 100000
namespace Go.Eng
def GY:List U→Bool:=fun us=>(AH (aI us 0) (aI us 1))
def FX:Ak:={ sh:=[.agg [k64,k64]],blks:=[],outs:=[(.s "rpoint.0",EK GY)],c:= .b 2,m':=[],pre:=[] }
def SA:List En:=[⟨2,.le,[.c (.int (-4194304)),.e 0]⟩,
 ⟨3,.id .b,[.e 2]⟩,
 ⟨4,.le,[.e 0,.c (.int 4194304)]⟩,
 ⟨5,.and,[.e 2,.e 4]⟩,
 ⟨6,.id .b,[.e 5]⟩,
 ⟨7,.le,[.c (.int (-4194304)),.e 1]⟩,
 ⟨8,.and,[.e 6,.e 7]⟩,
 ⟨9,.le,[.e 1,.c (.int 4194304)]⟩,
 ⟨10,.and,[.e 7,.e 9]⟩,
 ⟨11,.and,[.e 5,.e 10]⟩]
def O6:List En:=SA
def ac:List ObE:=[]
def SD:List Rf:=[.e 11]
theorem bF:FX.sees SD (FX.run Try.prog [] Ah 3000 20 80)=some ((O6).map En.be,ac.map ObE.be,[]):=by kernel_rfl
theorem Z1 {T:Tab}(A0:AJ T O6):
  ((B T 11)=(AH (I T 0) (I T 1))):=by
 have F0:=A0;clear A0
 ·obtain⟨e2,-,e4,e5,-,e7,-,e9,e10,e11,-⟩:=F0
  simp only[AE,AF,zR] at*
  refine Lz ?_
  (try simp only[AH,Bm,Bool.and_eq_true,zB])<;>(try constructor)<;>grind (splits:=100)
theorem Q8:Aq Try.prog 80 FX:=by
 refine Ai (l:=[]) BX (by intro p h;exact absurd h (by simp)) bF (by kernel_rfl) fun T us hpre hT hul hS hBd hE=>?_
 change us.length=2 at hul
 clear hBd
 have ha0:aI us 0=I T 0:=inI hT hul (by decide)
 have ha1:aI us 1=I T 1:=inI hT hul (by decide)
 clear hpre
 skip
 obtain⟨A0,hO⟩:=Ar (tys:=[.b]) (rs:=SD) hS (by kernel_rfl) hE
 have q0:=Z1 A0
 refine⟨trivial,hO.trans ?_⟩
 exact (lc (by show U.bool (B T 11)= .bool (GY us);unfold GY;rw[ha0,ha1];exact congrArg U.bool q0) rfl)
end Go.Eng
end
