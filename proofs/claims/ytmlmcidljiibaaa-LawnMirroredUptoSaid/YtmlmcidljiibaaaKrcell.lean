/-
  A part of the proof: K_rcelld K_rcell.
-/
import Derived.Test.YtmlmcidljiibaaaE4
import Derived.Test.YtmlmcidljiibaaaE5
set_option linter.unusedVariables false
set_option linter.unusedSimpArgs false
noncomputable section
open Go Go.Eng Go.Proofs
set_option maxHeartbeats 4000000
set_option maxRecDepth 100000
namespace Go.Eng
def KS:List U→Bool:=fun us=>(BT (aI us 0) (aI us 1) (aI us 2))
def Kp:Ak:={ sh:=[.agg [k64,k64,k64]],blks:=[],outs:=[(.s "rcell.0",DF KS)],c:= .b 3,m':=[],pre:=[] }
def VZ:List En:=[⟨3,.le,[.c (.int 0),.e 0]⟩,
 ⟨4,.id .b,[.e 3]⟩,
 ⟨5,.le,[.e 0,.c (.int 65536)]⟩,
 ⟨6,.and,[.e 3,.e 5]⟩,
 ⟨7,.id .b,[.e 6]⟩,
 ⟨8,.le,[.c (.int (-4096)),.e 1]⟩,
 ⟨9,.and,[.e 7,.e 8]⟩,
 ⟨10,.le,[.e 1,.c (.int 4096)]⟩,
 ⟨11,.and,[.e 8,.e 10]⟩,
 ⟨12,.and,[.e 6,.e 11]⟩,
 ⟨13,.id .b,[.e 12]⟩,
 ⟨14,.le,[.c (.int (-4096)),.e 2]⟩,
 ⟨15,.and,[.e 13,.e 14]⟩,
 ⟨16,.le,[.e 2,.c (.int 4096)]⟩,
 ⟨17,.and,[.e 14,.e 16]⟩,
 ⟨18,.and,[.e 12,.e 17]⟩]
def RX:List En:=VZ
def fX:List ObE:=[]
def XW:List Rf:=[.e 18]
theorem gF:Kp.sees XW (Kp.run Try.prog [] Ag 3000 20 68)=some ((RX).map En.be,fX.map ObE.be,[]):=by kernel_rfl
theorem fS {T:Tab}(A0:AI T RX):
  ((B T 18)=(BT (I T 0) (I T 1) (I T 2))):=by
 have F0:=A0;clear A0
 ·obtain⟨e3,-,e5,e6,-,e8,-,e10,e11,e12,-,e14,-,e16,e17,e18,-⟩:=F0
  simp only[AE,AG,zR] at*
  refine Mm ?_
  (try simp only[BT,Bo,Bool.and_eq_true,zB])<;>(try constructor)<;>grind (splits:=100)
theorem dO:Ao Try.prog 68 Kp:=by
 refine AZ (l:=[]) BH (by intro p h;exact absurd h (by simp)) gF (by kernel_rfl) fun T us hpre hT hul hS hBd hE=>?_
 change us.length=3 at hul
 clear hBd
 have ha0:aI us 0=I T 0:=inI hT hul (by decide)
 have ha1:aI us 1=I T 1:=inI hT hul (by decide)
 have ha2:aI us 2=I T 2:=inI hT hul (by decide)
 clear hpre
 skip
 obtain⟨A0,hO⟩:=Ap (tys:=[.b]) (rs:=XW) hS (by kernel_rfl) hE
 have q0:=fS A0
 refine⟨trivial,hO.trans ?_⟩
 exact (lc (by show U.bool (B T 18)= .bool (KS us);unfold KS;rw[ha0,ha1,ha2];exact congrArg U.bool q0) rfl)
end Go.Eng
end
