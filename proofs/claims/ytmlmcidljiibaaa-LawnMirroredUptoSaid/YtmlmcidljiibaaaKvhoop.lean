/-
  A part of the proof: K_vhoopd K_vhoop.
-/
import Derived.Test.YtmlmcidljiibaaaE4
import Derived.Test.YtmlmcidljiibaaaE5
set_option linter.unusedVariables false
set_option linter.unusedSimpArgs false
noncomputable section
open Go Go.Eng Go.Proofs
set_option maxHeartbeats 4000000
set_option maxRecDepth 100000
namespace Go.Eng
def KC:List U→Bool:=fun us=>(BI (aI us 0) (aI us 1) (aI us 2) (aI us 3))
def LL:Ak:={ sh:=[.agg [k64,k64,k64,k64,.bool]],blks:=[],outs:=[(.s "vhoop.0",DF KC)],c:= .b 5,m':=[],pre:=[] }
def Wp:List En:=[⟨5,.le,[.c (.int 0),.e 0]⟩,
 ⟨6,.id .b,[.e 5]⟩,
 ⟨7,.le,[.e 0,.c (.int 4194304)]⟩,
 ⟨8,.and,[.e 5,.e 7]⟩,
 ⟨9,.id .b,[.e 8]⟩,
 ⟨10,.le,[.c (.int 0),.e 1]⟩,
 ⟨11,.and,[.e 9,.e 10]⟩,
 ⟨12,.le,[.e 1,.c (.int 4194304)]⟩,
 ⟨13,.and,[.e 10,.e 12]⟩,
 ⟨14,.and,[.e 8,.e 13]⟩,
 ⟨15,.id .b,[.e 14]⟩,
 ⟨16,.le,[.c (.int 2),.e 2]⟩,
 ⟨17,.and,[.e 15,.e 16]⟩,
 ⟨18,.le,[.e 2,.c (.int 32768)]⟩,
 ⟨19,.and,[.e 16,.e 18]⟩,
 ⟨20,.and,[.e 14,.e 19]⟩]
def Vf:List En:=[⟨21,.id .b,[.e 20]⟩,
 ⟨22,.o2 .tmod,[.e 2,.c (.int 2)]⟩,
 ⟨23,.eq,[.e 22,.c (.int 0)]⟩,
 ⟨24,.and,[.e 20,.e 23]⟩,
 ⟨25,.id .b,[.e 24]⟩,
 ⟨26,.le,[.c (.int 1),.e 3]⟩,
 ⟨27,.and,[.e 25,.e 26]⟩,
 ⟨28,.le,[.e 3,.c (.int 8192)]⟩,
 ⟨29,.and,[.e 26,.e 28]⟩,
 ⟨30,.and,[.e 24,.e 29]⟩]
def SQ:List En:=Wp++(Vf)
def gw:List ObE:=[]
def Xf:List Rf:=[.e 30]
theorem gk:LL.sees Xf (LL.run Try.prog [] Ag 3000 20 103)=some ((SQ).map En.be,gw.map ObE.be,[]):=by kernel_rfl
theorem g8 {T:Tab}(A0:AI T SQ):
  ((B T 30)=(BI (I T 0) (I T 1) (I T 2) (I T 3))):=by
 obtain⟨F0,A0⟩:=A0.cut
 have F1:=A0;clear A0
 ·obtain⟨e5,-,e7,e8,-,e10,-,e12,e13,e14,-,e16,-,e18,e19,e20,-⟩:=F0
  obtain⟨-,e22,e23,e24,-,e26,-,e28,e29,e30,-⟩:=F1
  simp only[AE,AG,zR,AS] at*
  refine Mm ?_
  (try simp only[BI,Bo,Bool.and_eq_true,decide_eq_true_eq,zB])<;>(try constructor)<;>grind (splits:=100)
theorem cW:Ao Try.prog 103 LL:=by
 refine AZ (l:=[]) BH (by intro p h;exact absurd h (by simp)) gk (by kernel_rfl) fun T us hpre hT hul hS hBd hE=>?_
 change us.length=5 at hul
 clear hBd
 have ha0:aI us 0=I T 0:=inI hT hul (by decide)
 have ha1:aI us 1=I T 1:=inI hT hul (by decide)
 have ha2:aI us 2=I T 2:=inI hT hul (by decide)
 have ha3:aI us 3=I T 3:=inI hT hul (by decide)
 clear hpre
 skip
 obtain⟨A0,hO⟩:=Ap (tys:=[.b]) (rs:=Xf) hS (by kernel_rfl) hE
 have q0:=g8 A0
 refine⟨trivial,hO.trans ?_⟩
 exact (lc (by show U.bool (B T 30)= .bool (KC us);unfold KC;rw[ha0,ha1,ha2,ha3];exact congrArg U.bool q0) rfl)
end Go.Eng
end
