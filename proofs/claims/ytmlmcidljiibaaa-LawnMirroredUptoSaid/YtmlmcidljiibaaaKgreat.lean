/-
  A part of the proof: K_greatd K_great.
-/
import Derived.Test.YtmlmcidljiibaaaE4
import Derived.Test.YtmlmcidljiibaaaE5
set_option linter.unusedVariables false
set_option linter.unusedSimpArgs false
noncomputable section
open Go Go.Eng Go.Proofs
set_option maxHeartbeats 4000000
set_option maxRecDepth 100000
namespace Go.Eng
def IF:List U→Bool:=fun us=>(NB (gAt 0 us))
def HP:Ak:={ sh:=[.agg [.str,k64,k64,k64,.list [k64,k64,k64,k64,.bool],k64,k64,k64,k64,k64,.list [k64,k64,k64]]],blks:=[],outs:=[(.s "great.0",DF IF)],c:= .b 11,m':=[],pre:=[] }
def V1:List En:=[⟨11,.slen,[.e 0]⟩,
 ⟨12,.lt,[.c (.int 100),.e 11]⟩,
 ⟨13,.not,[.e 12]⟩,
 ⟨14,.len,[.e 4]⟩,
 ⟨15,.lt,[.c (.int 20),.e 14]⟩,
 ⟨16,.or,[.e 12,.e 15]⟩,
 ⟨17,.not,[.e 16]⟩,
 ⟨18,.len,[.e 10]⟩,
 ⟨19,.lt,[.c (.int 300),.e 18]⟩,
 ⟨20,.or,[.e 16,.e 19]⟩]
def Rb:List En:=V1
def iN:List ObE:=[]
def Xn:List Rf:=[.e 20]
theorem gS:HP.sees Xn (HP.run Try.prog [] Ag 3000 20 12)=some ((Rb).map En.be,iN.map ObE.be,[]):=by kernel_rfl
theorem iF {T:Tab}(hz0:(S T 0).size≤140737488355328)(hl4:(L T 4).length≤140737488355328)(hl10:(L T 10).length≤140737488355328)(g:Ln)(hg:g=Ln.mk (S T 0) (I T 1) (I T 2) (I T 3) (L T 4) (I T 5) (I T 6) (I T 7) (I T 8) (I T 9) (L T 10))(A0:AI T Rb):
  ((B T 20)=(NB g)):=by
 have F0:=A0;clear A0
 ·obtain⟨e11,e12,-,e14,e15,e16,-,e18,e19,e20,-⟩:=F0
  simp only[AE,AG,zR,zL,zS] at*
  refine Bool.eq_iff_iff.2 ?_
  rw[hg,aK,e20,e16,e12,e15,e19,e11,e14,e18]
  show _↔((100 < ((S T 0)).size∨20 < ((L T 4)).length)∨300 < ((L T 10)).length)
  omega
theorem T3:Ao Try.prog 12 HP:=by
 refine AZ (l:=[]) BH (by intro p h;exact absurd h (by simp)) gS (by kernel_rfl) fun T us hpre hT hul hS hBd hE=>?_
 change us.length=11 at hul
 obtain⟨hz0,-,-,-,⟨hl4,he4⟩,-,-,-,-,-,⟨hl10,he10⟩,-⟩:=hBd
 replace hz0:(S T 0).size≤140737488355328:=hz0
 replace hl4:(L T 4).length≤140737488355328:=hl4
 replace hl10:(L T 10).length≤140737488355328:=hl10
 obtain⟨g,hg⟩:∃g:Ln,g=Ln.mk (S T 0) (I T 1) (I T 2) (I T 3) (L T 4) (I T 5) (I T 6) (I T 7) (I T 8) (I T 9) (L T 10):=⟨_,rfl⟩
 have hgu:gAt 0 us=g:=by rw[hg];exact Cu hT hul (by decide)
 clear hpre
 skip
 obtain⟨A0,hO⟩:=Ap (tys:=[.b]) (rs:=Xn) hS (by kernel_rfl) hE
 have q0:=iF hz0 hl4 hl10 g hg A0
 refine⟨trivial,hO.trans ?_⟩
 exact (lc (by show U.bool (B T 20)= .bool (IF us);unfold IF;rw[hgu];exact congrArg U.bool q0) rfl)
end Go.Eng
end
