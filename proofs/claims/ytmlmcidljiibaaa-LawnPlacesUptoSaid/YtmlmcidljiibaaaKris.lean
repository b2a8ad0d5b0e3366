/-
  A part of the proof: K_risd K_ris.
-/
import Derived.Test.YtmlmcidljiibaaaXQlPlaces
import Derived.Test.YtmlmcidljiibaaaE3
import Derived.Test.YtmlmcidljiibaaaE4
set_option linter.unusedVariables false
set_option linter.unusedSimpArgs false
noncomputable section
open Go Go.Eng Go.Proofs
set_option maxHeartbeats 4000000
set_option maxRecDepth 100000
namespace Go.Eng
def iZ:List U→Bool:=fun us=>(onS (gAt 0 us) (aI us 11) (aI us 12))
def iw:Ak:={ sh:=[.agg [.str,k64,k64,k64,.list [k64,k64,k64,k64,.bool],k64,k64,k64,k64,k64,.list [k64,k64,k64]],.agg [k64,k64]],blks:=[],outs:=[(.s "ris.0",EK iZ)],c:= .b 13,m':=[],pre:=[] }
def kA:List En:=[⟨13,.le,[.c (.int 0),.e 11]⟩,
 ⟨14,.id .b,[.e 13]⟩,
 ⟨15,.le,[.e 11,.e 1]⟩,
 ⟨16,.and,[.e 13,.e 15]⟩,
 ⟨17,.id .b,[.e 16]⟩,
 ⟨18,.le,[.c (.int 0),.e 12]⟩,
 ⟨19,.and,[.e 17,.e 18]⟩,
 ⟨20,.le,[.e 12,.e 2]⟩,
 ⟨21,.and,[.e 18,.e 20]⟩,
 ⟨22,.and,[.e 16,.e 21]⟩]
def jW:List En:=kA
def lI:List ObE:=[]
def kL:List Rf:=[.e 22]
theorem lE:iw.sees kL (iw.run Try.prog [] Ah 3000 20 84)=some ((jW).map En.be,lI.map ObE.be,[]):=by kernel_rfl
theorem lH {T:Tab}(hz0:(S T 0).size≤140737488355328)(hl4:(L T 4).length≤140737488355328)(hl10:(L T 10).length≤140737488355328)(g:Ln)(hg:g=Ln.mk (S T 0) (I T 1) (I T 2) (I T 3) (L T 4) (I T 5) (I T 6) (I T 7) (I T 8) (I T 9) (L T 10))(A0:AJ T jW):
  ((B T 22)=(onS g (I T 11) (I T 12))):=by
 have F0:=A0;clear A0
 have hw:g.wide=I T 1∧g.long=I T 2:=by
  rw[hg];exact⟨rfl,rfl⟩
 ·obtain⟨e13,-,e15,e16,-,e18,-,e20,e21,e22,-⟩:=F0
  simp only[AE,AF,zR] at*
  refine Bool.eq_iff_iff.2 ?_
  unfold onS
  rw[hw.1,hw.2,Bool.and_eq_true,Bm,Bm,e22,e16,e21,e13,e15,e18,e20]
theorem kU:Aq Try.prog 84 iw:=by
 refine Ai (l:=[]) BX (by intro p h;exact absurd h (by simp)) lE (by kernel_rfl) fun T us hpre hT hul hS hBd hE=>?_
 change us.length=13 at hul
 obtain⟨hz0,-,-,-,⟨hl4,he4⟩,-,-,-,-,-,⟨hl10,he10⟩,-⟩:=hBd
 replace hz0:(S T 0).size≤140737488355328:=hz0
 replace hl4:(L T 4).length≤140737488355328:=hl4
 replace hl10:(L T 10).length≤140737488355328:=hl10
 obtain⟨g,hg⟩:∃g:Ln,g=Ln.mk (S T 0) (I T 1) (I T 2) (I T 3) (L T 4) (I T 5) (I T 6) (I T 7) (I T 8) (I T 9) (L T 10):=⟨_,rfl⟩
 have hgu:gAt 0 us=g:=by rw[hg];exact DU hT hul (by decide)
 have ha11:aI us 11=I T 11:=inI hT hul (by decide)
 have ha12:aI us 12=I T 12:=inI hT hul (by decide)
 clear hpre
 skip
 obtain⟨A0,hO⟩:=Ar (tys:=[.b]) (rs:=kL) hS (by kernel_rfl) hE
 have q0:=lH hz0 hl4 hl10 g hg A0
 refine⟨trivial,hO.trans ?_⟩
 exact (lc (by show U.bool (B T 22)= .bool (iZ us);unfold iZ;rw[hgu,ha11,ha12];exact congrArg U.bool q0) rfl)
end Go.Eng
end
