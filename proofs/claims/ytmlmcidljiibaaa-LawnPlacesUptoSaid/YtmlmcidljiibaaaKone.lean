/-
  A part of the proof: K_oned K_one.
-/
import Derived.Test.YtmlmcidljiibaaaE3
import Derived.Test.YtmlmcidljiibaaaE4
import Derived.Test.YtmlmcidljiibaaaKrcheck
import Derived.Test.YtmlmcidljiibaaaKrpoint
set_option linter.unusedVariables false
set_option linter.unusedSimpArgs false
noncomputable section
open Go Go.Eng Go.Proofs
set_option maxHeartbeats 4000000
set_option maxRecDepth 100000
namespace Go.Eng
def Jy:List U→Int:=fun us=>(A6 (gAt 0 us) (aI us 11) (aI us 12))
def Oi:Ak:={ sh:=[.agg [.str,k64,k64,k64,.list [k64,k64,k64,k64,.bool],k64,k64,k64,k64,k64,.list [k64,k64,k64]],.agg [k64,k64]],blks:=[],outs:=[(.s "one.0",Bj Jy)],c:=(CR 13),m':=[],pre:=[] }
def NB:List Rf:=[.e 0,.e 1,.e 2,.e 3,.e 4,.e 5,.e 6,.e 7,.e 8,.e 9,.e 10]
def X0:List En:=[⟨13,.outI "rcheck.0" GK,NB⟩,
 ⟨14,.ne,[.e 13,.c (.int 0)]⟩,
 ⟨15,.outI "rcheck.0" GK,NB⟩,
 ⟨16,.not,[.e 14]⟩,
 ⟨17,.outB "rpoint.0" GY,[.e 11,.e 12]⟩,
 ⟨18,.and,[.e 16,.e 17]⟩,
 ⟨19,.and,[.e 16,.n 17]⟩,
 ⟨20,.ite .i,[.e 19,.c (.int 2),.c (.int 0)]⟩,
 ⟨21,.or,[.e 19,.e 18]⟩,
 ⟨22,.ite .i,[.e 14,.e 15,.e 20]⟩,
 ⟨23,.or,[.e 14,.e 21]⟩]
def Vm:List En:=X0
def ep:List ObE:=[]
def bV:List Rf:=[.e 22]
theorem fL:Oi.sees bV (Oi.run Try.prog [(16,C3),(80,FX)] Ah 3000 20 60)=some ((Vm).map En.be,ep.map ObE.be,[]):=by kernel_rfl
theorem eY {T:Tab}(hz0:(S T 0).size≤140737488355328)(hl4:(L T 4).length≤140737488355328)(hl10:(L T 10).length≤140737488355328)(g:Ln)(hg:g=Ln.mk (S T 0) (I T 1) (I T 2) (I T 3) (L T 4) (I T 5) (I T 6) (I T 7) (I T 8) (I T 9) (L T 10))(g1:Ln)(z1:g1=Ln.mk (S T 0) (I T 1) (I T 2) (I T 3) (L T 4) (I T 5) (I T 6) (I T 7) (I T 8) (I T 9) (L T 10))(A0:AJ T Vm):
  ((I T 22)=(A6 g (I T 11) (I T 12))):=by
 have F0:=A0;clear A0
 have hgg:g1=g:=by
  rw[z1,hg]
 ·obtain⟨e13,e14,e15,e16,e17,-,e19,e20,-,e22,-⟩:=F0
  replace e13:I T 13=(AT g1):=by rw[←show gAt 0 (NB.map (Rf.eval T))=g1 from z1.symm];exact e13
  replace e15:I T 15=(AT g1):=by rw[←show gAt 0 (NB.map (Rf.eval T))=g1 from z1.symm];exact e15
  replace e17:B T 17=(AH (I T 11) (I T 12)):=e17
  simp only[AE,AF,zN,zR,zL] at*
  unfold A6
  rw[e22,e15,hgg,e20]
  have h14:(B T 14)=true↔¬AT g=0:=by rw[e14,e13,hgg]
  have h19:(B T 19)=true↔(AT g=0∧¬AH (I T 11) (I T 12)=true):=by
   rw[e19,e16]
   have:=e17
   clear e15 e22 e20
   grind
  clear e13 e14 e15 e16 e17 e19 e22 e20
  grind
theorem ok_one:Aq Try.prog 60 Oi:=by
 refine Ai (l:=[(16,C3),(80,FX)]) BX (by simp only[List.forall_mem_cons];exact⟨Yw,Q8,fun _ h=>absurd h (by simp)⟩) fL (by kernel_rfl) fun T us hpre hT hul hS hBd hE=>?_
 change us.length=13 at hul
 obtain⟨hz0,-,-,-,⟨hl4,he4⟩,-,-,-,-,-,⟨hl10,he10⟩,-⟩:=hBd
 replace hz0:(S T 0).size≤140737488355328:=hz0
 replace hl4:(L T 4).length≤140737488355328:=hl4
 replace hl10:(L T 10).length≤140737488355328:=hl10
 obtain⟨g,hg⟩:∃g:Ln,g=Ln.mk (S T 0) (I T 1) (I T 2) (I T 3) (L T 4) (I T 5) (I T 6) (I T 7) (I T 8) (I T 9) (L T 10):=⟨_,rfl⟩
 have hgu:gAt 0 us=g:=by rw[hg];exact DU hT hul (by decide)
 have ha11:aI us 11=I T 11:=inI hT hul (by decide)
 have ha12:aI us 12=I T 12:=inI hT hul (by decide)
 clear hpre
 skip
 obtain⟨A0,hO⟩:=Ar (tys:=[.i]) (rs:=bV) hS (by kernel_rfl) hE
 obtain⟨g1,z1⟩:∃g:Ln,g=Ln.mk (S T 0) (I T 1) (I T 2) (I T 3) (L T 4) (I T 5) (I T 6) (I T 7) (I T 8) (I T 9) (L T 10):=⟨_,rfl⟩
 have q0:=eY hz0 hl4 hl10 g hg g1 z1 A0
 refine⟨trivial,hO.trans ?_⟩
 exact (lc (by show U.int (I T 22)= .int (Jy us);unfold Jy;rw[hgu,ha11,ha12];exact congrArg U.int q0) rfl)
end Go.Eng
end
