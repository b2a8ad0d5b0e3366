/-
  A part of the proof: K_mayd K_may.
-/
import Derived.Test.YtmlmcidljiibaaaXQlTouches
import Derived.Test.YtmlmcidljiibaaaE3
import Derived.Test.YtmlmcidljiibaaaE4
import Derived.Test.YtmlmcidljiibaaaKtouched
import Derived.Test.YtmlmcidljiibaaaKon
set_option linter.unusedVariables false
set_option linter.unusedSimpArgs false
noncomputable section
open Go Go.Eng Go.Proofs
set_option maxHeartbeats 4000000
set_option maxRecDepth 100000
namespace Go.Eng
def ib:List U→Bool:=fun us=>(iJ (gAt 0 us) (aI us 11) (aI us 12) (aI us 13) (aL us 14))
def ia:List U→Int:=fun us=>(Kb (gAt 0 us) (aI us 11) (aI us 12) (aI us 11) (aI us 12) (aI us 13) (aL us 14))
def it:Ak:={ sh:=[.agg [.str,k64,k64,k64,.list [k64,k64,k64,k64,.bool],k64,k64,k64,k64,k64,.list [k64,k64,k64]],.agg [k64,k64],.one (k64),.one (.list [k64,k64,k64])],blks:=[],outs:=[(.s "may.0",EK ib),(.s "may.1",Bj ia)],c:= .tup [.b 15,(CR 16)],m':=[],pre:=[] }
def gv:List Rf:=[.e 0,.e 1,.e 2,.e 3,.e 4,.e 5,.e 6,.e 7,.e 8,.e 9,.e 10,.e 11,.e 12,.e 13,.e 14]
def i6:List Rf:=[.e 0,.e 1,.e 2,.e 3,.e 4,.e 5,.e 6,.e 7,.e 8,.e 9,.e 10,.e 11,.e 12]
def jz:List En:=[⟨15,.outL "touched.0" gj,gv⟩,
 ⟨16,.outI "touched.1" gh,gv⟩,
 ⟨17,.ne,[.e 16,.c (.int 0)]⟩,
 ⟨18,.not,[.e 17]⟩,
 ⟨19,.len,[.e 15]⟩,
 ⟨20,.eq,[.e 19,.c (.int 0)]⟩,
 ⟨21,.and,[.e 18,.e 20]⟩,
 ⟨22,.outB "on.0" ir,i6⟩,
 ⟨23,.and,[.e 20,.e 22]⟩,
 ⟨24,.ite .i,[.e 17,.e 16,.c (.int 0)]⟩,
 ⟨25,.ite .b,[.e 17,.c (.bool false),.e 23]⟩,
 ⟨26,.or,[.e 17,.e 18]⟩]
def jU:List En:=jz
def lF:List ObE:=[]
def kM:List Rf:=[.e 25,.e 24]
theorem lD:it.sees kM (it.run Try.prog [(20,gf),(83,jL)] Ah 3000 20 30)=some ((jU).map En.be,lF.map ObE.be,[]):=by kernel_rfl
theorem lG {T:Tab}(hz0:(S T 0).size≤140737488355328)(hl4:(L T 4).length≤140737488355328)(hl10:(L T 10).length≤140737488355328)(hl14:(L T 14).length≤140737488355328)(g:Ln)(hg:g=Ln.mk (S T 0) (I T 1) (I T 2) (I T 3) (L T 4) (I T 5) (I T 6) (I T 7) (I T 8) (I T 9) (L T 10))(g1:Ln)(z1:g1=Ln.mk (S T 0) (I T 1) (I T 2) (I T 3) (L T 4) (I T 5) (I T 6) (I T 7) (I T 8) (I T 9) (L T 10))(g2:Ln)(z2:g2=Ln.mk (S T 0) (I T 1) (I T 2) (I T 3) (L T 4) (I T 5) (I T 6) (I T 7) (I T 8) (I T 9) (L T 10))(A0:AJ T jU):
  ((B T 25)=(iJ g (I T 11) (I T 12) (I T 13) (L T 14)))∧
  ((I T 24)=(Kb g (I T 11) (I T 12) (I T 11) (I T 12) (I T 13) (L T 14))):=by
 have F0:=A0;clear A0
 have hgg:g1=g∧g2=g:=by
  exact⟨by rw[z1,hg],by rw[z2,hg]⟩
 have hw:(I T 24)=Kb g (I T 11) (I T 12) (I T 11) (I T 12) (I T 13) ((L T 14)):=by
  obtain⟨-,e16,e17,-,-,-,-,-,-,e24,-⟩:=F0
  replace e16:I T 16=(Kb g1 (I T 11) (I T 12) (I T 11) (I T 12) (I T 13) (L T 14)):=by rw[←show gAt 0 (gv.map (Rf.eval T))=g1 from z1.symm];exact e16
  simp only[AE,AF,zR,zL] at e17 e24
  rw[e24]
  rw[hgg.1] at e16
  cases k:(B T 17) with
  |true=>rw[if_pos rfl,e16]
  |false=>
   rw[if_neg (by simp)]
   cases Classical.em ((I T 16)=0) with
   |inl h=>rw[←e16,h]
   |inr h=>have:=e17.2 h;simp[k] at this
 have hv:(B T 25)=iJ g (I T 11) (I T 12) (I T 13) ((L T 14)):=by
  obtain⟨e15,e16,e17,-,e19,e20,-,e22,e23,e24,e25,-⟩:=F0
  replace e15:L T 15=(Nz g1 (I T 11) (I T 12) (I T 11) (I T 12) (I T 13) (L T 14)):=by rw[←show gAt 0 (gv.map (Rf.eval T))=g1 from z1.symm];exact e15
  replace e16:I T 16=(Kb g1 (I T 11) (I T 12) (I T 11) (I T 12) (I T 13) (L T 14)):=by rw[←show gAt 0 (gv.map (Rf.eval T))=g1 from z1.symm];exact e16
  replace e22:B T 22=(onS g2 (I T 11) (I T 12)):=by rw[←show gAt 0 (i6.map (Rf.eval T))=g2 from z2.symm];exact e22
  simp only[AE,AF,zC,zR,zL] at*
  refine Bool.eq_iff_iff.2 ?_
  unfold iJ
  rw[←hw,Bool.and_eq_true,Bool.and_eq_true,decide_eq_true_eq,decide_eq_true_eq]
  rw[hgg.1] at e15
  rw[hgg.2] at e22
  rw[←e15,←e22]
  clear e15 e22 hw e16 hgg
  grind
 refine⟨?_,?_⟩
 ·obtain⟨e15,e16,e17,-,e19,e20,-,e22,e23,-,e25,-⟩:=F0
  replace e15:L T 15=(Nz g1 (I T 11) (I T 12) (I T 11) (I T 12) (I T 13) (L T 14)):=by rw[←show gAt 0 (gv.map (Rf.eval T))=g1 from z1.symm];exact e15
  replace e16:I T 16=(Kb g1 (I T 11) (I T 12) (I T 11) (I T 12) (I T 13) (L T 14)):=by rw[←show gAt 0 (gv.map (Rf.eval T))=g1 from z1.symm];exact e16
  replace e22:B T 22=(onS g2 (I T 11) (I T 12)):=by rw[←show gAt 0 (i6.map (Rf.eval T))=g2 from z2.symm];exact e22
  simp only[AE,AF,zC,zR,zL] at*
  exact hv
 ·obtain⟨-,e16,e17,-,-,-,-,-,-,e24,-⟩:=F0
  replace e16:I T 16=(Kb g1 (I T 11) (I T 12) (I T 11) (I T 12) (I T 13) (L T 14)):=by rw[←show gAt 0 (gv.map (Rf.eval T))=g1 from z1.symm];exact e16
  simp only[AE,AF,zR,zL] at e17 e24
  exact hw
theorem kl:Aq Try.prog 30 it:=by
 refine Ai (l:=[(20,gf),(83,jL)]) BX (by simp only[List.forall_mem_cons];exact⟨iv,lC,fun _ h=>absurd h (by simp)⟩) lD (by kernel_rfl) fun T us hpre hT hul hS hBd hE=>?_
 change us.length=15 at hul
 obtain⟨hz0,-,-,-,⟨hl4,he4⟩,-,-,-,-,-,⟨hl10,he10⟩,-,-,-,⟨hl14,he14⟩,-⟩:=hBd
 replace hz0:(S T 0).size≤140737488355328:=hz0
 replace hl4:(L T 4).length≤140737488355328:=hl4
 replace hl10:(L T 10).length≤140737488355328:=hl10
 replace hl14:(L T 14).length≤140737488355328:=hl14
 obtain⟨g,hg⟩:∃g:Ln,g=Ln.mk (S T 0) (I T 1) (I T 2) (I T 3) (L T 4) (I T 5) (I T 6) (I T 7) (I T 8) (I T 9) (L T 10):=⟨_,rfl⟩
 have hgu:gAt 0 us=g:=by rw[hg];exact DU hT hul (by decide)
 have ha11:aI us 11=I T 11:=inI hT hul (by decide)
 have ha12:aI us 12=I T 12:=inI hT hul (by decide)
 have ha13:aI us 13=I T 13:=inI hT hul (by decide)
 have ha14:aL us 14=L T 14:=inL hT hul (by decide)
 clear hpre
 skip
 obtain⟨A0,hO⟩:=Ar (tys:=[.b,.i]) (rs:=kM) hS (by kernel_rfl) hE
 obtain⟨g1,z1⟩:∃g:Ln,g=Ln.mk (S T 0) (I T 1) (I T 2) (I T 3) (L T 4) (I T 5) (I T 6) (I T 7) (I T 8) (I T 9) (L T 10):=⟨_,rfl⟩
 obtain⟨g2,z2⟩:∃g:Ln,g=Ln.mk (S T 0) (I T 1) (I T 2) (I T 3) (L T 4) (I T 5) (I T 6) (I T 7) (I T 8) (I T 9) (L T 10):=⟨_,rfl⟩
 obtain⟨q0,q1⟩:=lG hz0 hl4 hl10 hl14 g hg g1 z1 g2 z2 A0
 refine⟨trivial,hO.trans ?_⟩
 exact (lc (by show U.bool (B T 25)= .bool (ib us);unfold ib;rw[hgu,ha11,ha12,ha13,ha14];exact congrArg U.bool q0) (lc (by show U.int (I T 24)= .int (ia us);unfold ia;rw[hgu,ha11,ha12,ha13,ha14];exact congrArg U.int q1) rfl))
end Go.Eng
end
