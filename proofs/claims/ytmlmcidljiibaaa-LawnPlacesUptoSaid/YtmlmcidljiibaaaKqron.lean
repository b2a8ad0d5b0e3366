/-
  A part of the proof: K_qrond K_qron.
-/
import Derived.Test.YtmlmcidljiibaaaXQlPlaces
import Derived.Test.YtmlmcidljiibaaaE3
import Derived.Test.YtmlmcidljiibaaaE4
import Derived.Test.YtmlmcidljiibaaaKone
import Derived.Test.YtmlmcidljiibaaaKris
set_option linter.unusedVariables false
set_option linter.unusedSimpArgs false
noncomputable section
open Go Go.Eng Go.Proofs
set_option maxHeartbeats 4000000
set_option maxRecDepth 100000
namespace Go.Eng
def nK:List U→Bool:=fun us=>(onR (gAt 0 us) (aI us 11) (aI us 12))
def nJ:List U→Int:=fun us=>(A6 (gAt 0 us) (aI us 11) (aI us 12))
def nM:Ak:={ sh:=[.agg [.str,k64,k64,k64,.list [k64,k64,k64,k64,.bool],k64,k64,k64,k64,k64,.list [k64,k64,k64]],.agg [k64,k64]],blks:=[],outs:=[(.s "qron.0",EK nK),(.s "qron.1",Bj nJ)],c:= .tup [.b 13,(CR 14)],m':=[],pre:=[] }
def li:List Rf:=[.e 0,.e 1,.e 2,.e 3,.e 4,.e 5,.e 6,.e 7,.e 8,.e 9,.e 10,.e 11,.e 12]
def pB:List En:=[⟨13,.outI "one.0" Jy,li⟩,
 ⟨14,.ne,[.e 13,.c (.int 0)]⟩,
 ⟨15,.outI "one.0" Jy,li⟩,
 ⟨16,.not,[.e 14]⟩,
 ⟨17,.outB "ris.0" iZ,li⟩,
 ⟨18,.ite .i,[.e 14,.e 15,.c (.int 0)]⟩,
 ⟨19,.ite .b,[.e 14,.c (.bool false),.e 17]⟩,
 ⟨20,.or,[.e 14,.e 16]⟩]
def oO:List En:=pB
def qK:List ObE:=[]
def pV:List Rf:=[.e 19,.e 18]
theorem qM:nM.sees pV (nM.run Try.prog [(60,Oi),(84,iw)] Ah 3000 20 43)=some ((oO).map En.be,qK.map ObE.be,[]):=by kernel_rfl
theorem qL {T:Tab}(hz0:(S T 0).size≤140737488355328)(hl4:(L T 4).length≤140737488355328)(hl10:(L T 10).length≤140737488355328)(g:Ln)(hg:g=Ln.mk (S T 0) (I T 1) (I T 2) (I T 3) (L T 4) (I T 5) (I T 6) (I T 7) (I T 8) (I T 9) (L T 10))(g1:Ln)(z1:g1=Ln.mk (S T 0) (I T 1) (I T 2) (I T 3) (L T 4) (I T 5) (I T 6) (I T 7) (I T 8) (I T 9) (L T 10))(A0:AJ T oO):
  ((B T 19)=(onR g (I T 11) (I T 12)))∧
  ((I T 18)=(A6 g (I T 11) (I T 12))):=by
 have F0:=A0;clear A0
 have hw:g.wide=I T 1∧g.long=I T 2∧g.yard=I T 3∧g.nx=I T 8∧g.ny=I T 9∧g.cells=((L T 10)):=by
  rw[hg];exact⟨rfl,rfl,rfl,rfl,rfl,rfl⟩
 have hgg:g1=g:=by
  rw[z1,hg]
 have ho:(I T 13)=A6 g (I T 11) (I T 12)∧I T 15=A6 g (I T 11) (I T 12):=by
  obtain⟨e13,-,e15,-⟩:=F0
  replace e13:I T 13=(A6 g1 (I T 11) (I T 12)):=by rw[←show gAt 0 (li.map (Rf.eval T))=g1 from z1.symm];exact e13
  replace e15:I T 15=(A6 g1 (I T 11) (I T 12)):=by rw[←show gAt 0 (li.map (Rf.eval T))=g1 from z1.symm];exact e15
  exact⟨by rw[e13,hgg],by rw[e15,hgg]⟩
 have hc:(B T 14)=false↔A6 g (I T 11) (I T 12)=0:=by
  obtain⟨e13,e14,-⟩:=F0
  replace e13:I T 13=(A6 g1 (I T 11) (I T 12)):=by rw[←show gAt 0 (li.map (Rf.eval T))=g1 from z1.symm];exact e13
  simp only[AE,zR] at e14
  rw[←ho.1]
  cases k:(B T 14) with
  |true=>exact iff_of_false (by simp) (e14.1 k)
  |false=>
   refine iff_of_true rfl ?_
   apply Classical.byContradiction
   intro hn
   have:=e14.2 hn
   simp[k] at this
 refine⟨?_,?_⟩
 ·obtain⟨e13,e14,-,-,e17,-,e19,-⟩:=F0
  replace e13:I T 13=(A6 g1 (I T 11) (I T 12)):=by rw[←show gAt 0 (li.map (Rf.eval T))=g1 from z1.symm];exact e13
  replace e17:B T 17=(onS g1 (I T 11) (I T 12)):=by rw[←show gAt 0 (li.map (Rf.eval T))=g1 from z1.symm];exact e17
  simp only[AE,AF,zC,zR,zL] at e14 e19
  refine Bool.eq_iff_iff.2 ?_
  unfold onR
  rw[Bool.and_eq_true,decide_eq_true_eq,←hc,e19,Bool.not_eq_true,e17,hgg]
 ·obtain⟨e13,e14,e15,-,-,e18,-⟩:=F0
  replace e13:I T 13=(A6 g1 (I T 11) (I T 12)):=by rw[←show gAt 0 (li.map (Rf.eval T))=g1 from z1.symm];exact e13
  replace e15:I T 15=(A6 g1 (I T 11) (I T 12)):=by rw[←show gAt 0 (li.map (Rf.eval T))=g1 from z1.symm];exact e15
  simp only[AE,AF,zR,zL] at e14 e18
  rw[e18]
  cases k:(B T 14) with
  |true=>rw[if_pos rfl,ho.2]
  |false=>rw[if_neg (by simp),hc.1 k]
theorem qI:Aq Try.prog 43 nM:=by
 refine Ai (l:=[(60,Oi),(84,iw)]) BX (by simp only[List.forall_mem_cons];exact⟨ok_one,kU,fun _ h=>absurd h (by simp)⟩) qM (by kernel_rfl) fun T us hpre hT hul hS hBd hE=>?_
 change us.length=13 at hul
 obtain⟨hz0,-,-,-,⟨hl4,he4⟩,-,-,-,-,-,⟨hl10,he10⟩,-⟩:=hBd
 replace hz0:(S T 0).size≤140737488355328:=hz0
 replace hl4:(L T 4).length≤140737488355328:=hl4
 replace hl10:(L T 10).length≤140737488355328:=hl10
 obtain⟨g,hg⟩:∃g:Ln,g=Ln.mk (S T 0) (I T 1) (I T 2) (I T 3) (L T 4) (I T 5) (I T 6) (I T 7) (I T 8) (I T 9) (L T 10):=⟨_,rfl⟩
 have hgu:gAt 0 us=g:=by rw[hg];exact DU hT hul (by decide)
 have ha11:aI us 11=I T 11:=inI hT hul (by decide)
 have ha12:aI us 12=I T 12:=inI hT hul (by decide)
 clear hpre
 skip
 obtain⟨A0,hO⟩:=Ar (tys:=[.b,.i]) (rs:=pV) hS (by kernel_rfl) hE
 obtain⟨g1,z1⟩:∃g:Ln,g=Ln.mk (S T 0) (I T 1) (I T 2) (I T 3) (L T 4) (I T 5) (I T 6) (I T 7) (I T 8) (I T 9) (L T 10):=⟨_,rfl⟩
 obtain⟨q0,q1⟩:=qL hz0 hl4 hl10 g hg g1 z1 A0
 refine⟨trivial,hO.trans ?_⟩
 exact (lc (by show U.bool (B T 19)= .bool (nK us);unfold nK;rw[hgu,ha11,ha12];exact congrArg U.bool q0) (lc (by show U.int (I T 18)= .int (nJ us);unfold nJ;rw[hgu,ha11,ha12];exact congrArg U.int q1) rfl))
end Go.Eng
end
