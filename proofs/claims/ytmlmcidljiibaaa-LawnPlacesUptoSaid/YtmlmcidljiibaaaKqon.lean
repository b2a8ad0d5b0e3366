/-
  A part of the proof: K_qond K_qon.
-/
import Derived.Test.YtmlmcidljiibaaaXQlPlaces
import Derived.Test.YtmlmcidljiibaaaE3
import Derived.Test.YtmlmcidljiibaaaE4
import Derived.Test.YtmlmcidljiibaaaKchk
set_option linter.unusedVariables false
set_option linter.unusedSimpArgs false
noncomputable section
open Go Go.Eng Go.Proofs
set_option maxHeartbeats 4000000
set_option maxRecDepth 100000
namespace Go.Eng
def nP:List U→Bool:=fun us=>(onR (gAt 0 us) (aI us 11) (aI us 12))
def nN:List U→Int:=fun us=>(A6 (gAt 0 us) (aI us 11) (aI us 12))
def nj:Ak:={ sh:=[.agg [.str,k64,k64,k64,.list [k64,k64,k64,k64,.bool],k64,k64,k64,k64,k64,.list [k64,k64,k64]],.agg [k64,k64]],blks:=[],outs:=[(.s "qon.0",EK nP),(.s "qon.1",Bj nN)],c:= .tup [.b 13,(CR 14)],m':=[],pre:=[] }
def nH:List Rf:=[.e 0,.e 1,.e 2,.e 3,.e 4,.e 5,.e 6,.e 7,.e 8,.e 9,.e 10,.e 13]
def pJ:List En:=[⟨13,.row 1 2 [.i,.i],[.e 11,.e 12]⟩,
 ⟨14,.outI "chk.0" KH,nH⟩,
 ⟨15,.ne,[.e 14,.c (.int 0)]⟩,
 ⟨16,.not,[.e 15]⟩,
 ⟨17,.le,[.c (.int 0),.e 11]⟩,
 ⟨18,.and,[.e 16,.e 17]⟩,
 ⟨19,.le,[.e 11,.e 1]⟩,
 ⟨20,.and,[.e 17,.e 19]⟩,
 ⟨21,.and,[.e 16,.e 20]⟩,
 ⟨22,.le,[.c (.int 0),.e 12]⟩,
 ⟨23,.and,[.e 21,.e 22]⟩,
 ⟨24,.le,[.e 12,.e 2]⟩,
 ⟨25,.and,[.e 22,.e 24]⟩,
 ⟨26,.and,[.e 20,.e 25]⟩,
 ⟨27,.ite .i,[.e 15,.e 14,.c (.int 0)]⟩,
 ⟨28,.ite .b,[.e 15,.c (.bool false),.e 26]⟩]
def pO:List En:=[⟨29,.or,[.e 15,.e 16]⟩]
def ov:List En:=pJ++(pO)
def qP:List ObE:=[]
def qE:List Rf:=[.e 28,.e 27]
theorem qQ:nj.sees qE (nj.run Try.prog [(52,JU)] Ah 3000 20 42)=some ((ov).map En.be,qP.map ObE.be,[]):=by kernel_rfl
theorem qO {T:Tab}(hz0:(S T 0).size≤140737488355328)(hl4:(L T 4).length≤140737488355328)(hl10:(L T 10).length≤140737488355328)(g:Ln)(hg:g=Ln.mk (S T 0) (I T 1) (I T 2) (I T 3) (L T 4) (I T 5) (I T 6) (I T 7) (I T 8) (I T 9) (L T 10))(g1:Ln)(z1:g1=Ln.mk (S T 0) (I T 1) (I T 2) (I T 3) (L T 4) (I T 5) (I T 6) (I T 7) (I T 8) (I T 9) (L T 10))(A0:AJ T ov):
  ((B T 28)=(onR g (I T 11) (I T 12)))∧
  ((I T 27)=(A6 g (I T 11) (I T 12))):=by
 obtain⟨F0,A0⟩:=A0.cut
 have F1:=A0;clear A0
 have hw:g.wide=I T 1∧g.long=I T 2∧g.yard=I T 3∧g.nx=I T 8∧g.ny=I T 9∧g.cells=((L T 10)):=by
  rw[hg];exact⟨rfl,rfl,rfl,rfl,rfl,rfl⟩
 have hgg:g1=g:=by
  rw[z1,hg]
 have ho:(I T 14)=A6 g (I T 11) (I T 12):=by
  obtain⟨e13,e14,-⟩:=F0
  replace e14:I T 14=(Bo g1 (L T 13)):=by rw[←show gAt 0 (nH.map (Rf.eval T))=g1 from z1.symm];exact e14
  simp only[AE,AF,zR,zL,zS,uR,Ab,zW] at e13
  rw[e14,hgg,e13]
  exact nl
 have hc:(B T 15)=false↔A6 g (I T 11) (I T 12)=0:=by
  obtain⟨e13,e14,e15,-⟩:=F0
  replace e14:I T 14=(Bo g1 (L T 13)):=by rw[←show gAt 0 (nH.map (Rf.eval T))=g1 from z1.symm];exact e14
  simp only[AE,AF,zR,zL,zS,uR,Ab,zW] at e13 e15
  rw[←ho]
  cases k:(B T 15) with
  |true=>exact iff_of_false (by simp) (e15.1 k)
  |false=>
   refine iff_of_true rfl ?_
   apply Classical.byContradiction
   intro hn
   have:=e15.2 hn
   simp[k] at this
 refine⟨?_,?_⟩
 ·obtain⟨e13,e14,e15,-,e17,-,e19,e20,-,e22,-,e24,e25,e26,-,e28,-⟩:=F0
  replace e14:I T 14=(Bo g1 (L T 13)):=by rw[←show gAt 0 (nH.map (Rf.eval T))=g1 from z1.symm];exact e14
  simp only[AE,AF,zC,zR,zL,zS,uR,Ab,zW] at*
  refine Bool.eq_iff_iff.2 ?_
  unfold onR onS
  rw[hw.1,hw.2.1,Bool.and_eq_true,Bool.and_eq_true,Bm,Bm,decide_eq_true_eq,←hc,e28,Bool.not_eq_true,e26,e20,e25,e17,e19,e22,e24]
 ·obtain⟨e13,e14,e15,-,-,-,-,-,-,-,-,-,-,-,e27,-⟩:=F0
  replace e14:I T 14=(Bo g1 (L T 13)):=by rw[←show gAt 0 (nH.map (Rf.eval T))=g1 from z1.symm];exact e14
  simp only[AE,AF,zR,zL,zS,uR,Ab,zW] at e13 e15 e27
  rw[e27]
  cases k:(B T 15) with
  |true=>rw[if_pos rfl,ho]
  |false=>rw[if_neg (by simp),hc.1 k]
theorem qN:Aq Try.prog 42 nj:=by
 refine Ai (l:=[(52,JU)]) BX (by simp only[List.forall_mem_cons];exact⟨ZD,fun _ h=>absurd h (by simp)⟩) qQ (by kernel_rfl) fun T us hpre hT hul hS hBd hE=>?_
 change us.length=13 at hul
 obtain⟨hz0,-,-,-,⟨hl4,he4⟩,-,-,-,-,-,⟨hl10,he10⟩,-⟩:=hBd
 replace hz0:(S T 0).size≤140737488355328:=hz0
 replace hl4:(L T 4).length≤140737488355328:=hl4
 replace hl10:(L T 10).length≤140737488355328:=hl10
 obtain⟨g,hg⟩:∃g:Ln,g=Ln.mk (S T 0) (I T 1) (I T 2) (I T 3) (L T 4) (I T 5) (I T 6) (I T 7) (I T 8) (I T 9) (L T 10):=⟨_,rfl⟩
 have hgu:gAt 0 us=g:=by rw[hg];exact DU hT hul (by decide)
 have ha11:aI us 11=I T 11:=inI hT hul (by decide)
 have ha12:aI us 12=I T 12:=inI hT hul (by decide)
 clear hpre
 skip
 obtain⟨A0,hO⟩:=Ar (tys:=[.b,.i]) (rs:=qE) hS (by kernel_rfl) hE
 obtain⟨g1,z1⟩:∃g:Ln,g=Ln.mk (S T 0) (I T 1) (I T 2) (I T 3) (L T 4) (I T 5) (I T 6) (I T 7) (I T 8) (I T 9) (L T 10):=⟨_,rfl⟩
 obtain⟨q0,q1⟩:=qO hz0 hl4 hl10 g hg g1 z1 A0
 refine⟨trivial,hO.trans ?_⟩
 exact (lc (by show U.bool (B T 28)= .bool (nP us);unfold nP;rw[hgu,ha11,ha12];exact congrArg U.bool q0) (lc (by show U.int (I T 27)= .int (nN us);unfold nN;rw[hgu,ha11,ha12];exact congrArg U.int q1) rfl))
end Go.Eng
end
