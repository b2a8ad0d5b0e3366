/-
  A part of the proof: K_qrnumberd K_qrnumber.
-/
import Derived.Test.YtmlmcidljiibaaaXQlPlaces
import Derived.Test.YtmlmcidljiibaaaE3
import Derived.Test.YtmlmcidljiibaaaE4
import Derived.Test.YtmlmcidljiibaaaKone
import Derived.Test.YtmlmcidljiibaaaKline
set_option linter.unusedVariables false
set_option linter.unusedSimpArgs false
noncomputable section
open Go Go.Eng Go.Proofs
set_option maxHeartbeats 4000000
set_option maxRecDepth 100000
namespace Go.Eng
def l6:List U→Int:=fun us=>(lz (gAt 0 us) (aI us 11) (aI us 12))
def l8:List U→Int:=fun us=>(lw (gAt 0 us) (aI us 11) (aI us 12))
def l7:Ak:={ sh:=[.agg [.str,k64,k64,k64,.list [k64,k64,k64,k64,.bool],k64,k64,k64,k64,k64,.list [k64,k64,k64]],.agg [k64,k64]],blks:=[],outs:=[(.s "qrnumber.0",Bj l6),(.s "qrnumber.1",Bj l8)],c:= .tup [(CR 13),(CR 14)],m':=[],pre:=[] }
def lN:List Rf:=[.e 0,.e 1,.e 2,.e 3,.e 4,.e 5,.e 6,.e 7,.e 8,.e 9,.e 10,.e 11,.e 12]
def nk:List En:=[⟨13,.outI "one.0" Jy,lN⟩,
 ⟨14,.ne,[.e 13,.c (.int 0)]⟩,
 ⟨15,.outI "one.0" Jy,lN⟩,
 ⟨16,.not,[.e 14]⟩,
 ⟨17,.outI "line.0" Ib,lN⟩,
 ⟨18,.lt,[.e 17,.c (.int 0)]⟩,
 ⟨19,.and,[.e 16,.e 18]⟩,
 ⟨20,.and,[.e 16,.n 18]⟩,
 ⟨21,.ite .i,[.e 19,.c (.int 5),.c (.int 0)]⟩,
 ⟨22,.ite .i,[.e 19,.c (.int 0),.e 17]⟩,
 ⟨23,.or,[.e 19,.e 20]⟩,
 ⟨24,.ite .i,[.e 14,.e 15,.e 21]⟩,
 ⟨25,.ite .i,[.e 14,.c (.int 0),.e 22]⟩,
 ⟨26,.or,[.e 14,.e 23]⟩]
def nL:List En:=nk
def o3:List ObE:=[⟨some 16,.pre "line.p0" DY,lN⟩,
 ⟨some 16,.pre "line.p1" Gt,lN⟩]
def nc:List Rf:=[.e 25,.e 24]
theorem o5:l7.sees nc (l7.run Try.prog [(60,Oi),(63,Ig)] Ah 3000 20 48)=some ((nL).map En.be,o3.map ObE.be,[]):=by kernel_rfl
theorem pA {T:Tab}(hz0:(S T 0).size≤140737488355328)(hl4:(L T 4).length≤140737488355328)(hl10:(L T 10).length≤140737488355328)(g:Ln)(hg:g=Ln.mk (S T 0) (I T 1) (I T 2) (I T 3) (L T 4) (I T 5) (I T 6) (I T 7) (I T 8) (I T 9) (L T 10))(g1:Ln)(z1:g1=Ln.mk (S T 0) (I T 1) (I T 2) (I T 3) (L T 4) (I T 5) (I T 6) (I T 7) (I T 8) (I T 9) (L T 10))(A0:AJ T nL):
  ((I T 25)=(lz g (I T 11) (I T 12)))∧
  ((I T 24)=(lw g (I T 11) (I T 12)))∧
  (B T 16=true→AT g1=0)∧
  (B T 16=true→AH (I T 11) (I T 12)=true):=by
 have F0:=A0;clear A0
 have hw:g.wide=I T 1∧g.long=I T 2∧g.yard=I T 3∧g.nx=I T 8∧g.ny=I T 9∧g.cells=((L T 10)):=by
  rw[hg];exact⟨rfl,rfl,rfl,rfl,rfl,rfl⟩
 have hgg:g1=g:=by
  rw[z1,hg]
 have ho:(I T 13)=A6 g (I T 11) (I T 12)∧I T 15=A6 g (I T 11) (I T 12):=by
  obtain⟨e13,-,e15,-⟩:=F0
  replace e13:I T 13=(A6 g1 (I T 11) (I T 12)):=by rw[←show gAt 0 (lN.map (Rf.eval T))=g1 from z1.symm];exact e13
  replace e15:I T 15=(A6 g1 (I T 11) (I T 12)):=by rw[←show gAt 0 (lN.map (Rf.eval T))=g1 from z1.symm];exact e15
  exact⟨by rw[e13,hgg],by rw[e15,hgg]⟩
 have hc:(B T 14)=false↔A6 g (I T 11) (I T 12)=0:=by
  obtain⟨e13,e14,-⟩:=F0
  replace e13:I T 13=(A6 g1 (I T 11) (I T 12)):=by rw[←show gAt 0 (lN.map (Rf.eval T))=g1 from z1.symm];exact e13
  simp only[AE,zR] at e14
  rw[←ho.1]
  cases k:(B T 14) with
  |true=>exact iff_of_false (by simp) (e14.1 k)
  |false=>
   refine iff_of_true rfl ?_
   apply Classical.byContradiction
   intro hn
   have:=e14.2 hn
   simp[k] at this
 have hE:(I T 24)=lw g (I T 11) (I T 12)∧((B T 14)=false→B T 19=false→I T 22=lz g (I T 11) (I T 12))∧((B T 14)=true∨B T 19=true→lz g (I T 11) (I T 12)=0):=by
  obtain⟨e13,e14,e15,e16,e17,e18,e19,-,e21,e22,-,e24,-⟩:=F0
  replace e13:I T 13=(A6 g1 (I T 11) (I T 12)):=by rw[←show gAt 0 (lN.map (Rf.eval T))=g1 from z1.symm];exact e13
  replace e15:I T 15=(A6 g1 (I T 11) (I T 12)):=by rw[←show gAt 0 (lN.map (Rf.eval T))=g1 from z1.symm];exact e15
  replace e17:I T 17=(AW (g1).yard ((g1).wide - 2*(g1).yard) ((g1).long - 2*(g1).yard) (I T 11) (I T 12)):=by rw[←show gAt 0 (lN.map (Rf.eval T))=g1 from z1.symm];exact e17
  simp only[AE,AF,zR,zL] at*
  have h16:(B T 16)=true↔B T 14=false:=by clear hc ho;grind
  rw[hgg] at e17
  have key:(I T 24)=lw g (I T 11) (I T 12):=by
   unfold lw
   rw[e24,←e17]
   cases k:(B T 14) with
   |true=>rw[if_pos rfl,if_pos (fun h=>by have:=hc.2 h;simp[k] at this),ho.2]
   |false=>
    rw[if_neg (by simp),if_neg (by simp[hc.1 k]),e21]
    cases k23:(B T 19) with
    |true=>rw[if_pos rfl,if_pos (e18.1 (e19.1 k23).2)]
    |false=>rw[if_neg (by simp),if_neg (fun h=>by have:=e19.2 ⟨h16.2 k,e18.2 h⟩;simp[k23] at this)]
  refine⟨key,fun k k23=>?_,fun h=>?_⟩
  ·have hz:lw g (I T 11) (I T 12)=0:=by rw[←key,e24,if_neg (by simp[k]),e21,if_neg (by simp[k23])]
   unfold lz
   rw[if_pos hz,←e17,e22,if_neg (by simp[k23])]
  ·unfold lz
   refine if_neg fun hz=>?_
   rw[←key,e24] at hz
   by_cases k:(B T 14)=true
   ·rw[if_pos k,ho.2,←ho.1] at hz;exact e14.1 k hz
   ·rw[if_neg k,e21] at hz
    rcases h with h|h
    ·exact k h
    ·rw[if_pos h] at hz;omega
 refine⟨?_,?_,?_,?_⟩
 ·obtain⟨e13,e14,-,e16,e17,e18,e19,-,-,e22,-,-,e25,-⟩:=F0
  replace e13:I T 13=(A6 g1 (I T 11) (I T 12)):=by rw[←show gAt 0 (lN.map (Rf.eval T))=g1 from z1.symm];exact e13
  replace e17:I T 17=(AW (g1).yard ((g1).wide - 2*(g1).yard) ((g1).long - 2*(g1).yard) (I T 11) (I T 12)):=by rw[←show gAt 0 (lN.map (Rf.eval T))=g1 from z1.symm];exact e17
  simp only[AE,AF,zR,zL] at*
  rw[e25]
  cases k:(B T 14) with
  |true=>rw[if_pos rfl,hE.2.2 (.inl k)]
  |false=>
   rw[if_neg (by simp)]
   cases k23:(B T 19) with
   |true=>rw[hE.2.2 (.inr k23),e22,if_pos k23]
   |false=>exact hE.2.1 k k23
 ·obtain⟨e13,e14,e15,e16,e17,e18,e19,-,e21,-,-,e24,-⟩:=F0
  replace e13:I T 13=(A6 g1 (I T 11) (I T 12)):=by rw[←show gAt 0 (lN.map (Rf.eval T))=g1 from z1.symm];exact e13
  replace e15:I T 15=(A6 g1 (I T 11) (I T 12)):=by rw[←show gAt 0 (lN.map (Rf.eval T))=g1 from z1.symm];exact e15
  replace e17:I T 17=(AW (g1).yard ((g1).wide - 2*(g1).yard) ((g1).long - 2*(g1).yard) (I T 11) (I T 12)):=by rw[←show gAt 0 (lN.map (Rf.eval T))=g1 from z1.symm];exact e17
  simp only[AE,AF,zR,zL] at*
  exact hE.1
 ·obtain⟨e13,e14,-,e16,-⟩:=F0
  replace e13:I T 13=(A6 g1 (I T 11) (I T 12)):=by rw[←show gAt 0 (lN.map (Rf.eval T))=g1 from z1.symm];exact e13
  simp only[AE,AF,zR] at e14 e16
  intro h
  have k:(B T 14)=false:=by clear hE hc ho;grind
  rw[hgg]
  exact (lX (hc.1 k)).1
 ·obtain⟨e13,e14,-,e16,-⟩:=F0
  replace e13:I T 13=(A6 g1 (I T 11) (I T 12)):=by rw[←show gAt 0 (lN.map (Rf.eval T))=g1 from z1.symm];exact e13
  simp only[AE,AF,zR] at e14 e16
  intro h
  have k:(B T 14)=false:=by clear hE hc ho;grind
  exact (lX (hc.1 k)).2
theorem ol:Aq Try.prog 48 l7:=by
 refine Ai (l:=[(60,Oi),(63,Ig)]) BX (by simp only[List.forall_mem_cons];exact⟨ok_one,dH,fun _ h=>absurd h (by simp)⟩) o5 (by kernel_rfl) fun T us hpre hT hul hS hBd hE=>?_
 change us.length=13 at hul
 obtain⟨hz0,-,-,-,⟨hl4,he4⟩,-,-,-,-,-,⟨hl10,he10⟩,-⟩:=hBd
 replace hz0:(S T 0).size≤140737488355328:=hz0
 replace hl4:(L T 4).length≤140737488355328:=hl4
 replace hl10:(L T 10).length≤140737488355328:=hl10
 obtain⟨g,hg⟩:∃g:Ln,g=Ln.mk (S T 0) (I T 1) (I T 2) (I T 3) (L T 4) (I T 5) (I T 6) (I T 7) (I T 8) (I T 9) (L T 10):=⟨_,rfl⟩
 have hgu:gAt 0 us=g:=by rw[hg];exact DU hT hul (by decide)
 have ha11:aI us 11=I T 11:=inI hT hul (by decide)
 have ha12:aI us 12=I T 12:=inI hT hul (by decide)
 clear hpre
 skip
 obtain⟨A0,hO⟩:=Ar (tys:=[.i,.i]) (rs:=nc) hS (by kernel_rfl) hE
 obtain⟨g1,z1⟩:∃g:Ln,g=Ln.mk (S T 0) (I T 1) (I T 2) (I T 3) (L T 4) (I T 5) (I T 6) (I T 7) (I T 8) (I T 9) (L T 10):=⟨_,rfl⟩
 obtain⟨q0,q1,r0,r1⟩:=pA hz0 hl4 hl10 g hg g1 z1 A0
 refine⟨⟨(fun hp=>by show DY _;unfold DY;rw[show gAt 0 (lN.map (Rf.eval T))=g1 from z1.symm];exact r0 hp),r1,trivial⟩,hO.trans ?_⟩
 exact (lc (by show U.int (I T 25)= .int (l6 us);unfold l6;rw[hgu,ha11,ha12];exact congrArg U.int q0) (lc (by show U.int (I T 24)= .int (l8 us);unfold l8;rw[hgu,ha11,ha12];exact congrArg U.int q1) rfl))
end Go.Eng
end
