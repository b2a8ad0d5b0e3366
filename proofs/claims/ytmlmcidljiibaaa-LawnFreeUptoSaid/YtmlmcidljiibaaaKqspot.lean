/-
  A part of the proof: K_qspotd K_qspot.
-/
import Derived.Test.YtmlmcidljiibaaaXQlFree
import Derived.Test.YtmlmcidljiibaaaE3
import Derived.Test.YtmlmcidljiibaaaE4
import Derived.Test.YtmlmcidljiibaaaKchk
set_option linter.unusedVariables false
set_option linter.unusedSimpArgs false
noncomputable section
open Go Go.Eng Go.Proofs
set_option maxHeartbeats 4000000
set_option maxRecDepth 100000
namespace Go.Eng
def nF:List U→Int:=fun us=>(mJ (gAt 0 us) (aI us 11) (aI us 12))
def nE:List U→Int:=fun us=>(mN (gAt 0 us) (aI us 11) (aI us 12))
def nD:List U→Bool:=fun us=>(mE (gAt 0 us) (aI us 11) (aI us 12))
def nC:List U→Int:=fun us=>(A6 (gAt 0 us) (aI us 11) (aI us 12))
def nI:Ak:={ sh:=[.agg [.str,k64,k64,k64,.list [k64,k64,k64,k64,.bool],k64,k64,k64,k64,k64,.list [k64,k64,k64]],.agg [k64,k64]],blks:=[],outs:=[(.s "qspot.0",Bj nF),(.s "qspot.1",Bj nE),(.s "qspot.2",EK nD),(.s "qspot.3",Bj nC)],c:= .tup [.agg [(CR 13),(CR 14)],.b 15,(CR 16)],m':=[],pre:=[] }
def lk:List Rf:=[.e 0,.e 1,.e 2,.e 3,.e 4,.e 5,.e 6,.e 7,.e 8,.e 9,.e 10,.e 13]
def ot:List En:=[⟨13,.row 1 2 [.i,.i],[.e 11,.e 12]⟩,
 ⟨14,.outI "chk.0" KH,lk⟩,
 ⟨15,.ne,[.e 14,.c (.int 0)]⟩,
 ⟨16,.not,[.e 15]⟩,
 ⟨17,.o2 .max,[.e 11,.e 3]⟩,
 ⟨18,.w2 .i64 .sub,[.e 1,.e 3]⟩,
 ⟨19,.o2 .min,[.e 17,.e 18]⟩,
 ⟨20,.o2 .max,[.e 12,.e 3]⟩,
 ⟨21,.w2 .i64 .sub,[.e 2,.e 3]⟩,
 ⟨22,.o2 .min,[.e 20,.e 21]⟩,
 ⟨23,.nes [.i,.i],[.e 19,.e 11,.e 22,.e 12]⟩,
 ⟨24,.ite .i,[.e 15,.c (.int 0),.e 19]⟩,
 ⟨25,.ite .i,[.e 15,.c (.int 0),.e 22]⟩,
 ⟨26,.ite .b,[.e 15,.c (.bool false),.e 23]⟩,
 ⟨27,.ite .i,[.e 15,.e 14,.c (.int 0)]⟩,
 ⟨28,.or,[.e 15,.e 16]⟩]
def nv:List En:=ot
def qF:List ObE:=[]
def ow:List Rf:=[.e 24,.e 25,.e 26,.e 27]
theorem qJ:nI.sees ow (nI.run Try.prog [(52,JU)] Ah 3000 20 33)=some ((nv).map En.be,qF.map ObE.be,[]):=by kernel_rfl
theorem qH {T:Tab}(hz0:(S T 0).size≤140737488355328)(hl4:(L T 4).length≤140737488355328)(hl10:(L T 10).length≤140737488355328)(g:Ln)(hg:g=Ln.mk (S T 0) (I T 1) (I T 2) (I T 3) (L T 4) (I T 5) (I T 6) (I T 7) (I T 8) (I T 9) (L T 10))(g1:Ln)(z1:g1=Ln.mk (S T 0) (I T 1) (I T 2) (I T 3) (L T 4) (I T 5) (I T 6) (I T 7) (I T 8) (I T 9) (L T 10))(A0:AJ T nv):
  ((I T 24)=(mJ g (I T 11) (I T 12)))∧
  ((I T 25)=(mN g (I T 11) (I T 12)))∧
  ((B T 26)=(mE g (I T 11) (I T 12)))∧
  ((I T 27)=(A6 g (I T 11) (I T 12))):=by
 have F0:=A0;clear A0
 have hw:g.wide=I T 1∧g.long=I T 2∧g.yard=I T 3∧g.nx=I T 8∧g.ny=I T 9∧g.cells=((L T 10)):=by
  rw[hg];exact⟨rfl,rfl,rfl,rfl,rfl,rfl⟩
 have hgg:g1=g:=by
  rw[z1,hg]
 have ho:(I T 14)=A6 g (I T 11) (I T 12):=by
  obtain⟨e13,e14,-⟩:=F0
  replace e14:I T 14=(Bo g1 (L T 13)):=by rw[←show gAt 0 (lk.map (Rf.eval T))=g1 from z1.symm];exact e14
  simp only[AE,AF,zR,zL,zS,uR,Ab,zW] at e13
  rw[e14,hgg,e13]
  exact nl
 have hc:(B T 15)=false↔A6 g (I T 11) (I T 12)=0:=by
  obtain⟨e13,e14,e15,-⟩:=F0
  replace e14:I T 14=(Bo g1 (L T 13)):=by rw[←show gAt 0 (lk.map (Rf.eval T))=g1 from z1.symm];exact e14
  simp only[AE,AF,zR,zL,zS,uR,Ab,zW] at e13 e15
  rw[←ho]
  cases k:(B T 15) with
  |true=>exact iff_of_false (by simp) (e15.1 k)
  |false=>
   refine iff_of_true rfl ?_
   apply Classical.byContradiction
   intro hn
   have:=e15.2 hn
   simp[k] at this
 have hs:(B T 15)=false→I T 19=FR g (I T 11)∧I T 22=FT g (I T 12):=by
  obtain⟨e13,e14,e15,-,e17,e18,e19,e20,e21,e22,-⟩:=F0
  replace e14:I T 14=(Bo g1 (L T 13)):=by rw[←show gAt 0 (lk.map (Rf.eval T))=g1 from z1.symm];exact e14
  simp only[AE,AF,zR,AR,w2P,zL,zS,uR,Ab,zW] at*
  intro k
  obtain⟨h1,h2⟩:=lX (hc.1 k)
  have h3:=CP h1
  rw[hw.1,hw.2.1,hw.2.2.1] at h3
  obtain⟨⟨⟨d1,d2⟩,⟨d3,d4⟩,d5,d6⟩,d7,d8,-⟩:=h3
  unfold FR FT
  rw[hw.1,hw.2.1,hw.2.2.1,e19,e22,e18 (by omega) (by omega),e21 (by omega) (by omega)]
  exact⟨RH (by omega) e17,RH (by omega) e20⟩
 refine⟨?_,?_,?_,?_⟩
 ·obtain⟨e13,e14,e15,-,e17,e18,e19,-,-,-,-,e24,-⟩:=F0
  replace e14:I T 14=(Bo g1 (L T 13)):=by rw[←show gAt 0 (lk.map (Rf.eval T))=g1 from z1.symm];exact e14
  simp only[AE,AF,zR,AR,w2P,zL,zS,uR,Ab,zW] at*
  unfold mJ
  rw[e24]
  cases k:(B T 15) with
  |true=>rw[if_pos rfl,if_neg (fun h=>by have:=hc.2 h;simp[k] at this)]
  |false=>rw[if_neg (by simp),if_pos (hc.1 k),(hs k).1]
 ·obtain⟨e13,e14,e15,-,-,-,-,e20,e21,e22,-,-,e25,-⟩:=F0
  replace e14:I T 14=(Bo g1 (L T 13)):=by rw[←show gAt 0 (lk.map (Rf.eval T))=g1 from z1.symm];exact e14
  simp only[AE,AF,zR,AR,w2P,zL,zS,uR,Ab,zW] at*
  unfold mN
  rw[e25]
  cases k:(B T 15) with
  |true=>rw[if_pos rfl,if_neg (fun h=>by have:=hc.2 h;simp[k] at this)]
  |false=>rw[if_neg (by simp),if_pos (hc.1 k),(hs k).2]
 ·obtain⟨e13,e14,e15,-,e17,e18,e19,e20,e21,e22,e23,-,-,e26,-⟩:=F0
  replace e14:I T 14=(Bo g1 (L T 13)):=by rw[←show gAt 0 (lk.map (Rf.eval T))=g1 from z1.symm];exact e14
  simp only[AE,AF,zC,zR,Bb,and_true,AR,w2P,zL,zS,uR,Ab,zW] at*
  refine Bool.eq_iff_iff.2 ?_
  unfold mE
  rw[Bool.and_eq_true,decide_eq_true_eq,decide_eq_true_eq,←hc,e26,Bool.not_eq_true]
  refine and_congr_right fun k=>?_
  rw[e23,(hs k).1,(hs k).2]
 ·obtain⟨e13,e14,e15,-,-,-,-,-,-,-,-,-,-,-,e27,-⟩:=F0
  replace e14:I T 14=(Bo g1 (L T 13)):=by rw[←show gAt 0 (lk.map (Rf.eval T))=g1 from z1.symm];exact e14
  simp only[AE,AF,zR,zL,zS,uR,Ab,zW] at e13 e15 e27
  rw[e27]
  cases k:(B T 15) with
  |true=>rw[if_pos rfl,ho]
  |false=>rw[if_neg (by simp),hc.1 k]
theorem ph:Aq Try.prog 33 nI:=by
 refine Ai (l:=[(52,JU)]) BX (by simp only[List.forall_mem_cons];exact⟨ZD,fun _ h=>absurd h (by simp)⟩) qJ (by kernel_rfl) fun T us hpre hT hul hS hBd hE=>?_
 change us.length=13 at hul
 obtain⟨hz0,-,-,-,⟨hl4,he4⟩,-,-,-,-,-,⟨hl10,he10⟩,-⟩:=hBd
 replace hz0:(S T 0).size≤140737488355328:=hz0
 replace hl4:(L T 4).length≤140737488355328:=hl4
 replace hl10:(L T 10).length≤140737488355328:=hl10
 obtain⟨g,hg⟩:∃g:Ln,g=Ln.mk (S T 0) (I T 1) (I T 2) (I T 3) (L T 4) (I T 5) (I T 6) (I T 7) (I T 8) (I T 9) (L T 10):=⟨_,rfl⟩
 have hgu:gAt 0 us=g:=by rw[hg];exact DU hT hul (by decide)
 have ha11:aI us 11=I T 11:=inI hT hul (by decide)
 have ha12:aI us 12=I T 12:=inI hT hul (by decide)
 clear hpre
 skip
 obtain⟨A0,hO⟩:=Ar (tys:=[.i,.i,.b,.i]) (rs:=ow) hS (by kernel_rfl) hE
 obtain⟨g1,z1⟩:∃g:Ln,g=Ln.mk (S T 0) (I T 1) (I T 2) (I T 3) (L T 4) (I T 5) (I T 6) (I T 7) (I T 8) (I T 9) (L T 10):=⟨_,rfl⟩
 obtain⟨q0,q1,q2,q3⟩:=qH hz0 hl4 hl10 g hg g1 z1 A0
 refine⟨trivial,hO.trans ?_⟩
 exact (lc (by show U.int (I T 24)= .int (nF us);unfold nF;rw[hgu,ha11,ha12];exact congrArg U.int q0) (lc (by show U.int (I T 25)= .int (nE us);unfold nE;rw[hgu,ha11,ha12];exact congrArg U.int q1) (lc (by show U.bool (B T 26)= .bool (nD us);unfold nD;rw[hgu,ha11,ha12];exact congrArg U.bool q2) (lc (by show U.int (I T 27)= .int (nC us);unfold nC;rw[hgu,ha11,ha12];exact congrArg U.int q3) rfl))))
end Go.Eng
end
