/-
  A part of the proof: K_qnumberd K_qnumber.
-/
import Derived.Test.YtmlmcidljiibaaaXQlFree
import Derived.Test.YtmlmcidljiibaaaE3
import Derived.Test.YtmlmcidljiibaaaE4
import Derived.Test.YtmlmcidljiibaaaKchk
import Derived.Test.YtmlmcidljiibaaaKnumber
set_option linter.unusedVariables false
set_option linter.unusedSimpArgs false
noncomputable section
open Go Go.Eng Go.Proofs
set_option maxHeartbeats 4000000
set_option maxRecDepth 100000
namespace Go.Eng
def mA:List U→Int:=fun us=>(lz (gAt 0 us) (aI us 11) (aI us 12))
def mP:List U→Int:=fun us=>(lw (gAt 0 us) (aI us 11) (aI us 12))
def mW:Ak:={ sh:=[.agg [.str,k64,k64,k64,.list [k64,k64,k64,k64,.bool],k64,k64,k64,k64,k64,.list [k64,k64,k64]],.agg [k64,k64]],blks:=[],outs:=[(.s "qnumber.0",Bj mA),(.s "qnumber.1",Bj mP)],c:= .tup [(CR 13),(CR 14)],m':=[],pre:=[] }
def ld:List Rf:=[.e 0,.e 1,.e 2,.e 3,.e 4,.e 5,.e 6,.e 7,.e 8,.e 9,.e 10,.e 13]
def nz:List En:=[⟨13,.row 1 2 [.i,.i],[.e 11,.e 12]⟩,
 ⟨14,.outI "chk.0" KH,ld⟩,
 ⟨15,.ne,[.e 14,.c (.int 0)]⟩,
 ⟨16,.not,[.e 15]⟩,
 ⟨17,.w2 .i64 .mul,[.c (.int 2),.e 3]⟩,
 ⟨18,.w2 .i64 .sub,[.e 1,.e 17]⟩,
 ⟨19,.w2 .i64 .mul,[.c (.int 2),.e 3]⟩,
 ⟨20,.w2 .i64 .sub,[.e 2,.e 19]⟩,
 ⟨21,.outI "number.0" GL,[.e 3,.e 18,.e 20,.e 11,.e 12]⟩,
 ⟨22,.lt,[.e 21,.c (.int 0)]⟩,
 ⟨23,.and,[.e 16,.e 22]⟩,
 ⟨24,.and,[.e 16,.n 22]⟩,
 ⟨25,.ite .i,[.e 23,.c (.int 5),.c (.int 0)]⟩,
 ⟨26,.ite .i,[.e 23,.c (.int 0),.e 21]⟩,
 ⟨27,.or,[.e 23,.e 24]⟩,
 ⟨28,.ite .i,[.e 15,.e 14,.e 25]⟩]
def n7:List En:=[⟨29,.ite .i,[.e 15,.c (.int 0),.e 26]⟩,
 ⟨30,.or,[.e 15,.e 27]⟩]
def nT:List En:=nz++(n7)
def pL:List ObE:=[⟨some 16,.pre "number.p0" FB,[.e 3,.e 18,.e 20,.e 11,.e 12]⟩,
 ⟨some 16,.pre "number.p1" E1,[.e 3,.e 18,.e 20,.e 11,.e 12]⟩]
def np:List Rf:=[.e 29,.e 28]
theorem pS:mW.sees np (mW.run Try.prog [(52,JU),(56,Fa)] Ah 3000 20 34)=some ((nT).map En.be,pL.map ObE.be,[]):=by kernel_rfl
theorem pC {T:Tab}(hz0:(S T 0).size≤140737488355328)(hl4:(L T 4).length≤140737488355328)(hl10:(L T 10).length≤140737488355328)(g:Ln)(hg:g=Ln.mk (S T 0) (I T 1) (I T 2) (I T 3) (L T 4) (I T 5) (I T 6) (I T 7) (I T 8) (I T 9) (L T 10))(g1:Ln)(z1:g1=Ln.mk (S T 0) (I T 1) (I T 2) (I T 3) (L T 4) (I T 5) (I T 6) (I T 7) (I T 8) (I T 9) (L T 10))(A0:AJ T nT):
  ((I T 29)=(lz g (I T 11) (I T 12)))∧
  ((I T 28)=(lw g (I T 11) (I T 12)))∧
  (B T 16=true→BR (I T 3) (I T 18) (I T 20))∧
  (B T 16=true→AH (I T 11) (I T 12)=true):=by
 obtain⟨F0,A0⟩:=A0.cut
 have F1:=A0;clear A0
 have hw:g.wide=I T 1∧g.long=I T 2∧g.yard=I T 3∧g.nx=I T 8∧g.ny=I T 9∧g.cells=((L T 10)):=by
  rw[hg];exact⟨rfl,rfl,rfl,rfl,rfl,rfl⟩
 have hgg:g1=g:=by
  rw[z1,hg]
 have ho:(I T 14)=A6 g (I T 11) (I T 12):=by
  obtain⟨e13,e14,-⟩:=F0
  replace e14:I T 14=(Bo g1 (L T 13)):=by rw[←show gAt 0 (ld.map (Rf.eval T))=g1 from z1.symm];exact e14
  simp only[AE,AF,zR,zL,zS,uR,Ab,zW] at e13
  rw[e14,hgg,e13]
  exact nl
 have hc:(B T 15)=false↔A6 g (I T 11) (I T 12)=0:=by
  obtain⟨e13,e14,e15,-⟩:=F0
  replace e14:I T 14=(Bo g1 (L T 13)):=by rw[←show gAt 0 (ld.map (Rf.eval T))=g1 from z1.symm];exact e14
  simp only[AE,AF,zR,zL,zS,uR,Ab,zW] at e13 e15
  rw[←ho]
  cases k:(B T 15) with
  |true=>exact iff_of_false (by simp) (e15.1 k)
  |false=>
   refine iff_of_true rfl ?_
   apply Classical.byContradiction
   intro hn
   have:=e15.2 hn
   simp[k] at this
 have hx:(B T 15)=false→I T 18=I T 1 - 2*I T 3∧I T 20=I T 2 - 2*I T 3∧BR (I T 3) (I T 18) (I T 20):=by
  obtain⟨e13,e14,e15,-,e17,e18,e19,e20,-⟩:=F0
  replace e14:I T 14=(Bo g1 (L T 13)):=by rw[←show gAt 0 (ld.map (Rf.eval T))=g1 from z1.symm];exact e14
  simp only[AE,AF,zR,w2P,zL,zS,uR,Ab,zW] at*
  intro k
  obtain⟨h1,h2⟩:=lX (hc.1 k)
  have h3:=CP h1
  rw[hw.1,hw.2.1,hw.2.2.1] at h3
  obtain⟨⟨⟨d1,d2⟩,⟨d3,d4⟩,d5,d6⟩,d7,d8,-⟩:=h3
  have x17:=e17 (by omega) (by omega)
  have x18:=e18 (by omega) (by omega)
  have x19:=e19 (by omega) (by omega)
  have x20:=e20 (by omega) (by omega)
  exact⟨by omega,by omega,⟨d1,d2⟩,by omega,by omega⟩
 have hE:(I T 28)=lw g (I T 11) (I T 12)∧((B T 15)=false→B T 23=false→I T 26=lz g (I T 11) (I T 12))∧((B T 15)=true∨B T 23=true→lz g (I T 11) (I T 12)=0):=by
  obtain⟨e13,e14,e15,e16,e17,e18,e19,e20,e21,e22,e23,-,e25,e26,-,e28,-⟩:=F0
  replace e14:I T 14=(Bo g1 (L T 13)):=by rw[←show gAt 0 (ld.map (Rf.eval T))=g1 from z1.symm];exact e14
  replace e21:I T 21=(AW (I T 3) (I T 18) (I T 20) (I T 11) (I T 12)):=e21
  simp only[AE,AF,zR,w2P,zL,zS,uR,Ab,zW] at*
  have h16:(B T 16)=true↔B T 15=false:=by clear hc hx ho;grind
  have key:(I T 28)=lw g (I T 11) (I T 12):=by
   unfold lw
   rw[hw.1,hw.2.1,hw.2.2.1,e28]
   cases k:(B T 15) with
   |true=>rw[if_pos rfl,if_pos (fun h=>by have:=hc.2 h;simp[k] at this),ho]
   |false=>
    obtain⟨x1,x2,x3⟩:=hx k
    rw[if_neg (by simp),if_neg (by simp[hc.1 k]),e25,←x1,←x2,←e21]
    cases k23:(B T 23) with
    |true=>rw[if_pos rfl,if_pos (e22.1 (e23.1 k23).2)]
    |false=>rw[if_neg (by simp),if_neg (fun h=>by have:=e23.2 ⟨h16.2 k,e22.2 h⟩;simp[k23] at this)]
  refine⟨key,fun k k23=>?_,fun h=>?_⟩
  ·obtain⟨x1,x2,x3⟩:=hx k
   have hz:lw g (I T 11) (I T 12)=0:=by rw[←key,e28,if_neg (by simp[k]),e25,if_neg (by simp[k23])]
   unfold lz
   rw[if_pos hz,hw.1,hw.2.1,hw.2.2.1,←x1,←x2,e26,if_neg (by simp[k23]),e21]
  ·unfold lz
   refine if_neg fun hz=>?_
   rw[←key,e28] at hz
   by_cases k:(B T 15)=true
   ·rw[if_pos k] at hz;exact e15.1 k hz
   ·rw[if_neg k,e25] at hz
    rcases h with h|h
    ·exact k h
    ·rw[if_pos h] at hz;omega
 refine⟨?_,?_,?_,?_⟩
 ·obtain⟨e13,e14,e15,e16,e17,e18,e19,e20,e21,e22,e23,-,-,e26,-⟩:=F0
  obtain⟨e29,-⟩:=F1
  replace e14:I T 14=(Bo g1 (L T 13)):=by rw[←show gAt 0 (ld.map (Rf.eval T))=g1 from z1.symm];exact e14
  replace e21:I T 21=(AW (I T 3) (I T 18) (I T 20) (I T 11) (I T 12)):=e21
  simp only[AE,AF,zR,w2P,zL,zS,uR,Ab,zW] at*
  rw[e29]
  cases k:(B T 15) with
  |true=>rw[if_pos rfl,hE.2.2 (.inl k)]
  |false=>
   rw[if_neg (by simp)]
   cases k23:(B T 23) with
   |true=>rw[hE.2.2 (.inr k23),e26,if_pos k23]
   |false=>exact hE.2.1 k k23
 ·obtain⟨e13,e14,e15,e16,e17,e18,e19,e20,e21,e22,e23,-,e25,-,-,e28,-⟩:=F0
  replace e14:I T 14=(Bo g1 (L T 13)):=by rw[←show gAt 0 (ld.map (Rf.eval T))=g1 from z1.symm];exact e14
  replace e21:I T 21=(AW (I T 3) (I T 18) (I T 20) (I T 11) (I T 12)):=e21
  simp only[AE,AF,zR,w2P,zL,zS,uR,Ab,zW] at*
  exact hE.1
 ·obtain⟨e13,e14,e15,e16,e17,e18,e19,e20,-⟩:=F0
  replace e14:I T 14=(Bo g1 (L T 13)):=by rw[←show gAt 0 (ld.map (Rf.eval T))=g1 from z1.symm];exact e14
  simp only[AE,AF,zR,w2P,zL,zS,uR,Ab,zW] at*
  intro h
  have k:(B T 15)=false:=by clear hE hx hc ho;grind
  exact (hx k).2.2
 ·obtain⟨e13,e14,e15,e16,-⟩:=F0
  replace e14:I T 14=(Bo g1 (L T 13)):=by rw[←show gAt 0 (ld.map (Rf.eval T))=g1 from z1.symm];exact e14
  simp only[AE,AF,zR,zL,zS,uR,Ab,zW] at e13 e15 e16
  intro h
  have k:(B T 15)=false:=by clear hE hx hc ho;grind
  exact (lX (hc.1 k)).2
theorem oz:Aq Try.prog 34 mW:=by
 refine Ai (l:=[(52,JU),(56,Fa)]) BX (by simp only[List.forall_mem_cons];exact⟨ZD,YZ,fun _ h=>absurd h (by simp)⟩) pS (by kernel_rfl) fun T us hpre hT hul hS hBd hE=>?_
 change us.length=13 at hul
 obtain⟨hz0,-,-,-,⟨hl4,he4⟩,-,-,-,-,-,⟨hl10,he10⟩,-⟩:=hBd
 replace hz0:(S T 0).size≤140737488355328:=hz0
 replace hl4:(L T 4).length≤140737488355328:=hl4
 replace hl10:(L T 10).length≤140737488355328:=hl10
 obtain⟨g,hg⟩:∃g:Ln,g=Ln.mk (S T 0) (I T 1) (I T 2) (I T 3) (L T 4) (I T 5) (I T 6) (I T 7) (I T 8) (I T 9) (L T 10):=⟨_,rfl⟩
 have hgu:gAt 0 us=g:=by rw[hg];exact DU hT hul (by decide)
 have ha11:aI us 11=I T 11:=inI hT hul (by decide)
 have ha12:aI us 12=I T 12:=inI hT hul (by decide)
 clear hpre
 skip
 obtain⟨A0,hO⟩:=Ar (tys:=[.i,.i]) (rs:=np) hS (by kernel_rfl) hE
 obtain⟨g1,z1⟩:∃g:Ln,g=Ln.mk (S T 0) (I T 1) (I T 2) (I T 3) (L T 4) (I T 5) (I T 6) (I T 7) (I T 8) (I T 9) (L T 10):=⟨_,rfl⟩
 obtain⟨q0,q1,r0,r1⟩:=pC hz0 hl4 hl10 g hg g1 z1 A0
 refine⟨⟨r0,r1,trivial⟩,hO.trans ?_⟩
 exact (lc (by show U.int (I T 29)= .int (mA us);unfold mA;rw[hgu,ha11,ha12];exact congrArg U.int q0) (lc (by show U.int (I T 28)= .int (mP us);unfold mP;rw[hgu,ha11,ha12];exact congrArg U.int q1) rfl))
end Go.Eng
end
