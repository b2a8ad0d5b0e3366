/-
  A part of the proof: K_qrbaulkd K_qrbaulk.
-/
import Derived.Test.YtmlmcidljiibaaaXQlPlaces
import Derived.Test.YtmlmcidljiibaaaE3
import Derived.Test.YtmlmcidljiibaaaE4
import Derived.Test.YtmlmcidljiibaaaKone
set_option linter.unusedVariables false
set_option linter.unusedSimpArgs false
noncomputable section
open Go Go.Eng Go.Proofs
set_option maxHeartbeats 4000000
set_option maxRecDepth 100000
namespace Go.Eng
def mC:List U→Int:=fun us=>(mY (gAt 0 us) (aI us 11) (aI us 12))
def mD:List U→Int:=fun us=>(A6 (gAt 0 us) (aI us 11) (aI us 12))
def mV:Ak:={ sh:=[.agg [.str,k64,k64,k64,.list [k64,k64,k64,k64,.bool],k64,k64,k64,k64,k64,.list [k64,k64,k64]],.agg [k64,k64]],blks:=[],outs:=[(.s "qrbaulk.0",Bj mC),(.s "qrbaulk.1",Bj mD)],c:= .tup [(CR 13),(CR 14)],m':=[],pre:=[] }
def lh:List Rf:=[.e 0,.e 1,.e 2,.e 3,.e 4,.e 5,.e 6,.e 7,.e 8,.e 9,.e 10,.e 11,.e 12]
def n5:List En:=[⟨13,.outI "one.0" Jy,lh⟩,
 ⟨14,.ne,[.e 13,.c (.int 0)]⟩,
 ⟨15,.outI "one.0" Jy,lh⟩,
 ⟨16,.not,[.e 14]⟩,
 ⟨17,.eq,[.e 12,.e 3]⟩,
 ⟨18,.and,[.e 16,.e 17]⟩,
 ⟨19,.o2 .tdiv,[.e 1,.c (.int 2)]⟩,
 ⟨20,.le,[.e 3,.e 11]⟩,
 ⟨21,.and,[.e 18,.e 20]⟩,
 ⟨22,.le,[.e 11,.e 19]⟩,
 ⟨23,.and,[.e 20,.e 22]⟩,
 ⟨24,.and,[.e 17,.e 23]⟩,
 ⟨25,.and,[.e 16,.e 24]⟩,
 ⟨26,.and,[.e 16,.n 24]⟩,
 ⟨27,.w2 .i64 .sub,[.e 2,.e 3]⟩,
 ⟨28,.eq,[.e 12,.e 27]⟩]
def oJ:List En:=[⟨29,.and,[.e 26,.e 28]⟩,
 ⟨30,.o2 .tdiv,[.e 1,.c (.int 2)]⟩,
 ⟨31,.w2 .i64 .sub,[.e 1,.e 30]⟩,
 ⟨32,.w2 .i64 .sub,[.e 1,.e 3]⟩,
 ⟨33,.le,[.e 31,.e 11]⟩,
 ⟨34,.and,[.e 29,.e 33]⟩,
 ⟨35,.le,[.e 11,.e 32]⟩,
 ⟨36,.and,[.e 33,.e 35]⟩,
 ⟨37,.and,[.e 28,.e 36]⟩,
 ⟨38,.and,[.e 26,.e 37]⟩,
 ⟨39,.and,[.e 26,.n 37]⟩,
 ⟨40,.ite .i,[.e 38,.c (.int 2),.c (.int 0)]⟩,
 ⟨41,.or,[.e 38,.e 39]⟩,
 ⟨42,.ite .i,[.e 25,.c (.int 1),.e 40]⟩,
 ⟨43,.or,[.e 25,.e 41]⟩,
 ⟨44,.ite .i,[.e 14,.e 15,.c (.int 0)]⟩]
def oD:List En:=[⟨45,.ite .i,[.e 14,.c (.int 0),.e 42]⟩,
 ⟨46,.or,[.e 14,.e 43]⟩]
def nU:List En:=n5++(oJ++(oD))
def pD:List ObE:=[]
def nu:List Rf:=[.e 45,.e 44]
theorem pI:mV.sees nu (mV.run Try.prog [(60,Oi)] Ah 3000 20 50)=some ((nU).map En.be,pD.map ObE.be,[]):=by kernel_rfl
theorem pU {T:Tab}(hz0:(S T 0).size≤140737488355328)(hl4:(L T 4).length≤140737488355328)(hl10:(L T 10).length≤140737488355328)(g:Ln)(hg:g=Ln.mk (S T 0) (I T 1) (I T 2) (I T 3) (L T 4) (I T 5) (I T 6) (I T 7) (I T 8) (I T 9) (L T 10))(g1:Ln)(z1:g1=Ln.mk (S T 0) (I T 1) (I T 2) (I T 3) (L T 4) (I T 5) (I T 6) (I T 7) (I T 8) (I T 9) (L T 10))(A0:AJ T nU):
  ((I T 45)=(mY g (I T 11) (I T 12)))∧
  ((I T 44)=(A6 g (I T 11) (I T 12))):=by
 obtain⟨F0,A0⟩:=A0.cut
 obtain⟨F1,A0⟩:=A0.cut
 have F2:=A0;clear A0
 have hw:g.wide=I T 1∧g.long=I T 2∧g.yard=I T 3∧g.nx=I T 8∧g.ny=I T 9∧g.cells=((L T 10)):=by
  rw[hg];exact⟨rfl,rfl,rfl,rfl,rfl,rfl⟩
 have hgg:g1=g:=by
  rw[z1,hg]
 have ho:(I T 13)=A6 g (I T 11) (I T 12)∧I T 15=A6 g (I T 11) (I T 12):=by
  obtain⟨e13,-,e15,-⟩:=F0
  replace e13:I T 13=(A6 g1 (I T 11) (I T 12)):=by rw[←show gAt 0 (lh.map (Rf.eval T))=g1 from z1.symm];exact e13
  replace e15:I T 15=(A6 g1 (I T 11) (I T 12)):=by rw[←show gAt 0 (lh.map (Rf.eval T))=g1 from z1.symm];exact e15
  exact⟨by rw[e13,hgg],by rw[e15,hgg]⟩
 have hc:(B T 14)=false↔A6 g (I T 11) (I T 12)=0:=by
  obtain⟨e13,e14,-⟩:=F0
  replace e13:I T 13=(A6 g1 (I T 11) (I T 12)):=by rw[←show gAt 0 (lh.map (Rf.eval T))=g1 from z1.symm];exact e13
  simp only[AE,zR] at e14
  rw[←ho.1]
  cases k:(B T 14) with
  |true=>exact iff_of_false (by simp) (e14.1 k)
  |false=>
   refine iff_of_true rfl ?_
   apply Classical.byContradiction
   intro hn
   have:=e14.2 hn
   simp[k] at this
 refine⟨?_,?_⟩
 ·obtain⟨e13,e14,-,e16,e17,-,e19,e20,-,e22,e23,e24,e25,e26,e27,e28,-⟩:=F0
  obtain⟨-,e30,e31,e32,e33,-,e35,e36,e37,e38,-,e40,-,e42,-⟩:=F1
  obtain⟨e45,-⟩:=F2
  replace e13:I T 13=(A6 g1 (I T 11) (I T 12)):=by rw[←show gAt 0 (lh.map (Rf.eval T))=g1 from z1.symm];exact e13
  simp only[AE,AF,zN,zR,AR,w2P,zL] at*
  unfold mY
  rw[hw.1,hw.2.1,hw.2.2.1,e45]
  cases k:(B T 14) with
  |true=>rw[if_pos rfl,if_pos (fun h=>by have:=hc.2 h;simp[k] at this)]
  |false=>
   obtain⟨h1,h2⟩:=lX (hc.1 k)
   have h3:=CP h1
   rw[hw.1,hw.2.1,hw.2.2.1] at h3
   obtain⟨⟨⟨d1,d2⟩,⟨d3,d4⟩,d5,d6⟩,d7,d8,-⟩:=h3
   rw[if_neg (by simp),if_neg (by simp[hc.1 k])]
   have x19:(I T 19)=(I T 1) / 2:=by rw[e19,if_pos (by omega)]
   have x30':(I T 30)=(I T 1) / 2:=by rw[e30,if_pos (by omega)]
   have x27:=e27 (by omega) (by omega)
   have x31:=e31 (by omega) (by omega)
   have x32:=e32 (by omega) (by omega)
   rw[x30',←x19] at x31
   rw[←x19,←x27,←x31,←x32]
   have h16:(B T 16)=true:=by clear hc ho;grind
   clear hc ho hw hgg e27 e30 e31 e32 e19 x19 x27 x30' x31 x32 d1 d2 d3 d4 d5 d6 d7 d8 h1 h2 e45 e13
   grind
 ·obtain⟨e13,e14,e15,-⟩:=F0
  obtain⟨-,-,-,-,-,-,-,-,-,-,-,-,-,-,-,e44,-⟩:=F1
  replace e13:I T 13=(A6 g1 (I T 11) (I T 12)):=by rw[←show gAt 0 (lh.map (Rf.eval T))=g1 from z1.symm];exact e13
  replace e15:I T 15=(A6 g1 (I T 11) (I T 12)):=by rw[←show gAt 0 (lh.map (Rf.eval T))=g1 from z1.symm];exact e15
  simp only[AE,AF,zR,zL] at e14 e44
  rw[e44]
  cases k:(B T 14) with
  |true=>rw[if_pos rfl,ho.2]
  |false=>rw[if_neg (by simp),hc.1 k]
theorem o6:Aq Try.prog 50 mV:=by
 refine Ai (l:=[(60,Oi)]) BX (by simp only[List.forall_mem_cons];exact⟨ok_one,fun _ h=>absurd h (by simp)⟩) pI (by kernel_rfl) fun T us hpre hT hul hS hBd hE=>?_
 change us.length=13 at hul
 obtain⟨hz0,-,-,-,⟨hl4,he4⟩,-,-,-,-,-,⟨hl10,he10⟩,-⟩:=hBd
 replace hz0:(S T 0).size≤140737488355328:=hz0
 replace hl4:(L T 4).length≤140737488355328:=hl4
 replace hl10:(L T 10).length≤140737488355328:=hl10
 obtain⟨g,hg⟩:∃g:Ln,g=Ln.mk (S T 0) (I T 1) (I T 2) (I T 3) (L T 4) (I T 5) (I T 6) (I T 7) (I T 8) (I T 9) (L T 10):=⟨_,rfl⟩
 have hgu:gAt 0 us=g:=by rw[hg];exact DU hT hul (by decide)
 have ha11:aI us 11=I T 11:=inI hT hul (by decide)
 have ha12:aI us 12=I T 12:=inI hT hul (by decide)
 clear hpre
 skip
 obtain⟨A0,hO⟩:=Ar (tys:=[.i,.i]) (rs:=nu) hS (by kernel_rfl) hE
 obtain⟨g1,z1⟩:∃g:Ln,g=Ln.mk (S T 0) (I T 1) (I T 2) (I T 3) (L T 4) (I T 5) (I T 6) (I T 7) (I T 8) (I T 9) (L T 10):=⟨_,rfl⟩
 obtain⟨q0,q1⟩:=pU hz0 hl4 hl10 g hg g1 z1 A0
 refine⟨trivial,hO.trans ?_⟩
 exact (lc (by show U.int (I T 45)= .int (mC us);unfold mC;rw[hgu,ha11,ha12];exact congrArg U.int q0) (lc (by show U.int (I T 44)= .int (mD us);unfold mD;rw[hgu,ha11,ha12];exact congrArg U.int q1) rfl))
end Go.Eng
end
