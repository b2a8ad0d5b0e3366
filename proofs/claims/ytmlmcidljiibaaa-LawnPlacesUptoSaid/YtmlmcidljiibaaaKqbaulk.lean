/-
  A part of the proof: K_qbaulkd K_qbaulk.
-/
import Derived.Test.YtmlmcidljiibaaaXQlPlaces
import Derived.Test.YtmlmcidljiibaaaE3
import Derived.Test.YtmlmcidljiibaaaE4
import Derived.Test.YtmlmcidljiibaaaKchk
set_option linter.unusedVariables false
set_option linter.unusedSimpArgs false
noncomputable section
open Go Go.Eng Go.Proofs
set_option maxHeartbeats 4000000
set_option maxRecDepth 100000
namespace Go.Eng
def me:List U→Int:=fun us=>(mY (gAt 0 us) (aI us 11) (aI us 12))
def mf:List U→Int:=fun us=>(A6 (gAt 0 us) (aI us 11) (aI us 12))
def my:Ak:={ sh:=[.agg [.str,k64,k64,k64,.list [k64,k64,k64,k64,.bool],k64,k64,k64,k64,k64,.list [k64,k64,k64]],.agg [k64,k64]],blks:=[],outs:=[(.s "qbaulk.0",Bj me),(.s "qbaulk.1",Bj mf)],c:= .tup [(CR 13),(CR 14)],m':=[],pre:=[] }
def l9:List Rf:=[.e 0,.e 1,.e 2,.e 3,.e 4,.e 5,.e 6,.e 7,.e 8,.e 9,.e 10,.e 13]
def oS:List En:=[⟨13,.row 1 2 [.i,.i],[.e 11,.e 12]⟩,
 ⟨14,.outI "chk.0" KH,l9⟩,
 ⟨15,.ne,[.e 14,.c (.int 0)]⟩,
 ⟨16,.not,[.e 15]⟩,
 ⟨17,.o2 .tdiv,[.e 1,.c (.int 2)]⟩,
 ⟨18,.eq,[.e 12,.e 3]⟩,
 ⟨19,.and,[.e 16,.e 18]⟩,
 ⟨20,.le,[.e 3,.e 11]⟩,
 ⟨21,.and,[.e 19,.e 20]⟩,
 ⟨22,.le,[.e 11,.e 17]⟩,
 ⟨23,.and,[.e 20,.e 22]⟩,
 ⟨24,.and,[.e 18,.e 23]⟩,
 ⟨25,.and,[.e 16,.e 24]⟩,
 ⟨26,.and,[.e 16,.n 24]⟩,
 ⟨27,.w2 .i64 .sub,[.e 2,.e 3]⟩,
 ⟨28,.eq,[.e 12,.e 27]⟩]
def oT:List En:=[⟨29,.and,[.e 26,.e 28]⟩,
 ⟨30,.w2 .i64 .sub,[.e 1,.e 17]⟩,
 ⟨31,.w2 .i64 .sub,[.e 1,.e 3]⟩,
 ⟨32,.le,[.e 30,.e 11]⟩,
 ⟨33,.and,[.e 29,.e 32]⟩,
 ⟨34,.le,[.e 11,.e 31]⟩,
 ⟨35,.and,[.e 32,.e 34]⟩,
 ⟨36,.and,[.e 28,.e 35]⟩,
 ⟨37,.and,[.e 26,.e 36]⟩,
 ⟨38,.and,[.e 26,.n 36]⟩,
 ⟨39,.ite .i,[.e 24,.c (.int 1),.c (.int 2)]⟩,
 ⟨40,.or,[.e 25,.e 37]⟩,
 ⟨41,.ite .i,[.e 40,.e 39,.c (.int 0)]⟩,
 ⟨42,.or,[.e 40,.e 38]⟩,
 ⟨43,.ite .i,[.e 15,.e 14,.c (.int 0)]⟩,
 ⟨44,.ite .i,[.e 15,.c (.int 0),.e 41]⟩]
def oQ:List En:=[⟨45,.or,[.e 15,.e 42]⟩]
def nZ:List En:=oS++(oT++(oQ))
def pn:List ObE:=[]
def od:List Rf:=[.e 44,.e 43]
theorem pm:my.sees od (my.run Try.prog [(52,JU)] Ah 3000 20 49)=some ((nZ).map En.be,pn.map ObE.be,[]):=by kernel_rfl
theorem pl {T:Tab}(hz0:(S T 0).size≤140737488355328)(hl4:(L T 4).length≤140737488355328)(hl10:(L T 10).length≤140737488355328)(g:Ln)(hg:g=Ln.mk (S T 0) (I T 1) (I T 2) (I T 3) (L T 4) (I T 5) (I T 6) (I T 7) (I T 8) (I T 9) (L T 10))(g1:Ln)(z1:g1=Ln.mk (S T 0) (I T 1) (I T 2) (I T 3) (L T 4) (I T 5) (I T 6) (I T 7) (I T 8) (I T 9) (L T 10))(A0:AJ T nZ):
  ((I T 44)=(mY g (I T 11) (I T 12)))∧
  ((I T 43)=(A6 g (I T 11) (I T 12))):=by
 obtain⟨F0,A0⟩:=A0.cut
 obtain⟨F1,A0⟩:=A0.cut
 have F2:=A0;clear A0
 have hw:g.wide=I T 1∧g.long=I T 2∧g.yard=I T 3∧g.nx=I T 8∧g.ny=I T 9∧g.cells=((L T 10)):=by
  rw[hg];exact⟨rfl,rfl,rfl,rfl,rfl,rfl⟩
 have hgg:g1=g:=by
  rw[z1,hg]
 have ho:(I T 14)=A6 g (I T 11) (I T 12):=by
  obtain⟨e13,e14,-⟩:=F0
  replace e14:I T 14=(Bo g1 (L T 13)):=by rw[←show gAt 0 (l9.map (Rf.eval T))=g1 from z1.symm];exact e14
  simp only[AE,AF,zR,zL,zS,uR,Ab,zW] at e13
  rw[e14,hgg,e13]
  exact nl
 have hc:(B T 15)=false↔A6 g (I T 11) (I T 12)=0:=by
  obtain⟨e13,e14,e15,-⟩:=F0
  replace e14:I T 14=(Bo g1 (L T 13)):=by rw[←show gAt 0 (l9.map (Rf.eval T))=g1 from z1.symm];exact e14
  simp only[AE,AF,zR,zL,zS,uR,Ab,zW] at e13 e15
  rw[←ho]
  cases k:(B T 15) with
  |true=>exact iff_of_false (by simp) (e15.1 k)
  |false=>
   refine iff_of_true rfl ?_
   apply Classical.byContradiction
   intro hn
   have:=e15.2 hn
   simp[k] at this
 refine⟨?_,?_⟩
 ·obtain⟨e13,e14,e15,e16,e17,e18,-,e20,-,e22,e23,e24,e25,e26,e27,e28,-⟩:=F0
  obtain⟨-,e30,e31,e32,-,e34,e35,e36,e37,-,e39,e40,e41,-,-,e44,-⟩:=F1
  replace e14:I T 14=(Bo g1 (L T 13)):=by rw[←show gAt 0 (l9.map (Rf.eval T))=g1 from z1.symm];exact e14
  simp only[AE,AF,zN,zR,AR,w2P,zL,zS,uR,Ab,zW] at*
  unfold mY
  rw[hw.1,hw.2.1,hw.2.2.1,e44]
  cases k:(B T 15) with
  |true=>rw[if_pos rfl,if_pos (fun h=>by have:=hc.2 h;simp[k] at this)]
  |false=>
   obtain⟨h1,h2⟩:=lX (hc.1 k)
   have h3:=CP h1
   rw[hw.1,hw.2.1,hw.2.2.1] at h3
   obtain⟨⟨⟨d1,d2⟩,⟨d3,d4⟩,d5,d6⟩,d7,d8,-⟩:=h3
   rw[if_neg (by simp),if_neg (by simp[hc.1 k])]
   have x17:(I T 17)=(I T 1) / 2:=by rw[e17,if_pos (by omega)]
   have x27:=e27 (by omega) (by omega)
   have x30:=e30 (by omega) (by omega)
   have x31:=e31 (by omega) (by omega)
   rw[←x17,←x27,←x30,←x31]
   have h16:(B T 16)=true:=by clear hc ho;grind
   clear hc ho hw hgg e27 e30 e31 e17 x17 x27 x30 x31 d1 d2 d3 d4 d5 d6 d7 d8 h1 h2 e44 e14
   grind
 ·obtain⟨e13,e14,e15,-⟩:=F0
  obtain⟨-,-,-,-,-,-,-,-,-,-,-,-,-,-,e43,-⟩:=F1
  replace e14:I T 14=(Bo g1 (L T 13)):=by rw[←show gAt 0 (l9.map (Rf.eval T))=g1 from z1.symm];exact e14
  simp only[AE,AF,zR,zL,zS,uR,Ab,zW] at e13 e15 e43
  rw[e43]
  cases k:(B T 15) with
  |true=>rw[if_pos rfl,ho]
  |false=>rw[if_neg (by simp),hc.1 k]
theorem pH:Aq Try.prog 49 my:=by
 refine Ai (l:=[(52,JU)]) BX (by simp only[List.forall_mem_cons];exact⟨ZD,fun _ h=>absurd h (by simp)⟩) pm (by kernel_rfl) fun T us hpre hT hul hS hBd hE=>?_
 change us.length=13 at hul
 obtain⟨hz0,-,-,-,⟨hl4,he4⟩,-,-,-,-,-,⟨hl10,he10⟩,-⟩:=hBd
 replace hz0:(S T 0).size≤140737488355328:=hz0
 replace hl4:(L T 4).length≤140737488355328:=hl4
 replace hl10:(L T 10).length≤140737488355328:=hl10
 obtain⟨g,hg⟩:∃g:Ln,g=Ln.mk (S T 0) (I T 1) (I T 2) (I T 3) (L T 4) (I T 5) (I T 6) (I T 7) (I T 8) (I T 9) (L T 10):=⟨_,rfl⟩
 have hgu:gAt 0 us=g:=by rw[hg];exact DU hT hul (by decide)
 have ha11:aI us 11=I T 11:=inI hT hul (by decide)
 have ha12:aI us 12=I T 12:=inI hT hul (by decide)
 clear hpre
 skip
 obtain⟨A0,hO⟩:=Ar (tys:=[.i,.i]) (rs:=od) hS (by kernel_rfl) hE
 obtain⟨g1,z1⟩:∃g:Ln,g=Ln.mk (S T 0) (I T 1) (I T 2) (I T 3) (L T 4) (I T 5) (I T 6) (I T 7) (I T 8) (I T 9) (L T 10):=⟨_,rfl⟩
 obtain⟨q0,q1⟩:=pl hz0 hl4 hl10 g hg g1 z1 A0
 refine⟨trivial,hO.trans ?_⟩
 exact (lc (by show U.int (I T 44)= .int (me us);unfold me;rw[hgu,ha11,ha12];exact congrArg U.int q0) (lc (by show U.int (I T 43)= .int (mf us);unfold mf;rw[hgu,ha11,ha12];exact congrArg U.int q1) rfl))
end Go.Eng
end
