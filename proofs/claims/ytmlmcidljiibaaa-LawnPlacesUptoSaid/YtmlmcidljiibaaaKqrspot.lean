/-
  A part of the proof: K_qrspotd K_qrspot.
-/
import Derived.Test.YtmlmcidljiibaaaXQlPlaces
import Derived.Test.YtmlmcidljiibaaaE3
import Derived.Test.YtmlmcidljiibaaaE4
import Derived.Test.YtmlmcidljiibaaaKone
set_option linter.unusedVariables false
set_option linter.unusedSimpArgs false
noncomputable section
open Go Go.Eng Go.Proofs
set_option maxHeartbeats 4000000
set_option maxRecDepth 100000
namespace Go.Eng
def mj:List U→Int:=fun us=>(mJ (gAt 0 us) (aI us 11) (aI us 12))
def mc:List U→Int:=fun us=>(mN (gAt 0 us) (aI us 11) (aI us 12))
def mn:List U→Bool:=fun us=>(mE (gAt 0 us) (aI us 11) (aI us 12))
def mw:List U→Int:=fun us=>(A6 (gAt 0 us) (aI us 11) (aI us 12))
def nB:Ak:={ sh:=[.agg [.str,k64,k64,k64,.list [k64,k64,k64,k64,.bool],k64,k64,k64,k64,k64,.list [k64,k64,k64]],.agg [k64,k64]],blks:=[],outs:=[(.s "qrspot.0",Bj mj),(.s "qrspot.1",Bj mc),(.s "qrspot.2",EK mn),(.s "qrspot.3",Bj mw)],c:= .tup [.agg [(CR 13),(CR 14)],.b 15,(CR 16)],m':=[],pre:=[] }
def lY:List Rf:=[.e 0,.e 1,.e 2,.e 3,.e 4,.e 5,.e 6,.e 7,.e 8,.e 9,.e 10,.e 11,.e 12]
def oZ:List En:=[⟨13,.outI "one.0" Jy,lY⟩,
 ⟨14,.ne,[.e 13,.c (.int 0)]⟩,
 ⟨15,.outI "one.0" Jy,lY⟩,
 ⟨16,.not,[.e 14]⟩,
 ⟨17,.w2 .i64 .sub,[.e 1,.e 3]⟩,
 ⟨18,.o2 .min,[.e 11,.e 17]⟩,
 ⟨19,.o2 .max,[.e 3,.e 18]⟩,
 ⟨20,.w2 .i64 .sub,[.e 2,.e 3]⟩,
 ⟨21,.o2 .min,[.e 12,.e 20]⟩,
 ⟨22,.o2 .max,[.e 3,.e 21]⟩,
 ⟨23,.nes [.i,.i],[.e 19,.e 11,.e 22,.e 12]⟩,
 ⟨24,.ite .i,[.e 14,.c (.int 0),.e 19]⟩,
 ⟨25,.ite .i,[.e 14,.c (.int 0),.e 22]⟩,
 ⟨26,.ite .b,[.e 14,.c (.bool false),.e 23]⟩,
 ⟨27,.ite .i,[.e 14,.e 15,.c (.int 0)]⟩,
 ⟨28,.or,[.e 14,.e 16]⟩]
def nd:List En:=oZ
def p8:List ObE:=[]
def og:List Rf:=[.e 24,.e 25,.e 26,.e 27]
theorem qD:nB.sees og (nB.run Try.prog [(60,Oi)] Ah 3000 20 46)=some ((nd).map En.be,p8.map ObE.be,[]):=by kernel_rfl
theorem p9 {T:Tab}(hz0:(S T 0).size≤140737488355328)(hl4:(L T 4).length≤140737488355328)(hl10:(L T 10).length≤140737488355328)(g:Ln)(hg:g=Ln.mk (S T 0) (I T 1) (I T 2) (I T 3) (L T 4) (I T 5) (I T 6) (I T 7) (I T 8) (I T 9) (L T 10))(g1:Ln)(z1:g1=Ln.mk (S T 0) (I T 1) (I T 2) (I T 3) (L T 4) (I T 5) (I T 6) (I T 7) (I T 8) (I T 9) (L T 10))(A0:AJ T nd):
  ((I T 24)=(mJ g (I T 11) (I T 12)))∧
  ((I T 25)=(mN g (I T 11) (I T 12)))∧
  ((B T 26)=(mE g (I T 11) (I T 12)))∧
  ((I T 27)=(A6 g (I T 11) (I T 12))):=by
 have F0:=A0;clear A0
 have hw:g.wide=I T 1∧g.long=I T 2∧g.yard=I T 3∧g.nx=I T 8∧g.ny=I T 9∧g.cells=((L T 10)):=by
  rw[hg];exact⟨rfl,rfl,rfl,rfl,rfl,rfl⟩
 have hgg:g1=g:=by
  rw[z1,hg]
 have ho:(I T 13)=A6 g (I T 11) (I T 12)∧I T 15=A6 g (I T 11) (I T 12):=by
  obtain⟨e13,-,e15,-⟩:=F0
  replace e13:I T 13=(A6 g1 (I T 11) (I T 12)):=by rw[←show gAt 0 (lY.map (Rf.eval T))=g1 from z1.symm];exact e13
  replace e15:I T 15=(A6 g1 (I T 11) (I T 12)):=by rw[←show gAt 0 (lY.map (Rf.eval T))=g1 from z1.symm];exact e15
  exact⟨by rw[e13,hgg],by rw[e15,hgg]⟩
 have hc:(B T 14)=false↔A6 g (I T 11) (I T 12)=0:=by
  obtain⟨e13,e14,-⟩:=F0
  replace e13:I T 13=(A6 g1 (I T 11) (I T 12)):=by rw[←show gAt 0 (lY.map (Rf.eval T))=g1 from z1.symm];exact e13
  simp only[AE,zR] at e14
  rw[←ho.1]
  cases k:(B T 14) with
  |true=>exact iff_of_false (by simp) (e14.1 k)
  |false=>
   refine iff_of_true rfl ?_
   apply Classical.byContradiction
   intro hn
   have:=e14.2 hn
   simp[k] at this
 have hs:(B T 14)=false→I T 19=FR g (I T 11)∧I T 22=FT g (I T 12):=by
  obtain⟨e13,e14,-,-,e17,e18,e19,e20,e21,e22,-⟩:=F0
  replace e13:I T 13=(A6 g1 (I T 11) (I T 12)):=by rw[←show gAt 0 (lY.map (Rf.eval T))=g1 from z1.symm];exact e13
  simp only[AE,zR,AR,w2P] at*
  intro k
  obtain⟨h1,h2⟩:=lX (hc.1 k)
  have h3:=CP h1
  rw[hw.1,hw.2.1,hw.2.2.1] at h3
  obtain⟨⟨⟨d1,d2⟩,⟨d3,d4⟩,d5,d6⟩,d7,d8,-⟩:=h3
  unfold FR FT
  rw[hw.1,hw.2.1,hw.2.2.1,e19,e22]
  exact⟨Qr (by omega) (by rw[e18,e17 (by omega) (by omega)]),Qr (by omega) (by rw[e21,e20 (by omega) (by omega)])⟩
 refine⟨?_,?_,?_,?_⟩
 ·obtain⟨e13,e14,-,-,e17,e18,e19,-,-,-,-,e24,-⟩:=F0
  replace e13:I T 13=(A6 g1 (I T 11) (I T 12)):=by rw[←show gAt 0 (lY.map (Rf.eval T))=g1 from z1.symm];exact e13
  simp only[AE,AF,zR,AR,w2P,zL] at*
  unfold mJ
  rw[e24]
  cases k:(B T 14) with
  |true=>rw[if_pos rfl,if_neg (fun h=>by have:=hc.2 h;simp[k] at this)]
  |false=>rw[if_neg (by simp),if_pos (hc.1 k),(hs k).1]
 ·obtain⟨e13,e14,-,-,-,-,-,e20,e21,e22,-,-,e25,-⟩:=F0
  replace e13:I T 13=(A6 g1 (I T 11) (I T 12)):=by rw[←show gAt 0 (lY.map (Rf.eval T))=g1 from z1.symm];exact e13
  simp only[AE,AF,zR,AR,w2P,zL] at*
  unfold mN
  rw[e25]
  cases k:(B T 14) with
  |true=>rw[if_pos rfl,if_neg (fun h=>by have:=hc.2 h;simp[k] at this)]
  |false=>rw[if_neg (by simp),if_pos (hc.1 k),(hs k).2]
 ·obtain⟨e13,e14,-,-,e17,e18,e19,e20,e21,e22,e23,-,-,e26,-⟩:=F0
  replace e13:I T 13=(A6 g1 (I T 11) (I T 12)):=by rw[←show gAt 0 (lY.map (Rf.eval T))=g1 from z1.symm];exact e13
  simp only[AE,AF,zC,zR,Bb,and_true,AR,w2P,zL] at*
  refine Bool.eq_iff_iff.2 ?_
  unfold mE
  rw[Bool.and_eq_true,decide_eq_true_eq,decide_eq_true_eq,←hc,e26,Bool.not_eq_true]
  refine and_congr_right fun k=>?_
  rw[e23,(hs k).1,(hs k).2]
 ·obtain⟨e13,e14,e15,-,-,-,-,-,-,-,-,-,-,-,e27,-⟩:=F0
  replace e13:I T 13=(A6 g1 (I T 11) (I T 12)):=by rw[←show gAt 0 (lY.map (Rf.eval T))=g1 from z1.symm];exact e13
  replace e15:I T 15=(A6 g1 (I T 11) (I T 12)):=by rw[←show gAt 0 (lY.map (Rf.eval T))=g1 from z1.symm];exact e15
  simp only[AE,AF,zR,zL] at e14 e27
  rw[e27]
  cases k:(B T 14) with
  |true=>rw[if_pos rfl,ho.2]
  |false=>rw[if_neg (by simp),hc.1 k]
theorem pQ:Aq Try.prog 46 nB:=by
 refine Ai (l:=[(60,Oi)]) BX (by simp only[List.forall_mem_cons];exact⟨ok_one,fun _ h=>absurd h (by simp)⟩) qD (by kernel_rfl) fun T us hpre hT hul hS hBd hE=>?_
 change us.length=13 at hul
 obtain⟨hz0,-,-,-,⟨hl4,he4⟩,-,-,-,-,-,⟨hl10,he10⟩,-⟩:=hBd
 replace hz0:(S T 0).size≤140737488355328:=hz0
 replace hl4:(L T 4).length≤140737488355328:=hl4
 replace hl10:(L T 10).length≤140737488355328:=hl10
 obtain⟨g,hg⟩:∃g:Ln,g=Ln.mk (S T 0) (I T 1) (I T 2) (I T 3) (L T 4) (I T 5) (I T 6) (I T 7) (I T 8) (I T 9) (L T 10):=⟨_,rfl⟩
 have hgu:gAt 0 us=g:=by rw[hg];exact DU hT hul (by decide)
 have ha11:aI us 11=I T 11:=inI hT hul (by decide)
 have ha12:aI us 12=I T 12:=inI hT hul (by decide)
 clear hpre
 skip
 obtain⟨A0,hO⟩:=Ar (tys:=[.i,.i,.b,.i]) (rs:=og) hS (by kernel_rfl) hE
 obtain⟨g1,z1⟩:∃g:Ln,g=Ln.mk (S T 0) (I T 1) (I T 2) (I T 3) (L T 4) (I T 5) (I T 6) (I T 7) (I T 8) (I T 9) (L T 10):=⟨_,rfl⟩
 obtain⟨q0,q1,q2,q3⟩:=p9 hz0 hl4 hl10 g hg g1 z1 A0
 refine⟨trivial,hO.trans ?_⟩
 exact (lc (by show U.int (I T 24)= .int (mj us);unfold mj;rw[hgu,ha11,ha12];exact congrArg U.int q0) (lc (by show U.int (I T 25)= .int (mc us);unfold mc;rw[hgu,ha11,ha12];exact congrArg U.int q1) (lc (by show U.bool (B T 26)= .bool (mn us);unfold mn;rw[hgu,ha11,ha12];exact congrArg U.bool q2) (lc (by show U.int (I T 27)= .int (mw us);unfold mw;rw[hgu,ha11,ha12];exact congrArg U.int q3) rfl))))
end Go.Eng
end
