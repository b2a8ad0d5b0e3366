/-
  A part of the proof: K_qrplaced K_qrplace.
-/
import Derived.Test.YtmlmcidljiibaaaXQlPlaces
import Derived.Test.YtmlmcidljiibaaaE3
import Derived.Test.YtmlmcidljiibaaaE4
import Derived.Test.YtmlmcidljiibaaaKrcheck
import Derived.Test.YtmlmcidljiibaaaKrat
set_option linter.unusedVariables false
set_option linter.unusedSimpArgs false
noncomputable section
open Go Go.Eng Go.Proofs
set_option maxHeartbeats 4000000
set_option maxRecDepth 100000
namespace Go.Eng
def mG:List U→Int:=fun us=>(mT (gAt 0 us) (aI us 11))
def mB:List U→Int:=fun us=>(mR (gAt 0 us) (aI us 11))
def mF:List U→Int:=fun us=>(ln (gAt 0 us) (aI us 11))
def mS:Ak:={ sh:=[.agg [.str,k64,k64,k64,.list [k64,k64,k64,k64,.bool],k64,k64,k64,k64,k64,.list [k64,k64,k64]],.one (k64)],blks:=[],outs:=[(.s "qrplace.0",Bj mG),(.s "qrplace.1",Bj mB),(.s "qrplace.2",Bj mF)],c:= .tup [.agg [(CR 12),(CR 13)],(CR 14)],m':=[],pre:=[] }
def lO:List Rf:=[.e 0,.e 1,.e 2,.e 3,.e 4,.e 5,.e 6,.e 7,.e 8,.e 9,.e 10]
def lW:List Rf:=[.e 0,.e 1,.e 2,.e 3,.e 4,.e 5,.e 6,.e 7,.e 8,.e 9,.e 10,.e 11]
def oI:List En:=[⟨12,.outI "rcheck.0" GK,lO⟩,
 ⟨13,.ne,[.e 12,.c (.int 0)]⟩,
 ⟨14,.outI "rcheck.0" GK,lO⟩,
 ⟨15,.not,[.e 13]⟩,
 ⟨16,.lt,[.e 11,.c (.int 0)]⟩,
 ⟨17,.and,[.e 15,.n 16]⟩,
 ⟨18,.w2 .i64 .mul,[.c (.int 2),.e 3]⟩,
 ⟨19,.w2 .i64 .sub,[.e 1,.e 18]⟩,
 ⟨20,.w2 .i64 .mul,[.c (.int 2),.e 3]⟩,
 ⟨21,.w2 .i64 .sub,[.e 2,.e 20]⟩,
 ⟨22,.w2 .i64 .add,[.e 19,.e 21]⟩,
 ⟨23,.w2 .i64 .mul,[.c (.int 2),.e 22]⟩,
 ⟨24,.le,[.e 23,.e 11]⟩,
 ⟨25,.or,[.e 16,.e 24]⟩,
 ⟨26,.and,[.e 15,.e 25]⟩,
 ⟨27,.and,[.e 15,.n 25]⟩]
def oG:List En:=[⟨28,.outI "rat.0" KG,lW⟩,
 ⟨29,.outI "rat.1" Jr,lW⟩,
 ⟨30,.ite .i,[.e 26,.c (.int 0),.e 28]⟩,
 ⟨31,.ite .i,[.e 26,.c (.int 0),.e 29]⟩,
 ⟨32,.ite .i,[.e 26,.c (.int 3),.c (.int 0)]⟩,
 ⟨33,.or,[.e 26,.e 27]⟩,
 ⟨34,.ite .i,[.e 13,.c (.int 0),.e 30]⟩,
 ⟨35,.ite .i,[.e 13,.c (.int 0),.e 31]⟩,
 ⟨36,.ite .i,[.e 13,.e 14,.e 32]⟩,
 ⟨37,.or,[.e 13,.e 33]⟩]
def nR:List En:=oI++(oG)
def pM:List ObE:=[⟨some 27,.pre "rat.p0" EF,lW⟩,
 ⟨some 27,.pre "rat.p1" EC,lW⟩]
def nq:List Rf:=[.e 34,.e 35,.e 36]
theorem pR:mS.sees nq (mS.run Try.prog [(16,C3),(37,Kf)] Ah 3000 20 47)=some ((nR).map En.be,pM.map ObE.be,[]):=by kernel_rfl
theorem pP {T:Tab}(hz0:(S T 0).size≤140737488355328)(hl4:(L T 4).length≤140737488355328)(hl10:(L T 10).length≤140737488355328)(g:Ln)(hg:g=Ln.mk (S T 0) (I T 1) (I T 2) (I T 3) (L T 4) (I T 5) (I T 6) (I T 7) (I T 8) (I T 9) (L T 10))(g1:Ln)(z1:g1=Ln.mk (S T 0) (I T 1) (I T 2) (I T 3) (L T 4) (I T 5) (I T 6) (I T 7) (I T 8) (I T 9) (L T 10))(g2:Ln)(z2:g2=Ln.mk (S T 0) (I T 1) (I T 2) (I T 3) (L T 4) (I T 5) (I T 6) (I T 7) (I T 8) (I T 9) (L T 10))(A0:AJ T nR):
  ((I T 34)=(mT g (I T 11)))∧
  ((I T 35)=(mR g (I T 11)))∧
  ((I T 36)=(ln g (I T 11)))∧
  (B T 27=true→AT g2=0)∧
  (B T 27=true→0≤I T 11∧I T 11 < 2*(((g2).wide - 2*(g2).yard)+((g2).long - 2*(g2).yard))):=by
 obtain⟨F0,A0⟩:=A0.cut
 have F1:=A0;clear A0
 have hw:g.wide=I T 1∧g.long=I T 2∧g.yard=I T 3∧g.nx=I T 8∧g.ny=I T 9∧g.cells=((L T 10)):=by
  rw[hg];exact⟨rfl,rfl,rfl,rfl,rfl,rfl⟩
 have hgg:g1=g:=by
  rw[z1,hg]
 have ho:(I T 12)=AT g:=by
  obtain⟨e12,-⟩:=F0
  replace e12:I T 12=(AT g1):=by rw[←show gAt 0 (lO.map (Rf.eval T))=g1 from z1.symm];exact e12
  rw[e12,hgg]
 have hgB:g2=g:=by
  rw[z2,hg]
 have ho2:(I T 14)=AT g:=by
  obtain⟨-,-,e14,-⟩:=F0
  replace e14:I T 14=(AT g1):=by rw[←show gAt 0 (lO.map (Rf.eval T))=g1 from z1.symm];exact e14
  rw[e14,hgg]
 have hc:(B T 13)=false↔AT g=0:=by
  obtain⟨e12,e13,-⟩:=F0
  replace e12:I T 12=(AT g1):=by rw[←show gAt 0 (lO.map (Rf.eval T))=g1 from z1.symm];exact e12
  simp only[AE,zR] at e13
  rw[←ho]
  clear hgg hw ho
  grind
 have hd:(B T 13)=false→I T 19=I T 1 - 2*I T 3∧I T 21=I T 2 - 2*I T 3∧((B T 25)=false↔(0≤I T 11∧I T 11 < 2*(((I T 1) - 2*I T 3)+((I T 2) - 2*I T 3))))∧BR (I T 3) (I T 19) (I T 21):=by
  obtain⟨e12,e13,-,-,e16,-,e18,e19,e20,e21,e22,e23,e24,e25,-⟩:=F0
  replace e12:I T 12=(AT g1):=by rw[←show gAt 0 (lO.map (Rf.eval T))=g1 from z1.symm];exact e12
  simp only[AE,AF,zR,w2P] at*
  intro k
  have h3:=CP (hc.1 k)
  rw[hw.1,hw.2.1,hw.2.2.1] at h3
  obtain⟨⟨⟨d1,d2⟩,⟨d3,d4⟩,d5,d6⟩,d7,d8,-⟩:=h3
  have x15:=e18 (by omega) (by omega)
  have x16:=e19 (by omega) (by omega)
  have x17:=e20 (by omega) (by omega)
  have x18:=e21 (by omega) (by omega)
  rw[x15] at x16
  rw[x17] at x18
  have x21:=e22 (by omega) (by omega)
  have x22:=e23 (by omega) (by omega)
  refine⟨x16,x18,?_,⟨d1,d2⟩,by omega,by omega⟩
  rw[←x16,←x18,←x21,←x22]
  clear x15 x16 x17 x18 x21 x22 e18 e19 e20 e21 e22 e23 hc ho hw hgg d1 d2 d3 d4 d5 d6 d7 d8
  grind
 have hE:(I T 36)=ln g (I T 11):=by
  obtain⟨e12,e13,e14,e15,e16,-,e18,e19,e20,e21,e22,e23,e24,e25,e26,-⟩:=F0
  obtain⟨-,-,-,-,e32,-,-,-,e36,-⟩:=F1
  replace e12:I T 12=(AT g1):=by rw[←show gAt 0 (lO.map (Rf.eval T))=g1 from z1.symm];exact e12
  replace e14:I T 14=(AT g1):=by rw[←show gAt 0 (lO.map (Rf.eval T))=g1 from z1.symm];exact e14
  simp only[AE,AF,zR,w2P,zL] at*
  unfold ln
  rw[hw.1,hw.2.1,hw.2.2.1,e36]
  cases k:(B T 13) with
  |true=>rw[if_pos rfl,if_pos (fun h=>by have:=hc.2 h;simp[k] at this),ho2]
  |false=>
   obtain⟨x1,x2,x3,x4⟩:=hd k
   have h14:(B T 15)=true:=by clear hd x3 hc;grind
   rw[if_neg (by simp),if_neg (by simp[hc.1 k]),e32]
   cases k24:(B T 25) with
   |true=>rw[if_pos (e26.2 ⟨h14,k24⟩),if_neg (fun h=>by have:=x3.2 h;simp[k24] at this)]
   |false=>rw[if_neg (fun h=>by have:=(e26.1 h).2;simp[k24] at this),if_pos (x3.1 k24)]
 have hz:(I T 36)=0→B T 13=false∧B T 26=false:=by
  obtain⟨e12,e13,e14,e15,e16,-,e18,e19,e20,e21,e22,e23,e24,e25,e26,-⟩:=F0
  obtain⟨-,e29,-,e31,e32,-,-,e35,e36,-⟩:=F1
  replace e12:I T 12=(AT g1):=by rw[←show gAt 0 (lO.map (Rf.eval T))=g1 from z1.symm];exact e12
  replace e14:I T 14=(AT g1):=by rw[←show gAt 0 (lO.map (Rf.eval T))=g1 from z1.symm];exact e14
  replace e29:I T 29=(AX (g2).yard ((g2).wide - 2*(g2).yard) ((g2).long - 2*(g2).yard) (I T 11)):=by rw[←show gAt 0 (lW.map (Rf.eval T))=g2 from z2.symm];exact e29
  simp only[AE,AF,zR,w2P,zL] at*
  intro h
  rw[e36] at h
  cases k:(B T 13) with
  |true=>rw[if_pos k] at h;exact absurd (ho.trans (ho2.symm.trans h)) (e13.1 k)
  |false=>
   refine⟨rfl,?_⟩
   rw[if_neg (by simp[k]),e32] at h
   cases k25:(B T 26) with
   |true=>rw[if_pos k25] at h;omega
   |false=>rfl
 have hn:¬I T 36=0→B T 13=true∨B T 26=true:=by
  obtain⟨e12,e13,e14,e15,e16,-,e18,e19,e20,e21,e22,e23,e24,e25,e26,-⟩:=F0
  obtain⟨-,e29,-,e31,e32,-,-,e35,e36,-⟩:=F1
  replace e12:I T 12=(AT g1):=by rw[←show gAt 0 (lO.map (Rf.eval T))=g1 from z1.symm];exact e12
  replace e14:I T 14=(AT g1):=by rw[←show gAt 0 (lO.map (Rf.eval T))=g1 from z1.symm];exact e14
  replace e29:I T 29=(AX (g2).yard ((g2).wide - 2*(g2).yard) ((g2).long - 2*(g2).yard) (I T 11)):=by rw[←show gAt 0 (lW.map (Rf.eval T))=g2 from z2.symm];exact e29
  simp only[AE,AF,zR,w2P,zL] at*
  intro h
  cases k:(B T 13) with
  |true=>exact .inl rfl
  |false=>
   refine .inr ?_
   cases k25:(B T 26) with
   |true=>rfl
   |false=>rw[e36,if_neg (by simp[k]),e32,if_neg (by simp[k25])] at h;exact absurd rfl h
 refine⟨?_,?_,?_,?_,?_⟩
 ·obtain⟨e12,e13,-,e15,e16,-,e18,e19,e20,e21,e22,e23,e24,e25,e26,-⟩:=F0
  obtain⟨e28,-,e30,-,-,-,e34,-⟩:=F1
  replace e12:I T 12=(AT g1):=by rw[←show gAt 0 (lO.map (Rf.eval T))=g1 from z1.symm];exact e12
  replace e28:I T 28=(AY (g2).yard ((g2).wide - 2*(g2).yard) ((g2).long - 2*(g2).yard) (I T 11)):=by rw[←show gAt 0 (lW.map (Rf.eval T))=g2 from z2.symm];exact e28
  simp only[AE,AF,zR,w2P,zL] at*
  unfold mT
  rw[←hE,hw.1,hw.2.1,hw.2.2.1,e34]
  by_cases h:(I T 36)=0
  ·obtain⟨z1,z2⟩:=hz h
   obtain⟨x1,x2,x3,x4⟩:=hd z1
   rw[if_pos h,if_neg (by simp[z1]),e30,if_neg (by simp[z2]),e28,hgB,hw.1,hw.2.1,hw.2.2.1]
  ·rw[if_neg h]
   rcases hn h with k|k
   ·rw[if_pos k]
   ·rw[e30,if_pos k]
    split<;>rfl
 ·obtain⟨e12,e13,-,e15,e16,-,e18,e19,e20,e21,e22,e23,e24,e25,e26,-⟩:=F0
  obtain⟨-,e29,-,e31,-,-,-,e35,-⟩:=F1
  replace e12:I T 12=(AT g1):=by rw[←show gAt 0 (lO.map (Rf.eval T))=g1 from z1.symm];exact e12
  replace e29:I T 29=(AX (g2).yard ((g2).wide - 2*(g2).yard) ((g2).long - 2*(g2).yard) (I T 11)):=by rw[←show gAt 0 (lW.map (Rf.eval T))=g2 from z2.symm];exact e29
  simp only[AE,AF,zR,w2P,zL] at*
  unfold mR
  rw[←hE,hw.1,hw.2.1,hw.2.2.1,e35]
  by_cases h:(I T 36)=0
  ·obtain⟨z1,z2⟩:=hz h
   obtain⟨x1,x2,x3,x4⟩:=hd z1
   rw[if_pos h,if_neg (by simp[z1]),e31,if_neg (by simp[z2]),e29,hgB,hw.1,hw.2.1,hw.2.2.1]
  ·rw[if_neg h]
   rcases hn h with k|k
   ·rw[if_pos k]
   ·rw[e31,if_pos k]
    split<;>rfl
 ·obtain⟨e12,e13,e14,e15,e16,-,e18,e19,e20,e21,e22,e23,e24,e25,e26,-⟩:=F0
  obtain⟨-,-,-,-,e32,-,-,-,e36,-⟩:=F1
  replace e12:I T 12=(AT g1):=by rw[←show gAt 0 (lO.map (Rf.eval T))=g1 from z1.symm];exact e12
  replace e14:I T 14=(AT g1):=by rw[←show gAt 0 (lO.map (Rf.eval T))=g1 from z1.symm];exact e14
  simp only[AE,AF,zR,w2P,zL] at*
  exact hE
 ·obtain⟨e12,e13,-,e15,e16,-,e18,e19,e20,e21,e22,e23,e24,e25,-,e27,-⟩:=F0
  replace e12:I T 12=(AT g1):=by rw[←show gAt 0 (lO.map (Rf.eval T))=g1 from z1.symm];exact e12
  simp only[AE,AF,zN,zR,w2P] at*
  intro h
  have h14:=(e27.1 h).1
  have k:(B T 13)=false:=by clear hd hc;grind
  rw[hgB];exact hc.1 k
 ·obtain⟨e12,e13,-,e15,e16,-,e18,e19,e20,e21,e22,e23,e24,e25,-,e27,-⟩:=F0
  replace e12:I T 12=(AT g1):=by rw[←show gAt 0 (lO.map (Rf.eval T))=g1 from z1.symm];exact e12
  simp only[AE,AF,zN,zR,w2P] at*
  intro h
  have h14:=e27.1 h
  have k:(B T 13)=false:=by clear hd hc;grind
  obtain⟨x1,x2,x3,x4⟩:=hd k
  rw[hgB,hw.1,hw.2.1,hw.2.2.1]
  exact x3.1 h14.2
theorem oy:Aq Try.prog 47 mS:=by
 refine Ai (l:=[(16,C3),(37,Kf)]) BX (by simp only[List.forall_mem_cons];exact⟨Yw,dn,fun _ h=>absurd h (by simp)⟩) pR (by kernel_rfl) fun T us hpre hT hul hS hBd hE=>?_
 change us.length=12 at hul
 obtain⟨hz0,-,-,-,⟨hl4,he4⟩,-,-,-,-,-,⟨hl10,he10⟩,-⟩:=hBd
 replace hz0:(S T 0).size≤140737488355328:=hz0
 replace hl4:(L T 4).length≤140737488355328:=hl4
 replace hl10:(L T 10).length≤140737488355328:=hl10
 obtain⟨g,hg⟩:∃g:Ln,g=Ln.mk (S T 0) (I T 1) (I T 2) (I T 3) (L T 4) (I T 5) (I T 6) (I T 7) (I T 8) (I T 9) (L T 10):=⟨_,rfl⟩
 have hgu:gAt 0 us=g:=by rw[hg];exact DU hT hul (by decide)
 have ha11:aI us 11=I T 11:=inI hT hul (by decide)
 clear hpre
 skip
 obtain⟨A0,hO⟩:=Ar (tys:=[.i,.i,.i]) (rs:=nq) hS (by kernel_rfl) hE
 obtain⟨g1,z1⟩:∃g:Ln,g=Ln.mk (S T 0) (I T 1) (I T 2) (I T 3) (L T 4) (I T 5) (I T 6) (I T 7) (I T 8) (I T 9) (L T 10):=⟨_,rfl⟩
 obtain⟨g2,z2⟩:∃g:Ln,g=Ln.mk (S T 0) (I T 1) (I T 2) (I T 3) (L T 4) (I T 5) (I T 6) (I T 7) (I T 8) (I T 9) (L T 10):=⟨_,rfl⟩
 obtain⟨q0,q1,q2,r0,r1⟩:=pP hz0 hl4 hl10 g hg g1 z1 g2 z2 A0
 refine⟨⟨(fun hp=>by show EF _;unfold EF;rw[show gAt 0 (lW.map (Rf.eval T))=g2 from z2.symm];exact r0 hp),(fun hp=>by show EC _;unfold EC;rw[show gAt 0 (lW.map (Rf.eval T))=g2 from z2.symm];exact r1 hp),trivial⟩,hO.trans ?_⟩
 exact (lc (by show U.int (I T 34)= .int (mG us);unfold mG;rw[hgu,ha11];exact congrArg U.int q0) (lc (by show U.int (I T 35)= .int (mB us);unfold mB;rw[hgu,ha11];exact congrArg U.int q1) (lc (by show U.int (I T 36)= .int (mF us);unfold mF;rw[hgu,ha11];exact congrArg U.int q2) rfl)))
end Go.Eng
end
