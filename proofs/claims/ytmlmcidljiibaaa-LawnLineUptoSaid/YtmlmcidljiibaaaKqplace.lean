/-
  A part of the proof: K_qplaced K_qplace.
-/
import Derived.Test.YtmlmcidljiibaaaXQlLine
import Derived.Test.YtmlmcidljiibaaaE3
import Derived.Test.YtmlmcidljiibaaaE4
import Derived.Test.YtmlmcidljiibaaaKcheck
import Derived.Test.YtmlmcidljiibaaaKat
set_option linter.unusedVariables false
set_option linter.unusedSimpArgs false
noncomputable section
open Go Go.Eng Go.Proofs
set_option maxHeartbeats 4000000
set_option maxRecDepth 100000
namespace Go.Eng
def mp:List U→Int:=fun us=>(mT (gAt 0 us) (aI us 11))
def mq:List U→Int:=fun us=>(mR (gAt 0 us) (aI us 11))
def mZ:List U→Int:=fun us=>(ln (gAt 0 us) (aI us 11))
def nA:Ak:={ sh:=[.agg [.str,k64,k64,k64,.list [k64,k64,k64,k64,.bool],k64,k64,k64,k64,k64,.list [k64,k64,k64]],.one (k64)],blks:=[],outs:=[(.s "qplace.0",Bj mp),(.s "qplace.1",Bj mq),(.s "qplace.2",Bj mZ)],c:= .tup [.agg [(CR 12),(CR 13)],(CR 14)],m':=[],pre:=[] }
def lV:List Rf:=[.e 0,.e 1,.e 2,.e 3,.e 4,.e 5,.e 6,.e 7,.e 8,.e 9,.e 10]
def oe:List En:=[⟨12,.outI "check.0" HX,lV⟩,
 ⟨13,.ne,[.e 12,.c (.int 0)]⟩,
 ⟨14,.not,[.e 13]⟩,
 ⟨15,.w2 .i64 .mul,[.c (.int 2),.e 3]⟩,
 ⟨16,.w2 .i64 .sub,[.e 1,.e 15]⟩,
 ⟨17,.w2 .i64 .mul,[.c (.int 2),.e 3]⟩,
 ⟨18,.w2 .i64 .sub,[.e 2,.e 17]⟩,
 ⟨19,.lt,[.e 11,.c (.int 0)]⟩,
 ⟨20,.and,[.e 14,.n 19]⟩,
 ⟨21,.w2 .i64 .add,[.e 16,.e 18]⟩,
 ⟨22,.w2 .i64 .mul,[.c (.int 2),.e 21]⟩,
 ⟨23,.le,[.e 22,.e 11]⟩,
 ⟨24,.or,[.e 19,.e 23]⟩,
 ⟨25,.and,[.e 14,.e 24]⟩,
 ⟨26,.and,[.e 14,.n 24]⟩,
 ⟨27,.outI "at.0" Lc,[.e 3,.e 16,.e 18,.e 11]⟩]
def oR:List En:=[⟨28,.outI "at.1" MC,[.e 3,.e 16,.e 18,.e 11]⟩,
 ⟨29,.ite .i,[.e 25,.c (.int 0),.e 27]⟩,
 ⟨30,.ite .i,[.e 25,.c (.int 0),.e 28]⟩,
 ⟨31,.ite .i,[.e 25,.c (.int 3),.c (.int 0)]⟩,
 ⟨32,.or,[.e 25,.e 26]⟩,
 ⟨33,.ite .i,[.e 13,.c (.int 0),.e 29]⟩,
 ⟨34,.ite .i,[.e 13,.c (.int 0),.e 30]⟩,
 ⟨35,.ite .i,[.e 13,.e 12,.e 31]⟩,
 ⟨36,.or,[.e 13,.e 32]⟩]
def nW:List En:=oe++(oR)
def qA:List ObE:=[⟨some 26,.pre "at.p0" KK,[.e 3,.e 16,.e 18,.e 11]⟩,
 ⟨some 26,.pre "at.p1" J9,[.e 3,.e 16,.e 18,.e 11]⟩]
def oP:List Rf:=[.e 33,.e 34,.e 35]
theorem pg:nA.sees oP (nA.run Try.prog [(86,E5),(88,Np)] Ah 3000 20 38)=some ((nW).map En.be,qA.map ObE.be,[]):=by kernel_rfl
theorem pu {T:Tab}(hz0:(S T 0).size≤140737488355328)(hl4:(L T 4).length≤140737488355328)(hl10:(L T 10).length≤140737488355328)(g:Ln)(hg:g=Ln.mk (S T 0) (I T 1) (I T 2) (I T 3) (L T 4) (I T 5) (I T 6) (I T 7) (I T 8) (I T 9) (L T 10))(g1:Ln)(z1:g1=Ln.mk (S T 0) (I T 1) (I T 2) (I T 3) (L T 4) (I T 5) (I T 6) (I T 7) (I T 8) (I T 9) (L T 10))(A0:AJ T nW):
  ((I T 33)=(mT g (I T 11)))∧
  ((I T 34)=(mR g (I T 11)))∧
  ((I T 35)=(ln g (I T 11)))∧
  (B T 26=true→BR (I T 3) (I T 16) (I T 18))∧
  (B T 26=true→0≤I T 11∧I T 11 < 2*((I T 16)+I T 18)):=by
 obtain⟨F0,A0⟩:=A0.cut
 have F1:=A0;clear A0
 have hw:g.wide=I T 1∧g.long=I T 2∧g.yard=I T 3∧g.nx=I T 8∧g.ny=I T 9∧g.cells=((L T 10)):=by
  rw[hg];exact⟨rfl,rfl,rfl,rfl,rfl,rfl⟩
 have hgg:g1=g:=by
  rw[z1,hg]
 have ho:(I T 12)=AT g:=by
  obtain⟨e12,-⟩:=F0
  replace e12:I T 12=(AT g1):=by rw[←show gAt 0 (lV.map (Rf.eval T))=g1 from z1.symm];exact e12
  rw[e12,hgg]
 have hc:(B T 13)=false↔AT g=0:=by
  obtain⟨e12,e13,-⟩:=F0
  replace e12:I T 12=(AT g1):=by rw[←show gAt 0 (lV.map (Rf.eval T))=g1 from z1.symm];exact e12
  simp only[AE,zR] at e13
  rw[←ho]
  clear hgg hw ho
  grind
 have hd:(B T 13)=false→I T 16=I T 1 - 2*I T 3∧I T 18=I T 2 - 2*I T 3∧((B T 24)=false↔(0≤I T 11∧I T 11 < 2*(((I T 1) - 2*I T 3)+((I T 2) - 2*I T 3))))∧BR (I T 3) (I T 16) (I T 18):=by
  obtain⟨e12,e13,-,e15,e16,e17,e18,e19,-,e21,e22,e23,e24,-⟩:=F0
  replace e12:I T 12=(AT g1):=by rw[←show gAt 0 (lV.map (Rf.eval T))=g1 from z1.symm];exact e12
  simp only[AE,AF,zR,w2P] at*
  intro k
  have h3:=CP (hc.1 k)
  rw[hw.1,hw.2.1,hw.2.2.1] at h3
  obtain⟨⟨⟨d1,d2⟩,⟨d3,d4⟩,d5,d6⟩,d7,d8,-⟩:=h3
  have x15:=e15 (by omega) (by omega)
  have x16:=e16 (by omega) (by omega)
  have x17:=e17 (by omega) (by omega)
  have x18:=e18 (by omega) (by omega)
  rw[x15] at x16
  rw[x17] at x18
  have x21:=e21 (by omega) (by omega)
  have x22:=e22 (by omega) (by omega)
  refine⟨x16,x18,?_,⟨d1,d2⟩,by omega,by omega⟩
  rw[←x16,←x18,←x21,←x22]
  clear x15 x16 x17 x18 x21 x22 e15 e16 e17 e18 e21 e22 hc ho hw hgg d1 d2 d3 d4 d5 d6 d7 d8
  grind
 have hE:(I T 35)=ln g (I T 11):=by
  obtain⟨e12,e13,e14,e15,e16,e17,e18,e19,-,e21,e22,e23,e24,e25,-⟩:=F0
  obtain⟨-,-,-,e31,-,-,-,e35,-⟩:=F1
  replace e12:I T 12=(AT g1):=by rw[←show gAt 0 (lV.map (Rf.eval T))=g1 from z1.symm];exact e12
  simp only[AE,AF,zR,w2P,zL] at*
  unfold ln
  rw[hw.1,hw.2.1,hw.2.2.1,e35]
  cases k:(B T 13) with
  |true=>rw[if_pos rfl,if_pos (fun h=>by have:=hc.2 h;simp[k] at this),ho]
  |false=>
   obtain⟨x1,x2,x3,x4⟩:=hd k
   have h14:(B T 14)=true:=by clear hd x3 hc;grind
   rw[if_neg (by simp),if_neg (by simp[hc.1 k]),e31]
   cases k24:(B T 24) with
   |true=>rw[if_pos (e25.2 ⟨h14,k24⟩),if_neg (fun h=>by have:=x3.2 h;simp[k24] at this)]
   |false=>rw[if_neg (fun h=>by have:=(e25.1 h).2;simp[k24] at this),if_pos (x3.1 k24)]
 have hz:(I T 35)=0→B T 13=false∧B T 25=false:=by
  obtain⟨e12,e13,e14,e15,e16,e17,e18,e19,-,e21,e22,e23,e24,e25,-⟩:=F0
  obtain⟨-,-,-,e31,-,-,-,e35,-⟩:=F1
  replace e12:I T 12=(AT g1):=by rw[←show gAt 0 (lV.map (Rf.eval T))=g1 from z1.symm];exact e12
  simp only[AE,AF,zR,w2P,zL] at*
  intro h
  rw[e35] at h
  cases k:(B T 13) with
  |true=>rw[if_pos k] at h;exact absurd h (e13.1 k)
  |false=>
   refine⟨rfl,?_⟩
   rw[if_neg (by simp[k]),e31] at h
   cases k25:(B T 25) with
   |true=>rw[if_pos k25] at h;omega
   |false=>rfl
 have hn:¬I T 35=0→B T 13=true∨B T 25=true:=by
  obtain⟨e12,e13,e14,e15,e16,e17,e18,e19,-,e21,e22,e23,e24,e25,-⟩:=F0
  obtain⟨-,-,-,e31,-,-,-,e35,-⟩:=F1
  replace e12:I T 12=(AT g1):=by rw[←show gAt 0 (lV.map (Rf.eval T))=g1 from z1.symm];exact e12
  simp only[AE,AF,zR,w2P,zL] at*
  intro h
  cases k:(B T 13) with
  |true=>exact .inl rfl
  |false=>
   refine .inr ?_
   cases k25:(B T 25) with
   |true=>rfl
   |false=>rw[e35,if_neg (by simp[k]),e31,if_neg (by simp[k25])] at h;exact absurd rfl h
 refine⟨?_,?_,?_,?_,?_⟩
 ·obtain⟨e12,e13,e14,e15,e16,e17,e18,e19,-,e21,e22,e23,e24,e25,-,e27,-⟩:=F0
  obtain⟨-,e29,-,-,-,e33,-⟩:=F1
  replace e12:I T 12=(AT g1):=by rw[←show gAt 0 (lV.map (Rf.eval T))=g1 from z1.symm];exact e12
  replace e27:I T 27=(AY (I T 3) (I T 16) (I T 18) (I T 11)):=e27
  simp only[AE,AF,zR,w2P,zL] at*
  unfold mT
  rw[←hE,hw.1,hw.2.1,hw.2.2.1,e33]
  by_cases h:(I T 35)=0
  ·obtain⟨z1,z2⟩:=hz h
   obtain⟨x1,x2,x3,x4⟩:=hd z1
   rw[if_pos h,if_neg (by simp[z1]),e29,if_neg (by simp[z2]),e27,x1,x2]
  ·rw[if_neg h]
   rcases hn h with k|k
   ·rw[if_pos k]
   ·rw[e29,if_pos k]
    split<;>rfl
 ·obtain⟨e12,e13,e14,e15,e16,e17,e18,e19,-,e21,e22,e23,e24,e25,-⟩:=F0
  obtain⟨e28,-,e30,-,-,-,e34,-⟩:=F1
  replace e12:I T 12=(AT g1):=by rw[←show gAt 0 (lV.map (Rf.eval T))=g1 from z1.symm];exact e12
  replace e28:I T 28=(AX (I T 3) (I T 16) (I T 18) (I T 11)):=e28
  simp only[AE,AF,zR,w2P,zL] at*
  unfold mR
  rw[←hE,hw.1,hw.2.1,hw.2.2.1,e34]
  by_cases h:(I T 35)=0
  ·obtain⟨z1,z2⟩:=hz h
   obtain⟨x1,x2,x3,x4⟩:=hd z1
   rw[if_pos h,if_neg (by simp[z1]),e30,if_neg (by simp[z2]),e28,x1,x2]
  ·rw[if_neg h]
   rcases hn h with k|k
   ·rw[if_pos k]
   ·rw[e30,if_pos k]
    split<;>rfl
 ·obtain⟨e12,e13,e14,e15,e16,e17,e18,e19,-,e21,e22,e23,e24,e25,-⟩:=F0
  obtain⟨-,-,-,e31,-,-,-,e35,-⟩:=F1
  replace e12:I T 12=(AT g1):=by rw[←show gAt 0 (lV.map (Rf.eval T))=g1 from z1.symm];exact e12
  simp only[AE,AF,zR,w2P,zL] at*
  exact hE
 ·obtain⟨e12,e13,e14,e15,e16,e17,e18,e19,-,e21,e22,e23,e24,-,e26,-⟩:=F0
  replace e12:I T 12=(AT g1):=by rw[←show gAt 0 (lV.map (Rf.eval T))=g1 from z1.symm];exact e12
  simp only[AE,AF,zN,zR,w2P] at*
  intro h
  have h14:=(e26.1 h).1
  have k:(B T 13)=false:=by clear hd hc;grind
  exact (hd k).2.2.2
 ·obtain⟨e12,e13,e14,e15,e16,e17,e18,e19,-,e21,e22,e23,e24,-,e26,-⟩:=F0
  replace e12:I T 12=(AT g1):=by rw[←show gAt 0 (lV.map (Rf.eval T))=g1 from z1.symm];exact e12
  simp only[AE,AF,zN,zR,w2P] at*
  intro h
  have h14:=e26.1 h
  have k:(B T 13)=false:=by clear hd hc;grind
  obtain⟨x1,x2,x3,x4⟩:=hd k
  rw[x1,x2]
  exact x3.1 h14.2
theorem pF:Aq Try.prog 38 nA:=by
 refine Ai (l:=[(86,E5),(88,Np)]) BX (by simp only[List.forall_mem_cons];exact⟨TA,ec,fun _ h=>absurd h (by simp)⟩) pg (by kernel_rfl) fun T us hpre hT hul hS hBd hE=>?_
 change us.length=12 at hul
 obtain⟨hz0,-,-,-,⟨hl4,he4⟩,-,-,-,-,-,⟨hl10,he10⟩,-⟩:=hBd
 replace hz0:(S T 0).size≤140737488355328:=hz0
 replace hl4:(L T 4).length≤140737488355328:=hl4
 replace hl10:(L T 10).length≤140737488355328:=hl10
 obtain⟨g,hg⟩:∃g:Ln,g=Ln.mk (S T 0) (I T 1) (I T 2) (I T 3) (L T 4) (I T 5) (I T 6) (I T 7) (I T 8) (I T 9) (L T 10):=⟨_,rfl⟩
 have hgu:gAt 0 us=g:=by rw[hg];exact DU hT hul (by decide)
 have ha11:aI us 11=I T 11:=inI hT hul (by decide)
 clear hpre
 skip
 obtain⟨A0,hO⟩:=Ar (tys:=[.i,.i,.i]) (rs:=oP) hS (by kernel_rfl) hE
 obtain⟨g1,z1⟩:∃g:Ln,g=Ln.mk (S T 0) (I T 1) (I T 2) (I T 3) (L T 4) (I T 5) (I T 6) (I T 7) (I T 8) (I T 9) (L T 10):=⟨_,rfl⟩
 obtain⟨q0,q1,q2,r0,r1⟩:=pu hz0 hl4 hl10 g hg g1 z1 A0
 refine⟨⟨r0,r1,trivial⟩,hO.trans ?_⟩
 exact (lc (by show U.int (I T 33)= .int (mp us);unfold mp;rw[hgu,ha11];exact congrArg U.int q0) (lc (by show U.int (I T 34)= .int (mq us);unfold mq;rw[hgu,ha11];exact congrArg U.int q1) (lc (by show U.int (I T 35)= .int (mZ us);unfold mZ;rw[hgu,ha11];exact congrArg U.int q2) rfl)))
end Go.Eng
end
