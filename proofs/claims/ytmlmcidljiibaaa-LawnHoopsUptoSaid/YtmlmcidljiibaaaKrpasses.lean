/-
  A part of the proof: K_rpassesd K_rpasses.
-/
import Derived.Test.YtmlmcidljiibaaaXQlHoops
import Derived.Test.YtmlmcidljiibaaaE3
import Derived.Test.YtmlmcidljiibaaaE4
import Derived.Test.YtmlmcidljiibaaaKrcheck
set_option linter.unusedVariables false
set_option linter.unusedSimpArgs false
noncomputable section
open Go Go.Eng Go.Proofs
set_option maxHeartbeats 4000000
set_option maxRecDepth 100000
namespace Go.Eng
def fT:List U→Bool:=fun us=>(fS (gAt 0 us) (aI us 11) (aI us 12))
def fU:List U→Int:=fun us=>(fR (gAt 0 us) (aI us 11) (aI us 12))
def fV:Ak:={ sh:=[.agg [.str,k64,k64,k64,.list [k64,k64,k64,k64,.bool],k64,k64,k64,k64,k64,.list [k64,k64,k64]],.one (k64),.one (k64)],blks:=[],outs:=[(.s "rpasses.0",EK fT),(.s "rpasses.1",Bj fU)],c:= .tup [.b 13,(CR 14)],m':=[],pre:=[] }
def fN:List Rf:=[.e 0,.e 1,.e 2,.e 3,.e 4,.e 5,.e 6,.e 7,.e 8,.e 9,.e 10]
def fp:List En:=[⟨13,.outI "rcheck.0" GK,fN⟩,
 ⟨14,.ne,[.e 13,.c (.int 0)]⟩,
 ⟨15,.outI "rcheck.0" GK,fN⟩,
 ⟨16,.not,[.e 14]⟩,
 ⟨17,.lt,[.e 11,.c (.int 0)]⟩,
 ⟨18,.and,[.e 16,.n 17]⟩,
 ⟨19,.len,[.e 4]⟩,
 ⟨20,.le,[.e 19,.e 11]⟩,
 ⟨21,.or,[.e 17,.e 20]⟩,
 ⟨22,.and,[.e 16,.n 21]⟩,
 ⟨23,.le,[.c (.int 1),.e 12]⟩,
 ⟨24,.and,[.e 22,.e 23]⟩,
 ⟨25,.le,[.e 12,.c (.int 16384)]⟩,
 ⟨26,.and,[.e 23,.e 25]⟩,
 ⟨27,.or,[.e 21,.n 26]⟩,
 ⟨28,.and,[.e 16,.e 27]⟩]
def fo:List En:=[⟨29,.and,[.e 16,.n 27]⟩,
 ⟨30,.get .i 2,[.e 4,.e 11]⟩,
 ⟨31,.w2 .i64 .mul,[.c (.int 2),.e 12]⟩,
 ⟨32,.le,[.e 31,.e 30]⟩,
 ⟨33,.ite .i,[.e 28,.c (.int 3),.c (.int 0)]⟩,
 ⟨34,.ite .b,[.e 28,.c (.bool false),.e 32]⟩,
 ⟨35,.or,[.e 28,.e 29]⟩,
 ⟨36,.ite .i,[.e 14,.e 15,.e 33]⟩,
 ⟨37,.ite .b,[.e 14,.c (.bool false),.e 34]⟩,
 ⟨38,.or,[.e 14,.e 35]⟩]
def ff:List En:=fp++(fo)
def gI:List ObE:=[⟨some 29,.inl,[.e 11,.e 4]⟩]
def fm:List Rf:=[.e 37,.e 36]
theorem gK:fV.sees fm (fV.run Try.prog [(16,C3)] Ah 3000 20 26)=some ((ff).map En.be,gI.map ObE.be,[]):=by kernel_rfl
theorem gL {T:Tab}(hz0:(S T 0).size≤140737488355328)(hl4:(L T 4).length≤140737488355328)(hl10:(L T 10).length≤140737488355328)(g:Ln)(hg:g=Ln.mk (S T 0) (I T 1) (I T 2) (I T 3) (L T 4) (I T 5) (I T 6) (I T 7) (I T 8) (I T 9) (L T 10))(g1:Ln)(z1:g1=Ln.mk (S T 0) (I T 1) (I T 2) (I T 3) (L T 4) (I T 5) (I T 6) (I T 7) (I T 8) (I T 9) (L T 10))(A0:AJ T ff):
  ((B T 37)=(fS g (I T 11) (I T 12)))∧
  ((I T 36)=(fR g (I T 11) (I T 12)))∧
  (B T 29=true→0≤I T 11∧I T 11 < ((L T 4)).length):=by
 obtain⟨F0,A0⟩:=A0.cut
 have F1:=A0;clear A0
 have hgg:g1=g:=by
  rw[z1,hg]
 have hh:(g).hoops=((L T 4)):=by
  rw[hg]
 have hc:(I T 13)=AT g∧I T 15=AT g:=by
  obtain⟨e13,-,e15,-⟩:=F0
  replace e13:I T 13=(AT g1):=by rw[←show gAt 0 (fN.map (Rf.eval T))=g1 from z1.symm];exact e13
  replace e15:I T 15=(AT g1):=by rw[←show gAt 0 (fN.map (Rf.eval T))=g1 from z1.symm];exact e15
  exact⟨by rw[e13,hgg],by rw[e15,hgg]⟩
 have hE:(I T 36)=fR g (I T 11) (I T 12):=by
  obtain⟨e13,e14,e15,e16,e17,-,e19,e20,e21,-,e23,-,e25,e26,e27,e28,-⟩:=F0
  obtain⟨-,-,-,-,e33,-,-,e36,-⟩:=F1
  replace e13:I T 13=(AT g1):=by rw[←show gAt 0 (fN.map (Rf.eval T))=g1 from z1.symm];exact e13
  replace e15:I T 15=(AT g1):=by rw[←show gAt 0 (fN.map (Rf.eval T))=g1 from z1.symm];exact e15
  simp only[AE,AF,zN,zR,zL] at*
  unfold fR
  rw[hh,←hc.1]
  have hc2:(I T 15)=I T 13:=by rw[hc.1,hc.2]
  have hr:=CN (r:=I T 12)
  clear hh hgg hg e13 e15 hc
  grind
 have x31:(B T 26)=true→I T 31=2*I T 12:=by
  obtain⟨-,-,-,-,-,-,-,-,-,-,e23,-,e25,e26,-⟩:=F0
  obtain⟨-,-,e31,-⟩:=F1
  simp only[AE,AF,zR,w2P] at*
  intro h
  have hb:=e26.1 h
  have h44:=e23.1 hb.1
  have h46:=e25.1 hb.2
  exact e31 (by omega) (by omega)
 have hB:(B T 37)=fS g (I T 11) (I T 12):=by
  obtain⟨e13,e14,e15,e16,e17,-,e19,e20,e21,-,e23,-,e25,e26,e27,e28,-⟩:=F0
  obtain⟨-,e30,e31,e32,e33,e34,-,e36,e37,-⟩:=F1
  replace e13:I T 13=(AT g1):=by rw[←show gAt 0 (fN.map (Rf.eval T))=g1 from z1.symm];exact e13
  replace e15:I T 15=(AT g1):=by rw[←show gAt 0 (fN.map (Rf.eval T))=g1 from z1.symm];exact e15
  simp only[AE,AF,zN,zC,zR,w2P,zL] at*
  unfold fS
  rw[←hE,hh]
  refine Bool.eq_iff_iff.2 ?_
  rw[Bool.and_eq_true,decide_eq_true_eq,decide_eq_true_eq]
  have hc2:(I T 15)=I T 13:=by rw[hc.1,hc.2]
  clear hE hh hg hc e31 hgg e23 e25
  grind
 refine⟨?_,?_,?_⟩
 ·obtain⟨e13,e14,-,e16,e17,-,e19,e20,e21,-,e23,-,e25,e26,e27,e28,-⟩:=F0
  obtain⟨-,e30,e31,e32,-,e34,-,-,e37,-⟩:=F1
  replace e13:I T 13=(AT g1):=by rw[←show gAt 0 (fN.map (Rf.eval T))=g1 from z1.symm];exact e13
  simp only[AE,AF,zN,zC,zR,w2P,zL] at*
  exact hB
 ·obtain⟨e13,e14,e15,e16,e17,-,e19,e20,e21,-,e23,-,e25,e26,e27,e28,-⟩:=F0
  obtain⟨-,-,-,-,e33,-,-,e36,-⟩:=F1
  replace e13:I T 13=(AT g1):=by rw[←show gAt 0 (fN.map (Rf.eval T))=g1 from z1.symm];exact e13
  replace e15:I T 15=(AT g1):=by rw[←show gAt 0 (fN.map (Rf.eval T))=g1 from z1.symm];exact e15
  simp only[AE,AF,zN,zR,zL] at*
  grind (splits:=100)
 ·obtain⟨e13,e14,-,e16,e17,-,e19,e20,e21,-,e23,-,e25,e26,e27,-⟩:=F0
  obtain⟨e29,-⟩:=F1
  replace e13:I T 13=(AT g1):=by rw[←show gAt 0 (fN.map (Rf.eval T))=g1 from z1.symm];exact e13
  simp only[AE,AF,zN,zR,zL] at*
  intro hp
  have h:=(e29.1 hp).2
  clear hE hh hgg
  grind
theorem gE:Aq Try.prog 26 fV:=by
 refine Ai (l:=[(16,C3)]) BX (by simp only[List.forall_mem_cons];exact⟨Yw,fun _ h=>absurd h (by simp)⟩) gK (by kernel_rfl) fun T us hpre hT hul hS hBd hE=>?_
 change us.length=13 at hul
 obtain⟨hz0,-,-,-,⟨hl4,he4⟩,-,-,-,-,-,⟨hl10,he10⟩,-⟩:=hBd
 replace hz0:(S T 0).size≤140737488355328:=hz0
 replace hl4:(L T 4).length≤140737488355328:=hl4
 replace hl10:(L T 10).length≤140737488355328:=hl10
 obtain⟨g,hg⟩:∃g:Ln,g=Ln.mk (S T 0) (I T 1) (I T 2) (I T 3) (L T 4) (I T 5) (I T 6) (I T 7) (I T 8) (I T 9) (L T 10):=⟨_,rfl⟩
 have hgu:gAt 0 us=g:=by rw[hg];exact DU hT hul (by decide)
 have ha11:aI us 11=I T 11:=inI hT hul (by decide)
 have ha12:aI us 12=I T 12:=inI hT hul (by decide)
 clear hpre
 skip
 obtain⟨A0,hO⟩:=Ar (tys:=[.b,.i]) (rs:=fm) hS (by kernel_rfl) hE
 obtain⟨g1,z1⟩:∃g:Ln,g=Ln.mk (S T 0) (I T 1) (I T 2) (I T 3) (L T 4) (I T 5) (I T 6) (I T 7) (I T 8) (I T 9) (L T 10):=⟨_,rfl⟩
 obtain⟨q0,q1,r0⟩:=gL hz0 hl4 hl10 g hg g1 z1 A0
 refine⟨⟨r0,trivial⟩,hO.trans ?_⟩
 exact (lc (by show U.bool (B T 37)= .bool (fT us);unfold fT;rw[hgu,ha11,ha12];exact congrArg U.bool q0) (lc (by show U.int (I T 36)= .int (fU us);unfold fU;rw[hgu,ha11,ha12];exact congrArg U.int q1) rfl))
end Go.Eng
end
