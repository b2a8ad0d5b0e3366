/-
  A part of the proof: K_passesd K_passes.
-/
import Derived.Test.YtmlmcidljiibaaaXQlGaps
import Derived.Test.YtmlmcidljiibaaaE3
import Derived.Test.YtmlmcidljiibaaaE4
import Derived.Test.YtmlmcidljiibaaaKcheck
set_option linter.unusedVariables false
set_option linter.unusedSimpArgs false
noncomputable section
open Go Go.Eng Go.Proofs
set_option maxHeartbeats 4000000
set_option maxRecDepth 100000
namespace Go.Eng
def fW:List U→Bool:=fun us=>(fS (gAt 0 us) (aI us 11) (aI us 12))
def fY:List U→Int:=fun us=>(fR (gAt 0 us) (aI us 11) (aI us 12))
def fa:Ak:={ sh:=[.agg [.str,k64,k64,k64,.list [k64,k64,k64,k64,.bool],k64,k64,k64,k64,k64,.list [k64,k64,k64]],.one (k64),.one (k64)],blks:=[],outs:=[(.s "passes.0",EK fW),(.s "passes.1",Bj fY)],c:= .tup [.b 13,(CR 14)],m':=[],pre:=[] }
def fP:List Rf:=[.e 0,.e 1,.e 2,.e 3,.e 4,.e 5,.e 6,.e 7,.e 8,.e 9,.e 10]
def gC:List En:=[⟨13,.outI "check.0" HX,fP⟩,
 ⟨14,.ne,[.e 13,.c (.int 0)]⟩,
 ⟨15,.not,[.e 14]⟩,
 ⟨16,.lt,[.e 11,.c (.int 0)]⟩,
 ⟨17,.and,[.e 15,.n 16]⟩,
 ⟨18,.len,[.e 4]⟩,
 ⟨19,.le,[.e 18,.e 11]⟩,
 ⟨20,.or,[.e 16,.e 19]⟩,
 ⟨21,.and,[.e 15,.e 20]⟩,
 ⟨22,.and,[.e 15,.n 20]⟩,
 ⟨23,.get .i 0,[.e 4,.e 11]⟩,
 ⟨24,.get .i 1,[.e 4,.e 11]⟩,
 ⟨25,.get .i 2,[.e 4,.e 11]⟩,
 ⟨26,.get .i 3,[.e 4,.e 11]⟩,
 ⟨27,.get .b 4,[.e 4,.e 11]⟩,
 ⟨28,.ite .i,[.e 21,.c (.int 0),.e 23]⟩]
def fy:List En:=[⟨29,.ite .i,[.e 21,.c (.int 0),.e 24]⟩,
 ⟨30,.ite .i,[.e 21,.c (.int 0),.e 25]⟩,
 ⟨31,.ite .i,[.e 21,.c (.int 0),.e 26]⟩,
 ⟨32,.ite .b,[.e 21,.c (.bool false),.e 27]⟩,
 ⟨33,.ite .i,[.e 21,.c (.int 3),.c (.int 0)]⟩,
 ⟨34,.or,[.e 21,.e 22]⟩,
 ⟨35,.ite .i,[.e 14,.c (.int 0),.e 28]⟩,
 ⟨36,.ite .i,[.e 14,.c (.int 0),.e 29]⟩,
 ⟨37,.ite .i,[.e 14,.c (.int 0),.e 30]⟩,
 ⟨38,.ite .i,[.e 14,.c (.int 0),.e 31]⟩,
 ⟨39,.ite .b,[.e 14,.c (.bool false),.e 32]⟩,
 ⟨40,.ite .i,[.e 14,.e 13,.e 33]⟩,
 ⟨41,.or,[.e 14,.e 34]⟩,
 ⟨42,.ne,[.e 40,.c (.int 0)]⟩,
 ⟨43,.not,[.e 42]⟩,
 ⟨44,.le,[.c (.int 1),.e 12]⟩]
def gB:List En:=[⟨45,.and,[.e 43,.e 44]⟩,
 ⟨46,.le,[.e 12,.c (.int 16384)]⟩,
 ⟨47,.and,[.e 44,.e 46]⟩,
 ⟨48,.and,[.e 43,.e 47]⟩,
 ⟨49,.and,[.e 43,.n 47]⟩,
 ⟨50,.w2 .i64 .mul,[.c (.int 2),.e 12]⟩,
 ⟨51,.le,[.e 50,.e 37]⟩,
 ⟨52,.ite .i,[.e 49,.c (.int 3),.c (.int 0)]⟩,
 ⟨53,.ite .b,[.e 49,.c (.bool false),.e 51]⟩,
 ⟨54,.or,[.e 49,.e 48]⟩,
 ⟨55,.ite .i,[.e 42,.e 40,.e 52]⟩,
 ⟨56,.ite .b,[.e 42,.c (.bool false),.e 53]⟩,
 ⟨57,.or,[.e 42,.e 54]⟩]
def fk:List En:=gC++(fy++(gB))
def gS:List ObE:=[⟨some 22,.inl,[.e 11,.e 4]⟩]
def fz:List Rf:=[.e 56,.e 55]
theorem gR:fa.sees fz (fa.run Try.prog [(86,E5)] Ah 3000 20 25)=some ((fk).map En.be,gS.map ObE.be,[]):=by kernel_rfl
theorem gT {T:Tab}(hz0:(S T 0).size≤140737488355328)(hl4:(L T 4).length≤140737488355328)(hl10:(L T 10).length≤140737488355328)(g:Ln)(hg:g=Ln.mk (S T 0) (I T 1) (I T 2) (I T 3) (L T 4) (I T 5) (I T 6) (I T 7) (I T 8) (I T 9) (L T 10))(g1:Ln)(z1:g1=Ln.mk (S T 0) (I T 1) (I T 2) (I T 3) (L T 4) (I T 5) (I T 6) (I T 7) (I T 8) (I T 9) (L T 10))(A0:AJ T fk):
  ((B T 56)=(fS g (I T 11) (I T 12)))∧
  ((I T 55)=(fR g (I T 11) (I T 12)))∧
  (B T 22=true→0≤I T 11∧I T 11 < ((L T 4)).length):=by
 obtain⟨F0,A0⟩:=A0.cut
 obtain⟨F1,A0⟩:=A0.cut
 have F2:=A0;clear A0
 have hgg:g1=g:=by
  rw[z1,hg]
 have hh:(g).hoops=((L T 4)):=by
  rw[hg]
 have hc:(I T 13)=AT g:=by
  obtain⟨e13,-⟩:=F0
  replace e13:I T 13=(AT g1):=by rw[←show gAt 0 (fP.map (Rf.eval T))=g1 from z1.symm];exact e13
  rw[e13,hgg]
 have hE:(I T 55)=fR g (I T 11) (I T 12):=by
  obtain⟨e13,e14,e15,e16,-,e18,e19,e20,e21,-⟩:=F0
  obtain⟨-,-,-,-,e33,-,-,-,-,-,-,e40,-,e42,e43,e44,-⟩:=F1
  obtain⟨-,e46,e47,-,e49,-,-,e52,-,-,e55,-⟩:=F2
  replace e13:I T 13=(AT g1):=by rw[←show gAt 0 (fP.map (Rf.eval T))=g1 from z1.symm];exact e13
  simp only[AE,AF,zN,zR,zL] at*
  unfold fR
  rw[hh,←hc]
  have hr:=CN (r:=I T 12)
  clear hh hgg hg hc e13
  grind
 have x50:(B T 47)=true→I T 50=2*I T 12:=by
  obtain⟨-,-,-,-,-,-,-,-,-,-,-,-,-,-,-,e44,-⟩:=F1
  obtain⟨-,e46,e47,-,-,e50,-⟩:=F2
  simp only[AE,AF,zR,w2P] at*
  intro h
  have hb:=e47.1 h
  have h44:=e44.1 hb.1
  have h46:=e46.1 hb.2
  exact e50 (by omega) (by omega)
 have x37:(B T 14)=false→B T 21=false→I T 37=AA ((L T 4)) (I T 11).toNat 2:=by
  obtain⟨e13,e14,e15,e16,-,e18,e19,e20,e21,-,-,-,e25,-⟩:=F0
  obtain⟨-,e30,-,-,-,-,-,-,e37,-⟩:=F1
  replace e13:I T 13=(AT g1):=by rw[←show gAt 0 (fP.map (Rf.eval T))=g1 from z1.symm];exact e13
  simp only[AE,AF,zR,zL] at*
  intro h1 h2
  rw[e37,if_neg (by simp[h1]),e30,if_neg (by simp[h2]),e25]
 have hB:(B T 56)=fS g (I T 11) (I T 12):=by
  obtain⟨e13,e14,e15,e16,-,e18,e19,e20,e21,-,-,-,e25,-⟩:=F0
  obtain⟨-,e30,-,-,e33,-,-,-,e37,-,-,e40,-,e42,e43,e44,-⟩:=F1
  obtain⟨-,e46,e47,-,e49,e50,e51,e52,e53,-,e55,e56,-⟩:=F2
  replace e13:I T 13=(AT g1):=by rw[←show gAt 0 (fP.map (Rf.eval T))=g1 from z1.symm];exact e13
  simp only[AE,AF,zN,zC,zR,w2P,zL] at*
  unfold fS
  rw[←hE,hh]
  refine Bool.eq_iff_iff.2 ?_
  rw[Bool.and_eq_true,decide_eq_true_eq,decide_eq_true_eq]
  clear hE hh hg hc e37 e30 e25 e50 e13 hgg e44 e46
  grind
 refine⟨?_,?_,?_⟩
 ·obtain⟨e13,e14,e15,e16,-,e18,e19,e20,e21,-,-,-,e25,-⟩:=F0
  obtain⟨-,e30,-,-,e33,-,-,-,e37,-,-,e40,-,e42,e43,e44,-⟩:=F1
  obtain⟨-,e46,e47,-,e49,e50,e51,-,e53,-,-,e56,-⟩:=F2
  replace e13:I T 13=(AT g1):=by rw[←show gAt 0 (fP.map (Rf.eval T))=g1 from z1.symm];exact e13
  simp only[AE,AF,zN,zC,zR,w2P,zL] at*
  exact hB
 ·obtain⟨e13,e14,e15,e16,-,e18,e19,e20,e21,-⟩:=F0
  obtain⟨-,-,-,-,e33,-,-,-,-,-,-,e40,-,e42,e43,e44,-⟩:=F1
  obtain⟨-,e46,e47,-,e49,-,-,e52,-,-,e55,-⟩:=F2
  replace e13:I T 13=(AT g1):=by rw[←show gAt 0 (fP.map (Rf.eval T))=g1 from z1.symm];exact e13
  simp only[AE,AF,zN,zR,zL] at*
  grind (splits:=100)
 ·obtain⟨e13,e14,e15,e16,-,e18,e19,e20,-,e22,-⟩:=F0
  replace e13:I T 13=(AT g1):=by rw[←show gAt 0 (fP.map (Rf.eval T))=g1 from z1.symm];exact e13
  simp only[AE,AF,zN,zR,zL] at*
  intro hp
  have h:=(e22.1 hp).2
  have h16:=e16
  have h19:=e19
  have h20:=e20
  have h18:=e18
  clear hE hh hgg
  grind
theorem gG:Aq Try.prog 25 fa:=by
 refine Ai (l:=[(86,E5)]) BX (by simp only[List.forall_mem_cons];exact⟨TA,fun _ h=>absurd h (by simp)⟩) gR (by kernel_rfl) fun T us hpre hT hul hS hBd hE=>?_
 change us.length=13 at hul
 obtain⟨hz0,-,-,-,⟨hl4,he4⟩,-,-,-,-,-,⟨hl10,he10⟩,-⟩:=hBd
 replace hz0:(S T 0).size≤140737488355328:=hz0
 replace hl4:(L T 4).length≤140737488355328:=hl4
 replace hl10:(L T 10).length≤140737488355328:=hl10
 obtain⟨g,hg⟩:∃g:Ln,g=Ln.mk (S T 0) (I T 1) (I T 2) (I T 3) (L T 4) (I T 5) (I T 6) (I T 7) (I T 8) (I T 9) (L T 10):=⟨_,rfl⟩
 have hgu:gAt 0 us=g:=by rw[hg];exact DU hT hul (by decide)
 have ha11:aI us 11=I T 11:=inI hT hul (by decide)
 have ha12:aI us 12=I T 12:=inI hT hul (by decide)
 clear hpre
 skip
 obtain⟨A0,hO⟩:=Ar (tys:=[.b,.i]) (rs:=fz) hS (by kernel_rfl) hE
 obtain⟨g1,z1⟩:∃g:Ln,g=Ln.mk (S T 0) (I T 1) (I T 2) (I T 3) (L T 4) (I T 5) (I T 6) (I T 7) (I T 8) (I T 9) (L T 10):=⟨_,rfl⟩
 obtain⟨q0,q1,r0⟩:=gT hz0 hl4 hl10 g hg g1 z1 A0
 refine⟨⟨r0,trivial⟩,hO.trans ?_⟩
 exact (lc (by show U.bool (B T 56)= .bool (fW us);unfold fW;rw[hgu,ha11,ha12];exact congrArg U.bool q0) (lc (by show U.int (I T 55)= .int (fY us);unfold fY;rw[hgu,ha11,ha12];exact congrArg U.int q1) rfl))
end Go.Eng
end
