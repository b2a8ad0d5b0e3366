/-
  A part of the proof: K_ratd K_rat.
-/
import Derived.Test.YtmlmcidljiibaaaE3
import Derived.Test.YtmlmcidljiibaaaE4
set_option linter.unusedVariables false
set_option linter.unusedSimpArgs false
noncomputable section
open Go Go.Eng Go.Proofs
set_option maxHeartbeats 4000000
set_option maxRecDepth 100000
namespace Go.Eng
def KG:List U→Int:=fun us=>(AY ((gAt 0 us)).yard (((gAt 0 us)).wide - 2*((gAt 0 us)).yard) (((gAt 0 us)).long - 2*((gAt 0 us)).yard) (aI us 11))
def Jr:List U→Int:=fun us=>(AX ((gAt 0 us)).yard (((gAt 0 us)).wide - 2*((gAt 0 us)).yard) (((gAt 0 us)).long - 2*((gAt 0 us)).yard) (aI us 11))
def EF:List U→Prop:=fun us=>AT (gAt 0 us)=0
def EC:List U→Prop:=fun us=>0≤(aI us 11)∧(aI us 11) < 2*((((gAt 0 us)).wide - 2*((gAt 0 us)).yard)+(((gAt 0 us)).long - 2*((gAt 0 us)).yard))
def Kf:Ak:={ sh:=[.agg [.str,k64,k64,k64,.list [k64,k64,k64,k64,.bool],k64,k64,k64,k64,k64,.list [k64,k64,k64]],.one (k64)],blks:=[],outs:=[(.s "rat.0",Bj KG),(.s "rat.1",Bj Jr)],c:= .agg [(CR 12),(CR 13)],m':=[],pre:=[(.s "rat.p0",EF),(.s "rat.p1",EC)] }
def X2:List En:=[⟨12,.w2 .i64 .mul,[.c (.int 2),.e 3]⟩,
 ⟨13,.w2 .i64 .sub,[.e 1,.e 12]⟩,
 ⟨14,.w2 .i64 .mul,[.c (.int 2),.e 3]⟩,
 ⟨15,.w2 .i64 .sub,[.e 2,.e 14]⟩,
 ⟨16,.lt,[.e 11,.e 13]⟩,
 ⟨17,.w2 .i64 .add,[.e 3,.e 11]⟩,
 ⟨18,.not,[.e 16]⟩,
 ⟨19,.w2 .i64 .add,[.e 13,.e 15]⟩,
 ⟨20,.lt,[.e 11,.e 19]⟩,
 ⟨21,.and,[.e 18,.e 20]⟩,
 ⟨22,.w2 .i64 .sub,[.e 1,.e 3]⟩,
 ⟨23,.w2 .i64 .add,[.e 3,.e 11]⟩,
 ⟨24,.w2 .i64 .sub,[.e 23,.e 13]⟩,
 ⟨25,.and,[.e 18,.n 20]⟩,
 ⟨26,.w2 .i64 .mul,[.c (.int 2),.e 13]⟩,
 ⟨27,.w2 .i64 .add,[.e 26,.e 15]⟩]
def Xg:List En:=[⟨28,.lt,[.e 11,.e 27]⟩,
 ⟨29,.and,[.e 25,.e 28]⟩,
 ⟨30,.w2 .i64 .sub,[.e 1,.e 3]⟩,
 ⟨31,.w2 .i64 .sub,[.e 11,.e 13]⟩,
 ⟨32,.w2 .i64 .sub,[.e 31,.e 15]⟩,
 ⟨33,.w2 .i64 .sub,[.e 30,.e 32]⟩,
 ⟨34,.w2 .i64 .sub,[.e 2,.e 3]⟩,
 ⟨35,.and,[.e 25,.n 28]⟩,
 ⟨36,.ite .i,[.e 20,.e 22,.e 33]⟩,
 ⟨37,.ite .i,[.e 20,.e 24,.e 34]⟩,
 ⟨38,.or,[.e 21,.e 29]⟩,
 ⟨39,.ite .i,[.e 16,.e 17,.e 36]⟩,
 ⟨40,.ite .i,[.e 16,.e 3,.e 37]⟩,
 ⟨41,.or,[.e 16,.e 38]⟩,
 ⟨42,.w2 .i64 .sub,[.e 2,.e 3]⟩,
 ⟨43,.w2 .i64 .mul,[.c (.int 2),.e 13]⟩]
def XY:List En:=[⟨44,.w2 .i64 .sub,[.e 11,.e 43]⟩,
 ⟨45,.w2 .i64 .sub,[.e 44,.e 15]⟩,
 ⟨46,.w2 .i64 .sub,[.e 42,.e 45]⟩,
 ⟨47,.ite .i,[.e 41,.e 39,.e 3]⟩,
 ⟨48,.ite .i,[.e 41,.e 40,.e 46]⟩,
 ⟨49,.or,[.e 41,.e 35]⟩]
def V5:List En:=X2++(Xg++(XY))
def fB:List ObE:=[]
def bQ:List Rf:=[.e 47,.e 48]
theorem ek:Kf.sees bQ (Kf.run Try.prog [] Ah 3000 20 37)=some ((V5).map En.be,fB.map ObE.be,[]):=by kernel_rfl
theorem fM {T:Tab}(hz0:(S T 0).size≤140737488355328)(hl4:(L T 4).length≤140737488355328)(hl10:(L T 10).length≤140737488355328)(g:Ln)(hg:g=Ln.mk (S T 0) (I T 1) (I T 2) (I T 3) (L T 4) (I T 5) (I T 6) (I T 7) (I T 8) (I T 9) (L T 10))(pre0:AT g=0)(pre1:0≤I T 11∧I T 11 < 2*(((g).wide - 2*(g).yard)+((g).long - 2*(g).yard)))(A0:AJ T V5):
  ((I T 47)=(AY (g).yard ((g).wide - 2*(g).yard) ((g).long - 2*(g).yard) (I T 11)))∧
  ((I T 48)=(AX (g).yard ((g).wide - 2*(g).yard) ((g).long - 2*(g).yard) (I T 11))):=by
 obtain⟨F0,A0⟩:=A0.cut
 obtain⟨F1,A0⟩:=A0.cut
 have F2:=A0;clear A0
 have hw:(g).wide=I T 1∧(g).long=I T 2∧(g).yard=I T 3:=by
  rw[hg];exact⟨rfl,rfl,rfl⟩
 have hd:BR (I T 3) ((I T 1) - 2*I T 3) ((I T 2) - 2*I T 3)∧(65536≤I T 1∧I T 1≤4194304)∧(65536≤I T 2∧I T 2≤4194304):=by
  have h:=CP pre0
  rw[hw.1,hw.2.1,hw.2.2] at h
  exact⟨h.1,h.2.1,h.2.2.1⟩
 have hp:0≤I T 11∧I T 11 < 2*(((I T 1) - 2*I T 3)+((I T 2) - 2*I T 3)):=by
  rw[hw.1,hw.2.1,hw.2.2] at pre1;exact pre1
 refine⟨?_,?_⟩
 ·obtain⟨e12,e13,e14,e15,e16,e17,e18,e19,e20,e21,e22,-,-,e25,e26,e27,-⟩:=F0
  obtain⟨e28,e29,e30,e31,e32,e33,-,-,e36,-,e38,e39,-,e41,-⟩:=F1
  obtain⟨-,-,-,e47,-⟩:=F2
  simp only[AE,AF,zN,zR,w2P,zL] at*
  rw[hw.1,hw.2.1,hw.2.2]
  obtain⟨⟨⟨d1,d2⟩,⟨d3,d4⟩,d5,d6⟩,d7,d8⟩:=hd
  have x12:=e12 (by omega) (by omega)
  have x13:=e13 (by omega) (by omega)
  have x14:=e14 (by omega) (by omega)
  have x15:=e15 (by omega) (by omega)
  have x19:=e19 (by omega) (by omega)
  have x26:=e26 (by omega) (by omega)
  have x27:=e27 (by omega) (by omega)
  have x17:=e17 (by omega) (by omega)
  have x22:=e22 (by omega) (by omega)
  have x30:=e30 (by omega) (by omega)
  have x31:=e31 (by omega) (by omega)
  have x32:=e32 (by omega) (by omega)
  have x33:=e33 (by omega) (by omega)
  rw[x12] at x13
  rw[x14] at x15
  rw[←x13] at d3 d4
  rw[←x15] at d5 d6
  rw[←x13,←x15] at hp
  have w1:(I T 1)=I T 13+2*I T 3:=by omega
  have w2:(I T 2)=I T 15+2*I T 3:=by omega
  unfold AY
  rw[←x13,←x15]
  clear e12 e13 e14 e15 e19 e26 e27 e17 e22 e30 e31 e32 e33 x12 x14 x13 x15 pre0 pre1 hw d7 d8
  grind (splits:=60)
 ·obtain⟨e12,e13,e14,e15,e16,-,e18,e19,e20,e21,-,e23,e24,e25,e26,e27,-⟩:=F0
  obtain⟨e28,e29,-,-,-,-,e34,-,-,e37,e38,-,e40,e41,e42,e43,-⟩:=F1
  obtain⟨e44,e45,e46,-,e48,-⟩:=F2
  simp only[AE,AF,zN,zR,w2P,zL] at*
  rw[hw.1,hw.2.1,hw.2.2]
  obtain⟨⟨⟨d1,d2⟩,⟨d3,d4⟩,d5,d6⟩,d7,d8⟩:=hd
  have x12:=e12 (by omega) (by omega)
  have x13:=e13 (by omega) (by omega)
  have x14:=e14 (by omega) (by omega)
  have x15:=e15 (by omega) (by omega)
  have x19:=e19 (by omega) (by omega)
  have x26:=e26 (by omega) (by omega)
  have x27:=e27 (by omega) (by omega)
  have x23:=e23 (by omega) (by omega)
  have x24:=e24 (by omega) (by omega)
  have x34:=e34 (by omega) (by omega)
  have x42:=e42 (by omega) (by omega)
  have x43:=e43 (by omega) (by omega)
  have x44:=e44 (by omega) (by omega)
  have x45:=e45 (by omega) (by omega)
  have x46:=e46 (by omega) (by omega)
  rw[x12] at x13
  rw[x14] at x15
  rw[←x13] at d3 d4
  rw[←x15] at d5 d6
  rw[←x13,←x15] at hp
  have w1:(I T 1)=I T 13+2*I T 3:=by omega
  have w2:(I T 2)=I T 15+2*I T 3:=by omega
  unfold AX
  rw[←x13,←x15]
  clear e12 e13 e14 e15 e19 e26 e27 e23 e24 e34 e42 e43 e44 e45 e46 x12 x14 x13 x15 pre0 pre1 hw d7 d8
  grind (splits:=60)
theorem dn:Aq Try.prog 37 Kf:=by
 refine Ai (l:=[]) BX (by intro p h;exact absurd h (by simp)) ek (by kernel_rfl) fun T us hpre hT hul hS hBd hE=>?_
 change us.length=12 at hul
 obtain⟨hz0,-,-,-,⟨hl4,he4⟩,-,-,-,-,-,⟨hl10,he10⟩,-⟩:=hBd
 replace hz0:(S T 0).size≤140737488355328:=hz0
 replace hl4:(L T 4).length≤140737488355328:=hl4
 replace hl10:(L T 10).length≤140737488355328:=hl10
 obtain⟨g,hg⟩:∃g:Ln,g=Ln.mk (S T 0) (I T 1) (I T 2) (I T 3) (L T 4) (I T 5) (I T 6) (I T 7) (I T 8) (I T 9) (L T 10):=⟨_,rfl⟩
 have hgu:gAt 0 us=g:=by rw[hg];exact DU hT hul (by decide)
 have ha11:aI us 11=I T 11:=inI hT hul (by decide)
 have pre0:AT g=0:=by
  have h:=hpre (.s "rat.p0",EF) (by simp[Kf])
  change EF us at h
  unfold EF at h
  simp only[hgu] at h
  exact h
 have pre1:0≤I T 11∧I T 11 < 2*(((g).wide - 2*(g).yard)+((g).long - 2*(g).yard)):=by
  have h:=hpre (.s "rat.p1",EC) (by simp[Kf])
  change EC us at h
  unfold EC at h
  simp only[hgu,ha11] at h
  exact h
 clear hpre
 skip
 obtain⟨A0,hO⟩:=Ar (tys:=[.i,.i]) (rs:=bQ) hS (by kernel_rfl) hE
 obtain⟨q0,q1⟩:=fM hz0 hl4 hl10 g hg pre0 pre1 A0
 refine⟨trivial,hO.trans ?_⟩
 exact (lc (by show U.int (I T 47)= .int (KG us);unfold KG;rw[hgu,ha11];exact congrArg U.int q0) (lc (by show U.int (I T 48)= .int (Jr us);unfold Jr;rw[hgu,ha11];exact congrArg U.int q1) rfl))
end Go.Eng
end
