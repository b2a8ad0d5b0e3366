/-
  A part of the proof: K_lined K_line.
-/
import Derived.Test.YtmlmcidljiibaaaE3
import Derived.Test.YtmlmcidljiibaaaE4
set_option linter.unusedVariables false
set_option linter.unusedSimpArgs false
noncomputable section
open Go Go.Eng Go.Proofs
set_option maxHeartbeats 4000000
set_option maxRecDepth 100000
namespace Go.Eng
def Ib:List U→Int:=fun us=>(AW ((gAt 0 us)).yard (((gAt 0 us)).wide - 2*((gAt 0 us)).yard) (((gAt 0 us)).long - 2*((gAt 0 us)).yard) (aI us 11) (aI us 12))
def DY:List U→Prop:=fun us=>AT (gAt 0 us)=0
def Gt:List U→Prop:=fun us=>AH (aI us 11) (aI us 12)=true
def Ig:Ak:={ sh:=[.agg [.str,k64,k64,k64,.list [k64,k64,k64,k64,.bool],k64,k64,k64,k64,k64,.list [k64,k64,k64]],.agg [k64,k64]],blks:=[],outs:=[(.s "line.0",Bj Ib)],c:=(CR 13),m':=[],pre:=[(.s "line.p0",DY),(.s "line.p1",Gt)] }
def XE:List En:=[⟨13,.w2 .i64 .mul,[.c (.int 2),.e 3]⟩,
 ⟨14,.w2 .i64 .sub,[.e 1,.e 13]⟩,
 ⟨15,.w2 .i64 .mul,[.c (.int 2),.e 3]⟩,
 ⟨16,.w2 .i64 .sub,[.e 2,.e 15]⟩,
 ⟨17,.w2 .i64 .sub,[.e 11,.e 3]⟩,
 ⟨18,.w2 .i64 .sub,[.e 12,.e 3]⟩,
 ⟨19,.le,[.c (.int 0),.e 17]⟩,
 ⟨20,.id .b,[.e 19]⟩,
 ⟨21,.le,[.e 17,.e 14]⟩,
 ⟨22,.and,[.e 19,.e 21]⟩,
 ⟨23,.id .b,[.e 22]⟩,
 ⟨24,.le,[.c (.int 0),.e 18]⟩,
 ⟨25,.and,[.e 23,.e 24]⟩,
 ⟨26,.le,[.e 18,.e 16]⟩,
 ⟨27,.and,[.e 24,.e 26]⟩,
 ⟨28,.or,[.n 22,.n 27]⟩]
def XV:List En:=[⟨29,.not,[.e 28]⟩,
 ⟨30,.eq,[.e 18,.c (.int 0)]⟩,
 ⟨31,.and,[.e 29,.e 30]⟩,
 ⟨32,.lt,[.e 17,.e 14]⟩,
 ⟨33,.and,[.e 30,.e 32]⟩,
 ⟨34,.and,[.e 29,.e 33]⟩,
 ⟨35,.and,[.e 29,.n 33]⟩,
 ⟨36,.eq,[.e 17,.e 14]⟩,
 ⟨37,.and,[.e 35,.e 36]⟩,
 ⟨38,.lt,[.e 18,.e 16]⟩,
 ⟨39,.and,[.e 36,.e 38]⟩,
 ⟨40,.and,[.e 35,.e 39]⟩,
 ⟨41,.w2 .i64 .add,[.e 14,.e 18]⟩,
 ⟨42,.and,[.e 35,.n 39]⟩,
 ⟨43,.eq,[.e 18,.e 16]⟩,
 ⟨44,.and,[.e 42,.e 43]⟩]
def Wm:List En:=[⟨45,.lt,[.c (.int 0),.e 17]⟩,
 ⟨46,.and,[.e 43,.e 45]⟩,
 ⟨47,.and,[.e 42,.e 46]⟩,
 ⟨48,.w2 .i64 .add,[.e 14,.e 16]⟩,
 ⟨49,.w2 .i64 .sub,[.e 14,.e 17]⟩,
 ⟨50,.w2 .i64 .add,[.e 48,.e 49]⟩,
 ⟨51,.and,[.e 42,.n 46]⟩,
 ⟨52,.eq,[.e 17,.c (.int 0)]⟩,
 ⟨53,.and,[.e 51,.e 52]⟩,
 ⟨54,.lt,[.c (.int 0),.e 18]⟩,
 ⟨55,.and,[.e 52,.e 54]⟩,
 ⟨56,.and,[.e 51,.e 55]⟩,
 ⟨57,.w2 .i64 .mul,[.c (.int 2),.e 14]⟩,
 ⟨58,.w2 .i64 .add,[.e 57,.e 16]⟩,
 ⟨59,.w2 .i64 .sub,[.e 16,.e 18]⟩,
 ⟨60,.w2 .i64 .add,[.e 58,.e 59]⟩]
def WN:List En:=[⟨61,.and,[.e 51,.n 55]⟩,
 ⟨62,.ite .i,[.e 46,.e 50,.e 60]⟩,
 ⟨63,.or,[.e 47,.e 56]⟩,
 ⟨64,.ite .i,[.e 39,.e 41,.e 62]⟩,
 ⟨65,.or,[.e 40,.e 63]⟩,
 ⟨66,.ite .i,[.e 33,.e 17,.e 64]⟩,
 ⟨67,.or,[.e 34,.e 65]⟩,
 ⟨68,.ite .i,[.e 67,.e 66,.c (.int (-1))]⟩,
 ⟨69,.or,[.e 67,.e 61]⟩,
 ⟨70,.ite .i,[.e 28,.c (.int (-1)),.e 68]⟩,
 ⟨71,.or,[.e 28,.e 69]⟩]
def Rv:List En:=XE++(XV++(Wm++(WN)))
def eR:List ObE:=[]
def YR:List Rf:=[.e 70]
theorem dv:Ig.sees YR (Ig.run Try.prog [] Ah 3000 20 63)=some ((Rv).map En.be,eR.map ObE.be,[]):=by kernel_rfl
theorem eS {T:Tab}(hz0:(S T 0).size≤140737488355328)(hl4:(L T 4).length≤140737488355328)(hl10:(L T 10).length≤140737488355328)(g:Ln)(hg:g=Ln.mk (S T 0) (I T 1) (I T 2) (I T 3) (L T 4) (I T 5) (I T 6) (I T 7) (I T 8) (I T 9) (L T 10))(pre0:AT g=0)(pre1:AH (I T 11) (I T 12)=true)(A0:AJ T Rv):
  ((I T 70)=(AW (g).yard ((g).wide - 2*(g).yard) ((g).long - 2*(g).yard) (I T 11) (I T 12))):=by
 obtain⟨F0,A0⟩:=A0.cut
 obtain⟨F1,A0⟩:=A0.cut
 obtain⟨F2,A0⟩:=A0.cut
 have F3:=A0;clear A0
 have hw:(g).wide=I T 1∧(g).long=I T 2∧(g).yard=I T 3:=by
  rw[hg];exact⟨rfl,rfl,rfl⟩
 have hd:BR (I T 3) ((I T 1) - 2*I T 3) ((I T 2) - 2*I T 3)∧(65536≤I T 1∧I T 1≤4194304)∧(65536≤I T 2∧I T 2≤4194304):=by
  have h:=CP pre0
  rw[hw.1,hw.2.1,hw.2.2] at h
  exact⟨h.1,h.2.1,h.2.2.1⟩
 ·obtain⟨e13,e14,e15,e16,e17,e18,e19,-,e21,e22,-,e24,-,e26,e27,e28,-⟩:=F0
  obtain⟨e29,e30,-,e32,e33,e34,e35,e36,-,e38,e39,e40,e41,e42,e43,-⟩:=F1
  obtain⟨e45,e46,e47,e48,e49,e50,e51,e52,-,e54,e55,e56,e57,e58,e59,e60,-⟩:=F2
  obtain⟨-,e62,e63,e64,e65,e66,e67,e68,-,e70,-⟩:=F3
  simp only[AE,AF,zN,zR,w2P,zL] at*
  rw[hw.1,hw.2.1,hw.2.2]
  obtain⟨⟨⟨d1,d2⟩,⟨d3,d4⟩,d5,d6⟩,d7,d8⟩:=hd
  obtain⟨⟨p1,p2⟩,p3,p4⟩:=Av.1 pre1
  have x13:=e13 (by omega) (by omega)
  have x14:=e14 (by omega) (by omega)
  have x15:=e15 (by omega) (by omega)
  have x16:=e16 (by omega) (by omega)
  have x17:=e17 (by omega) (by omega)
  have x18:=e18 (by omega) (by omega)
  have x41:=e41 (by omega) (by omega)
  have x48:=e48 (by omega) (by omega)
  have x49:=e49 (by omega) (by omega)
  have x50:=e50 (by omega) (by omega)
  have x57:=e57 (by omega) (by omega)
  have x58:=e58 (by omega) (by omega)
  have x59:=e59 (by omega) (by omega)
  have x60:=e60 (by omega) (by omega)
  rw[x13] at x14
  rw[x15] at x16
  rw[←x14] at d3 d4
  rw[←x16] at d5 d6
  unfold AW
  rw[←x14,←x16,←x17,←x18]
  clear e13 e14 e15 e16 e17 e18 e41 e48 e49 e50 e57 e58 e59 e60 x13 x15 x14 x16 x17 x18 d7 d8 d1 d2 d4 d6 p1 p2 p3 p4 pre1 pre0 hw
  grind (splits:=60)
theorem dH:Aq Try.prog 63 Ig:=by
 refine Ai (l:=[]) BX (by intro p h;exact absurd h (by simp)) dv (by kernel_rfl) fun T us hpre hT hul hS hBd hE=>?_
 change us.length=13 at hul
 obtain⟨hz0,-,-,-,⟨hl4,he4⟩,-,-,-,-,-,⟨hl10,he10⟩,-⟩:=hBd
 replace hz0:(S T 0).size≤140737488355328:=hz0
 replace hl4:(L T 4).length≤140737488355328:=hl4
 replace hl10:(L T 10).length≤140737488355328:=hl10
 obtain⟨g,hg⟩:∃g:Ln,g=Ln.mk (S T 0) (I T 1) (I T 2) (I T 3) (L T 4) (I T 5) (I T 6) (I T 7) (I T 8) (I T 9) (L T 10):=⟨_,rfl⟩
 have hgu:gAt 0 us=g:=by rw[hg];exact DU hT hul (by decide)
 have ha11:aI us 11=I T 11:=inI hT hul (by decide)
 have ha12:aI us 12=I T 12:=inI hT hul (by decide)
 have pre0:AT g=0:=by
  have h:=hpre (.s "line.p0",DY) (by simp[Ig])
  change DY us at h
  unfold DY at h
  simp only[hgu] at h
  exact h
 have pre1:AH (I T 11) (I T 12)=true:=by
  have h:=hpre (.s "line.p1",Gt) (by simp[Ig])
  change Gt us at h
  unfold Gt at h
  simp only[ha11,ha12] at h
  exact h
 clear hpre
 skip
 obtain⟨A0,hO⟩:=Ar (tys:=[.i]) (rs:=YR) hS (by kernel_rfl) hE
 have q0:=eS hz0 hl4 hl10 g hg pre0 pre1 A0
 refine⟨trivial,hO.trans ?_⟩
 exact (lc (by show U.int (I T 70)= .int (Ib us);unfold Ib;rw[hgu,ha11,ha12];exact congrArg U.int q0) rfl)
end Go.Eng
end
