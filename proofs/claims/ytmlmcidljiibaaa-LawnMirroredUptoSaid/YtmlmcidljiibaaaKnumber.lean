/-
  A part of the proof: K_numberd K_number.
-/
import Derived.Test.YtmlmcidljiibaaaE4
import Derived.Test.YtmlmcidljiibaaaE5
set_option linter.unusedVariables false
set_option linter.unusedSimpArgs false
noncomputable section
open Go Go.Eng Go.Proofs
set_option maxHeartbeats 4000000
set_option maxRecDepth 100000
namespace Go.Eng
def Gy:List U→Int:=fun us=>(Ab (aI us 0) (aI us 1) (aI us 2) (aI us 3) (aI us 4))
def FJ:List U→Prop:=fun us=>BX (aI us 0) (aI us 1) (aI us 2)
def FR:List U→Prop:=fun us=>AF (aI us 3) (aI us 4)=true
def Fy:Ak:={ sh:=[.agg [k64,k64,k64],.agg [k64,k64]],blks:=[],outs:=[(.s "number.0",Bi Gy)],c:=(CP 5),m':=[],pre:=[(.s "number.p0",FJ),(.s "number.p1",FR)] }
def VP:List En:=[⟨5,.w2 .i64 .sub,[.e 3,.e 0]⟩,
 ⟨6,.w2 .i64 .sub,[.e 4,.e 0]⟩,
 ⟨7,.le,[.c (.int 0),.e 5]⟩,
 ⟨8,.id .b,[.e 7]⟩,
 ⟨9,.le,[.e 5,.e 1]⟩,
 ⟨10,.and,[.e 7,.e 9]⟩,
 ⟨11,.id .b,[.e 10]⟩,
 ⟨12,.le,[.c (.int 0),.e 6]⟩,
 ⟨13,.and,[.e 11,.e 12]⟩,
 ⟨14,.le,[.e 6,.e 2]⟩,
 ⟨15,.and,[.e 12,.e 14]⟩,
 ⟨16,.or,[.n 10,.n 15]⟩,
 ⟨17,.not,[.e 16]⟩,
 ⟨18,.eq,[.e 6,.c (.int 0)]⟩,
 ⟨19,.and,[.e 17,.e 18]⟩,
 ⟨20,.and,[.e 17,.n 18]⟩]
def Tn:List En:=[⟨21,.eq,[.e 5,.e 1]⟩,
 ⟨22,.and,[.e 20,.e 21]⟩,
 ⟨23,.w2 .i64 .add,[.e 1,.e 6]⟩,
 ⟨24,.and,[.e 20,.n 21]⟩,
 ⟨25,.eq,[.e 6,.e 2]⟩,
 ⟨26,.and,[.e 24,.e 25]⟩,
 ⟨27,.w2 .i64 .add,[.e 1,.e 2]⟩,
 ⟨28,.w2 .i64 .add,[.e 27,.e 1]⟩,
 ⟨29,.w2 .i64 .sub,[.e 28,.e 5]⟩,
 ⟨30,.and,[.e 24,.n 25]⟩,
 ⟨31,.eq,[.e 5,.c (.int 0)]⟩,
 ⟨32,.and,[.e 30,.e 31]⟩,
 ⟨33,.w2 .i64 .mul,[.c (.int 2),.e 1]⟩,
 ⟨34,.w2 .i64 .add,[.e 33,.e 2]⟩,
 ⟨35,.w2 .i64 .add,[.e 34,.e 2]⟩,
 ⟨36,.w2 .i64 .sub,[.e 35,.e 6]⟩]
def UY:List En:=[⟨37,.and,[.e 30,.n 31]⟩,
 ⟨38,.ite .i,[.e 25,.e 29,.e 36]⟩,
 ⟨39,.or,[.e 26,.e 32]⟩,
 ⟨40,.ite .i,[.e 21,.e 23,.e 38]⟩,
 ⟨41,.or,[.e 22,.e 39]⟩,
 ⟨42,.ite .i,[.e 18,.e 5,.e 40]⟩,
 ⟨43,.or,[.e 19,.e 41]⟩,
 ⟨44,.or,[.e 16,.e 37]⟩,
 ⟨45,.ite .i,[.e 43,.e 42,.c (.int (-1))]⟩,
 ⟨46,.or,[.e 43,.e 44]⟩]
def QM:List En:=VP++(Tn++(UY))
def de:List ObE:=[]
def Ud:List Rf:=[.e 45]
theorem eD:Fy.sees Ud (Fy.run Try.prog [] Ag 3000 20 56)=some ((QM).map En.be,de.map ObE.be,[]):=by kernel_rfl
theorem eo {T:Tab}(pre0:BX (I T 0) (I T 1) (I T 2))(pre1:AF (I T 3) (I T 4)=true)(A0:AI T QM):
  ((I T 45)=(Ab (I T 0) (I T 1) (I T 2) (I T 3) (I T 4))):=by
 obtain⟨F0,A0⟩:=A0.cut
 obtain⟨F1,A0⟩:=A0.cut
 have F2:=A0;clear A0
 ·obtain⟨e5,e6,e7,-,e9,e10,-,e12,-,e14,e15,e16,e17,e18,e19,e20,-⟩:=F0
  obtain⟨e21,e22,e23,e24,e25,e26,e27,e28,e29,e30,e31,e32,e33,e34,e35,e36,-⟩:=F1
  obtain⟨-,e38,e39,e40,e41,e42,e43,-,e45,-⟩:=F2
  simp only[AE,AG,zN,zR,w2P,zL] at*
  obtain⟨⟨d1,d2⟩,⟨d3,d4⟩,d5,d6⟩:=pre0
  obtain⟨⟨p1,p2⟩,p3,p4⟩:=Af.1 pre1
  have x5:=e5 (by omega) (by omega)
  have x6:=e6 (by omega) (by omega)
  have x23:=e23 (by omega) (by omega)
  have x27:=e27 (by omega) (by omega)
  have x28:=e28 (by omega) (by omega)
  have x29:=e29 (by omega) (by omega)
  have x33:=e33 (by omega) (by omega)
  have x34:=e34 (by omega) (by omega)
  have x35:=e35 (by omega) (by omega)
  have x36:=e36 (by omega) (by omega)
  unfold Ab
  rw[←x5,←x6]
  clear e5 e6 e23 e27 e28 e29 e33 e34 e35 e36 x5 x6 d1 d2 d4 d6 p1 p2 p3 p4 pre1
  grind (splits:=60)
theorem bh:Ao Try.prog 56 Fy:=by
 refine AZ (l:=[]) BH (by intro p h;exact absurd h (by simp)) eD (by kernel_rfl) fun T us hpre hT hul hS hBd hE=>?_
 change us.length=5 at hul
 clear hBd
 have ha0:aI us 0=I T 0:=inI hT hul (by decide)
 have ha1:aI us 1=I T 1:=inI hT hul (by decide)
 have ha2:aI us 2=I T 2:=inI hT hul (by decide)
 have ha3:aI us 3=I T 3:=inI hT hul (by decide)
 have ha4:aI us 4=I T 4:=inI hT hul (by decide)
 have pre0:BX (I T 0) (I T 1) (I T 2):=by
  have h:=hpre (.s "number.p0",FJ) (by simp[Fy])
  change FJ us at h
  unfold FJ at h
  simp only[ha0,ha1,ha2] at h
  exact h
 have pre1:AF (I T 3) (I T 4)=true:=by
  have h:=hpre (.s "number.p1",FR) (by simp[Fy])
  change FR us at h
  unfold FR at h
  simp only[ha3,ha4] at h
  exact h
 clear hpre
 skip
 obtain⟨A0,hO⟩:=Ap (tys:=[.i]) (rs:=Ud) hS (by kernel_rfl) hE
 have q0:=eo pre0 pre1 A0
 refine⟨trivial,hO.trans ?_⟩
 exact (lc (by show U.int (I T 45)= .int (Gy us);unfold Gy;rw[ha0,ha1,ha2,ha3,ha4];exact congrArg U.int q0) rfl)
end Go.Eng
end
