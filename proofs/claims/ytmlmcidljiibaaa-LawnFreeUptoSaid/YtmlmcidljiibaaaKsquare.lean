/-
  A part of the proof: K_squared K_square.
-/
import Derived.Test.YtmlmcidljiibaaaXQlFree
import Derived.Test.YtmlmcidljiibaaaE3
import Derived.Test.YtmlmcidljiibaaaE4
set_option linter.unusedVariables false
set_option linter.unusedSimpArgs false
noncomputable section
open Go Go.Eng Go.Proofs
set_option maxHeartbeats 4000000
set_option maxRecDepth 100000
namespace Go.Eng
def qd:List U→Int:=fun us=>(sq (aI us 0) (aI us 1) (aI us 2) (aI us 3))
def qX:List U→Prop:=fun us=>(-8388608≤(aI us 0)∧(aI us 0)≤8388608)∧(-8388608≤(aI us 1)∧(aI us 1)≤8388608)
def qY:List U→Prop:=fun us=>(-8388608≤(aI us 2)∧(aI us 2)≤8388608)∧(-8388608≤(aI us 3)∧(aI us 3)≤8388608)
def qZ:Ak:={ sh:=[.agg [k64,k64],.agg [k64,k64]],blks:=[],outs:=[(.s "square.0",Bj qd)],c:=(CR 4),m':=[],pre:=[(.s "square.p0",qX),(.s "square.p1",qY)] }
def qk:List En:=[⟨4,.w2 .i64 .sub,[.e 0,.e 2]⟩,
 ⟨5,.w2 .i64 .sub,[.e 0,.e 2]⟩,
 ⟨6,.w2 .i64 .mul,[.e 4,.e 5]⟩,
 ⟨7,.w2 .i64 .sub,[.e 1,.e 3]⟩,
 ⟨8,.w2 .i64 .sub,[.e 1,.e 3]⟩,
 ⟨9,.w2 .i64 .mul,[.e 7,.e 8]⟩,
 ⟨10,.w2 .i64 .add,[.e 6,.e 9]⟩]
def qi:List En:=qk
def rH:List ObE:=[]
def ql:List Rf:=[.e 10]
theorem rK:qZ.sees ql (qZ.run Try.prog [] Ah 3000 20 39)=some ((qi).map En.be,rH.map ObE.be,[]):=by kernel_rfl
theorem rG {T:Tab}(pre0:(-8388608≤I T 0∧I T 0≤8388608)∧(-8388608≤I T 1∧I T 1≤8388608))(pre1:(-8388608≤I T 2∧I T 2≤8388608)∧(-8388608≤I T 3∧I T 3≤8388608))(A0:AJ T qi):
  ((I T 10)=(sq (I T 0) (I T 1) (I T 2) (I T 3))):=by
 have F0:=A0;clear A0
 ·obtain⟨e4,e5,e6,e7,e8,e9,e10,-⟩:=F0
  simp only[AE,zR,w2P] at*
  have x4:=e4 (by omega) (by omega)
  have x5:=e5 (by omega) (by omega)
  have x7:=e7 (by omega) (by omega)
  have x8:=e8 (by omega) (by omega)
  have y1:=sqB (a:=I T 4) (A:=16777216) (by omega)
  have y2:=sqB (a:=I T 7) (A:=16777216) (by omega)
  have y5:(I T 5)=I T 4:=by rw[x5,x4]
  have y8:(I T 8)=I T 7:=by rw[x8,x7]
  rw[y5] at e6
  rw[y8] at e9
  have x6:=e6 (by omega) (by omega)
  have x9:=e9 (by omega) (by omega)
  have x10:=e10 (by omega) (by omega)
  unfold sq
  rw[x10,x6,x9,←x4,←x7]
theorem rE:Aq Try.prog 39 qZ:=by
 refine Ai (l:=[]) BX (by intro p h;exact absurd h (by simp)) rK (by kernel_rfl) fun T us hpre hT hul hS hBd hE=>?_
 change us.length=4 at hul
 clear hBd
 have ha0:aI us 0=I T 0:=inI hT hul (by decide)
 have ha1:aI us 1=I T 1:=inI hT hul (by decide)
 have ha2:aI us 2=I T 2:=inI hT hul (by decide)
 have ha3:aI us 3=I T 3:=inI hT hul (by decide)
 have pre0:(-8388608≤I T 0∧I T 0≤8388608)∧(-8388608≤I T 1∧I T 1≤8388608):=by
  have h:=hpre (.s "square.p0",qX) (by simp[qZ])
  change qX us at h
  unfold qX at h
  simp only[ha0,ha1] at h
  exact h
 have pre1:(-8388608≤I T 2∧I T 2≤8388608)∧(-8388608≤I T 3∧I T 3≤8388608):=by
  have h:=hpre (.s "square.p1",qY) (by simp[qZ])
  change qY us at h
  unfold qY at h
  simp only[ha2,ha3] at h
  exact h
 clear hpre
 skip
 obtain⟨A0,hO⟩:=Ar (tys:=[.i]) (rs:=ql) hS (by kernel_rfl) hE
 have q0:=rG pre0 pre1 A0
 refine⟨trivial,hO.trans ?_⟩
 exact (lc (by show U.int (I T 10)= .int (qd us);unfold qd;rw[ha0,ha1,ha2,ha3];exact congrArg U.int q0) rfl)
end Go.Eng
end
