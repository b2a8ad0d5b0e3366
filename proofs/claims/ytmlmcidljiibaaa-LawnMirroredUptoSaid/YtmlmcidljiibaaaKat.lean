/-
  A part of the proof: K_atd K_at.
-/
import Derived.Test.YtmlmcidljiibaaaE4
import Derived.Test.YtmlmcidljiibaaaE5
set_option linter.unusedVariables false
set_option linter.unusedSimpArgs false
noncomputable section
open Go Go.Eng Go.Proofs
set_option maxHeartbeats 4000000
set_option maxRecDepth 100000
namespace Go.Eng
def NT:List U→Int:=fun us=>(Ad (aI us 0) (aI us 1) (aI us 2) (aI us 3))
def NJ:List U→Int:=fun us=>(Ac (aI us 0) (aI us 1) (aI us 2) (aI us 3))
def K6:List U→Prop:=fun us=>BX (aI us 0) (aI us 1) (aI us 2)
def Ky:List U→Prop:=fun us=>0≤(aI us 3)∧(aI us 3) < 2*((aI us 1)+(aI us 2))
def O3:Ak:={ sh:=[.agg [k64,k64,k64],.one (k64)],blks:=[],outs:=[(.s "at.0",Bi NT),(.s "at.1",Bi NJ)],c:= .agg [(CP 4),(CP 5)],m':=[],pre:=[(.s "at.p0",K6),(.s "at.p1",Ky)] }
def eJ:List En:=[⟨4,.w2 .i64 .add,[.e 1,.e 2]⟩,
 ⟨5,.le,[.e 4,.e 3]⟩,
 ⟨6,.w2 .i64 .sub,[.e 3,.e 4]⟩,
 ⟨7,.not,[.e 5]⟩,
 ⟨8,.ite .i,[.e 5,.e 6,.e 3]⟩,
 ⟨9,.o2 .min,[.e 8,.e 1]⟩,
 ⟨10,.w2 .i64 .sub,[.e 8,.e 1]⟩,
 ⟨11,.o2 .max,[.e 10,.c (.int 0)]⟩,
 ⟨12,.w2 .i64 .sub,[.e 1,.e 9]⟩,
 ⟨13,.w2 .i64 .sub,[.e 2,.e 11]⟩,
 ⟨14,.not,[.e 5]⟩,
 ⟨15,.ite .i,[.e 5,.e 12,.e 9]⟩,
 ⟨16,.ite .i,[.e 5,.e 13,.e 11]⟩,
 ⟨17,.w2 .i64 .add,[.e 0,.e 15]⟩,
 ⟨18,.w2 .i64 .add,[.e 0,.e 16]⟩]
def aU:List En:=eJ
def q_at:List ObE:=[]
def r_at:List Rf:=[.e 17,.e 18]
theorem s_at:O3.sees r_at (O3.run Try.prog [] Ag 3000 20 88)=some ((aU).map En.be,q_at.map ObE.be,[]):=by kernel_rfl
theorem m_at {T:Tab}(pre0:BX (I T 0) (I T 1) (I T 2))(pre1:0≤I T 3∧I T 3 < 2*((I T 1)+I T 2))(A0:AI T aU):
  ((I T 17)=(Ad (I T 0) (I T 1) (I T 2) (I T 3)))∧
  ((I T 18)=(Ac (I T 0) (I T 1) (I T 2) (I T 3))):=by
 have F0:=A0;clear A0
 refine⟨?_,?_⟩
 ·obtain⟨e4,e5,e6,-,e8,e9,-,-,e12,-,-,e15,-,e17,-⟩:=F0
  simp only[AE,AG,zR,AS,w2P,zL] at*
  obtain⟨⟨d1,d2⟩,⟨d3,d4⟩,d5,d6⟩:=pre0
  obtain⟨p1,p2⟩:=pre1
  have x4:=e4 (by omega) (by omega)
  have x6:=e6 (by omega) (by omega)
  have h5:=e5
  rw[x4] at h5 x6
  have y8:(I T 8)=if (I T 1)+I T 2≤(I T 3) then (I T 3) - ((I T 1)+I T 2) else (I T 3):=by
   rw[e8]
   by_cases k:(I T 1)+I T 2≤I T 3
   ·rw[if_pos k,if_pos (h5.2 k),x6]
   ·rw[if_neg k,if_neg (fun h=>k (h5.1 h))]
  have c8:0≤I T 8∧I T 8 < I T 1+I T 2:=by rw[y8];split<;>omega
  have c9:0≤I T 9∧I T 9≤I T 1:=by rw[e9];split<;>omega
  have x12:=e12 (by omega) (by omega)
  have c15:0≤I T 15∧I T 15≤I T 1:=by rw[e15];split<;>omega
  have x17:=e17 (by omega) (by omega)
  unfold Ad
  clear e4 e6 e8 e5
  clear e12 e17
  grind
 ·obtain⟨e4,e5,e6,-,e8,-,e10,e11,-,e13,-,-,e16,-,e18,-⟩:=F0
  simp only[AE,AG,zR,AS,w2P,zL] at*
  obtain⟨⟨d1,d2⟩,⟨d3,d4⟩,d5,d6⟩:=pre0
  obtain⟨p1,p2⟩:=pre1
  have x4:=e4 (by omega) (by omega)
  have x6:=e6 (by omega) (by omega)
  have h5:=e5
  rw[x4] at h5 x6
  have y8:(I T 8)=if (I T 1)+I T 2≤(I T 3) then (I T 3) - ((I T 1)+I T 2) else (I T 3):=by
   rw[e8]
   by_cases k:(I T 1)+I T 2≤I T 3
   ·rw[if_pos k,if_pos (h5.2 k),x6]
   ·rw[if_neg k,if_neg (fun h=>k (h5.1 h))]
  have c8:0≤I T 8∧I T 8 < I T 1+I T 2:=by rw[y8];split<;>omega
  have x10:=e10 (by omega) (by omega)
  have c11:0≤I T 11∧I T 11≤I T 2:=by rw[e11];split<;>omega
  have x13:=e13 (by omega) (by omega)
  have c16:0≤I T 16∧I T 16≤I T 2:=by rw[e16];split<;>omega
  have x18:=e18 (by omega) (by omega)
  unfold Ac
  clear e4 e6 e8 e5
  clear e10 e13 e18
  grind
theorem jZ:Ao Try.prog 88 O3:=by
 refine AZ (l:=[]) BH (by intro p h;exact absurd h (by simp)) s_at (by kernel_rfl) fun T us hpre hT hul hS hBd hE=>?_
 change us.length=4 at hul
 clear hBd
 have ha0:aI us 0=I T 0:=inI hT hul (by decide)
 have ha1:aI us 1=I T 1:=inI hT hul (by decide)
 have ha2:aI us 2=I T 2:=inI hT hul (by decide)
 have ha3:aI us 3=I T 3:=inI hT hul (by decide)
 have pre0:BX (I T 0) (I T 1) (I T 2):=by
  have h:=hpre (.s "at.p0",K6) (by simp[O3])
  change K6 us at h
  unfold K6 at h
  simp only[ha0,ha1,ha2] at h
  exact h
 have pre1:0≤I T 3∧I T 3 < 2*((I T 1)+I T 2):=by
  have h:=hpre (.s "at.p1",Ky) (by simp[O3])
  change Ky us at h
  unfold Ky at h
  simp only[ha1,ha2,ha3] at h
  exact h
 clear hpre
 skip
 obtain⟨A0,hO⟩:=Ap (tys:=[.i,.i]) (rs:=r_at) hS (by kernel_rfl) hE
 obtain⟨q0,q1⟩:=m_at pre0 pre1 A0
 refine⟨trivial,hO.trans ?_⟩
 exact (lc (by show U.int (I T 17)= .int (NT us);unfold NT;rw[ha0,ha1,ha2,ha3];exact congrArg U.int q0) (lc (by show U.int (I T 18)= .int (NJ us);unfold NJ;rw[ha0,ha1,ha2,ha3];exact congrArg U.int q1) rfl))
end Go.Eng
end
