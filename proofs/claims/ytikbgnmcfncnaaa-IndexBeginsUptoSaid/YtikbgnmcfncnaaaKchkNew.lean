/-
  A part of the proof: K_chkNewc K_chkNew.
-/
import Derived.Test.YtikbgnmcfncnaaaXQlBegins
import Derived.Test.YtikbgnmcfncnaaaKchkNewc0
import Derived.Test.YtikbgnmcfncnaaaKchkNewc1
import Derived.Test.YtikbgnmcfncnaaaKchkNewc2
import Derived.Test.YtikbgnmcfncnaaaKchkNewc3
set_option linter.unusedVariables false
set_option linter.unusedSimpArgs false
noncomputable section
namespace Go.Eng
section
open Go Go.Eng Go.Proofs
set_option maxHeartbeats 4000000
set_option maxRecDepth 100000
theorem sC {T:Tab}(hF:AH T py)(k1:(I T 1)=0)(k2:(I T 2)=0)(k3:(I T 3)=(-1))(k4:(I T 4)=(-1))(k5:(I T 5)=0)(k6:(I T 6)=0)(k7:(I T 7)=0)(k8:(I T 8)=0)(k9:(B T 9)=false)(k10:(B T 10)=false)(k11:(B T 11)=false)(k12:(B T 12)=false)(k13:(B T 13)=false)(k14:(B T 14)=false)(k15:(B T 15)=false)(k16:(B T 16)=false)(k19:(B T 19)=false)(k20:(B T 20)=false)(k21:(B T 21)=false)(k22:(I T 22)=0)(k23:(I T 23)=0)(k24:(I T 24)=(-1))(k25:(I T 25)=(-1))(r0:(I T 0)=0\/I T 0=1\/I T 0=2\/I T 0=3)(h17:0<=I T 17/\I T 17<=40)(h18:0<=I T 18/\I T 18<=40)(hz:¬((I T 0)=0\/I T 0=2)->I T 17=0/\I T 18=0):(I T 473)=0/\B T 448=false/\B T 440=false/\B T 419=false/\B T 411=false/\B T 402=false/\B T 384=false:=by
 rcases r0 with k0|k0|k0|k0
 .
  exact rc hF k1 k2 k3 k4 k5 k6 k7 k8 k9 k10 k11 k12 k13 k14 k15 k16 k19 k20 k21 k22 k23 k24 k25 k0 ⟨h17,h18,hz⟩
 .
  exact rX hF k1 k2 k3 k4 k5 k6 k7 k8 k9 k10 k11 k12 k13 k14 k15 k16 k19 k20 k21 k22 k23 k24 k25 k0 ⟨h17,h18,hz⟩
 .
  exact rZ hF k1 k2 k3 k4 k5 k6 k7 k8 k9 k10 k11 k12 k13 k14 k15 k16 k19 k20 k21 k22 k23 k24 k25 k0 ⟨h17,h18,hz⟩
 .
  exact rY hF k1 k2 k3 k4 k5 k6 k7 k8 k9 k10 k11 k12 k13 k14 k15 k16 k19 k20 k21 k22 k23 k24 k25 k0 ⟨h17,h18,hz⟩
theorem sK:qB.sees rI (qB.run Try.prog [] sT 3000 20 56)=some ((py).map En.be,sG.map ObE.be,[]):=by kernel_rfl
theorem sH {T:Tab}(pre0:(I T 1)=(0:Int)/\I T 2=(0:Int)/\I T 3=(-1:Int)/\I T 4=(-1:Int)/\I T 5=(0:Int)/\I T 6=(0:Int)/\I T 7=(0:Int)/\I T 8=(0:Int)/\B T 9=false/\B T 10=false/\B T 11=false/\B T 12=false/\B T 13=false/\B T 14=false/\B T 15=false/\B T 16=false/\B T 19=false/\B T 20=false/\B T 21=false/\I T 22=(0:Int)/\I T 23=(0:Int)/\I T 24=(-1:Int)/\I T 25=(-1:Int)/\0<=I T 0/\I T 0<=3/\0<=I T 17/\I T 17<=40/\0<=I T 18/\I T 18<=40/\(¬((I T 0)=0\/I T 0=2)->I T 17=0/\I T 18=0))(A0:AH T py):
  ((I T 473)=((0:Int)))/\
  (B T 448=true->0<=I T 4/\I T 4 < 4)/\
  (B T 440=true->0<=I T 4/\I T 4 < 4)/\
  (B T 419=true->0<=I T 3/\I T 3 < 4)/\
  (B T 411=true->0<=I T 3/\I T 3 < 4)/\
  (B T 402=true->0<=I T 3/\I T 3 < 4)/\
  (B T 384=true->0<=I T 24/\I T 24 < 4)/\
  (B T 30=true->0<=I T 0/\I T 0 < 4):=by
 have hFa:=A0;obtain⟨F0,A0⟩:=A0.cut;obtain⟨F1,A0⟩:=A0.cut;obtain⟨F2,A0⟩:=A0.cut;obtain⟨F3,A0⟩:=A0.cut;obtain⟨F4,A0⟩:=A0.cut;obtain⟨F5,A0⟩:=A0.cut;obtain⟨F6,A0⟩:=A0.cut;obtain⟨F7,A0⟩:=A0.cut;obtain⟨F8,A0⟩:=A0.cut;obtain⟨F9,A0⟩:=A0.cut;obtain⟨F10,A0⟩:=A0.cut;obtain⟨F11,A0⟩:=A0.cut;obtain⟨F12,A0⟩:=A0.cut;obtain⟨F13,A0⟩:=A0.cut;obtain⟨F14,A0⟩:=A0.cut;obtain⟨F15,A0⟩:=A0.cut;obtain⟨F16,A0⟩:=A0.cut;obtain⟨F17,A0⟩:=A0.cut;obtain⟨F18,A0⟩:=A0.cut;obtain⟨F19,A0⟩:=A0.cut;obtain⟨F20,A0⟩:=A0.cut;obtain⟨F21,A0⟩:=A0.cut;obtain⟨F22,A0⟩:=A0.cut;obtain⟨F23,A0⟩:=A0.cut;obtain⟨F24,A0⟩:=A0.cut;obtain⟨F25,A0⟩:=A0.cut;obtain⟨F26,A0⟩:=A0.cut;obtain⟨F27,A0⟩:=A0.cut;have F28:=A0;clear A0;have cn:(I T 473)=0/\B T 448=false/\B T 440=false/\B T 419=false/\B T 411=false/\B T 402=false/\B T 384=false:=by
  obtain⟨k1,k2,k3,k4,k5,k6,k7,k8,k9,k10,k11,k12,k13,k14,k15,k16,k19,k20,k21,k22,k23,k24,k25,q0,q1,q2,q3,q4,q5,q6⟩:=pre0;exact sC hFa k1 k2 k3 k4 k5 k6 k7 k8 k9 k10 k11 k12 k13 k14 k15 k16 k19 k20 k21 k22 k23 k24 k25 (by omega) ⟨q2,q3⟩ ⟨q4,q5⟩ q6
 refine⟨?_,?_,?_,?_,?_,?_,?_,?_⟩
 .obtain⟨n473,n448,n440,n419,n411,n402,n384⟩:=cn;exact n473
 .obtain⟨n473,n448,n440,n419,n411,n402,n384⟩:=cn;intro h;rw[n448] at h;cases h
 .obtain⟨n473,n448,n440,n419,n411,n402,n384⟩:=cn;intro h;rw[n440] at h;cases h
 .obtain⟨n473,n448,n440,n419,n411,n402,n384⟩:=cn;intro h;rw[n419] at h;cases h
 .obtain⟨n473,n448,n440,n419,n411,n402,n384⟩:=cn;intro h;rw[n411] at h;cases h
 .obtain⟨n473,n448,n440,n419,n411,n402,n384⟩:=cn;intro h;rw[n402] at h;cases h
 .obtain⟨n473,n448,n440,n419,n411,n402,n384⟩:=cn;intro h;rw[n384] at h;cases h
 .intro _;omega
theorem r8:Ae Try.prog 56 qB:=by
 refine BH (l:=[]) Bh (by intro p h;exact absurd h (by simp)) sK (by kernel_rfl) fun T us hpre hT hul hS hBd hE=>?_;change us.length=26 at hul;clear hBd;have ha0:aI us 0=I T 0:=inI hT hul (by decide);have ha1:aI us 1=I T 1:=inI hT hul (by decide);have ha2:aI us 2=I T 2:=inI hT hul (by decide);have ha3:aI us 3=I T 3:=inI hT hul (by decide);have ha4:aI us 4=I T 4:=inI hT hul (by decide);have ha5:aI us 5=I T 5:=inI hT hul (by decide);have ha6:aI us 6=I T 6:=inI hT hul (by decide);have ha7:aI us 7=I T 7:=inI hT hul (by decide);have ha8:aI us 8=I T 8:=inI hT hul (by decide);have ha9:aB us 9=B T 9:=inB hT hul (by decide);have ha10:aB us 10=B T 10:=inB hT hul (by decide);have ha11:aB us 11=B T 11:=inB hT hul (by decide);have ha12:aB us 12=B T 12:=inB hT hul (by decide);have ha13:aB us 13=B T 13:=inB hT hul (by decide);have ha14:aB us 14=B T 14:=inB hT hul (by decide);have ha15:aB us 15=B T 15:=inB hT hul (by decide);have ha16:aB us 16=B T 16:=inB hT hul (by decide);have ha17:aI us 17=I T 17:=inI hT hul (by decide);have ha18:aI us 18=I T 18:=inI hT hul (by decide);have ha19:aB us 19=B T 19:=inB hT hul (by decide);have ha20:aB us 20=B T 20:=inB hT hul (by decide);have ha21:aB us 21=B T 21:=inB hT hul (by decide);have ha22:aI us 22=I T 22:=inI hT hul (by decide);have ha23:aI us 23=I T 23:=inI hT hul (by decide);have ha24:aI us 24=I T 24:=inI hT hul (by decide);have ha25:aI us 25=I T 25:=inI hT hul (by decide);have pre0:(I T 1)=(0:Int)/\I T 2=(0:Int)/\I T 3=(-1:Int)/\I T 4=(-1:Int)/\I T 5=(0:Int)/\I T 6=(0:Int)/\I T 7=(0:Int)/\I T 8=(0:Int)/\B T 9=false/\B T 10=false/\B T 11=false/\B T 12=false/\B T 13=false/\B T 14=false/\B T 15=false/\B T 16=false/\B T 19=false/\B T 20=false/\B T 21=false/\I T 22=(0:Int)/\I T 23=(0:Int)/\I T 24=(-1:Int)/\I T 25=(-1:Int)/\0<=I T 0/\I T 0<=3/\0<=I T 17/\I T 17<=40/\0<=I T 18/\I T 18<=40/\(¬((I T 0)=0\/I T 0=2)->I T 17=0/\I T 18=0):=by
  have h:=hpre (.s "chkNew.p0",qA) (by simp[qB]);change qA us at h;unfold qA at h;simp only[ha0,ha1,ha10,ha11,ha12,ha13,ha14,ha15,ha16,ha17,ha18,ha19,ha2,ha20,ha21,ha22,ha23,ha24,ha25,ha3,ha4,ha5,ha6,ha7,ha8,ha9] at h;exact h
 clear hpre
 skip
 obtain⟨A0,hO⟩:=BG (tys:=[.i]) (rs:=rI) hS (by kernel_rfl) hE;obtain⟨q0,r0,r1,r2,r3,r4,r5,r6⟩:=sH pre0 A0;refine⟨⟨r0,r1,r2,r3,r4,r5,r6,trivial⟩,hO.trans ?_⟩;exact (lc (by show U.int (I T 473)= .int (qG us);unfold qG;exact congrArg U.int q0) rfl)
end
end Go.Eng
end
