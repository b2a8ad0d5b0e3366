/-
  A part of the proof: K_wided K_wide.
-/
import Derived.Test.YtmlmcidljiibaaaXQlTouches
import Derived.Test.YtmlmcidljiibaaaE3
import Derived.Test.YtmlmcidljiibaaaE4
set_option linter.unusedVariables false
set_option linter.unusedSimpArgs false
noncomputable section
open Go Go.Eng Go.Proofs
set_option maxHeartbeats 4000000
set_option maxRecDepth 100000
namespace Go.Eng
def iA:List U→Int:=fun us=>((aI us 0)*(aI us 1) / 18446744073709551616)
def iC:List U→Int:=fun us=>((aI us 0)*(aI us 1) % 18446744073709551616)
def iX:Ak:={ sh:=[.one (.int .u64 (0) (18446744073709551615)),.one (.int .u64 (0) (18446744073709551615))],blks:=[],outs:=[(.s "wide.0",Bj iA),(.s "wide.1",Bj iC)],c:= .tup [.i .u64 (0) (18446744073709551615) 2,.i .u64 (0) (18446744073709551615) 3],m':=[],pre:=[] }
def jo:List En:=[⟨2,.o2 .mod,[.e 0,.c (.int 4294967296)]⟩,
 ⟨3,.o2 .mod,[.e 1,.c (.int 4294967296)]⟩,
 ⟨4,.o2 .mul,[.e 2,.e 3]⟩,
 ⟨5,.o2 .mod,[.e 0,.c (.int 4294967296)]⟩,
 ⟨6,.o2 .div,[.e 1,.c (.int 4294967296)]⟩,
 ⟨7,.o2 .mul,[.e 5,.e 6]⟩,
 ⟨8,.o2 .div,[.e 0,.c (.int 4294967296)]⟩,
 ⟨9,.o2 .mod,[.e 1,.c (.int 4294967296)]⟩,
 ⟨10,.o2 .mul,[.e 8,.e 9]⟩,
 ⟨11,.o2 .div,[.e 0,.c (.int 4294967296)]⟩,
 ⟨12,.o2 .div,[.e 1,.c (.int 4294967296)]⟩,
 ⟨13,.o2 .mul,[.e 11,.e 12]⟩,
 ⟨14,.o2 .div,[.e 4,.c (.int 4294967296)]⟩,
 ⟨15,.o2 .mod,[.e 7,.c (.int 4294967296)]⟩,
 ⟨16,.o2 .add,[.e 14,.e 15]⟩,
 ⟨17,.o2 .mod,[.e 10,.c (.int 4294967296)]⟩]
def ja:List En:=[⟨18,.o2 .add,[.e 16,.e 17]⟩,
 ⟨19,.o2 .div,[.e 7,.c (.int 4294967296)]⟩,
 ⟨20,.o2 .add,[.e 13,.e 19]⟩,
 ⟨21,.o2 .div,[.e 10,.c (.int 4294967296)]⟩,
 ⟨22,.o2 .add,[.e 20,.e 21]⟩,
 ⟨23,.o2 .div,[.e 18,.c (.int 4294967296)]⟩,
 ⟨24,.o2 .add,[.e 22,.e 23]⟩,
 ⟨25,.w2 .u64 .mul,[.e 18,.c (.int 4294967296)]⟩,
 ⟨26,.o2 .mod,[.e 4,.c (.int 4294967296)]⟩,
 ⟨27,.bits .or .u64,[.e 25,.e 26]⟩]
def jO:List En:=jo++(ja)
def kV:List ObE:=[]
def j6:List Rf:=[.e 24,.e 27]
theorem ku:iX.sees j6 (iX.run Try.prog [] Ah 3000 20 113)=some ((jO).map En.be,kV.map ObE.be,[]):=by kernel_rfl
theorem kW {T:Tab}(lo0:0≤I T 0)(hi0:I T 0≤18446744073709551615)(lo1:0≤I T 1)(hi1:I T 1≤18446744073709551615)(A0:AJ T jO):
  ((I T 24)=((I T 0)*(I T 1) / 18446744073709551616))∧
  ((I T 27)=((I T 0)*(I T 1) % 18446744073709551616)):=by
 obtain⟨F0,A0⟩:=A0.cut
 have F1:=A0;clear A0
 refine⟨?_,?_⟩
 ·obtain⟨e2,e3,e4,e5,e6,e7,e8,e9,e10,e11,e12,e13,e14,e15,e16,e17,-⟩:=F0
  obtain⟨e18,e19,e20,e21,e22,e23,e24,-⟩:=F1
  simp only[AE,zR,AR] at*
  have hm:=Yx (I T 0) (I T 1)
  obtain⟨⟨p0,p1⟩,⟨p2,p3⟩,⟨p4,p5⟩,⟨p6,p7⟩⟩:=Zw lo0 hi0 lo1 hi1
  simp only[e2,e3,e4,e5,e6,e7,e8,e9,e10,e11,e12,e13,e14,e15,e16,e17,e18,e19,e20,e21,e22,e23,e24] at*
  generalize ((I T 0) % 4294967296)*((I T 1) % 4294967296)=p at*
  generalize ((I T 0) % 4294967296)*((I T 1) / 4294967296)=q at*
  generalize ((I T 0) / 4294967296)*((I T 1) % 4294967296)=r at*
  generalize ((I T 0) / 4294967296)*((I T 1) / 4294967296)=s at*
  omega
 ·obtain⟨e2,e3,e4,e5,e6,e7,e8,e9,e10,-,-,-,e14,e15,e16,e17,-⟩:=F0
  obtain⟨e18,-,-,-,-,-,-,e25,e26,e27,-⟩:=F1
  simp only[AE,zR,AR,w2P] at*
  have hm:=Yx (I T 0) (I T 1)
  obtain⟨⟨p0,p1⟩,⟨p2,p3⟩,⟨p4,p5⟩,⟨p6,p7⟩⟩:=Zw lo0 hi0 lo1 hi1
  simp only[Op2.f,Wh,bT] at*
  have z4:0≤I T 4:=by rw[e4,e2,e3];exact p0
  rw[e27,e25,lA _ _ (by omega) (by omega) (by omega)]
  simp only[e2,e3,e4,e5,e6,e7,e8,e9,e10,e14,e15,e16,e17,e18,e26] at*
  generalize ((I T 0) % 4294967296)*((I T 1) % 4294967296)=p at*
  generalize ((I T 0) % 4294967296)*((I T 1) / 4294967296)=q at*
  generalize ((I T 0) / 4294967296)*((I T 1) % 4294967296)=r at*
  generalize ((I T 0) / 4294967296)*((I T 1) / 4294967296)=s at*
  omega
theorem kQ:Aq Try.prog 113 iX:=by
 refine Ai (l:=[]) BX (by intro p h;exact absurd h (by simp)) ku (by kernel_rfl) fun T us hpre hT hul hS hBd hE=>?_
 change us.length=2 at hul
 obtain⟨⟨lo0,hi0⟩,⟨lo1,hi1⟩,-⟩:=hBd
 replace lo0:0≤I T 0:=lo0
 replace hi0:I T 0≤18446744073709551615:=hi0
 replace lo1:0≤I T 1:=lo1
 replace hi1:I T 1≤18446744073709551615:=hi1
 have ha0:aI us 0=I T 0:=inI hT hul (by decide)
 have ha1:aI us 1=I T 1:=inI hT hul (by decide)
 clear hpre
 skip
 obtain⟨A0,hO⟩:=Ar (tys:=[.i,.i]) (rs:=j6) hS (by kernel_rfl) hE
 obtain⟨q0,q1⟩:=kW lo0 hi0 lo1 hi1 A0
 refine⟨trivial,hO.trans ?_⟩
 exact (lc (by show U.int (I T 24)= .int (iA us);unfold iA;rw[ha0,ha1];exact congrArg U.int q0) (lc (by show U.int (I T 27)= .int (iC us);unfold iC;rw[ha0,ha1];exact congrArg U.int q1) rfl))
end Go.Eng
end
