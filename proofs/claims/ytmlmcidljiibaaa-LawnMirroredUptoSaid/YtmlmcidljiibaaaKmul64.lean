/-
  A part of the proof: K_mul64d K_mul64.
-/
import Derived.Test.YtmlmcidljiibaaaE4
import Derived.Test.YtmlmcidljiibaaaE5
set_option linter.unusedVariables false
set_option linter.unusedSimpArgs false
noncomputable section
open Go Go.Eng Go.Proofs
set_option maxHeartbeats 4000000
set_option maxRecDepth 100000
namespace Go.Eng
def H8:List U→Int:=fun us=>((aI us 0)*(aI us 1) / 18446744073709551616)
def Hu:List U→Int:=fun us=>((aI us 0)*(aI us 1) % 18446744073709551616)
def LI:Ak:={ sh:=[.one (.int .u64 (0) (18446744073709551615)),.one (.int .u64 (0) (18446744073709551615))],blks:=[],outs:=[(.s "mul64.0",Bi H8),(.s "mul64.1",Bi Hu)],c:= .tup [.i .u64 (0) (18446744073709551615) 2,.i .u64 (0) (18446744073709551615) 3],m':=[],pre:=[] }
def WG:List En:=[⟨2,.o2 .mod,[.e 0,.c (.int 4294967296)]⟩,
 ⟨3,.o2 .div,[.e 0,.c (.int 4294967296)]⟩,
 ⟨4,.o2 .mod,[.e 1,.c (.int 4294967296)]⟩,
 ⟨5,.o2 .div,[.e 1,.c (.int 4294967296)]⟩,
 ⟨6,.o2 .mul,[.e 2,.e 4]⟩,
 ⟨7,.o2 .mul,[.e 3,.e 4]⟩,
 ⟨8,.o2 .div,[.e 6,.c (.int 4294967296)]⟩,
 ⟨9,.o2 .add,[.e 7,.e 8]⟩,
 ⟨10,.o2 .mod,[.e 9,.c (.int 4294967296)]⟩,
 ⟨11,.o2 .div,[.e 9,.c (.int 4294967296)]⟩,
 ⟨12,.o2 .mul,[.e 2,.e 5]⟩,
 ⟨13,.o2 .add,[.e 10,.e 12]⟩,
 ⟨14,.o2 .mul,[.e 3,.e 5]⟩,
 ⟨15,.o2 .add,[.e 14,.e 11]⟩,
 ⟨16,.o2 .div,[.e 13,.c (.int 4294967296)]⟩,
 ⟨17,.o2 .add,[.e 15,.e 16]⟩]
def Va:List En:=[⟨18,.w2 .u64 .mul,[.e 0,.e 1]⟩]
def R3:List En:=WG++(Va)
def iJ:List ObE:=[]
def Xh:List Rf:=[.e 17,.e 18]
theorem gu:LI.sees Xh (LI.run Try.prog [] Ag 3000 20 120)=some ((R3).map En.be,iJ.map ObE.be,[]):=by kernel_rfl
theorem gI {T:Tab}(lo0:0≤I T 0)(hi0:I T 0≤18446744073709551615)(lo1:0≤I T 1)(hi1:I T 1≤18446744073709551615)(A0:AI T R3):
  ((I T 17)=((I T 0)*(I T 1) / 18446744073709551616))∧
  ((I T 18)=((I T 0)*(I T 1) % 18446744073709551616)):=by
 obtain⟨F0,A0⟩:=A0.cut
 have F1:=A0;clear A0
 refine⟨?_,?_⟩
 ·obtain⟨e2,e3,e4,e5,e6,e7,e8,e9,e10,e11,e12,e13,e14,e15,e16,e17,-⟩:=F0
  simp only[AE,zR,AS] at*
  have hm:=aN (I T 0) (I T 1)
  obtain⟨⟨p0,p1⟩,⟨p2,p3⟩,⟨p4,p5⟩,⟨p6,p7⟩⟩:=dD lo0 hi0 lo1 hi1
  simp only[e2,e3,e4,e5,e6,e7,e8,e9,e10,e11,e12,e13,e14,e15,e16,e17] at*
  generalize ((I T 0) % 4294967296)*((I T 1) % 4294967296)=p at*
  generalize ((I T 0) % 4294967296)*((I T 1) / 4294967296)=q at*
  generalize ((I T 0) / 4294967296)*((I T 1) % 4294967296)=r at*
  generalize ((I T 0) / 4294967296)*((I T 1) / 4294967296)=s at*
  omega
 ·obtain⟨e18,-⟩:=F1
  simp only[AE,zR,w2P] at e18
  simp only[Op2.f,Yf,fA] at e18
  exact e18
theorem eH:Ao Try.prog 120 LI:=by
 refine AZ (l:=[]) BH (by intro p h;exact absurd h (by simp)) gu (by kernel_rfl) fun T us hpre hT hul hS hBd hE=>?_
 change us.length=2 at hul
 obtain⟨⟨lo0,hi0⟩,⟨lo1,hi1⟩,-⟩:=hBd
 replace lo0:0≤I T 0:=lo0
 replace hi0:I T 0≤18446744073709551615:=hi0
 replace lo1:0≤I T 1:=lo1
 replace hi1:I T 1≤18446744073709551615:=hi1
 have ha0:aI us 0=I T 0:=inI hT hul (by decide)
 have ha1:aI us 1=I T 1:=inI hT hul (by decide)
 clear hpre
 skip
 obtain⟨A0,hO⟩:=Ap (tys:=[.i,.i]) (rs:=Xh) hS (by kernel_rfl) hE
 obtain⟨q0,q1⟩:=gI lo0 hi0 lo1 hi1 A0
 refine⟨trivial,hO.trans ?_⟩
 exact (lc (by show U.int (I T 17)= .int (H8 us);unfold H8;rw[ha0,ha1];exact congrArg U.int q0) (lc (by show U.int (I T 18)= .int (Hu us);unfold Hu;rw[ha0,ha1];exact congrArg U.int q1) rfl))
end Go.Eng
end
