/-
  A part of the proof: K_Gaind K_Gain.
-/
import Derived.Test.YtikbgnmcfncnaaaXQlKept
import Derived.Test.YtikbgnmcfncnaaaE4
import Derived.Test.YtikbgnmcfncnaaaE5
import Derived.Test.YtikbgnmcfncnaaaKgain
set_option linter.unusedVariables false
set_option linter.unusedSimpArgs false
noncomputable section
open Go Go.Eng Go.Proofs
set_option maxHeartbeats 4000000
set_option maxRecDepth 100000
namespace Go.Eng
def G9:List U→Int:=fun us=>(if (Ay (aI us 0) (-10000) 10000&&Ay (aI us 1) (-10000) 10000)=true then Ar (aI us 0) (aI us 1) (aB us 2) else 0)
def HR:List U→Int:=fun us=>(if (Ay (aI us 0) (-10000) 10000&&Ay (aI us 1) (-10000) 10000)=true then 0 else 3)
def NM:AV:={ sh:=[.one (k64),.one (k64),.one (.bool)],blks:=[],outs:=[(.s "Gain.0",Bl G9),(.s "Gain.1",Bl HR)],c:= .tup [(C4 3),(C4 4)],m':=[],pre:=[] }
def YM:List En:=[⟨3,.le,[.c (.int (-10000)),.e 0]⟩,
 ⟨4,.id .b,[.e 3]⟩,
 ⟨5,.le,[.e 0,.c (.int 10000)]⟩,
 ⟨6,.and,[.e 3,.e 5]⟩,
 ⟨7,.id .b,[.e 6]⟩,
 ⟨8,.le,[.c (.int (-10000)),.e 1]⟩,
 ⟨9,.and,[.e 7,.e 8]⟩,
 ⟨10,.le,[.e 1,.c (.int 10000)]⟩,
 ⟨11,.and,[.e 8,.e 10]⟩,
 ⟨12,.or,[.n 6,.n 11]⟩,
 ⟨13,.not,[.e 12]⟩,
 ⟨14,.outI "gain.0" JJ,[.e 0,.e 1,.e 2]⟩,
 ⟨15,.ite .i,[.e 12,.c (.int 3),.c (.int 0)]⟩,
 ⟨16,.ite .i,[.e 12,.c (.int 0),.e 14]⟩,
 ⟨17,.or,[.e 12,.e 13]⟩]
def Tf:List En:=YM
def iM:List ObE:=[⟨some 13,.pre "gain.p0" HK,[.e 0,.e 1,.e 2]⟩]
def Z9:List Rf:=[.e 16,.e 15]
theorem iP:NM.sees Z9 (NM.run Try.prog [(60,Hr)] AW 3000 20 17)=some ((Tf).map En.be,iM.map ObE.be,[]):=by kernel_rfl
theorem iS {T:Tab}(A0:AH T Tf):
  ((I T 16)=(if (Ay (I T 0) (-10000) 10000&&Ay (I T 1) (-10000) 10000)=true then Ar (I T 0) (I T 1) (B T 2) else 0))∧
  ((I T 15)=(if (Ay (I T 0) (-10000) 10000&&Ay (I T 1) (-10000) 10000)=true then 0 else 3))∧
  (B T 13=true→ -10000≤I T 0∧I T 0≤10000∧ -10000≤I T 1∧I T 1≤10000):=by
 have F0:=A0;clear A0
 refine⟨?_,?_,?_⟩
 ·obtain⟨e3,-,e5,e6,-,e8,-,e10,e11,e12,-,e14,-,e16,-⟩:=F0
  replace e14:I T 14=(Ar (I T 0) (I T 1) (B T 2)):=e14
  simp only[AI,AP,zN,zR,zL,zS] at e3 e5 e6 e8 e10 e11 e12 e16
  have hb:(B T 12)=true↔¬(Ay (I T 0) (-10000) 10000&&Ay (I T 1) (-10000) 10000)=true:=by
   rw[Bool.and_eq_true,Bk,Bk,←e3,←e5,←e8,←e10,←e6,←e11,e12]
   cases (B T 6)<;>cases (B T 11)<;>simp
  rw[e16]
  by_cases h:(Ay (I T 0) (-10000) 10000&&Ay (I T 1) (-10000) 10000)=true
  ·rw[if_pos h,if_neg (fun a=>hb.1 a h),e14]
  ·rw[if_neg h,if_pos (hb.2 h)]
 ·obtain⟨e3,-,e5,e6,-,e8,-,e10,e11,e12,-,-,e15,-⟩:=F0
  simp only[AI,AP,zN,zR,zL,zS] at e3 e5 e6 e8 e10 e11 e12 e15
  have hb:(B T 12)=true↔¬(Ay (I T 0) (-10000) 10000&&Ay (I T 1) (-10000) 10000)=true:=by
   rw[Bool.and_eq_true,Bk,Bk,←e3,←e5,←e8,←e10,←e6,←e11,e12]
   cases (B T 6)<;>cases (B T 11)<;>simp
  rw[e15]
  by_cases h:(Ay (I T 0) (-10000) 10000&&Ay (I T 1) (-10000) 10000)=true
  ·rw[if_pos h,if_neg (fun a=>hb.1 a h)]
  ·rw[if_neg h,if_pos (hb.2 h)]
 ·obtain⟨e3,-,e5,e6,-,e8,-,e10,e11,e12,e13,-⟩:=F0
  simp only[AI,AP,zN,zR] at e3 e5 e6 e8 e10 e11 e12 e13
  intro hp
  have h12:(B T 12)=false:=by simpa using e13.1 hp
  have h6:(B T 6)=true∧B T 11=true:=by
   rw[←Bool.not_eq_true,e12] at h12
   simpa using h12
  rw[e6,e11,e3,e5,e8,e10] at h6
  omega
theorem gA:Ae Try.prog 17 NM:=by
 refine BH (l:=[(60,Hr)]) Bh (by simp only[List.forall_mem_cons];exact⟨W9,fun _ h=>absurd h (by simp)⟩) iP (by kernel_rfl) fun T us hpre hT hul hS hBd hE=>?_
 change us.length=3 at hul
 clear hBd
 have ha0:aI us 0=I T 0:=inI hT hul (by decide)
 have ha1:aI us 1=I T 1:=inI hT hul (by decide)
 have ha2:aB us 2=B T 2:=inB hT hul (by decide)
 clear hpre
 skip
 obtain⟨A0,hO⟩:=BG (tys:=[.i,.i]) (rs:=Z9) hS (by kernel_rfl) hE
 obtain⟨q0,q1,r0⟩:=iS A0
 refine⟨⟨r0,trivial⟩,hO.trans ?_⟩
 exact (lc (by show U.int (I T 16)= .int (G9 us);unfold G9;rw[ha0,ha1,ha2];exact congrArg U.int q0) (lc (by show U.int (I T 15)= .int (HR us);unfold HR;rw[ha0,ha1];exact congrArg U.int q1) rfl))
end Go.Eng
end
