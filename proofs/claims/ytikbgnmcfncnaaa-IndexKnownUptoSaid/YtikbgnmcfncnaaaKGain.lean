/-
  A part of the proof: K_Gaind K_Gain.
-/
import Derived.Test.YtikbgnmcfncnaaaXQlKnown
import Derived.Test.YtikbgnmcfncnaaaE4
import Derived.Test.YtikbgnmcfncnaaaE5
import Derived.Test.YtikbgnmcfncnaaaKgain
set_option linter.unusedVariables false
set_option linter.unusedSimpArgs false
noncomputable section
open Go Go.Eng Go.Proofs
set_option maxHeartbeats 4000000
set_option maxRecDepth 100000
namespace Go.Eng
def G5:List U→Int:=fun us=>(if (Ax (aI us 0) (-10000) 10000&&Ax (aI us 1) (-10000) 10000)=true then Ar (aI us 0) (aI us 1) (aB us 2) else 0)
def HS:List U→Int:=fun us=>(if (Ax (aI us 0) (-10000) 10000&&Ax (aI us 1) (-10000) 10000)=true then 0 else 3)
def NZ:AV:={ sh:=[.one (k64),.one (k64),.one (.bool)],blks:=[],outs:=[(.s "Gain.0",Bl G5),(.s "Gain.1",Bl HS)],c:= .tup [(C2 3),(C2 4)],m':=[],pre:=[] }
def YW:List En:=[⟨3,.le,[.c (.int (-10000)),.e 0]⟩,
 ⟨4,.id .b,[.e 3]⟩,
 ⟨5,.le,[.e 0,.c (.int 10000)]⟩,
 ⟨6,.and,[.e 3,.e 5]⟩,
 ⟨7,.id .b,[.e 6]⟩,
 ⟨8,.le,[.c (.int (-10000)),.e 1]⟩,
 ⟨9,.and,[.e 7,.e 8]⟩,
 ⟨10,.le,[.e 1,.c (.int 10000)]⟩,
 ⟨11,.and,[.e 8,.e 10]⟩,
 ⟨12,.or,[.n 6,.n 11]⟩,
 ⟨13,.not,[.e 12]⟩,
 ⟨14,.outI "gain.0" Jl,[.e 0,.e 1,.e 2]⟩,
 ⟨15,.ite .i,[.e 12,.c (.int 3),.c (.int 0)]⟩,
 ⟨16,.ite .i,[.e 12,.c (.int 0),.e 14]⟩,
 ⟨17,.or,[.e 12,.e 13]⟩]
def Va:List En:=YW
def iE:List ObE:=[⟨some 13,.pre "gain.p0" G7,[.e 0,.e 1,.e 2]⟩]
def bP:List Rf:=[.e 16,.e 15]
theorem g8:NZ.sees bP (NZ.run Try.prog [(60,H3)] AW 3000 20 17)=some ((Va).map En.be,iE.map ObE.be,[]):=by kernel_rfl
theorem iF {T:Tab}(A0:AH T Va):
  ((I T 16)=(if (Ax (I T 0) (-10000) 10000&&Ax (I T 1) (-10000) 10000)=true then Ar (I T 0) (I T 1) (B T 2) else 0))∧
  ((I T 15)=(if (Ax (I T 0) (-10000) 10000&&Ax (I T 1) (-10000) 10000)=true then 0 else 3))∧
  (B T 13=true→ -10000≤I T 0∧I T 0≤10000∧ -10000≤I T 1∧I T 1≤10000):=by
 have F0:=A0;clear A0
 refine⟨?_,?_,?_⟩
 ·obtain⟨e3,-,e5,e6,-,e8,-,e10,e11,e12,-,e14,-,e16,-⟩:=F0
  replace e14:I T 14=(Ar (I T 0) (I T 1) (B T 2)):=e14
  simp only[AI,AP,zN,zR,zL,zS] at e3 e5 e6 e8 e10 e11 e12 e16
  have hb:(B T 12)=true↔¬(Ax (I T 0) (-10000) 10000&&Ax (I T 1) (-10000) 10000)=true:=by
   rw[Bool.and_eq_true,Bj,Bj,←e3,←e5,←e8,←e10,←e6,←e11,e12]
   cases (B T 6)<;>cases (B T 11)<;>simp
  rw[e16]
  by_cases h:(Ax (I T 0) (-10000) 10000&&Ax (I T 1) (-10000) 10000)=true
  ·rw[if_pos h,if_neg (fun a=>hb.1 a h),e14]
  ·rw[if_neg h,if_pos (hb.2 h)]
 ·obtain⟨e3,-,e5,e6,-,e8,-,e10,e11,e12,-,-,e15,-⟩:=F0
  simp only[AI,AP,zN,zR,zL,zS] at e3 e5 e6 e8 e10 e11 e12 e15
  have hb:(B T 12)=true↔¬(Ax (I T 0) (-10000) 10000&&Ax (I T 1) (-10000) 10000)=true:=by
   rw[Bool.and_eq_true,Bj,Bj,←e3,←e5,←e8,←e10,←e6,←e11,e12]
   cases (B T 6)<;>cases (B T 11)<;>simp
  rw[e15]
  by_cases h:(Ax (I T 0) (-10000) 10000&&Ax (I T 1) (-10000) 10000)=true
  ·rw[if_pos h,if_neg (fun a=>hb.1 a h)]
  ·rw[if_neg h,if_pos (hb.2 h)]
 ·obtain⟨e3,-,e5,e6,-,e8,-,e10,e11,e12,e13,-⟩:=F0
  simp only[AI,AP,zN,zR] at e3 e5 e6 e8 e10 e11 e12 e13
  intro hp
  have h12:(B T 12)=false:=by simpa using e13.1 hp
  have h6:(B T 6)=true∧B T 11=true:=by
   rw[←Bool.not_eq_true,e12] at h12
   simpa using h12
  rw[e6,e11,e3,e5,e8,e10] at h6
  omega
theorem gK:Ae Try.prog 17 NZ:=by
 refine BH (l:=[(60,H3)]) Bh (by simp only[List.forall_mem_cons];exact⟨XO,fun _ h=>absurd h (by simp)⟩) g8 (by kernel_rfl) fun T us hpre hT hul hS hBd hE=>?_
 change us.length=3 at hul
 clear hBd
 have ha0:aI us 0=I T 0:=inI hT hul (by decide)
 have ha1:aI us 1=I T 1:=inI hT hul (by decide)
 have ha2:aB us 2=B T 2:=inB hT hul (by decide)
 clear hpre
 skip
 obtain⟨A0,hO⟩:=BG (tys:=[.i,.i]) (rs:=bP) hS (by kernel_rfl) hE
 obtain⟨q0,q1,r0⟩:=iF A0
 refine⟨⟨r0,trivial⟩,hO.trans ?_⟩
 exact (lc (by show U.int (I T 16)= .int (G5 us);unfold G5;rw[ha0,ha1,ha2];exact congrArg U.int q0) (lc (by show U.int (I T 15)= .int (HS us);unfold HS;rw[ha0,ha1];exact congrArg U.int q1) rfl))
end Go.Eng
end
