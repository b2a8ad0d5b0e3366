/-
  A part of the proof: K_Triggerd K_Trigger.
-/
import Derived.Test.YtikbgnmcfncnaaaE4
import Derived.Test.YtikbgnmcfncnaaaE5
import Derived.Test.YtikbgnmcfncnaaaKtrig
set_option linter.unusedVariables false
set_option linter.unusedSimpArgs false
noncomputable section
open Go Go.Eng Go.Proofs
set_option maxHeartbeats 4000000
set_option maxRecDepth 100000
namespace Go.Eng
def FU:List U→Int:=fun us=>(if Ax (aI us 0) (-12) 48=true then BS (aI us 0) else 0)
def Fh:List U→Int:=fun us=>(if Ax (aI us 0) (-12) 48=true then 0 else 3)
def ID:AV:={ sh:=[.one (k64)],blks:=[],outs:=[(.s "Trigger.0",Bl FU),(.s "Trigger.1",Bl Fh)],c:= .tup [(C2 1),(C2 2)],m':=[],pre:=[] }
def Sx:List En:=[⟨1,.lt,[.e 0,.c (.int (-12))]⟩,
 ⟨2,.not,[.e 1]⟩,
 ⟨3,.lt,[.c (.int 48),.e 0]⟩,
 ⟨4,.or,[.e 1,.e 3]⟩,
 ⟨5,.not,[.e 4]⟩,
 ⟨6,.outI "trig.0" HR,[.e 0]⟩,
 ⟨7,.ite .i,[.e 4,.c (.int 3),.c (.int 0)]⟩,
 ⟨8,.ite .i,[.e 4,.c (.int 0),.e 6]⟩,
 ⟨9,.or,[.e 4,.e 5]⟩]
def OM:List En:=Sx
def Zj:List ObE:=[⟨some 5,.pre "trig.p0" Fr,[.e 0]⟩]
def Rw:List Rf:=[.e 8,.e 7]
theorem bG:ID.sees Rw (ID.run Try.prog [(69,H4)] AW 3000 20 29)=some ((OM).map En.be,Zj.map ObE.be,[]):=by kernel_rfl
theorem aQ {T:Tab}(A0:AH T OM):
  ((I T 8)=(if Ax (I T 0) (-12) 48=true then BS (I T 0) else 0))∧
  ((I T 7)=(if Ax (I T 0) (-12) 48=true then 0 else 3))∧
  (B T 5=true→ -100≤I T 0∧I T 0≤100):=by
 have F0:=A0;clear A0
 refine⟨?_,?_,?_⟩
 ·obtain⟨e1,-,e3,e4,-,e6,-,e8,-⟩:=F0
  replace e6:I T 6=(BS (I T 0)):=e6
  simp only[AI,AP,zR,zL,zS] at e1 e3 e4 e8
  have hb:(B T 4)=true↔¬Ax (I T 0) (-12) 48=true:=by
   rw[Bj,e4,e1,e3]
   omega
  by_cases h:Ax (I T 0) (-12) 48=true
  ·have h4:¬B T 4=true:=fun a=>hb.1 a h
   rw[if_pos h,e8,if_neg h4,e6]
  ·rw[if_neg h,e8,if_pos (hb.2 h)]
 ·obtain⟨e1,-,e3,e4,-,-,e7,-⟩:=F0
  simp only[AI,AP,zR,zL,zS] at e1 e3 e4 e7
  have hb:(B T 4)=true↔¬Ax (I T 0) (-12) 48=true:=by
   rw[Bj,e4,e1,e3]
   omega
  by_cases h:Ax (I T 0) (-12) 48=true
  ·have h4:¬B T 4=true:=fun a=>hb.1 a h
   rw[if_pos h,e7,if_neg h4]
  ·rw[if_neg h,e7,if_pos (hb.2 h)]
 ·obtain⟨e1,-,e3,e4,e5,-⟩:=F0
  simp only[AI,AP,zR] at e1 e3 e4 e5
  intro hp
  have h4:=e5.1 hp
  rw[e4,e1,e3] at h4
  omega
theorem X0:Ae Try.prog 29 ID:=by
 refine BH (l:=[(69,H4)]) Bh (by simp only[List.forall_mem_cons];exact⟨XG,fun _ h=>absurd h (by simp)⟩) bG (by kernel_rfl) fun T us hpre hT hul hS hBd hE=>?_
 change us.length=1 at hul
 clear hBd
 have ha0:aI us 0=I T 0:=inI hT hul (by decide)
 clear hpre
 skip
 obtain⟨A0,hO⟩:=BG (tys:=[.i,.i]) (rs:=Rw) hS (by kernel_rfl) hE
 obtain⟨q0,q1,r0⟩:=aQ A0
 refine⟨⟨r0,trivial⟩,hO.trans ?_⟩
 exact (lc (by show U.int (I T 8)= .int (FU us);unfold FU;rw[ha0];exact congrArg U.int q0) (lc (by show U.int (I T 7)= .int (Fh us);unfold Fh;rw[ha0];exact congrArg U.int q1) rfl))
end Go.Eng
end
