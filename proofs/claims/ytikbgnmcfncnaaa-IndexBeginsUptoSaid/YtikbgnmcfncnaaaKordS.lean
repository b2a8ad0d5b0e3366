/-
  A part of the proof: K_ordSd K_ordS.
-/
import Derived.Test.YtikbgnmcfncnaaaE4
import Derived.Test.YtikbgnmcfncnaaaE5
import Derived.Test.YtikbgnmcfncnaaaKstabS
set_option linter.unusedVariables false
set_option linter.unusedSimpArgs false
noncomputable section
namespace Go.Eng
section
open Go Go.Eng Go.Proofs
set_option maxHeartbeats 4000000
set_option maxRecDepth 100000
def MG:List U->List (List U):=fun us=>(C5 ltT (aL us 0))
def JB:List U->Prop:=fun us=>((aL us 0)).length<=20
def LG:AV:={ sh:=[.one (.list [.str,k64,k64,k64,k64,k64]),.cst (.fn (.func 72) [] [])],blks:=[],outs:=[(.s "ordS.0",Eg MG)],c:= .ro 1 [.str,k64,k64,k64,k64,k64],m':=[],pre:=[(.s "ordS.p0",JB)] }
def X8:List En:=[⟨1,.id .l,[.c (.list [])]⟩,
 ⟨2,.id .i,[.c (.int 0)]⟩,
 ⟨3,.app,[.e 1,.e 0]⟩,
 ⟨4,.len,[.e 3]⟩,
 ⟨5,.outL "stabS.0" Jt,[.e 3,.e 4,.e 4]⟩]
def T7:List En:=X8
def gu:List ObE:=[⟨none,.pre "stabS.p0" Ht,[.e 3,.e 4,.e 4]⟩,
 ⟨none,.fits 56,[.e 1,.e 0]⟩]
def ZX:List Rf:=[.e 5]
theorem gg:LG.sees ZX (LG.runC Try.prog Kn [(122,Dy)] AW 3000 20 71)=some ((T7).map En.be,gu.map ObE.be,[]):=by kernel_rfl
theorem iY {T:Tab}(hl0:(L T 0).length<=140737488355328)(hk0:∀u∈(L T 0),AT AF KS u)(pre0:((L T 0)).length<=20)(A0:AH T T7):
  ((L T 5)=(C5 ltT (L T 0)))/\
  (((L T 3)).length=I T 4/\I T 4=I T 4/\I T 4<=20)/\
  ((((L T 1)).length+((L T 0)).length)*56<=140737488355328):=by
 have F0:=A0;clear A0;refine⟨?_,?_,?_⟩
 .obtain⟨e1,-,e3,e4,e5,-⟩:=F0;replace e5:L T 5=(Aw ltT (L T 3) 0 (I T 4).toNat):=e5;simp only[AI,AP,zR,zL,zS] at e1 e3 e4;have h3:(L T 3)=L T 0:=by rw[e3,e1];rfl
  rw[e5,e4,h3];exact Ug (by omega)
 .obtain⟨e1,-,e3,e4,-⟩:=F0;simp only[AI,AP,zR,zL,zS] at e1 e3 e4;have h3:(L T 3)=L T 0:=by rw[e3,e1];rfl
  refine⟨e4.symm,rfl,?_⟩;rw[e4,h3];omega
 .obtain⟨e1,-⟩:=F0;simp only[AI,zR,zL,zS] at e1;rw[e1];show (0+_)*_<=_;omega
theorem fz:Ae Try.prog 71 LG:=by
 refine LM Ju (l:=[(122,Dy)]) Bh (by simp only[List.forall_mem_cons];exact⟨dZ,fun _ h=>absurd h (by simp)⟩) gg (by kernel_rfl) fun T us hpre hT hul hS hBd hE=>?_;change us.length=1 at hul;obtain⟨⟨hl0,he0⟩,-⟩:=hBd;replace hl0:(L T 0).length<=140737488355328:=hl0;have hk0:∀u∈(L T 0),AT AF KS u:=fun u hu=>by
  obtain⟨i,hi⟩:=List.mem_iff_getElem?.1 hu;exact he0 i u hi
 have ha0:aL us 0=L T 0:=inL hT hul (by decide);have pre0:((L T 0)).length<=20:=by
  have h:=hpre (.s "ordS.p0",JB) (by simp[LG]);change JB us at h;unfold JB at h;simp only[ha0] at h;exact h
 clear hpre
 skip
 obtain⟨A0,hO⟩:=BG (tys:=[.l]) (rs:=ZX) hS (by kernel_rfl) hE;obtain⟨q0,r0,r1⟩:=iY hl0 hk0 pre0 A0;refine⟨⟨(fun _=>r0),(fun _=>r1),trivial⟩,hO.trans ?_⟩;exact (lc (by show U.list (L T 5)= .list (MG us);unfold MG;rw[ha0];exact congrArg U.list q0) rfl)
end
end Go.Eng
end
