/-
  A part of the proof: K_ordBd K_ordB.
-/
import Derived.Test.YtikbgnmcfncnaaaE4
import Derived.Test.YtikbgnmcfncnaaaE5
import Derived.Test.YtikbgnmcfncnaaaKstabB
set_option linter.unusedVariables false
set_option linter.unusedSimpArgs false
noncomputable section
namespace Go.Eng
section
open Go Go.Eng Go.Proofs
set_option maxHeartbeats 4000000
set_option maxRecDepth 100000
def Je:List U->List (List U):=fun us=>(C5 ltB (aL us 0))
def HA:List U->Prop:=fun us=>((aL us 0)).length<=20
def LA:AV:={ sh:=[.one (.list [k64,k64,k64,.bool,.str,.str,.bool,k64,k64]),.cst (.fn (.func 101) [] [])],blks:=[],outs:=[(.s "ordB.0",Eg Je)],c:= .ro 1 [k64,k64,k64,.bool,.str,.str,.bool,k64,k64],m':=[],pre:=[(.s "ordB.p0",HA)] }
def ZA:List En:=[⟨1,.id .l,[.c (.list [])]⟩,
 ⟨2,.id .i,[.c (.int 0)]⟩,
 ⟨3,.app,[.e 1,.e 0]⟩,
 ⟨4,.len,[.e 3]⟩,
 ⟨5,.outL "stabB.0" Jp,[.e 3,.e 4,.e 4]⟩]
def Ui:List En:=ZA
def iI:List ObE:=[⟨none,.pre "stabB.p0" Hz,[.e 3,.e 4,.e 4]⟩,
 ⟨none,.fits 88,[.e 1,.e 0]⟩]
def an:List Rf:=[.e 5]
theorem g9:LA.sees an (LA.runC Try.prog Kn [(137,D0)] AW 3000 20 100)=some ((Ui).map En.be,iI.map ObE.be,[]):=by kernel_rfl
theorem gb {T:Tab}(hl0:(L T 0).length<=140737488355328)(hk0:∀u∈(L T 0),AT AF KB u)(pre0:((L T 0)).length<=20)(A0:AH T Ui):
  ((L T 5)=(C5 ltB (L T 0)))/\
  (((L T 3)).length=I T 4/\I T 4=I T 4/\I T 4<=20)/\
  ((((L T 1)).length+((L T 0)).length)*88<=140737488355328):=by
 have F0:=A0;clear A0;refine⟨?_,?_,?_⟩
 .obtain⟨e1,-,e3,e4,e5,-⟩:=F0;replace e5:L T 5=(Aw ltB (L T 3) 0 (I T 4).toNat):=e5;simp only[AI,AP,zR,zL,zS] at e1 e3 e4;have h3:(L T 3)=L T 0:=by rw[e3,e1];rfl
  rw[e5,e4,h3];exact Ug (by omega)
 .obtain⟨e1,-,e3,e4,-⟩:=F0;simp only[AI,AP,zR,zL,zS] at e1 e3 e4;have h3:(L T 3)=L T 0:=by rw[e3,e1];rfl
  refine⟨e4.symm,rfl,?_⟩;rw[e4,h3];omega
 .obtain⟨e1,-⟩:=F0;simp only[AI,zR,zL,zS] at e1;rw[e1];show (0+_)*_<=_;omega
theorem fq:Ae Try.prog 100 LA:=by
 refine LM Ju (l:=[(137,D0)]) Bh (by simp only[List.forall_mem_cons];exact⟨dC,fun _ h=>absurd h (by simp)⟩) g9 (by kernel_rfl) fun T us hpre hT hul hS hBd hE=>?_;change us.length=1 at hul;obtain⟨⟨hl0,he0⟩,-⟩:=hBd;replace hl0:(L T 0).length<=140737488355328:=hl0;have hk0:∀u∈(L T 0),AT AF KB u:=fun u hu=>by
  obtain⟨i,hi⟩:=List.mem_iff_getElem?.1 hu;exact he0 i u hi
 have ha0:aL us 0=L T 0:=inL hT hul (by decide);have pre0:((L T 0)).length<=20:=by
  have h:=hpre (.s "ordB.p0",HA) (by simp[LA]);change HA us at h;unfold HA at h;simp only[ha0] at h;exact h
 clear hpre
 skip
 obtain⟨A0,hO⟩:=BG (tys:=[.l]) (rs:=an) hS (by kernel_rfl) hE;obtain⟨q0,r0,r1⟩:=gb hl0 hk0 pre0 A0;refine⟨⟨(fun _=>r0),(fun _=>r1),trivial⟩,hO.trans ?_⟩;exact (lc (by show U.list (L T 5)= .list (Je us);unfold Je;rw[ha0];exact congrArg U.list q0) rfl)
end
end Go.Eng
end
