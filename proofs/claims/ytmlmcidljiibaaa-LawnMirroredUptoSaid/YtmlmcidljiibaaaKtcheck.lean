/-
  A part of the proof: K_tcheckd K_tcheck.
-/
import Derived.Test.YtmlmcidljiibaaaE4
import Derived.Test.YtmlmcidljiibaaaE5
import Derived.Test.YtmlmcidljiibaaaKfits
set_option linter.unusedVariables false
set_option linter.unusedSimpArgs false
noncomputable section
open Go Go.Eng Go.Proofs
set_option maxHeartbeats 4000000
set_option maxRecDepth 100000
namespace Go.Eng
def FM:List U→Int:=fun us=>(if AF (aI us 0) (aI us 1)=true then 0 else 2)
def EA:Ak:={ sh:=[.agg [k64,k64]],blks:=[],outs:=[(.s "tcheck.0",Bi FM)],c:=(CP 2),m':=[],pre:=[] }
def UU:List En:=[⟨2,.row 1 2 [.i,.i],[.e 0,.e 1]⟩,
 ⟨3,.outB "fits.0" GH,[.e 2]⟩,
 ⟨4,.not,[.e 3]⟩,
 ⟨5,.ite .i,[.e 4,.c (.int 2),.c (.int 0)]⟩,
 ⟨6,.or,[.e 4,.e 3]⟩]
def Qf:List En:=UU
def dw:List ObE:=[]
def UD:List Rf:=[.e 5]
theorem eE:EA.sees UD (EA.run Try.prog [(93,Fk)] Ag 3000 20 76)=some ((Qf).map En.be,dw.map ObE.be,[]):=by kernel_rfl
theorem ep {T:Tab}(A0:AI T Qf):
  ((I T 5)=(if AF (I T 0) (I T 1)=true then 0 else 2)):=by
 have F0:=A0;clear A0
 ·obtain⟨e2,e3,e4,e5,-⟩:=F0
  replace e3:B T 3=(B6 (L T 2)):=e3
  simp only[AE,AG,zR,zL,zS,uR,AY,zW] at e2 e4 e5
  have h:(B T 3)=AF (I T 0) (I T 1):=by rw[e3,e2];exact TF _ _
  grind
theorem Nj:Ao Try.prog 76 EA:=by
 refine AZ (l:=[(93,Fk)]) BH (by simp only[List.forall_mem_cons];exact⟨Qq,fun _ h=>absurd h (by simp)⟩) eE (by kernel_rfl) fun T us hpre hT hul hS hBd hE=>?_
 change us.length=2 at hul
 clear hBd
 have ha0:aI us 0=I T 0:=inI hT hul (by decide)
 have ha1:aI us 1=I T 1:=inI hT hul (by decide)
 clear hpre
 skip
 obtain⟨A0,hO⟩:=Ap (tys:=[.i]) (rs:=UD) hS (by kernel_rfl) hE
 have q0:=ep A0
 refine⟨trivial,hO.trans ?_⟩
 exact (lc (by show U.int (I T 5)= .int (FM us);unfold FM;rw[ha0,ha1];exact congrArg U.int q0) rfl)
end Go.Eng
end
