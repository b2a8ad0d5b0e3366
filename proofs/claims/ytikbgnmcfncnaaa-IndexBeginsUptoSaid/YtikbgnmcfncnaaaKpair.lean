/-
  A part of the proof: K_paird K_pair.
-/
import Derived.Test.YtikbgnmcfncnaaaE4
import Derived.Test.YtikbgnmcfncnaaaE5
import Derived.Test.YtikbgnmcfncnaaaKvplayer
set_option linter.unusedVariables false
set_option linter.unusedSimpArgs false
noncomputable section
namespace Go.Eng
section
open Go Go.Eng Go.Proofs
set_option maxHeartbeats 4000000
set_option maxRecDepth 100000
def L0:List U->Int:=fun us=>(Am (aS us 0) (aI us 1) (aI us 2) (aS us 3) (aI us 4) (aI us 5))
def M6:AV:={ sh:=[.agg [.str,k64,k64],.agg [.str,k64,k64]],blks:=[],outs:=[(.s "pair.0",Bl L0)],c:=(C4 6),m':=[],pre:=[] }
def YI:List En:=[⟨6,.outB "vplayer.0" EX,[.e 0,.e 1,.e 2]⟩,
 ⟨7,.id .b,[.e 6]⟩,
 ⟨8,.outB "vplayer.0" EX,[.e 3,.e 4,.e 5]⟩,
 ⟨9,.or,[.n 6,.n 8]⟩,
 ⟨10,.not,[.e 9]⟩,
 ⟨11,.eqs [.s],[.e 0,.e 3]⟩,
 ⟨12,.and,[.e 10,.e 11]⟩,
 ⟨13,.and,[.e 10,.n 11]⟩,
 ⟨14,.ite .i,[.e 9,.c (.int 2),.c (.int 12)]⟩,
 ⟨15,.or,[.e 9,.e 12]⟩,
 ⟨16,.ite .i,[.e 15,.e 14,.c (.int 0)]⟩,
 ⟨17,.or,[.e 15,.e 13]⟩]
def Ue:List En:=YI
def hP:List ObE:=[]
def Zl:List Rf:=[.e 16]
theorem gt:M6.sees Zl (M6.run Try.prog [(82,Ev)] AW 3000 20 57)=some ((Ue).map En.be,hP.map ObE.be,[]):=by kernel_rfl
theorem hG {T:Tab}(hz0:(S T 0).size<=140737488355328)(hz3:(S T 3).size<=140737488355328)(A0:AH T Ue):
  ((I T 16)=(Am (S T 0) (I T 1) (I T 2) (S T 3) (I T 4) (I T 5))):=by
 have F0:=A0;clear A0
 .obtain⟨e6,-,e8,e9,e10,e11,e12,-,e14,e15,e16,-⟩:=F0;replace e6:B T 6=(DC (S T 0) (I T 1) (I T 2)):=e6;replace e8:B T 8=(DC (S T 3) (I T 4) (I T 5)):=e8;simp only[AI,AP,zN,zR,EN,and_true,zL,zS] at e9 e10 e11 e12 e14 e15 e16;unfold Am;rw[<-e6,<-e8];clear e6 e8;grind
theorem gE:Ae Try.prog 57 M6:=by
 refine BH (l:=[(82,Ev)]) Bh (by simp only[List.forall_mem_cons];exact⟨QA,fun _ h=>absurd h (by simp)⟩) gt (by kernel_rfl) fun T us hpre hT hul hS hBd hE=>?_;change us.length=6 at hul;obtain⟨hz0,-,-,hz3,-⟩:=hBd;replace hz0:(S T 0).size<=140737488355328:=hz0;replace hz3:(S T 3).size<=140737488355328:=hz3;have ha0:aS us 0=S T 0:=inS hT hul (by decide);have ha1:aI us 1=I T 1:=inI hT hul (by decide);have ha2:aI us 2=I T 2:=inI hT hul (by decide);have ha3:aS us 3=S T 3:=inS hT hul (by decide);have ha4:aI us 4=I T 4:=inI hT hul (by decide);have ha5:aI us 5=I T 5:=inI hT hul (by decide);clear hpre
 skip
 obtain⟨A0,hO⟩:=BG (tys:=[.i]) (rs:=Zl) hS (by kernel_rfl) hE;have q0:=hG hz0 hz3 A0;refine⟨trivial,hO.trans ?_⟩;exact (lc (by show U.int (I T 16)= .int (L0 us);unfold L0;rw[ha0,ha1,ha2,ha3,ha4,ha5];exact congrArg U.int q0) rfl)
end
end Go.Eng
end
