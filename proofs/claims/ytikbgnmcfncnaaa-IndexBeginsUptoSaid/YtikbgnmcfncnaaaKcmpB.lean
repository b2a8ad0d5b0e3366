/-
  A part of the proof: K_cmpBd K_cmpB.
-/
import Derived.Test.YtikbgnmcfncnaaaE4
import Derived.Test.YtikbgnmcfncnaaaE5
import Derived.Test.YtikbgnmcfncnaaaKcmpI
set_option linter.unusedVariables false
set_option linter.unusedSimpArgs false
noncomputable section
namespace Go.Eng
section
open Go Go.Eng Go.Proofs
set_option maxHeartbeats 4000000
set_option maxRecDepth 100000
def Lt:List U->Int:=fun us=>(if Ba (aI us 2) (aI us 11)=0 then Ba (aI us 0) (aI us 9) else Ba (aI us 2) (aI us 11))
def My:AV:={ sh:=[.agg [k64,k64,k64,.bool,.str,.str,.bool,k64,k64],.agg [k64,k64,k64,.bool,.str,.str,.bool,k64,k64]],blks:=[],outs:=[(.s "cmpB.0",Bl Lt)],c:=(C4 18),m':=[],pre:=[] }
def YK:List En:=[⟨18,.outI "cmpI.0" JC,[.e 2,.e 11]⟩,
 ⟨19,.outI "cmpI.0" JC,[.e 0,.e 9]⟩,
 ⟨20,.ne,[.e 18,.c (.int 0)]⟩,
 ⟨21,.not,[.e 20]⟩,
 ⟨22,.ne,[.e 19,.c (.int 0)]⟩,
 ⟨23,.and,[.e 21,.e 22]⟩,
 ⟨24,.and,[.e 21,.n 22]⟩,
 ⟨25,.ite .i,[.e 20,.e 18,.e 19]⟩,
 ⟨26,.ite .i,[.e 20,.e 18,.e 19]⟩,
 ⟨27,.ite .i,[.e 20,.c (.int 0),.c (.int 1)]⟩,
 ⟨28,.ite .b,[.e 20,.e 20,.e 22]⟩,
 ⟨29,.or,[.e 20,.e 23]⟩,
 ⟨30,.ite .i,[.e 29,.e 25,.e 19]⟩,
 ⟨31,.ite .b,[.e 29,.c (.bool true),.c (.bool false)]⟩,
 ⟨32,.ite .i,[.e 29,.e 26,.c (.int 0)]⟩,
 ⟨33,.ite .i,[.e 29,.e 27,.c (.int 2)]⟩]
def Yw:List En:=[⟨34,.ite .b,[.e 29,.e 28,.e 22]⟩,
 ⟨35,.or,[.e 29,.e 24]⟩]
def VY:List En:=YK++(Yw)
def iX:List ObE:=[]
def Zr:List Rf:=[.e 32]
theorem gf:My.sees Zr (My.run Try.prog [(103,Ma)] AW 3000 20 101)=some ((VY).map En.be,iX.map ObE.be,[]):=by kernel_rfl
theorem gw {T:Tab}(hz4:(S T 4).size<=140737488355328)(hz5:(S T 5).size<=140737488355328)(hz13:(S T 13).size<=140737488355328)(hz14:(S T 14).size<=140737488355328)(A0:AH T VY):
  ((I T 32)=(if Ba (I T 2) (I T 11)=0 then Ba (I T 0) (I T 9) else Ba (I T 2) (I T 11))):=by
 obtain⟨F0,A0⟩:=A0.cut;have F1:=A0;clear A0
 .obtain⟨e18,e19,e20,e21,e22,e23,-,-,e26,-,-,e29,-,-,e32,-⟩:=F0;replace e18:I T 18=(Ba (I T 2) (I T 11)):=e18;replace e19:I T 19=(Ba (I T 0) (I T 9)):=e19;simp only[AI,AP,zR,zL,zS] at e20 e21 e22 e23 e26 e29 e32;rw[e32,e26,<-e18,<-e19];by_cases h1:(I T 18)=0
  .have h2:¬B T 20=true:=fun a=>(e20.1 a) h1;rw[if_pos h1,if_neg h2];by_cases h3:(I T 19)=0
   .rw[h3];split<;>rfl
   .rw[if_pos (e29.2 (.inr (e23.2 ⟨e21.2 h2,e22.2 h3⟩)))]
  .rw[if_neg h1,if_pos (e20.2 h1),if_pos (e29.2 (.inl (e20.2 h1)))]
theorem fS:Ae Try.prog 101 My:=by
 refine BH (l:=[(103,Ma)]) Bh (by simp only[List.forall_mem_cons];exact⟨gZ,fun _ h=>absurd h (by simp)⟩) gf (by kernel_rfl) fun T us hpre hT hul hS hBd hE=>?_;change us.length=18 at hul;obtain⟨-,-,-,hz4,hz5,-,-,-,-,-,hz13,hz14,-⟩:=hBd;replace hz4:(S T 4).size<=140737488355328:=hz4;replace hz5:(S T 5).size<=140737488355328:=hz5;replace hz13:(S T 13).size<=140737488355328:=hz13;replace hz14:(S T 14).size<=140737488355328:=hz14;have ha0:aI us 0=I T 0:=inI hT hul (by decide);have ha2:aI us 2=I T 2:=inI hT hul (by decide);have ha9:aI us 9=I T 9:=inI hT hul (by decide);have ha11:aI us 11=I T 11:=inI hT hul (by decide);clear hpre
 skip
 obtain⟨A0,hO⟩:=BG (tys:=[.i]) (rs:=Zr) hS (by kernel_rfl) hE;have q0:=gw hz4 hz5 hz13 hz14 A0;refine⟨trivial,hO.trans ?_⟩;exact (lc (by show U.int (I T 32)= .int (Lt us);unfold Lt;rw[ha0,ha11,ha2,ha9];exact congrArg U.int q0) rfl)
end
end Go.Eng
end
