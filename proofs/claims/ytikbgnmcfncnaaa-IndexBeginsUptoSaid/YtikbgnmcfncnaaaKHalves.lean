/-
  A part of the proof: K_Halvesd K_Halves.
-/
import Derived.Test.YtikbgnmcfncnaaaXQlBegins
import Derived.Test.YtikbgnmcfncnaaaE4
import Derived.Test.YtikbgnmcfncnaaaE5
import Derived.Test.YtikbgnmcfncnaaaKpair
set_option linter.unusedVariables false
set_option linter.unusedSimpArgs false
noncomputable section
namespace Go.Eng
section
open Go Go.Eng Go.Proofs
set_option maxHeartbeats 4000000
set_option maxRecDepth 100000
def jh:List U->Int:=fun us=>(if Am (aS us 0) (aI us 1) (aI us 2) (aS us 3) (aI us 4) (aI us 5)=0 then jJ (aI us 2) (aI us 5) else 0)
def jl:List U->Int:=fun us=>(if Am (aS us 0) (aI us 1) (aI us 2) (aS us 3) (aI us 4) (aI us 5)=0 then jJ (aI us 5) (aI us 2) else 0)
def ji:List U->Int:=fun us=>(Am (aS us 0) (aI us 1) (aI us 2) (aS us 3) (aI us 4) (aI us 5))
def jZ:AV:={ sh:=[.agg [.str,k64,k64],.agg [.str,k64,k64]],blks:=[],outs:=[(.s "Halves.0",Bl jh),(.s "Halves.1",Bl jl),(.s "Halves.2",Bl ji)],c:= .tup [.agg [(C4 6),(C4 7)],(C4 8)],m':=[],pre:=[] }
def nL:List En:=[⟨6,.outI "pair.0" L0,[.e 0,.e 1,.e 2,.e 3,.e 4,.e 5]⟩,
 ⟨7,.ne,[.e 6,.c (.int 0)]⟩,
 ⟨8,.not,[.e 7]⟩,
 ⟨9,.w2 .i64 .sub,[.e 2,.e 5]⟩,
 ⟨10,.o2 .max,[.e 9,.c (.int 0)]⟩,
 ⟨11,.o2 .min,[.e 10,.c (.int 40)]⟩,
 ⟨12,.wneg .i64,[.e 9]⟩,
 ⟨13,.o2 .max,[.e 12,.c (.int 0)]⟩,
 ⟨14,.o2 .min,[.e 13,.c (.int 40)]⟩,
 ⟨15,.ite .i,[.e 7,.c (.int 0),.e 11]⟩,
 ⟨16,.ite .i,[.e 7,.c (.int 0),.e 14]⟩,
 ⟨17,.ite .i,[.e 7,.e 6,.c (.int 0)]⟩,
 ⟨18,.or,[.e 7,.e 8]⟩]
def mY:List En:=nL
def pB:List ObE:=[]
def nW:List Rf:=[.e 15,.e 16,.e 17]
theorem pE:jZ.sees nW (jZ.run Try.prog [(57,M6)] AW 3000 20 28)=some ((mY).map En.be,pB.map ObE.be,[]):=by kernel_rfl
theorem pQ {T:Tab}(hz0:(S T 0).size<=140737488355328)(hz3:(S T 3).size<=140737488355328)(A0:AH T mY):
  ((I T 15)=(if Am (S T 0) (I T 1) (I T 2) (S T 3) (I T 4) (I T 5)=0 then jJ (I T 2) (I T 5) else 0))/\
  ((I T 16)=(if Am (S T 0) (I T 1) (I T 2) (S T 3) (I T 4) (I T 5)=0 then jJ (I T 5) (I T 2) else 0))/\
  ((I T 17)=(Am (S T 0) (I T 1) (I T 2) (S T 3) (I T 4) (I T 5))):=by
 have F0:=A0;clear A0;refine⟨?_,?_,?_⟩
 .obtain⟨e6,e7,-,e9,e10,e11,-,-,-,e15,-⟩:=F0;replace e6:I T 6=(Am (S T 0) (I T 1) (I T 2) (S T 3) (I T 4) (I T 5)):=e6;simp only[AI,AP,zR,LW,w2P,zL,zS] at e7 e9 e10 e11 e15;by_cases h:(I T 6)=0
  .have h8:¬B T 7=true:=fun a=>(e7.1 a) h;obtain⟨q1,q2,q3⟩:=JA (e6.symm.trans h);rw[Ea] at q1 q2;rw[e15,if_neg h8,<-e6,if_pos h];unfold jJ;have x9:=e9 (by omega) (by omega);rw[e11,e10];omega
  .rw[e15,if_pos (e7.2 h),<-e6,if_neg h]
 .obtain⟨e6,e7,-,e9,-,-,e12,e13,e14,-,e16,-⟩:=F0;replace e6:I T 6=(Am (S T 0) (I T 1) (I T 2) (S T 3) (I T 4) (I T 5)):=e6;simp only[AI,AP,zR,LW,w2P,wnP,zL,zS] at e7 e9 e12 e13 e14 e16;by_cases h:(I T 6)=0
  .have h8:¬B T 7=true:=fun a=>(e7.1 a) h;obtain⟨q1,q2,q3⟩:=JA (e6.symm.trans h);rw[Ea] at q1 q2;rw[e16,if_neg h8,<-e6,if_pos h];unfold jJ;have x9:=e9 (by omega) (by omega);have x12:=e12.1 (by omega) (by omega);rw[e14,e13];omega
  .rw[e16,if_pos (e7.2 h),<-e6,if_neg h]
 .obtain⟨e6,e7,-,-,-,-,-,-,-,-,-,e17,-⟩:=F0;replace e6:I T 6=(Am (S T 0) (I T 1) (I T 2) (S T 3) (I T 4) (I T 5)):=e6;simp only[AI,AP,zR,zL,zS] at e7 e17;rw[e17,<-e6];split
  .rfl
  .rename_i h8;by_cases h:(I T 6)=0
   .exact h.symm
   .exact absurd (e7.2 h) h8
theorem mg:Ae Try.prog 28 jZ:=by
 refine BH (l:=[(57,M6)]) Bh (by simp only[List.forall_mem_cons];exact⟨gE,fun _ h=>absurd h (by simp)⟩) pE (by kernel_rfl) fun T us hpre hT hul hS hBd hE=>?_;change us.length=6 at hul;obtain⟨hz0,-,-,hz3,-⟩:=hBd;replace hz0:(S T 0).size<=140737488355328:=hz0;replace hz3:(S T 3).size<=140737488355328:=hz3;have ha0:aS us 0=S T 0:=inS hT hul (by decide);have ha1:aI us 1=I T 1:=inI hT hul (by decide);have ha2:aI us 2=I T 2:=inI hT hul (by decide);have ha3:aS us 3=S T 3:=inS hT hul (by decide);have ha4:aI us 4=I T 4:=inI hT hul (by decide);have ha5:aI us 5=I T 5:=inI hT hul (by decide);clear hpre
 skip
 obtain⟨A0,hO⟩:=BG (tys:=[.i,.i,.i]) (rs:=nW) hS (by kernel_rfl) hE;obtain⟨q0,q1,q2⟩:=pQ hz0 hz3 A0;refine⟨trivial,hO.trans ?_⟩;exact (lc (by show U.int (I T 15)= .int (jh us);unfold jh;rw[ha0,ha1,ha2,ha3,ha4,ha5];exact congrArg U.int q0) (lc (by show U.int (I T 16)= .int (jl us);unfold jl;rw[ha0,ha1,ha2,ha3,ha4,ha5];exact congrArg U.int q1) (lc (by show U.int (I T 17)= .int (ji us);unfold ji;rw[ha0,ha1,ha2,ha3,ha4,ha5];exact congrArg U.int q2) rfl)))
end
end Go.Eng
end
