/-
  A part of the proof: K_cmpId K_cmpI.
-/
import Derived.Test.YtikbgnmcfncnaaaE4
import Derived.Test.YtikbgnmcfncnaaaE5
set_option linter.unusedVariables false
set_option linter.unusedSimpArgs false
noncomputable section
namespace Go.Eng
section
open Go Go.Eng Go.Proofs
set_option maxHeartbeats 4000000
set_option maxRecDepth 100000
def JC:List U->Int:=fun us=>(Ba (aI us 0) (aI us 1))
def Ma:AV:={ sh:=[.one (k64),.one (k64)],blks:=[],outs:=[(.s "cmpI.0",Bl JC)],c:=(C4 2),m':=[],pre:=[] }
def Yi:List En:=[⟨2,.lt,[.e 0,.e 1]⟩,
 ⟨3,.not,[.e 2]⟩,
 ⟨4,.lt,[.e 1,.e 0]⟩,
 ⟨5,.and,[.e 3,.e 4]⟩,
 ⟨6,.and,[.e 3,.n 4]⟩,
 ⟨7,.ite .i,[.e 5,.c (.int 1),.c (.int 0)]⟩,
 ⟨8,.or,[.e 5,.e 6]⟩,
 ⟨9,.ite .i,[.e 2,.c (.int (-1)),.e 7]⟩,
 ⟨10,.or,[.e 2,.e 8]⟩]
def VX:List En:=Yi
def hZ:List ObE:=[]
def bd:List Rf:=[.e 9]
theorem iD:Ma.sees bd (Ma.run Try.prog [] AW 3000 20 103)=some ((VX).map En.be,hZ.map ObE.be,[]):=by kernel_rfl
theorem iN {T:Tab}(A0:AH T VX):
  ((I T 9)=(Ba (I T 0) (I T 1))):=by
 have F0:=A0;clear A0
 .obtain⟨e2,e3,e4,e5,-,e7,-,e9,-⟩:=F0;simp only[AI,AP,zR,zL,zS] at e2 e3 e4 e5 e7 e9;unfold Ba;rw[e9,e7];by_cases h1:(I T 0) < I T 1
  .rw[if_pos (e2.2 h1),if_pos h1]
  .have h2:¬B T 2=true:=fun a=>h1 (e2.1 a);rw[if_neg h2,if_neg h1];by_cases h3:(I T 1) < I T 0
   .rw[if_pos (e5.2 ⟨e3.2 h2,e4.2 h3⟩),if_pos h3]
   .rw[if_neg (fun a=>h3 (e4.1 (e5.1 a).2)),if_neg h3]
theorem gZ:Ae Try.prog 103 Ma:=by
 refine BH (l:=[]) Bh (by intro p h;exact absurd h (by simp)) iD (by kernel_rfl) fun T us hpre hT hul hS hBd hE=>?_;change us.length=2 at hul;clear hBd;have ha0:aI us 0=I T 0:=inI hT hul (by decide);have ha1:aI us 1=I T 1:=inI hT hul (by decide);clear hpre
 skip
 obtain⟨A0,hO⟩:=BG (tys:=[.i]) (rs:=bd) hS (by kernel_rfl) hE;have q0:=iN A0;refine⟨trivial,hO.trans ?_⟩;exact (lc (by show U.int (I T 9)= .int (JC us);unfold JC;rw[ha0,ha1];exact congrArg U.int q0) rfl)
end
end Go.Eng
end
