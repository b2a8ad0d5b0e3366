/-
  A part of the proof: K_cmpId K_cmpI.
-/
import Derived.Test.YtikbgnmcfncnaaaE4
import Derived.Test.YtikbgnmcfncnaaaE5
set_option linter.unusedVariables false
set_option linter.unusedSimpArgs false
noncomputable section
open Go Go.Eng Go.Proofs
set_option maxHeartbeats 4000000
set_option maxRecDepth 100000
namespace Go.Eng
def JT:List U→Int:=fun us=>(BZ (aI us 0) (aI us 1))
def Nd:AV:={ sh:=[.one (k64),.one (k64)],blks:=[],outs:=[(.s "cmpI.0",Bl JT)],c:=(C2 2),m':=[],pre:=[] }
def YD:List En:=[⟨2,.lt,[.e 0,.e 1]⟩,
 ⟨3,.not,[.e 2]⟩,
 ⟨4,.lt,[.e 1,.e 0]⟩,
 ⟨5,.and,[.e 3,.e 4]⟩,
 ⟨6,.and,[.e 3,.n 4]⟩,
 ⟨7,.ite .i,[.e 5,.c (.int 1),.c (.int 0)]⟩,
 ⟨8,.or,[.e 5,.e 6]⟩,
 ⟨9,.ite .i,[.e 2,.c (.int (-1)),.e 7]⟩,
 ⟨10,.or,[.e 2,.e 8]⟩]
def Us:List En:=YD
def gj:List ObE:=[]
def Zg:List Rf:=[.e 9]
theorem iO:Nd.sees Zg (Nd.run Try.prog [] AW 3000 20 103)=some ((Us).map En.be,gj.map ObE.be,[]):=by kernel_rfl
theorem iU {T:Tab}(A0:AH T Us):
  ((I T 9)=(BZ (I T 0) (I T 1))):=by
 have F0:=A0;clear A0
 ·obtain⟨e2,e3,e4,e5,-,e7,-,e9,-⟩:=F0
  simp only[AI,AP,zR,zL,zS] at e2 e3 e4 e5 e7 e9
  unfold BZ
  rw[e9,e7]
  by_cases h1:(I T 0) < I T 1
  ·rw[if_pos (e2.2 h1),if_pos h1]
  ·have h2:¬B T 2=true:=fun a=>h1 (e2.1 a)
   rw[if_neg h2,if_neg h1]
   by_cases h3:(I T 1) < I T 0
   ·rw[if_pos (e5.2 ⟨e3.2 h2,e4.2 h3⟩),if_pos h3]
   ·rw[if_neg (fun a=>h3 (e4.1 (e5.1 a).2)),if_neg h3]
theorem fL:Ae Try.prog 103 Nd:=by
 refine BH (l:=[]) Bh (by intro p h;exact absurd h (by simp)) iO (by kernel_rfl) fun T us hpre hT hul hS hBd hE=>?_
 change us.length=2 at hul
 clear hBd
 have ha0:aI us 0=I T 0:=inI hT hul (by decide)
 have ha1:aI us 1=I T 1:=inI hT hul (by decide)
 clear hpre
 skip
 obtain⟨A0,hO⟩:=BG (tys:=[.i]) (rs:=Zg) hS (by kernel_rfl) hE
 have q0:=iU A0
 refine⟨trivial,hO.trans ?_⟩
 exact (lc (by show U.int (I T 9)= .int (JT us);unfold JT;rw[ha0,ha1];exact congrArg U.int q0) rfl)
end Go.Eng
end
