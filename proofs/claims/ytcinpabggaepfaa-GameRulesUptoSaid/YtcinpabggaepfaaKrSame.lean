/-
  A part of the proof: K_rSamed K_rSame.
-/
import Derived.Test.YtcinpabggaepfaaXQlRules
import Derived.Test.YtcinpabggaepfaaE3
import Derived.Test.YtcinpabggaepfaaE4
set_option linter.unusedVariables false
set_option linter.unusedSimpArgs false
noncomputable section
open Go Go.Eng Go.Proofs
set_option maxHeartbeats 4000000
set_option maxRecDepth 100000
namespace Go.Eng
def sY:List U→Bool:=fun us=>(decide ((aI us 0)=(aI us 4))&&decide ((aI us 1)=(aI us 5))&&((aB us 2)==(aB us 6)))
def s6:Bc:={ sh:=[.agg [k64,k64,.bool,.list [k64,k64]],.agg [k64,k64,.bool,.list [k64,k64]]],blks:=[],outs:=[(.s "rSame.0",AQ sY)],c:= .b 8,m':=[],pre:=[] }
def uN:List En:=[⟨8,.eq,[.e 0,.e 4]⟩,
 ⟨9,.id .b,[.e 8]⟩,
 ⟨10,.eq,[.e 1,.e 5]⟩,
 ⟨11,.and,[.e 8,.e 10]⟩,
 ⟨12,.id .b,[.e 11]⟩,
 ⟨13,.eqb,[.e 2,.e 6]⟩,
 ⟨14,.and,[.e 11,.e 13]⟩]
def tW:List En:=uN
def vl:List ObE:=[]
def uh:List Rf:=[.e 14]
theorem vo:s6.sees uh (s6.run Try.prog [] Ba 3000 20 30)=some ((tW).map En.be,vl.map ObE.be,[]):=by kernel_rfl
theorem vh {T:Tab}(hl3:(L T 3).length≤140737488355328)(hl7:(L T 7).length≤140737488355328)(A0:AK T tW):
  ((B T 14)=(decide ((I T 0)=I T 4)&&decide ((I T 1)=I T 5)&&((B T 2)==B T 6))):=by
 have F0:=A0;clear A0
 ·obtain⟨e8,-,e10,e11,-,e13,e14,-⟩:=F0
  simp only[AA,AD,zR] at*
  refine AU ?_
  constructor<;>grind (splits:=100)
theorem vW:CA Try.prog 30 s6:=by
 refine Bu (l:=[]) C6 (by intro p h;exact absurd h (by simp)) vo (by kernel_rfl) fun T us hpre hT hul hS hBd hE=>?_
 change us.length=8 at hul
 obtain⟨-,-,⟨hl3,he3⟩,-,-,⟨hl7,he7⟩,-⟩:=hBd
 replace hl3:(L T 3).length≤140737488355328:=hl3
 replace hl7:(L T 7).length≤140737488355328:=hl7
 have ha0:aI us 0=I T 0:=inI hT hul (by decide)
 have ha1:aI us 1=I T 1:=inI hT hul (by decide)
 have ha2:aB us 2=B T 2:=inB hT hul (by decide)
 have ha4:aI us 4=I T 4:=inI hT hul (by decide)
 have ha5:aI us 5=I T 5:=inI hT hul (by decide)
 have ha6:aB us 6=B T 6:=inB hT hul (by decide)
 clear hpre
 skip
 obtain⟨A0,hO⟩:=CK (tys:=[.b]) (rs:=uh) hS (by kernel_rfl) hE
 have q0:=vh hl3 hl7 A0
 refine⟨trivial,hO.trans ?_⟩
 exact (lc (by show U.bool (B T 14)= .bool (sY us);unfold sY;rw[ha0,ha1,ha2,ha4,ha5,ha6];exact congrArg U.bool q0) rfl)
end Go.Eng
end
