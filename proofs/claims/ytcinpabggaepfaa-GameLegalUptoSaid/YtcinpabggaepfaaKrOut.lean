/-
  A part of the proof: K_rOutd K_rOut.
-/
import Derived.Test.YtcinpabggaepfaaXQlLegal
import Derived.Test.YtcinpabggaepfaaE3
import Derived.Test.YtcinpabggaepfaaE4
set_option linter.unusedVariables false
set_option linter.unusedSimpArgs false
noncomputable section
open Go Go.Eng Go.Proofs
set_option maxHeartbeats 4000000
set_option maxRecDepth 100000
namespace Go.Eng
def qA:List U→Bool:=fun us=>(decide (AJ (gAt 0 us) (aI us 26)=13))
def pu:List U→Prop:=fun us=>0≤(aI us 26)∧(aI us 26)≤3
def qD:Bc:={ sh:=[.agg [k64,k64,k64,k64,k64,k64,k64,k64,k64,.bool,.bool,.bool,.bool,.bool,.bool,.bool,.bool,k64,k64,.bool,.bool,.bool,k64,k64,k64,k64],.one (k64)],blks:=[],outs:=[(.s "rOut.0",AQ qA)],c:= .b 27,m':=[],pre:=[(.s "rOut.p0",pu)] }
def qx:List En:=[⟨27,.pick .i,[.e 26,.e 5,.e 6,.e 7,.e 8]⟩,
 ⟨28,.eq,[.e 27,.c (.int 13)]⟩]
def qe:List En:=qx
def rJ:List ObE:=[⟨none,.inr,[.e 26,.c (.int 4)]⟩]
def rC:List Rf:=[.e 28]
theorem rI:qD.sees rC (qD.run Try.prog [] Ba 3000 20 24)=some ((qe).map En.be,rJ.map ObE.be,[]):=by kernel_rfl
theorem rK {T:Tab}(g:Gm)(hg:g=gT T 0)(pre0:0≤I T 26∧I T 26≤3)(A0:AK T qe):
  ((B T 28)=(decide (AJ g (I T 26)=13)))∧
  (0≤I T 26∧I T 26 < 4):=by
 have F0:=A0;clear A0
 refine⟨?_,?_⟩
 ·obtain⟨e27,e28,-⟩:=F0
  simp only[AA,AD,zR,AN,AM,and_false,or_false] at e27 e28
  subst hg
  refine AU ?_
  (try simp only[AJ,AS,zB])<;>(try constructor)<;>grind (splits:=100)
 ·first|(subst hg;rfl)|(subst hg;grind (splits:=100))
theorem rG:CA Try.prog 24 qD:=by
 refine Bu (l:=[]) C6 (by intro p h;exact absurd h (by simp)) rI (by kernel_rfl) fun T us hpre hT hul hS hBd hE=>?_
 change us.length=27 at hul
 clear hBd
 obtain⟨g,hg⟩:∃g:Gm,g=gT T 0:=⟨_,rfl⟩
 have hgu:gAt 0 us=g:=by rw[hg];exact DV hT hul (by decide)
 have ha26:aI us 26=I T 26:=inI hT hul (by decide)
 have pre0:0≤I T 26∧I T 26≤3:=by
  have h:=hpre (.s "rOut.p0",pu) (by simp[qD])
  change pu us at h
  unfold pu at h
  simp only[ha26] at h
  exact h
 clear hpre
 skip
 obtain⟨A0,hO⟩:=CK (tys:=[.b]) (rs:=rC) hS (by kernel_rfl) hE
 obtain⟨q0,r0⟩:=rK g hg pre0 A0
 refine⟨⟨(fun _=>r0),trivial⟩,hO.trans ?_⟩
 exact (lc (by show U.bool (B T 28)= .bool (qA us);unfold qA;rw[hgu,ha26];exact congrArg U.bool q0) rfl)
end Go.Eng
end
