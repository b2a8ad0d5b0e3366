/-
  A part of the proof: K_symB.
-/
import Derived.Test.YtikbgnmcfncnaaaE4
import Derived.Test.YtikbgnmcfncnaaaE5
set_option linter.unusedVariables false
set_option linter.unusedSimpArgs false
noncomputable section
open Go Go.Eng Go.Proofs
namespace Go.Eng
def Ol:List U→List (List U):=fun us=>((aL us 0))
def Lp:List U→Prop:=fun us=>False
def Ps:AV:={ sh:=[.one (k64),.one (k64),.one (k64),.cst (.fn (.func 101) [] [])],blks:=[],outs:=[(.s "symB.0",Eg Ol)],c:= .tup [],m':=[.mrow 5 1 [k64,k64,k64,.bool,.str,.str,.bool,k64,k64] 38],pre:=[(.s "symB.p0",Lp)],row:=some ([k64,k64,k64,.bool,.str,.str,.bool,k64,k64],38) }
theorem fb:Ae Try.prog 145 Ps:=by
 refine⟨fun _=>PF,fun T us _ _ _ hp=>?_⟩
 exact (hp (.s "symB.p0",Lp) (by simp[Ps])).elim
end Go.Eng
end
