/-
  A part of the proof: K_symB.
-/
import Derived.Test.YtikbgnmcfncnaaaE4
import Derived.Test.YtikbgnmcfncnaaaE5
set_option linter.unusedVariables false
set_option linter.unusedSimpArgs false
noncomputable section
namespace Go.Eng
section
open Go Go.Eng Go.Proofs
def PH:List U->List (List U):=fun us=>((aL us 0))
def Lw:List U->Prop:=fun us=>False
def PW:AV:={ sh:=[.one (k64),.one (k64),.one (k64),.cst (.fn (.func 101) [] [])],blks:=[],outs:=[(.s "symB.0",Eg PH)],c:= .tup [],m':=[.mrow 5 1 [k64,k64,k64,.bool,.str,.str,.bool,k64,k64] 38],pre:=[(.s "symB.p0",Lw)],row:=some ([k64,k64,k64,.bool,.str,.str,.bool,k64,k64],38) }
theorem fe:Ae Try.prog 145 PW:=by
 refine⟨fun _=>Oj,fun T us _ _ _ hp=>?_⟩;exact (hp (.s "symB.p0",Lw) (by simp[PW])).elim
end
end Go.Eng
end
