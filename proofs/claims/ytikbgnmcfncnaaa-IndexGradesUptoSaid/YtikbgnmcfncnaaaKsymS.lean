/-
  A part of the proof: K_symS.
-/
import Derived.Test.YtikbgnmcfncnaaaE4
import Derived.Test.YtikbgnmcfncnaaaE6
set_option linter.unusedVariables false
set_option linter.unusedSimpArgs false
noncomputable section
open Go Go.Eng Go.Proofs
namespace Go.Eng
def PE:List U→List (List U):=fun us=>((aL us 0))
def La:List U→Prop:=fun us=>False
def QE:AV:={ sh:=[.one (k64),.one (k64),.one (k64),.cst (.fn (.func 72) [] [])],blks:=[],outs:=[(.s "symS.0",Eh PE)],c:= .tup [],m':=[.mrow 5 1 [.str,k64,k64,k64,k64,k64] 61],pre:=[(.s "symS.p0",La)],row:=some ([.str,k64,k64,k64,k64,k64],61) }
theorem fc:Ai Try.prog 139 QE:=by
 refine⟨fun _=>O9,fun T us _ _ _ hp=>?_⟩
 exact (hp (.s "symS.p0",La) (by simp[QE])).elim
end Go.Eng
end
