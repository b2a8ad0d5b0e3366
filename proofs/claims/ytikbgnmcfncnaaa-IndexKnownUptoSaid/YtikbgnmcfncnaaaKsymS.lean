/-
  A part of the proof: K_symS.
-/
import Derived.Test.YtikbgnmcfncnaaaE4
import Derived.Test.YtikbgnmcfncnaaaE5
set_option linter.unusedVariables false
set_option linter.unusedSimpArgs false
noncomputable section
open Go Go.Eng Go.Proofs
namespace Go.Eng
def O7:List U→List (List U):=fun us=>((aL us 0))
def L9:List U→Prop:=fun us=>False
def PZ:AV:={ sh:=[.one (k64),.one (k64),.one (k64),.cst (.fn (.func 72) [] [])],blks:=[],outs:=[(.s "symS.0",Eg O7)],c:= .tup [],m':=[.mrow 5 1 [.str,k64,k64,k64,k64,k64] 61],pre:=[(.s "symS.p0",L9)],row:=some ([.str,k64,k64,k64,k64,k64],61) }
theorem fw:Ae Try.prog 139 PZ:=by
 refine⟨fun _=>PF,fun T us _ _ _ hp=>?_⟩
 exact (hp (.s "symS.p0",L9) (by simp[PZ])).elim
end Go.Eng
end
