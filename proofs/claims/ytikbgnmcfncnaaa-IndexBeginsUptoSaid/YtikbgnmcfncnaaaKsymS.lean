/-
  A part of the proof: K_symS.
-/
import Derived.Test.YtikbgnmcfncnaaaE4
import Derived.Test.YtikbgnmcfncnaaaE5
set_option linter.unusedVariables false
set_option linter.unusedSimpArgs false
noncomputable section
namespace Go.Eng
section
open Go Go.Eng Go.Proofs
def Oy:List U->List (List U):=fun us=>((aL us 0))
def Ly:List U->Prop:=fun us=>False
def Pn:AV:={ sh:=[.one (k64),.one (k64),.one (k64),.cst (.fn (.func 72) [] [])],blks:=[],outs:=[(.s "symS.0",Eg Oy)],c:= .tup [],m':=[.mrow 5 1 [.str,k64,k64,k64,k64,k64] 61],pre:=[(.s "symS.p0",Ly)],row:=some ([.str,k64,k64,k64,k64,k64],61) }
theorem fZ:Ae Try.prog 139 Pn:=by
 refine⟨fun _=>Oj,fun T us _ _ _ hp=>?_⟩;exact (hp (.s "symS.p0",Ly) (by simp[Pn])).elim
end
end Go.Eng
end
