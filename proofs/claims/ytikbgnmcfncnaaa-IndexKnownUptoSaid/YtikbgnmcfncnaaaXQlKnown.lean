/-
  A part of the proof: plain laws.
-/
import Derived.Test.YtikbgnmcfncnaaaE4
set_option linter.unusedVariables false
set_option linter.unusedSimpArgs false
noncomputable section
namespace Go.Eng
def jR (a b:Int):Int:=min (max (a - b) 0) 40
end Go.Eng
end
