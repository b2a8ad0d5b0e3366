/-
  A part of the proof: plain laws.
-/
import Derived.Test.YtmlmcidljiibaaaE3
set_option linter.unusedVariables false
set_option linter.unusedSimpArgs false
noncomputable section
namespace Go.Eng
def fR (l:Ln)(h r:Int):Int:=if¬AT l=0 then AT l else if h < 0∨l.hoops.length≤h∨¬Bx r=true then 3 else 0
def fS (l:Ln)(h r:Int):Bool:=decide (fR l h r=0)&&decide (2*r≤AA l.hoops h.toNat 2)
end Go.Eng
end
