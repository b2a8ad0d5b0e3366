/-
  A part of the proof: K_checkPk.
-/
import Derived.Test.YtikbgnmcfncnaaaKcheckP
import Derived.Test.YtikbgnmcfncnaaaE4
set_option linter.unusedVariables false
set_option linter.unusedSimpArgs false
noncomputable section
namespace Go.Eng
section
open Go Go.Eng Go.Proofs
def OO:List U->Int:=fun us=>(Bj (aL us 0))
def OG:List U->Prop:=fun us=>Bj (aL us 0)=0
def NL:AV:={ sh:=I8.sh,blks:=[],outs:=[(.s "checkPk.0",Bl OO)],c:= .ci .i64 0,m':=[],pre:=[(.s "checkPk.p0",OG)] }
theorem Xg:Ae Try.prog 41 NL:=Ru aO rfl rfl rfl rfl rfl (fun _=>rfl) rfl rfl fun us hul hp=>by
 have h0:=hp _ (List.mem_singleton.2 rfl);replace h0:Bj (aL us 0)=0:=h0;have hul:us.length=1:=hul
 match us,hul,h0 with
 |[u],_,h0=>exact⟨congrArg (fun z=>some (U.int z)) h0,fun q hq=>by cases hq⟩
end
end Go.Eng
end
