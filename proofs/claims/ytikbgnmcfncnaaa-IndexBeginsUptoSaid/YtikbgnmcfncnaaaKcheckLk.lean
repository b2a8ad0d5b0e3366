/-
  A part of the proof: K_checkLk.
-/
import Derived.Test.YtikbgnmcfncnaaaKcheckL
import Derived.Test.YtikbgnmcfncnaaaE4
set_option linter.unusedVariables false
set_option linter.unusedSimpArgs false
noncomputable section
namespace Go.Eng
section
open Go Go.Eng Go.Proofs
def OT:List U->Int:=fun us=>(B8 (aL us 0))
def Og:List U->Prop:=fun us=>B8 (aL us 0)=0
def MZ:AV:={ sh:=JW.sh,blks:=[],outs:=[(.s "checkLk.0",Bl OT)],c:= .ci .i64 0,m':=[],pre:=[(.s "checkLk.p0",Og)] }
theorem ZL:Ae Try.prog 47 MZ:=Ru bH rfl rfl rfl rfl rfl (fun _=>rfl) rfl rfl fun us hul hp=>by
 have h0:=hp _ (List.mem_singleton.2 rfl);replace h0:B8 (aL us 0)=0:=h0;have hul:us.length=1:=hul
 match us,hul,h0 with
 |[u],_,h0=>exact⟨congrArg (fun z=>some (U.int z)) h0,fun q hq=>by cases hq⟩
end
end Go.Eng
end
