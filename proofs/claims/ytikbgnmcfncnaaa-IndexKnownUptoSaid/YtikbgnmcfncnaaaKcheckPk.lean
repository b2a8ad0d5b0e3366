/-
  A part of the proof: K_checkPk.
-/
import Derived.Test.YtikbgnmcfncnaaaKcheckP
import Derived.Test.YtikbgnmcfncnaaaE4
set_option linter.unusedVariables false
set_option linter.unusedSimpArgs false
noncomputable section
open Go Go.Eng Go.Proofs
namespace Go.Eng
def OS:List U→Int:=fun us=>(Bk (aL us 0))
def OO:List U→Prop:=fun us=>Bk (aL us 0)=0
def Nb:AV:={ sh:=Iz.sh,blks:=[],outs:=[(.s "checkPk.0",Bl OS)],c:= .ci .i64 0,m':=[],pre:=[(.s "checkPk.p0",OO)] }
theorem Y6:Ae Try.prog 41 Nb:=R8 aC rfl rfl rfl rfl rfl (fun _=>rfl) rfl rfl fun us hul hp=>by
 have h0:=hp _ (List.mem_singleton.2 rfl)
 replace h0:Bk (aL us 0)=0:=h0
 have hul:us.length=1:=hul
 match us,hul,h0 with
 |[u],_,h0=>exact⟨congrArg (fun z=>some (U.int z)) h0,fun q hq=>by cases hq⟩
end Go.Eng
end
