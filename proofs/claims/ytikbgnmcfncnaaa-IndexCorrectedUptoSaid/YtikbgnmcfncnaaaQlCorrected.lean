/-
  The law IndexCorrected of the given program: for every input of at most 1048576 values the call returns true, and each argument reads afterwards as it read before.
-/
import Derived.Test.YtikbgnmcfncnaaaE5
import Derived.Test.YtikbgnmcfncnaaaKB5
set_option linter.unusedVariables false
set_option linter.unusedSimpArgs false
noncomputable section
namespace Go.Proofs.Ytikbgnmcfncnaaa.qIndexCorrected
open Go Go.Eng Go.RowKit Go.ChangeShapes Go.WideShapes Go.ChangeAt
set_option maxRecDepth 100000
theorem fn_eq (H:Type)(a:List (DataW H))(h:a.length=Try.f5.params.toList.length):Rows.indexCorrectedSpec.fn H a={ results:=[.lit (.bool true)],args:=a }:=by
 replace h:a.length=5:=h
 match a,h with
 |[d0,d1,d2,d3,d4],_=>rfl
theorem recs:∀t∈Try.f5.params.toList,Try.prog.readableRec t=true/\t < Try.prog.types.size:=fun t a=>by
 have h:Try.f5.params.toList.all (fun t=>Try.prog.readableRec t&&decide (t < Try.prog.types.size))=true:=by kernel_rfl
 have C:=Ae.1 h t a;rw[AB,decide_eq_true_eq] at C;exact C
theorem calls {H:Type}{enc:TypeId × Value->H}{W:World}{base:Nat}{Y:List Value}{b:List (DataW H)}{ps:List MemPlace}(g:DataW.TrodAll enc Try.prog W 0 (fun _=>true) true Try.f5.params.toList Y b ps)
  (h:∀(j:Nat) t v,Try.f5.params.toList[j]? =some t->Y[j]? =some v->Value.okWide Try.prog W .any base t v) (aa:∀d∈b,Et 1048576 d):
  Calls Try.prog 5 (Y:List Value).toArray W fun e c=>e= .returned (.bool true)/\Below W.heap.size W c:=
 qn (B:=1048576) (by decide) CP AAj AAf AAv AAm g h aa
theorem lifted (os:Os)(j:os.Started)(H:Type)(enc:TypeId × Value->H)(F:Stop.Interp):
  ReturnsInHanded {} Try.checked os 5 .any ((Rows.OpenSpec.upto Rows.indexCorrectedSpec).pre6 enc Try.prog Try.f5 Rows.indexCorrectedUptoRow.domain false) (((Rows.OpenSpec.upto Rows.indexCorrectedSpec).at F).post enc Try.prog Try.f5 false true false false):=by
 have i:(DataW.whole enc Try.prog (World.plainHolding Try.prog os ⟨#[], #[.slice none 0 0,.slice none 0 0,.int .u8 0,.agg #[.int .i64 0,.int .i64 0,.int .i64 0,.bool false,.string ⟨#[]⟩,.string ⟨#[]⟩,.bool false,.int .i64 0,.int .i64 0],.bool false],[]⟩).memory Try.f5.params.toList Rows.indexCorrectedSpec.vars false (#[.slice none 0 0,.slice none 0 0,.int .u8 0,.agg #[.int .i64 0,.int .i64 0,.int .i64 0,.bool false,.string ⟨#[]⟩,.string ⟨#[]⟩,.bool false,.int .i64 0,.int .i64 0],.bool false]:Array Value).toList 12).isSome=true:=by kernel_rfl
 refine returnsInHanded_of_cond (C:=Try.checked) (s:=Rows.OpenSpec.upto Rows.indexCorrectedSpec) (k:=Rows.uptoSmall) rfl own j (by kernel_rfl) Try.func5
  (OpenSpec.witness (enc:=enc) (C:=Try.checked) (s:=Rows.OpenSpec.upto Rows.indexCorrectedSpec) (k:=Rows.uptoSmall) rfl false ⟨#[], #[.slice none 0 0,.slice none 0 0,.int .u8 0,.agg #[.int .i64 0,.int .i64 0,.int .i64 0,.bool false,.string ⟨#[]⟩,.string ⟨#[]⟩,.bool false,.int .i64 0,.int .i64 0],.bool false],[]⟩ 12 (by kernel_rfl) (by kernel_rfl) (by kernel_rfl)
   (Option.some_get i).symm rfl (by kernel_rfl)) ?_
 intro W base args c d b h e _ g _;exact tp (s:=Rows.indexCorrectedSpec) (f:=Try.f5) (k:=5) (by kernel_rfl) rfl recs fn_eq calls (by kernel_rfl) H enc W base args c d b h e g
theorem holds:Rows.IndexCorrectedUptoSaid:=
 OpenClaim.holds_of_cond 5 Try.f5 rfl rfl rfl rfl rfl rfl rfl ⟨rfl,rfl,rfl,rfl,rfl⟩ rfl rfl rfl rfl rfl (by kernel_rfl) Try.func5 (by kernel_rfl)
  (of_decide_eq_true (by kernel_rfl)) (by unfold Func.isWrapper;first|(rw[BH (by decide+kernel)];kernel_rfl)|(rw[BG (by decide+kernel)];exact⟨rfl,rfl⟩))
  (fun os a H enc _ F=>lifted os a H enc F)
end Go.Proofs.Ytikbgnmcfncnaaa.qIndexCorrected
end
