/-
  The law IndexCounts of the given program: for every input of at most 1048576 values the call returns true, and each argument reads afterwards as it read before.
-/
import Derived.Test.YtikbgnmcfncnaaaXQlCounts
import Derived.Test.YtikbgnmcfncnaaaE5
import Derived.Test.YtikbgnmcfncnaaaKX1lCounts
set_option linter.unusedVariables false
set_option linter.unusedSimpArgs false
noncomputable section
namespace Go.Proofs.Ytikbgnmcfncnaaa.qIndexCounts
open Go Go.Eng Go.RowKit Go.ChangeShapes Go.WideShapes Go.ChangeAt
set_option maxRecDepth 100000
theorem fn_eq (H:Type)(ds:List (DataW H))(h:ds.length=Try.f12.params.toList.length):Rows.indexCountsSpec.fn H ds={ results:=[.lit (.bool true)],args:=ds }:=by
 replace h:ds.length=7:=h
 match ds,h with
 |[d0,d1,d2,d3,d4,d5,d6],_=>rfl
theorem recs:∀t∈Try.f12.params.toList,Try.prog.readableRec t=true/\t < Try.prog.types.size:=fun t ht=>by
 have h:Try.f12.params.toList.all (fun t=>Try.prog.readableRec t&&decide (t < Try.prog.types.size))=true:=by kernel_rfl
 have h2:=wR.1 h t ht;rw[vo,decide_eq_true_eq] at h2;exact h2
theorem calls {H:Type}{enc:TypeId × Value->H}{W:World}{base:Nat}{vs:List Value}{ds:List (DataW H)}{ps:List MemPlace}(ht:DataW.TrodAll enc Try.prog W 0 (fun _=>true) true Try.f12.params.toList vs ds ps)
  (hv:∀(j:Nat) t v,Try.f12.params.toList[j]? =some t->vs[j]? =some v->Value.okWide Try.prog W .any base t v) (hs:∀d∈ds,Cv 1048576 d):
  Calls Try.prog 12 (vs:List Value).toArray W fun e W'=>e= .returned (.bool true)/\Below W.heap.size W W':=
 Tz (B:=1048576) (by decide) Bh nz ni ow oV ht hv hs
theorem lifted (os:Os)(started:os.Started)(H:Type)(enc:TypeId × Value->H)(F:Stop.Interp):
  ReturnsInHanded {} Try.checked os 12 .any ((Rows.OpenSpec.upto Rows.indexCountsSpec).pre6 enc Try.prog Try.f12 Rows.indexCountsUptoRow.domain false) (((Rows.OpenSpec.upto Rows.indexCountsSpec).at F).post enc Try.prog Try.f12 false true false false):=by
 have hx:(DataW.whole enc Try.prog (World.plainHolding Try.prog os ⟨#[], #[.agg #[.string ⟨#[]⟩,.int .i64 0,.int .i64 0],.agg #[.string ⟨#[]⟩,.int .i64 0,.int .i64 0],.int .i64 0,.int .i64 0,.bool false,.int .i64 0,.int .i64 0],[]⟩).memory Try.f12.params.toList Rows.indexCountsSpec.vars false (#[.agg #[.string ⟨#[]⟩,.int .i64 0,.int .i64 0],.agg #[.string ⟨#[]⟩,.int .i64 0,.int .i64 0],.int .i64 0,.int .i64 0,.bool false,.int .i64 0,.int .i64 0]:Array Value).toList 12).isSome=true:=by kernel_rfl
 refine returnsInHanded_of_cond (C:=Try.checked) (s:=Rows.OpenSpec.upto Rows.indexCountsSpec) (k:=Rows.uptoSmall) rfl own started (by kernel_rfl) Try.func12
  (OpenSpec.witness (enc:=enc) (C:=Try.checked) (s:=Rows.OpenSpec.upto Rows.indexCountsSpec) (k:=Rows.uptoSmall) rfl false ⟨#[], #[.agg #[.string ⟨#[]⟩,.int .i64 0,.int .i64 0],.agg #[.string ⟨#[]⟩,.int .i64 0,.int .i64 0],.int .i64 0,.int .i64 0,.bool false,.int .i64 0,.int .i64 0],[]⟩ 12 (by kernel_rfl) (by kernel_rfl) (by kernel_rfl)
   (Option.some_get hx).symm rfl (by kernel_rfl)) ?_
 intro W base args ds gs before hval hW _ hk _;exact VD (s:=Rows.indexCountsSpec) (f:=Try.f12) (k:=12) (by kernel_rfl) rfl recs fn_eq calls (by kernel_rfl) H enc W base args ds gs before hval hW hk
theorem holds:Rows.IndexCountsUptoSaid:=
 OpenClaim.holds_of_cond 12 Try.f12 rfl rfl rfl rfl rfl rfl rfl ⟨rfl,rfl,rfl,rfl,rfl⟩ rfl rfl rfl rfl rfl (by kernel_rfl) Try.func12 (by kernel_rfl)
  (of_decide_eq_true (by kernel_rfl)) (by unfold Func.isWrapper;first|(rw[if_pos (by decide+kernel)];kernel_rfl)|(rw[if_neg (by decide+kernel)];exact⟨rfl,rfl⟩))
  (fun os started H enc _ F=>lifted os started H enc F)
end Go.Proofs.Ytikbgnmcfncnaaa.qIndexCounts
end
