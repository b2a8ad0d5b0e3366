/-
  The law IndexBegins of the given program: for every input of at most 1048576 values the call returns true, and each argument reads afterwards as it read before.
-/
import Derived.Test.YtikbgnmcfncnaaaXQlBegins
import Derived.Test.YtikbgnmcfncnaaaE5
import Derived.Test.YtikbgnmcfncnaaaKlBegins
set_option linter.unusedVariables false
set_option linter.unusedSimpArgs false
noncomputable section
namespace Go.Proofs.Ytikbgnmcfncnaaa.qIndexBegins
open Go Go.Eng Go.RowKit Go.ChangeShapes Go.WideShapes Go.ChangeAt
set_option maxRecDepth 100000
theorem fn_eq (H:Type)(ds:List (DataW H))(h:ds.length=Try.f14.params.toList.length):Rows.indexBeginsSpec.fn H ds={ results:=[.lit (.bool true)],args:=ds }:=by
 replace h:ds.length=3:=h
 match ds,h with
 |[d0,d1,d2],_=>rfl
theorem recs:∀t∈Try.f14.params.toList,Try.prog.readableRec t=true/\t < Try.prog.types.size:=fun t ht=>by
 have h:Try.f14.params.toList.all (fun t=>Try.prog.readableRec t&&decide (t < Try.prog.types.size))=true:=by kernel_rfl
 have h2:=List.all_eq_true.1 h t ht;rw[Bool.and_eq_true,decide_eq_true_eq] at h2;exact h2
theorem calls {H:Type}{enc:TypeId × Value->H}{W:World}{base:Nat}{vs:List Value}{ds:List (DataW H)}{ps:List MemPlace}(ht:DataW.TrodAll enc Try.prog W 0 (fun _=>true) true Try.f14.params.toList vs ds ps)
  (hv:∀(j:Nat) t v,Try.f14.params.toList[j]? =some t->vs[j]? =some v->Value.okWide Try.prog W .any base t v) (hs:∀d∈ds,Cv 1048576 d):
  Calls Try.prog 14 (vs:List Value).toArray W fun e W'=>e= .returned (.bool true)/\Below W.heap.size W W':=
 Tz (B:=1048576) (by decide) Bh rd rP sA rm ht hv hs
theorem lifted (os:Os)(started:os.Started)(H:Type)(enc:TypeId × Value->H)(F:Stop.Interp):
  ReturnsInHanded {} Try.checked os 14 .any ((Rows.OpenSpec.upto Rows.indexBeginsSpec).pre6 enc Try.prog Try.f14 Rows.indexBeginsUptoRow.domain false) (((Rows.OpenSpec.upto Rows.indexBeginsSpec).at F).post enc Try.prog Try.f14 false true false false):=by
 have hx:(DataW.whole enc Try.prog (World.plainHolding Try.prog os ⟨#[], #[.int .i64 0,.agg #[.string ⟨#[]⟩,.int .i64 0,.int .i64 0],.agg #[.string ⟨#[]⟩,.int .i64 0,.int .i64 0]],[]⟩).memory Try.f14.params.toList Rows.indexBeginsSpec.vars false (#[.int .i64 0,.agg #[.string ⟨#[]⟩,.int .i64 0,.int .i64 0],.agg #[.string ⟨#[]⟩,.int .i64 0,.int .i64 0]]:Array Value).toList 12).isSome=true:=by kernel_rfl
 refine returnsInHanded_of_cond (C:=Try.checked) (s:=Rows.OpenSpec.upto Rows.indexBeginsSpec) (k:=Rows.uptoSmall) rfl own started (by kernel_rfl) Try.func14
  (OpenSpec.witness (enc:=enc) (C:=Try.checked) (s:=Rows.OpenSpec.upto Rows.indexBeginsSpec) (k:=Rows.uptoSmall) rfl false ⟨#[], #[.int .i64 0,.agg #[.string ⟨#[]⟩,.int .i64 0,.int .i64 0],.agg #[.string ⟨#[]⟩,.int .i64 0,.int .i64 0]],[]⟩ 12 (by kernel_rfl) (by kernel_rfl) (by kernel_rfl)
   (Option.some_get hx).symm rfl (by kernel_rfl)) ?_
 intro W base args ds gs before hval hW _ hk _;exact VD (s:=Rows.indexBeginsSpec) (f:=Try.f14) (k:=14) (by kernel_rfl) rfl recs fn_eq calls (by kernel_rfl) H enc W base args ds gs before hval hW hk
theorem holds:Rows.IndexBeginsUptoSaid:=
 OpenClaim.holds_of_cond 14 Try.f14 rfl rfl rfl rfl rfl rfl rfl ⟨rfl,rfl,rfl,rfl,rfl⟩ rfl rfl rfl rfl rfl (by kernel_rfl) Try.func14 (by kernel_rfl)
  (of_decide_eq_true (by kernel_rfl)) (by unfold Func.isWrapper;first|(rw[if_pos (by decide+kernel)];kernel_rfl)|(rw[if_neg (by decide+kernel)];exact⟨rfl,rfl⟩))
  (fun os started H enc _ F=>lifted os started H enc F)
end Go.Proofs.Ytikbgnmcfncnaaa.qIndexBegins
end
