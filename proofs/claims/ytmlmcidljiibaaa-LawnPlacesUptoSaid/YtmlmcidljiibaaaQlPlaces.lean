/-
  The law LawnPlaces of the given program: for every input of at most 1048576 values the call returns true, and each argument reads afterwards as it read before.
-/
import Derived.Test.YtmlmcidljiibaaaXQlPlaces
import Derived.Test.YtmlmcidljiibaaaE4
import Derived.Test.YtmlmcidljiibaaaKlPlaces
set_option linter.unusedVariables false
set_option linter.unusedSimpArgs false
noncomputable section
namespace Go.Proofs.Ytmlmcidljiibaaa.qLawnPlaces
open Go Go.Eng Go.RowKit Go.ChangeShapes Go.WideShapes Go.ChangeAt
set_option maxRecDepth 100000
theorem fn_eq (H:Type)(ds:List (DataW H))(h:ds.length=Try.f11.params.toList.length):Rows.lawnPlacesSpec.fn H ds={ results:=[.lit (.bool true)],args:=ds }:=by
 replace h:ds.length=3:=h
 match ds,h with
 |[d0,d1,d2],_=>rfl
theorem recs:∀t∈Try.f11.params.toList,Try.prog.readableRec t=true∧t < Try.prog.types.size:=fun t ht=>by
 have h:Try.f11.params.toList.all (fun t=>Try.prog.readableRec t&&decide (t < Try.prog.types.size))=true:=by kernel_rfl
 have h2:=List.all_eq_true.1 h t ht
 rw[Bool.and_eq_true,decide_eq_true_eq] at h2
 exact h2
theorem calls {H:Type}{enc:TypeId × Value→H}{W:World}{base:Nat}{vs:List Value}{ds:List (DataW H)}{ps:List MemPlace}(ht:DataW.TrodAll enc Try.prog W 0 (fun _=>true) true Try.f11.params.toList vs ds ps)
  (hv:∀(j:Nat) t v,Try.f11.params.toList[j]? =some t→vs[j]? =some v→Value.okWide Try.prog W .any base t v) (hs:∀d∈ds,Cs 1048576 d):
  Calls Try.prog 11 (vs:List Value).toArray W fun e W'=>e= .returned (.bool true)∧Below W.heap.size W W':=
 ZV (B:=1048576) (by decide) BX oh oV pe o9 ht hv hs
theorem lifted (os:Os)(started:os.Started)(H:Type)(enc:TypeId × Value→H)(F:Stop.Interp):
  ReturnsInHanded {} Try.checked os 11 .any ((Rows.OpenSpec.upto Rows.lawnPlacesSpec).pre6 enc Try.prog Try.f11 Rows.lawnPlacesUptoRow.domain false) (((Rows.OpenSpec.upto Rows.lawnPlacesSpec).at F).post enc Try.prog Try.f11 false true false false):=by
 have hx:(DataW.whole enc Try.prog (World.plainHolding Try.prog os ⟨#[], #[.agg #[.string ⟨#[]⟩,.int .i64 0,.int .i64 0,.int .i64 0,.slice none 0 0,.int .i64 0,.int .i64 0,.int .i64 0,.int .i64 0,.int .i64 0,.slice none 0 0],.agg #[.int .i64 0,.int .i64 0],.int .i64 0],[]⟩).memory Try.f11.params.toList Rows.lawnPlacesSpec.vars false (#[.agg #[.string ⟨#[]⟩,.int .i64 0,.int .i64 0,.int .i64 0,.slice none 0 0,.int .i64 0,.int .i64 0,.int .i64 0,.int .i64 0,.int .i64 0,.slice none 0 0],.agg #[.int .i64 0,.int .i64 0],.int .i64 0]:Array Value).toList 12).isSome=true:=by kernel_rfl
 refine returnsInHanded_of_cond (C:=Try.checked) (s:=Rows.OpenSpec.upto Rows.lawnPlacesSpec) (k:=Rows.uptoSmall) rfl own started (by kernel_rfl) Try.func11
  (OpenSpec.witness (enc:=enc) (C:=Try.checked) (s:=Rows.OpenSpec.upto Rows.lawnPlacesSpec) (k:=Rows.uptoSmall) rfl false ⟨#[], #[.agg #[.string ⟨#[]⟩,.int .i64 0,.int .i64 0,.int .i64 0,.slice none 0 0,.int .i64 0,.int .i64 0,.int .i64 0,.int .i64 0,.int .i64 0,.slice none 0 0],.agg #[.int .i64 0,.int .i64 0],.int .i64 0],[]⟩ 12 (by kernel_rfl) (by kernel_rfl) (by kernel_rfl)
   (Option.some_get hx).symm rfl (by kernel_rfl)) ?_
 intro W base args ds gs before hval hW _ hk _
 exact ah (s:=Rows.lawnPlacesSpec) (f:=Try.f11) (k:=11) (by kernel_rfl) rfl recs fn_eq calls (by kernel_rfl) H enc W base args ds gs before hval hW hk
theorem holds:Rows.LawnPlacesUptoSaid:=
 OpenClaim.holds_of_cond 11 Try.f11 rfl rfl rfl rfl rfl rfl rfl ⟨rfl,rfl,rfl,rfl,rfl⟩ rfl rfl rfl rfl rfl (by kernel_rfl) Try.func11 (by kernel_rfl)
  (of_decide_eq_true (by kernel_rfl)) (by unfold Func.isWrapper;first|(rw[if_pos (by decide+kernel)];kernel_rfl)|(rw[if_neg (by decide+kernel)];exact⟨rfl,rfl⟩))
  (fun os started H enc _ F=>lifted os started H enc F)
end Go.Proofs.Ytmlmcidljiibaaa.qLawnPlaces
end
