/-
  The law IndexBooks of the given program: for every input of at most 1048576 values the call returns true, and each argument reads afterwards as it read before.
-/
import Derived.Test.YtikbgnmcfncnaaaE5
import Derived.Test.YtikbgnmcfncnaaaKB6
set_option linter.unusedVariables false
set_option linter.unusedSimpArgs false
noncomputable section
namespace Go.Proofs.Ytikbgnmcfncnaaa.qIndexBooks
open Go Go.Eng Go.RowKit Go.ChangeShapes Go.WideShapes Go.ChangeAt
set_option maxRecDepth 100000
theorem fn_eq (H:Type)(ds:List (DataW H))(h:ds.length=Try.f11.params.toList.length):Rows.indexBooksSpec.fn H ds={ results:=[.lit (.bool true)],args:=ds }:=by
 replace h:ds.length=2:=h
 match ds,h with
 |[d0,d1],_=>rfl
theorem recs:∀t∈Try.f11.params.toList,Try.prog.readableRec t=true/\t < Try.prog.types.size:=fun t a=>by
 have h:Try.f11.params.toList.all (fun t=>Try.prog.readableRec t&&decide (t < Try.prog.types.size))=true:=by kernel_rfl
 have O:=uK.1 h t a;rw[tV,decide_eq_true_eq] at O;exact O
theorem calls {H:Type}{enc:TypeId × Value->H}{a:World}{base:Nat}{W:List Value}{ds:List (DataW H)}{ps:List MemPlace}(c:DataW.TrodAll enc Try.prog a 0 (fun _=>true) true Try.f11.params.toList W ds ps)
  (g:∀(j:Nat) t v,Try.f11.params.toList[j]? =some t->W[j]? =some v->Value.okWide Try.prog a .any base t v) (aa:∀d∈ds,DZ 1048576 d):
  Calls Try.prog 11 (W:List Value).toArray a fun e b=>e= .returned (.bool true)/\Below a.heap.size a b:=
 ol (B:=1048576) (by decide) BU dh bF nN lU c g aa
theorem lifted (os:Os)(i:os.Started)(H:Type)(enc:TypeId × Value->H)(F:Stop.Interp):
  ReturnsInHanded {} Try.checked os 11 .any ((Rows.OpenSpec.upto Rows.indexBooksSpec).pre6 enc Try.prog Try.f11 Rows.indexBooksUptoRow.domain false) (((Rows.OpenSpec.upto Rows.indexBooksSpec).at F).post enc Try.prog Try.f11 false true false false):=by
 have h:(DataW.whole enc Try.prog (World.plainHolding Try.prog os ⟨#[], #[.slice none 0 0,.slice none 0 0],[]⟩).memory Try.f11.params.toList Rows.indexBooksSpec.vars false (#[.slice none 0 0,.slice none 0 0]:Array Value).toList 12).isSome=true:=by kernel_rfl
 refine returnsInHanded_of_cond (C:=Try.checked) (s:=Rows.OpenSpec.upto Rows.indexBooksSpec) (k:=Rows.uptoSmall) rfl own i (by kernel_rfl) Try.func11
  (OpenSpec.witness (enc:=enc) (C:=Try.checked) (s:=Rows.OpenSpec.upto Rows.indexBooksSpec) (k:=Rows.uptoSmall) rfl false ⟨#[], #[.slice none 0 0,.slice none 0 0],[]⟩ 12 (by kernel_rfl) (by kernel_rfl) (by kernel_rfl)
   (Option.some_get h).symm rfl (by kernel_rfl)) ?_
 intro W base args ds c b g d _ e _;exact mF (s:=Rows.indexBooksSpec) (f:=Try.f11) (k:=11) (by kernel_rfl) rfl recs fn_eq calls (by kernel_rfl) H enc W base args ds c b g d e
theorem holds:Rows.IndexBooksUptoSaid:=
 OpenClaim.holds_of_cond 11 Try.f11 rfl rfl rfl rfl rfl rfl rfl ⟨rfl,rfl,rfl,rfl,rfl⟩ rfl rfl rfl rfl rfl (by kernel_rfl) Try.func11 (by kernel_rfl)
  (of_decide_eq_true (by kernel_rfl)) (by unfold Func.isWrapper;first|(rw[vC (by decide+kernel)];kernel_rfl)|(rw[vA (by decide+kernel)];exact⟨rfl,rfl⟩))
  (fun os a H enc _ F=>lifted os a H enc F)
end Go.Proofs.Ytikbgnmcfncnaaa.qIndexBooks
end
