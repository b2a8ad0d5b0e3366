/-
  The law IndexHistory of the given program: for every input of at most 1048576 values the call returns true, and each argument reads afterwards as it read before.
-/
import Derived.Test.YtikbgnmcfncnaaaE5
import Derived.Test.YtikbgnmcfncnaaaKB5
set_option linter.unusedVariables false
set_option linter.unusedSimpArgs false
noncomputable section
namespace Go.Proofs.Ytikbgnmcfncnaaa.qIndexHistory
open Go Go.Eng Go.RowKit Go.ChangeShapes Go.WideShapes Go.ChangeAt
set_option maxRecDepth 100000
theorem fn_eq (H:Type)(a:List (DataW H))(h:a.length=Try.f10.params.toList.length):Rows.indexHistorySpec.fn H a={ results:=[.lit (.bool true)],args:=a }:=by
 replace h:a.length=3:=h
 match a,h with
 |[d0,d1,d2],_=>rfl
theorem recs:∀t∈Try.f10.params.toList,Try.prog.readableRec t=true/\t < Try.prog.types.size:=fun t a=>by
 have h:Try.f10.params.toList.all (fun t=>Try.prog.readableRec t&&decide (t < Try.prog.types.size))=true:=by kernel_rfl
 have C:=Ae.1 h t a;rw[AB,decide_eq_true_eq] at C;exact C
theorem calls {H:Type}{enc:TypeId × Value->H}{W:World}{base:Nat}{Y:List Value}{b:List (DataW H)}{ps:List MemPlace}(g:DataW.TrodAll enc Try.prog W 0 (fun _=>true) true Try.f10.params.toList Y b ps)
  (h:∀(j:Nat) t v,Try.f10.params.toList[j]? =some t->Y[j]? =some v->Value.okWide Try.prog W .any base t v) (ad:∀d∈b,Et 1048576 d):
  Calls Try.prog 10 (Y:List Value).toArray W fun e c=>e= .returned (.bool true)/\Below W.heap.size W c:=
 qn (B:=1048576) (by decide) CP zT zJ ze zU g h ad
theorem lifted (os:Os)(j:os.Started)(H:Type)(enc:TypeId × Value->H)(F:Stop.Interp):
  ReturnsInHanded {} Try.checked os 10 .any ((Rows.OpenSpec.upto Rows.indexHistorySpec).pre6 enc Try.prog Try.f10 Rows.indexHistoryUptoRow.domain false) (((Rows.OpenSpec.upto Rows.indexHistorySpec).at F).post enc Try.prog Try.f10 false true false false):=by
 have i:(DataW.whole enc Try.prog (World.plainHolding Try.prog os ⟨#[], #[.slice none 0 0,.slice none 0 0,.int .u8 0],[]⟩).memory Try.f10.params.toList Rows.indexHistorySpec.vars false (#[.slice none 0 0,.slice none 0 0,.int .u8 0]:Array Value).toList 12).isSome=true:=by kernel_rfl
 refine returnsInHanded_of_cond (C:=Try.checked) (s:=Rows.OpenSpec.upto Rows.indexHistorySpec) (k:=Rows.uptoSmall) rfl own j (by kernel_rfl) Try.func10
  (OpenSpec.witness (enc:=enc) (C:=Try.checked) (s:=Rows.OpenSpec.upto Rows.indexHistorySpec) (k:=Rows.uptoSmall) rfl false ⟨#[], #[.slice none 0 0,.slice none 0 0,.int .u8 0],[]⟩ 12 (by kernel_rfl) (by kernel_rfl) (by kernel_rfl)
   (Option.some_get i).symm rfl (by kernel_rfl)) ?_
 intro W base args c d b h e _ g _;exact tp (s:=Rows.indexHistorySpec) (f:=Try.f10) (k:=10) (by kernel_rfl) rfl recs fn_eq calls (by kernel_rfl) H enc W base args c d b h e g
theorem holds:Rows.IndexHistoryUptoSaid:=
 OpenClaim.holds_of_cond 10 Try.f10 rfl rfl rfl rfl rfl rfl rfl ⟨rfl,rfl,rfl,rfl,rfl⟩ rfl rfl rfl rfl rfl (by kernel_rfl) Try.func10 (by kernel_rfl)
  (of_decide_eq_true (by kernel_rfl)) (by unfold Func.isWrapper;first|(rw[BH (by decide+kernel)];kernel_rfl)|(rw[BG (by decide+kernel)];exact⟨rfl,rfl⟩))
  (fun os a H enc _ F=>lifted os a H enc F)
end Go.Proofs.Ytikbgnmcfncnaaa.qIndexHistory
end
