/-
  The law IndexOrder of the given program: for every input of at most 1048576 values the call returns true, and each argument reads afterwards as it read before.
-/
import Derived.Test.YtikbgnmcfncnaaaE5
import Derived.Test.YtikbgnmcfncnaaaKB6
set_option linter.unusedVariables false
set_option linter.unusedSimpArgs false
noncomputable section
namespace Go.Proofs.Ytikbgnmcfncnaaa.qIndexOrder
open Go Go.Eng Go.RowKit Go.ChangeShapes Go.WideShapes Go.ChangeAt
set_option maxRecDepth 100000
theorem fn_eq (H:Type)(a:List (DataW H))(h:a.length=Try.f13.params.toList.length):Rows.indexOrderSpec.fn H a={ results:=[.lit (.bool true)],args:=a }:=by
 replace h:a.length=6:=h
 match a,h with
 |[d0,d1,d2,d3,d4,d5],_=>rfl
theorem recs:∀t∈Try.f13.params.toList,Try.prog.readableRec t=true/\t < Try.prog.types.size:=fun t a=>by
 have h:Try.f13.params.toList.all (fun t=>Try.prog.readableRec t&&decide (t < Try.prog.types.size))=true:=by kernel_rfl
 have O:=ABb.1 h t a;rw[AA8,decide_eq_true_eq] at O;exact O
theorem calls {H:Type}{enc:TypeId × Value->H}{a:World}{base:Nat}{W:List Value}{b:List (DataW H)}{ps:List MemPlace}(g:DataW.TrodAll enc Try.prog a 0 (fun _=>true) true Try.f13.params.toList W b ps)
  (h:∀(j:Nat) t v,Try.f13.params.toList[j]? =some t->W[j]? =some v->Value.okWide Try.prog a .any base t v) (aa:∀d∈b,Dh 1048576 d):
  Calls Try.prog 13 (W:List Value).toArray a fun e c=>e= .returned (.bool true)/\Below a.heap.size a c:=
 wo (B:=1048576) (by decide) A8 AC3 gB uo rW g h aa
theorem lifted (os:Os)(j:os.Started)(H:Type)(enc:TypeId × Value->H)(F:Stop.Interp):
  ReturnsInHanded {} Try.checked os 13 .any ((Rows.OpenSpec.upto Rows.indexOrderSpec).pre6 enc Try.prog Try.f13 Rows.indexOrderUptoRow.domain false) (((Rows.OpenSpec.upto Rows.indexOrderSpec).at F).post enc Try.prog Try.f13 false true false false):=by
 have i:(DataW.whole enc Try.prog (World.plainHolding Try.prog os ⟨#[], #[.slice none 0 0,.slice none 0 0,.slice none 0 0,.int .u8 0,.int .i64 0,.int .i64 0],[]⟩).memory Try.f13.params.toList Rows.indexOrderSpec.vars false (#[.slice none 0 0,.slice none 0 0,.slice none 0 0,.int .u8 0,.int .i64 0,.int .i64 0]:Array Value).toList 12).isSome=true:=by kernel_rfl
 refine returnsInHanded_of_cond (C:=Try.checked) (s:=Rows.OpenSpec.upto Rows.indexOrderSpec) (k:=Rows.uptoSmall) rfl own j (by kernel_rfl) Try.func13
  (OpenSpec.witness (enc:=enc) (C:=Try.checked) (s:=Rows.OpenSpec.upto Rows.indexOrderSpec) (k:=Rows.uptoSmall) rfl false ⟨#[], #[.slice none 0 0,.slice none 0 0,.slice none 0 0,.int .u8 0,.int .i64 0,.int .i64 0],[]⟩ 12 (by kernel_rfl) (by kernel_rfl) (by kernel_rfl)
   (Option.some_get i).symm rfl (by kernel_rfl)) ?_
 intro W base args c d b h e _ g _;exact wp (s:=Rows.indexOrderSpec) (f:=Try.f13) (k:=13) (by kernel_rfl) rfl recs fn_eq calls (by kernel_rfl) H enc W base args c d b h e g
theorem holds:Rows.IndexOrderUptoSaid:=
 OpenClaim.holds_of_cond 13 Try.f13 rfl rfl rfl rfl rfl rfl rfl ⟨rfl,rfl,rfl,rfl,rfl⟩ rfl rfl rfl rfl rfl (by kernel_rfl) Try.func13 (by kernel_rfl)
  (of_decide_eq_true (by kernel_rfl)) (by unfold Func.isWrapper;first|(rw[ACE (by decide+kernel)];kernel_rfl)|(rw[ACD (by decide+kernel)];exact⟨rfl,rfl⟩))
  (fun os a H enc _ F=>lifted os a H enc F)
end Go.Proofs.Ytikbgnmcfncnaaa.qIndexOrder
end
