/-
  A part of the proof: K_strcmp.
-/
import Derived.Test.YtikbgnmcfncnaaaE5
import Derived.Test.YtikbgnmcfncnaaaE4
import Derived.WalkKit
import Derived.Lib.Strings
import Derived.Lib.Walk
import Derived.Lib.Bytealg
set_option linter.unusedVariables false
set_option linter.unusedSimpArgs false
noncomputable section
namespace Go.Eng
section
open Go Go.Eng Go.Proofs Go.RowKit Go.Lib
def MB:List U->Int:=fun us=>(Kb (aS us 0) (aS us 1))
def Oq:AV:={ sh:=[.one (.str),.one (.str)],blks:=[],outs:=[(.s "strcmp.0",Bl MB)],c:=(.i .i64 (-1) 1 2),m':=[],pre:=[] }
set_option maxHeartbeats 1000000 in
set_option maxRecDepth 100000 in
theorem aV (a b:ByteArray)(w:World):
  Calls Try.prog 141 #[.string a,.string b] w fun e w'=>e= .returned (.int .i64 (Lib.compareBytes a.data.toList b.data.toList))/\w'=w:=by
 go_enter Try.func141,Try.ntmps141
 go_wp2
 rw[run_callFunc_extern Try.func147 (by kernel_rfl) (by kernel_rfl) (by kernel_rfl) (e:=Extern.BytealgCompare.compare) (by kernel_rfl),Lib.run_compareString];simp only[Result.andThen];rw[Oper.upon_value]
 go_wp2
 go_ret
 exact⟨rfl,rfl⟩
set_option maxHeartbeats 1000000 in
theorem UU (a b:ByteArray)(w:World):
  Calls Try.prog 129 #[.string a,.string b] w fun e w'=>e= .returned (.int .i64 (Lib.compareBytes a.data.toList b.data.toList))/\w'=w:=by
 go_enter Try.func129,Try.ntmps129
 go_wp2_with (go_at_call 141;refine (aV _ _ _).mono ?_;rintro e w' ⟨rfl,rfl⟩)
 go_ret
 exact⟨rfl,rfl⟩
theorem Z1:Ae Try.prog 129 Oq:=by
 refine PZ rfl rfl ⟨Try.f129,Try.func129,by kernel_rfl,by kernel_rfl⟩ fun T us hl hT hp ρ w vs hv=>?_;obtain⟨v,vs',rfl,⟨_,s,hs,rfl,hz⟩,v2,vs2,rfl,⟨_,s2,hs2,rfl,hz2⟩,rfl⟩:=hv;have hl1:us.length=2:=hl;refine (UU s s2 w).mono fun e w' ⟨h1,h2⟩=>⟨_,h1,by rw[h2];exact Below.refl _ _,show 2 < 3 by decide,Kb s s2,?_,rfl,?_⟩
 .have h3:aS us 0=s:=inS (T:=T) (us:=us) (n:=2) (j:=0) (fun j u hj=>hT j u (by unfold AV.us;rw[List.getElem?_append_left (List.getElem?_eq_some_iff.1 hj).1];exact hj)) hl1 (by decide) |>.trans (by unfold S;rw[show T.get 0= .str s from hs];rfl)
  have h3':aS us 1=s2:=inS (T:=T) (us:=us) (n:=2) (j:=1) (fun j u hj=>hT j u (by unfold AV.us;rw[List.getElem?_append_left (List.getElem?_eq_some_iff.1 hj).1];exact hj)) hl1 (by decide) |>.trans (by unfold S;rw[show T.get 1= .str s2 from hs2];rfl)
  have h4:=hT 2 (Bl MB us) (by unfold AV.us;rw[List.getElem?_append_right (by omega),hl1];rfl);rw[h4];show U.int (Kb (aS us 0) (aS us 1))=_;rw[h3,h3']
 .exact f9 s s2
end
end Go.Eng
end
