/-
  A part of the proof: K_xvname.
-/
import Derived.Test.YtikbgnmcfncnaaaE5
import Derived.Test.YtikbgnmcfncnaaaE4
import Derived.WalkKit
import Derived.Shelf.GgClosure.StringsIndexFuncTop
set_option linter.unusedVariables false
set_option linter.unusedSimpArgs false
noncomputable section
namespace Go.Eng
section
open Go Go.Eng Go.Proofs Go.Shelf Go.RowKit Go.Lib
def Gw:List U->Bool:=fun us=>(EC (aS us 0))
def I9:AV:={ sh:=[.one (.str)],blks:=[],outs:=[(.s "xvname.0",LP Gw)],c:= .b 1,m':=[],pre:=[] }
def ZB:Go.Shelf.Ren:=⟨fun|17=>110|15=>130|20=>142|n=>n,fun|9=>9|23=>159|4=>4|3=>3|0=>0|21=>21|n=>n,fun|n=>n⟩
theorem YR:Go.Proofs.LaysGw.n17 Try.prog ZB:={
 mixed:=by kernel_rfl
 f15:=Try.func130.trans (congrArg some (by kernel_rfl))
 f17:=Try.func110.trans (congrArg some (by kernel_rfl))
 f20:=Try.func142.trans (congrArg some (by kernel_rfl))
 t0:=Try.underlying0
 a0:=Try.isAgg0
 z0:=Try.sizeOf0
 v0:=Try.zeroValue0
 i0:=by kernel_rfl
 t3:=Try.underlying3
 a3:=Try.isAgg3
 z3:=Try.sizeOf3
 v3:=Try.zeroValue3
 i3:=by kernel_rfl
 t4:=Try.underlying4
 a4:=Try.isAgg4
 z4:=Try.sizeOf4
 v4:=Try.zeroValue4
 i4:=by kernel_rfl
 t9:=Try.underlying9
 a9:=Try.isAgg9
 z9:=Try.sizeOf9
 v9:=Try.zeroValue9
 i9:=by kernel_rfl
 t21:=Try.underlying21
 a21:=Try.isAgg21
 z21:=Try.sizeOf21
 v21:=Try.zeroValue21
 i21:=by kernel_rfl
 t23:=Try.underlying159
 a23:=Try.isAgg159
 z23:=Try.sizeOf159
 v23:=Try.zeroValue159
 i23:=by kernel_rfl }
theorem Wd (w:World):PredAt Try.prog 111 #[] encR Ch w:=fun W r _=>by
 unfold FnGives Ch;by_cases h1:97<=r<;>by_cases h2:r<=122<;>by_cases h3:48<=r<;>by_cases h4:r<=57
 all_goals
  have z1:(r:Int) < 97↔r < 97:=by omega
  have z2:(122:Int) < (r:Int)↔122 < r:=by omega
  have z3:(r:Int) < 48↔r < 48:=by omega
  have z4:(57:Int) < (r:Int)↔57 < r:=by omega
  go_enter Try.func111,Try.ntmps111
  go_wp2
  all_goals first|(exfalso;omega)|(go_ret;exact⟨by first|(simp;done)|(simp;omega),0,rfl⟩)
set_option maxHeartbeats 1000000 in
theorem U7 (s:ByteArray)(hs:s.size<=AF)(w:World):Calls Try.prog 83 #[.string s] w fun e w'=>e= .returned (.bool (EC s))/\Below w.heap.size w w':=by
 have hC:=Any.strings_ContainsFunc YR 111 #[] (enters_of Try.func111 (by kernel_rfl) rfl) Ch s w (Wd w);change Calls Try.prog 110 _ _ _ at hC;rw[Yf];obtain⟨d,hd⟩:∃d,decide (0<=Lib.idxFunc Ch true s)=d:=⟨_,rfl⟩;rw[hd] at hC⊢;clear hd;unfold AF at hs;by_cases h1:1<=s.size<;>by_cases h2:s.size<=20
 all_goals
  go_enter Try.func83,Try.ntmps83
  go_wp2_with (go_at_call 110;refine hC.mono ?_;rintro e w' ⟨rfl,hb⟩)
  all_goals (go_ret;exact⟨by simp[h1,h2],by first|exact hb|exact Below.refl _ _⟩)
theorem Ra:Ae Try.prog 83 I9:=by
 refine PZ rfl rfl ⟨Try.f83,Try.func83,by kernel_rfl,by kernel_rfl⟩ fun T us hl hT hp ρ w vs hv=>?_;obtain⟨v,vs',rfl,⟨_,s,hs,rfl,hz⟩,rfl⟩:=hv;have hl1:us.length=1:=hl;refine (U7 s hz w).mono fun e w' ⟨h1,h2⟩=>⟨_,h1,h2,show 1 < 2 by decide,EC s,?_,rfl⟩;have h3:aS us 0=s:=by
  have:=hT 0 us[0] (by unfold AV.us;rw[List.getElem?_append_left (by omega)];exact List.getElem?_eq_getElem (by omega));rw[hs] at this;unfold aS;rw[List.getD_eq_getElem?_getD,List.getElem?_eq_getElem (show 0 < us.length by omega),Option.getD_some,<-this];rfl
 have h4:=hT 1 (LP Gw us) (by unfold AV.us;rw[List.getElem?_append_right (by omega),hl1];rfl);rw[h4];show U.bool (EC (aS us 0))=_;rw[h3]
end
end Go.Eng
end
