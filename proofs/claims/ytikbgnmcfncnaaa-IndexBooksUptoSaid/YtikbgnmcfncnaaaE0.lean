/-
  A part of the proof: the evaluator of code and its soundness.
-/
import GoSem.Core.View
import GoSem.Op.IntBits
import Derived.Calls
import Derived.Below
import Derived.Laws.World
import Derived.Laws.Sem
import Derived.Laws.Small
import Derived.IntWalk
import Derived.Laws.Cells
import Derived.Laws.Tables
import Derived.Laws.StructEq
import Derived.ChangeKeysEq
import Derived.Laws.AppendOwn
set_option linter.unusedVariables false
set_option linter.unusedSimpArgs false
noncomputable section
namespace Go.Eng
theorem tU:type_of% @Option.bind_eq_some_iff:=@Option.bind_eq_some_iff
theorem tV:type_of% @Bool.and_eq_true:=@Bool.and_eq_true
theorem tW:type_of% @Nat.eq_of_beq_eq_true:=@Nat.eq_of_beq_eq_true
theorem tX:type_of% @Option.bind_eq_bind:=@Option.bind_eq_bind
theorem tY:type_of% @Nat.le_refl:=@Nat.le_refl
theorem tZ:type_of% @List.getElem?_eq_getElem:=@List.getElem?_eq_getElem
theorem tc:type_of% @List.getElem?_eq_some_iff:=@List.getElem?_eq_some_iff
theorem td:type_of% @Nat.lt_of_lt_of_le:=@Nat.lt_of_lt_of_le
theorem te:type_of% @Array.getElem?_eq_some_iff:=@Array.getElem?_eq_some_iff
theorem tf:type_of% @Array.getD_eq_getD_getElem?:=@Array.getD_eq_getD_getElem?
theorem th:type_of% @List.mem_cons_of_mem:=@List.mem_cons_of_mem
theorem ti:type_of% @List.map_append:=@List.map_append
theorem tj:type_of% @Nat.zero_add:=@Nat.zero_add
theorem tl:type_of% @List.mem_cons_self:=@List.mem_cons_self
theorem tp:type_of% @List.mem_append_right:=@List.mem_append_right
theorem tq:type_of% @List.length_append:=@List.length_append
theorem tu:type_of% @Nat.lt_or_ge:=@Nat.lt_or_ge
theorem tv:type_of% @List.getElem?_append_left:=@List.getElem?_append_left
theorem tw:type_of% @List.getElem?_append_right:=@List.getElem?_append_right
theorem tx:type_of% @List.map_cons:=@List.map_cons
theorem tz:type_of% @List.mem_append_left:=@List.mem_append_left
theorem t8:type_of% @Nat.le_trans:=@Nat.le_trans
theorem uA:type_of% @List.forall_mem_cons:=@List.forall_mem_cons
theorem uC:type_of% @Option.map_eq_some_iff:=@Option.map_eq_some_iff
theorem uD:type_of% @List.getD_eq_getElem?_getD:=@List.getD_eq_getElem?_getD
theorem uE:type_of% @Bool.false_eq_true:=@Bool.false_eq_true
theorem uF:type_of% @Nat.le_of_ble_eq_true:=@Nat.le_of_ble_eq_true
theorem uG:type_of% @Nat.mul_le_mul_right:=@Nat.mul_le_mul_right
theorem uH:type_of% @List.mem_iff_getElem?:=@List.mem_iff_getElem?
theorem uJ:type_of% @List.length_cons:=@List.length_cons
theorem uK:type_of% @List.all_eq_true:=@List.all_eq_true
theorem uL:type_of% @Nat.add_mul:=@Nat.add_mul
theorem uM:type_of% @Option.bind_some:=@Option.bind_some
theorem uN:type_of% @Bool.or_eq_true:=@Bool.or_eq_true
theorem uO:type_of% @List.getElem?_eq_none:=@List.getElem?_eq_none
theorem uP:type_of% @List.getElem?_map:=@List.getElem?_map
theorem uQ:type_of% @Nat.zero_le:=@Nat.zero_le
theorem uT:type_of% @List.mem_singleton:=@List.mem_singleton
theorem uU:type_of% @List.append_assoc:=@List.append_assoc
theorem uW:type_of% @List.map_nil:=@List.map_nil
theorem uX:type_of% @List.length_take:=@List.length_take
theorem uY:type_of% @List.mem_append:=@List.mem_append
theorem uZ:type_of% @Result.andThen_ok:=@Result.andThen_ok
theorem ua:type_of% @Sem.run_bind:=@Sem.run_bind
theorem ub:type_of% @List.length_nil:=@List.length_nil
theorem uc:type_of% @Decidable.of_not_not:=@Decidable.of_not_not
theorem ud:type_of% @List.length_set:=@List.length_set
theorem ue:type_of% @List.length_drop:=@List.length_drop
theorem uf:type_of% @Int.le_refl:=@Int.le_refl
theorem ug:type_of% @Option.some.injEq:=@Option.some.injEq
theorem uh:type_of% @Sem.run_pure:=@Sem.run_pure
theorem ui:type_of% @List.take_append_drop:=@List.take_append_drop
theorem uj:type_of% @List.append_nil:=@List.append_nil
theorem uk:type_of% @List.mem_iff_getElem:=@List.mem_iff_getElem
theorem ul:type_of% @Array.getElem?_setIfInBounds:=@Array.getElem?_setIfInBounds
theorem um:type_of% @List.getElem_mem:=@List.getElem_mem
theorem uo:type_of% @Nat.eq_zero_or_pos:=@Nat.eq_zero_or_pos
theorem uq:type_of% @Array.getElem?_eq_getElem:=@Array.getElem?_eq_getElem
theorem ur:type_of% @List.length_eq_zero_iff:=@List.length_eq_zero_iff
theorem ut:type_of% @List.drop_drop:=@List.drop_drop
theorem uu:type_of% @List.getElem?_drop:=@List.getElem?_drop
theorem uv:type_of% @List.size_toArray:=@List.size_toArray
theorem uw:type_of% @List.getElem?_append:=@List.getElem?_append
theorem ux:type_of% @List.getElem?_take:=@List.getElem?_take
theorem uy:type_of% @Option.map_some:=@Option.map_some
theorem uz:type_of% @List.take_length:=@List.take_length
theorem u4:type_of% @List.getElem?_set:=@List.getElem?_set
theorem u9:type_of% @List.nil_append:=@List.nil_append
theorem vA:type_of% @if_neg:=@if_neg
theorem vC:type_of% @if_pos:=@if_pos
theorem vD:type_of% @congrArg:=@congrArg
theorem vE:type_of% @List.pairwise_iff_getElem:=@List.pairwise_iff_getElem
theorem vF:type_of% @List.flatten_cons:=@List.flatten_cons
theorem vG:type_of% @List.mem_map:=@List.mem_map
theorem vH:type_of% @List.pairwise_append:=@List.pairwise_append
theorem vJ:type_of% @List.pairwise_cons:=@List.pairwise_cons
section
open Go
inductive U where
 |int (n:Int)
 |bool (b:Bool)
 |str (s:ByteArray)
 |val (v:Value)
 |list (l:List (List U))
instance:Inhabited U:=⟨.int 0⟩
def U.toI:U->Int| .int n=>n|_=>0
def U.toB:U->Bool| .bool b=>b|_=>false
def U.toS:U->ByteArray| .str s=>s|_=>ByteArray.empty
def U.toL:U->List (List U)| .list l=>l|_=>[]
inductive Kd where
 |int (k:IntKind) (lo hi:Int)
 |bool
 |str
 |val
 |any
 |list (cells:List Kd)
instance:Inhabited Kd:=⟨.any⟩
inductive CV where
 |nilPtr|nilSlice|nilFunc|nilIface|nilMap
 |str (s:ByteArray)
 deriving DecidableEq
def CV.value:CV->Value
 | .nilPtr=> .pointer none
 | .nilSlice=> .slice none 0 0
 | .nilFunc=> .nilFunc
 | .nilIface=> .nilIface
 | .nilMap=> .map none
 | .str s=> .string s
inductive AC where
 |any
 |anyc
 |on (c:Nat) (a:AC)
 |gd (c:Nat) (a:AC)
 |cb (b:Bool)
 |b (x:Nat)
 |nb (x:Nat)
 |ci (k:IntKind) (n:Int)
 |i (k:IntKind) (lo hi:Int) (x:Nat)
 |cv (c:CV)
 |v (x:Nat)
 |s (x:Nat)
 |ptr (id off:Nat)
 |pix (id base stride cnt x plus:Nat)
 |ro (x:Nat) (ks:List Kd)
 |rp (x t off:Nat) (ks:List Kd)
 |vec (id x:Nat) (ks:List Kd)
 |fn (f:Fn) (first cap:List AC)
 |sel (x:Nat) (alts:List AC)
 |yl (id:Nat)
 |asl (id off len:Nat)
 |rsv (id x:Nat) (ks:List Kd)
 |mr (id y:Nat)
 |mp (id y t sz off:Nat)
 |mv (id:Nat)
 |agg (l:List AC)
 |tup (l:List AC)
instance:Inhabited AC:=⟨.any⟩
inductive YB where
 |ret
 |exit (id:Nat)
 deriving DecidableEq
def YB.code:YB->Code| .ret=> .ret| .exit id=> .exit id
inductive Tr where
 |nil
 |node (v:Option AC) (l r:Tr)
instance:Inhabited Tr:=⟨.nil⟩
def Tr.get:Tr->Nat->Option AC
 | .nil,_=>none
 | .node v l r,i=>bif Nat.beq i 0 then v else bif Nat.beq (i % 2) 1 then l.get (i / 2) else r.get (i / 2 - 1)
def Tr.val:Tr->Option AC| .nil=>none| .node v _ _=>v
def Tr.lt:Tr->Tr| .nil=> .nil| .node _ l _=>l
def Tr.rt:Tr->Tr| .nil=> .nil| .node _ _ r=>r
def Tr.setF:Nat->Tr->Nat->Option AC->Tr
 |0,_,_,_=> .nil
 |f+1,t,i,c=>bif Nat.beq i 0 then .node c t.lt t.rt else bif Nat.beq (i % 2) 1 then .node t.val (Tr.setF f t.lt (i / 2) c) t.rt else .node t.val t.lt (Tr.setF f t.rt (i / 2 - 1) c)
structure AV where
 n:Nat
 loc:List (Nat × AC)
 t:Tr
instance:Inhabited AV:=⟨⟨0,[],.nil⟩⟩
def BF:List (Nat × AC)->Nat->Option AC
 |[],_=>none
 |(j,c)::r,i=>bif Nat.beq j i then some c else BF r i
def AV.get (s:AV)(i:Nat):Option AC:=
 match BF s.loc i with
 |some c=>some c
 |none=>s.t.get i
def AV.set (s:AV)(i:Nat)(c:AC):AV:=bif Nat.blt i s.n then { s with loc:=(i,c)::s.loc } else s
def AV.fix (s:AV)(i:Nat)(c:Option AC):AV:=bif Nat.blt i s.n then { s with t:=Tr.setF 16 s.t i c } else s
def NH (keep:Nat):List (Nat × AC)->Tr->Tr
 |[],t=>t
 |(i,c)::r,t=>let h:=NH keep r t;if keep.testBit i then Tr.setF 16 h i (some c) else match h.get i with|none=>h|some _=>Tr.setF 16 h i none
def AV.commit (s:AV)(keep:Nat):AV:={ s with loc:=[],t:=NH keep s.loc s.t }
structure CO where
 tmps:AV
 ps:Array Tmp
 assign:Code
 body:Code
 jumps:List YB
structure Tab where
 get:Nat->U
 fr:Nat->Nat->Prop
 lp:Nat->CO
 base:Nat
instance:CoeFun Tab (fun _=>Nat->U):=⟨Tab.get⟩
inductive Rf where
 |c (u:U)
 |e (x:Nat)
 |n (x:Nat)
instance:Inhabited Rf:=⟨.c default⟩
def Rf.eval (T:Tab):Rf->U
 | .c u=>u
 | .e x=>T x
 | .n x=> .bool (!(T x).toB)
inductive Tg where
 |s (t:String)
 |loop (j nh k:Nat) (eqs:List (Nat × Tg × List Rf)) (pcn:Option Nat) (nxt:List Rf) (fv:List Nat) (obs:List (Option Nat × Tg × List Rf))
instance:Coe String Tg:=⟨Tg.s⟩
instance:Inhabited Tg:=⟨.s ""⟩
def Tg.str:Tg->String| .s t=>t|_=> "loop"
structure Ex where
 tag:Tg
 f:List U->U
 args:List Rf
def Ex.eval (T:Tab)(e:Ex):U:=e.f (e.args.map (Rf.eval T))
structure Pr where
 tag:Tg
 f:List U->Prop
 args:List Rf
def Pr.holds (T:Tab)(p:Pr):Prop:=p.f (p.args.map (Rf.eval T))
def nQ (a b:Int):Int:=a+b
def pF (a b:Int):Int:=a - b
def ny (a b:Int):Int:=a*b
def pI (a b:Int):Int:=a / b
def Y0 (a b:Int):Int:=a % b
def UT (a b:Int):Int:=a.tdiv b
def gg (a b:Int):Int:=a.tmod b
def DP (op:BinOp)(k:IntKind)(x y:Int):Int:=
 k.wrap (match op with
  | .and=>(BitVec.ofInt k.bits x &&& BitVec.ofInt k.bits y).toNat
  | .or=>(BitVec.ofInt k.bits x ||| BitVec.ofInt k.bits y).toNat
  | .xor=>(BitVec.ofInt k.bits x ^^^ BitVec.ofInt k.bits y).toNat
  |_=>(BitVec.ofInt k.bits x &&& ~~~(BitVec.ofInt k.bits y)).toNat)
def U3 (a b:Int):Int:=min a b
def U1 (a b:Int):Int:=max a b
def u0:List U->U|a::_=>a|_=>default
def u1:List U->U|_::a::_=>a|_=>default
def u2:List U->U|_::_::a::_=>a|_=>default
def o2 (f:Int->Int->Int)(us:List U):U:= .int (f (u0 us).toI (u1 us).toI)
def ZL (us:List U):U:= .int (0 - (u0 us).toI)
def JH (k:IntKind)(f:List U->U)(us:List U):U:= .int (k.wrap (f us).toI)
def oId (us:List U):U:=u0 us
def oLt (us:List U):U:= .bool (decide ((u0 us).toI < (u1 us).toI))
def oLe (us:List U):U:= .bool (decide ((u0 us).toI<=(u1 us).toI))
def oEq (us:List U):U:= .bool (decide ((u0 us).toI=(u1 us).toI))
def oNe (us:List U):U:= .bool (!decide ((u0 us).toI=(u1 us).toI))
def QI (us:List U):U:= .bool ((u0 us).toB&&(u1 us).toB)
def oOr (us:List U):U:= .bool ((u0 us).toB||(u1 us).toB)
def oIf (us:List U):U:=bif (u0 us).toB then u1 us else u2 us
def eB (us:List U):U:= .bool (bif (u0 us).toB then (u1 us).toB else (u2 us).toB)
def VQ (us:List U):U:= .bool !(u0 us).toB
def Pz (us:List U):U:= .int (u0 us).toL.length
def nc (c:Nat)(us:List U):U:=((u0 us).toL.getD (u1 us).toI.toNat []).getD c default
def kdC:Kd->Nat| .int _ _ _=>0| .bool=>1| .str=>2| .list _=>3|_=>4
def coC:Nat->U->U|0,u=> .int u.toI|1,u=> .bool u.toB|2,u=> .str u.toS|3,u=> .list u.toL|_,u=>u
def Ua:Nat->String|0=> "get " |1=> "getb " |2=> "gets " |3=> "getl " |_=> "getv "
def Qy (q c:Nat)(us:List U):U:=coC q (nc c us)
def GX:List U->U| .bool _::_=> .bool false|_=>default
def Tj (us:List U):U:=us.tail.getD (u0 us).toI.toNat (GX us.tail)
def Bh (s:Nat):Nat->List U->List (List U)
 |0,_=>[]
 |k+1,l=>l.take s::Bh s k (l.drop s)
def U.eqv:U->U->Bool
 | .int a,.int b=>decide (a=b)
 | .bool a,.bool b=>a==b
 | .str a,.str b=>decide (a=b)
 |_,_=>false
def EE (l:List (List U))(i c:Nat)(W:List U):List (List U):=l.set i ((l.getD i []).take c++W++(l.getD i []).drop (c+W.length))
def dc (c:Nat)(us:List U):U:= .list (EE (u0 us).toL (u1 us).toI.toNat c (us.drop 2))
def pB (us:List U):U:= .list (List.replicate (u0 us).toI.toNat us.tail)
def BX:List U->List U->Bool
 |[],[]=>true
 |a::l,b::af=>a.eqv b&&BX l af
 |_,_=>false
def Ah (G:Nat)(l:List (List U))(k:List U):Nat:=l.findIdx fun r=>BX (r.take G) k
def ew (G:Nat)(us:List U):U:= .bool (decide (Ah G (u0 us).toL us.tail < (u0 us).toL.length))
def TW (G c:Nat)(us:List U):U:=bif decide (Ah G (u0 us).toL (us.drop 2) < (u0 us).toL.length) then ((u0 us).toL.getD (Ah G (u0 us).toL (us.drop 2)) []).getD (G+c) default else u1 us
def ju (q G c:Nat)(us:List U):U:=coC q (TW G c us)
def BG (G:Nat)(l:List (List U))(k v:List U):List (List U):=bif decide (Ah G l k < l.length) then l.set (Ah G l k) (k++v) else l++[k++v]
def gW (G:Nat)(us:List U):U:= .list (BG G (u0 us).toL (us.tail.take G) (us.tail.drop G))
def Yx (k s:Nat)(us:List U):U:= .list (Bh s k us)
def Rr (us:List U):U:= .list ((u0 us).toL++(u1 us).toL)
def eC (us:List U):U:= .int (u0 us).toS.size
def Bn (s:ByteArray)(i:Nat):Int:=(((s.data.toList.getD i 0).toNat:Nat):Int)
def mO (us:List U):U:= .int (Bn (u0 us).toS (u1 us).toI.toNat)
def O0 (us:List U):U:= .list ((u0 us).toL.take (u1 us).toI.toNat)
def fV (us:List U):U:= .list ((u0 us).toL.drop (u1 us).toI.toNat)
def oB (us:List U):U:= .list (((u0 us).toL.take (u2 us).toI.toNat).drop (u1 us).toI.toNat)
def FX:List U->Bool
 |a::b::l=>a.eqv b&&FX l
 |_=>true
def fM (us:List U):U:= .bool (FX us)
def eN (us:List U):U:= .bool (!FX us)
def ml (us:List U):U:= .bool ((u0 us).toB==(u1 us).toB)
def nl (us:List U):U:= .bool (!((u0 us).toB==(u1 us).toB))
def SA (us:List U):Prop:=(u0 us).toI≠0
def pT (us:List U):Prop:=(u0 us).toB=true
def pIn (us:List U):Prop:=0<=(u0 us).toI/\(u0 us).toI < (u1 us).toI
def Ul (us:List U):Prop:=0<=(u0 us).toI/\(u0 us).toI < (u1 us).toL.length
def dS (us:List U):Prop:=0<=(u1 us).toI/\(u1 us).toI < (u0 us).toS.size
def KM (us:List U):Prop:=0<=(u1 us).toI/\(u1 us).toI<=(u0 us).toL.length
def nT (us:List U):Prop:=0<=(u1 us).toI/\(u1 us).toI<=(u2 us).toI/\(u2 us).toI<=(u0 us).toL.length
def tT (us:List U):Prop:=(u0 us).toI=0
def pNe (us:List U):Prop:=(u0 us).toI≠(u1 us).toI
def Du (ap Y:Int)(us:List U):Prop:=ap<=(u0 us).toI/\(u0 us).toI<=Y
def Gy (b:Nat)(us:List U):Prop:=((u0 us).toL.length+(u1 us).toL.length)*b<=140737488355328
end
section
open Go Go.RowKit
inductive Blk where
 |pad
 |gone
 |cells (l:List AC) (elem:TypeId)
 |tok (x:Nat) (ks:List Kd) (elem:TypeId)
 |lp (stamp:Nat) (st:AC)
 |mrow (x y:Nat) (ks:List Kd) (elem:TypeId)
 |mapb (x:Nat) (kk:List Kd) (ka:Bool) (vk:List Kd) (va:Bool)
instance:Inhabited Blk:=⟨.pad⟩
abbrev Mem:=List Blk
def Mem.at (m:Mem)(id:Nat):Blk:=(m[id]?).getD .pad
def Blk.tracked:Blk->Bool| .gone| .pad=>false|_=>true
def Blk.ptrOk:Blk->Bool| .gone| .cells .. | .lp .. | .mapb .. =>true|_=>false
def CA (T:Tab)(x:Nat)(ks:List Kd):Nat:=(T x).toL.length*ks.length
def AY (T:Tab)(V :Nat->Option Nat)(m:Mem)(w:World)(b off:Nat):Prop:=
 b < w.heap.size/\T.fr b off/\∀id,match m.at id with
  | .pad| .gone=>True
  | .cells _ _| .lp _ _| .mrow _ _ _ _| .mapb _ _ _ _ _=> V id≠some b
  | .tok x ks _=> V id=some b->off < CA T x ks
def AD:Nat:=140737488355328
mutual
def AT (ok:Nat->Nat->Prop)(w:World):Kd->U->Value->Prop
 | .int k ap Y,u,v=>∃n,u= .int n/\v= .int k n/\ap<=n/\n<=Y
 | .bool,u,v=>∃b,u= .bool b/\v= .bool b
 | .str,u,v=>∃s,u= .str s/\(v= .string s/\s.size<=AD)
 | .val,u,v=>u= .val v/\v.oneCell'=true
 | .any,_,v=>v.oneCell'=true
 | .list ks,u,v=>∃l,u= .list l/\l.length<=AD/\(ks=[]->l=[])/\∃a I,v= .slice a l.length I/\l.length<=I/\(0 < l.length->∃b o,a=some ⟨b,o,none⟩/\
   ∀i us,l[i]? =some us->Af ok w ks b (o+i*ks.length) us)
def Af (ok:Nat->Nat->Prop)(w:World):List Kd->Nat->Nat->List U->Prop
 |[],_,_,us=>us=[]
 |k::ks,b,off,us=>∃u h,us=u::h/\(ok b off/\∃v,w.cell? ⟨b,off,none⟩=some v/\AT ok w k u v)/\Af ok w ks b (off+1) h
end
theorem Yt {ok:Nat->Nat->Prop}{w:World}{k:Kd}{u:U}{v:Value}(h:AT ok w k u v):coC (kdC k) u=u:=by
 cases k with
 |int=>obtain⟨n,rfl,_⟩:=h;rfl
 |bool=>obtain⟨n,rfl,_⟩:=h;rfl
 |str=>obtain⟨n,rfl,_⟩:=h;rfl
 |list=>obtain⟨n,rfl,_⟩:=h;rfl
 |val=>rfl
 |any=>rfl
def AP (ok:Nat->Nat->Prop)(w:World):List Kd->List U->List Value->Prop
 |[],us,W=>us=[]/\W=[]
 |k::ks,us,W=>∃u h v q,us=u::h/\W=v::q/\AT ok w k u v/\AP ok w ks h q
def A7 (ok:Nat->Nat->Prop)(w:World)(ks:List Kd):List (List U)->List (List Value)->Prop
 |[],aH=>aH=[]
 |us::l,aH=>∃W h,aH=W::h/\AP ok w ks us W/\A7 ok w ks l h
def Ab (ok:Nat->Nat->Prop)(w:World)(ks:List Kd)(l:List (List U))(W:List Value):Prop:=∃aH,W=aH.flatten/\A7 ok w ks l aH
def Bw (ok:Nat->Nat->Prop)(w:World)(ks:List Kd)(a7:Bool)(us:List U)(v:Value):Prop:=
 ∃W:List Value,AP ok w ks us W/\(if a7 then v= .agg W.toArray else W=[v])
def VP (T:Tab)(V :Nat->Option Nat)(w:World)(id x:Nat)(ks:List Kd)(e:TypeId)(v:Value):Prop:=
 (V id=none/\∃a,v= .slice a (T x).toL.length (T x).toL.length)\/
 ∃b I W, V id=some b/\v= .slice (some ⟨b,0,none⟩) (T x).toL.length I/\w.heap[b]? =some (.cells W e (0,0))/\I*ks.length<=W.size
def UZ (V :Nat->Option Nat)(w:World)(id:Nat)(ks:List Kd)(e:TypeId)(v:Value):Prop:=
 (V id=none/\v= .slice none 0 0)\/
 ∃b len I W, V id=some b/\v= .slice (some ⟨b,0,none⟩) len I/\(len<=I/\len<=68719476736)/\w.heap[b]? =some (.cells W e (0,0))/\I*ks.length<=W.size
def Q1 (V :Nat->Option Nat)(w:World)(id:Nat)(ks:List Kd)(e:TypeId)(a:Option Addr)(I:Nat):Prop:=
 (V id=none/\I=0)\/
 ∃b W, V id=some b/\a=some ⟨b,0,none⟩/\w.heap[b]? =some (.cells W e (0,0))/\I*ks.length<=W.size
mutual
def AA (T:Tab)(n:Nat)(V :Nat->Option Nat)(m:Mem)(w:World):AC->Value->Prop
 | .any,_=>True
 | .anyc,v=>v.oneCell'=true
 | .on c a,v=>c < n/\(T c= .bool true->AA T n V m w a v)
 | .gd c a,v=>c < n/\(T c= .bool true->AA T n V m w a v)/\(T c≠ .bool true->v=undef)
 | .cb b,v=>v= .bool b
 | .b x,v=>x < n/\∃b,T x= .bool b/\v= .bool b
 | .nb x,v=>x < n/\∃b,T x= .bool b/\v= .bool !b
 | .ci k i,v=>v= .int k i
 | .i k ap Y x,v=>x < n/\∃i,T x= .int i/\v= .int k i/\ap<=i/\i<=Y
 | .cv c,v=>v=c.value
 | .v x,v=>x < n/\T x= .val v/\v.oneCell'=true
 | .s x,v=>x < n/\∃s,T x= .str s/\(v= .string s/\s.size<=AD)
 | .ptr id off,v=>∃b, V id=some b/\v= .pointer (some ⟨b,off,none⟩)/\(m.at id).ptrOk=true
 | .pix id base aD aW x aP,v=>x < n/\∃b j, V id=some b/\T x= .int j/\0<=j/\j < aW/\v= .pointer (some ⟨b,base+j.toNat*aD+aP,none⟩)/\(m.at id).ptrOk=true
 | .ro x ks,v=>x < n/\AT (AY T V m w) w (.list ks) (T x) v
 | .rp x t off ks,v=>(x < n/\t < n)/\∃j b o us,T t= .int j/\0<=j/\(T x).toL[j.toNat]? =some us/\v= .pointer (some ⟨b,o+j.toNat*ks.length+off,none⟩)/\
   Af (AY T V m w) w ks b (o+j.toNat*ks.length) us
 | .vec id x ks,v=>x < n/\m.at id≠ .pad/\AT (AY T V m w) w (.list ks) (T x) v/\∀ah e,m.at id= .tok x ah e->VP T V w id x ah e v
 | .fn f first I,v=>∃W us,v= .func f (W:List Value).toArray (us:List Value).toArray/\AB T n V m w first W/\AB T n V m w I us
 | .sel x alts,v=>x < n/\∃j,T x= .int j/\0<=j/\Am T n V m w alts j.toNat v
 | .yl id,v=>∃b, V id=some b/\v= .func (.yield b) #[] #[]/\(m.at id).ptrOk=true
 | .asl id off len,v=>∃b, V id=some b/\v= .slice (some ⟨b,off,none⟩) len len/\(m.at id).ptrOk=true
 | .rsv id x ks,v=>x < n/\m.at id≠ .pad/\T x= .list []/\(∃a len I,v= .slice a len I)/\∀ah e,m.at id= .tok x ah e->UZ V w id ah e v
 | .mr id y,v=>(y < n/\m.at id≠ .pad)/\∃j a I,T y= .int j/\(0<=j/\j<=AD)/\v= .slice a j.toNat I/\(j<=I/\(0 < j->∃b,a=some ⟨b,0,none⟩))/\∀x ks e,m.at id= .mrow x y ks e->Q1 V w id ks e a I
 | .mp id y t sz off,v=>(y < n/\t < n/\m.at id≠ .pad)/\∃j L b,T t= .int j/\T y= .int L/\(0<=j/\j < L)/\v= .pointer (some ⟨b,j.toNat*sz+off,none⟩)/\∀x ks e,m.at id= .mrow x y ks e-> V id=some b
 | .mv id,v=>∃b, V id=some b/\v= .map (some b)/\(m.at id).ptrOk=true
 | .agg l,v=>∃W,v= .agg (W:List Value).toArray/\AB T n V m w l W
 | .tup l,v=>∃W,v= .tuple (W:List Value).toArray/\AB T n V m w l W
def AB (T:Tab)(n:Nat)(V :Nat->Option Nat)(m:Mem)(w:World):List AC->List Value->Prop
 |[],W=>W=[]
 |c::l,W=>∃u us,W=u::us/\AA T n V m w c u/\AB T n V m w l us
def Am (T:Tab)(n:Nat)(V :Nat->Option Nat)(m:Mem)(w:World):List AC->Nat->Value->Prop
 |[],_,_=>False
 |c::_,0,v=>AA T n V m w c v
 |_::l,j+1,v=>Am T n V m w l j v
end
def BJ (T:Tab)(n:Nat)(V :Nat->Option Nat)(m:Mem)(w:World)(id:Nat):Blk->Prop
 | .pad| .gone=>True
 | .cells l e=>∃b W, V id=some b/\w.heap[b]? =some (.cells (W:List Value).toArray e (0,0))/\AB T n V m w l W
 | .tok x ks e=>x < n/\∃l,T x= .list l/\(V id=none\/∃b W, V id=some b/\w.heap[b]? =some (.cells W e (0,0))/\l.length*ks.length<=W.size/\∀off,T.fr b off)
 | .lp x st=>∃(b:Nat) (q:Loop), V id=some b/\w.heap[b]? =some (.loop q)/\q.params=(T.lp x).ps/\q.assign=(T.lp x).assign/\q.body=(T.lp x).body/\q.tmps.size=(T.lp x).tmps.n/\(∀i c,(T.lp x).tmps.get i=some c->AA T n V m w c (q.tmps.getD i undef))/\
   ∃j,AA T n V m w st (.int .i64 j)/\((j=0/\q.state= .ready/\q.pending=none)\/(j= -1/\q.state= .busy)\/∃(k:Nat) (h:YB),j=(k:Int)+1/\(T.lp x).jumps[k]? =some h/\q.state= .done/\q.pending=some h.code)
 | .mrow x y ks e=>(x < n/\y < n)/\∃l,T x= .list l/\T y= .int l.length/\(l.length<=AD/\ks≠[])/\
   ((V id=none/\l=[])\/∃b W us, V id=some b/\w.heap[b]? =some (.cells (W++us:List Value).toArray e (0,0))/\Ab (AY T V m w) w ks l W/\∀off,T.fr b off)
 | .mapb x ai ka aN aU=>x < n/\∃l b aw a6,T x= .list l/\ V id=some b/\w.heap[b]? =some (.map (aw:List MapEntry).toArray a6)/\aw.length=l.length/\l.length<=AD/\
   (∀(i:Nat) (us:List U) (e:MapEntry),l[i]? =some us->aw[i]? =some e->∃u1 u2,us=u1++u2/\Bw (AY T V m w) w ai ka u1 e.key/\Bw (AY T V m w) w aN aU u2 e.val)/\
   ∃base,a6=base+aw.length/\∀(i:Nat) (e:MapEntry),aw[i]? =some e->e.born=base+i
structure AG (T:Tab) (n:Nat) (ρ :Nat->Option Nat) (m:Mem) (w:World):Prop where
 blk:∀id,BJ T n ρ m w id (m.at id)
 inj:∀id id' b,(m.at id).tracked=true->(m.at id').tracked=true-> ρ id=some b-> ρ id'=some b->id=id'
 fr:∀b off,w.heap.size<=b->T.fr b off
structure AH (T:Tab) (n:Nat) (ρ :Nat->Option Nat) (m:Mem) (w:World) (ρ':Nat->Option Nat) (m':Mem) (w':World):Prop where
 os:w'.os=w.os
 tape:w'.tape=w.tape
 output:w'.output=w.output
 size:w.heap.size<=w'.heap.size
 mlen:∀id,m.at id≠ .pad->m'.at id≠ .pad
 rho:∀id,(m.at id).ptrOk=true-> ρ' id= ρ id/\(m'.at id).ptrOk=true
 untr:∀id,m.at id≠ .pad->(m'.at id).tracked=true->(m.at id).tracked=true
 fresh:∀id b,m.at id= .pad->(m'.at id).tracked=true-> ρ' id=some b->w.heap.size<=b
 old:∀k,k < w.heap.size->(∀id,(m.at id).tracked=true-> ρ id≠some k)->w'.heap[k]? =w.heap[k]?
 tok:∀id x ks e,m.at id= .tok x ks e->(m'.at id= .tok x ks e/\ ρ' id= ρ id/\∀b, ρ id=some b->w'.heap[b]? =w.heap[b]?)\/
  ((∀b, ρ id=some b->∀off,off < CA T x ks->w'.cell? ⟨b,off,none⟩=w.cell? ⟨b,off,none⟩)/\
   (m'.at id= .gone\/∃x' ks' e',m'.at id= .tok x' ks' e'/\n<=x'/\∀b', ρ' id=some b'->(ρ id=some b'/\CA T x ks<=CA T x' ks')\/w.heap.size<=b'))
 row:∀id x y ks e,m.at id= .mrow x y ks e->m'.at id= .gone\/∃x' y' ks',m'.at id= .mrow x' y' ks' e/\ks'.length=ks.length/\
  ((y'=y/\ ρ' id= ρ id/\∀b vs, ρ id=some b->w.heap[b]? =some (.cells vs e (0,0))->∃vs',w'.heap[b]? =some (.cells vs' e (0,0))/\vs'.size=vs.size)\/
   (n<=y'/\∀b', ρ' id=some b'-> ρ id=some b'\/w.heap.size<=b'))
end
section
open Go Go.RowKit
variable{id:Nat}
theorem Mem.at_ge {m:Mem}(h:m.length<=id):m.at id= .pad:=by
 simp[Mem.at,uO h]
theorem gC {m:Mem}(h:(m.at id).tracked=true):m.at id≠ .pad:=fun e=>by rw[e] at h;cases h
theorem BI {m:Mem}(h:(m.at id).ptrOk=true):m.at id≠ .pad:=fun e=>by rw[e] at h;cases h
theorem Ls {m:Mem}(h:(m.at id).tracked=true):(m.at id).ptrOk=true\/(∃x ks e,m.at id= .tok x ks e)\/∃x y ks e,m.at id= .mrow x y ks e:=by
 cases z:m.at id with
 |pad=>rw[z] at h;cases h
 |gone=>exact .inl rfl
 |cells l e=>exact .inl rfl
 |lp D q=>exact .inl rfl
 |mapb x ai A aN aU=>exact .inl rfl
 |tok x ks e=>exact .inr (.inl ⟨x,ks,e,rfl⟩)
 |mrow x y ks e=>exact .inr (.inr ⟨x,y,ks,e,rfl⟩)
theorem Be {w Z:World}{b:Nat}(h:Z.heap[b]? =w.heap[b]?)(off:Nat):Z.cell? ⟨b,off,none⟩=w.cell? ⟨b,off,none⟩:=by
 simp only[World.cell?,h]
section
variable {T:Tab}{n ak:Nat}{V ab S:Nat->Option Nat}{m ad Q:Mem}{w Z al:World}
theorem AH.refl (T:Tab)(n:Nat)(V :Nat->Option Nat)(m:Mem)(w:World):AH T n V m w V m w where
 os:=rfl
 tape:=rfl
 output:=rfl
 size:=tY _
 mlen:=fun _ h=>h
 rho:=fun _ h=>⟨rfl,h⟩
 untr:=fun _ _ h=>h
 fresh:=fun id b h q _=>by rw[h] at q;cases q
 old:=fun _ _ _=>rfl
 tok:=fun _ _ _ _ h=> .inl ⟨h,rfl,fun _ _=>rfl⟩
 row:=fun _ x y ks e h=> .inr ⟨x,y,ks,h,rfl,.inl ⟨rfl,rfl,fun _ W _ z=>⟨W,z,rfl⟩⟩⟩
theorem AH.down (h:AH T ak V m w ab ad Z)(F:n<=ak):AH T n V m w ab ad Z:=
 {h with
  tok:=fun id x ks e E=>(h.tok id x ks e E).imp (fun q=>q) fun⟨C,O⟩=>⟨C,O.imp (fun q=>q) fun⟨aA,ah,e',z,A,D⟩=>⟨aA,ah,e',z,t8 F A,D⟩⟩
  row:=fun id x y ks e E=>(h.row id x y ks e E).imp (fun q=>q) fun⟨aA,aS,ah,C,O,z⟩=>⟨aA,aS,ah,C,O,z.imp (fun q=>q) fun⟨A,D⟩=>⟨t8 F A,D⟩⟩ }
variable{id b:Nat}
theorem AH.back (h:AH T n V m w ab ad Z)(q:(ad.at id).tracked=true)(E: ab id=some b):
  w.heap.size<=b\/((m.at id).tracked=true/\ V id=some b):=by
 by_cases D:m.at id= .pad
 .exact .inl (h.fresh id b D q E)
 .have F:=h.untr id D q;rcases Ls F with J|⟨x,ks,e,z⟩|⟨x,y,ks,e,z⟩;rotate_left 2
  .rcases h.row id x y ks e z with C|⟨aA,aS,ah,C,_,⟨_,A,_⟩|⟨_,A⟩⟩
   .rw[C] at q;cases q
   .grind
   .grind
  .exact .inr ⟨F,by rw[<-(h.rho id J).1];exact E⟩
  .rcases h.tok id x ks e z with⟨_,O,_⟩|⟨_,O|⟨aA,ah,e',_,_,A⟩⟩
   .grind
   .rw[O] at q;cases q
   .grind
theorem AH.lone (h:AH T n V m w ab ad Z)(A:AG T n V m w)(E:(m.at id).tracked=true)(D: V id=some b)(J:b < w.heap.size)
  (hn:(ad.at id).tracked=true-> ab id≠some b):∀q,(ad.at q).tracked=true-> ab q≠some b:=by
 intro q F z;rcases h.back F z with C|⟨C,O⟩
 .omega
 .have:=A.inj q id b C E O D;grind
theorem AG.lt (F:AG T n V m w)(E:(m.at id).tracked=true)(z: V id=some b):b < w.heap.size:=by
 have h:=F.blk id;cases A:m.at id with
 |pad=>rw[A] at E;cases E
 |gone=>rw[A] at E;cases E
 |cells l e=>
  rw[A] at h;obtain⟨D,W,C,O,_⟩:=h;rw[z] at C;cases C;exact (te.1 O).1
 |lp st q=>
  rw[A] at h;obtain⟨D,q',C,O,_⟩:=h;rw[z] at C;cases C;exact (te.1 O).1
 |tok x ks e=>
  rw[A] at h;obtain⟨_,r,_,C⟩:=h;rcases C with C|⟨D,W,C,O,_⟩
  .rw[z] at C;cases C
  .rw[z] at C;cases C;exact (te.1 O).1
 |mrow x y ks e=>
  rw[A] at h;obtain⟨_,r,_,_,_,C⟩:=h;rcases C with⟨C,_⟩|⟨D,W,us,C,O,_⟩
  .rw[z] at C;cases C
  .rw[z] at C;cases C;exact (te.1 O).1
 |mapb x ai J aN aU=>
  rw[A] at h;obtain⟨_,_,D,aw,a3,_,C,O,_⟩:=h;rw[z] at C;cases C;exact (te.1 O).1
theorem AH.trans (h:AH T n V m w ab ad Z)(hm:AG T n V m w)(hn:n<=ak)(k:AH T ak ab ad Z S Q al):AH T n V m w S Q al where
 os:=k.os.trans h.os
 tape:=k.tape.trans h.tape
 output:=k.output.trans h.output
 size:=t8 h.size k.size
 mlen:=fun id hp=>k.mlen id (h.mlen id hp)
 rho:=fun id D=>
  have C:=h.rho id D;have O:=k.rho id C.2
  ⟨O.1.trans C.1,O.2⟩
 untr:=fun id hp D=>h.untr id hp (k.untr id (h.mlen id hp) D)
 fresh:=by
  intro id b hp D he;rcases k.back D he with C|⟨C,O⟩
  .exact t8 h.size C
  .exact h.fresh id b hp C O
 old:=by
  intro j hj bt;have C:=h.old j hj bt;rw[<-C];refine k.old j (td hj h.size) ?_;intro id D he;rcases h.back D he with C|⟨C,O⟩
  .omega
  .exact bt id C O
 tok:=by
  intro id x ks e hx;have a9:(m.at id).tracked=true:=by rw[hx];rfl
  have a2:m.at id≠ .pad:=gC a9;rcases h.tok id x ks e hx with⟨C,O,h3⟩|⟨C,O⟩
  .rcases k.tok id x ks e C with⟨J,E,A⟩|⟨J,E⟩
   .refine .inl ⟨J,E.trans O,fun b q=>?_⟩;rw[A b (by rw[O];exact q),h3 b q]
   .refine .inr ⟨fun b q off ho=>?_,?_⟩
    .rw[J b (by rw[O];exact q) off ho];exact Be (h3 b q) off
    .rcases E with E|⟨aA,ah,e',E,A,k4⟩
     .exact .inl E
     .refine .inr ⟨aA,ah,e',E,t8 hn A,fun b' a1=>?_⟩;rcases k4 b' a1 with z|z
      .exact .inl ⟨by rw[<-O];exact z.1,z.2⟩
      .exact .inr (t8 h.size z)
  .
   have gone:(∀b, V id=some b->((ad.at id).tracked=true-> ab id≠some b))->(∀b, V id=some b->∀off,off < CA T x ks->al.cell? ⟨b,off,none⟩=w.cell? ⟨b,off,none⟩):=by
    intro hn b q off ho;rw[<-C b q off ho];have ba:=hm.lt a9 q;exact Be (k.old b (td ba h.size) (h.lone hm a9 q ba (hn b q))) off
   rcases O with O|⟨aA,ah,e',O,h3,F⟩
   .refine .inr ⟨gone (fun b q D=>by rw[O] at D;cases D),?_⟩;have h6:=k.mlen id (h.mlen id a2);cases a6:Q.at id with
    |pad=>exact absurd a6 h6
    |gone=>exact .inl rfl
    |cells l e2=>
     have:=k.untr id (h.mlen id a2) (by rw[a6];rfl);rw[O] at this;cases this
    |lp b8 q2=>
     have:=k.untr id (h.mlen id a2) (by rw[a6];rfl);rw[O] at this;cases this
    |mrow=>
     have:=k.untr id (h.mlen id a2) (by rw[a6];rfl);rw[O] at this;cases this
    |mapb=>
     have:=k.untr id (h.mlen id a2) (by rw[a6];rfl);rw[O] at this;cases this
    |tok x2 bj e2=>
     have:=k.untr id (h.mlen id a2) (by rw[a6];rfl);rw[O] at this;cases this
   .have keep:∀b, V id=some b->∀off,off < CA T x ks->al.cell? ⟨b,off,none⟩=w.cell? ⟨b,off,none⟩:=by
     intro b q off ho;by_cases he: ab id=some b
     .have hp:CA T x ks<=CA T aA ah:=by
       rcases F b he with h5|h5
       .exact h5.2
       .have:=hm.lt a9 q;omega
      rcases k.tok id aA ah e' O with⟨_,_,A⟩|⟨J,_⟩
      .rw[Be (A b he) off];exact C b q off ho
      .rw[J b he off (td ho hp)];exact C b q off ho
     .rw[<-C b q off ho];have ba:=hm.lt a9 q;exact Be (k.old b (td ba h.size) (h.lone hm a9 q ba (fun _=>he))) off
    refine .inr ⟨keep,?_⟩;rcases k.tok id aA ah e' O with⟨J,E,A⟩|⟨J,E⟩
    .refine .inr ⟨aA,ah,e',J,h3,fun b' a1=>F b' (by rw[<-E];exact a1)⟩
    .rcases E with E|⟨x2,bj,e2,E,A,k4⟩
     .exact .inl E
     .refine .inr ⟨x2,bj,e2,E,t8 hn A,fun b' a1=>?_⟩;rcases k4 b' a1 with z|z
      .rcases F b' z.1 with h5|h5
       .exact .inl ⟨h5.1,t8 h5.2 z.2⟩
       .exact .inr h5
      .exact .inr (t8 h.size z)
 row:=by
  intro id x y ks e hx;have gone:ad.at id= .gone->Q.at id= .gone:=fun C=>by
   have a2:=k.mlen id (by rw[C];exact fun h=>by cases h);by_cases D:(Q.at id).tracked=true
   .have:=k.untr id (by rw[C];exact fun h=>by cases h) D;rw[C] at this;cases this
   .cases a6:Q.at id<;>rw[a6] at D a2<;>first|rfl|exact absurd rfl a2|exact absurd rfl D
  rcases h.row id x y ks e hx with C|⟨aA,aS,ah,C,O,h3⟩
  .exact .inl (gone C)
  .rcases k.row id aA aS ah e C with J|⟨x2,y2,bj,J,E,A⟩
   .exact .inl J
   .refine .inr ⟨x2,y2,bj,J,E.trans O,?_⟩;rcases A with⟨A,k4,z⟩|⟨A,k4⟩
    .rcases h3 with⟨h3,F,h5⟩|⟨h3,F⟩
     .refine .inl ⟨A.trans h3,k4.trans F,fun b W q hv=>?_⟩;obtain⟨b5,q1,q2⟩:=h5 b W q hv;obtain⟨b6,q3,q4⟩:=z b b5 (by rw[F];exact q) q1;exact⟨b6,q3,q4.trans q2⟩
     .exact .inr ⟨by rw[A];exact h3,fun b' a1=>F b' (by rw[<-k4];exact a1)⟩
    .refine .inr ⟨t8 hn A,fun b' a1=>?_⟩;rcases k4 b' a1 with z|z
     .rcases h3 with⟨_,F,_⟩|⟨_,F⟩
      .exact .inl (by rw[<-F];exact z)
      .exact F b' z
     .exact .inr (t8 h.size z)
theorem AH.safe0 (h:AH T n V m w ab ad Z){off:Nat}(aa:AY T V m w b off):
  AY T ab ad Z b off/\Z.cell? ⟨b,off,none⟩=w.cell? ⟨b,off,none⟩:=by
 obtain⟨hb,hf,aa⟩:=aa;have ag:∀id,(m.at id).tracked=true-> V id=some b->∃x ks e,m.at id= .tok x ks e/\off < CA T x ks:=by
  intro id D z;have:=aa id;cases A:m.at id with
  |pad=>rw[A] at D;cases D
  |gone=>rw[A] at D;cases D
  |cells l e=>rw[A] at this;exact absurd z this
  |lp st q=>rw[A] at this;exact absurd z this
  |mrow x y ks e=>rw[A] at this;exact absurd z this
  |mapb x ai ka aN aU=>rw[A] at this;exact absurd z this
  |tok x ks e=>rw[A] at this;exact⟨x,ks,e,rfl,this z⟩
 have not:∀id,(ad.at id).tracked=true->(∀x ks e,ad.at id≠ .tok x ks e)-> ab id≠some b:=by
  intro id D hp z;rcases h.back D z with C|⟨C,O⟩
  .omega
  .obtain⟨x,ks,e',A,_⟩:=ag id C O;rcases h.tok id x ks e' A with⟨C,_⟩|⟨_,C|⟨aA,ah,e',C,_⟩⟩
   .exact hp _ _ _ C
   .rw[C] at D;cases D
   .exact hp _ _ _ C
 refine⟨⟨td hb h.size,hf,fun id=>?_⟩,?_⟩
 .cases E:ad.at id with
  |pad=>trivial
  |gone=>trivial
  |cells l e=>exact not id (by rw[E];rfl) (by rw[E];exact fun _ _ _ h=>by cases h)
  |lp st q=>exact not id (by rw[E];rfl) (by rw[E];exact fun _ _ _ h=>by cases h)
  |mrow x y ks e=>exact not id (by rw[E];rfl) (by rw[E];exact fun _ _ _ h=>by cases h)
  |mapb x ai ka aN aU=>exact not id (by rw[E];rfl) (by rw[E];exact fun _ _ _ h=>by cases h)
  |tok aA ah e'=>
   intro z;rcases h.back (by rw[E];rfl) z with C|⟨C,O⟩
   .omega
   .obtain⟨x,ks,e2,A,F⟩:=ag id C O;rcases h.tok id x ks e2 A with⟨C,O,_⟩|⟨_,C|⟨x2,a9,e3,C,_,J⟩⟩
    .rw[E] at C;cases C;exact F
    .rw[E] at C;cases C
    .rw[E] at C;cases C;rcases J b z with h4|h4
     .exact td F h4.2
     .omega
 .by_cases a1:∃id,(m.at id).tracked=true/\ V id=some b
  .obtain⟨id,D,z⟩:=a1;obtain⟨x,ks,e,A,F⟩:=ag id D z;rcases h.tok id x ks e A with⟨_,_,J⟩|⟨C,_⟩
   .exact Be (J b z) off
   .exact C b z off F
  .exact Be (h.old b hb (fun id D z=>a1 ⟨id,D,z⟩)) off
theorem AH.safe (h:AH T n V m w ab ad Z)(_hm:AG T n V m w){off:Nat}(aa:AY T V m w b off):
  AY T ab ad Z b off/\Z.cell? ⟨b,off,none⟩=w.cell? ⟨b,off,none⟩:=h.safe0 aa
end
mutual
theorem AT.mono {ok M:Nat->Nat->Prop}{w Z:World}(h:∀b off,ok b off->M b off/\Z.cell? ⟨b,off,none⟩=w.cell? ⟨b,off,none⟩):
  ∀(k:Kd) (u:U) (v:Value),AT ok w k u v->AT M Z k u v
 | .int _ _ _,_,_,hh=>hh
 | .bool,_,_,hh=>hh
 | .str,_,_,hh=>hh
 | .val,_,_,hh=>hh
 | .any,_,_,hh=>hh
 | .list ks,u,v,⟨l,h0,C,O,a,I,h3,h4,h5⟩=>by
  refine⟨l,h0,C,O,a,I,h3,h4,fun A=>?_⟩;obtain⟨b,o,q,z⟩:=h5 A;exact⟨b,o,q,fun i us Y=>Af.mono h ks b _ us (z i us Y)⟩
theorem Af.mono {ok M:Nat->Nat->Prop}{w Z:World}(h:∀b off,ok b off->M b off/\Z.cell? ⟨b,off,none⟩=w.cell? ⟨b,off,none⟩):
  ∀(ks:List Kd) (b off:Nat) (us:List U),Af ok w ks b off us->Af M Z ks b off us
 |[],_,_,_,hh=>hh
 |k::ks,b,off,us,⟨u,us',e,⟨C,v,O,h3⟩,h4⟩=>
  ⟨u,us',e,⟨(h b off C).1,v,by rw[(h b off C).2];exact O,AT.mono h k u v h3⟩,Af.mono h ks b _ us' h4⟩
end
section
variable {T:Tab}{n ak:Nat}{V ab:Nat->Option Nat}{m ad:Mem}{w Z:World}
variable{id x y:Nat}{v:Value}{M:Nat->Nat->Prop}
theorem AH.link0 (h:AH T n V m w ab ad Z)(hx:x < n)(J:m.at id≠ .pad)
  (hl:∀ks e,m.at id= .tok x ks e->VP T V w id x ks e v):∀ks e,ad.at id= .tok x ks e->VP T ab Z id x ks e v:=by
 intro ks e q;have ht:=h.untr id J (by rw[q];rfl);rcases Ls ht with hk|⟨E,D,A,z⟩|⟨E,y0,D,A,z⟩;rotate_left 2
 .rcases h.row id E y0 D A z with C|⟨_,_,_,C,_⟩<;>rw[q] at C<;>cases C
 .have:=(h.rho id hk).2;rw[q] at this;cases this
 .rcases h.tok id E D A z with⟨C,O,F⟩|⟨_,C|⟨aA,ah,e',C,h4,_⟩⟩
  .rw[q] at C;cases C;rcases hl ks e z with⟨X,ae⟩|⟨b,I,W,X,ae,l3,l4⟩
   .exact .inl ⟨by rw[O];exact X,ae⟩
   .exact .inr ⟨b,I,W,by rw[O];exact X,ae,by rw[F b X];exact l3,l4⟩
  .rw[q] at C;cases C
  .grind
theorem AH.linkR (h:AH T n V m w ab ad Z)(hx:x < n)(J:m.at id≠ .pad)
  (hl:∀ks e,m.at id= .tok x ks e->UZ V w id ks e v):∀ks e,ad.at id= .tok x ks e->UZ ab Z id ks e v:=by
 intro ks e q;have ht:=h.untr id J (by rw[q];rfl);rcases Ls ht with hk|⟨E,D,A,z⟩|⟨E,y0,D,A,z⟩;rotate_left 2
 .rcases h.row id E y0 D A z with C|⟨_,_,_,C,_⟩<;>rw[q] at C<;>cases C
 .have:=(h.rho id hk).2;rw[q] at this;cases this
 .rcases h.tok id E D A z with⟨C,O,F⟩|⟨_,C|⟨aA,ah,e',C,h4,_⟩⟩
  .rw[q] at C;cases C;rcases hl ks e z with⟨X,ae⟩|⟨b,len,I,W,X,ae,l0,l3,l4⟩
   .exact .inl ⟨by rw[O];exact X,ae⟩
   .exact .inr ⟨b,len,I,W,by rw[O];exact X,ae,l0,by rw[F b X];exact l3,l4⟩
  .rw[q] at C;cases C
  .grind
theorem AH.linkM (h:AH T n V m w ab ad Z){a:Option Addr}{I:Nat}(hy:y < n)(ao:m.at id≠ .pad)
  (hl:∀x ks e,m.at id= .mrow x y ks e->Q1 V w id ks e a I):∀x ks e,ad.at id= .mrow x y ks e->Q1 ab Z id ks e a I:=by
 intro x ks e q;have ht:=h.untr id ao (by rw[q];rfl);rcases Ls ht with hk|⟨E,D,F,A⟩|⟨E,y0,D,F,A⟩
 .have:=(h.rho id hk).2;rw[q] at this;cases this
 .rcases h.tok id E D F A with⟨C,_⟩|⟨_,C|⟨_,_,_,C,_⟩⟩<;>rw[q] at C<;>cases C
 .rcases h.row id E y0 D F A with C|⟨aA,aS,ah,C,O,z⟩
  .rw[q] at C;cases C
  .rw[q] at C;cases C;rcases z with⟨z,J,h5⟩|⟨z,_⟩
   .subst z;rcases hl E D e A with⟨X,ae⟩|⟨b,W,X,ae,l3,l4⟩
    .exact .inl ⟨by rw[J];exact X,ae⟩
    .obtain⟨a8,q1,q2⟩:=h5 b W X l3;exact .inr ⟨b,a8,by rw[J];exact X,ae,q1,by rw[q2,O];exact l4⟩
   .omega
theorem AH.ptrM (h:AH T n V m w ab ad Z){b:Nat}(hy:y < n)(F:m.at id≠ .pad)
  (hl:∀x ks e,m.at id= .mrow x y ks e-> V id=some b):∀x ks e,ad.at id= .mrow x y ks e-> ab id=some b:=by
 intro x ks e q;have ht:=h.untr id F (by rw[q];rfl);rcases Ls ht with J|⟨E,D,z,A⟩|⟨E,y0,D,z,A⟩
 .have:=(h.rho id J).2;rw[q] at this;cases this
 .rcases h.tok id E D z A with⟨C,_⟩|⟨_,C|⟨_,_,_,C,_⟩⟩<;>rw[q] at C<;>cases C
 .rcases h.row id E y0 D z A with C|⟨aA,aS,ah,C,O,h3⟩
  .rw[q] at C;cases C
  .grind
theorem AP.mono {ok M:Nat->Nat->Prop}{w Z:World}(h:∀b off,ok b off->M b off/\Z.cell? ⟨b,off,none⟩=w.cell? ⟨b,off,none⟩):∀{ks:List Kd} {us:List U} {W:List Value},AP ok w ks us W->AP M Z ks us W
 |[],_,_,hh=>hh
 |_::_,_,_,⟨u,us',v,vs',C,O,h3,h4⟩=>⟨u,us',v,vs',C,O,AT.mono h _ _ _ h3,AP.mono h h4⟩
theorem A7.mono {ok M:Nat->Nat->Prop}{w Z:World}(h:∀b off,ok b off->M b off/\Z.cell? ⟨b,off,none⟩=w.cell? ⟨b,off,none⟩){ks:List Kd}:∀{l:List (List U)} {aH:List (List Value)},A7 ok w ks l aH->A7 M Z ks l aH
 |[],_,hh=>hh
 |_::_,_,⟨W,vss',C,O,h3⟩=>⟨W,vss',C,AP.mono h O,A7.mono h h3⟩
theorem Ab.mono {ok:Nat->Nat->Prop}{w Z:World}(h:∀b off,ok b off->M b off/\Z.cell? ⟨b,off,none⟩=w.cell? ⟨b,off,none⟩){ks:List Kd}{l:List (List U)}{W:List Value}:Ab ok w ks l W->Ab M Z ks l W
 |⟨aH,C,O⟩=>⟨aH,C,A7.mono h O⟩
theorem Bw.mono {ok:Nat->Nat->Prop}{w Z:World}(h:∀b off,ok b off->M b off/\Z.cell? ⟨b,off,none⟩=w.cell? ⟨b,off,none⟩){ks:List Kd}{a7:Bool}{us:List U}:Bw ok w ks a7 us v->Bw M Z ks a7 us v
 |⟨W,C,O⟩=>⟨W,AP.mono h C,O⟩
mutual
theorem AA.mono0 (h:AH T n V m w ab ad Z)(q:n<=ak):∀(c:AC) (v:Value),AA T n V m w c v->AA T ak ab ad Z c v
 | .any,_,_=>trivial
 | .anyc,_,hh=>hh
 | .on _ a,v,hh=>⟨td hh.1 q,fun z=>AA.mono0 h q a v (hh.2 z)⟩
 | .gd _ a,v,hh=>⟨td hh.1 q,fun z=>AA.mono0 h q a v (hh.2.1 z),hh.2.2⟩
 | .cb _,_,hh=>hh
 | .b _,_,⟨h0,hh⟩=>⟨td h0 q,hh⟩
 | .nb _,_,⟨h0,hh⟩=>⟨td h0 q,hh⟩
 | .ci _ _,_,hh=>hh
 | .i _ _ _ _,_,⟨h0,hh⟩=>⟨td h0 q,hh⟩
 | .cv _,_,hh=>hh
 | .v _,_,⟨h0,hh⟩=>⟨td h0 q,hh⟩
 | .s _,_,⟨h0,hh⟩=>⟨td h0 q,hh⟩
 | .ptr id off,v,⟨b,C,O,h3⟩=>⟨b,by rw[(h.rho id h3).1];exact C,O,(h.rho id h3).2⟩
 | .pix id base aD aW x aP,v,⟨h0,b,j,C,O,h5,h6,h7,h3⟩=>
  ⟨td h0 q,b,j,by rw[(h.rho id h3).1];exact C,O,h5,h6,h7,(h.rho id h3).2⟩
 | .ro x ks,v,⟨h0,O⟩=>⟨td h0 q,AT.mono (fun _ _ aa=>h.safe0 aa) _ _ v O⟩
 | .rp x t off ks,v,⟨h0,j,b,o,us,O,h3,h4,h5,h6⟩=>⟨⟨td h0.1 q,td h0.2 q⟩,j,b,o,us,O,h3,h4,h5,Af.mono (fun _ _ aa=>h.safe0 aa) _ _ _ _ h6⟩
 | .vec id x ks,v,⟨O,h3,h4,h5⟩=>
  ⟨td O q,h.mlen id h3,AT.mono (fun _ _ aa=>h.safe0 aa) _ _ v h4,h.link0 O h3 h5⟩
 | .fn f first I,v,⟨W,us,C,O,h3⟩=>⟨W,us,C,AB.mono0 h q first W O,AB.mono0 h q I us h3⟩
 | .sel x alts,v,⟨h0,j,C,O,h3⟩=>⟨td h0 q,j,C,O,Am.mono0 h q alts j.toNat v h3⟩
 | .yl id,v,⟨b,C,O,h3⟩=>⟨b,by rw[(h.rho id h3).1];exact C,O,(h.rho id h3).2⟩
 | .asl id off len,v,⟨b,C,O,h3⟩=>⟨b,by rw[(h.rho id h3).1];exact C,O,(h.rho id h3).2⟩
 | .rsv id x ks,v,⟨O,h3,h4,h6,h5⟩=>⟨td O q,h.mlen id h3,h4,h6,h.linkR O h3 h5⟩
 | .mr id y,v,⟨⟨h0,h3⟩,j,a,I,C,O,h4,h5,h6⟩=>⟨⟨td h0 q,h.mlen id h3⟩,j,a,I,C,O,h4,h5,h.linkM h0 h3 h6⟩
 | .mp id y t sz off,v,⟨⟨h0,h0',h3⟩,j,L,b,C,O,h4,h5,h6⟩=>⟨⟨td h0 q,td h0' q,h.mlen id h3⟩,j,L,b,C,O,h4,h5,h.ptrM h0 h3 h6⟩
 | .mv id,v,⟨b,C,O,h3⟩=>⟨b,by rw[(h.rho id h3).1];exact C,O,(h.rho id h3).2⟩
 | .agg l,v,⟨W,C,O⟩=>⟨W,C,AB.mono0 h q l W O⟩
 | .tup l,v,⟨W,C,O⟩=>⟨W,C,AB.mono0 h q l W O⟩
theorem AB.mono0 (h:AH T n V m w ab ad Z)(q:n<=ak):∀(l:List AC) (W:List Value),AB T n V m w l W->AB T ak ab ad Z l W
 |[],_,hh=>hh
 |c::l,_,⟨u,us,C,O,h3⟩=>⟨u,us,C,AA.mono0 h q c u O,AB.mono0 h q l us h3⟩
theorem Am.mono0 (h:AH T n V m w ab ad Z)(q:n<=ak):∀(l:List AC) (j:Nat) (v:Value),Am T n V m w l j v->Am T ak ab ad Z l j v
 |[],_,_,hh=>hh
 |c::_,0,v,hh=>AA.mono0 h q c v hh
 |_::l,j+1,v,hh=>Am.mono0 h q l j v hh
end
theorem AA.mono (h:AH T n V m w ab ad Z)(_hm:AG T n V m w)(z:n<=ak)(c:AC)(v:Value)(q:AA T n V m w c v):AA T ak ab ad Z c v:=AA.mono0 h z c v q
theorem AB.mono (h:AH T n V m w ab ad Z)(_hm:AG T n V m w)(z:n<=ak)(l:List AC)(W:List Value)(q:AB T n V m w l W):AB T ak ab ad Z l W:=AB.mono0 h z l W q
theorem AB.length:∀{l:List AC} {W:List Value},AB T n V m w l W->W.length=l.length
 |[],_,h=>by cases h;rfl
 |_::l,_,⟨u,us,C,_,h3⟩=>by subst C;simp[AB.length h3]
theorem AB.get:∀{l:List AC} {W:List Value},AB T n V m w l W->∀{i:Nat} {c:AC},l[i]? =some c->∃u,W[i]? =some u/\AA T n V m w c u
 |_::_,_,⟨u,us,C,O,_⟩,0,c,hc=>by subst C;simp at hc;subst hc;exact⟨u,by simp,O⟩
 |_::l,_,⟨u,us,C,_,h3⟩,i+1,c,hc=>by subst C;simp at hc;simpa using AB.get h3 hc
 |[],_,_,_,_,hc=>by simp at hc
theorem AB.of_get:∀{l:List AC} {W:List Value},W.length=l.length->(∀(i:Nat) (c:AC) (u:Value),l[i]? =some c->W[i]? =some u->AA T n V m w c u)->AB T n V m w l W
 |[],[],_,_=>rfl
 |[],_::_,h,_=>by simp at h
 |_::_,[],h,_=>by simp at h
 |c::l,u::us,h,k=>⟨u,us,rfl,k 0 c u rfl rfl,AB.of_get (by simpa using h) (fun i aV A q z=>k (i+1) aV A (by simpa using q) (by simpa using z))⟩
variable{l:List AC}{W:List Value}
theorem AB.set (h:AB T n V m w l W)(i:Nat){c:AC}{u:Value}(A:AA T n V m w c u):AB T n V m w (l.set i c) (W.set i u):=by
 refine AB.of_get (by simp[h.length]) ?_;intro j aV D C O;rw[u4] at C O;by_cases e:i=j
 .grind
 .simp only[e,if_false] at C O;obtain⟨u2,q,z⟩:=h.get C;grind
theorem AB.drop (h:AB T n V m w l W)(k:Nat):AB T n V m w (l.drop k) (W.drop k):=by
 refine AB.of_get (by simp[h.length]) ?_;intro j c u C O;simp only[uu] at C O;obtain⟨u2,q,z⟩:=h.get C;grind
theorem AB.take (h:AB T n V m w l W)(k:Nat):AB T n V m w (l.take k) (W.take k):=by
 refine AB.of_get (by simp[h.length]) ?_;intro j c u C O;simp only[ux] at C O;split at C
 .rename_i q;simp only[q,if_true] at O;obtain⟨u2,z,A⟩:=h.get C;grind
 .cases C
theorem AB.append {af:List AC}{A:List Value}(h:AB T n V m w l W)(z:AB T n V m w af A):AB T n V m w (l++af) (W++A):=by
 refine AB.of_get (by simp[h.length,z.length]) ?_;intro j c u C O;rw[uw] at C O;rw[h.length] at O;split at C
 .rename_i q;simp only[q,if_true] at O;obtain⟨u2,D,E⟩:=h.get C;grind
 .rename_i q;simp only[q,if_false] at O;obtain⟨u2,D,E⟩:=z.get C;grind
end
end
section
open Go Go.RowKit
abbrev PC:=Option Nat
structure Ob where
 pc:PC
 p:Pr
structure G where
 n:Nat
 eqs:List (Nat × Ex)
 obs:List Ob
 lps:List (Nat × CO):=[]
structure R where
 c:AC
 m:Mem
 us:List Ex:=[]
 ps:List Pr:=[]
def Hh:Nat->List Ex->List (Nat × Ex)->List (Nat × Ex)
 |_,[],aA=>aA
 |n,e::aw,aA=>Hh (n+1) aw ((n,e)::aA)
def G.pushAll (g:G):List Ex->G
 |[]=>g
 |us=>{ g with n:=g.n+us.length,eqs:=Hh g.n us g.eqs }
def pcv (T:Tab):PC->Prop
 |none=>True
 |some c=>T c= .bool true
def Ob.holds (T:Tab)(o:Ob):Prop:=pcv T o.pc->o.p.holds T
def G.needAll (g:G)(ac:PC)(ps:List Pr):G:=
 match ps with
 |[]=>g
 |ps=>{ g with obs:=ps.map (Ob.mk ac)++g.obs }
structure Agr (T:Tab) (g:G):Prop where
 eqs:∀p∈g.eqs,T p.1=p.2.eval T
 lps:∀p∈g.lps,T.lp p.1=p.2
def Aj (T:Tab)(g:G):Prop:=∀o∈g.obs,o.holds T
def New (T:Tab)(n:Nat)(us:List Ex):Prop:=∀j u,us[j]? =some u->T (n+j)=u.eval T
theorem New.nil (T:Tab)(n:Nat):New T n []:=fun j u h=>by simp at h
theorem New.left {T:Tab}{n:Nat}{us z:List Ex}(h:New T n (us++z)):New T n us:=fun j u q=>
 h j u (by rw[tv (tc.1 q).1];exact q)
theorem New.right {T:Tab}{n:Nat}{us q:List Ex}(h:New T n (us++q)):New T (n+us.length) q:=fun j u z=>by
 rw[Nat.add_assoc];exact h _ u (by rw[tw (by omega)];simpa using z)
theorem New.head {T:Tab}{n:Nat}{u:Ex}{us:List Ex}(h:New T n (u::us)):T n=u.eval T:=h 0 u rfl
theorem IF:∀(us:List Ex) (n:Nat) (aA:List (Nat × Ex)) (p:Nat × Ex),p∈Hh n us aA↔p∈aA\/∃j u,us[j]? =some u/\p=(n+j,u)
 |[],n,aA,p=>by simp[Hh]
 |e::aw,n,aA,p=>by
  rw[Hh,IF aw (n+1)];constructor
  .rintro (h|⟨j,u,C,O⟩)
   .cases h with
    |head=>exact .inr ⟨0,e,rfl,rfl⟩
    |tail _ h=>exact .inl h
   .exact .inr ⟨j+1,u,by simpa using C,by rw[O];congr 1;omega⟩
  .rintro (h|⟨j,u,C,O⟩)
   .exact .inl (th _ h)
   .cases j with
    |zero=>simp at C;subst C;subst O;exact .inl (tl ..)
    |succ j=>exact .inr ⟨j,u,by simpa using C,by rw[O];congr 1;omega⟩
def Kd.isAny:Kd->Bool| .any=>true|_=>false
mutual
def Kd.join:Kd->Kd->Kd
 | .int k ap Y,.int k' lo' hi'=>if k=k' then .int k (min ap lo') (max Y hi') else .any
 | .bool,.bool=> .bool
 | .str,.str=> .str
 | .val,.val=> .val
 | .list ks,.list ah=>
  match ks,ah with
  |[],ah=> .list ah
  |ks,[]=> .list ks
  |ks,ah=>if ks.length=ah.length then .list (Kd.joins ks ah) else .any
 |_,_=> .any
def Kd.joins:List Kd->List Kd->List Kd
 |k::ks,k'::ah=>Kd.join k k'::Kd.joins ks ah
 |_,_=>[]
end
mutual
def Kd.beq:Kd->Kd->Bool
 | .int k ap Y,.int k' lo' hi'=>decide (k=k')&&decide (ap=lo')&&decide (Y=hi')
 | .bool,.bool=>true
 | .str,.str=>true
 | .val,.val=>true
 | .any,.any=>true
 | .list ks,.list ah=>Kd.beqs ks ah
 |_,_=>false
def Kd.beqs:List Kd->List Kd->Bool
 |[],[]=>true
 |k::ks,k'::ah=>Kd.beq k k'&&Kd.beqs ks ah
 |_,_=>false
end
mutual
theorem Kd.beq_eq:∀(k q:Kd),Kd.beq k q=true->k=q
 | .int _ _ _,d,h=>by cases d<;>simp_all [Kd.beq]
 | .bool,d,h=>by cases d<;>simp_all [Kd.beq]
 | .str,d,h=>by cases d<;>simp_all [Kd.beq]
 | .val,d,h=>by cases d<;>simp_all [Kd.beq]
 | .any,d,h=>by cases d<;>simp_all [Kd.beq]
 | .list ks,d,h=>by
  cases d<;>simp[Kd.beq] at h;rw[Kd.beqs_eq ks _ h]
theorem Kd.beqs_eq:∀(k q:List Kd),Kd.beqs k q=true->k=q
 |[],d,h=>by cases d<;>simp_all [Kd.beqs]
 |k::ks,d,h=>by
  cases d<;>simp[Kd.beqs] at h;rw[Kd.beq_eq k _ h.1,Kd.beqs_eq ks _ h.2]
end
theorem Kd.joins_len:∀(ks ah:List Kd),ks.length=ah.length->(Kd.joins ks ah).length=ks.length
 |[],[],_=>rfl
 |[],_::_,h=>by simp at h
 |_::_,[],h=>by simp at h
 |k::ks,k'::ah,hl=>by simp[Kd.joins,Kd.joins_len ks ah (by simpa using hl)]
section
variable {ok:Nat->Nat->Prop}{w:World}
theorem AT.one {k:Kd}{u:U}{v:Value}(h:AT ok w k u v):v.oneCell'=true:=by
 cases k with
 |int=>obtain⟨_,_,h,_⟩:=h;rw[h];rfl
 |bool=>obtain⟨_,_,h⟩:=h;rw[h];rfl
 |str=>obtain⟨_,_,h,_⟩:=h;rw[h];rfl
 |val=>exact h.2
 |any=>exact h
 |list ks=>obtain⟨_,_,_,_,_,_,h,_⟩:=h;rw[h];rfl
mutual
theorem Kd.join_l:∀(k q:Kd) (u:U) (v:Value),AT ok w k u v->AT ok w (Kd.join k q) u v
 | .int k ap Y,q,u,v,h=>by
  cases q<;>try (exact h.one)
  rename_i j a3 a2;simp only[Kd.join];split
  .obtain⟨n,C,O,z,A⟩:=h;exact⟨n,C,O,by omega,by omega⟩
  .exact h.one
 | .bool,q,u,v,h=>by cases q<;>first|exact h|exact h.one
 | .str,q,u,v,h=>by cases q<;>first|exact h|exact h.one
 | .val,q,u,v,h=>by cases q<;>first|exact h|exact h.one
 | .any,q,u,v,h=>by cases q<;>exact h.one
 | .list ks,q,u,v,h=>by
  cases q<;>try (exact h.one)
  rename_i ah;have D:=h;obtain⟨l,E,C,O,a,I,z,A,h5⟩:=h;cases ks with
  |nil=>
   obtain rfl:=O rfl;exact⟨[],E,C,fun _=>rfl,a,I,z,A,fun h=>absurd h (by simp)⟩
  |cons c av=>
   cases ah with
   |nil=>exact D
   |cons aV J=>
    simp only[Kd.join];split
    .rename_i F;refine⟨l,E,C,(fun h=>by simp[Kd.joins] at h),a,I,z,A,fun hp=>?_⟩;obtain⟨b,o,h6,h7⟩:=h5 hp;refine⟨b,o,h6,fun i us Y=>?_⟩;have:=Kd.joins_l (c::av) (aV::J) F b _ us (h7 i us Y);rw[Kd.joins_len _ _ F];exact this
    .exact D.one
theorem Kd.joins_l:∀(ks ah:List Kd),ks.length=ah.length->∀(b off:Nat) (us:List U),Af ok w ks b off us->Af ok w (Kd.joins ks ah) b off us
 |[],[],_,_,_,_,h=>h
 |[],_::_,h,_,_,_,_=>by simp at h
 |_::_,[],h,_,_,_,_=>by simp at h
 |k::ks,k'::ah,hl,b,off,us,⟨u,us',e,⟨C,v,O,h3⟩,h4⟩=>
  ⟨u,us',e,⟨C,v,O,Kd.join_l k k' u v h3⟩,Kd.joins_l ks ah (by simpa using hl) b _ us' h4⟩
end
mutual
theorem Kd.join_r:∀(k q:Kd) (u:U) (v:Value),AT ok w q u v->AT ok w (Kd.join k q) u v
 | .int k ap Y,q,u,v,h=>by
  cases q<;>try (exact h.one)
  rename_i j a3 a2;simp only[Kd.join];split
  .rename_i e;obtain⟨n,C,O,z,A⟩:=h;exact⟨n,C,by rw[e];exact O,by omega,by omega⟩
  .exact h.one
 | .bool,q,u,v,h=>by cases q<;>first|exact h|exact h.one
 | .str,q,u,v,h=>by cases q<;>first|exact h|exact h.one
 | .val,q,u,v,h=>by cases q<;>first|exact h|exact h.one
 | .any,q,u,v,h=>by cases q<;>exact h.one
 | .list ks,q,u,v,h=>by
  cases q<;>try (exact h.one)
  rename_i ah;have E:=h;obtain⟨l,F,C,O,a,I,z,A,h5⟩:=h;cases ks with
  |nil=>exact E
  |cons c av=>
   cases ah with
   |nil=>
    obtain rfl:=O rfl;exact⟨[],F,C,fun _=>rfl,a,I,z,A,fun h=>absurd h (by simp)⟩
   |cons aV J=>
    simp only[Kd.join];split
    .rename_i D;refine⟨l,F,C,(fun h=>by simp[Kd.joins] at h),a,I,z,A,fun hp=>?_⟩;obtain⟨b,o,h6,h7⟩:=h5 hp;refine⟨b,o,h6,fun i us Y=>?_⟩;have:=Kd.joins_r (c::av) (aV::J) D b _ us (h7 i us Y);rw[Kd.joins_len _ _ D,D];exact this
    .exact E.one
theorem Kd.joins_r:∀(ks ah:List Kd),ks.length=ah.length->∀(b off:Nat) (us:List U),Af ok w ah b off us->Af ok w (Kd.joins ks ah) b off us
 |[],[],_,_,_,_,h=>h
 |[],_::_,h,_,_,_,_=>by simp at h
 |_::_,[],h,_,_,_,_=>by simp at h
 |k::ks,k'::ah,hl,b,off,us,⟨u,us',e,⟨C,v,O,h3⟩,h4⟩=>
  ⟨u,us',e,⟨C,v,O,Kd.join_r k k' u v h3⟩,Kd.joins_r ks ah (by simpa using hl) b _ us' h4⟩
end
end
inductive Vx where
 |rf (r:Rf)
 |ex (e:Ex)
def Vx.eval (T:Tab):Vx->U| .rf r=>r.eval T| .ex e=>e.eval T
def FG:AC->Option (Kd × Rf)
 | .cb b=>some (.bool,.c (.bool b))
 | .b x=>some (.bool,.e x)
 | .nb x=>some (.bool,.n x)
 | .ci k n=>some (.int k n n,.c (.int n))
 | .i k ap Y x=>some (.int k ap Y,.e x)
 | .cv .nilSlice=>some (.list [],.c (.list []))
 | .cv (.str s)=>if s.size<=65536 then some (.str,.c (.str s)) else none
 | .cv c=>some (.val,.c (.val c.value))
 | .v x=>some (.val,.e x)
 | .s x=>some (.str,.e x)
 | .ro x ks=>some (.list ks,.e x)
 | .vec _ x ks=>some (.list ks,.e x)
 |_=>none
def Ju:Kd->Nat->AC
 | .int k ap Y,x=>if ap=Y then .ci k ap else .i k ap Y x
 | .bool,x=> .b x
 | .str,x=> .s x
 | .val,x=> .v x
 | .any,_=> .anyc
 | .list ks,x=> .ro x ks
def CE (c:AC):Option (IntKind × Int × Int × Rf):=
 match c with
 | .ci k n=>some (k,n,n,.c (.int n))
 | .i k ap Y x=>some (k,ap,Y,.e x)
 |_=>none
def IG (c:AC):Option (Option Bool × Rf):=
 match c with
 | .cb b=>some (some b,.c (.bool b))
 | .b x=>some (none,.e x)
 | .nb x=>some (none,.n x)
 |_=>none
def Io (c:AC):Option (List Kd × Rf):=
 match c with
 | .cv .nilSlice=>some ([],.c (.list []))
 | .ro x ks=>some (ks,.e x)
 | .vec _ x ks=>some (ks,.e x)
 |_=>none
def mkV (g:G)(m:Mem)(k:Kd)(v:Vx)(ps:List Pr:=[]):R:=
 match k,v with
 | .int k ap Y,v=>if ap=Y then { c:= .ci k ap,m,us:=[],ps } else
  match v with
  | .rf (.e x)=>{ c:= .i k ap Y x,m,us:=[],ps }
  | .rf r=>{ c:= .i k ap Y g.n,m,us:=[⟨ "id",oId,[r]⟩],ps }
  | .ex e=>{ c:= .i k ap Y g.n,m,us:=[e],ps }
 |k,.ex e=>{ c:=Ju k g.n,m,us:=[e],ps }
 |k,.rf (.e x)=>{ c:=Ju k x,m,us:=[],ps }
 |k,.rf r=>{ c:=Ju k g.n,m,us:=[⟨ "id",oId,[r]⟩],ps }
def mkI (g:G)(m:Mem)(k:IntKind)(ap Y:Int)(v:Vx)(ps:List Pr:=[]):R:=mkV g m (.int k ap Y) v ps
def mkB (g:G)(m:Mem)(h:Option Bool)(e:Ex)(ps:List Pr:=[]):R:=
 match h with
 |some b=>{ c:= .cb b,m,us:=[],ps }
 |none=>{ c:= .b g.n,m,us:=[e],ps }
def D4:IntKind->String
 | .i8=> "i8" | .i16=> "i16" | .i32=> "i32" | .i64=> "i64" | .u8=> "u8" | .u16=> "u16" | .u32=> "u32" | .u64=> "u64"
def Zy (k:IntKind)(e:Ex):Ex:=⟨D4 k++ " " ++e.tag.str,JH k e.f,e.args⟩
def rng (k:IntKind)(ap Y:Int)(e:Ex):Int × Int × Vx:=
 if k.min<=ap/\Y<=k.max then (ap,Y,.ex e) else (k.min,k.max,.ex (Zy k e))
def ex2 (h:Tg)(f:Int->Int->Int)(a b:Rf):Ex:=⟨h,o2 f,[a,b]⟩
def U6 (n:Int):Option Nat:=(List.range 64).find? fun j=>decide (n=((2 ^ j:Nat):Int) - 1)
def QU (op:BinOp)(k:IntKind)(X C:Int)(am:Rf)(ae O:Int):Option (Int × Int × Vx):=
 if ae=O/\0<=ae/\ae.toNat<=k.bits then
  match op with
  | .shl=>some (rng k (X*((2 ^ ae.toNat:Nat):Int)) (C*((2 ^ ae.toNat:Nat):Int)) (ex2 "mul" ny am (.c (.int ((2 ^ ae.toNat:Nat):Int)))))
  | .shr=>some (X / ((2 ^ ae.toNat:Nat):Int),C / ((2 ^ ae.toNat:Nat):Int),.ex (ex2 "div" pI am (.c (.int ((2 ^ ae.toNat:Nat):Int)))))
  |_=>none
 else none
def Sx (op:BinOp)(k:IntKind)(X C:Int)(am:Rf)(ae O:Int)(ay:Rf):Option ((Int × Int × Vx) × List Pr):=
 match op with
 | .add=>some (if (ae=0/\O=0)/\k.min<=X/\C<=k.max then (X,C,.rf am) else if (X=0/\C=0)/\k.min<=ae/\O<=k.max then (ae,O,.rf ay) else rng k (X+ae) (C+O) (ex2 "add" nQ am ay),[])
 | .sub=>some (if (ae=0/\O=0)/\k.min<=X/\C<=k.max then (X,C,.rf am) else rng k (X - O) (C - ae) (ex2 "sub" pF am ay),[])
 | .mul=>some (rng k (min (min (X*ae) (X*O)) (min (C*ae) (C*O))) (max (max (X*ae) (X*O)) (max (C*ae) (C*O))) (ex2 "mul" ny am ay),[])
 | .quo=>
  if 0 < ae then
   if 0<=X then some (rng k (X / O) (C / ae) (ex2 "div" pI am ay),[])
   else if ae=O then some (rng k (X.tdiv ae) (C.tdiv ae) (ex2 "tdiv" UT am ay),[])
   else some (rng k (min X 0) (max C 0) (ex2 "tdiv" UT am ay),[])
  else some ((k.min,k.max,.ex (Zy k (ex2 "tdiv" UT am ay))),[⟨ "nez",SA,[ay]⟩])
 | .rem=>
  if 0 < ae then
   if 0<=X then some ((if X=C/\ae=O then X % ae else 0,if X=C/\ae=O then X % ae else min C (O - 1),.ex (ex2 "mod" Y0 am ay)),[])
   else some ((max (1 - O) (min X 0),min (O - 1) (max C 0),.ex (ex2 "tmod" gg am ay)),[])
  else some ((min X 0,max C 0,.ex (ex2 "tmod" gg am ay)),[⟨ "nez",SA,[ay]⟩])
 | .and=>match U6 ae with
  |some j=>if (ae=O/\0<=X)/\C<=k.max/\O<=k.max then some ((0,O,.ex (ex2 "mod" Y0 am (.c (.int ((2 ^ j:Nat):Int))))),[]) else some ((k.min,k.max,.ex (ex2 (D4 k++ " and") (DP .and k) am ay)),[])
  |none=>some ((k.min,k.max,.ex (ex2 (D4 k++ " and") (DP .and k) am ay)),[])
 | .or=>some ((k.min,k.max,.ex (ex2 (D4 k++ " or") (DP .or k) am ay)),[])
 | .xor=>some ((k.min,k.max,.ex (ex2 (D4 k++ " xor") (DP .xor k) am ay)),[])
 | .andNot=>some ((k.min,k.max,.ex (ex2 (D4 k++ " andNot") (DP .andNot k) am ay)),[])
 |_=>none
def lz (op:BinOp)(X C:Int)(am:Rf)(ae O:Int)(ay:Rf):Option (Option Bool × Ex):=
 match op with
 | .lss=>some (if C < ae then some true else if O<=X then some false else none,⟨ "lt",oLt,[am,ay]⟩)
 | .leq=>some (if C<=ae then some true else if O < X then some false else none,⟨ "le",oLe,[am,ay]⟩)
 | .gtr=>some (if O < X then some true else if C<=ae then some false else none,⟨ "lt",oLt,[ay,am]⟩)
 | .geq=>some (if O<=X then some true else if C < ae then some false else none,⟨ "le",oLe,[ay,am]⟩)
 | .eql=>some (if C < ae\/O < X then some false else if X=C/\ae=O/\X=ae then some true else none,⟨ "eq",oEq,[am,ay]⟩)
 | .neq=>some (if C < ae\/O < X then some true else if X=C/\ae=O/\X=ae then some false else none,⟨ "ne",oNe,[am,ay]⟩)
 |_=>none
theorem D8 (k:IntKind)(n:Int):k.min<=k.wrap n/\k.wrap n<=k.max:=by
 cases k<;>simp[IntKind.min,IntKind.max,IntKind.wrap,IntKind.signed,IntKind.bits]<;>(try split)<;>omega
theorem EX (k:IntKind)(n:Int)(C:k.min<=n)(O:n<=k.max):k.wrap n=n:=by
 cases k<;>simp[IntKind.min,IntKind.max,IntKind.wrap,IntKind.signed,IntKind.bits] at* <;>(try split)<;>omega
structure eW (T:Tab) (t:Int × Int × Vx) (n:Int):Prop where
 val:t.2.2.eval T= .int n
 lo:t.1<=n
 hi:n<=t.2.1
variable{e:Ex}{T:Tab}{X C am ae O ay a d:Int}{k:IntKind}{ax aE:Rf}{t:Int × Int × Vx}
theorem Jc (k:IntKind){ap Y n:Int}(q:e.eval T= .int n)(C:ap<=n)(O:n<=Y):eW T (rng k ap Y e) (k.wrap n):=by
 unfold rng;split
 .rename_i h;rw[EX k n (by omega) (by omega)];exact⟨q,C,O⟩
 .have:=D8 k n;refine⟨?_,this.1,this.2⟩;show JH k e.f (e.args.map (Rf.eval T))=_;have z:e.f (e.args.map (Rf.eval T))= .int n:=q;simp only[JH,z,U.toI]
theorem fQ (a:X<=am)(b:am<=C)(c:ae<=ay)(d:ay<=O):
  min (min (X*ae) (X*O)) (min (C*ae) (C*O))<=am*ay/\am*ay<=max (max (X*ae) (X*O)) (max (C*ae) (C*O)):=by
 have q:∀x:Int,(min (X*x) (C*x)<=am*x/\am*x<=max (X*x) (C*x)):=by
  intro x;rcases Int.le_total 0 x with h|h
  .have:=Int.mul_le_mul_of_nonneg_right a h;have:=Int.mul_le_mul_of_nonneg_right b h;omega
  .have:=Int.mul_le_mul_of_nonpos_right a h;have:=Int.mul_le_mul_of_nonpos_right b h;omega
 have z:=q ae;have E:=q O;rcases Int.le_total 0 am with h|h
 .have:=Int.mul_le_mul_of_nonneg_left c h;have:=Int.mul_le_mul_of_nonneg_left d h;omega
 .have:=Int.mul_le_mul_of_nonpos_left h c;have:=Int.mul_le_mul_of_nonpos_left h d;omega
theorem V7 {b:Int}(h:a<=b)(hd:0 < d):a.tdiv d<=b.tdiv d:=by
 rw[tdiv_eq_if a d,tdiv_eq_if b d];split<;>split
 .exact Int.ediv_le_ediv hd h
 .omega
 .have C:0<= -a / d:=Int.ediv_nonneg (by omega) (by omega);have O:0<=b / d:=Int.ediv_nonneg (by omega) (by omega);omega
 .have: -b / d<= -a / d:=Int.ediv_le_ediv hd (by omega);omega
theorem dy (hd:0 < d):min a 0<=a.tdiv d/\a.tdiv d<=max a 0:=by
 rw[tdiv_eq_if a d];split
 .have C:0<=a / d:=Int.ediv_nonneg (by omega) (by omega);have O:a / d<=a:=Int.ediv_le_self d (by omega);omega
 .have C:0<= -a / d:=Int.ediv_nonneg (by omega) (by omega);have O: -a / d<= -a:=Int.ediv_le_self d (by omega);omega
theorem U5 (h:0<=a)(hd:0 < d):a % d<=a:=by
 have C:0<=a / d:=Int.ediv_nonneg h (by omega);have O:=Int.mul_nonneg (show 0<=d by omega) C;rw[Int.emod_def];omega
theorem aZ (hd:0 < d):max (1 - d) (min a 0)<=a.tmod d/\a.tmod d<=min (d - 1) (max a 0):=by
 rw[tmod_eq_if a d];split
 .have C:=Int.emod_nonneg a (show d≠0 by omega);have O:=Int.emod_lt_of_pos a hd;have h:a % d<=a:=U5 (by omega) hd;omega
 .have C:=Int.emod_nonneg (-a) (show d≠0 by omega);have O:=Int.emod_lt_of_pos (-a) hd;have h: -a % d<= -a:=U5 (by omega) hd;omega
theorem nL (_hd:d≠0):min a 0<=a.tmod d/\a.tmod d<=max a 0:=by
 have C:(a.tmod d).natAbs<=a.natAbs:=by
  rw[Int.natAbs_tmod];exact Nat.mod_le _ _
 rcases Int.le_total 0 a with h|h
 .have:=Int.tmod_nonneg d h;omega
 .rw[tmod_eq_if a d] at*;split at C
  .grind
  .rename_i O;simp only[O,if_false] at C⊢;have:=Int.emod_nonneg (-a) _hd;omega
theorem fB {n:Int}{j:Nat}(h:U6 n=some j):n=((2 ^ j:Nat):Int) - 1:=by
 unfold U6 at h;grind
theorem qk {w a b:Nat}(h:a < 2 ^ w):(BitVec.ofInt w (a:Int) &&& BitVec.ofInt w (b:Int)).toNat=a &&& (b % 2 ^ w):=by
 grind
theorem kq (k:IntKind){a:Nat}(h:(a:Int)<=k.max):a < 2 ^ k.bits:=by
 cases k<;>simp[IntKind.max,IntKind.signed,IntKind.bits] at* <;>omega
theorem Wn (k:IntKind)(a b:Nat)(h:(a:Int)<=k.max)(q:(b:Int)<=k.max):DP .and k (a:Int) (b:Int)=((a &&& b:Nat):Int):=by
 have C:=kq k h;have O:=kq k q;show k.wrap _=_;have e:((BitVec.ofInt k.bits (a:Int) &&& BitVec.ofInt k.bits (b:Int)).toNat:Int)=((a &&& b:Nat):Int):=by rw[qk C,Nat.mod_eq_of_lt O]
 refine (vD k.wrap e).trans (EX k _ ?_ ?_)
 .have:k.min<=0:=by cases k<;>simp[IntKind.min,IntKind.signed,IntKind.bits]
  omega
 .have:=Nat.and_le_left (n:=a) (m:=b);omega
theorem lY {op:BinOp}{E:IntKind}(h:QU op k X C ax ae O=some t)(e1:ax.eval T= .int am)
  (z:X<=am) (A:am<=C) (a2:ae<=ay) (b2:ay<=O) (P:Program) (aR:TypeId) (w:World):
  ∃n,(binOp op aR (.int k am) (.int E ay)).run P w= .ok (.int k n) w/\eW T t n:=by
 unfold QU at h;split at h
 case isFalse=>cases h
 rename_i hc;obtain rfl:ay=ae:=by omega
 have F:¬ay < 0:=by omega
 have D:min ay.toNat k.bits=ay.toNat:=by omega
 have az:∀J f,(ex2 J f ax (.c (.int ((2 ^ ay.toNat:Nat):Int)))).eval T= .int (f am ((2 ^ ay.toNat:Nat):Int)):=fun J f=>by show U.int (f (Rf.eval T ax).toI _)=_;rw[e1];rfl
 have q:0 < ((2 ^ ay.toNat:Nat):Int):=by have:=Nat.two_pow_pos ay.toNat;omega
 have ao:(2 ^ ay.toNat:Int)=((2 ^ ay.toNat:Nat):Int):=by simp
 split at h
 .cases h;refine⟨k.wrap (am*((2 ^ ay.toNat:Nat):Int)),?_,Jc k (az _ _) (Int.mul_le_mul_of_nonneg_right z (by omega)) (Int.mul_le_mul_of_nonneg_right A (by omega))⟩;simp[binOp,Op.shift,F,D]
 .cases h;refine⟨am / ((2 ^ ay.toNat:Nat):Int),?_,az _ _,Int.ediv_le_ediv q z,Int.ediv_le_ediv q A⟩;simp only[binOp,Op.shift,F,D,if_false,ao,Int.fdiv_eq_ediv_of_nonneg _ (Int.le_of_lt q)];rfl
 .cases h
theorem nS {op:BinOp}{ps:List Pr}(h:Sx op k X C ax ae O aE=some (t,ps))(F:ax.eval T= .int am)(J:aE.eval T= .int ay)
  (D:X<=am) (E:am<=C) (a2:ae<=ay) (b2:ay<=O) (hp:∀p∈ps,p.holds T) (P:Program) (aR:TypeId) (w:World):
  ∃n,(binOp op aR (.int k am) (.int k ay)).run P w= .ok (.int k n) w/\eW T t n:=by
 have az:∀a8 f,(ex2 a8 f ax aE).eval T= .int (f am ay):=fun a8 f=>by simp[ex2,Ex.eval,o2,u0,u1,F,J,U.toI]
 cases op<;>simp only[Sx] at h
 case add=>
  cases h;refine⟨k.wrap (am+ay),by simp[binOp,Op.intArith],?_⟩;split
  .rename_i hc;obtain rfl:ay=0:=by omega
   rw[Int.add_zero,EX k am (by omega) (by omega)];exact⟨F,D,E⟩
  .split
   .rename_i hc;obtain rfl:am=0:=by omega
    rw[Int.zero_add,EX k ay (by omega) (by omega)];exact⟨J,a2,b2⟩
   .exact Jc k (az _ _) (by omega) (by omega)
 case sub=>
  cases h;refine⟨k.wrap (am - ay),by simp[binOp,Op.intArith],?_⟩;split
  .rename_i hc;obtain rfl:ay=0:=by omega
   rw[Int.sub_zero,EX k am (by omega) (by omega)];exact⟨F,D,E⟩
  .exact Jc k (az _ _) (by omega) (by omega)
 case mul=>
  cases h;have A:=fQ D E a2 b2;exact⟨k.wrap (am*ay),by simp[binOp,Op.intArith],Jc k (az _ _) A.1 A.2⟩
 case quo=>
  split at h
  .rename_i hl;have z:ay≠0:=by omega
   split at h
   .rename_i bj;cases h;have e:am.tdiv ay=am / ay:=Int.tdiv_eq_ediv_of_nonneg (by omega);have bl:X / O<=am / ay:=by
     have h3:X / O<=X / ay:=by
      refine Int.le_ediv_of_mul_le (by omega) ?_;have q0:0<=X / O:=Int.ediv_nonneg (by omega) (by omega);have:=Int.mul_le_mul_of_nonneg_left b2 q0;have:=Int.ediv_mul_le X (show O≠0 by omega);omega
     have h4:X / ay<=am / ay:=Int.ediv_le_ediv (by omega) D;omega
    have bc:am / ay<=C / ae:=by
     have h3:am / ay<=am / ae:=by
      refine Int.le_ediv_of_mul_le (by omega) ?_;have q0:0<=am / ay:=Int.ediv_nonneg (by omega) (by omega);have:=Int.mul_le_mul_of_nonneg_left a2 q0;have:=Int.ediv_mul_le am z;omega
     have h4:am / ae<=C / ae:=Int.ediv_le_ediv (by omega) E;omega
    refine⟨k.wrap (am / ay),?_,Jc k (az _ _) bl bc⟩;rw[<-e];simp[binOp,Op.intDiv,z]
   .split at h
    .rename_i he;subst he;obtain rfl:ay=ae:=by omega
     cases h;exact⟨k.wrap (am.tdiv ay),by simp[binOp,Op.intDiv,z],Jc k (az _ _) (V7 D hl) (V7 E hl)⟩
    .cases h;have A:=dy (a:=am) (d:=ay) (by omega);exact⟨k.wrap (am.tdiv ay),by simp[binOp,Op.intDiv,z],Jc k (az _ _) (by omega) (by omega)⟩
  .cases h;have z:ay≠0:=by
    have:=hp ⟨ "nez",SA,[aE]⟩ (by simp);simpa [Pr.holds,SA,u0,J,U.toI] using this
   have q:=D8 k (am.tdiv ay);refine⟨k.wrap (am.tdiv ay),by simp[binOp,Op.intDiv,z],?_,q.1,q.2⟩;simp[Vx.eval,Zy,Ex.eval,JH,ex2,o2,u0,u1,F,J,U.toI,UT]
 case rem=>
  split at h
  .rename_i hl;have z:ay≠0:=by omega
   split at h
   .rename_i bj;cases h;have e:am.tmod ay=am % ay:=Int.tmod_eq_emod_of_nonneg (by omega);have q1:=Int.emod_nonneg am z;have q2:=Int.emod_lt_of_pos am (show 0 < ay by omega);have q3:am % ay<=am:=U5 (by omega) (by omega);refine⟨am % ay,by simp[binOp,Op.intDiv,z,e],az _ _,?_,?_⟩<;>simp only
    .split
     .rename_i hc;obtain rfl:am=X:=by omega
      obtain rfl:ay=ae:=by omega
      exact uf _
     .omega
    .split
     .rename_i hc;obtain rfl:am=X:=by omega
      obtain rfl:ay=ae:=by omega
      exact uf _
     .omega
   .cases h;have A:=aZ (a:=am) (d:=ay) (by omega);refine⟨am.tmod ay,by simp[binOp,Op.intDiv,z],az _ _,?_,?_⟩<;>simp only<;>omega
  .cases h;have z:ay≠0:=by
    have:=hp ⟨ "nez",SA,[aE]⟩ (by simp);simpa [Pr.holds,SA,u0,J,U.toI] using this
   have A:=nL (a:=am) z;refine⟨am.tmod ay,by simp[binOp,Op.intDiv,z],az _ _,?_,?_⟩<;>simp only<;>omega
 case and=>
  split at h
  .rename_i j hj;split at h
   .rename_i hc;cases h;obtain rfl:ay=ae:=by omega
    have hl:=fB hj;obtain⟨a,rfl⟩:∃a:Nat,am=a:=⟨am.toNat,by omega⟩;have bs:0 < 2 ^ j:=Nat.two_pow_pos j;have A:DP .and k (a:Int) ay=(a:Int) % ((2 ^ j:Nat):Int):=by
     have h3:ay=((2 ^ j - 1:Nat):Int):=by omega
     rw[h3,Wn k a (2 ^ j - 1) (by omega) (by omega),Nat.and_two_pow_sub_one_eq_mod];exact Int.natCast_emod a (2 ^ j)
    refine⟨(a:Int) % ((2 ^ j:Nat):Int),?_,?_⟩
    .rw[<-A];simp[binOp,Op.intBits,DP]
    .have e3:(ex2 "mod" Y0 ax (.c (.int ((2 ^ j:Nat):Int)))).eval T= .int ((a:Int) % ((2 ^ j:Nat):Int)):=by show U.int (Y0 (Rf.eval T ax).toI _)=_;rw[F];rfl
     have q1:=Int.emod_nonneg (a:Int) (show ((2 ^ j:Nat):Int)≠0 by omega);have q2:=Int.emod_lt_of_pos (a:Int) (show 0 < ((2 ^ j:Nat):Int) by omega);refine⟨e3,q1,?_⟩;show _<=O;omega
   .cases h;have q:=D8 k;exact⟨DP .and k am ay,by simp[binOp,Op.intBits,DP],az _ _,(q _).1,(q _).2⟩
  .cases h;have q:=D8 k;exact⟨DP .and k am ay,by simp[binOp,Op.intBits,DP],az _ _,(q _).1,(q _).2⟩
 case or=>cases h;have q:=D8 k;exact⟨DP .or k am ay,by simp[binOp,Op.intBits,DP],az _ _,(q _).1,(q _).2⟩
 case xor=>cases h;have q:=D8 k;exact⟨DP .xor k am ay,by simp[binOp,Op.intBits,DP],az _ _,(q _).1,(q _).2⟩
 case andNot=>cases h;have q:=D8 k;exact⟨DP .andNot k am ay,by simp[binOp,Op.intBits,DP],az _ _,(q _).1,(q _).2⟩
 all_goals cases h
theorem X8 {p:Bool->Prop}{q:Bool->Prop}{r:Bool->Prop}(b:Bool)(C:p b)(O:q b)(h:r b):∃b,p b/\q b/\r b:=⟨b,C,O,h⟩
theorem ql {op:BinOp}{D:Option Bool}(h:lz op X C ax ae O aE=some (D,e))(z:ax.eval T= .int am)(A:aE.eval T= .int ay)
  (E:X<=am) (J:am<=C) (F:ae<=ay) (b2:ay<=O) (P:Program) (aR:TypeId) (w:World):
  ∃b,(binOp op aR (.int k am) (.int k ay)).run P w= .ok (.bool b) w/\e.eval T= .bool b/\∀c,D=some c->b=c:=by
 cases op<;>simp only[lz] at h<;>cases h
 case eql=>exact X8 (decide (am=ay)) (by simp[binOp,Op.intCmp]<;>rfl) (by simp[Ex.eval,oEq,u0,u1,z,A,U.toI]) (fun c q=>by
  revert q
  split
  .intro q;cases q;simp;omega
  .split
   .intro q;cases q;simp;omega
   .intro q;cases q)
 case neq=>exact X8 (!decide (am=ay)) (by simp[binOp,Op.intCmp]<;>rfl) (by simp[Ex.eval,oNe,u0,u1,z,A,U.toI]) (fun c q=>by
  revert q
  split
  .intro q;cases q;simp;omega
  .split
   .intro q;cases q;simp;omega
   .intro q;cases q)
 all_goals refine⟨_,by simp[binOp,Op.intCmp]<;>rfl,by simp[Ex.eval,oLt,oLe,u0,u1,z,A,U.toI],fun c q=>?_⟩
 all_goals
  revert q
  split
  .intro q;cases q;simp;omega
  .split
   .intro q;cases q;simp;omega
   .intro q;cases q
mutual
def AC.beq:AC->AC->Bool
 | .any,.any=>true
 | .anyc,.anyc=>true
 | .on c a,.on d p=>Nat.beq c d&&AC.beq a p
 | .gd c a,.gd d p=>Nat.beq c d&&AC.beq a p
 | .cb a,.cb p=>a==p
 | .b x,.b y=>Nat.beq x y
 | .nb x,.nb y=>Nat.beq x y
 | .ci k n,.ci j m=>decide (k=j)&&decide (n=m)
 | .i k ap Y x,.i k' lo' hi' aA=>Nat.beq x aA&&decide (k=k')&&decide (ap=lo')&&decide (Y=hi')
 | .cv a,.cv p=>decide (a=p)
 | .v x,.v y=>Nat.beq x y
 | .ptr a1 a2,.ptr aL c2=>Nat.beq a1 aL&&Nat.beq a2 c2
 | .pix a1 a2 a3 a4 a5 a6,.pix aL c2 c3 c4 c5 c6=>Nat.beq a1 aL&&Nat.beq a2 c2&&Nat.beq a3 c3&&Nat.beq a4 c4&&Nat.beq a5 c5&&Nat.beq a6 c6
 | .s x,.s y=>Nat.beq x y
 | .ro x ks,.ro y ah=>Nat.beq x y&&Kd.beqs ks ah
 | .rp a1 a2 a3 ks,.rp aL c2 c3 ah=>Nat.beq a1 aL&&Nat.beq a2 c2&&Nat.beq a3 c3&&Kd.beqs ks ah
 | .vec a1 a2 ks,.vec aL c2 ah=>Nat.beq a1 aL&&Nat.beq a2 c2&&Kd.beqs ks ah
 | .sel x l,.sel y af=>Nat.beq x y&&AC.beqL l af
 | .yl x,.yl y=>Nat.beq x y
 | .asl a1 a2 a3,.asl aL c2 c3=>Nat.beq a1 aL&&Nat.beq a2 c2&&Nat.beq a3 c3
 | .rsv a1 a2 ks,.rsv aL c2 ah=>Nat.beq a1 aL&&Nat.beq a2 c2&&Kd.beqs ks ah
 | .mr a1 a2,.mr aL c2=>Nat.beq a1 aL&&Nat.beq a2 c2
 | .mp a1 a2 a3 a4 a5,.mp aL c2 c3 c4 c5=>Nat.beq a1 aL&&Nat.beq a2 c2&&Nat.beq a3 c3&&Nat.beq a4 c4&&Nat.beq a5 c5
 | .mv a,.mv c=>Nat.beq a c
 | .fn f a1 a2,.fn f' aL c2=>decide (f=f')&&AC.beqL a1 aL&&AC.beqL a2 c2
 | .agg l,.agg af=>AC.beqL l af
 | .tup l,.tup af=>AC.beqL l af
 |_,_=>false
def AC.beqL:List AC->List AC->Bool
 |[],[]=>true
 |a::l,p::af=>AC.beq a p&&AC.beqL l af
 |_,_=>false
end
def AC.atom:AC->Bool
 | .any| .on _ _| .gd _ _| .agg _| .tup _| .sel _ _=>false
 |_=>true
def AC.cellsOf:AC->Option (List AC)
 | .agg l=>if l.all AC.atom then some l else none
 |c=>if c.atom then some [c] else none
def gR:Value->AC
 | .bool b=> .cb b
 | .int k n=> .ci k n
 | .string s=> .cv (.str s)
 | .pointer none=> .cv .nilPtr
 | .slice none 0 0=> .cv .nilSlice
 | .nilFunc=> .cv .nilFunc
 | .nilIface=> .cv .nilIface
 | .map none=> .cv .nilMap
 | .agg _| .tuple _=> .any
 |_=> .anyc
def Iu:Value->AC
 | .agg av=> .agg (av.toList.map gR)
 |v=>gR v
def Dz (x t:Nat):Nat->Nat->List Kd->List AC × List Ex
 |_,_,[]=>([],[])
 |n,c,k::ks=>
  let (l,us):=Dz x t (n+1) (c+1) ks
  (Ju k n::l,⟨Ua (kdC k)++toString c,Qy (kdC k) c,[.e x,.e t]⟩::us)
def BY (c:AC):Kd × Rf:=(FG c).getD (.any,.c default)
def AC.isPtr:AC->Bool
 | .ptr .. | .pix .. | .rp .. | .mp .. | .fn .. =>true
 |_=>false
def mix (n:Nat)(b:Rf)(c d:AC):AC × List Ex:=
 if AC.beq c d then (c,[]) else
 match FG c,FG d with
 |some (k,r),some (k',r')=>
  if (Kd.join k k').isAny then (.anyc,[]) else (Ju (Kd.join k k') n,[⟨ "if",oIf,[b,r,r']⟩])
 |_,_=>if c.atom&&d.atom then (.anyc,[]) else (.any,[])
def Uz (n:Nat)(b:Rf)(c d:AC):AC × List Ex:=
 if AC.beq c d then (c,[]) else
 if c.isPtr&& !d.isPtr then (.on n c,[⟨ "id",oId,[b]⟩]) else
 if d.isPtr&& !c.isPtr then (.on n d,[⟨ "not",VQ,[b]⟩]) else
 mix n b c d
def Ow (f:Nat->AC->AC->AC × List Ex)(n:Nat):List AC->List AC->List AC × List Ex
 |c::l,d::af=>
  let (a,us):=f n c d;let (r,h):=Ow f (n+us.length) l af
  (a::r,us++h)
 |_,_=>([],[])
def My (n:Nat)(b:Rf)(c d:AC):AC × List Ex:=
 match c,d with
 | .agg l,.agg af=>if l.length=af.length then let (r,us):=Ow (fun n=>mix n b) n l af;(.agg r,us) else (.any,[])
 |c,d=>Uz n b c d
def Fw (n:Nat)(b:Rf)(c d:AC):AC × List Ex:=
 match c,d with
 | .tup l,.tup af=>if l.length=af.length then let (r,us):=Ow (fun n=>My n b) n l af;(.tup r,us) else (.any,[])
 |c,d=>My n b c d
def Qn:List AC->Option (Kd × List Rf)
 |[]=>none
 |[c]=>(FG c).map fun (k,r)=>(k,[r])
 |c::av=>match FG c,Qn av with
  |some (k,r),some (k',l)=>some (Kd.join k k',r::l)
  |_,_=>none
def AC.isFn:AC->Bool
 | .fn .. | .cv .nilFunc=>true
 |_=>false
def Sm (l:List AC)(base aD aW aP:Nat):Option (List AC):=
 (List.range aW).mapM fun j=>l[base+j*aD+aP]?
def JR (g:G)(m:Mem)(x:Nat)(av:List AC)(ps:List Pr):Option R:=
 match Qn av with
 |some (k,rs)=>if k.isAny then none else some { c:=Ju k g.n,m,us:=[⟨ "pick",Tj,.e x::rs⟩],ps }
 |none=>if av.all AC.isFn then some { c:= .sel x av,m,ps } else none
def HH (x:Nat):Nat->List (List AC)->Option (List AC × List Ex)
 |_,[]=>some ([],[])
 |n,av::r=>match Qn av with
  |some (k,rs)=>if k.isAny then none else (HH x (n+1) r).map fun (l,us)=>(Ju k n::l,⟨ "pick",Tj,.e x::rs⟩::us)
  |none=>none
def PV (l:List AC)(base aD aW aP size:Nat):Option (List (List AC)):=(List.range size).mapM fun c=>Sm l base aD aW (aP+c)
def FP (P:Program)(t:TypeId):Option (Nat × Bool):=
 match P.info? t,P.underlying t with
 |some i,some (.struct _)=>some (i.size,true)
 |some i,some (.array _ _)=>some (i.size,true)
 |some _,some _=>some (1,false)
 |_,_=>none
def Of (P:Program)(t:TypeId)(p:AC)(m:Mem)(g:G):Option R:=do
 let (size,agg) <-FP P t
 match p with
 | .ptr id off=>
  match m.at id with
  | .cells l _=>
   let av:=(l.drop off).take size
   if av.length=size then
    if agg then some { c:= .agg av,m } else av[0]?.map fun c=>{ c,m }
   else none
  |_=>none
 | .pix id base aD aW x aP=>
  match m.at id with
  | .cells l _=>do
   if agg then
    let K<-PV l base aD aW aP size;let (ls,us) <-HH x g.n K
    some { c:= .agg ls,m,us }
   else
   let av<-Sm l base aD aW aP
   JR g m x av []
  |_=>none
 | .rp x t off ks=>
  let av:=(ks.drop off).take size
  if av.length=size then
   let (l,us):=Dz x t g.n off av
   if agg then some { c:= .agg l,m,us } else l[0]?.map fun c=>{ c,m,us }
  else none
 | .mp id y t sz off=>
  match m.at id with
  | .mrow x aS ks _=>
   let av:=(ks.drop off).take size
   if (aS=y/\ks.length=sz)/\av.length=size then
    let (l,us):=Dz x t g.n off av
    if agg then some { c:= .agg l,m,us } else l[0]?.map fun c=>{ c,m,us }
   else none
  |_=>none
 |_=>none
def HB (x:Nat)(c:AC)(base aD aP:Nat)(h:List AC):Nat->Nat->Option (List AC × List Ex)
 |0,_=>some (h,[])
 |j+1,n=>do
  let (l,us) <-HB x c base aD aP h j n;let q<-h[base+j*aD+aP]?;let e:Ex:=⟨ "eq",oEq,[.e x,.c (.int j)]⟩;let (d,z):=mix (n+us.length+1) (.e (n+us.length)) c q
  if d.atom then some (l.set (base+j*aD+aP) d,us++(e::z)) else none
def NZ (ks:List Kd)(off:Nat)(l:List Kd):List Kd:=ks.take off++Kd.joins ((ks.drop off).take l.length) l++ks.drop (off+l.length)
def Zg (P:Program)(t:TypeId)(p v:AC)(m:Mem)(g:G):Option R:=do
 let i<-P.info? t;let av<-v.cellsOf
 if av.length=i.size then
  match p with
  | .ptr id off=>
   match m.at id with
   | .cells l e=>if off+i.size<=l.length then some { c:= .any,m:=m.set id (.cells (l.take off++av++l.drop (off+i.size)) e) } else none
   |_=>none
  | .pix id base aD aW x aP=>
   match m.at id,av with
   | .cells l e,[c]=>
    if aD=0 then none else do
    let (l,us) <-HB x c base aD aP l aW g.n
    some { c:= .any,m:=m.set id (.cells l e),us }
   |_,_=>none
  | .mp id y t sz off=>
   match m.at id with
   | .mrow x aS ks e=>
    if (aS=y/\ks.length=sz)/\off+av.length<=sz then
     some { c:= .any,m:=m.set id (.mrow g.n y (NZ ks off (av.map fun c=>(BY c).1)) e),us:=[⟨ "rset " ++toString off,dc off,.e x:: .e t::av.map fun c=>(BY c).2⟩] }
    else none
   |_=>none
  |_=>none
 else none
def Pa (l:List AC)(e:TypeId)(m:Mem):R:={ c:= .ptr m.length 0,m:=m++[.cells l e] }
def IP (P:Program)(t:TypeId)(m:Mem):Option R:=do
 let i<-P.info? t;let z<-i.zero;let l<-(Iu z).cellsOf
 some (Pa l t m)
def nI (t:TypeId)(v:AC)(m:Mem):Option R:=do
 let l<-v.cellsOf
 some (Pa l t m)
def N2 (h:Nat->Option (Nat × Nat))(cells:List AC):List (Nat × AC)->Option (List AC)
 |[]=>some cells
 |(i,v)::rest=>do
  let (off,size) <-h i;let av<-v.cellsOf
  if av.length=size/\off+size<=cells.length then N2 h (cells.take off++av++cells.drop (off+size)) rest else none
def UX (P:Program)(t:TypeId)(parts:List (Nat × AC))(m:Mem):Option R:=do
 let i<-P.info? t;let z<-i.zero;let l<-(Iu z).cellsOf
 match P.underlying t with
 |some (.array _ e)=>do
  let h<-P.info? e;let l<-N2 (fun i=>some (i*h.size,h.size)) l parts
  some { c:= .agg l,m }
 |some (.struct fields)=>do
  let q<-fields.toList.mapM (fun f=>(P.info? f.type).map fun i=>(f.offset,i.size));let l<-N2 (q.toArray[·]?) l parts
  some { c:= .agg l,m }
 |_=>none
def GQ (P:Program)(s:TypeId)(p:AC)(f:Nat)(m:Mem):Option R:=do
 match P.underlying s with
 |some (.struct fields)=>do
  let h<-fields[f]?;let i<-P.info? h.type
  if i.size=0 then none else
  match p with
  | .ptr id off=>some { c:= .ptr id (off+h.offset),m }
  | .pix id base aD aW x aP=>some { c:= .pix id base aD aW x (aP+h.offset),m }
  | .rp x t off ks=>some { c:= .rp x t (off+h.offset) ks,m }
  | .mp id y t sz off=>some { c:= .mp id y t sz (off+h.offset),m }
  |_=>none
 |_=>none
def Qj (g:G)(aO:AC):Option (Nat × List Ex):=
 match aO with
 | .i _ _ _ x=>some (x,[])
 | .ci _ n=>some (g.n,[⟨ "id",oId,[.c (.int n)]⟩])
 |_=>none
def Cg (P:Program)(t:TypeId)(p aO:AC)(m:Mem)(g:G):Option R:=do
 let (_,ap,Y,n) <-CE aO
 match P.underlying t with
 |some (.array len e)=>do
  let i<-P.info? e
  if i.size=0 then none else
  if ap=Y then
   if 0<=ap/\ap < len then
    match p with
    | .ptr id off=>some { c:= .ptr id (off+ap.toNat*i.size),m }
    | .pix id base aD aW x aP=>some { c:= .pix id base aD aW x (aP+ap.toNat*i.size),m }
    | .rp x t off ks=>some { c:= .rp x t (off+ap.toNat*i.size) ks,m }
    | .mp id y t sz off=>some { c:= .mp id y t sz (off+ap.toNat*i.size),m }
    |_=>none
   else none
  else
   match p with
   | .ptr id off=>do
    let (x,us) <-Qj g aO
    some { c:= .pix id off i.size len x 0,m,us,ps:=if 0<=ap/\Y < len then [] else [⟨ "in",pIn,[n,.c (.int len)]⟩] }
   |_=>none
 |some (.slice e)=>do
  let i<-P.info? e
  if ap=Y/\0 < i.size then
   match p with
   | .asl id off len=>if 0<=ap/\ap < len then some { c:= .ptr id (off+ap.toNat*i.size),m } else none
   |_=>aIndexSl i.size p aO n m g
  else aIndexSl i.size p aO n m g
 |_=>none
where aIndexSl (size:Nat) (p aO:AC) (n:Rf) (m:Mem) (g:G):Option R:=do
  let (x,us) <-Qj g aO
  match p with
  | .mr id y=>some { c:= .mp id y x size 0,m,us,ps:=[⟨ "in",pIn,[n,.e y]⟩] }
  | .ro y ks=>if size=ks.length then some { c:= .rp y x 0 ks,m,us,ps:=[⟨ "inl",Ul,[n,.e y]⟩] } else none
  | .vec _ y ks=>if size=ks.length then some { c:= .rp y x 0 ks,m,us,ps:=[⟨ "inl",Ul,[n,.e y]⟩] } else none
  |_=>none
def apart (P:Program)(t:TypeId)(l:List AC)(off:Nat):Option AC:=do
 let (size,agg) <-FP P t
 if agg then
  let av:=(l.drop off).take size
  if av.length=size then some (.agg av) else none
 else l[off]?
def XM (P:Program)(s:TypeId)(x:AC)(f:Nat)(m:Mem):Option R:=
 match P.underlying s,x with
 |some (.struct fields),.agg l=>do
  let h<-fields[f]?;let c<-apart P h.type l h.offset
  some { c,m }
 |_,_=>none
def ZY (P:Program)(t:TypeId)(x aO:AC)(m:Mem)(g:G):Option R:=do
 let (_,ap,Y,n) <-CE aO
 match P.underlying t,x with
 |some (.array len e),.agg l=>do
  let i<-P.info? e
  if ap=Y then
   if 0<=ap/\ap < len then do
    let c<-apart P e l (ap.toNat*i.size)
    some { c,m }
   else none
  else
   let (size,agg) <-FP P e
   if i.size=size then
    match aO with
    | .i _ _ _ x=>do
     if agg then
      let K<-PV l 0 size len 0 size;let (ls,us) <-HH x g.n K
      some { c:= .agg ls,m,us,ps:=if 0<=ap/\Y < len then [] else [⟨ "in",pIn,[n,.c (.int len)]⟩] }
     else
     let av<-Sm l 0 1 len 0
     JR g m x av (if 0<=ap/\Y < len then [] else [⟨ "in",pIn,[n,.c (.int len)]⟩])
    |_=>none
   else none
 |some .string,.s y=>some { c:= .i .u8 0 255 g.n,m,us:=[⟨ "sat",mO,[.e y,n]⟩],ps:=[⟨ "ins",dS,[.e y,n]⟩] }
 |_,_=>none
def Nt (x:AC)(i:Nat)(m:Mem):Option R:=
 match x with
 | .tup l=>l[i]?.map fun c=>{ c,m }
 |_=>none
def Fl (x:AC)(m:Mem):Option R:=
 match x with
 | .on c (.ptr id off)=>some { c:= .ptr id off,m,ps:=[⟨ "t",pT,[.e c]⟩] }
 | .on c (.rp x t off ks)=>some { c:= .rp x t off ks,m,ps:=[⟨ "t",pT,[.e c]⟩] }
 | .on c (.mp id y t sz off)=>some { c:= .mp id y t sz off,m,ps:=[⟨ "t",pT,[.e c]⟩] }
 | .ptr .. | .pix .. | .rp .. | .mp .. =>some { c:=x,m }
 | .fn (.func _) .. =>some { c:=x,m }
 |_=>none
def Rv (c:AC):Option (Option ByteArray × Rf):=
 match c with
 | .cv (.str s)=>if s.size<=65536 then some (some s,.c (.str s)) else none
 | .s x=>some (none,.e x)
 |_=>none
def ceq (c d:AC):Option (Option Bool × List Rf):=
 match CE c,CE d with
 |some (k,X,C,am),some (k',ae,O,ay)=>
  if k=k' then
   if AC.beq c d then some (some true,[])
   else if C < ae\/O < X then some (some false,[])
   else some (none,[am,ay])
  else none
 |_,_=>
  match IG c,IG d with
  |some (some x,_),some (some y,_)=>some (some (x==y),[])
  |some (_,am),some (_,ay)=>if AC.beq c d then some (some true,[]) else some (none,[am,ay])
  |_,_=>
   match Rv c,Rv d with
   |some (some x,_),some (some y,_)=>some (some (decide (x=y)),[])
   |some (_,am),some (_,ay)=>if AC.beq c d then some (some true,[]) else some (none,[am,ay])
   |_,_=>none
def Zw:List AC->List AC->Option (Option Bool × List Rf)
 |[],[]=>some (some true,[])
 |c::l,d::af=>do
  let (k,r) <-ceq c d;let (k',r') <-Zw l af
  match k,k' with
  |some false,_=>some (some false,[])
  |_,some false=>some (some false,[])
  |some true,k'=>some (k',r')
  |none,some true=>some (none,r)
  |none,none=>some (none,r++r')
 |_,_=>none
inductive Ek where
 |int|bool|str
 deriving DecidableEq
def GO (P:Program)(h:TypeId->Option (List Ek)):List Field->Nat->Option (List Ek)
 |[],_=>some []
 |f::fs,off=>do
  if f.offset=off/\f.name≠ "_" then
   let ks<-h f.type
   if P.cellsOf f.type=ks.length then
    let r<-GO P h fs (off+ks.length)
    some (ks++r)
   else none
  else none
def Bo (P:Program):Nat->TypeId->Option (List Ek)
 |0,_=>none
 |d+1,t=>
  match P.underlying t with
  |some .bool=>some [.bool]
  |some (.int _)=>some [.int]
  |some .string=>some [.str]
  |some (.struct fs)=>if P.stoodInHeld t then none else GO P (Bo P d) fs.toList 0
  |some (.array n e)=>do
   let ks<-Bo P d e
   if P.cellsOf e=ks.length then some (List.replicate n ks).flatten else none
  |_=>none
def ekOk (k:Ek)(c:AC):Bool:=
 match k with
 | .int=>(CE c).isSome
 | .bool=>(IG c).isSome
 | .str=>(Rv c).isSome
def Q0:List Ek->List AC->Bool
 |[],[]=>true
 |k::ks,c::l=>ekOk k c&&Q0 ks l
 |_,_=>false
def CB (P:Program)(t:TypeId):Bool:=
 match P.underlying t with
 |some (.struct _)|some (.array _ _)=>true
 |_=>false
def aEq (P:Program)(neg:Bool)(t:TypeId)(x y:AC)(m:Mem)(g:G):Option R:=
 let h:Option (Option Bool × List Rf)->Option R:=fun o=>o.map fun (k,rs)=>if neg then mkB g m (k.map not) ⟨ "nes",eN,rs⟩ else mkB g m k ⟨ "eqs",fM,rs⟩
 match x,y with
 | .agg l,.agg af=>
  match Bo P 12 t with
  |some ks=>if CB P t&&Q0 ks l&& !P.eqGuardType P.depth t then h (Zw l af) else none
  |none=>none
 | .cv .nilPtr,.cv .nilPtr=>match P.underlying t with
  |some (.pointer _)=>h (some (some true,[]))
  |_=>none
 | .ptr ..,.cv .nilPtr=>match P.underlying t with
  |some (.pointer _)=>h (some (some false,[]))
  |_=>none
 |_,_=>match P.underlying t with
  |some .bool=>if (IG x).isSome then (ceq x y).map fun (k,rs)=>if neg then mkB g m (k.map not) ⟨ "neb",nl,rs⟩ else mkB g m k ⟨ "eqb",ml,rs⟩ else none
  |some .string=>if (Rv x).isSome then h (ceq x y) else none
  |_=>none
def Xu (P:Program)(op:BinOp)(t:TypeId)(x y:AC)(m:Mem)(g:G):Option R:=
 match CE x,CE y with
 |some (k,X,C,am),some (k',ae,O,ay)=>
  match QU op k X C am ae O with
  |some (ap,Y,n)=>some (mkI g m k ap Y n)
  |none=>
  if k=k' then
   match Sx op k X C am ae O ay with
   |some ((ap,Y,n),ps)=>some (mkI g m k ap Y n ps)
   |none=>match lz op X C am ae O ay with
    |some (kn,b)=>some (mkB g m (if AC.beq x y then (match op with| .eql=>some true| .neq=>some false|_=>kn) else kn) b)
    |none=>none
  else none
 |_,_=>
  match op with
  | .eql=>aEq P false t x y m g
  | .neq=>aEq P true t x y m g
  |_=>none
def aUn (op:UnOp)(x:AC)(m:Mem)(g:G):Option R:=
 match op with
 | .not=>match x with
  | .cb p=>some { c:= .cb !p,m }
  | .b y=>some { c:= .nb y,m }
  | .nb y=>some { c:= .b y,m }
  |_=>none
 | .neg=>do
  let (k,ap,Y,n) <-CE x;let (ap,Y,n):=rng k (0 - Y) (0 - ap) ⟨ "neg",ZL,[n]⟩
  some (mkI g m k ap Y n)
 |_=>none
def SO (P:Program)(h aG:TypeId)(x:AC)(m:Mem)(g:G):Option R:=
 match P.underlying h,P.underlying aG with
 |some _,some (.int k)=>do
  let (_,ap,Y,n) <-CE x
  if k.min<=ap/\Y<=k.max then some (mkI g m k ap Y (.rf n))
  else some (mkI g m k k.min k.max (.ex ⟨D4 k++ " id",JH k oId,[n]⟩))
 |_,_=>none
def XE (c a b:AC)(m:Mem)(g:G):Option R:=do
 match<-IG c with
 |(some true,_)=>some { c:=a,m }
 |(some false,_)=>some { c:=b,m }
 |(none,x)=>
  match IG a,IG b with
  |some (ka,y),some (kb,z)=>some (mkB g m none (if ka=some true then ⟨ "or",oOr,[x,z]⟩ else if kb=some false then ⟨ "and",QI,[x,y]⟩ else ⟨ "ifb",eB,[x,y,z]⟩))
  |_,_=>none
def pL (P:Program)(t:TypeId)(x:AC)(m:Mem)(g:G):Option R:=
 match P.underlying t with
 |some (.slice _)=>
  match x with
  | .cv .nilSlice=>some { c:= .ci .i64 0,m }
  | .mr _ y=>some { c:= .i .i64 0 AD y,m }
  | .asl _ _ len=>some { c:= .ci .i64 len,m }
  |_=>match Io x with
   |some (_,r)=>some (mkI g m .i64 0 AD (.ex ⟨ "len",Pz,[r]⟩))
   |_=>none
 |some .string=>
  match x with
  | .cv (.str s)=>some { c:= .ci .i64 s.size,m }
  | .s y=>some (mkI g m .i64 0 AD (.ex ⟨ "slen",eC,[.e y]⟩))
  |_=>none
 |some (.map _ _)=>
  match x with
  | .mv id=>match m.at id with
   | .mapb a2 _ _ _ _=>some (mkI g m .i64 0 AD (.ex ⟨ "len",Pz,[.e a2]⟩))
   |_=>none
  |_=>none
 |_=>none
def Yo (h:Bool)(x y:AC)(m:Mem)(g:G):Option R:=do
 let (k,X,C,am) <-CE x;let (k',ae,O,ay) <-CE y
 if k=k' then
  if h then some (mkI g m k (max X ae) (max C O) (.ex (ex2 "max" U1 am ay))) else some (mkI g m k (min X ae) (min C O) (.ex (ex2 "min" U3 am ay)))
 else none
def EH:List Nat->List Nat->Bool
 |[],[]=>true
 |a::l,b::af=>Nat.beq a b&&EH l af
 |_,_=>false
def Cy:List (List AC)->List Kd
 |[]=>[]
 |[l]=>l.map fun c=>(BY c).1
 |l::ls=>Kd.joins (l.map fun c=>(BY c).1) (Cy ls)
def UJ (h:List (List AC)):List Rf:=(h.map fun l=>l.map fun c=>(BY c).2).flatten
def DG (P:Program)(t:TypeId)(len:Nat)(parts:List (Nat × AC))(m:Mem)(g:G):Option R:=do
 match P.underlying t with
 |some (.slice e)=>do
  let i<-P.info? e;let z<-i.zero
  if EH (parts.map (·.1)) (List.range len)=true/\0 < i.size/\0 < len/\len*i.size<=16777216 then
   let h<-parts.mapM fun (_,a)=>a.cellsOf
   if h.all (fun l=>decide (l.length=i.size)) then
    some { c:= .vec m.length g.n (Cy h),m:=m++[.tok g.n (Cy h) e],us:=[⟨ "row " ++toString i.size,Yx len i.size,UJ h⟩] }
   else none
  else if len=0/\parts.length=0/\0 < i.size then do
   let l<-(Iu z).cellsOf
   if l.length=i.size then some { c:= .vec m.length g.n (l.map fun c=>(BY c).1),m:=m++[.tok g.n (l.map fun c=>(BY c).1) e],us:=[⟨ "id",oId,[.c (.list [])]⟩] } else none
  else none
 |_=>none
def M0 (P:Program)(t:TypeId)(len:Nat)(parts:List (Nat × AC))(m:Mem):Option R:=do
 match P.underlying t with
 |some (.slice e)=>do
  let i<-P.info? e;let _<-i.zero
  if EH (parts.map (·.1)) (List.range len)=true/\0 < i.size/\0 < len/\len*i.size<=16777216 then
   let h<-parts.mapM fun (_,a)=>a.cellsOf
   if h.all (fun l=>decide (l.length=i.size)) then
    some { c:= .asl m.length 0 len,m:=m++[.cells h.flatten e] }
   else none
  else none
 |_=>none
def Iq (P:Program)(t:TypeId)(len:Nat)(parts:List (Nat × AC))(m:Mem)(g:G):Option R:=do
 let r<-DG P t len parts m g
 match r.c with
 | .vec _ x ks=>some { r with c:= .ro x ks,m:=m++[.gone] }
 |_=>none
def Gu:List Kd->List Kd->List Kd
 |[],ks=>ks
 |ks,[]=>ks
 |ks,ah=>Kd.joins ks ah
def gh (P:Program)(ar:Array TypeId)(s:AC)(E:List Kd)(aE:Rf)(m:Mem)(g:G):Option R:=do
 let t<-ar[0]?
 match P.underlying t with
 |some (.slice e)=>do
  let i<-P.info? e;let z<-i.zero;let (k1,ax) <-Io s;let ks:=Gu k1 E;let ps:List Pr:=[⟨ "fits " ++toString i.bytes,Gy i.bytes,[ax,aE]⟩]
  if EH ar.toList [t,t]=true/\0 < i.size/\0 < i.bytes/\E.length=i.size/\ks.length=i.size/\z.cells.size=i.size then
   match s with
   | .cv .nilSlice=>some { c:= .vec m.length g.n ks,m:=m++[.tok g.n ks e],us:=[⟨ "app",Rr,[ax,aE]⟩],ps }
   | .vec id y k1=>
    match m.at id with
    | .tok aS k1' e'=>if y=aS/\e=e'/\k1.length=i.size/\Kd.beqs k1 k1'=true then some { c:= .vec id g.n ks,m:=m.set id (.tok g.n ks e),us:=[⟨ "app",Rr,[ax,aE]⟩],ps } else none
    |_=>none
   |_=>none
  else none
 |_=>none
def W5 (P:Program)(ar:Array TypeId)(id y:Nat)(E:List Kd)(aE:Rf)(m:Mem)(g:G):Option R:=do
 let t<-ar[0]?
 match P.underlying t with
 |some (.slice e)=>do
  let i<-P.info? e;let z<-i.zero
  match m.at id with
  | .mrow x aS k1 e'=>
   let ks:=Gu k1 E
   if (y=aS/\e=e')/\EH ar.toList [t,t]=true/\0 < i.size/\0 < i.bytes/\E.length=i.size/\k1.length=i.size/\z.cells.size=i.size then
    some { c:= .mr id (g.n+1),m:=m.set id (.mrow g.n (g.n+1) ks e),us:=[⟨ "app",Rr,[.e x,aE]⟩,⟨ "len",Pz,[.e g.n]⟩],ps:=[⟨ "fits " ++toString i.bytes,Gy i.bytes,[.e x,aE]⟩] }
   else none
  |_=>none
 |_=>none
def CW (s:Nat):Nat->List AC->List (List AC)
 |0,_=>[]
 |k+1,l=>l.take s::CW s k (l.drop s)
def SG (P:Program)(ar:Array TypeId)(s x:AC)(m:Mem)(g:G):Option R:=
 match x with
 | .asl id off len=>
  match m.at id with
  | .cells l _=>do
   let t<-ar[0]?
   match P.underlying t with
   |some (.slice e)=>do
    let i<-P.info? e;let h:=CW i.size len (l.drop off)
    if off+len*i.size<=l.length/\0 < i.size/\0 < len/\len<=65536/\(h.all fun l=>l.all AC.atom)=true then do
     let r<-gh P ar s (Cy h) (.e g.n) m { g with n:=g.n+1 }
     some { r with us:=⟨ "row " ++toString i.size,Yx len i.size,UJ h⟩::r.us }
    else none
   |_=>none
  |_=>none
 | .rsv id y kr=>do
  let t<-ar[0]?
  match P.underlying t,s,m.at id with
  |some (.slice e),.cv .nilSlice,.tok aS ky _=>do
   let i<-P.info? e;let z<-i.zero
   if EH ar.toList [t,t]=true/\0 < i.size/\0 < i.bytes/\i.bytes<=1024/\y=aS/\ky.length=i.size/\kr.length=i.size/\z.cells.size=i.size then
    some { c:= .rsv m.length g.n kr,m:=m++[.tok g.n kr e],us:=[⟨ "id",oId,[.c (.list [])]⟩] }
   else none
  |_,_,_=>none
 |x=>match CE x with
  |some (_,_,_,rn)=>do
   let t<-ar[0]?;let q<-ar[1]?
   match P.underlying t,P.underlying q,s with
   |some (.slice e),some (.int _),.cv .nilSlice=>do
    let i<-P.info? e;let z<-i.zero;let l<-(Iu z).cellsOf;let ks:=l.map fun c=>(BY c).1
    if EH ar.toList [t,q]=true/\0 < i.size/\ks.length=i.size/\z.cells.size=i.size/\i.bytes<=1024 then
     some { c:= .rsv m.length g.n ks,m:=m++[.tok g.n ks e],us:=[⟨ "id",oId,[.c (.list [])]⟩],ps:=[⟨ "between 0 68719476736",Du 0 68719476736,[rn]⟩] }
    else none
   |_,_,_=>none
  |none=>do
   let (E,aE) <-Io x
   gh P ar s E aE m g
def VM (P:Program)(ar:Array TypeId)(s x:AC)(m:Mem)(g:G):Option R:=
 match s with
 | .mr id y=>do
  let (E,aE) <-Io x
  W5 P ar id y E aE m g
 |s=>SG P ar s x m g
def Jo (P:Program)(t:TypeId)(x:AC)(ap Y:Option AC)(m:Mem)(g:G):Option R:=
 match P.underlying t with
 |some (.array n e)=>
  match x,ap,Y with
  | .ptr id off,none,none=>if (P.info? e).isSome then some { c:= .asl id off n,m } else none
  |_,_,_=>none
 |some (.slice e)=>do
  let i<-P.info? e
  match x,ap,Y with
  | .cv .nilSlice,none,some (.ci _ n)=>if n=0 then some { c:= .cv .nilSlice,m } else none
  | .rsv id y ks,none,some (.ci _ n)=>if n=0 then some { c:= .vec id y ks,m } else none
  |x,ap,Y=>do
   let (ks,r) <-Io x
   if i.size=ks.length/\0 < i.size then
    match ap,Y with
    |none,some b=>do
     let (_,_,_,rb) <-CE b
     some { c:= .ro g.n ks,m,us:=[⟨ "take",O0,[r,rb]⟩],ps:=[⟨ "take",KM,[r,rb]⟩] }
    |some a,none=>do
     let (_,_,_,ra) <-CE a
     some { c:= .ro g.n ks,m,us:=[⟨ "drop",fV,[r,ra]⟩],ps:=[⟨ "take",KM,[r,ra]⟩] }
    |some a,some b=>do
     let (_,_,_,ra) <-CE a;let (_,_,_,rb) <-CE b
     some { c:= .ro g.n ks,m,us:=[⟨ "cut",oB,[r,ra,rb]⟩],ps:=[⟨ "cut",nT,[r,ra,rb]⟩] }
    |none,none=>none
   else none
 |_=>none
def Ud (P:Program)(t:TypeId)(x:AC)(ap:Option AC)(Y a2:AC)(m:Mem)(g:G):Option R:=
 match P.underlying t,ap with
 |some (.slice e),none=>do
  let i<-P.info? e;let (_,_,_,rb) <-CE Y
  if AC.beq Y a2 then
   match x,Y with
   | .cv .nilSlice,.ci _ n=>if n=0 then some { c:= .cv .nilSlice,m } else none
   |x,_=>do
    let (ks,r) <-Io x
    if i.size=ks.length/\0 < i.size then
     match x with
     | .vec id y _=>match m.at id with
      | .tok aS ks2 e'=>if (y=aS/\e=e')/\Kd.beqs ks ks2=true then some { c:= .vec id g.n ks,m:=m.set id (.tok g.n ks e),us:=[⟨ "take",O0,[r,rb]⟩],ps:=[⟨ "take",KM,[r,rb]⟩] } else none
      |_=>none
     |_=>some { c:= .vec m.length g.n ks,m:=m++[.tok g.n ks e],us:=[⟨ "take",O0,[r,rb]⟩],ps:=[⟨ "take",KM,[r,rb]⟩] }
    else none
  else none
 |_,_=>none
def Rz (P:Program)(t:TypeId)(len I:AC)(m:Mem)(g:G):Option R:=
 match P.underlying t with
 |some (.slice e)=>do
  let i<-P.info? e;let z<-i.zero;let (k,_,_,r) <-CE len;let l<-(Iu z).cellsOf;let ks:=l.map fun c=>(BY c).1
  if AC.beq len I=true/\k= .i64/\0 < i.size/\ks.length=i.size/\z.cells.size=i.size/\i.bytes<=1024 then
   some { c:= .mr m.length (g.n+1),m:=m++[.mrow g.n (g.n+1) ks e],us:=[⟨ "rep",pB,r::l.map fun c=>(BY c).2⟩,⟨ "id",oId,[r]⟩],ps:=[⟨ "between 0 68719476736",Du 0 68719476736,[r]⟩] }
  else none
 |_=>none
def NX (P:Program)(e:TypeId):Option (List Kd):=do
 let i<-P.info? e;let z<-i.zero;let l<-(Iu z).cellsOf
 if l.length=i.size/\0 < i.size then some (l.map fun c=>(BY c).1) else none
def Ga (ks:List Kd)(e:TypeId)(m:Mem)(g:G):R:={ c:= .mr m.length (g.n+1),m:=m++[.mrow g.n (g.n+1) ks e],us:=[⟨ "id",oId,[.c (.list [])]⟩,⟨ "id",oId,[.c (.int 0)]⟩] }
def Hk (P:Program)(t:TypeId)(len h:Nat)(m:Mem)(g:G):Option R:=
 match P.underlying t with
 |some (.slice e)=>if len=0/\h=0 then (NX P e).map fun ks=>Ga ks e m g else none
 |_=>none
def Nk (P:Program)(t:TypeId)(x:AC)(ap:Option AC)(Y a2:AC)(m:Mem)(g:G):Option R:=
 match P.underlying t,ap,Y with
 |some (.slice e),none,.ci _ n=>if AC.beq Y a2=true/\n=0/\(Io x).isSome=true then (NX P e).map fun ks=>Ga ks e m g else none
 |_,_,_=>none
def LL (P:Program)(ar:Array TypeId)(s x:AC)(m:Mem)(g:G):Option R:=do
 let t<-ar[0]?
 match s,P.underlying t with
 | .cv .nilSlice,some (.slice e)=>do
  let ks<-NX P e;let (E,aE) <-Io x;let r:=Ga ks e m g;let aE<-W5 P ar m.length (g.n+1) E aE r.m { g with n:=g.n+2 }
  some { aE with us:=r.us++aE.us }
 |_,_=>none
def OG (P:Program)(t:TypeId)(len I:AC)(m:Mem)(g:G):Option R:=
 match P.underlying t with
 |some (.slice e)=>do
  let i<-P.info? e;let z<-i.zero;let (k,_,_,r) <-CE len;let l<-(Iu z).cellsOf;let ks:=l.map fun c=>(BY c).1
  if AC.beq len I=true/\k= .i64/\0 < i.size/\ks.length=i.size/\z.cells.size=i.size/\i.bytes<=1024 then
   some { c:= .rsv m.length g.n ks,m:=m++[.tok g.n ks e],us:=[⟨ "id",oId,[.c (.list [])]⟩],ps:=[⟨ "between 0 68719476736",Du 0 68719476736,[r]⟩] }
  else none
 |_=>none
def Qu (h:Bool):AC->List AC->Mem->G->Option R
 |x,[],m,_=>some { c:=x,m }
 |x,y::l,m,g=>do
  let r<-Yo h x y m g;let aE<-Qu h r.c l m { g with n:=g.n+r.us.length }
  some { c:=aE.c,m,us:=r.us++aE.us }
def Id (P:Program)(b:Builtin)(ar:Array TypeId)(args:List AC)(m:Mem)(g:G):Option R:=
 match b,args with
 | .len,[x]=>do
  let t<-ar[0]?
  pL P t x m g
 | .min,[x,y]=>Yo false x y m g
 | .max,[x,y]=>Yo true x y m g
 | .append,[s,x]=>VM P ar s x m g
 | .min,x::y::z::l=>Qu false x (y::z::l) m g
 | .max,x::y::z::l=>Qu true x (y::z::l) m g
 | .cap,[.cv .nilSlice]=>do
  let t<-ar[0]?
  match P.underlying t with
  |some (.slice _)=>some { c:= .ci .i64 0,m }
  |_=>none
 |_,_=>none
def fit (k:Kd)(c:AC):Option (Rf × List Pr):=
 match k,FG c with
 | .int k ap Y,some (.int k' lo' hi',r)=>if k=k' then some (r,if ap<=lo'/\hi'<=Y then [] else [⟨ "between " ++toString ap++ " " ++toString Y,Du ap Y,[r]⟩]) else none
 |k,some (k',r)=>if Kd.beq (Kd.join k' k) k&& !k.isAny then some (r,[]) else none
 |_,_=>none
def K5:Kd->Option Ek
 | .int _ _ _=>some .int
 | .bool=>some .bool
 | .str=>some .str
 |_=>none
def XQ (P:Program):Nat->TypeId->Option (List Kd)
 |0,_=>none
 |d+1,t=>
  match P.underlying t with
  |some .bool=>some [.bool]
  |some (.int k)=>some [.int k k.min k.max]
  |some .string=>some [.str]
  |some (.struct fs)=>(fs.toList.mapM fun f=>XQ P d f.type).map List.flatten
  |some (.array n e)=>(XQ P d e).map fun ks=>(List.replicate n ks).flatten
  |some (.slice e)=>(XQ P d e).map fun ks=>[.list ks]
  |_=>none
def Ig:Bool->AC->Option (List AC)
 |true,.agg l=>some l
 |true,_=>none
 |false,.agg _=>none
 |false,.tup _=>none
 |false,c=>some [c]
def Mw:List Kd->List AC->Option (List Rf × List Pr)
 |[],[]=>some ([],[])
 |k::ks,c::l=>do
  let (r,ps) <-fit k c;let (rs,qs) <-Mw ks l
  some (r::rs,ps++qs)
 |_,_=>none
def PB (P:Program)(h:TypeId)(ai:List Kd)(q:Bool):Bool:=
 (CB P h==q)&&(match Bo P 12 h with|some ks=>decide (ai.map K5=ks.map some)|none=>false)
def SC (P:Program)(t:TypeId)(m:Mem)(g:G):Option R:=
 match P.underlying t with
 |some (.map kt et)=>do
  let ai<-XQ P 6 kt;let aN<-XQ P 6 et
  some { c:= .mv m.length,m:=m++[.mapb g.n ai (CB P kt) aN (CB P et)],us:=[⟨ "id",oId,[.c (.list [])]⟩] }
 |_=>none
def G2 (x G:Nat)(rs:List Rf):Nat->Nat->List Kd->List Rf->List AC × List Ex
 |n,c,k::ks,z::A=>
  let (l,us):=G2 x G rs (n+1) (c+1) ks A
  (Ju k n::l,⟨ "m" ++Ua (kdC k)++toString G++ " " ++toString c,ju (kdC k) G c,.e x::z::rs⟩::us)
 |_,_,_,_=>([],[])
def U4 (P:Program)(t:TypeId)(x aO:AC)(ok:Bool)(m:Mem)(g:G):Option R:=
 match P.underlying t,x with
 |some (.map kt et),.mv id=>
  match m.at id with
  | .mapb a2 ai ka aN aU=>
   if PB P kt ai ka then do
    let h<-Ig ka aO;let (rs,ps) <-Mw ai h;let i<-P.info? et;let z<-i.zero;let q<-Ig aU (Iu z);let (A,qs) <-Mw aN q
    if qs.isEmpty then
     let (l,us):=G2 a2 ai.length rs g.n 0 aN A;let v:=if aU then AC.agg l else l.headD .any
     if ok then some { c:= .tup [v,.b (g.n+us.length)],m,us:=us++[⟨ "mhas " ++toString ai.length,ew ai.length,.e a2::rs⟩],ps }
     else some { c:=v,m,us,ps }
    else none
   else none
  |_=>none
 |_,_=>none
def Nm (P:Program)(t:TypeId)(x aO v:AC)(m:Mem)(g:G):Option R:=
 match P.underlying t,x with
 |some (.map kt _),.mv id=>
  match m.at id with
  | .mapb a2 ai ka aN aU=>
   if PB P kt ai ka then do
    let h<-Ig ka aO;let (rs,ps) <-Mw ai h;let q<-Ig aU v;let (W,qs) <-Mw aN q
    some { c:= .any,m:=m.set id (.mapb g.n ai ka aN aU),us:=[⟨ "mset " ++toString ai.length,gW ai.length,.e a2::(rs++W)⟩],ps:=ps++qs++[⟨ "fits 1",Gy 1,[.e a2,.c (.list [[]])]⟩] }
   else none
  |_=>none
 |_,_=>none
def aOp (P:Program)(az:Operand->AC)(op:Op)(m:Mem)(g:G):Option R:=
 match op with
 | .move x| .assign x=>some { c:=az x,m }
 | .pick c a b=>XE (az c) (az a) (az b) m g
 | .alloc t=>IP P t m
 | .box t x=>nI t (az x) m
 | .build t parts=>UX P t (parts.toList.map fun (i,x)=>(i,az x)) m
 | .buildSlice t len parts=>DG P t len (parts.toList.map fun (i,x)=>(i,az x)) m g
 | .load t a=>Of P t (az a) m g
 | .store t a x=>Zg P t (az a) (az x) m g
 | .nilCheck x=>Fl (az x) m
 | .binOp op t x y _=>Xu P op t (az x) (az y) m g
 | .unOp op _ x=>aUn op (az x) m g
 | .convert s d x=>SO P s d (az x) m g
 | .makeFunc aF first I=>some { c:= .fn aF (first.toList.map az) (I.toList.map az),m }
 | .fieldAddr t x f=>GQ P t (az x) f m
 | .field t x f=>XM P t (az x) f m
 | .indexAddr t x i=>Cg P t (az x) (az i) m g
 | .index t x i=>ZY P t (az x) (az i) m g
 | .extract x i=>Nt (az x) i m
 | .slice t x ap Y none=>Jo P t (az x) (ap.map az) (Y.map az) m g
 | .slice t x ap (some Y) (some a2)=>Ud P t (az x) (ap.map az) (az Y) (az a2) m g
 | .makeSlice t n c=>OG P t (az n) (az c) m g
 | .makeMap t none=>SC P t m g
 | .lookup t x aO ok=>U4 P t (az x) (az aO) ok m g
 | .mapUpdate t x aO v=>Nm P t (az x) (az aO) (az v) m g
 | .call { callee:= .builtin b,args,argTypes }=>Id P b argTypes (args.toList.map az) m g
 |_=>none
def EM (k:Nat)(P:Program)(az:Operand->AC)(op:Op)(m:Mem)(g:G):Option R:=
 match k with
 |0=>aOp P az op m g
 |1=>match op with
  | .makeSlice t n c=>Rz P t (az n) (az c) m g
  | .buildSlice t len parts=>Hk P t len parts.size m g
  | .slice t x ap (some Y) (some a2)=>Nk P t (az x) (ap.map az) (az Y) (az a2) m g
  | .call { callee:= .builtin .append,args,argTypes }=>match args.toList.map az with
   |[s,x]=>LL P argTypes s x m g
   |_=>none
  |_=>none
 |_=>match op with
  | .buildSlice t len parts=>if k=3 then Iq P t len (parts.toList.map fun (i,x)=>(i,az x)) m g else M0 P t len (parts.toList.map fun (i,x)=>(i,az x)) m
  |op=>aOp P az op m g
end
section
open Go Go.RowKit
mutual
theorem AC.beq_eq:∀(c d:AC),AC.beq c d=true->c=d
 | .any,d,h=>by cases d<;>simp_all [AC.beq]
 | .anyc,d,h=>by cases d<;>simp_all [AC.beq]
 | .on c a,d,h=>by
  cases d<;>simp[AC.beq] at h;rw[h.1,AC.beq_eq a _ h.2]
 | .gd c a,d,h=>by
  cases d<;>simp[AC.beq] at h;rw[h.1,AC.beq_eq a _ h.2]
 | .cb a,d,h=>by cases d<;>simp_all [AC.beq]
 | .b a,d,h=>by cases d<;>simp_all [AC.beq]
 | .nb a,d,h=>by cases d<;>simp_all [AC.beq]
 | .ci k n,d,h=>by cases d<;>simp_all [AC.beq]
 | .i k ap Y x,d,h=>by cases d<;>simp_all [AC.beq]
 | .cv a,d,h=>by cases d<;>simp_all [AC.beq]
 | .v a,d,h=>by cases d<;>simp_all [AC.beq]
 | .s a,d,h=>by cases d<;>simp_all [AC.beq]
 | .ptr _ _,d,h=>by cases d<;>simp_all [AC.beq]
 | .pix _ _ _ _ _ _,d,h=>by cases d<;>simp_all [AC.beq]
 | .ro x ks,d,h=>by
  cases d<;>simp[AC.beq] at h;rw[h.1,Kd.beqs_eq ks _ h.2]
 | .rp _ _ _ ks,d,h=>by
  cases d<;>simp[AC.beq] at h;rw[h.1.1.1,h.1.1.2,h.1.2,Kd.beqs_eq ks _ h.2]
 | .vec _ _ ks,d,h=>by
  cases d<;>simp[AC.beq] at h;rw[h.1.1,h.1.2,Kd.beqs_eq ks _ h.2]
 | .fn f a1 a2,d,h=>by
  cases d<;>simp[AC.beq] at h;rw[h.1.1,AC.beqL_eq a1 _ h.1.2,AC.beqL_eq a2 _ h.2]
 | .sel x l,d,h=>by
  cases d<;>simp[AC.beq] at h;rw[h.1,AC.beqL_eq l _ h.2]
 | .yl x,d,h=>by cases d<;>simp_all [AC.beq]
 | .asl a1 a2 a3,d,h=>by cases d<;>simp_all [AC.beq]
 | .rsv a1 a2 ks,d,h=>by
  cases d<;>simp[AC.beq] at h;rw[h.1.1,h.1.2,Kd.beqs_eq ks _ h.2]
 | .mr a1 a2,d,h=>by cases d<;>simp_all [AC.beq]
 | .mp a1 a2 a3 a4 a5,d,h=>by cases d<;>simp_all [AC.beq]
 | .mv a1,d,h=>by cases d<;>simp_all [AC.beq]
 | .agg l,d,h=>by
  cases d<;>simp[AC.beq] at h;rw[AC.beqL_eq l _ h]
 | .tup l,d,h=>by
  cases d<;>simp[AC.beq] at h;rw[AC.beqL_eq l _ h]
theorem AC.beqL_eq:∀(l af:List AC),AC.beqL l af=true->l=af
 |[],af,h=>by cases af<;>simp_all [AC.beqL]
 |a::l,af,h=>by
  cases af<;>simp[AC.beqL] at h;rw[AC.beq_eq a _ h.1,AC.beqL_eq l _ h.2]
end
section
variable {T:Tab}{n ak:Nat}{V :Nat->Option Nat}{m:Mem}{w:World}
theorem AG.mono {ak:Nat}(A:AG T n V m w)(z:n<=ak):AG T ak V m w where
 blk:=fun id=>by
  have h:=A.blk id;cases D:m.at id with
  |pad=>trivial
  |gone=>trivial
  |cells l e=>
   rw[D] at h;obtain⟨b,W,C,O,E⟩:=h;exact⟨b,W,C,O,AB.mono (AH.refl T n V m w) A z l W E⟩
  |tok x ks e=>
   rw[D] at h;exact⟨td h.1 z,h.2⟩
  |mrow x y ks e=>
   rw[D] at h;exact⟨⟨td h.1.1 z,td h.1.2 z⟩,h.2⟩
  |mapb x ai ka aN aU=>
   rw[D] at h;exact⟨td h.1 z,h.2⟩
  |lp x st=>
   rw[D] at h;obtain⟨b,q,C,O,E,F,J,h9,h6,j,h7,h8⟩:=h;exact⟨b,q,C,O,E,F,J,h9,fun i c hc=>AA.mono (AH.refl T n V m w) A z _ _ (h6 i c hc),j,AA.mono (AH.refl T n V m w) A z _ _ h7,h8⟩
 inj:=A.inj
 fr:=A.fr
variable{c d:AC}{v:Value}{l:List AC}{k:Kd}{r aB:Rf}{b:Bool}{n0:Nat}
theorem AA.up0 {ak:Nat}(q:n<=ak)(h:AA T n V m w c v):AA T ak V m w c v:=
 AA.mono0 (AH.refl T n V m w) q c v h
theorem AA.up {ak:Nat}(q:AG T n V m w)(z:n<=ak)(h:AA T n V m w c v):AA T ak V m w c v:=
 AA.mono (AH.refl T n V m w) q z c v h
theorem AB.up {ak:Nat}(q:AG T n V m w)(z:n<=ak){c:List AC}{v:List Value}(h:AB T n V m w c v):AB T ak V m w c v:=
 AB.mono (AH.refl T n V m w) q z c v h
theorem CV.one (c:CV):c.value.oneCell'=true:=by cases c<;>rfl
theorem HL (q:c.atom=true)(h:AA T n V m w c v):v.oneCell'=true:=by
 cases c<;>simp[AC.atom] at q
 case anyc=>exact h
 case cb=>rw[show v=_ from h];rfl
 case b=>obtain⟨_,b,_,h⟩:=h;rw[h];rfl
 case nb=>obtain⟨_,b,_,h⟩:=h;rw[h];rfl
 case ci=>rw[show v=_ from h];rfl
 case i=>obtain⟨_,i,_,h,_⟩:=h;rw[h];rfl
 case cv c=>rw[show v=_ from h];exact c.one
 case v=>exact h.2.2
 case s=>obtain⟨_,i,_,h,_⟩:=h;rw[h];rfl
 case ptr=>obtain⟨b,_,h,_⟩:=h;rw[h];rfl
 case pix=>obtain⟨_,b,j,_,_,_,_,h,_⟩:=h;rw[h];rfl
 case ro=>exact h.2.one
 case rp=>obtain⟨_,j,b,o,us,_,_,_,h,_⟩:=h;rw[h];rfl
 case vec=>exact h.2.2.1.one
 case fn=>obtain⟨_,_,h,_⟩:=h;rw[h];rfl
 case yl=>obtain⟨b,_,h,_⟩:=h;rw[h];rfl
 case asl=>obtain⟨b,_,h,_⟩:=h;rw[h];rfl
 case rsv=>obtain⟨_,_,_,⟨a,len,I,h⟩,_⟩:=h;rw[h];rfl
 case mr=>obtain⟨_,j,a,I,_,_,h,_⟩:=h;rw[h];rfl
 case mp=>obtain⟨_,j,L,b,_,_,_,h,_⟩:=h;rw[h];rfl
 case mv=>obtain⟨b,_,h,_⟩:=h;rw[h];rfl
theorem lJ (h:v.oneCell'=true):v.cells= #[v]:=by
 cases v<;>simp[Value.oneCell'] at h<;>rfl
theorem AB.ones {W:List Value}(z:l.all AC.atom=true)(h:AB T n V m w l W):∀v∈W,v.oneCell'=true:=by
 intro v A;obtain⟨i,Y⟩:=List.getElem?_of_mem A;have q:i < l.length:=by rw[<-h.length];exact (tc.1 Y).1
 obtain⟨u,C,O⟩:=h.get (tZ q);rw[Y] at C;cases C;exact HL (uK.1 z _ (um q)) O
theorem CP (z:c.cellsOf=some l)(h:AA T n V m w c v):
  ∃W,v.cells=(W:List Value).toArray/\AB T n V m w l W/\l.all AC.atom=true/\(∀u∈W,u.oneCell'=true):=by
 have one:∀c:AC,c.atom=true->AA T n V m w c v->∃W,v.cells=(W:List Value).toArray/\AB T n V m w [c] W/\[c].all AC.atom=true/\(∀u∈W,u.oneCell'=true):=by
  intro c q h;exact⟨[v],lJ (HL q h),⟨v,[],rfl,h,rfl⟩,by simp[q],by intro u A;simp at A;rw[A];exact HL q h⟩
 cases c
 case agg af=>
  simp only[AC.cellsOf] at z;split at z
  .rename_i q;cases z;obtain⟨W,C,O⟩:=h;exact⟨W,by rw[C];rfl,O,q,O.ones q⟩
  .cases z
 all_goals
  simp only[AC.cellsOf] at z;split at z
  .rename_i q;cases z;exact one _ q h
  .cases z
theorem YL (v:Value):AA T n V m w (gR v) v:=by
 have one:∀u:Value,u.oneCell'=true->AA T n V m w .anyc u:=fun _ h=>h;cases v with
 |pointer a=>cases a<;>first|exact rfl|exact one _ rfl
 |slice a l c=>
  cases a with
  |some a=>exact one _ rfl
  |none=>
   cases l with
   |succ l=>exact one _ rfl
   |zero=>cases c<;>first|exact rfl|exact one _ rfl
 |map r=>cases r<;>first|exact rfl|exact one _ rfl
 |agg _=>exact trivial
 |tuple _=>exact trivial
 |bool _=>exact rfl
 |int _ _=>exact rfl
 |string _=>exact rfl
 |nilFunc=>exact rfl
 |nilIface=>exact rfl
 |float _ _=>exact one _ rfl
 |complex _ _ _=>exact one _ rfl
 |chan _=>exact one _ rfl
 |func _ _ _=>exact one _ rfl
 |iface _ _=>exact one _ rfl
theorem Hb (v:Value):AA T n V m w (Iu v) v:=by
 cases v
 case agg av=>
  refine⟨av.toList,by simp,AB.of_get (by simp) ?_⟩;intro i c u C O;simp only[uP] at C;rw[O] at C;simp at C;subst C;exact YL u
 all_goals (unfold Iu;exact YL _)
theorem evc (T:Tab)(u:U):Rf.eval T (.c u)=u:=rfl
theorem eve (T:Tab)(x:Nat):Rf.eval T (.e x)=T x:=rfl
theorem evn (T:Tab)(x:Nat):Rf.eval T (.n x)= .bool (!(T x).toB):=rfl
theorem Gp (ok:Nat->Nat->Prop)(ks:List Kd):AT ok w (.list ks) (.list []) (.slice none 0 0):=
 ⟨[],rfl,by simp,fun _=>rfl,none,0,rfl,tY _,fun h=>absurd h (by simp)⟩
theorem CV.kd {c:CV}(aa:FG (.cv c)=some (k,r))(h:v=c.value)(ok:Nat->Nat->Prop):AT ok w k (r.eval T) v:=by
 subst h;cases c
 case str s=>
  simp only[FG] at aa;split at aa
  .rename_i q;cases aa;exact⟨s,rfl,rfl,t8 q (by decide)⟩
  .cases aa
 all_goals simp only[FG] at aa<;>cases aa
 case nilSlice=>exact Gp _ _
 all_goals exact⟨rfl,rfl⟩
theorem HX (q:FG c=some (k,r))(h:AA T n V m w c v):AT (AY T V m w) w k (r.eval T) v:=by
 cases c
 case cv c=>exact CV.kd q h _
 all_goals simp only[FG] at q<;>cases q
 case cb=>exact⟨_,rfl,h⟩
 case b=>obtain⟨_,i,C,O⟩:=h;exact⟨i,C,O⟩
 case nb=>obtain⟨_,i,C,O⟩:=h;exact⟨!i,by simp[Rf.eval,C,U.toB],O⟩
 case ci=>exact⟨_,rfl,h,uf _,uf _⟩
 case i=>obtain⟨_,i,C,O,z,A⟩:=h;exact⟨i,C,O,z,A⟩
 case v=>exact h.2
 case s=>obtain⟨_,i,C,O⟩:=h;exact⟨i,C,O⟩
 case ro=>exact h.2
 case vec=>exact h.2.2.1
theorem EY {x:Nat}(q:x < n)(h:AT (AY T V m w) w k (T x) v):AA T n V m w (Ju k x) v:=by
 cases k with
 |int k ap Y=>
  obtain⟨i,C,O,z,A⟩:=h;simp only[Ju];split
  .obtain rfl:i=ap:=by omega
   exact O
  .exact⟨q,i,C,O,z,A⟩
 |bool=>obtain⟨i,C,O⟩:=h;exact⟨q,i,C,O⟩
 |str=>obtain⟨i,C,O⟩:=h;exact⟨q,i,C,O⟩
 |val=>exact⟨q,h⟩
 |any=>exact h
 |list ks=>exact⟨q,h⟩
theorem Bg {k:IntKind}{ap Y:Int}(q:CE c=some (k,ap,Y,r))(h:AA T n V m w c v):
  ∃i,v= .int k i/\r.eval T= .int i/\ap<=i/\i<=Y:=by
 cases c<;>simp only[CE] at q<;>cases q
 case ci=>exact⟨_,h,rfl,uf _,uf _⟩
 case i=>
  obtain⟨D,i,C,O,z,A⟩:=h;exact⟨i,O,C,z,A⟩
theorem D6 {k:Option Bool}(z:IG c=some (k,r))(h:AA T n V m w c v):
  ∃i,v= .bool i/\r.eval T= .bool i/\∀b,k=some b->i=b:=by
 cases c<;>simp only[IG] at z<;>cases z
 case cb=>exact⟨_,h,rfl,fun b q=>by cases q;rfl⟩
 case b=>
  obtain⟨A,i,C,O⟩:=h;exact⟨i,O,C,fun b q=>by cases q⟩
 case nb=>
  obtain⟨A,i,C,O⟩:=h;exact⟨!i,O,by simp[Rf.eval,C,U.toB],fun b q=>by cases q⟩
theorem FR {ks:List Kd}(q:Io c=some (ks,r))(h:AA T n V m w c v):
  AT (AY T V m w) w (.list ks) (r.eval T) v:=by
 cases c<;>simp only[Io] at q
 case ro x ks=>cases q;exact h.2
 case vec id x ks=>cases q;exact h.2.2.1
 case cv c=>
  cases c<;>simp only at q<;>cases q;rw[show v=_ from h];exact Gp _ _
 all_goals cases q
theorem cm (q:c.atom=true)(h:AA T n V m w c v):AT (AY T V m w) w (BY c).1 ((BY c).2.eval T) v:=by
 unfold BY;cases aa:FG c with
 |some z=>exact HX aa h
 |none=>exact HL q h
theorem LN (x t:Nat):∀(ks:List Kd) (n0 c:Nat),(Dz x t n0 c ks).1.length=ks.length/\(Dz x t n0 c ks).2.length=ks.length
 |[],_,_=>⟨rfl,rfl⟩
 |k::ks,n0,c=>by simp[Dz,LN x t ks (n0+1) (c+1)]
theorem NA (a3:(aB.eval T).toB=b)(F:n<=ak)
  (A:New T n0 (mix n0 aB c d).2) (z:n0+(mix n0 aB c d).2.length<=ak)
  (C:b=true->AA T n V m w c v) (O:b=false->AA T n V m w d v):AA T ak V m w (mix n0 aB c d).1 v:=by
 unfold mix at A z⊢;split
 .rename_i he;have:=AC.beq_eq _ _ he;subst this;cases b with
  |true=>exact (C rfl).up0 F
  |false=>exact (O rfl).up0 F
 .rename_i a1;simp only[a1] at A z;have ao:c.atom=true->d.atom=true->v.oneCell'=true:=fun J a2=>by
   cases b with
   |true=>exact HL J (C rfl)
   |false=>exact HL a2 (O rfl)
  split
  .rename_i k r k' r' D E;simp only[D,E] at A z;have one:v.oneCell'=true:=by
    cases b with
    |true=>exact (HX D (C rfl)).one
    |false=>exact (HX E (O rfl)).one
   split
   .exact one
   .rename_i q;simp only[q] at A z;refine EY (by simp at z;omega) ?_;have e:=A.head;simp[Ex.eval,oIf,u0,u1,u2,a3] at e;rw[e];cases b with
    |true=>exact AT.mono (fun _ _ h=>⟨h,rfl⟩) _ _ _ (Kd.join_l _ _ _ _ (HX D (C rfl)))
    |false=>exact AT.mono (fun _ _ h=>⟨h,rfl⟩) _ _ _ (Kd.join_r _ _ _ _ (HX E (O rfl)))
  .rename_i a4;split
   .rename_i q;simp only[tV] at q;exact ao q.1 q.2
   .trivial
theorem qY (F:(aB.eval T).toB=b)(A:n<=ak)
  (q:New T n0 (Uz n0 aB c d).2) (h:n0+(Uz n0 aB c d).2.length<=ak)
  (C:b=true->AA T n V m w c v) (O:b=false->AA T n V m w d v):AA T ak V m w (Uz n0 aB c d).1 v:=by
 unfold Uz at q h⊢;split
 .rename_i he;have:=AC.beq_eq _ _ he;subst this;cases b with
  |true=>exact (C rfl).up0 A
  |false=>exact (O rfl).up0 A
 .rename_i ao;simp only[ao] at q h;split
  .rename_i D;simp only[D,if_true] at q h;refine⟨by simp at h;omega,fun z=>?_⟩;have e:=q.head;simp[Ex.eval,oId,u0] at e;rw[e] at z;have J:b=true:=by rw[<-F,z];rfl
   exact (C J).up0 A
  .rename_i D;simp only[D] at q h;split
   .rename_i E;simp only[E,if_true] at q h;refine⟨by simp at h;omega,fun z=>?_⟩;have e:=q.head;simp[Ex.eval,VQ,u0,F] at e;rw[e] at z;cases b<;>simp at z;exact (O rfl).up0 A
   .rename_i E;simp only[E] at q h;exact NA F A q h C O
theorem Qe {f:Nat->AC->AC->AC × List Ex}{b:Bool}:
  ∀{l af:List AC} {W:List Value} {n0:Nat},(∀n0 c d v,c∈l->d∈af->New T n0 (f n0 c d).2->n0+(f n0 c d).2.length<=ak->(b=true->AA T n V m w c v)->(b=false->AA T n V m w d v)->AA T ak V m w (f n0 c d).1 v)->
  l.length=af.length->New T n0 (Ow f n0 l af).2->n0+(Ow f n0 l af).2.length<=ak->(b=true->AB T n V m w l W)->(b=false->AB T n V m w af W)->
  AB T ak V m w (Ow f n0 l af).1 W
 |[],[],W,_,_,_,_,_,C,O=>by
  cases b with
  |true=>exact C rfl
  |false=>exact O rfl
 |[],_::_,_,_,_,h,_,_,_,_=>by simp at h
 |_::_,[],_,_,_,h,_,_,_,_=>by simp at h
 |c::l,d::af,W,n0,hf,hll,hnew,hl,C,O=>by
  simp only[Ow] at hnew hl⊢;simp only[tq] at hl;have A:∃u us,W=u::us/\(b=true->AA T n V m w c u/\AB T n V m w l us)/\(b=false->AA T n V m w d u/\AB T n V m w af us):=by
   cases b with
   |true=>obtain⟨u,us,e,q,E⟩:=C rfl;exact⟨u,us,e,fun _=>⟨q,E⟩,(fun h=>by cases h)⟩
   |false=>obtain⟨u,us,e,q,E⟩:=O rfl;exact⟨u,us,e,(fun h=>by cases h),fun _=>⟨q,E⟩⟩
  obtain⟨u,us,rfl,q,E⟩:=A;refine⟨u,us,rfl,hf n0 c d u (by simp) (by simp) hnew.left (by omega) (fun h=>(q h).1) (fun h=>(E h).1),?_⟩;exact Qe (fun n0 c d v z hd=>hf n0 c d v (by simp[z]) (by simp[hd])) (by simpa using hll) hnew.right (by omega) (fun h=>(q h).2) (fun h=>(E h).2)
theorem Ug (F:(aB.eval T).toB=b)(D:n<=ak)
  (z:New T n0 (My n0 aB c d).2) (q:n0+(My n0 aB c d).2.length<=ak)
  (C:b=true->AA T n V m w c v) (O:b=false->AA T n V m w d v):AA T ak V m w (My n0 aB c d).1 v:=by
 by_cases hh:∃l af,c= .agg l/\d= .agg af
 .obtain⟨l,af,rfl,rfl⟩:=hh;simp only[My] at z q⊢;split
  .rename_i A;simp only[A,if_true] at z q;have hv:∃W,v= .agg (W:List Value).toArray/\(b=true->AB T n V m w l W)/\(b=false->AB T n V m w af W):=by
    cases b with
    |true=>obtain⟨W,e,k⟩:=C rfl;exact⟨W,e,fun _=>k,(fun h=>by cases h)⟩
    |false=>obtain⟨W,e,k⟩:=O rfl;exact⟨W,e,(fun h=>by cases h),fun _=>k⟩
   obtain⟨W,e,k1,E⟩:=hv;exact⟨W,e,Qe (fun n0 c d v _ _ J a2 a3 a4=>NA F D J a2 a3 a4) A z q k1 E⟩
  .trivial
 .have e:My n0 aB c d=Uz n0 aB c d:=by
   unfold My;grind
  rw[e] at z q⊢;exact qY F D z q C O
theorem pg (F:(aB.eval T).toB=b)(D:n<=ak)
  (z:New T n0 (Fw n0 aB c d).2) (q:n0+(Fw n0 aB c d).2.length<=ak)
  (C:b=true->AA T n V m w c v) (O:b=false->AA T n V m w d v):AA T ak V m w (Fw n0 aB c d).1 v:=by
 by_cases hh:∃l af,c= .tup l/\d= .tup af
 .obtain⟨l,af,rfl,rfl⟩:=hh;simp only[Fw] at z q⊢;split
  .rename_i A;simp only[A,if_true] at z q;have hv:∃W,v= .tuple (W:List Value).toArray/\(b=true->AB T n V m w l W)/\(b=false->AB T n V m w af W):=by
    cases b with
    |true=>obtain⟨W,e,k⟩:=C rfl;exact⟨W,e,fun _=>k,(fun h=>by cases h)⟩
    |false=>obtain⟨W,e,k⟩:=O rfl;exact⟨W,e,(fun h=>by cases h),fun _=>k⟩
   obtain⟨W,e,k1,E⟩:=hv;exact⟨W,e,Qe (fun n0 c d v _ _ J a2 a3 a4=>Ug F D J a2 a3 a4) A z q k1 E⟩
  .trivial
 .have e:Fw n0 aB c d=My n0 aB c d:=by
   unfold Fw;grind
  rw[e] at z q⊢;exact Ug F D z q C O
end
end
section
open Go Go.RowKit
theorem B8 (b off j:Nat):(⟨b,off,none⟩:Addr).add j=⟨b,off+j,none⟩:=by
 unfold Addr.add;grind
theorem AS (m:Mem)(x:Blk)(id:Nat):Mem.at (m++[x]) id=if id=m.length then x else m.at id:=by
 unfold Mem.at;grind
theorem Dn (m:Mem)(k:Nat)(x:Blk)(id:Nat)(h:m.at k≠ .pad):Mem.at (m.set k x) id=if id=k then x else m.at id:=by
 unfold Mem.at at*;grind
def CI (V :Nat->Option Nat)(id b:Nat):Nat->Option Nat:=fun j=>if j=id then some b else V j
theorem Ap (V :Nat->Option Nat)(id b:Nat):CI V id b id=some b:=by simp[CI]
theorem Ao (V :Nat->Option Nat)(id b:Nat){j:Nat}(h:j≠id):CI V id b j= V j:=by simp[CI,h]
section
variable {T:Tab}{n ak:Nat}{V :Nat->Option Nat}{m:Mem}{w:World}{g:G}{us:List Ex}
theorem BB (w:World)(o:Obj)(k:Nat)(h:k < w.heap.size):(w.alloc o).heap[k]? =w.heap[k]? :=by
 show (w.heap.push o)[k]? =_;grind
theorem Cq (w:World)(o:Obj):(w.alloc o).heap[w.heap.size]? =some o:=by
 show (w.heap.push o)[w.heap.size]? =_;simp
theorem IJ (A:AG T n V m w)(o:Obj)(x:Blk):AH T n V m w (CI V m.length w.heap.size) (m++[x]) (w.alloc o) where
 os:=rfl
 tape:=rfl
 output:=rfl
 size:=by simp
 mlen:=fun id h=>by
  rw[AS];split
  .rename_i e;subst e;exact absurd (Mem.at_ge (tY _)) h
  .exact h
 rho:=fun id h=>by
  have:id≠m.length:=fun e=>by subst e;exact BI h (Mem.at_ge (tY _))
  rw[AS,vA this];exact⟨Ao _ _ _ this,h⟩
 untr:=fun id h q=>by
  have:id≠m.length:=fun e=>by subst e;exact h (Mem.at_ge (tY _))
  rw[AS,vA this] at q;exact q
 fresh:=fun id b h q D=>by
  by_cases e:id=m.length
  .subst e;rw[Ap] at D;cases D;exact tY _
  .rw[AS,vA e,h] at q;cases q
 old:=fun k E _=>BB w o k E
 tok:=fun id y ks e h=>by
  have:id≠m.length:=fun e=>by subst e;rw[Mem.at_ge (tY _)] at h;cases h
  refine .inl ⟨by rw[AS,vA this];exact h,Ao _ _ _ this,fun b z=>?_⟩;exact BB w o b (A.lt (by rw[h];rfl) z)
 row:=fun id aA y ks e h=>by
  have:id≠m.length:=fun e=>by subst e;rw[Mem.at_ge (tY _)] at h;cases h
  refine .inr ⟨aA,y,ks,by rw[AS,vA this];exact h,rfl,.inl ⟨rfl,Ao _ _ _ this,fun b W z F=>⟨W,?_,rfl⟩⟩⟩;rw[BB w o b (A.lt (by rw[h];rfl) z)];exact F
theorem BJ.step {ab:Nat->Option Nat}{ad:Mem}{Z:World}(h:AH T n V m w ab ad Z)(hm:AG T n V m w)(F:n<=ak){id:Nat}(he:ad.at id=m.at id)
  (J: ab id= V id) (hw:∀b, V id=some b->Z.heap[b]? =w.heap[b]?):BJ T ak ab ad Z id (ad.at id):=by
 rw[he];have A:=hm.blk id;cases hx:m.at id with
 |pad=>trivial
 |gone=>trivial
 |cells l e=>
  rw[hx] at A;obtain⟨b,W,C,O,z⟩:=A;exact⟨b,W,by rw[J];exact C,by rw[hw b C];exact O,AB.mono h hm F l W z⟩
 |lp x st=>
  rw[hx] at A;obtain⟨b,q,C,O,z,D,E,h9,h6,j,h7,h8⟩:=A;exact⟨b,q,by rw[J];exact C,by rw[hw b C];exact O,z,D,E,h9,fun i c hc=>AA.mono h hm F _ _ (h6 i c hc),j,AA.mono h hm F _ _ h7,h8⟩
 |tok x ks e=>
  rw[hx] at A;obtain⟨h0,r,C,O⟩:=A;refine⟨td h0 F,r,C,?_⟩;rcases O with O|⟨b,W,O,z,D,E⟩
  .exact .inl (by rw[J];exact O)
  .exact .inr ⟨b,W,by rw[J];exact O,by rw[hw b O];exact z,D,E⟩
 |mrow x y ks e=>
  rw[hx] at A;obtain⟨h0,r,C,a6,a8,O⟩:=A;refine⟨⟨td h0.1 F,td h0.2 F⟩,r,C,a6,a8,?_⟩;rcases O with⟨O,z⟩|⟨b,W,us,O,z,D,E⟩
  .exact .inl ⟨by rw[J];exact O,z⟩
  .exact .inr ⟨b,W,us,by rw[J];exact O,by rw[hw b O];exact z,Ab.mono (fun _ _ aa=>h.safe0 aa) D,E⟩
 |mapb x ai ka aN aU=>
  rw[hx] at A;obtain⟨h0,l,b,aw,a3,C,O,z,D,E,h6,h7⟩:=A;refine⟨td h0 F,l,b,aw,a3,C,by rw[J];exact O,by rw[hw b O];exact z,D,E,fun i us e hl he=>?_,h7⟩;obtain⟨u1,u2,q1,q2,q3⟩:=h6 i us e hl he;exact⟨u1,u2,q1,Bw.mono (fun _ _ aa=>h.safe0 aa) q2,Bw.mono (fun _ _ aa=>h.safe0 aa) q3⟩
theorem Q8 (A:AG T n V m w){l:List AC}{W:List Value}(hl:AB T n V m w l W)(e:TypeId):
  AH T n V m w (CI V m.length w.heap.size) (m++[.cells l e]) (w.alloc (.cells W.toArray e))/\
  AG T n (CI V m.length w.heap.size) (m++[.cells l e]) (w.alloc (.cells W.toArray e))/\
  AA T n (CI V m.length w.heap.size) (m++[.cells l e]) (w.alloc (.cells W.toArray e)) (.ptr m.length 0) (.pointer (some ⟨w.heap.size,0,none⟩)):=by
 have aa:=IJ A (.cells W.toArray e) (.cells l e);refine⟨aa,⟨fun id=>?_,fun id ao b q J F E=>?_,fun b off h=>A.fr b off (t8 aa.size h)⟩,w.heap.size,Ap _ _ _,rfl,by rw[AS,vC rfl];rfl⟩
 .by_cases z:id=m.length
  .subst z;rw[AS,vC rfl];exact⟨w.heap.size,W,Ap _ _ _,Cq _ _,AB.mono aa A (tY _) _ _ hl⟩
  .by_cases q:(m.at id).tracked=true
   .exact BJ.step aa A (tY _) (by rw[AS,vA z]) (Ao _ _ _ z) (fun b hb=>BB w _ b (A.lt q hb))
   .rw[AS,vA z];cases hx:m.at id with
    |pad=>trivial
    |gone=>trivial
    |cells=>rw[hx] at q;exact absurd rfl q
    |lp=>rw[hx] at q;exact absurd rfl q
    |tok=>rw[hx] at q;exact absurd rfl q
    |mrow=>rw[hx] at q;exact absurd rfl q
    |mapb=>rw[hx] at q;exact absurd rfl q
 .rw[AS] at q J;by_cases z:id=m.length
  .by_cases D:ao=m.length
   .omega
   .rw[vA D] at J;subst z;rw[Ap] at F;cases F;rw[Ao _ _ _ D] at E;have:=A.lt J E;omega
  .rw[vA z] at q;rw[Ao _ _ _ z] at F;by_cases D:ao=m.length
   .subst D;rw[Ap] at E;cases E;have:=A.lt q F;omega
   .rw[vA D] at J;rw[Ao _ _ _ D] at E;exact A.inj id ao b q J F E
theorem DD (w:World)(b:Nat)(av:Array Value)(k:Nat)(h:k≠b):(w.setRow b av).heap[k]? =w.heap[k]? :=setRow_other w b k av h
theorem Mv (F:AG T n V m w){id b:Nat}{l af:List AC}{W ag:List Value}{e:TypeId}(E:m.at id= .cells l e)(J: V id=some b)
  (hb:w.heap[b]? =some (.cells W.toArray e (0,0))) (hl:AB T ak V m w af ag) (hn:n<=ak):
  AH T n V m w V (m.set id (.cells af e)) (w.setRow b ag.toArray)/\AG T ak V (m.set id (.cells af e)) (w.setRow b ag.toArray):=by
 have D:m.at id≠ .pad:=by rw[E];exact fun h=>by cases h
 have z:=Dn m id (.cells af e);have aa:∀n,AH T n V m w V (m.set id (.cells af e)) (w.setRow b ag.toArray):=fun n=>{
  os:=rfl
  tape:=rfl
  output:=rfl
  size:=by simp
  mlen:=fun j h=>by rw[z j D];split<;>first|exact (fun h=>by cases h)|exact h
  rho:=fun j h=>by rw[z j D];split<;>first|exact⟨rfl,rfl⟩|exact⟨rfl,h⟩
  untr:=fun j h q=>by
   rw[z j D] at q;split at q
   .rename_i he;subst he;rw[E];rfl
   .exact q
  fresh:=fun j c h q J=>by
   rw[z j D] at q;split at q
   .grind
   .rw[h] at q;cases q
  old:=fun k hk a9=>DD w b _ k (fun e=>a9 id (by rw[E];rfl) (by rw[e];exact J))
  tok:=fun j x ks e' h=>by
   have A:j≠id:=fun e=>by subst e;rw[E] at h;cases h
   refine .inl ⟨by rw[z j D,vA A];exact h,rfl,fun c hc=>DD w b _ c (fun e=>?_)⟩;subst e;exact A (F.inj j id c (by rw[h];rfl) (by rw[E];rfl) hc J)
  row:=fun j x y ks e' h=>by
   have A:j≠id:=fun e=>by subst e;rw[E] at h;cases h
   refine .inr ⟨x,y,ks,by rw[z j D,vA A];exact h,rfl,.inl ⟨rfl,rfl,fun c W hc hv=>⟨W,?_,rfl⟩⟩⟩;rw[DD w b _ c (fun e=>?_)]
   .exact hv
   .subst e;exact A (F.inj j id c (by rw[h];rfl) (by rw[E];rfl) hc J) }
 refine⟨aa n,⟨fun j=>?_,fun j j' c q ba C O=>?_,fun b off h=>F.fr b off (t8 (aa n).size h)⟩⟩
 .by_cases A:j=id
  .subst A;rw[z j D,vC rfl];exact⟨b,ag,J,setRow_heap w b W.toArray ag.toArray e (0,0) hb,AB.mono (aa ak) (F.mono hn) (tY _) _ _ hl⟩
  .by_cases q:(m.at j).tracked=true
   .refine BJ.step (aa n) F hn (by rw[z j D,vA A]) rfl (fun c hc=>DD w b _ c (fun e=>?_));subst e;exact A (F.inj j id c q (by rw[E];rfl) hc J)
   .rw[z j D,vA A];cases hx:m.at j with
    |pad=>trivial
    |gone=>trivial
    |cells=>rw[hx] at q;exact absurd rfl q
    |lp=>rw[hx] at q;exact absurd rfl q
    |tok=>rw[hx] at q;exact absurd rfl q
    |mrow=>rw[hx] at q;exact absurd rfl q
    |mapb=>rw[hx] at q;exact absurd rfl q
 .have tr:∀k,(Mem.at (m.set id (.cells af e)) k).tracked=true->(m.at k).tracked=true:=fun k hk=>by
   rw[z k D] at hk;split at hk
   .rename_i he;subst he;rw[E];rfl
   .exact hk
  exact F.inj j j' c (tr j q) (tr j' ba) C O
variable {P:Program}
variable{t:TypeId}{a7:Bool}{W B:List Value}
theorem LR {size:Nat}(h:FP P t=some (size,a7)):a7=false->size=1:=by
 unfold FP at h;grind
theorem Fs {size:Nat}(h:FP P t=some (size,a7))(b off:Nat)(D:W.length=size)
  (A:∀j v,W[j]? =some v->w.cell? ⟨b,off+j,none⟩=some v):
  (loadVar t ⟨b,off,none⟩).run P w= .ok (if a7 then .agg W.toArray else W.headD undef) w:=by
 have z:(loadCells ⟨b,off,none⟩ size).run P w= .ok W.toArray w:=by
  subst D;exact run_loadCells_list (P:=P) (w:=w) _ W (fun j v E=>by rw[B8];exact A j v E)
 unfold FP at h;cases Y:P.info? t with
 |none=>rw[Y] at h;simp at h
 |some i=>
  cases q:P.underlying t with
  |none=>rw[Y,q] at h;simp at h
  |some d=>
   rw[Y,q] at h;cases d<;>simp at h<;>obtain⟨C,O⟩:=h<;>subst O
   case struct F=>
    subst C;simp[loadVar,isAgg,run_underlying q,sizeOf,typeInfo,Y,z]
   case array k e=>
    subst C;simp[loadVar,isAgg,run_underlying q,sizeOf,typeInfo,Y,z]
   all_goals
    cases W with
    |nil=>simp at D;omega
    |cons v W=>
     have:=A 0 v rfl;simp only[Nat.add_zero] at this;simp[loadVar,isAgg,run_underlying q,this]
def BQ (B:List Value)(k:Nat)(W:List Value):List Value:=B.take k++W++B.drop (k+W.length)
theorem TP {k:Nat}(q:k < B.length)(v:Value)(h:List Value):BQ (B.set k v) (k+1) h=BQ B k (v::h):=by
 have C:(B.set k v).take (k+1)=B.take k++[v]:=by
  apply List.ext_getElem?;grind
 have O:(B.set k v).drop (k+1+h.length)=B.drop (k+(h.length+1)):=by
  apply List.ext_getElem?;grind
 simp only[BQ,C,uJ,O,uU,List.cons_append,u9]
theorem JY (b off:Nat)(t:TypeId):∀(W:List Value) (i:Nat) (B:List Value) (w:World),w.heap[b]? =some (.cells B.toArray t (0,0))->off+i+W.length<=B.length->
  (∀v∈W,v.oneCell'=true)->(storeCells ⟨b,off,none⟩ W i).run P w= .ok () (w.setRow b (BQ B (off+i) W).toArray)
 |[],i,B,w,hb,_,_=>by
  have e:BQ B (off+i) []=B:=by simp[BQ]
  rw[e];simp only[storeCells];show Result.ok () w=_;congr 1;unfold World.setRow;cases w with
  |mk ag a0 drawn os ao=>
   congr 1;apply Array.ext
   .simp
   .intro k C O;simp only[Array.getElem_modify];split
    .rename_i A;subst A;obtain⟨J,h⟩:=te.1 hb;simp only at h;rw[h]
    .rfl
 |v::rest,i,B,w,hb,hl,C=>by
  simp at hl;have Y:off+i < B.length:=by omega
  have q:w.cell? ⟨b,off+i,none⟩=some B[off+i]:=by simp[World.cell?,hb,Y]
  have z:w.frozen? ⟨b,off+i,none⟩=false:=by simp[World.frozen?,hb]
  have D:(store ((⟨b,off,none⟩:Addr).add i) v).run P w= .ok () (w.setRow b (B.set (off+i) v).toArray):=by
   rw[B8,run_store P w _ v _ (C v (by simp)),q];simp[z,setCell_eq_setRow w b (off+i) B.toArray t (0,0) v hb]
  have F:=JY b off t rest (i+1) (B.set (off+i) v) (w.setRow b (B.set (off+i) v).toArray) (setRow_heap w b B.toArray _ t _ hb) (by simp;omega) (fun x E=>C x (by simp[E]));simp only[storeCells,ua,D,uZ,F,setRow_setRow];rw[show off+(i+1)=off+i+1 by omega,TP Y]
theorem Gv {i:TypeInfo}(Y:P.info? t=some i)(b off:Nat)(e:TypeId){v:Value}(h:w.heap[b]? =some (.cells B.toArray e (0,0)))
  (z:v.cells=W.toArray) (q:W.length=i.size) (A:off+i.size<=B.length) (C:∀u∈W,u.oneCell'=true):
  (storeVar t ⟨b,off,none⟩ v).run P w= .ok () (w.setRow b (BQ B off W).toArray):=by
 have:=JY (P:=P) b off e W 0 B w h (by omega) C;simp[storeVar,sizeOf,typeInfo,Y,z,q,this]
end
def BM (T:Tab)(g:G)(V :Nat->Option Nat)(m:Mem)(w:World)(run:Result Next)(r:R):Prop:=
 ∃v Z ab,(run= .ok (.value v) Z\/(run= .ok .skip Z/\v=undef))/\AH T g.n V m w ab r.m Z/\
  AG T (g.n+r.us.length) ab r.m Z/\AA T (g.n+r.us.length) ab r.m Z r.c v
section
variable {P:Program}{T:Tab}{V :Nat->Option Nat}{m:Mem}{w:World}{g:G}{r:R}
variable{v:Value}{k:Kd}{x base aD aW aP ak id b:Nat}{ps:List Pr}{ap Y j:Int}{i:Vx}{e:TypeId}{l av:List AC}{K:List (List AC)}{W:List Value}
theorem BM.pure {run:Result Next}(A:run= .ok (.value v) w)(z:AG T g.n V m w)(h:r.m=m)
  (q:AA T (g.n+r.us.length) V m w r.c v):BM T g V m w run r:=
 ⟨v,w, V,.inl A,by rw[h];exact AH.refl T g.n V m w,by rw[h];exact z.mono (by omega),by rw[h];exact q⟩
def A8 (T:Tab)(g:G)(V :Nat->Option Nat)(m:Mem)(w:World)(run:Result Next)(r:R):Prop:=
 ∃v,run= .ok (.value v) w/\r.m=m/\AA T (g.n+r.us.length) V m w r.c v
theorem A8.res {run:Result Next}(h:A8 T g V m w run r)(z:AG T g.n V m w):BM T g V m w run r:=by
 obtain⟨v,C,O,q⟩:=h;exact BM.pure C z O q
theorem A8.pure {run:Result Next}(z:run= .ok (.value v) w)(_hm:AG T g.n V m w)(h:r.m=m)
  (q:AA T (g.n+r.us.length) V m w r.c v):A8 T g V m w run r:=⟨v,z,h,q⟩
theorem A8.same {run:Result Next}(A:run= .ok (.value v) w)(h:AG T g.n V m w)(q:r.m=m)
  (z:AA T g.n V m w r.c v):A8 T g V m w run r:=A8.pure A h q (z.up h (by omega))
theorem BM.same {run:Result Next}(A:run= .ok (.value v) w)(h:AG T g.n V m w)(q:r.m=m)
  (z:AA T g.n V m w r.c v):BM T g V m w run r:=
 BM.pure A h q (z.up h (by omega))
theorem sd {v:Vx}{x:Value}(q:New T g.n (mkV g m k v ps).us)(h:AT (AY T V m w) w k (v.eval T) x)
  (E:∀y,v= .rf (.e y)->y < g.n):AA T (g.n+(mkV g m k v ps).us.length) V m w (mkV g m k v ps).c x:=by
 have ex:∀e:Ex,New T g.n [e]->e.eval T=v.eval T->AT (AY T V m w) w k (T g.n) x:=fun e C O=>by rw[C.head,O];exact h
 have rf:∀r:Rf,v= .rf r->(⟨ "id",oId,[r]⟩:Ex).eval T=v.eval T:=fun r e=>by subst e;rfl
 cases k with
 |int k ap Y=>
  simp only[mkV] at q⊢;split
  .obtain⟨i,C,O,A,D⟩:=h;obtain rfl:i=ap:=by omega
   exact O
  .rename_i F;simp only[F] at q;have z:∀y ak,y < ak->AT (AY T V m w) w (.int k ap Y) (T y) x->AA T ak V m w (.i k ap Y y) x:=by
    rintro y ak J ⟨i,C,O,A,D⟩;exact⟨J,i,C,O,A,D⟩
   cases v with
   |ex e=>exact z _ _ (by simp) (ex e q rfl)
   |rf r=>
    cases r with
    |e y=>exact z _ _ (by have:=E y rfl;simp;omega) h
    |c u=>exact z _ _ (by simp) (ex _ q (rf _ rfl))
    |n y=>exact z _ _ (by simp) (ex _ q (rf _ rfl))
 |_=>
  cases v with
  |ex e=>exact EY (by simp[mkV]) (ex e q rfl)
  |rf r=>
   cases r with
   |e y=>exact EY (by have:=E y rfl;simp[mkV];omega) h
   |c u=>exact EY (by simp[mkV]) (ex _ q (rf _ rfl))
   |n y=>exact EY (by simp[mkV]) (ex _ q (rf _ rfl))
theorem Gc {k:IntKind}{i:Int}{v:Vx}(q:New T g.n (mkI g m k ap Y v ps).us)(z:v.eval T= .int i)(C:ap<=i)(O:i<=Y)
  (h:∀y,v= .rf (.e y)->y < g.n):AA T (g.n+(mkI g m k ap Y v ps).us.length) V m w (mkI g m k ap Y v ps).c (.int k i):=
 sd (k:= .int k ap Y) q ⟨i,z,rfl,C,O⟩ h
theorem K3 {k:Option Bool}{i:Bool}{e:Ex}(h:New T g.n (mkB g m k e ps).us)(q:k=none->e.eval T= .bool i)(C:∀b,k=some b->i=b):
  AA T (g.n+(mkB g m k e ps).us.length) V m w (mkB g m k e ps).c (.bool i):=by
 cases k with
 |some b=>rw[C b rfl];exact rfl
 |none=>exact⟨by simp[mkB],i,by rw[h.head];exact q rfl,rfl⟩
theorem tN {v:Vx}:(mkV g m k v ps).m=m:=by
 cases k<;>cases v<;>simp only[mkV]<;>(repeat (first|rfl|split))
theorem sx {v:Vx}:(mkV g m k v ps).ps=ps:=by
 cases k<;>cases v<;>simp only[mkV]<;>(repeat (first|rfl|split))
theorem JB {k:IntKind}:(mkI g m k ap Y i ps).m=m:=tN
theorem Qp {k:Option Bool}{i:Ex}:(mkB g m k i ps).m=m:=by unfold mkB;split<;>rfl
theorem rk {k:IntKind}:(mkI g m k ap Y i ps).ps=ps:=sx
theorem MF {a:Act}{o:Oper}{s:Sem Value}{Z:World}(h:execOp a.eval o=(do Pure.pure (.value (<-s))))(aa:s.run P w= .ok v Z):
  (execOp a.eval o).run P w= .ok (.value v) Z:=by
 rw[h];simp[aa]
theorem ER {aZ E:Type}(f:aZ->Option E):∀(l:List aZ) (r:List E),l.mapM f=some r->r.length=l.length/\∀(i:Nat) (x:aZ),l[i]? =some x->r[i]? =f x
 |[],r,h=>by simp at h;subst h;exact⟨rfl,fun i x h=>by simp at h⟩
 |x::l,r,h=>by
  simp only[List.mapM_cons,tX,Option.pure_def] at h;cases q:f x with
  |none=>simp[q] at h
  |some y=>
   cases D:l.mapM f with
   |none=>simp[q,D] at h
   |some F=>
    simp[q,D] at h;subst h;obtain⟨C,O⟩:=ER f l F D;refine⟨by simp[C],fun i z A=>?_⟩;cases i with
    |zero=>simp at A;subst A;simp[q]
    |succ i=>simp at A;simpa using O i z A
theorem O1 (h:Sm l base aD aW aP=some av):∀j,j < aW->av[j]? =l[base+j*aD+aP]? :=by
 intro j q;exact (ER _ _ _ h).2 j j (by simp[q])
theorem R5 {n:Nat}:∀{av:List AC} {k:Kd} {rs:List Rf},Qn av=some (k,rs)->
  ∀(j:Nat) (c:AC) (v:Value),av[j]? =some c->AA T n V m w c v->∃r,rs[j]? =some r/\AT (AY T V m w) w k (r.eval T) v
 |[],_,_,h,_,_,_,_,_=>by cases h
 |[c],k,rs,h,j,d,v,hj,hh=>by
  simp only[Qn,uC] at h;obtain⟨⟨A,r⟩,C,O⟩:=h;cases O;cases j with
  |zero=>
   simp at hj;subst hj;exact⟨r,rfl,HX C hh⟩
  |succ j=>simp at hj
 |c::d::av,k,rs,h,j,e,v,hj,hh=>by
  simp only[Qn] at h;split at h
  .rename_i D ax E ae C O;cases h;cases j with
   |zero=>
    simp at hj;subst hj;exact⟨ax,rfl,Kd.join_l _ _ _ _ (HX C hh)⟩
   |succ j=>
    simp at hj;obtain⟨r,q,z⟩:=R5 O j e v (by simpa using hj) hh;exact⟨r,by simpa using q,Kd.join_r _ _ _ _ z⟩
  .cases h
theorem Am.get {n:Nat}:∀{l:List AC} {j:Nat} {c:AC} {v:Value},l[j]? =some c->AA T n V m w c v->Am T n V m w l j v
 |[],_,_,_,h,_=>by simp at h
 |c::_,0,d,v,h,hh=>by simp at h;subst h;exact hh
 |_::l,j+1,d,v,h,hh=>Am.get (l:=l) (by simpa using h) hh
theorem QV (h:JR g m x av ps=some r)(F:New T g.n r.us)(J:x < g.n)(z:T x= .int j)(E:0<=j)
  {c:AC}  (A:av[j.toNat]? =some c) (D:AA T g.n V m w c v):r.m=m/\r.ps=ps/\AA T (g.n+r.us.length) V m w r.c v:=by
 unfold JR at h;split at h
 .rename_i k rs aa;split at h
  .cases h
  .cases h;refine⟨rfl,rfl,EY (by simp) ?_⟩;obtain⟨q,C,O⟩:=R5 aa j.toNat c v A D;have:=F.head;have e:T g.n=q.eval T:=by
    rw[this];simp[Ex.eval,Tj,u0,Rf.eval,z,U.toI,List.getD,C]
   rw[e];exact O
 .split at h
  .cases h;exact⟨rfl,rfl,by simpa using J,j,z,E,(Am.get A D)⟩
  .cases h
theorem RF {ak:Nat}{x:Nat}{j:Int}(A:T x= .int j)(J:0<=j):∀{K:List (List AC)} {n0:Nat} {z:List AC} {us:List Ex} {W:List Value},HH x n0 K=some (z,us)->New T n0 us->n0+us.length<=ak->
  W.length=K.length->(∀(i:Nat) (av:List AC) (v:Value),K[i]? =some av->W[i]? =some v->∃c,av[j.toNat]? =some c/\AA T g.n V m w c v)->AB T ak V m w z W
 |[],n0,z,us,W,h,_,_,hl,_=>by
  simp only[HH,ug,Prod.mk.injEq] at h;obtain⟨rfl,rfl⟩:=h;cases W with
  |nil=>rfl
  |cons=>simp at hl
 |av::r,n0,z,us,W,h,hnew,hn,hl,hh=>by
  cases W with
  |nil=>simp at hl
  |cons v W=>
   simp only[HH] at h;split at h
   .rename_i k rs aa;split at h
    .cases h
    .simp only[uC] at h;obtain⟨⟨l,a1⟩,C,O⟩:=h;cases O;simp only[uJ] at hn;obtain⟨c,E,F⟩:=hh 0 av v rfl rfl;obtain⟨q,q1,q2⟩:=R5 aa j.toNat c v E F;have e:T n0=q.eval T:=by
      rw[hnew.head];simp[Ex.eval,Tj,u0,Rf.eval,A,U.toI,List.getD,q1]
     refine⟨v,W,rfl,EY (by omega) (by rw[e];exact q2),?_⟩;exact RF A J C (fun i u Y=>by
      have:=hnew (i+1) u (by simpa using Y);rwa [show n0+1+i=n0+(i+1) by omega]) (by omega) (by simpa using hl) (fun i D v' a b=>hh (i+1) D v' (by simpa using a) (by simpa using b))
   .cases h
theorem VU {size:Nat}(h:PV l base aD aW aP size=some K):
  K.length=size/\∀c,c < size->∃av,K[c]? =some av/\Sm l base aD aW (aP+c)=some av:=by
 obtain⟨C,O⟩:=ER _ _ _ h;refine⟨by simpa using C,fun c q=>?_⟩;have z:=O c c (by simp[q]);grind
theorem TY {size:Nat}{A:List AC}{us:List Ex}(F:PV l base aD aW aP size=some K)(hp:HH x g.n K=some (A,us))(a0:New T g.n us)(hn:g.n+us.length<=ak)
   (E:T x= .int j) (J:0<=j) (ag:j.toNat < aW)  (q:AB T g.n V m w l W):
  base+j.toNat*aD+aP+size<=W.length\/size=0->AB T ak V m w A ((W.drop (base+j.toNat*aD+aP)).take size):=by
 intro a6;obtain⟨C,O⟩:=VU F;refine RF (g:=g) E J hp a0 hn ?_ (fun i av v Y hv=>?_)
 .grind
 .have h:i < size:=by rw[<-C];exact (tc.1 Y).1
  obtain⟨a5,D,q2⟩:=O i h;rw[Y] at D;cases D;have q3:=O1 q2 j.toNat ag;simp only[ux,uu,vC h] at hv;have z:base+j.toNat*aD+(aP+i) < l.length:=by
   rw[<-q.length];grind
  refine⟨l[base+j.toNat*aD+(aP+i)],by rw[q3];exact tZ z,?_⟩;obtain⟨u,u1,u2⟩:=q.get (tZ z);grind
theorem Tq {size:Nat}(h:PV l base aD aW aP size=some K){j:Nat}(z:j < aW):base+j*aD+aP+size<=l.length\/size=0:=by
 rcases uo size with A|A
 .exact .inr A
 .obtain⟨_,O⟩:=VU h;obtain⟨av,_,q⟩:=O (size - 1) (by omega);have E:=O1 q j z;have D:j < av.length:=by rw[(ER _ _ _ q).1];simpa using z
  grind
theorem BJ.get {n:Nat}(z:AG T n V m w)(q:m.at id= .cells l e)(E: V id=some b):
  ∃W,w.heap[b]? =some (.cells (W:List Value).toArray e (0,0))/\AB T n V m w l W:=by
 have h:=z.blk id;rw[q] at h;obtain⟨A,W,C,O,D⟩:=h;grind
theorem Fa {off:Nat}(h:w.heap[b]? =some (.cells W.toArray e (0,0))):w.cell? ⟨b,off,none⟩=W[off]? :=by
 simp[World.cell?,h]
theorem Af.drop {ok:Nat->Nat->Prop}:∀{ks:List Kd} {b off:Nat} {us:List U} (k:Nat),Af ok w ks b off us->Af ok w (ks.drop k) b (off+k) (us.drop k)
 |ks,b,off,us,0,h=>h
 |[],_,_,us,_+1,h=>by rw[show us=[] from h];rfl
 |_::ks,b,off,us,k+1,⟨u,us',e,_,h⟩=>by
  have:=Af.drop k h;rw[e];rwa [show off+1+k=off+(k+1) by omega] at this
theorem Af.take {ok:Nat->Nat->Prop}:∀{ks:List Kd} {b off:Nat} {us:List U} (k:Nat),Af ok w ks b off us->Af ok w (ks.take k) b off (us.take k)
 |_,_,_,_,0,_=>by simp only[List.take_zero];rfl
 |[],_,_,us,_+1,h=>by rw[show us=[] from h];rfl
 |_::ks,b,off,us,k+1,⟨u,us',e,C,O⟩=>by subst e;exact⟨u,us'.take k,rfl,C,Af.take k O⟩
theorem Af.length {ok:Nat->Nat->Prop}:∀{ks:List Kd} {b off:Nat} {us:List U},Af ok w ks b off us->us.length=ks.length
 |[],_,_,us,h=>by rw[show us=[] from h];rfl
 |_::ks,b,off,us,⟨u,us',e,_,h⟩=>by subst e;simp[h.length]
theorem ic {t:Nat}{a1:List U}(ht:T t= .int j)(a8:(T x).toL[j.toNat]? =some a1){ks:List Kd}{off n0 c size:Nat}(h:Af (AY T V m w) w ks b off ((a1.drop c).take size))
  (F:New T n0 (Dz x t n0 c ks).2) (D:n0+ks.length<=ak):
  ∃W:List Value,W.length=ks.length/\(∀j v,W[j]? =some v->w.cell? ⟨b,off+j,none⟩=some v)/\AB T ak V m w (Dz x t n0 c ks).1 W:=by
 have bi:∀{ks:List Kd} {b off n0 c size:Nat},Af (AY T V m w) w ks b off ((a1.drop c).take size)->New T n0 (Dz x t n0 c ks).2->n0+ks.length<=ak->
   ∃W:List Value,W.length=ks.length/\(∀j v,W[j]? =some v->w.cell? ⟨b,off+j,none⟩=some v)/\AB T ak V m w (Dz x t n0 c ks).1 W:=by
  intro ks;induction ks with
  |nil=>intro b off n0 c size _ _ _;exact⟨[],rfl,fun j v h=>by simp at h,rfl⟩
  |cons k ks ih=>
   rintro b off n0 c size ⟨u,bj,e,⟨_,v,O,J⟩,h4⟩ F D;simp only[uJ] at D;have ag:New T n0 (⟨Ua (kdC k)++toString c,Qy (kdC k) c,[.e x,.e t]⟩::(Dz x t (n0+1) (c+1) ks).2):=F;cases size with
   |zero=>simp at e
   |succ size=>
    have hd:∃A,a1.drop c=u::A/\A.take size=bj:=by
     cases hr:a1.drop c with
     |nil=>rw[hr] at e;simp at e
     |cons a A=>rw[hr] at e;simp at e;obtain⟨rfl,e⟩:=e;exact⟨A,rfl,e⟩
    obtain⟨A,hd,a6⟩:=hd;have hT:T n0=u:=by
     have hc:a1[c]? =some u:=by
      have:=vD (·[0]?) hd;simpa using this
     have:=ag.head;simp[Ex.eval,Qy,nc,u0,u1,Rf.eval,ht,U.toI,List.getD,a8,hc] at this;exact this.trans (Yt J)
    have a5:New T (n0+1) (Dz x t (n0+1) (c+1) ks).2:=fun j u q=>by
     have:=ag (j+1) u (by simpa using q);grind
    have a4:a1.drop (c+1)=A:=by rw[<-ut,hd];rfl
    obtain⟨W,k1,E,k3⟩:=ih (b:=b) (off:=off+1) (n0:=n0+1) (c:=c+1) (size:=size) (by rw[a4,a6];exact h4) a5 (by omega);refine⟨v::W,by simp[k1],?_,v,W,rfl,EY (by omega) (by rw[hT];exact J),k3⟩;intro j z q;cases j with
    |zero=>simp at q;subst q;exact O
    |succ j=>
     simp at q;have:=E j z q;rwa [show off+1+j=off+(j+1) by omega] at this
 exact bi h F D
theorem AP.dropC {ok:Nat->Nat->Prop}:∀{ks:List Kd} {us:List U} {W:List Value} (k:Nat),AP ok w ks us W->AP ok w (ks.drop k) (us.drop k) (W.drop k)
 |_,_,_,0,h=>h
 |[],_,_,_+1,⟨C,O⟩=>by subst C;subst O;exact⟨rfl,rfl⟩
 |_::_,_,_,k+1,⟨_,_,_,_,C,O,_,h4⟩=>by subst C;subst O;exact AP.dropC k h4
theorem AP.takeC {ok:Nat->Nat->Prop}:∀{ks:List Kd} {us:List U} {W:List Value} (k:Nat),AP ok w ks us W->AP ok w (ks.take k) (us.take k) (W.take k)
 |_,_,_,0,_=>by simp only[List.take_zero];exact⟨rfl,rfl⟩
 |[],_,_,_+1,⟨C,O⟩=>by subst C;subst O;exact⟨rfl,rfl⟩
 |_::_,_,_,k+1,⟨u,us',v,vs',C,O,h3,h4⟩=>by subst C;subst O;exact⟨u,_,v,_,rfl,rfl,h3,AP.takeC k h4⟩
theorem AP.lenC {ok:Nat->Nat->Prop}:∀{ks:List Kd} {us:List U} {W:List Value},AP ok w ks us W->W.length=ks.length/\us.length=ks.length
 |[],_,_,⟨C,O⟩=>by subst C;subst O;exact⟨rfl,rfl⟩
 |k::ks,_,_,⟨u,us',v,vs',C,O,_,h4⟩=>by subst C;subst O;have:=h4.lenC;simp[this]
theorem A7.rowC {ok:Nat->Nat->Prop}{ks:List Kd}:∀{l:List (List U)} {aH:List (List Value)} {j:Nat} {us:List U},A7 ok w ks l aH->l[j]? =some us->AP ok w ks us ((aH.flatten.drop (j*ks.length)).take ks.length)
 |[],_,_,_,_,hj=>by simp at hj
 |x::l,_,0,us,⟨W,vss',e,C,O⟩,hj=>by
  subst e;simp at hj;subst hj;have:=C.lenC.1;rw[Nat.zero_mul,List.drop_zero,vF,List.take_append_of_le_length (by omega),List.take_of_length_le (by omega)];exact C
 |x::l,_,j+1,us,⟨W,vss',e,C,O⟩,hj=>by
  subst e;have h:=C.lenC.1;have:=A7.rowC O (by simpa using hj);rw[vF,show (j+1)*ks.length=W.length+j*ks.length by rw[uL,h];omega,<-ut,List.drop_left' rfl];exact this
theorem A7.lenC {ok:Nat->Nat->Prop}{ks:List Kd}:∀{l:List (List U)} {aH:List (List Value)},A7 ok w ks l aH->aH.flatten.length=l.length*ks.length
 |[],_,h=>by rw[show _=[] from h];simp
 |_::_,_,⟨W,vss',e,C,O⟩=>by
  subst e;have:=O.lenC;have:=C.lenC.1;simp[*,uL];omega
theorem AP.join_l {ok:Nat->Nat->Prop}:∀{ks ah:List Kd},ks.length=ah.length->∀{us:List U} {W:List Value},AP ok w ks us W->AP ok w (Kd.joins ks ah) us W
 |[],[],_,_,_,h=>h
 |[],_::_,h,_,_,_=>by simp at h
 |_::_,[],h,_,_,_=>by simp at h
 |k::ks,k'::ah,hl,_,_,⟨u,us',v,vs',C,O,h3,h4⟩=>⟨u,us',v,vs',C,O,Kd.join_l k k' u v h3,h4.join_l (by simpa using hl)⟩
theorem AP.join_r {ok:Nat->Nat->Prop}:∀{ks ah:List Kd},ks.length=ah.length->∀{us:List U} {W:List Value},AP ok w ah us W->AP ok w (Kd.joins ks ah) us W
 |[],[],_,_,_,h=>h
 |[],_::_,h,_,_,_=>by simp at h
 |_::_,[],h,_,_,_=>by simp at h
 |k::ks,k'::ah,hl,_,_,⟨u,us',v,vs',C,O,h3,h4⟩=>⟨u,us',v,vs',C,O,Kd.join_r k k' u v h3,h4.join_r (by simpa using hl)⟩
theorem RO {ak:Nat}{x t:Nat}{j:Int}{a1:List U}(E:T t= .int j)(D:(T x).toL[j.toNat]? =some a1):∀{ks:List Kd} {W:List Value} {n0 c size:Nat},AP (AY T V m w) w ks ((a1.drop c).take size) W->
  New T n0 (Dz x t n0 c ks).2->n0+ks.length<=ak->AB T ak V m w (Dz x t n0 c ks).1 W
 |[],_,_,_,_,⟨_,h⟩,_,_=>h
 |k::ks,_,n0,c,0,⟨u,us',v,vs',e,_⟩,_,_=>by simp at e
 |k::ks,_,n0,c,size+1,⟨u,us',v,vs',e,e2,h3,h4⟩,hnew,hn=>by
  subst e2;simp only[uJ] at hn;have z:New T n0 (⟨Ua (kdC k)++toString c,Qy (kdC k) c,[.e x,.e t]⟩::(Dz x t (n0+1) (c+1) ks).2):=hnew;have hd:∃q,a1.drop c=u::q/\q.take size=us':=by
   cases A:a1.drop c with
   |nil=>rw[A] at e;simp at e
   |cons a q=>rw[A] at e;simp at e;obtain⟨rfl,e⟩:=e;exact⟨q,rfl,e⟩
  obtain⟨q,hd,a2⟩:=hd;have F:T n0=u:=by
   have J:a1[c]? =some u:=by
    have:=vD (·[0]?) hd;simpa using this
   have:=z.head;simp[Ex.eval,Qy,nc,u0,u1,Rf.eval,E,U.toI,List.getD,D,J] at this;exact this.trans (Yt h3)
  have a0:New T (n0+1) (Dz x t (n0+1) (c+1) ks).2:=fun j u hj=>by
   have:=z (j+1) u (by simpa using hj);rwa [show n0+1+j=n0+(j+1) by omega]
  have ag:a1.drop (c+1)=q:=by rw[<-ut,hd];rfl
  exact⟨v,vs',rfl,EY (by omega) (by rw[F];exact h3),RO E D (c:=c+1) (n0:=n0+1) (size:=size) (by rw[ag,a2];exact h4) a0 (by omega)⟩
theorem ow {n:Nat}(hm:AG T n V m w){y:Nat}{ks:List Kd}(J:m.at id= .mrow x y ks e)(hr: V id=some b){L:Int}(hy:T y= .int L)(h0:0<=j)(hj:j < L):
  ∃H l us,w.heap[b]? =some (.cells (H:List Value).toArray e (0,0))/\T x= .list l/\(l.length:Int)=L/\l[j.toNat]? =some us/\l.length*ks.length<=H.length/\
   AP (AY T V m w) w ks us ((H.drop (j.toNat*ks.length)).take ks.length):=by
 have h:=hm.blk id;rw[J] at h;obtain⟨_,l,C,O,h3,q⟩:=h;rw[hy] at O;have F:L=l.length:=by cases O;rfl
 rcases q with⟨q,A⟩|⟨b',W,us,q,A,⟨aH,D,E⟩,h8⟩
 .grind
 .rw[hr] at q;cases q;have z:j.toNat < l.length:=by omega
  have ag:=E.lenC;rw[<-D] at ag;refine⟨W++us,l,l[j.toNat],by simpa using A,C,F.symm,tZ z,by rw[tq];omega,?_⟩;have:=E.rowC (tZ z);rw[<-D] at this;have a8:(j.toNat+1)*ks.length<=l.length*ks.length:=uG _ z;grind
theorem OV {t:TypeId}{p:AC}(h:Of P t p m g=some r)(ag:New T g.n r.us)(hm:AG T g.n V m w)(hp:AA T g.n V m w p v):
  ∃u,(Instr.loadAt t v).run P w= .ok u w/\r.m=m/\AA T (g.n+r.us.length) V m w r.c u:=by
 unfold Of at h;simp only[tX,tU] at h;obtain⟨⟨size,a7⟩,aa,h⟩:=h;cases p<;>simp only at h
 case ptr id off=>
  obtain⟨b,hr,rfl,_⟩:=hp;split at h
  .rename_i l e J;obtain⟨W,hb,hl⟩:=BJ.get hm J hr;split at h
   .rename_i q;have z:=(hl.drop off).take size;have a8:((W.drop off).take size).length=size:=by rw[z.length];exact q
    have A:=Fs (P:=P) (w:=w) aa b off a8 (fun j x hj=>by
     rw[Fa hb];simp only[ux,uu] at hj;split at hj
     .exact hj
     .cases hj)
    refine⟨_,by simp only[Instr.loadAt,Instr.sureAddr,ua,uh,uZ];exact A,?_⟩;cases a7 with
    |true=>
     simp at h;subst h;exact⟨rfl,_,rfl,z.up hm (by simp)⟩
    |false=>
     simp at h;obtain⟨c,D,h⟩:=h;subst h;have ao:((l.drop off).take size)[0]? =some c:=by
      have:=LR aa rfl;subst this;simpa [ux] using D
     obtain⟨u,C,O⟩:=z.get ao;refine⟨rfl,?_⟩;have:((W.drop off).take size).headD undef=u:=by
      cases F:(W.drop off).take size with
      |nil=>rw[F] at C;simp at C
      |cons y aj=>rw[F] at C;simp at C;subst C;rfl
     rw[vA (by simp),this];exact O.up hm (by simp)
   .cases h
  .cases h
 case pix id base aD aW x aP=>
  obtain⟨h0,b,j,hr,F,a0,cy,rfl,_⟩:=hp;split at h
  .rename_i l e J;obtain⟨W,hb,hl⟩:=BJ.get hm J hr;split at h
   .rename_i bl;subst bl;simp only[tU] at h;obtain⟨K,b2,⟨ls,cv⟩,cf,h⟩:=h;cases h;have a2:j.toNat < aW:=by omega
    have q:=Tq b2 a2;rw[<-hl.length] at q;have z:=TY (ak:=g.n+cv.length) b2 cf ag (tY _) F a0 a2 hl q;have a8:((W.drop (base+j.toNat*aD+aP)).take size).length=size:=by
     rcases q with q|q
     .simp;omega
     .subst q;simp
    have A:=Fs (P:=P) (w:=w) aa b (base+j.toNat*aD+aP) a8 (fun i y Y=>by
     rw[Fa hb];simp only[ux,uu] at Y;split at Y
     .exact Y
     .cases Y)
    exact⟨_,by simp only[Instr.loadAt,Instr.sureAddr,ua,uh,uZ];exact A,rfl,_,rfl,z⟩
   .rename_i bl;have b7:a7=false:=by simpa using bl
    subst b7;have bs:=LR aa rfl;subst bs;simp only[tU] at h;obtain⟨av,b1,h⟩:=h;have a2:j.toNat < aW:=by omega
    have bm:=O1 b1 j.toNat a2;have ca:∃c,l[base+j.toNat*aD+aP]? =some c:=by
     rw[<-bm];exact⟨_,tZ (by rw[(ER _ _ _ b1).1];simpa using a2)⟩
    obtain⟨c,D⟩:=ca;obtain⟨u,ch,ci⟩:=hl.get D;rw[D] at bm;have A:=Fs (P:=P) (w:=w) aa b (base+j.toNat*aD+aP) (W:=[u]) rfl (fun i y Y=>by
     rw[Fa hb];cases i with
     |zero=>simp at Y;subst Y;simpa using ch
     |succ i=>simp at Y)
    refine⟨u,by simp only[Instr.loadAt,Instr.sureAddr,ua,uh,uZ];exact A,?_⟩;obtain⟨f1,_,f3⟩:=QV h ag h0 F a0 bm ci;exact⟨f1,f3⟩
  .cases h
 case rp x t' off ks=>
  obtain⟨⟨h0,b6⟩,j,b,o,us,ht,a0,cc,rfl,D⟩:=hp;split at h
  .rename_i q;have bb:=(D.drop off).take size;have a6:r.us=(Dz x t' g.n off ((ks.drop off).take size)).2:=by
    cases a7 with
    |true=>simp at h;subst h;rfl
    |false=>simp at h;obtain⟨c,_,h⟩:=h;subst h;rfl
   rw[a6] at ag;have z:=(LN x t' ((ks.drop off).take size) g.n off).2;have b8:Af (AY T V m w) w ((ks.drop off).take size) b (o+j.toNat*ks.length+off) (((us.drop off).take size)):=bb;obtain⟨W,k1,E,k3⟩:=ic (ak:=g.n+r.us.length) ht cc b8 ag (by rw[a6,z];exact tY _);have A:=Fs (P:=P) (w:=w) aa b (o+j.toNat*ks.length+off) (W:=W) (by rw[k1];exact q) E;refine⟨_,by simp only[Instr.loadAt,Instr.sureAddr,ua,uh,uZ];exact A,?_⟩;cases a7 with
   |true=>simp at h;subst h;exact⟨rfl,W,rfl,k3⟩
   |false=>
    simp at h;obtain⟨c,ao,h⟩:=h;subst h;obtain⟨u,C,O⟩:=k3.get ao;have:W.headD undef=u:=by
     cases W with
     |nil=>simp at C
     |cons y aj=>simp at C;subst C;rfl
    refine⟨rfl,?_⟩;rw[vA (by simp),this];exact O
  .cases h
 case mp id y t' sz off=>
  obtain⟨⟨h0,b6,cx⟩,j,L,b,ht,hy,⟨a0,cb⟩,rfl,hk⟩:=hp;split at h
  .rename_i x aS ks e J;split at h
   .rename_i D;obtain⟨⟨rfl,bs⟩,q⟩:=D;have hr:=hk x ks e J;obtain⟨H,l,us,k1,E,k3,k4,k5,k6⟩:=ow hm J hr hy a0 cb;have bb:=(k6.dropC off).takeC size;have a6:r.us=(Dz x t' g.n off ((ks.drop off).take size)).2:=by
     cases a7 with
     |true=>simp at h;subst h;rfl
     |false=>simp at h;obtain⟨c,_,h⟩:=h;subst h;rfl
    rw[a6] at ag;have z:=(LN x t' ((ks.drop off).take size) g.n off).2;have k7:=RO (ak:=g.n+r.us.length) ht (a1:=us) (by rw[E];exact k4) bb ag (by rw[a6,z];exact tY _);have a8:=bb.lenC.1;have A:=Fs (P:=P) (w:=w) aa b (j.toNat*sz+off) (by rw[a8];exact q) (fun i v Y=>by
     rw[Fa k1];simp only[ux,uu] at Y;split at Y
     .split at Y
      .rw[<-Y,bs];congr 1;omega
      .cases Y
     .cases Y)
    refine⟨_,by simp only[Instr.loadAt,Instr.sureAddr,ua,uh,uZ];exact A,?_⟩;cases a7 with
    |true=>simp at h;subst h;exact⟨rfl,_,rfl,k7⟩
    |false=>
     simp at h;obtain⟨c,ao,h⟩:=h;subst h;obtain⟨u,C,O⟩:=k7.get ao;have:(((((H.drop (j.toNat*ks.length)).take ks.length).drop off).take size)).headD undef=u:=by
      cases F:((((H.drop (j.toNat*ks.length)).take ks.length).drop off).take size) with
      |nil=>rw[F] at C;simp at C
      |cons y aj=>rw[F] at C;simp at C;subst C;rfl
     refine⟨rfl,?_⟩;rw[vA (by simp),this];exact O
   .cases h
  .cases h
 all_goals cases h
end
section
variable {P:Program}{T:Tab}{V :Nat->Option Nat}{m:Mem}{w:World}{g:G}{r:R}
variable{c:AC}{v:Value}{l:List AC}{W:List Value}{N:List Kd}{t:TypeId}{a:Act}{o:Oper}
theorem bH {d:AC}{n:Nat}(h:c.cellsOf=some [d])(A:AA T n V m w c v):∃u,v.cells= #[u]/\AA T n V m w d u/\u.oneCell'=true/\d.atom=true:=by
 obtain⟨W,C,O,D,q⟩:=CP h A;obtain⟨u,us,rfl,E,z⟩:=O;rw[show us=[] from z] at C q;grind
theorem RK (hm:AG T g.n V m w){ak:Nat}(E:g.n<=ak){x:Nat}{F:Int}(hx:T x= .int F){c:AC}{u:Value}{base aD aP:Nat}(bs:aD≠0)(hc:AA T g.n V m w c u)(bt:0<=F)
  {W:List Value} {l:List AC} (hl:AB T g.n V m w l W):∀(J n0:Nat) (af:List AC) (D:List Ex),HB x c base aD aP l J n0=some (af,D)->New T n0 D->n0+D.length<=ak->
  AB T ak V m w af (if F < J then W.set (base+F.toNat*aD+aP) u else W)
 |0,n0,af,D,h,_,_=>by
  simp[HB] at h;obtain⟨rfl,rfl⟩:=h;rw[vA (by simp;omega)];exact hl.up hm E
 |J+1,n0,af,D,h,hnew,hle=>by
  simp only[HB,tX,tU] at h;obtain⟨⟨X,z⟩,C,a2,O,h3⟩:=h;split at h3
  .rename_i bx;cases h3;simp only[tq,uJ] at hle;have A:=RK hm E hx bs hc bt hl J n0 X z C hnew.left (by omega);obtain⟨v0,ag,bm⟩:=hl.get O;have hr:=hnew.right;have ba:(Rf.e (n0+z.length)).eval T= .bool (decide (F=J)):=by
    have:=hr.head;simpa [Ex.eval,oEq,u0,u1,Rf.eval,hx,U.toI] using this
   have a9:New T (n0+z.length+1) (mix (n0+z.length+1) (.e (n0+z.length)) c a2).2:=fun j u hj=>by
    have:=hr (j+1) u (by simpa using hj);rwa [show n0+z.length+1+j=n0+z.length+(j+1) by omega]
   by_cases bc:F=J
   .rw[vA (by omega)] at A;rw[vC (by omega)];have hd:AA T ak V m w (mix (n0+z.length+1) (.e (n0+z.length)) c a2).1 u:=
     NA (b:=decide (F=J)) (by rw[ba];rfl) E a9 (by omega) (fun _=>hc) (fun h=>by simp[bc] at h)
    have:=A.set (base+J*aD+aP) hd;rwa [show F.toNat=J by omega]
   .have hd:AA T ak V m w (mix (n0+z.length+1) (.e (n0+z.length)) c a2).1 v0:=
     NA (b:=decide (F=J)) (by rw[ba];rfl) E a9 (by omega) (fun h=>by simp at h;exact absurd h bc) (fun _=>bm)
    have:=A.set (base+J*aD+aP) hd;by_cases a5:F < J
    .rw[vC a5] at this A;rw[vC (by omega)];have bl:base+F.toNat*aD+aP≠base+J*aD+aP:=by
      intro e;have e2:F.toNat*aD=J*aD:=by omega
      have:=Nat.eq_of_mul_eq_mul_right (by omega) e2;omega
     have e:(W.set (base+F.toNat*aD+aP) u).set (base+J*aD+aP) v0=W.set (base+F.toNat*aD+aP) u:=by
      apply List.ext_getElem?;intro k;rw[u4];split
      .rename_i hk;subst hk;rw[u4,vA bl,ag,vC];rw[ud];exact (tc.1 ag).1
      .rfl
     rw[e] at this;exact this
    .rw[vA a5] at this A;rw[vA (by omega)];have e:W.set (base+J*aD+aP) v0=W:=by
      apply List.ext_getElem?;intro k;rw[u4];split
      .rename_i hk;subst hk;rw[ag,vC (tc.1 ag).1]
      .rfl
     rw[e] at this;exact this
  .cases h3
theorem LT {n:Nat}{av:List AC}{us:List Value}(z:AB T n V m w l W)(q:AB T n V m w av us)(off size:Nat)(h:av.length=size):
  AB T n V m w (l.take off++av++l.drop (off+size)) (BQ W off us):=by
 unfold BQ;rw[q.length,h];exact ((z.take off).append q).append (z.drop _)
theorem ff {k:Nat}(h:k < W.length)(u:Value):BQ W k [u]=W.set k u:=by
 unfold BQ;rw[List.set_eq_take_append_cons_drop,vC h];simp
theorem AP.appC {ok:Nat->Nat->Prop}:∀{ks ah:List Kd} {us q:List U} {W z:List Value},AP ok w ks us W->AP ok w ah q z->AP ok w (ks++ah) (us++q) (W++z)
 |[],_,_,_,_,_,⟨C,O⟩,h=>by subst C;subst O;exact h
 |_::_,_,_,_,_,_,⟨u,q,v,z,C,O,h3,h4⟩,h=>by subst C;subst O;exact⟨u,_,v,_,rfl,rfl,h3,h4.appC h⟩
theorem dz {ks:List Kd}{off:Nat}(h:off+N.length<=ks.length):(NZ ks off N).length=ks.length:=by
 unfold NZ;rw[tq,tq,Kd.joins_len _ _ (by simp;omega)];simp;omega
theorem AP.put_l {ok:Nat->Nat->Prop}{ks:List Kd}{off:Nat}{us:List U}(h:off+N.length<=ks.length)(q:AP ok w ks us W):AP ok w (NZ ks off N) us W:=by
 have z:us=us.take off++(us.drop off).take N.length++us.drop (off+N.length):=by
  rw[uU,<-ut,ui,ui]
 have A:W=W.take off++(W.drop off).take N.length++W.drop (off+N.length):=by
  rw[uU,<-ut,ui,ui]
 rw[z,A];refine ((q.takeC off).appC (AP.join_l (by simp;omega) ((q.dropC off).takeC N.length))).appC (q.dropC _)
theorem AP.put_r {ok:Nat->Nat->Prop}{ks:List Kd}{off:Nat}{us q:List U}{G:List Value}(h:off+N.length<=ks.length)(z:AP ok w ks us W)(hd:AP ok w N q G):AP ok w (NZ ks off N) (us.take off++q++us.drop (off+q.length)) (BQ W off G):=by
 unfold BQ;rw[hd.lenC.1,hd.lenC.2];exact ((z.takeC off).appC (AP.join_r (by simp;omega) hd)).appC (z.dropC _)
theorem A7.setC {ok:Nat->Nat->Prop}{ks ah:List Kd}(z:∀us W,AP ok w ks us W->AP ok w ah us W){D:List U}{q:List Value}(A:AP ok w ah D q):∀{l:List (List U)} {aH:List (List Value)} (j:Nat),A7 ok w ks l aH->A7 ok w ah (l.set j D) (aH.set j q)
 |[],_,j,h=>by rw[show _=[] from h];cases j<;>exact rfl
 |x::l,_,0,⟨W,vss',e,C,O⟩=>by
  subst e;have F:∀{l:List (List U)} {aH:List (List Value)},A7 ok w ks l aH->A7 ok w ah l aH:=by
   intro l;induction l with
   |nil=>intro _ h;exact h
   |cons a l E=>rintro _ ⟨v,W,e,C,O⟩;exact⟨v,W,e,z _ _ C,E O⟩
  exact⟨q,vss',rfl,A,F O⟩
 |x::l,_,j+1,⟨W,vss',e,C,O⟩=>by
  subst e;exact⟨W,vss'.set j q,rfl,z _ _ C,A7.setC z A j O⟩
theorem NI {k off:Nat}{G:List Value}(A:off+G.length<=k)(q:List Value):∀{aH:List (List Value)} {j:Nat} {W:List Value},(∀v∈aH,v.length=k)->aH[j]? =some W->
  BQ (aH.flatten++q) (j*k+off) G=(aH.set j (BQ W off G)).flatten++q
 |[],_,_,_,h=>by simp at h
 |v::aH,0,W,hl,h=>by
  simp at h;subst h;have:=hl v (by simp);unfold BQ;simp only[Nat.zero_mul,tj,vF,uU,List.set_cons_zero];rw[List.take_append_of_le_length (by omega),List.drop_append_of_le_length (by omega)]
 |v::aH,j+1,W,hl,h=>by
  have z:=hl v (by simp);have E:=NI A q (aH:=aH) (j:=j) (W:=W) (fun x D=>hl x (by simp[D])) (by simpa using h);simp only[vF,uU,List.set_cons_succ];rw[<-E];unfold BQ;rw[show (j+1)*k+off=v.length+(j*k+off) by rw[uL,z];omega,Nat.add_assoc,List.take_length_add_append,List.drop_length_add_append];simp only[uU]
theorem fO {n:Nat}(J:AG T n V m w){ak id b x y:Nat}{ks ah:List Kd}{e:TypeId}{af:List (List U)}{H F:List Value}(A:m.at id= .mrow x y ks e)(hr: V id=some b)
  (hb:w.heap[b]? =some (.cells H.toArray e (0,0))) (b7:F.length=H.length) (hk:ah.length=ks.length) (hT:T n= .list af) (hy:T y= .int af.length)
  (hv:∃W us,F=W++us/\Ab (AY T V m w) w ah af W) (hn:n < ak):
  AH T n V m w V (m.set id (.mrow n y ah e)) (w.setRow b F.toArray)/\AG T ak V (m.set id (.mrow n y ah e)) (w.setRow b F.toArray):=by
 have E:m.at id≠ .pad:=by rw[A];exact fun h=>by cases h
 have D:=Dn m id (.mrow n y ah e);have bt:(w.setRow b F.toArray).heap[b]? =some (.cells F.toArray e (0,0)):=setRow_heap w b H.toArray F.toArray e (0,0) hb;have aa:AH T n V m w V (m.set id (.mrow n y ah e)) (w.setRow b F.toArray):={
  os:=rfl
  tape:=rfl
  output:=rfl
  size:=by simp
  mlen:=fun j h=>by rw[D j E];split<;>first|exact (fun h=>by cases h)|exact h
  rho:=fun j h=>by
   have z:j≠id:=fun e=>by subst e;rw[A] at h;cases h
   grind
  untr:=fun j h q=>by
   rw[D j E] at q;split at q
   .rename_i he;subst he;rw[A];rfl
   .exact q
  fresh:=fun j c h q hr=>by
   rw[D j E] at q;split at q
   .grind
   .rw[h] at q;cases q
  old:=fun k hk bs=>DD w b _ k (fun e=>bs id (by rw[A];rfl) (by rw[e];exact hr))
  tok:=fun j x ks e' h=>by
   have z:j≠id:=fun e=>by subst e;rw[A] at h;cases h
   refine .inl ⟨by rw[D j E,vA z];exact h,rfl,fun c hc=>DD w b _ c (fun e=>?_)⟩;subst e;exact z (J.inj j id c (by rw[h];rfl) (by rw[A];rfl) hc hr)
  row:=fun j x2 y2 b0 e2 h=>by
   by_cases z:j=id
   .grind
   .refine .inr ⟨x2,y2,b0,by rw[D j E,vA z];exact h,rfl,.inl ⟨rfl,rfl,fun c W hc hv=>⟨W,?_,rfl⟩⟩⟩;rw[DD w b _ c (fun e=>?_)]
    .exact hv
    .subst e;exact z (J.inj j id c (by rw[h];rfl) (by rw[A];rfl) hc hr) }
 have a5:=J.blk id;rw[A] at a5;obtain⟨⟨q1,q2⟩,l0,q3,q4,⟨q5,q6⟩,q7⟩:=a5;have bl:l0.length=af.length:=by rw[hy] at q4;have:=U.int.inj q4;omega
 refine⟨aa,⟨fun j=>?_,fun j j' c q bx C O=>?_,fun b off h=>J.fr b off (t8 aa.size h)⟩⟩
 .by_cases z:j=id
  .subst z;rw[D j E,vC rfl];obtain⟨W,us,e1,e2⟩:=hv;have bj:∀off,T.fr b off:=by
    grind
   refine⟨⟨hn,td q2 (by omega)⟩,af,hT,hy,⟨by rw[<-bl];exact q5,fun h=>q6 (ur.1 (by rw[<-hk,h];rfl))⟩,.inr ⟨b,W,us,hr,by rw[bt,e1],Ab.mono (fun _ _ h=>aa.safe0 h) e2,bj⟩⟩
  .by_cases q:(m.at j).tracked=true
   .refine BJ.step aa J (by omega) (by rw[D j E,vA z]) rfl (fun c hc=>DD w b _ c (fun e=>?_));subst e;exact z (J.inj j id c q (by rw[A];rfl) hc hr)
   .rw[D j E,vA z];cases hx:m.at j with
    |pad=>trivial
    |gone=>trivial
    |cells=>rw[hx] at q;exact absurd rfl q
    |lp=>rw[hx] at q;exact absurd rfl q
    |tok=>rw[hx] at q;exact absurd rfl q
    |mrow=>rw[hx] at q;exact absurd rfl q
    |mapb=>rw[hx] at q;exact absurd rfl q
 .have tr:∀k,(Mem.at (m.set id (.mrow n y ah e)) k).tracked=true->(m.at k).tracked=true:=fun k hk=>by
   rw[D k E] at hk;split at hk
   .rename_i he;subst he;rw[A];rfl
   .exact hk
  exact J.inj j j' c (tr j q) (tr j' bx) C O
theorem AP.ofC {n:Nat}(q:l.all AC.atom=true)(h:AB T n V m w l W):
  AP (AY T V m w) w (l.map fun c=>(BY c).1) (l.map fun c=>(BY c).2.eval T) W:=by
 induction l generalizing W with
 |nil=>exact⟨rfl,h⟩
 |cons c l z=>
  obtain⟨u,us,rfl,C,O⟩:=h;simp only[List.all_cons,tV] at q;exact⟨_,_,u,us,rfl,rfl,cm q.1 C,z q.2 O⟩
theorem A7.lens {ok:Nat->Nat->Prop}{ks:List Kd}:∀{l:List (List U)} {aH:List (List Value)},A7 ok w ks l aH->aH.length=l.length/\∀v∈aH,v.length=ks.length
 |[],_,h=>by rw[show _=[] from h];simp
 |_::_,_,⟨W,vss',e,C,O⟩=>by
  subst e;obtain⟨z,E⟩:=O.lens;refine⟨by simp[z],fun v q=>?_⟩;cases q with
  |head=>exact C.lenC.1
  |tail _ q=>exact E v q
theorem A7.getC {ok:Nat->Nat->Prop}{ks:List Kd}:∀{l:List (List U)} {aH:List (List Value)} {j:Nat} {us:List U},A7 ok w ks l aH->l[j]? =some us->∃W,aH[j]? =some W/\AP ok w ks us W
 |[],_,_,_,_,hj=>by simp at hj
 |x::l,_,0,us,⟨W,vss',e,C,O⟩,hj=>by
  subst e;simp at hj;subst hj;exact⟨W,rfl,C⟩
 |x::l,_,j+1,us,⟨W,vss',e,C,O⟩,hj=>by
  subst e;obtain⟨v,h,q⟩:=A7.getC O (show l[j]? =some us by simpa using hj);exact⟨v,by simpa using h,q⟩
theorem iD {p:AC}{u:Value}(h:Zg P t p c m g=some r)(b2:New T g.n r.us)(J:AG T g.n V m w)(hp:AA T g.n V m w p v)(hc:AA T g.n V m w c u):
  ∃Z,(Instr.storeAt t v u).run P w= .ok () Z/\AH T g.n V m w V r.m Z/\AG T (g.n+r.us.length) V r.m Z/\r.c= .any:=by
 unfold Zg at h;simp only[tX,tU] at h;obtain⟨i,Y,av,bc,h⟩:=h;split at h
 .rename_i F;have b1:=F;cases p<;>simp only at h
  case ptr id off=>
   obtain⟨b,D,rfl,_⟩:=hp;split at h
   .rename_i l e q;obtain⟨W,A,hl⟩:=BJ.get J q D;split at h
    .rename_i b3;cases h;obtain⟨us,e1,E,e3,e4⟩:=CP bc hc;have ag:=Mv (ak:=g.n) J q D A (LT hl E off i.size F) (tY _);refine⟨_,?_,ag.1,ag.2,rfl⟩;simp only[Instr.storeAt,Instr.sureAddr,ua,uh,uZ];exact Gv Y b off e A e1 (by rw[E.length];exact F) (by rw[hl.length];exact b3) e4
    .cases h
   .cases h
  case pix id base aD aW x aP=>
   obtain⟨h0,b,j,D,hx,b0,dd,rfl,_⟩:=hp;split at h
   .rename_i l e d q;split at h
    .cases h
    .rename_i ag;simp only[tU] at h;obtain⟨⟨af,a0⟩,b4,h⟩:=h;cases h;obtain⟨W,A,hl⟩:=BJ.get J q D;obtain⟨y,e1,E,e3,_⟩:=bH bc hc;have hh:=RK J (ak:=g.n+a0.length) (by omega) hx ag E b0 hl aW g.n af a0 b4 b2 (tY _);rw[vC (by omega)] at hh;have cx:base+j.toNat*aD+aP < W.length:=by
      have c3:∀(a1 n0:Nat) (af:List AC) (a0:List Ex),HB x d base aD aP l a1 n0=some (af,a0)->∀k,k < a1->base+k*aD+aP < l.length:=by
       intro a1;induction a1 with
       |zero=>intro _ _ _ _ k hk;omega
       |succ a1 ih=>
        intro n0 af a0 aa k hk;simp only[HB,tX,tU] at aa;obtain⟨⟨X,c5⟩,C,de,O,_⟩:=aa;by_cases cu:k=a1
        .subst cu;exact (tc.1 O).1
        .exact ih n0 X c5 C k (by omega)
      rw[hl.length];exact c3 aW g.n af a0 b4 j.toNat (by omega)
     have b5:=Mv (ak:=g.n+a0.length) J q D A hh (by omega);refine⟨_,?_,b5.1,b5.2,rfl⟩;simp only[Instr.storeAt,Instr.sureAddr,ua,uh,uZ];have bm:i.size=1:=by simpa using F.symm
     have:=Gv (P:=P) (w:=w) Y b (base+j.toNat*aD+aP) e (W:=[y]) (v:=u) A e1 (by simp[bm]) (by omega) (by intro z hz;simp at hz;rw[hz];exact e3);rw[this,ff cx]
   .cases h
  case mp id y t' sz off=>
   obtain⟨⟨h0,c8,c9⟩,j,L,b,ht,hy,⟨b0,db⟩,rfl,hk⟩:=hp;split at h
   .rename_i x aS ks e q;split at h
    .rename_i ci;obtain⟨⟨rfl,bm⟩,b3⟩:=ci;cases h;have D:=hk x ks e q;have bt:=J.blk id;rw[q] at bt;obtain⟨_,l,q3,q4,⟨q5,q6⟩,q7⟩:=bt;have hL:L=l.length:=by rw[hy] at q4;exact U.int.inj q4
     have a8:j.toNat < l.length:=by omega
     rcases q7 with⟨_,q7⟩|⟨b',bs,a5,q7,A,⟨aH,q8,q9⟩,_⟩
     .subst q7;simp at a8
     rw[D] at q7;cases q7;obtain⟨f,e1,E,e3,e4⟩:=CP bc hc;obtain⟨vj,g1,ao⟩:=q9.getC (tZ a8);obtain⟨X,ae⟩:=q9.lens;have b6:f.length=av.length:=E.length;have cj:=AP.ofC e3 E;have bl:off+(av.map fun c=>(BY c).1).length<=ks.length:=by simp;omega
     have cl:=NI (k:=ks.length) (off:=off) (G:=f) (by omega) a5 ae g1;have ch:T g.n= .list (EE l j.toNat off (av.map fun c=>(BY c).2.eval T)):=by
      rw[b2.head];simp[Ex.eval,dc,u0,u1,Rf.eval,q3,ht,U.toL,U.toI,List.map_map];rfl
     have F:j.toNat*ks.length+off+f.length<=(bs++a5).length:=by
      have:=q9.lenC;rw[<-q8] at this;have cv:(j.toNat+1)*ks.length<=l.length*ks.length:=uG _ a8;rw[uL,Nat.one_mul] at cv;rw[tq];omega
     have cy:(BQ (bs++a5) (j.toNat*ks.length+off) f).length=(bs++a5).length:=by
      unfold BQ;simp only[tq,uX,ue] at F⊢;omega
     have cs:l.getD j.toNat []=l[j.toNat]:=by simp[List.getD,a8]
     have ag:=fO (ak:=g.n+1) (ah:=NZ ks off (av.map fun c=>(BY c).1)) J q D A cy (dz bl) ch (by rw[hy,hL];simp[EE])
      ⟨(aH.set j.toNat (BQ vj off f)).flatten,a5,by rw[q8];exact cl,_,rfl,by
       unfold EE;rw[cs];exact A7.setC (fun _ _ h=>AP.put_l bl h) (AP.put_r bl ao cj) j.toNat q9⟩ (by omega)
     refine⟨_,?_,ag.1,ag.2,rfl⟩;simp only[Instr.storeAt,Instr.sureAddr,ua,uh,uZ];rw[<-bm];exact Gv Y b (j.toNat*ks.length+off) e A e1 (by rw[b6];exact b1) (by rw[<-b1,<-b6];exact F) e4
    .cases h
   .cases h
  all_goals cases h
 .cases h
theorem HI {i:TypeInfo}{z:Value}(Y:P.info? t=some i)(h:i.zero=some z):(zeroValue t).run P w= .ok z w:=by
 simp[zeroValue,typeInfo,Y,h]
theorem Od (t:TypeId)(v:Value):(newVar t v).run P w= .ok ⟨w.heap.size,0,none⟩ (w.alloc (.cells v.cells t)):=by
 simp[newVar,newRow]
theorem cD (A:AG T g.n V m w)(z:AB T g.n V m w l W)(t:TypeId)(D:v.cells=W.toArray){run:Result Next}
  (q:run= .ok (.value (.pointer (some ⟨w.heap.size,0,none⟩))) (w.alloc (.cells v.cells t))):BM T g V m w run (Pa l t m):=by
 have h:=Q8 A z t;rw[D] at q;exact⟨_,_,_,.inl q,h.1,h.2.1.mono (by simp[Pa]),h.2.2.up h.2.1 (by simp[Pa])⟩
theorem iq (h:IP P t m=some r)(A:AG T g.n V m w)(D:o.op= .alloc t):BM T g V m w ((execOp a.eval o).run P w) r:=by
 unfold IP at h;simp only[tX,tU] at h;obtain⟨i,Y,z,E,l,q,h⟩:=h;cases h;obtain⟨W,C,O,_,_⟩:=CP q (Hb (T:=T) (n:=g.n) (V := V) (m:=m) (w:=w) z);refine cD A O t C ?_;simp[execOp,D,Instr.alloc,HI Y E,Od]
theorem qa {x:Operand}(h:nI t c m=some r)(z:AG T g.n V m w)(A:o.op= .box t x)(D:AA T g.n V m w c (a.eval x)):
  BM T g V m w ((execOp a.eval o).run P w) r:=by
 unfold nI at h;simp only[tX,tU] at h;obtain⟨l,q,h⟩:=h;cases h;obtain⟨W,C,O,_,_⟩:=CP q D;refine cD z O t C ?_;simp[execOp,A,Instr.box,Od]
theorem WA (cells:Array Value)(off:Nat):∀(W:List Value) (k:Nat),off+k+W.length<=cells.size->
  (W.zipIdx k).foldl (fun av (p:Value × Nat)=>av.setIfInBounds (off+p.2) p.1) cells=(BQ cells.toList (off+k) W).toArray
 |[],k,h=>by simp[BQ]
 |v::W,k,h=>by
  simp at h;simp only[List.zipIdx_cons,List.foldl_cons];have:=WA (cells.setIfInBounds (off+k) v) off W (k+1) (by simp;omega);rw[this];simp only[Array.toList_setIfInBounds];rw[show off+(k+1)=off+k+1 by omega,TP (by simp;omega)]
theorem YQ (cells:Array Value)(off:Nat)(v:Value)(W:List Value)(q:v.cells=W.toArray)(h:off+W.length<=cells.size):
  v.cells.zipIdx.foldl (fun av (c,j)=>av.setIfInBounds (off+j) c) cells=(BQ cells.toList off W).toArray:=by
 rw[q,<-Array.foldl_toList];have:=WA cells off W 0 (by omega);simpa using this
theorem Xg {n:Nat}{J:Nat->Option (Nat × Nat)}:∀{parts:List (Nat × AC)} {f:List (Nat × Value)} {l af:List AC} {W:List Value},N2 J l parts=some af->AB T n V m w l W->
  f.length=parts.length->(∀(k i:Nat) (c:AC) (j:Nat) (v:Value),parts[k]? =some (i,c)->f[k]? =some (j,v)->i=j/\AA T n V m w c v)->
  ∃A,Instr.fill J W.toArray f=some (A:List Value).toArray/\AB T n V m w af A
 |[],f,l,af,W,h,hl,hlen,_=>by
  simp only[N2] at h;cases h;have:f=[]:=by simpa using hlen
  subst this;exact⟨W,rfl,hl⟩
 |(i,c)::parts,[],_,_,_,_,_,hlen,_=>by simp at hlen
 |(i,c)::parts,(j,v)::f,l,af,W,h,hl,hlen,hh=>by
  obtain⟨rfl,hc⟩:=hh 0 i c j v rfl rfl;simp only[N2,tX,tU] at h;obtain⟨⟨off,size⟩,hp,av,a1,h⟩:=h;split at h
  .rename_i z;obtain⟨us,D,E,_,_⟩:=CP a1 hc;have F:us.length=size:=by rw[E.length];exact z.1
   obtain⟨A,f1,f2⟩:=Xg (f:=f) h (LT hl E off size z.1) (by simpa using hlen) (fun k a b c d C O=>hh (k+1) a b c d (by simpa using C) (by simpa using O));refine⟨A,?_,f2⟩;simp only[Instr.fill,hp];rw[vA]
   .rw[YQ W.toArray off v us D (by simp;rw[F,hl.length];exact z.2)];exact f1
   .have h3:=hl.length;have h4:=z.2;intro q;simp only[D,uv,uN,decide_eq_true_eq] at q;rcases q with q|q
    .exact q F
    .omega
  .cases h
theorem WK {az:Operand->AC}{parts:Array (Nat × Operand)}(h:UX P t (parts.toList.map fun (i,x)=>(i,az x)) m=some r)(hm:AG T g.n V m w)
  (ho:o.op= .build t parts) (bb:∀x,AA T g.n V m w (az x) (a.eval x)):A8 T g V m w ((execOp a.eval o).run P w) r:=by
 unfold UX at h;simp only[tX,tU] at h;obtain⟨i,Y,z,hz,l,hl,h⟩:=h;obtain⟨W,C,O,_,_⟩:=CP hl (Hb (T:=T) (n:=g.n) (V := V) (m:=m) (w:=w) z);have a0:∀J af,N2 J l (parts.toList.map fun (i,x)=>(i,az x))=some af->∃q:List Value,Instr.fill J z.cells (parts.map fun (i,x)=>(i,a.eval x)).toList=some q.toArray/\AB T g.n V m w af q:=by
  intro J af A;rw[C];refine Xg A O (by simp) ?_;grind
 have ag:∀q af,AB T g.n V m w af q->P.built t (parts.map fun (i,x)=>(i,a.eval x)).toList=some (q:List Value).toArray->r={ c:= .agg af,m }->A8 T g V m w ((execOp a.eval o).run P w) r:=by
  intro q af hh hb hr;subst hr;refine A8.same (v:= .agg q.toArray) ?_ hm rfl ⟨q,rfl,hh⟩;simp only[execOp,ho,ua,run_build w t _ _ hb,uZ,uh]
 split at h
 .rename_i k e F;simp only[tU] at h;obtain⟨ie,a3,af,A,h⟩:=h;obtain⟨q,D,E⟩:=a0 _ _ A;exact ag q af E (by simp only[Program.built,Y,F,hz,a3,D]) (by cases h;rfl)
 .rename_i ba F;simp only[tU] at h;obtain⟨bi,a8,af,A,h⟩:=h;obtain⟨q,D,E⟩:=a0 _ _ A;exact ag q af E (by simp only[Program.built,Y,F,hz,a8,D]) (by cases h;rfl)
 .cases h
end
section
variable {P:Program}{T:Tab}{V :Nat->Option Nat}{m:Mem}{w:World}{g:G}{r:R}
variable{t s e:TypeId}{i:TypeInfo}{p aO x c:AC}{v u:Value}{k:IntKind}
theorem BN (Y:P.info? t=some i)(w:World):(sizeOf t).run P w= .ok i.size w:=by
 simp[sizeOf,typeInfo,Y]
theorem I8 {q:Array Field}{f:Nat}{h:Field}(A:P.underlying s=some (.struct q))(z:q[f]? =some h)(Y:P.info? h.type=some i)
  (D:i.size≠0) (b off:Nat):(Instr.fieldAt s (.pointer (some ⟨b,off,none⟩)) f).run P w= .ok (.pointer (some ⟨b,off+h.offset,none⟩)) w:=by
 simp[Instr.fieldAt,run_underlying A,z,Instr.sureAddr,fieldPlace,BN Y,D,B8]
theorem Jp {f:Nat}(h:GQ P s p f m=some r)(E:AA T g.n V m w p v):
  ∃u,(Instr.fieldAt s v f).run P w= .ok u w/\r.m=m/\r.us=[]/\AA T g.n V m w r.c u:=by
 unfold GQ at h;split at h
 .rename_i a0 F;simp only[tX,tU] at h;obtain⟨fd,D,i,Y,h⟩:=h;split at h
  .cases h
  .rename_i J;cases p<;>simp only at h
   case ptr id off=>
    cases h;obtain⟨b,C,rfl,q⟩:=E;exact⟨_,I8 F D Y J b off,rfl,rfl,b,C,rfl,q⟩
   case pix id base aD aW x aP=>
    cases h;obtain⟨z,b,j,C,O,q,h4,rfl,A⟩:=E;exact⟨_,I8 F D Y J b _,rfl,rfl,z,b,j,C,O,q,h4,by rw[Nat.add_assoc],A⟩
   case rp x t off ks=>
    cases h;obtain⟨z,j,b,o,us,C,O,q,rfl,A⟩:=E;exact⟨_,I8 F D Y J b _,rfl,rfl,z,j,b,o,us,C,O,q,by rw[Nat.add_assoc],A⟩
   case mp id y t sz off=>
    cases h;obtain⟨z,j,L,b,C,O,q,rfl,A⟩:=E;exact⟨_,I8 F D Y J b _,rfl,rfl,z,j,L,b,C,O,q,by rw[Nat.add_assoc],A⟩
   all_goals cases h
 .cases h
theorem Gm {len:Nat}(q:P.underlying t=some (.array len e))(Y:P.info? e=some i)(b off:Nat)(k:IntKind)(n:Int)(h:0<=n)(C:n < len):
  (Instr.indexAt t (.pointer (some ⟨b,off,none⟩)) (.int k n)).run P w= .ok (.pointer (some ⟨b,off+n.toNat*i.size,none⟩)) w:=by
 simp[Instr.indexAt,asIntOf,run_underlying q,Instr.sureAddr,BN Y,h,C,B8]
theorem Om (q:P.underlying t=some (.slice e))(Y:P.info? e=some i)(b off len I:Nat)(k:IntKind)(n:Int)(h:0<=n)(C:n < len):
  (Instr.indexAt t (.slice (some ⟨b,off,none⟩) len I) (.int k n)).run P w= .ok (.pointer (some ⟨b,off+n.toNat*i.size,none⟩)) w:=by
 simp[Instr.indexAt,asIntOf,run_underlying q,BN Y,h,C,B8]
theorem Nh {x:Nat}{q:List Ex}{n:Int}(h:Qj g aO=some (x,q))(z:New T g.n q)(Y:AA T g.n V m w aO (.int k n)):
  x < g.n+q.length/\T x= .int n:=by
 cases aO<;>simp only[Qj] at h<;>cases h
 case i=>
  obtain⟨A,j,C,O,_⟩:=Y;grind
 case ci=>
  have e:Value.int k n=_:=Y;cases e;exact⟨by simp,z.head⟩
theorem Rd (hu:P.underlying t=some (.slice e))(a0:P.info? e=some i){n:Int}{J:Rf}(a5:J.eval T= .int n)
  (h:Cg.aIndexSl i.size p aO J m g=some r) (a3:New T g.n r.us) (a4:∀q∈r.ps,q.holds T) (D:AA T g.n V m w p v)
  (a1:AA T g.n V m w aO (.int k n)):∃y,(Instr.indexAt t v (.int k n)).run P w= .ok y w/\r.m=m/\AA T (g.n+r.us.length) V m w r.c y:=by
 unfold Cg.aIndexSl at h;simp only[tX,tU] at h;obtain⟨⟨x,bx⟩,hx,h⟩:=h;have sl:∀y ks,y < g.n->AT (AY T V m w) w (.list ks) (T y) v->i.size=ks.length->r={ c:= .rp y x 0 ks,m,us:=bx,ps:=[⟨ "inl",Ul,[J,.e y]⟩] }->
   ∃z,(Instr.indexAt t v (.int k n)).run P w= .ok z w/\r.m=m/\AA T (g.n+r.us.length) V m w r.c z:=by
  intro y ks hy bs E hr;subst hr;have F:=Nh hx a3 a1;have A:=a4 ⟨ "inl",Ul,[J,.e y]⟩ (by simp);obtain⟨l,hl,_,_,a,I,rfl,_,h5⟩:=bs;simp only[Pr.holds,Ul,u0,u1,tx,uW,a5,eve,hl,U.toI,U.toL] at A;obtain⟨b,o,rfl,h6⟩:=h5 (by omega);have a2:n.toNat < l.length:=by omega
  refine⟨_,Om hu a0 b o l.length I k n A.1 A.2,rfl,⟨by simp only;omega,F.1⟩,n,b,o,l[n.toNat],F.2,A.1,?_,?_,?_⟩
  .rw[hl];exact tZ a2
  .simp only[E,Nat.add_zero]
  .exact h6 n.toNat _ (tZ a2)
 cases p<;>simp only at h
 case ro y ks=>
  split at h
  .rename_i E;exact sl y ks D.1 D.2 E (by cases h;rfl)
  .cases h
 case vec id y ks=>
  split at h
  .rename_i E;exact sl y ks D.1 D.2.2.1 E (by cases h;rfl)
  .cases h
 case mr id y=>
  cases h;have F:=Nh hx a3 a1;obtain⟨⟨h0,bb⟩,L,a,I,hy,⟨b3,b4⟩,rfl,⟨b5,hb⟩,hl⟩:=D;have A:=a4 ⟨ "in",pIn,[J,.e y]⟩ (by simp);simp only[Pr.holds,pIn,u0,u1,tx,uW,a5,eve,hy,U.toI] at A;obtain⟨b,rfl⟩:=hb (by omega);refine⟨_,Om hu a0 b 0 L.toNat I k n A.1 (by omega),rfl,⟨by simp only;omega,F.1,bb⟩,n,L,b,F.2,hy,A,by simp,fun x2 bt e2 hk=>?_⟩;rcases hl x2 bt e2 hk with⟨_,b6⟩|⟨b',W,X,ae,_,_⟩
  .omega
  .cases ae;exact X
 all_goals cases h
theorem Jr (h:Cg P t p aO m g=some r)(a1:New T g.n r.us)(a2:∀q∈r.ps,q.holds T)(F:AA T g.n V m w p v)
  (ao:AA T g.n V m w aO u):∃y,(Instr.indexAt t v u).run P w= .ok y w/\r.m=m/\AA T (g.n+r.us.length) V m w r.c y:=by
 unfold Cg at h;simp only[tX,tU] at h;obtain⟨⟨k,ap,Y,rn⟩,a6,h⟩:=h;obtain⟨n,rfl,a3,bb,ba⟩:=Bg a6 ao;simp only at h;split at h
 .rename_i len e E;simp only[tU] at h;obtain⟨i,D,h⟩:=h;split at h
  .cases h
  .rename_i hz;split at h
   .rename_i hc;obtain rfl:n=ap:=by omega
    split at h
    .rename_i z;cases p<;>simp only at h
     case ptr id off=>
      cases h;obtain⟨b,C,rfl,A⟩:=F;exact⟨_,Gm E D b off k n z.1 z.2,rfl,b,C,rfl,A⟩
     case pix id base aD aW x aP=>
      cases h;obtain⟨J,b,j,C,O,A,h4,rfl,h5⟩:=F;exact⟨_,Gm E D b _ k n z.1 z.2,rfl,J,b,j,C,O,A,h4,by rw[Nat.add_assoc],h5⟩
     case rp x t off ks=>
      cases h;obtain⟨J,j,b,o,us,C,O,A,rfl,h5⟩:=F;exact⟨_,Gm E D b _ k n z.1 z.2,rfl,J,j,b,o,us,C,O,A,by rw[Nat.add_assoc],h5⟩
     case mp id y t sz off=>
      cases h;obtain⟨J,j,L,b,C,O,A,rfl,h5⟩:=F;exact⟨_,Gm E D b _ k n z.1 z.2,rfl,J,j,L,b,C,O,A,by rw[Nat.add_assoc],h5⟩
     all_goals cases h
    .cases h
   .cases p<;>simp only at h
    case ptr id off=>
     simp only[tU] at h;obtain⟨⟨x,bj⟩,hx,h⟩:=h;cases h;obtain⟨b,C,rfl,A⟩:=F;have a4:=Nh hx a1 ao;have z:0<=n/\n < (len:Int):=by
      by_cases hc:0<=ap/\Y < len
      .omega
      .have:=a2 ⟨ "in",pIn,[rn,.c (.int len)]⟩ (by simp[hc]);simpa [Pr.holds,pIn,u0,u1,a3,evc,U.toI] using this
     exact⟨_,Gm E D b off k n z.1 z.2,rfl,a4.1,b,n,C,a4.2,z.1,z.2,rfl,A⟩
    all_goals cases h
 .rename_i e E;simp only[tU] at h;obtain⟨i,D,h⟩:=h;split at h
  .rename_i hc;obtain rfl:n=ap:=by omega
   split at h
   .rename_i id off len;split at h
    .rename_i z;cases h;obtain⟨b,C,rfl,A⟩:=F;exact⟨_,Om E D b off len len k n z.1 z.2,rfl,b,C,rfl,A⟩
    .cases h
   .exact Rd E D a3 h a1 a2 F ao
  .exact Rd E D a3 h a1 a2 F ao
 .cases h
theorem Rt {n:Nat}{l:List AC}{W:List Value}{off:Nat}(h:Eng.apart P t l off=some c)(z:AB T n V m w l W):
  ∃u,(part t W.toArray off).run P w= .ok u w/\AA T n V m w c u:=by
 unfold Eng.apart at h;simp only[tX,tU] at h;obtain⟨⟨size,a7⟩,aa,h⟩:=h;unfold FP at aa;cases Y:P.info? t with
 |none=>rw[Y] at aa;simp at aa
 |some i=>
  cases q:P.underlying t with
  |none=>rw[Y,q] at aa;simp at aa
  |some d=>
   rw[Y,q] at aa;cases d<;>simp at aa<;>obtain⟨C,O⟩:=aa<;>subst O<;>subst C
   case struct D=>
    simp at h;obtain⟨A,h⟩:=h;subst h;refine⟨.agg ((W.drop off).take i.size).toArray,?_,_,rfl,(z.drop off).take i.size⟩;simp[part,isAgg,run_underlying q,BN Y,List.extract_eq_take_drop]
   case array k e=>
    simp at h;obtain⟨A,h⟩:=h;subst h;refine⟨.agg ((W.drop off).take i.size).toArray,?_,_,rfl,(z.drop off).take i.size⟩;simp[part,isAgg,run_underlying q,BN Y,List.extract_eq_take_drop]
   all_goals
    simp at h;obtain⟨u,C,O⟩:=z.get h;exact⟨u,by simp[part,isAgg,run_underlying q,C],O⟩
theorem Pe {f:Nat}(h:XM P s c f m=some r)(q:AA T g.n V m w c v):
  ∃u,(Instr.field s v f).run P w= .ok u w/\r.m=m/\r.us=[]/\AA T g.n V m w r.c u:=by
 unfold XM at h;split at h
 .rename_i F l D;simp only[tX,tU] at h;obtain⟨E,z,d,hd,h⟩:=h;cases h;obtain⟨W,rfl,A⟩:=q;obtain⟨u,C,O⟩:=Rt (P:=P) hd A;exact⟨u,by simp[Instr.field,run_underlying D,z,asAgg,C],rfl,rfl,O⟩
 .cases h
theorem Pc {len:Nat}(q:P.underlying t=some (.array len e))(Y:P.info? e=some i)(av:Array Value)(k:IntKind)(n:Int)(h:0<=n)(C:n < len):
  (Instr.index t (.agg av) (.int k n)).run P w=(part e av (n.toNat*i.size)).run P w:=by
 simp[Instr.index,asIntOf,run_underlying q,BN Y,h,C]
theorem Py (h:ZY P t x aO m g=some r)(a3:New T g.n r.us)(bs:∀q∈r.ps,q.holds T)(hx:AA T g.n V m w x v)
  (bj:AA T g.n V m w aO u):∃y,(Instr.index t v u).run P w= .ok y w/\r.m=m/\(AA T g.n V m w r.c y\/AA T (g.n+r.us.length) V m w r.c y):=by
 unfold ZY at h;simp only[tX,tU] at h;obtain⟨⟨k,ap,Y,rn⟩,a2,h⟩:=h;obtain⟨n,rfl,bx,cv,cs⟩:=Bg a2 bj;simp only at h;split at h
 .rename_i len e l J;simp only[tU] at h;obtain⟨i,a1,h⟩:=h;obtain⟨W,rfl,A⟩:=hx;split at h
  .rename_i D;obtain rfl:n=ap:=by omega
   split at h
   .rename_i z;simp only[tU] at h;obtain⟨d,hd,h⟩:=h;cases h;obtain⟨y,C,O⟩:=Rt (P:=P) hd A;exact⟨y,by rw[Pc J a1 _ k n z.1 z.2];exact C,rfl,.inl O⟩
   .cases h
  .simp only[tU] at h;obtain⟨⟨size,a7⟩,aa,h⟩:=h;simp only at h;split at h
   .rename_i a5;cases aO<;>simp only at h
    case i k' c0 cu xi=>
     simp only[CE] at a2;cases a2;obtain⟨cc,ak,hT,ee,_⟩:=bj;cases ee;have bt:r.ps=(if 0<=ap/\Y < len then [] else [⟨ "in",pIn,[.e xi,.c (.int len)]⟩])->0<=n/\n < (len:Int):=by
      intro a4;by_cases D:0<=ap/\Y < len
      .omega
      .have:=bs ⟨ "in",pIn,[.e xi,.c (.int len)]⟩ (by rw[a4];simp[D]);simpa [Pr.holds,pIn,u0,u1,evc,eve,U.toI,hT] using this
     split at h
     .rename_i a0;subst a0;simp only[tU] at h;obtain⟨K,bb,⟨ls,cf⟩,ca,h⟩:=h;cases h;have z:=bt rfl;have bl:n.toNat < len:=by omega
      have bm:=Tq bb bl;rw[<-A.length] at bm;have b8:=TY (ak:=g.n+cf.length) bb ca a3 (tY _) hT z.1 bl A bm;have F:CB P e=true/\∃ie,P.info? e=some ie/\ie.size=size:=by
       unfold FP at aa;unfold CB;split at aa<;>cases aa<;>simp_all
      obtain⟨F,ie,bc,bi⟩:=F;refine⟨.agg ((W.drop (n.toNat*size)).take size).toArray,?_,rfl,.inr ⟨_,rfl,?_⟩⟩
      .rw[Pc J a1 _ k n z.1 z.2,a5];unfold CB at F;split at F
       .rename_i fs a6;simp[part,isAgg,run_underlying a6,BN bc,bi,List.extract_eq_take_drop]
       .rename_i ch ci a6;simp[part,isAgg,run_underlying a6,BN bc,bi,List.extract_eq_take_drop]
       .cases F
      .simpa using b8
     .rename_i a0;simp only[tU] at h;obtain⟨av,ba,h⟩:=h;have b4:a7=false:=by simpa using a0
      subst b4;have cb:=LR aa rfl;subst cb;have a4:r.ps=if 0<=ap/\Y < len then [] else [⟨ "in",pIn,[.e xi,.c (.int len)]⟩]:=by
       unfold JR at h;split at h
       .split at h
        .cases h
        .cases h;rfl
       .split at h
        .cases h;rfl
        .cases h
      have z:=bt a4;have ag:=O1 ba n.toNat (by omega);simp only[Nat.mul_one,tj,Nat.add_zero] at ag;have b7:∃c,l[n.toNat]? =some c:=by
       rw[<-ag];exact⟨_,tZ (by rw[(ER _ _ _ ba).1];simp;omega)⟩
      obtain⟨c,D⟩:=b7;rw[D] at ag;have b5:Eng.apart P e l n.toNat=some c:=by
       unfold Eng.apart;simp[aa,D]
      obtain⟨y,C,O⟩:=Rt (P:=P) b5 A;refine⟨y,by rw[Pc J a1 _ k n z.1 z.2,a5,Nat.mul_one];exact C,?_⟩;obtain⟨f1,_,f3⟩:=QV h a3 cc hT z.1 ag O;exact⟨f1,.inr f3⟩
    all_goals cases h
   .cases h
 .rename_i y J;cases h;obtain⟨hy,s,aa,rfl,a5⟩:=hx;have C:=bs ⟨ "ins",dS,[.e y,rn]⟩ (by simp);simp only[Pr.holds,dS,tx,uW,u0,u1,eve,aa,bx,U.toS,U.toI] at C;obtain⟨O,h3⟩:=C;have E:n.toNat < s.size:=by omega
  have hb:s[n.toNat]? =some (s[n.toNat]'E):=getElem?_pos s n.toNat E;refine⟨.int .u8 ((s[n.toNat]'E).toNat:Int),?_,rfl,.inr ⟨by simp,Bn s n.toNat,?_,?_,?_,?_⟩⟩
  .simp[Instr.index,asIntOf,run_underlying J,vC O,hb]
  .rw[a3.head];simp only[Ex.eval,tx,uW,mO,u0,u1,eve,aa,bx,U.toS,U.toI]
  .have e:Bn s n.toNat=((s[n.toNat]'E).toNat:Int):=by
    unfold Bn;have A:n.toNat < s.data.toList.length:=by simpa using E
    rw[uD,tZ A];rfl
   rw[e]
  .unfold Bn;omega
  .unfold Bn;have:=(s.data.toList.getD n.toNat 0).toNat_lt;omega
 .cases h
theorem Mz {i:Nat}(h:Nt x i m=some r)(A:AA T g.n V m w x v):
  ∃u,(Instr.extract v i).run P w= .ok u w/\r.m=m/\r.us=[]/\AA T g.n V m w r.c u:=by
 cases x<;>simp only[Nt] at h
 case tup l=>
  simp only[uC] at h;obtain⟨c,q,h⟩:=h;cases h;obtain⟨W,rfl,z⟩:=A;obtain⟨u,C,O⟩:=z.get q;exact⟨u,by simp[Instr.extract,C],rfl,rfl,O⟩
 all_goals cases h
theorem Zv {op:UnOp}(h:aUn op x m g=some r)(F:New T g.n r.us)(q:AA T g.n V m w x v):
  ∃u,(Op.unary op v).run P w= .ok u w/\r.m=m/\AA T (g.n+r.us.length) V m w r.c u:=by
 cases op<;>simp only[aUn] at h
 case not=>
  cases x<;>simp only at h<;>cases h
  case cb=>rw[show v=_ from q];exact⟨_,rfl,rfl,rfl⟩
  case b=>
   obtain⟨D,b,C,rfl⟩:=q;exact⟨_,rfl,rfl,by simp;omega,b,C,rfl⟩
  case nb=>
   obtain⟨D,b,C,rfl⟩:=q;exact⟨_,rfl,rfl,by simp;omega,b,C,by simp⟩
 case neg=>
  simp only[tX,tU] at h;obtain⟨⟨k,ap,Y,rn⟩,E,h⟩:=h;obtain⟨n,rfl,J,a0,ao⟩:=Bg E q;cases h;have z:=Jc (T:=T) k (ap:=0 - Y) (Y:=0 - ap) (n:=0 - n) (e:=⟨ "neg",ZL,[rn]⟩) (by simp[Ex.eval,ZL,u0,J,U.toI]) (by omega) (by omega);refine⟨.int k (k.wrap (0 - n)),by simp[Op.unary,Op.intArith],JB,Gc F z.val z.lo z.hi (fun y A=>?_)⟩;unfold rng at A;split at A<;>cases A
 all_goals cases h
theorem cE {n:Nat}{ap Y:Int}{r:Rf}(h:CE c=some (k,ap,Y,r))(z:AA T n V m w c v):∀y,Vx.rf r= .rf (.e y)->y < n:=by
 intro y q;cases c<;>simp only[CE] at h<;>cases h
 .cases q
 .cases q;exact z.1
theorem Ml {z aG:TypeId}(h:SO P z aG x m g=some r)(D:New T g.n r.us)(F:AA T g.n V m w x v):
  ∃u,(convert z aG v).run P w= .ok u w/\r.m=m/\AA T (g.n+r.us.length) V m w r.c u:=by
 unfold SO at h;split at h
 .rename_i d k aa hd;simp only[tX,tU] at h;obtain⟨⟨k',ap,Y,rn⟩,A,h⟩:=h;obtain⟨n,rfl,E,ag,J⟩:=Bg A F;have q:(convert z aG (.int k' n)).run P w= .ok (.int k (k.wrap n)) w:=by
   simp only[convert,ua,run_underlying aa,run_underlying hd,uZ];cases d<;>rfl
  simp only at h;split at h
  .rename_i hr;rw[EX k n (by omega) (by omega)] at q;cases h;exact⟨_,q,JB,Gc D E ag J (cE A F)⟩
  .cases h;have:=D8 k n;exact⟨_,q,JB,Gc D (by simp[Vx.eval,Ex.eval,JH,oId,u0,E,U.toI]) this.1 this.2 (fun y hy=>by cases hy)⟩
 .cases h
theorem Sj {k:Bool}{r:Rf}(h:IG c=some (some k,r)):r= .c (.bool k):=by
 cases c<;>simp only[IG] at h<;>cases h;rfl
theorem PD {a b:AC}{F aU vb:Value}(h:XE c a b m g=some r)(a2:New T g.n r.us)(hm:AG T g.n V m w)(hc:AA T g.n V m w c F)
  (ha:F= .bool true->AA T g.n V m w a aU) (A:F= .bool false->AA T g.n V m w b vb):
  ∃q,F= .bool q/\r.m=m/\AA T (g.n+r.us.length) V m w r.c (if q then aU else vb):=by
 unfold XE at h;simp only[tX,tU] at h;obtain⟨⟨k,rq⟩,a5,h⟩:=h;obtain⟨q,rfl,D,E⟩:=D6 a5 hc;refine⟨q,rfl,?_⟩;cases k with
 |some k=>
  have:=E k rfl;subst this;cases q with
  |true=>simp only at h;cases h;exact⟨rfl,(ha rfl).up hm (by simp)⟩
  |false=>simp only at h;cases h;exact⟨rfl,(A rfl).up hm (by simp)⟩
 |none=>
  simp only at h;split at h
  .rename_i ka ry kb rz hy hz;cases h;refine⟨Qp,?_⟩;have ba:q=true->∃y,aU= .bool y/\ry.eval T= .bool y:=fun hq=>by
    obtain⟨y,J,z,_⟩:=D6 hy (ha (by rw[hq]));exact⟨y,J,z⟩
   have bb:q=false->∃y,vb= .bool y/\rz.eval T= .bool y:=fun hq=>by
    obtain⟨y,J,z,_⟩:=D6 hz (A (by rw[hq]));exact⟨y,J,z⟩
   cases q with
   |true=>
    obtain⟨y,rfl,z⟩:=ba rfl;refine K3 a2 (fun _=>?_) (fun b A=>by cases A);split
    .rename_i E;subst E;have:=Sj hy;subst this;cases z;simp[Ex.eval,oOr,u0,u1,D,U.toB]
    .split
     .simp[Ex.eval,QI,u0,u1,D,z,U.toB]
     .simp[Ex.eval,eB,u0,u1,u2,D,z,U.toB]
   |false=>
    obtain⟨y,rfl,z⟩:=bb rfl;refine K3 a2 (fun _=>?_) (fun b A=>by cases A);split
    .simp[Ex.eval,oOr,u0,u1,D,z,U.toB]
    .split
     .rename_i E;subst E;have:=Sj hz;subst this;cases z;simp[Ex.eval,QI,u0,u1,D,U.toB]
     .simp[Ex.eval,eB,u0,u1,u2,D,z,U.toB]
  .cases h
theorem Kp {A:Bool}{y:AC}(h:Yo A x y m g=some r)(D:New T g.n r.us)(hx:AA T g.n V m w x v)(q:AA T g.n V m w y u)(ar:Array TypeId)(t:TypeId):
  ∃z,(if A then Builtin.max_ ar t #[v,u] else Builtin.min_ ar t #[v,u]).run P w= .ok z w/\r.m=m/\AA T (g.n+r.us.length) V m w r.c z:=by
 unfold Yo at h;simp only[tX,tU] at h;obtain⟨⟨k,X,C,ax⟩,a0,⟨k',ae,O,aE⟩,a1,h⟩:=h;obtain⟨am,rfl,F,a2,b1⟩:=Bg a0 hx;obtain⟨ay,rfl,J,a3,b2⟩:=Bg a1 q;have az:∀E f,(ex2 E f ax aE).eval T= .int (f am ay):=fun E f=>by simp[ex2,Ex.eval,o2,u0,u1,F,J,U.toI]
 simp only at h;split at h
 .rename_i hk;subst hk;cases A with
  |true=>
   simp only[if_true] at h⊢;cases h;refine⟨.int k (U1 am ay),?_,JB,Gc D (az _ _) (by simp[U1];omega) (by simp[U1];omega) (fun y q=>by cases q)⟩;rw[run_max_int2];simp only[U1];congr 2;split<;>omega
  |false=>
   simp only[if_false,uE] at h⊢;cases h;refine⟨.int k (U3 am ay),?_,JB,Gc D (az _ _) (by simp[U3];omega) (by simp[U3];omega) (fun y q=>by cases q)⟩;rw[run_min_int2];simp only[U3];congr 2;split<;>omega
 .cases h
theorem P9 {u:U}(h:u.toB=true):u= .bool true:=by
 cases u<;>simp[U.toB] at h;rw[h]
theorem Pw {a:Act}{o:Oper}{y:Operand}(h:Fl x m=some r)(a0:∀q∈r.ps,q.holds T)(J:AG T g.n V m w)(ho:o.op= .nilCheck y)
  (hv:a.eval y=v) (F:AA T g.n V m w x v):A8 T g V m w ((execOp a.eval o).run P w) r:=by
 have ag:∀b off,v= .pointer (some ⟨b,off,none⟩)->(execOp a.eval o).run P w= .ok (.value v) w:=by
  intro b off e;simp[execOp,ho,hv,e]
 unfold Fl at h;split at h
 .rename_i c id off;cases h;have hc:T c= .bool true:=P9 (a0 ⟨ "t",pT,[.e c]⟩ (by simp));have:=F.2 hc;obtain⟨b,C,O,z⟩:=this;exact A8.same (ag _ _ O) J rfl ⟨b,C,O,z⟩
 .rename_i c x t off ks;cases h;have hc:T c= .bool true:=P9 (a0 ⟨ "t",pT,[.e c]⟩ (by simp));have:=F.2 hc;obtain⟨D,j,b,o',us,C,O,z,A,E⟩:=this;exact A8.same (ag _ _ A) J rfl ⟨D,j,b,o',us,C,O,z,A,E⟩
 .rename_i c id y t sz off;cases h;have hc:T c= .bool true:=P9 (a0 ⟨ "t",pT,[.e c]⟩ (by simp));have:=F.2 hc;obtain⟨D,j,L,b,C,O,z,A,E⟩:=this;exact A8.same (ag _ _ A) J rfl ⟨D,j,L,b,C,O,z,A,E⟩
 .cases h;obtain⟨b,C,O,z⟩:=F;exact A8.same (ag _ _ O) J rfl ⟨b,C,O,z⟩
 .cases h;obtain⟨D,b,j,C,O,z,h4,A,E⟩:=F;exact A8.same (ag _ _ A) J rfl ⟨D,b,j,C,O,z,h4,A,E⟩
 .cases h;obtain⟨D,j,b,o',us,C,O,z,A,E⟩:=F;exact A8.same (ag _ _ A) J rfl ⟨D,j,b,o',us,C,O,z,A,E⟩
 .cases h;obtain⟨D,j,L,b,C,O,z,A,E⟩:=F;exact A8.same (ag _ _ A) J rfl ⟨D,j,L,b,C,O,z,A,E⟩
 .cases h;have a5:=F;obtain⟨W,us,C,O,z⟩:=F;refine A8.same ?_ J rfl a5;simp[execOp,ho,hv,C]
 .cases h
end
inductive KE:List Ek->List Value->List Value->Bool->Prop where
 |nil:KE [] [] [] true
 |int {ks us vs r} (k:IntKind) (a b:Int):KE ks us vs r->KE (.int::ks) (.int k a::us) (.int k b::vs) ((a==b)&&r)
 |bool {ks us vs r} (a b:Bool):KE ks us vs r->KE (.bool::ks) (.bool a::us) (.bool b::vs) ((a==b)&&r)
 |str {ks us vs r} (a b:ByteArray):KE ks us vs r->KE (.str::ks) (.string a::us) (.string b::vs) (decide (a=b)&&r)
theorem IS (a b:ByteArray):(a.toList==b.toList)=decide (a=b):=by
 by_cases h:a=b
 .subst h;simp
 .rw[decide_eq_false h,beq_eq_false_iff_ne];intro q;refine h ?_;have:a.data.toList=b.data.toList:=by simpa [ByteArray.toList_eq] using q
  cases a;cases b;simp at this;rw[this]
theorem KE.length {ks us W r}(h:KE ks us W r):us.length=ks.length/\W.length=ks.length:=by
 induction h with
 |nil=>simp
 |int _ _ _ _ q=>simp[q]
 |bool _ _ _ q=>simp[q]
 |str _ _ _ q=>simp[q]
theorem KE.split:∀{k1 E us W r},KE (k1++E) us W r->∃ax aE,KE k1 (us.take k1.length) (W.take k1.length) ax/\KE E (us.drop k1.length) (W.drop k1.length) aE/\r=(ax&&aE)
 |[],E,us,W,r,h=>⟨true,r,.nil,h,by simp⟩
 |k::k1,E,us,W,r,h=>by
  cases h with
  |int ai a b h=>
   obtain⟨ax,aE,C,O,rfl⟩:=KE.split h;exact⟨(a==b)&&ax,aE,.int ai a b C,O,by rw[Bool.and_assoc]⟩
  |bool a b h=>
   obtain⟨ax,aE,C,O,rfl⟩:=KE.split h;exact⟨(a==b)&&ax,aE,.bool a b C,O,by rw[Bool.and_assoc]⟩
  |str a b h=>
   obtain⟨ax,aE,C,O,rfl⟩:=KE.split h;exact⟨decide (a=b)&&ax,aE,.str a b C,O,by rw[Bool.and_assoc]⟩
section
variable {P:Program}{T:Tab}{V :Nat->Option Nat}{m:Mem}{w:World}{g:G}{r:R}
def Aw (P:Program)(t:TypeId)(us:List Value):Value:=
 match P.underlying t with
 |some (.struct _)|some (.array _ _)=> .agg us.toArray
 |_=>us.headD undef
theorem It {t:TypeId}{ks:List Ek}{d:Nat}(q:Bo P d t=some ks)(aa:P.cellsOf t=ks.length)(us:List Value)(off:Nat)(z:off+ks.length<=us.length):
  (part t us.toArray off).run P w= .ok (Aw P t ((us.drop off).take ks.length)) w:=by
 have size:(∃i,P.info? t=some i)->(sizeOf t).run P w= .ok ks.length w:=by
  rintro⟨i,Y⟩;rw[BN Y];simp[Program.cellsOf,Y] at aa;rw[aa]
 have D:∀A,P.underlying t=some A->∃i,P.info? t=some i:=by
  intro A h;cases Y:P.info? t with
  |some i=>exact⟨i,rfl⟩
  |none=>simp[Program.underlying,Y] at h
 cases d with
 |zero=>cases q
 |succ d=>
  simp only[Bo] at q;split at q
  .rename_i h;cases q;have:off < us.length:=by simp at z;omega
   have e:(us.drop off).take 1=[us[off]]:=by
    rw[List.drop_eq_getElem_cons this];rfl
   simp[part,isAgg,run_underlying h,Aw,h,this,e]
  .rename_i k h;cases q;have:off < us.length:=by simp at z;omega
   have e:(us.drop off).take 1=[us[off]]:=by
    rw[List.drop_eq_getElem_cons this];rfl
   simp[part,isAgg,run_underlying h,Aw,h,this,e]
  .rename_i h;cases q;have:off < us.length:=by simp at z;omega
   have e:(us.drop off).take 1=[us[off]]:=by
    rw[List.drop_eq_getElem_cons this];rfl
   simp[part,isAgg,run_underlying h,Aw,h,this,e]
  .rename_i E h;simp[part,isAgg,run_underlying h,Aw,h,size (D _ h),List.extract_eq_take_drop]
  .rename_i n e h;simp[part,isAgg,run_underlying h,Aw,h,size (D _ h),List.extract_eq_take_drop]
  .cases q
theorem Q2 {d D:Nat}(ih:∀(t:TypeId) (ks:List Ek) (us W:List Value) (q:Bool),Bo P d t=some ks->KE ks us W q->(Op.equalIn D t (Aw P t us) (Aw P t W)).run P w= .ok q w)
  (U z:List Value):∀(A:List Field) (off:Nat) (ks:List Ek) (q:Bool),GO P (Bo P d) A off=some ks->KE ks (U.drop off) (z.drop off) q->off+ks.length<=U.length->off+ks.length<=z.length->
  (Op.eqFields D U.toArray z.toArray A).run P w= .ok q w
 |[],off,ks,q,h,hk,_,_=>by
  simp only[GO] at h;cases h;cases hu:U.drop off<;>cases hv:z.drop off<;>rw[hu,hv] at hk<;>cases hk;simp[Op.eqFields]
 |f::A,off,ks,q,h,hk,hU,hV=>by
  simp only[GO,tX] at h;split at h
  .rename_i hc;simp only[tU] at h;obtain⟨k1,C,h⟩:=h;split at h
   .rename_i J;simp only[tU] at h;obtain⟨E,O,h⟩:=h;cases h;simp only[tq] at hU hV;obtain⟨q1,q2,e1,F,rfl⟩:=hk.split;rw[ut,ut] at F;have a4:=Q2 ih U z A (off+k1.length) E q2 O F (by omega) (by omega);obtain⟨rfl,hn⟩:=hc;simp only[Op.eqFields,hn,ne_eq,not_false_eq_true,if_true,ua,It C J U f.offset (by omega),It C J z f.offset (by omega),uZ,ih f.type k1 _ _ q1 C e1];cases q1 with
    |true=>simpa using a4
    |false=>simp
   .cases h
  .cases h
theorem UG {d D:Nat}{e:TypeId}{h:List Ek}(C:Bo P d e=some h)(A:P.cellsOf e=h.length)
  (J:∀(us W:List Value) (q:Bool),KE h us W q->(Op.equalIn D e (Aw P e us) (Aw P e W)).run P w= .ok q w)
  (U z:List Value):∀(n s:Nat) (q:Bool),KE (List.replicate n h).flatten (U.drop (s*h.length)) (z.drop (s*h.length)) q->(s+n)*h.length<=U.length->(s+n)*h.length<=z.length->
  (Op.eqItems D e (P.cellsOf e) U.toArray z.toArray (List.range' s n)).run P w= .ok q w
 |0,s,q,hk,_,_=>by
  simp only[List.replicate_zero,List.flatten_nil] at hk;cases hu:U.drop (s*h.length)<;>cases hv:z.drop (s*h.length)<;>rw[hu,hv] at hk<;>cases hk;simp[Op.eqItems]
 |n+1,s,q,hk,hU,hV=>by
  simp only[List.replicate_succ,vF] at hk;obtain⟨q1,q2,e1,E,rfl⟩:=hk.split;rw[ut,ut,show s*h.length+h.length=(s+1)*h.length by rw[uL,Nat.one_mul]] at E;have b1:s*h.length+h.length<=U.length:=by
   have:(s+1)*h.length<=(s+(n+1))*h.length:=uG _ (by omega);rw[uL,Nat.one_mul] at this;omega
  have b2:s*h.length+h.length<=z.length:=by
   have:(s+1)*h.length<=(s+(n+1))*h.length:=uG _ (by omega);rw[uL,Nat.one_mul] at this;omega
  have F:=UG C A J U z n (s+1) q2 E (by rw[show s+1+n=s+(n+1) by omega];exact hU) (by rw[show s+1+n=s+(n+1) by omega];exact hV);simp only[List.range'_succ,Op.eqItems,ua,A,It C A U (s*h.length) b1,It C A z (s*h.length) b2,uZ,J _ _ q1 e1];rw[A] at F;cases q1 with
  |true=>simpa using F
  |false=>simp
theorem KT:∀(d D:Nat) (t:TypeId) (ks:List Ek) (us W:List Value) (q:Bool),d<=D->Bo P d t=some ks->KE ks us W q->
  (Op.equalIn D t (Aw P t us) (Aw P t W)).run P w= .ok q w
 |0,_,_,_,_,_,_,_,h,_=>by cases h
 |d+1,0,_,_,_,_,_,hd,_,_=>by omega
 |d+1,D+1,t,ks,us,W,q,hd,h,A=>by
  simp only[Bo] at h;split at h
  .rename_i z;cases h;cases A with
   |bool a b A=>
    cases A;simp[Aw,z,run_equalIn_bool w D t a b z]
  .rename_i k z;cases h;cases A with
   |int k' a b A=>
    cases A;simp only[Aw,z,List.headD_cons];rw[run_equalIn_int w D t k' k a b z];simp
  .rename_i z;cases h;cases A with
   |str a b A=>
    cases A;simp only[Aw,z,List.headD_cons];rw[run_equalIn_string w D t a b z];simp[IS]
  .rename_i F z;split at h
   .cases h
   .rename_i ag;have E:=A.length;have J:P.fieldsOf t=F:=by simp[Program.fieldsOf,z]
    simp only[Aw,z];rw[run_equalIn_struct w D t us.toArray W.toArray (by rw[J];exact z) (by simpa using ag),J];exact Q2 (d:=d) (D:=D) (fun t ks us W q C O=>KT d D t ks us W q (by omega) C O) us W F.toList 0 ks q h (by simpa using A) (by omega) (by omega)
  .rename_i n e z;simp only[tX,tU] at h;obtain⟨k1,C,h⟩:=h;split at h
   .rename_i ao;cases h;have E:=A.length;have Y:∃i,P.info? e=some i:=by
     cases Y:P.info? e with
     |some i=>exact⟨i,rfl⟩
     |none=>
      cases d with
      |zero=>cases C
      |succ d=>simp[Bo,Program.underlying,Y] at C
    obtain⟨i,Y⟩:=Y;simp only[Aw,z];rw[run_equalIn_array w D us.toArray W.toArray z Y,List.range_eq_range'];refine UG C ao (fun us W q O=>KT d D e k1 us W q (by omega) C O) us W n 0 q (by simpa using A) ?_ ?_
    .rw[E.1];simp
    .rw[E.2];simp
   .cases h
  .cases h
theorem Ix {n:Nat}{c:AC}{v:Value}{k:Option ByteArray}{r:Rf}(q:Rv c=some (k,r))(h:AA T n V m w c v):
  ∃i,v= .string i/\r.eval T= .str i/\∀b,k=some b->i=b:=by
 cases c<;>simp only[Rv] at q
 case s x=>
  cases q;obtain⟨A,i,C,O,_⟩:=h;exact⟨i,O,C,fun b z=>by cases z⟩
 case cv c=>
  cases c<;>simp only at q
  case str s=>
   split at q
   .cases q;exact⟨s,h,rfl,fun b z=>by cases z;rfl⟩
   .cases q
  all_goals cases q
 all_goals cases q
theorem ZF:∀(l af:List U),l.length % 2=0->FX (l++af)=(FX l&&FX af)
 |[],af,_=>by simp[FX]
 |[_],_,h=>by simp at h
 |a::b::l,af,h=>by
  simp only[List.cons_append,FX];rw[ZF l af (by simp at h;omega),Bool.and_assoc]
theorem X0 {n:Nat}{c d:AC}{u v:Value}{k:Option Bool}{rs:List Rf}(h:ceq c d=some (k,rs))(J:AA T n V m w c u)(hd:AA T n V m w d v):
  ∃b,((∃ai x y,u= .int ai x/\v= .int ai y/\b=(x==y))\/(∃x y,u= .bool x/\v= .bool y/\b=(x==y))\/(∃x y,u= .string x/\v= .string y/\b=decide (x=y)))/\(∀q,k=some q->b=q)/\(k=none->FX (rs.map (Rf.eval T))=b/\rs.length % 2=0):=by
 unfold ceq at h;split at h
 .rename_i k1 X C am E ae O ay z A;split at h
  .rename_i hk;subst hk;obtain⟨x,rfl,D,a1,b1⟩:=Bg z J;obtain⟨y,rfl,F,a2,b2⟩:=Bg A hd;refine⟨x==y,.inl ⟨_,_,_,rfl,rfl,rfl⟩,?_⟩;split at h
   .rename_i he;have:=AC.beq_eq _ _ he;grind
   .split at h
    .grind
    .cases h;refine⟨fun q hq=>(by cases hq),fun _=>⟨?_,by simp⟩⟩;simp[FX,U.eqv,D,F];rfl
  .cases h
 .split at h
  .rename_i x rx y ry z A;cases h;obtain⟨aA,rfl,D,q1⟩:=D6 z J;obtain⟨aS,rfl,F,q2⟩:=D6 A hd;grind
  .rename_i kx rx ky ry _ z A;obtain⟨aA,rfl,D,_⟩:=D6 z J;obtain⟨aS,rfl,F,_⟩:=D6 A hd;refine⟨aA==aS,.inr (.inl ⟨_,_,rfl,rfl,rfl⟩),?_⟩;split at h
   .rename_i he;have:=AC.beq_eq _ _ he;grind
   .cases h;exact⟨fun q hq=>(by cases hq),fun _=>⟨by simp[FX,U.eqv,D,F],by simp⟩⟩
  .split at h
   .rename_i x rx y ry z A;cases h;obtain⟨aA,rfl,D,q1⟩:=Ix z J;obtain⟨aS,rfl,F,q2⟩:=Ix A hd;grind
   .rename_i kx rx ky ry _ z A;obtain⟨aA,rfl,D,_⟩:=Ix z J;obtain⟨aS,rfl,F,_⟩:=Ix A hd;refine⟨decide (aA=aS),.inr (.inr ⟨_,_,rfl,rfl,rfl⟩),?_⟩;split at h
    .rename_i he;have:=AC.beq_eq _ _ he;grind
    .cases h;exact⟨fun q hq=>(by cases hq),fun _=>⟨by simp[FX,U.eqv,D,F],by simp⟩⟩
   .cases h
theorem dL {n:Nat}:∀{ks:List Ek} {l af:List AC} {xs aj:List Value} {k:Option Bool} {rs:List Rf},Zw l af=some (k,rs)->Q0 ks l=true->
  AB T n V m w l xs->AB T n V m w af aj->∃b,KE ks xs aj b/\(∀q,k=some q->b=q)/\(k=none->FX (rs.map (Rf.eval T))=b/\rs.length % 2=0)
 |ks,[],[],xs,aj,k,rs,h,hk,hx,hy=>by
  simp only[Zw] at h;cases h;cases ks with
  |nil=>rw[show xs=[] from hx,show aj=[] from hy];exact⟨true,.nil,fun q D=>(by cases D;rfl),fun h=>(by cases h)⟩
  |cons=>cases hk
 |ks,[],_::_,_,_,_,_,h,_,_,_=>by cases h
 |ks,_::_,[],_,_,_,_,h,_,_,_=>by cases h
 |ks,c::l,d::af,xs,aj,k,rs,h,hk,⟨x,xs',ex,hc,hl⟩,⟨y,ys',ey,hd,hl'⟩=>by
  subst ex;subst ey;cases ks with
  |nil=>cases hk
  |cons ai ks=>
   simp only[Q0,tV] at hk;simp only[Zw,tX,tU] at h;obtain⟨⟨k1,ax⟩,C,⟨E,aE⟩,O,h⟩:=h;obtain⟨b1,e1,e2,J⟩:=X0 C hc hd;obtain⟨b2,f1,f2,f3⟩:=dL O hk.2 hl hl';have ke:KE (ai::ks) (x::xs') (y::ys') (b1&&b2):=by
    have F:=hk.1;rcases e1 with⟨ik,p,q,rfl,rfl,rfl⟩|⟨p,q,rfl,rfl,rfl⟩|⟨p,q,rfl,rfl,rfl⟩<;>cases ai<;>simp only[ekOk,Option.isSome_iff_exists] at F
    case inl.int=>exact .int ik p q f1
    case inr.inl.bool=>exact .bool p q f1
    case inr.inr.str=>exact .str p q f1
    case inl.bool=>obtain⟨⟨z,z'⟩,A⟩:=F;obtain⟨_,this,_⟩:=(D6 A hc);cases this
    case inr.inr.bool=>obtain⟨⟨z,z'⟩,A⟩:=F;obtain⟨_,this,_⟩:=(D6 A hc);cases this
    case inl.str=>obtain⟨⟨z,z'⟩,A⟩:=F;obtain⟨_,this,_⟩:=(Ix A hc);cases this
    case inr.inl.str=>obtain⟨⟨z,z'⟩,A⟩:=F;obtain⟨_,this,_⟩:=(Ix A hc);cases this
    case inr.inl.int=>obtain⟨⟨z1,z2,z3,z4⟩,A⟩:=F;obtain⟨_,this,_⟩:=(Bg A hc);cases this
    case inr.inr.int=>obtain⟨⟨z1,z2,z3,z4⟩,A⟩:=F;obtain⟨_,this,_⟩:=(Bg A hc);cases this
   refine⟨_,ke,?_⟩;simp only at h;split at h
   .cases h;rw[e2 false rfl];exact⟨fun q D=>(by cases D;rfl),fun h=>(by cases h)⟩
   .cases h;rw[f2 false rfl];exact⟨fun q D=>(by cases D;simp),fun h=>(by cases h)⟩
   .cases h;rw[e2 true rfl,Bool.true_and];exact⟨f2,f3⟩
   .cases h;rw[f2 true rfl];exact⟨fun q D=>(by cases D),fun _=>by simpa using J rfl⟩
   .cases h;refine⟨fun q D=>(by cases D),fun _=>⟨?_,?_⟩⟩
    .rw[ti,ZF _ _ (by simpa using (J rfl).2),(J rfl).1,(f3 rfl).1]
    .have:=(J rfl).2;have:=(f3 rfl).2;simp;omega
end
section
variable {P:Program}{T:Tab}{n ak:Nat}{V ab:Nat->Option Nat}{m ad:Mem}{w Z:World}{g:G}{r:R}
theorem AP.len {ok:Nat->Nat->Prop}:∀{ks:List Kd} {us:List U} {W:List Value},AP ok w ks us W->W.length=ks.length/\us.length=ks.length
 |[],_,_,⟨C,O⟩=>by subst C;subst O;exact⟨rfl,rfl⟩
 |k::ks,_,_,⟨u,us',v,vs',C,O,_,h4⟩=>by subst C;subst O;have:=h4.len;simp[this]
theorem AP.ones {ok:Nat->Nat->Prop}:∀{ks:List Kd} {us:List U} {W:List Value},AP ok w ks us W->∀v∈W,v.oneCell'=true
 |[],_,_,⟨C,O⟩=>by subst O;simp
 |k::ks,_,_,⟨u,us',v,vs',C,O,h3,h4⟩=>by
  subst O;intro x h;cases h with
  |head=>exact h3.one
  |tail _ h=>exact h4.ones x h
theorem Af.cells {ok:Nat->Nat->Prop}:∀{ks:List Kd} {b off:Nat} {us:List U},Af ok w ks b off us->∃W,AP ok w ks us W/\∀j v,W[j]? =some v->w.cell? ⟨b,off+j,none⟩=some v
 |[],_,_,us,h=>⟨[],⟨h,rfl⟩,fun j v q=>by simp at q⟩
 |k::ks,b,off,us,⟨u,us',e,⟨_,v,O,h3⟩,h4⟩=>by
  obtain⟨W,z,E⟩:=Af.cells h4;refine⟨v::W,⟨u,us',v,W,e,rfl,h3,z⟩,fun j x q=>?_⟩;cases j with
  |zero=>simp at q;subst q;exact O
  |succ j=>
   have:=E j x (by simpa using q);rwa [show off+1+j=off+(j+1) by omega] at this
theorem AP.holds {ok M:Nat->Nat->Prop}(q:∀b off,ok b off->M b off/\Z.cell? ⟨b,off,none⟩=w.cell? ⟨b,off,none⟩){b:Nat}:∀{ks:List Kd} {us:List U} {W:List Value} {off:Nat},AP ok w ks us W->
  (∀p,p < ks.length->M b (off+p)/\Z.cell? ⟨b,off+p,none⟩=W[p]?)->Af M Z ks b off us
 |[],_,_,_,⟨C,_⟩,_=>C
 |k::ks,_,_,off,⟨u,us',v,vs',C,O,h3,h4⟩,hb=>by
  have h:=hb 0 (by simp);subst O;refine⟨u,us',C,⟨h.1,v,by simpa using h.2,AT.mono q k u v h3⟩,AP.holds q h4 (fun p z=>?_)⟩;have:=hb (p+1) (by simp;omega);rw[show off+1+p=off+(p+1) by omega];simpa using this
theorem A7.len {ok:Nat->Nat->Prop}{ks:List Kd}:∀{l:List (List U)} {aH:List (List Value)},A7 ok w ks l aH->aH.flatten.length=l.length*ks.length/\aH.length=l.length
 |[],_,h=>by rw[show _=[] from h];simp
 |_::_,_,⟨W,vss',e,C,O⟩=>by
  subst e;have:=O.len;have:=C.len;simp[*,uL];omega
variable{l:List (List U)}{W:List Value}{ah:List Kd}{e:TypeId}{aJ:World}{H:Array Value}{I:Nat}
theorem Ab.len {ok:Nat->Nat->Prop}{ks:List Kd}(h:Ab ok w ks l W):W.length=l.length*ks.length:=by
 obtain⟨aH,rfl,h⟩:=h;exact h.len.1
theorem Ab.nil (ok:Nat->Nat->Prop)(ks:List Kd):Ab ok w ks [] []:=⟨[],rfl,rfl⟩
theorem A7.ones {ok:Nat->Nat->Prop}{ks:List Kd}:∀{l:List (List U)} {aH:List (List Value)},A7 ok w ks l aH->∀v∈aH.flatten,v.oneCell'=true
 |[],_,h=>by rw[show _=[] from h];simp
 |_::_,_,⟨W,vss',e,C,O⟩=>by
  subst e;intro x q;simp only[vF,uY] at q;rcases q with q|q
  .exact C.ones x q
  .exact O.ones x q
theorem Ab.ones {ok:Nat->Nat->Prop}{ks:List Kd}(h:Ab ok w ks l W):∀v∈W,v.oneCell'=true:=by
 obtain⟨aH,rfl,h⟩:=h;exact h.ones
theorem Ab.of_holds {ok:Nat->Nat->Prop}{ks:List Kd}{b:Nat}:∀{l:List (List U)} {o:Nat},(∀i us,l[i]? =some us->Af ok w ks b (o+i*ks.length) us)->
  ∃W,Ab ok w ks l W/\∀j v,W[j]? =some v->w.cell? ⟨b,o+j,none⟩=some v
 |[],_,_=>⟨[],Ab.nil _ _,fun j v h=>by simp at h⟩
 |us::l,o,h=>by
  obtain⟨W,z,E⟩:=(h 0 us rfl).cells;obtain⟨_,⟨aH,rfl,C⟩,O⟩:=Ab.of_holds (l:=l) (o:=o+ks.length) (fun i x Y=>by
   have:=h (i+1) x (by simpa using Y);rwa [show o+ks.length+i*ks.length=o+(i+1)*ks.length by rw[uL];omega])
  refine⟨W++aH.flatten,⟨W::aH,rfl,W,aH,rfl,z,C⟩,fun j v q=>?_⟩;have D:=z.len.1;by_cases A:j < W.length
  .rw[tv A] at q;simpa using E j v q
  .rw[tw (by omega)] at q;have:=O _ v q;rwa [show o+ks.length+(j - W.length)=o+j by omega] at this
theorem A7.app {ok:Nat->Nat->Prop}{ks:List Kd}:∀{l af:List (List U)} {aH q:List (List Value)},A7 ok w ks l aH->A7 ok w ks af q->A7 ok w ks (l++af) (aH++q)
 |[],_,_,_,h,h'=>by rw[show _=[] from h];exact h'
 |_::_,_,_,_,⟨W,vss1,e,C,O⟩,h'=>by subst e;exact⟨W,vss1++_,rfl,C,O.app h'⟩
theorem A7.kinds {ok:Nat->Nat->Prop}{ks:List Kd}(h:∀us W,AP ok w ks us W->AP ok w ah us W):∀{l:List (List U)} {aH:List (List Value)},A7 ok w ks l aH->A7 ok w ah l aH
 |[],_,hh=>hh
 |_::_,_,⟨W,vss1,e,C,O⟩=>⟨W,vss1,e,h _ _ C,O.kinds h⟩
theorem Ab.app {ok:Nat->Nat->Prop}{ks:List Kd}{af:List (List U)}{A:List Value}(h:Ab ok w ks l W)(q:Ab ok w ah af A)(e:ks=[]->l=[])(D:ah≠[])(E:ks≠[]->ks.length=ah.length):
  Ab ok w (Gu ks ah) (l++af) (W++A):=by
 cases ks with
 |nil=>
  have:=e rfl;subst this;have F:W=[]:=by
   have:=h.len;simpa using this
  subst F;exact q
 |cons k ks=>
  cases ah with
  |nil=>exact absurd rfl D
  |cons k' ah=>
   have z:=E (by simp);obtain⟨aH,rfl,h⟩:=h;obtain⟨J,rfl,q⟩:=q;exact⟨aH++J,by simp,(h.kinds (fun _ _ h=>h.join_l z)).app (q.kinds (fun _ _ h=>h.join_r z))⟩
theorem Ab.holds {ok M:Nat->Nat->Prop}{ks:List Kd}(q:∀b off,ok b off->M b off/\Z.cell? ⟨b,off,none⟩=w.cell? ⟨b,off,none⟩){b:Nat}:
  ∀{l:List (List U)} {W:List Value} {o:Nat},Ab ok w ks l W->(∀p,p < l.length*ks.length->M b (o+p)/\Z.cell? ⟨b,o+p,none⟩=W[p]?)->
  ∀i us,l[i]? =some us->Af M Z ks b (o+i*ks.length) us
 |[],_,_,_,_=>fun i us h=>by simp at h
 |x::l,_,o,⟨aH,e,W,vss',e2,C,O⟩,hb=>by
  subst e;subst e2;have D:=C.len.1;have z:(x::l).length*ks.length=l.length*ks.length+ks.length:=by simp[uL]
  rw[z] at hb;intro i us Y;cases i with
  |zero=>
   simp at Y;subst Y;rw[Nat.zero_mul,Nat.add_zero];refine AP.holds q C (fun p A=>?_);have:=hb p (by omega);rw[vF,tv (by omega)] at this;exact this
  |succ i=>
   have:=Ab.holds q (o:=o+ks.length) ⟨vss',rfl,O⟩ (fun p A=>by
    have:=hb (ks.length+p) (by omega);rw[vF,tw (by omega),show ks.length+p - W.length=p by omega] at this;rwa [show o+ks.length+p=o+(ks.length+p) by omega]) i us (by simpa using Y)
   rwa [show o+(i+1)*ks.length=o+ks.length+i*ks.length by rw[uL];omega]
theorem X7 {x id b off:Nat}{ks:List Kd}(F:b < w.heap.size)(J:T.fr b off)(A:m.at id= .tok x ks e)(hr: V id=some b)(D:∀E,(m.at E).tracked=true-> V E=some b->E=id)(ho:off < CA T x ks):AY T V m w b off:=by
 refine⟨F,J,fun j=>?_⟩;cases h:m.at j with
 |pad=>trivial
 |gone=>trivial
 |cells l e'=>
  intro q;have:=D j (by rw[h];rfl) q;subst this;rw[A] at h;cases h
 |lp y st=>
  intro q;have:=D j (by rw[h];rfl) q;subst this;rw[A] at h;cases h
 |mrow y z ah e'=>
  intro q;have:=D j (by rw[h];rfl) q;subst this;rw[A] at h;cases h
 |mapb y ai ka aN aU=>
  intro q;have:=D j (by rw[h];rfl) q;subst this;rw[A] at h;cases h
 |tok y ah e'=>
  intro q;have:=D j (by rw[h];rfl) q;subst this;rw[A] at h;cases h;exact ho
theorem Yy (A:AG T n V m w)(a8:n < ak){ks:List Kd}(bl:ks≠[])(hv:Ab (AY T V m w) w ks l W)(hk:l.length<=AD)(hT:T n= .list l)
   (hd:aJ=w\/aJ=w.drew)   (bb:∀p,p < l.length*ks.length->H[p]? =W[p]?) (a5:l.length<=I) (ba:I*ks.length<=H.size):
  ∃ ab, ab m.length=some w.heap.size/\AH T n V m w ab (m++[.tok n ks e]) (aJ.alloc (.cells H e))/\AG T ak ab (m++[.tok n ks e]) (aJ.alloc (.cells H e))/\
   AA T ak ab (m++[.tok n ks e]) (aJ.alloc (.cells H e)) (.vec m.length n ks) (.slice (some ⟨w.heap.size,0,none⟩) l.length I):=by
 have a3:aJ.heap=w.heap:=by rcases hd with rfl|rfl<;>rfl
 have z:=IJ (T:=T) A (.cells H e) (.tok n ks e);have aa:AH T n V m w (CI V m.length w.heap.size) (m++[.tok n ks e]) (aJ.alloc (.cells H e)):=by
  rcases hd with rfl|rfl
  .exact z
  .exact⟨z.os,z.tape,z.output,z.size,z.mlen,z.rho,z.untr,z.fresh,z.old,z.tok,z.row⟩
 have ao:Mem.at (m++[.tok n ks e]) m.length= .tok n ks e:=by rw[AS,vC rfl]
 have a4:(aJ.alloc (.cells H e)).heap[w.heap.size]? =some (.cells H e (0,0)):=by
  rw[<-a3];exact Cq _ _
 have a6:∀id E b,(Mem.at (m++[.tok n ks e]) id).tracked=true->(Mem.at (m++[.tok n ks e]) E).tracked=true->CI V m.length w.heap.size id=some b->CI V m.length w.heap.size E=some b->id=E:=by
  intro id E b q ag hr J;rw[AS] at q ag;by_cases F:id=m.length
  .by_cases D:E=m.length
   .omega
   .rw[vA D] at ag;subst F;rw[Ap] at hr;cases hr;rw[Ao _ _ _ D] at J;have:=A.lt ag J;omega
  .rw[vA F] at q;rw[Ao _ _ _ F] at hr;by_cases D:E=m.length
   .subst D;rw[Ap] at J;cases J;have:=A.lt q hr;omega
   .rw[vA D] at ag;rw[Ao _ _ _ D] at J;exact A.inj id E b q ag hr J
 have bs:CA T n ks=l.length*ks.length:=by simp[CA,hT,U.toL]
 have bj:l.length*ks.length<=H.size:=t8 (uG _ a5) ba;refine⟨_,Ap _ _ _,aa,⟨fun id=>?_,a6,fun b off h=>A.fr b off (t8 aa.size h)⟩,a8,by rw[ao];exact (fun h=>by cases h),?_,fun ah e' D=>?_⟩
 .by_cases F:id=m.length
  .subst F;rw[ao];exact⟨a8,_,hT,.inr ⟨w.heap.size,H,Ap _ _ _,a4,bj,fun off=>A.fr _ off (tY _)⟩⟩
  .by_cases q:(m.at id).tracked=true
   .refine BJ.step aa A (by omega) (by rw[AS,vA F]) (Ao _ _ _ F) (fun b hb=>?_);have:=A.lt q hb;rw[BB _ _ _ (by rw[a3];exact this),a3]
   .rw[AS,vA F];cases hx:m.at id with
    |pad=>trivial
    |gone=>trivial
    |cells=>rw[hx] at q;exact absurd rfl q
    |lp=>rw[hx] at q;exact absurd rfl q
    |tok=>rw[hx] at q;exact absurd rfl q
    |mrow=>rw[hx] at q;exact absurd rfl q
    |mapb=>rw[hx] at q;exact absurd rfl q
 .refine⟨l,hT,hk,fun h=>absurd h bl,some ⟨w.heap.size,0,none⟩,I,rfl,a5,fun _=>⟨w.heap.size,0,rfl,?_⟩⟩;refine hv.holds (o:=0) (fun b off ho=>aa.safe A ho) (fun p hp=>⟨?_,?_⟩)
  .rw[tj];refine X7 (by simp[a3]) (A.fr _ _ (tY _)) ao (Ap _ _ _) (fun E ag J=>a6 E m.length _ ag (by rw[ao];rfl) J (Ap _ _ _)) (by rw[bs];exact hp)
  .simp only[World.cell?,a4,tj];exact bb p hp
 .rw[ao] at D;cases D;exact .inr ⟨w.heap.size,I,H,Ap _ _ _,by simp[hT,U.toL],a4,ba⟩
theorem VE (E:AG T n V m w)(J:n < ak){ks:List Kd}(F:ks≠[])(hv:Ab (AY T V m w) w ks l W)(D:l.length<=AD)(q:T n= .list l)
   (hd:aJ=w\/aJ=w.drew)   (z:∀p,p < l.length*ks.length->H[p]? =W[p]?) (A:l.length<=I) (ag:I*ks.length<=H.size):
  ∃ ab,AH T n V m w ab (m++[.tok n ks e]) (aJ.alloc (.cells H e))/\AG T ak ab (m++[.tok n ks e]) (aJ.alloc (.cells H e))/\
   AA T ak ab (m++[.tok n ks e]) (aJ.alloc (.cells H e)) (.vec m.length n ks) (.slice (some ⟨w.heap.size,0,none⟩) l.length I):=
 let⟨ab,_,h⟩:=Yy E J F hv D q hd z A ag
 ⟨ab,h⟩
end
section
variable {P:Program}{T:Tab}{n ak:Nat}{V ab:Nat->Option Nat}{m ad:Mem}{w Z:World}{g:G}{r:R}
theorem Fx:∀(l af:List Nat),EH l af=true->l=af
 |[],[],_=>rfl
 |[],_::_,h=>by cases h
 |_::_,[],h=>by cases h
 |a::l,b::af,h=>by
  simp only[EH,tV] at h;rw[tW h.1,Fx l af h.2]
variable{l:List AC}{W:List Value}
theorem AP.of (q:l.all AC.atom=true)(h:AB T n V m w l W):
  AP (AY T V m w) w (l.map fun c=>(BY c).1) (l.map fun c=>(BY c).2.eval T) W:=by
 induction l generalizing W with
 |nil=>exact⟨rfl,h⟩
 |cons c l z=>
  obtain⟨u,us,rfl,C,O⟩:=h;simp only[List.all_cons,tV] at q;exact⟨_,_,u,us,rfl,rfl,cm q.1 C,z q.2 O⟩
theorem Ab.one (q:l.all AC.atom=true)(h:AB T n V m w l W):
  Ab (AY T V m w) w (l.map fun c=>(BY c).1) [l.map fun c=>(BY c).2.eval T] W:=
 ⟨[W],by simp,W,[],rfl,AP.of q h,rfl⟩
def Qh (T:Tab)(n:Nat)(V :Nat->Option Nat)(m:Mem)(w:World):List (List AC)->List (List Value)->Prop
 |[],aH=>aH=[]
 |l::ls,aH=>∃W h,aH=W::h/\l.all AC.atom=true/\AB T n V m w l W/\Qh T n V m w ls h
theorem P5 {s:Nat}(aa:0 < s):∀{q:List (List AC)} {aH:List (List Value)},Qh T n V m w q aH->(∀l∈q,l.length=s)->q≠[]->
  (Cy q).length=s/\Ab (AY T V m w) w (Cy q) (q.map fun l=>l.map fun c=>(BY c).2.eval T) aH.flatten
 |[],_,_,_,h=>absurd rfl h
 |[l],aH,⟨W,vss',e,ha,hl,hr⟩,hlen,_=>by
  subst e;rw[show vss'=[] from hr];refine⟨by simp[Cy,hlen l (by simp)],?_⟩;simpa [Cy] using Ab.one ha hl
 |l::ae::q,aH,⟨W,vss',e,ha,hl,hr⟩,hlen,_=>by
  subst e;obtain⟨A,e3⟩:=P5 aa hr (fun x hx=>hlen x (by simp[hx])) (by simp);have z:(l.map fun c=>(BY c).1).length=s:=by simp[hlen l (by simp)]
  have F:(l.map fun c=>(BY c).1).length=(Cy (ae::q)).length:=by rw[z,A]
  have D:Cy (l::ae::q)=Kd.joins (l.map fun c=>(BY c).1) (Cy (ae::q)):=rfl;refine⟨by rw[D,Kd.joins_len _ _ F,z],?_⟩;have J:(l.map fun c=>(BY c).1)≠[]:=fun h=>by rw[h] at z;simp at z;omega
  have ag:Cy (ae::q)≠[]:=fun h=>by rw[h] at A;simp at A;omega
  have:=(Ab.one ha hl).app e3 (fun h=>absurd h J) ag (fun _=>F);have e5:Gu (l.map fun c=>(BY c).1) (Cy (ae::q))=Cy (l::ae::q):=by
   rw[D];generalize (l.map fun c=>(BY c).1)=k1 at*;generalize Cy (ae::q)=E at*;cases k1 with
   |nil=>exact absurd rfl J
   |cons a b=>cases E with
    |nil=>exact absurd rfl ag
    |cons c d=>rfl
  rw[e5] at this;simpa using this
theorem PR {s:Nat}:∀(q:List (List Rf)),(∀l∈q,l.length=s)->Bh s q.length (q.flatten.map (Rf.eval T))=q.map fun l=>l.map (Rf.eval T)
 |[],_=>rfl
 |l::q,h=>by
  have C:=h l (by simp);have:=PR q (fun x z=>h x (by simp[z]));simp only[uJ,Bh,vF,ti,tx];rw[List.take_left' (by simpa using C),List.drop_left' (by simpa using C),this]
theorem RR {s:Nat}:∀{aH:List (List Value)},(∀v∈aH,v.length=s)->aH.flatten.length=aH.length*s
 |[],_=>by simp
 |v::aH,h=>by
  have:=RR (aH:=aH) (fun x q=>h x (by simp[q]));simp[this,h v (by simp),uL,Nat.add_comm]
theorem PS (s:Nat):∀(f:List (Nat × Value)) (aH:List (List Value)) (k:Nat) (B:List Value),f.length=aH.length->(∀(j i:Nat) (v:Value) (W:List Value),f[j]? =some (i,v)->aH[j]? =some W->i=k+j/\v.cells=W.toArray)->
  (∀v∈aH,v.length=s)->B.length=(k+aH.length)*s->
  Instr.fill (fun i=>some (i*s,s)) B.toArray f=some (B.take (k*s)++aH.flatten).toArray
 |[],[],k,B,_,_,_,hc=>by
  simp only[Instr.fill,List.flatten_nil,uj];rw[List.take_of_length_le (by simp at hc;omega)]
 |[],_::_,_,_,h,_,_,_=>by simp at h
 |_::_,[],_,_,h,_,_,_=>by simp at h
 |(i,v)::f,W::aH,k,B,hl,hh,aa,hc=>by
  obtain⟨Y,z⟩:=hh 0 i v W rfl rfl;simp at Y;subst Y;have C:=aa W (by simp);have ao:B.length=i*s+s+aH.length*s:=by
   rw[hc,uJ,uL,uL,Nat.one_mul];omega
  simp only[Instr.fill];rw[vA]
  .rw[YQ B.toArray (i*s) v W z (by simp;omega)];have:=PS s f aH (i+1) (BQ B (i*s) W) (by simpa using hl) (fun j D J ag E F=>by
    have:=hh (j+1) D J ag (by simpa using E) (by simpa using F);exact⟨by omega,this.2⟩) (fun x A=>aa x (by simp[A])) (by
     simp only[BQ,tq,uX,ue];rw[uL,uL,Nat.one_mul];omega)
   rw[show (B.toArray).toList=B from rfl,this];congr 2;have e:(BQ B (i*s) W).take ((i+1)*s)=B.take (i*s)++W:=by
    unfold BQ;rw[uL,Nat.one_mul];apply List.take_left';simp;omega
   rw[e];simp
  .intro q;simp only[z,uv,uN,decide_eq_true_eq] at q;rcases q with q|q
   .exact q C
   .omega
theorem dC {D:List (AC × Value)}{E:List (List AC)}(J:∀p∈D,AA T n V m w p.1 p.2)(h:D.mapM (fun p=>p.1.cellsOf)=some E):
  ∃aH,Qh T n V m w E aH/\aH.length=D.length/\(∀(j:Nat) (p:AC × Value) (W:List Value),D[j]? =some p->aH[j]? =some W->p.2.cells=W.toArray)/\(∀(j:Nat) (l:List AC) (W:List Value),E[j]? =some l->aH[j]? =some W->W.length=l.length):=by
 induction D generalizing E with
 |nil=>simp at h;subst h;exact⟨[],rfl,rfl,fun j p W h=>by simp at h,fun j l W h=>by simp at h⟩
 |cons p D ih=>
  simp only[List.mapM_cons,tX,Option.pure_def,tU] at h;obtain⟨l,C,a6,O,h3⟩:=h;cases h3;obtain⟨W,e1,F,e3,_⟩:=CP C (J p (by simp));obtain⟨aH,f1,f2,f3,f4⟩:=ih (fun q z=>J q (by simp[z])) O;refine⟨W::aH,⟨W,aH,rfl,e3,F,f1⟩,by simp[f2],fun j q us z A=>?_,fun j q us z A=>?_⟩
  .cases j with
   |zero=>simp at z A;subst z;subst A;exact e1
   |succ j=>exact f3 j q us (by simpa using z) (by simpa using A)
  .cases j with
   |zero=>simp at z A;subst z;subst A;exact F.length
   |succ j=>exact f4 j q us (by simpa using z) (by simpa using A)
theorem NT {t:TypeId}{len:Nat}{a:Act}{o:Oper}{az:Operand->AC}{parts:Array (Nat × Operand)}(h:DG P t len (parts.toList.map fun (i,x)=>(i,az x)) m g=some r)(b1:New T g.n r.us)(hm:AG T g.n V m w)
  (ho:o.op= .buildSlice t len parts) (ci:∀x,AA T g.n V m w (az x) (a.eval x)):BM T g V m w ((execOp a.eval o).run P w) r:=by
 unfold DG at h;split at h
 .rename_i e hu;simp only[tX,tU] at h;obtain⟨i,Y,z,hz,h⟩:=h;split at h
  .rename_i hc;obtain⟨a2,bi,dd,db⟩:=hc;have a2:=Fx _ _ a2;simp only[tU] at h;obtain⟨D,bc,h⟩:=h;split at h
   .rename_i ce;cases h;have cs:((parts.toList.map fun (p:Nat × Operand)=>(az p.2,a.eval p.2))).mapM (fun p=>p.1.cellsOf)=some D:=by
     rw[List.mapM_map] at bc⊢;exact bc
    obtain⟨aH,f1,J,f3,f4⟩:=dC (T:=T) (n:=g.n) (V := V) (m:=m) (w:=w) (by
     intro p hp;simp only[vG] at hp;obtain⟨p',_,rfl⟩:=hp;exact ci p'.2) cs
    simp only[List.length_map] at J;have a0:parts.toList.length=len:=by
     have:=vD List.length a2;simpa using this
    have ao:D.length=len:=by
     have:=(ER _ _ _ bc).1;simpa [a0] using this
    have ba:∀l∈D,l.length=i.size:=fun l hl=>by simpa using uK.1 ce l hl
    have b4:∀v∈aH,v.length=i.size:=by
     intro v hv;obtain⟨j,hj⟩:=List.getElem?_of_mem hv;have a3:j < D.length:=by rw[ao,<-a0,<-J];exact (tc.1 hj).1
     rw[f4 j _ v (tZ a3) hj];exact ba _ (um a3)
    have cu:D≠[]:=fun h=>by rw[h] at ao;simp at ao;omega
    obtain⟨c2,c3⟩:=P5 bi f1 ba cu;have hT:T g.n= .list (D.map fun l=>l.map fun c=>(BY c).2.eval T):=by
     have F:=b1.head;have e2:=PR (T:=T) (s:=i.size) (D.map fun l=>l.map fun c=>(BY c).2) (fun l hl=>by
      simp only[vG] at hl;obtain⟨af,cl,rfl⟩:=hl;simp[ba af cl])
     rw[F];simp only[Ex.eval,Yx,UJ];simp only[List.length_map,ao] at e2;rw[e2];simp[List.map_map,Function.comp_def]
    have bs:=RR b4;rw[J,a0] at bs;have ch:Cy D≠[]:=fun h=>by rw[h] at c2;simp at c2;omega
    have c6:∀A:Array Value,((Array.range (len*i.size)).map (fun x=>A[x % A.size]!)).toList.length=(0+aH.length)*i.size:=by
     intro A;simp[J,a0]
    have cj:∀A:Array Value,Instr.fill (fun j=>some (j*i.size,i.size)) ((Array.range (len*i.size)).map (fun x=>A[x % A.size]!)) (parts.map fun (j,x)=>(j,a.eval x)).toList=some aH.flatten.toArray:=by
     intro A;have:=PS i.size (parts.map fun (j,x)=>(j,a.eval x)).toList aH 0 ((Array.range (len*i.size)).map (fun x=>A[x % A.size]!)).toList (by simp[J]) (fun j k v W q1 q2=>by
      simp only[Array.toList_map,uP,uC] at q1;obtain⟨⟨p1,p2⟩,F,e2⟩:=q1;cases e2;refine⟨?_,f3 j (az p2,a.eval p2) W (by simp only[uP,F,uy]) q2⟩;have e3:(parts.toList.map fun (p:Nat × Operand)=>(p.1,az p.2)).map (·.1)=parts.toList.map (·.1):=by simp
      have e4:=a2;rw[e3] at e4;have e5:(parts.toList.map (·.1))[j]? =some p1:=by simp only[uP,F,uy]
      rw[e4] at e5;have a3:j < len:=by rw[<-a0];exact (tc.1 F).1
      simp[a3] at e5;omega) b4 (c6 A)
     rw[Array.toArray_toList] at this;rw[this];simp
    have c1:¬(len*i.size=0):=by
     intro h;rcases Nat.mul_eq_zero.1 h with h|h<;>omega
    have c0:(execOp a.eval o).run P w= .ok (.value (.slice (some ⟨w.heap.size,0,none⟩) len len)) (w.alloc (.cells aH.flatten.toArray e)):=by
     have hb:¬(len*i.size > 2 ^ 24):=by omega
     simp only[execOp,ho,Instr.buildSlice,ua,run_underlying hu,uZ,BN Y,Sem.run_ite,hb,if_false,c1,HI Y hz,uh,cj];simp[newRow]
    have bb:(D.map fun l=>l.map fun c=>(BY c).2.eval T).length=len:=by simp[ao]
    obtain⟨ab,k1,E,k3⟩:=VE (e:=e) (ak:=g.n+1) hm (by omega) ch c3 (by rw[bb];simp only[AD];have:len<=len*i.size:=Nat.le_mul_of_pos_right _ bi;omega) hT (.inl rfl) (H:=aH.flatten.toArray) (I:=len) (fun p _=>by simp) (by rw[bb];exact tY _) (by simp only[uv];rw[bs,c2];exact tY _);rw[bb] at k3;exact⟨_,_, ab,.inl c0,k1,E,k3⟩
   .cases h
  .split at h
   .rename_i hc;obtain⟨rfl,cx,bi⟩:=hc;simp only[tU] at h;obtain⟨l,hl,h⟩:=h;split at h
    .rename_i bx;cases h;have cy:parts= #[]:=by
      have:parts.toList.length=0:=by simpa using cx
      exact Array.ext' (ur.1 this)
     subst cy;have hT:T g.n= .list []:=by rw[b1.head];rfl
     have cv:(l.map fun c=>(BY c).1)≠[]:=fun h=>by
      have:=vD List.length h;simp at this;rw[this] at bx;simp at bx;omega
     obtain⟨ab,k1,E,k3⟩:=VE (e:=e) (ak:=g.n+1) hm (by omega) cv (Ab.nil _ _) (uQ _) hT (.inl rfl) (H:= #[]) (I:=0) (fun p hp=>by simp at hp) (uQ _) (by simp);refine⟨_,_, ab,.inl ?_,k1,E,k3⟩;simp[execOp,ho,Instr.buildSlice,run_underlying hu,BN Y,Instr.fill,newRow];exact vD (fun q=>w.alloc (Obj.cells q e)) (Array.eq_empty_of_size_eq_zero (by simp))
    .cases h
   .cases h
 .cases h
end
end
end Go.Eng
end
