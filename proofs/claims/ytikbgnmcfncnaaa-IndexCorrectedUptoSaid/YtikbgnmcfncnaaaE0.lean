/-
  A part of the proof: the evaluator of code and its soundness.
-/
import GoSem.Core.View
import GoSem.Op.IntBits
import Derived.Calls
import Derived.Below
import Derived.Laws.World
import Derived.Laws.Sem
import Derived.Laws.Small
import Derived.IntWalk
import Derived.Laws.Cells
import Derived.Laws.Tables
import Derived.Laws.StructEq
import Derived.ChangeKeysEq
import Derived.Laws.AppendOwn
set_option linter.unusedVariables false
set_option linter.unusedSimpArgs false
noncomputable section
namespace Go.Eng
theorem AA:type_of% @Option.bind_eq_some_iff:=@Option.bind_eq_some_iff
theorem AB:type_of% @Bool.and_eq_true:=@Bool.and_eq_true
theorem yI:type_of% @Nat.eq_of_beq_eq_true:=@Nat.eq_of_beq_eq_true
theorem AD:type_of% @Option.bind_eq_bind:=@Option.bind_eq_bind
theorem AE:type_of% @Nat.le_refl:=@Nat.le_refl
theorem AF:type_of% @List.getElem?_eq_getElem:=@List.getElem?_eq_getElem
theorem AG:type_of% @List.getElem?_eq_some_iff:=@List.getElem?_eq_some_iff
theorem AH:type_of% @Nat.lt_of_lt_of_le:=@Nat.lt_of_lt_of_le
theorem AI:type_of% @Array.getElem?_eq_some_iff:=@Array.getElem?_eq_some_iff
theorem AJ:type_of% @Array.getD_eq_getD_getElem?:=@Array.getD_eq_getD_getElem?
theorem AK:type_of% @List.mem_cons_of_mem:=@List.mem_cons_of_mem
theorem AL:type_of% @List.map_append:=@List.map_append
theorem AM:type_of% @Nat.zero_add:=@Nat.zero_add
theorem AN:type_of% @List.mem_cons_self:=@List.mem_cons_self
theorem AO:type_of% @List.mem_append_right:=@List.mem_append_right
theorem AP:type_of% @List.length_append:=@List.length_append
theorem AQ:type_of% @Nat.lt_or_ge:=@Nat.lt_or_ge
theorem AR:type_of% @List.getElem?_append_left:=@List.getElem?_append_left
theorem AS:type_of% @List.getElem?_append_right:=@List.getElem?_append_right
theorem AT:type_of% @List.map_cons:=@List.map_cons
theorem AU:type_of% @List.mem_append_left:=@List.mem_append_left
theorem AV:type_of% @Nat.le_trans:=@Nat.le_trans
theorem AW:type_of% @List.forall_mem_cons:=@List.forall_mem_cons
theorem AX:type_of% @Option.map_eq_some_iff:=@Option.map_eq_some_iff
theorem AY:type_of% @List.getD_eq_getElem?_getD:=@List.getD_eq_getElem?_getD
theorem AZ:type_of% @Bool.false_eq_true:=@Bool.false_eq_true
theorem Aa:type_of% @Nat.le_of_ble_eq_true:=@Nat.le_of_ble_eq_true
theorem Ab:type_of% @Nat.mul_le_mul_right:=@Nat.mul_le_mul_right
theorem Ac:type_of% @List.mem_iff_getElem?:=@List.mem_iff_getElem?
theorem Ad:type_of% @List.length_cons:=@List.length_cons
theorem Ae:type_of% @List.all_eq_true:=@List.all_eq_true
theorem Af:type_of% @Nat.add_mul:=@Nat.add_mul
theorem Ag:type_of% @Option.bind_some:=@Option.bind_some
theorem Ah:type_of% @Bool.or_eq_true:=@Bool.or_eq_true
theorem Ai:type_of% @List.getElem?_eq_none:=@List.getElem?_eq_none
theorem Aj:type_of% @List.getElem?_map:=@List.getElem?_map
theorem Ak:type_of% @Nat.zero_le:=@Nat.zero_le
theorem Al:type_of% @List.mem_singleton:=@List.mem_singleton
theorem Am:type_of% @List.append_assoc:=@List.append_assoc
theorem An:type_of% @List.map_nil:=@List.map_nil
theorem Ao:type_of% @List.length_take:=@List.length_take
theorem Ap:type_of% @List.mem_append:=@List.mem_append
theorem Aq:type_of% @Result.andThen_ok:=@Result.andThen_ok
theorem Ar:type_of% @Sem.run_bind:=@Sem.run_bind
theorem As:type_of% @List.length_nil:=@List.length_nil
theorem At:type_of% @Decidable.of_not_not:=@Decidable.of_not_not
theorem Au:type_of% @List.length_set:=@List.length_set
theorem Av:type_of% @List.length_drop:=@List.length_drop
theorem Aw:type_of% @Int.le_refl:=@Int.le_refl
theorem Ax:type_of% @Option.some.injEq:=@Option.some.injEq
theorem Ay:type_of% @Sem.run_pure:=@Sem.run_pure
theorem Az:type_of% @List.take_append_drop:=@List.take_append_drop
theorem yJ:type_of% @List.append_nil:=@List.append_nil
theorem yK:type_of% @List.mem_iff_getElem:=@List.mem_iff_getElem
theorem yL:type_of% @Array.getElem?_setIfInBounds:=@Array.getElem?_setIfInBounds
theorem yM:type_of% @List.getElem_mem:=@List.getElem_mem
theorem yN:type_of% @Nat.eq_zero_or_pos:=@Nat.eq_zero_or_pos
theorem yO:type_of% @Array.getElem?_eq_getElem:=@Array.getElem?_eq_getElem
theorem A6:type_of% @List.length_eq_zero_iff:=@List.length_eq_zero_iff
theorem A7:type_of% @List.drop_drop:=@List.drop_drop
theorem A8:type_of% @List.getElem?_drop:=@List.getElem?_drop
theorem A9:type_of% @List.size_toArray:=@List.size_toArray
theorem BA:type_of% @List.getElem?_append:=@List.getElem?_append
theorem BB:type_of% @List.getElem?_take:=@List.getElem?_take
theorem BC:type_of% @Option.map_some:=@Option.map_some
theorem BD:type_of% @List.take_length:=@List.take_length
theorem yP:type_of% @List.getElem?_set:=@List.getElem?_set
theorem BF:type_of% @List.nil_append:=@List.nil_append
theorem BG:type_of% @if_neg:=@if_neg
theorem BH:type_of% @if_pos:=@if_pos
theorem BI:type_of% @congrArg:=@congrArg
theorem BJ:type_of% @List.pairwise_iff_getElem:=@List.pairwise_iff_getElem
theorem BK:type_of% @List.flatten_cons:=@List.flatten_cons
theorem BL:type_of% @List.mem_map:=@List.mem_map
theorem BM:type_of% @List.pairwise_append:=@List.pairwise_append
theorem BN:type_of% @List.pairwise_cons:=@List.pairwise_cons
section
open Go
inductive U where
 |int (n:Int)
 |bool (b:Bool)
 |str (s:ByteArray)
 |val (v:Value)
 |list (l:List (List U))
instance:Inhabited U:=⟨.int 0⟩
def U.toI:U->Int| .int n=>n|_=>0
def U.toB:U->Bool| .bool b=>b|_=>false
def U.toS:U->ByteArray| .str s=>s|_=>ByteArray.empty
def U.toL:U->List (List U)| .list l=>l|_=>[]
inductive Kd where
 |int (k:IntKind) (lo hi:Int)
 |bool
 |str
 |val
 |any
 |list (cells:List Kd)
instance:Inhabited Kd:=⟨.any⟩
inductive CV where
 |nilPtr|nilSlice|nilFunc|nilIface|nilMap
 |str (s:ByteArray)
 deriving DecidableEq
def CV.value:CV->Value
 | .nilPtr=> .pointer none
 | .nilSlice=> .slice none 0 0
 | .nilFunc=> .nilFunc
 | .nilIface=> .nilIface
 | .nilMap=> .map none
 | .str s=> .string s
inductive AC where
 |any
 |anyc
 |on (c:Nat) (a:AC)
 |gd (c:Nat) (a:AC)
 |cb (b:Bool)
 |b (x:Nat)
 |nb (x:Nat)
 |ci (k:IntKind) (n:Int)
 |i (k:IntKind) (lo hi:Int) (x:Nat)
 |cv (c:CV)
 |v (x:Nat)
 |s (x:Nat)
 |ptr (id off:Nat)
 |pix (id base stride cnt x plus:Nat)
 |ro (x:Nat) (ks:List Kd)
 |rp (x t off:Nat) (ks:List Kd)
 |vec (id x:Nat) (ks:List Kd)
 |fn (f:Fn) (first cap:List AC)
 |sel (x:Nat) (alts:List AC)
 |yl (id:Nat)
 |asl (id off len:Nat)
 |rsv (id x:Nat) (ks:List Kd)
 |mr (id y:Nat)
 |mp (id y t sz off:Nat)
 |mv (id:Nat)
 |agg (l:List AC)
 |tup (l:List AC)
instance:Inhabited AC:=⟨.any⟩
inductive bn where
 |ret
 |exit (id:Nat)
 deriving DecidableEq
def bn.code:bn->Code| .ret=> .ret| .exit id=> .exit id
inductive Tr where
 |nil
 |node (v:Option AC) (l r:Tr)
instance:Inhabited Tr:=⟨.nil⟩
def Tr.get:Tr->Nat->Option AC
 | .nil,_=>none
 | .node v l r,i=>bif Nat.beq i 0 then v else bif Nat.beq (i % 2) 1 then l.get (i / 2) else r.get (i / 2 - 1)
def Tr.val:Tr->Option AC| .nil=>none| .node v _ _=>v
def Tr.lt:Tr->Tr| .nil=> .nil| .node _ l _=>l
def Tr.rt:Tr->Tr| .nil=> .nil| .node _ _ r=>r
def Tr.setF:Nat->Tr->Nat->Option AC->Tr
 |0,_,_,_=> .nil
 |f+1,t,i,c=>bif Nat.beq i 0 then .node c t.lt t.rt else bif Nat.beq (i % 2) 1 then .node t.val (Tr.setF f t.lt (i / 2) c) t.rt else .node t.val t.lt (Tr.setF f t.rt (i / 2 - 1) c)
structure Bn where
 n:Nat
 loc:List (Nat × AC)
 t:Tr
instance:Inhabited Bn:=⟨⟨0,[],.nil⟩⟩
def CY:List (Nat × AC)->Nat->Option AC
 |[],_=>none
 |(j,c)::r,i=>bif Nat.beq j i then some c else CY r i
def Bn.get (s:Bn)(i:Nat):Option AC:=
 match CY s.loc i with
 |some c=>some c
 |none=>s.t.get i
def Bn.set (s:Bn)(i:Nat)(c:AC):Bn:=bif Nat.blt i s.n then { s with loc:=(i,c)::s.loc } else s
def Bn.fix (s:Bn)(i:Nat)(c:Option AC):Bn:=bif Nat.blt i s.n then { s with t:=Tr.setF 16 s.t i c } else s
def Pi (keep:Nat):List (Nat × AC)->Tr->Tr
 |[],t=>t
 |(i,c)::r,t=>let a2:=Pi keep r t;if keep.testBit i then Tr.setF 16 a2 i (some c) else match a2.get i with|none=>a2|some _=>Tr.setF 16 a2 i none
def Bn.commit (s:Bn)(keep:Nat):Bn:={ s with loc:=[],t:=Pi keep s.loc s.t }
structure DP where
 tmps:Bn
 ps:Array Tmp
 assign:Code
 body:Code
 jumps:List bn
structure Tab where
 get:Nat->U
 fr:Nat->Nat->Prop
 lp:Nat->DP
 base:Nat
instance:CoeFun Tab (fun _=>Nat->U):=⟨Tab.get⟩
inductive Rf where
 |c (u:U)
 |e (x:Nat)
 |n (x:Nat)
instance:Inhabited Rf:=⟨.c default⟩
def Rf.eval (T:Tab):Rf->U
 | .c u=>u
 | .e x=>T x
 | .n x=> .bool (!(T x).toB)
inductive Tg where
 |s (t:String)
 |loop (j nh k:Nat) (eqs:List (Nat × Tg × List Rf)) (pcn:Option Nat) (nxt:List Rf) (fv:List Nat) (obs:List (Option Nat × Tg × List Rf))
instance:Coe String Tg:=⟨Tg.s⟩
instance:Inhabited Tg:=⟨.s ""⟩
def Tg.str:Tg->String| .s t=>t|_=> "loop"
structure Ex where
 tag:Tg
 f:List U->U
 args:List Rf
def Ex.eval (T:Tab)(e:Ex):U:=e.f (e.args.map (Rf.eval T))
structure Pr where
 tag:Tg
 f:List U->Prop
 args:List Rf
def Pr.holds (T:Tab)(p:Pr):Prop:=p.f (p.args.map (Rf.eval T))
def rE (a b:Int):Int:=a+b
def tQ (a b:Int):Int:=a - b
def tB (a b:Int):Int:=a*b
def t8 (a b:Int):Int:=a / b
def aq (a b:Int):Int:=a % b
def Ww (a b:Int):Int:=a.tdiv b
def jg (a b:Int):Int:=a.tmod b
def El (op:BinOp)(k:IntKind)(x y:Int):Int:=
 k.wrap (match op with
  | .and=>(BitVec.ofInt k.bits x &&& BitVec.ofInt k.bits y).toNat
  | .or=>(BitVec.ofInt k.bits x ||| BitVec.ofInt k.bits y).toNat
  | .xor=>(BitVec.ofInt k.bits x ^^^ BitVec.ofInt k.bits y).toNat
  |_=>(BitVec.ofInt k.bits x &&& ~~~(BitVec.ofInt k.bits y)).toNat)
def XD (a b:Int):Int:=min a b
def XT (a b:Int):Int:=max a b
def u0:List U->U|a::_=>a|_=>default
def u1:List U->U|_::a::_=>a|_=>default
def u2:List U->U|_::_::a::_=>a|_=>default
def o2 (f:Int->Int->Int)(us:List U):U:= .int (f (u0 us).toI (u1 us).toI)
def au (us:List U):U:= .int (0 - (u0 us).toI)
def LM (k:IntKind)(f:List U->U)(us:List U):U:= .int (k.wrap (f us).toI)
def oId (us:List U):U:=u0 us
def oLt (us:List U):U:= .bool (decide ((u0 us).toI < (u1 us).toI))
def oLe (us:List U):U:= .bool (decide ((u0 us).toI<=(u1 us).toI))
def oEq (us:List U):U:= .bool (decide ((u0 us).toI=(u1 us).toI))
def oNe (us:List U):U:= .bool (!decide ((u0 us).toI=(u1 us).toI))
def R9 (us:List U):U:= .bool ((u0 us).toB&&(u1 us).toB)
def oOr (us:List U):U:= .bool ((u0 us).toB||(u1 us).toB)
def oIf (us:List U):U:=bif (u0 us).toB then u1 us else u2 us
def kE (us:List U):U:= .bool (bif (u0 us).toB then (u1 us).toB else (u2 us).toB)
def XL (us:List U):U:= .bool !(u0 us).toB
def SQ (us:List U):U:= .int (u0 us).toL.length
def rM (c:Nat)(us:List U):U:=((u0 us).toL.getD (u1 us).toI.toNat []).getD c default
def kdC:Kd->Nat| .int _ _ _=>0| .bool=>1| .str=>2| .list _=>3|_=>4
def coC:Nat->U->U|0,u=> .int u.toI|1,u=> .bool u.toB|2,u=> .str u.toS|3,u=> .list u.toL|_,u=>u
def W8:Nat->String|0=> "get " |1=> "getb " |2=> "gets " |3=> "getl " |_=> "getv "
def TR (q c:Nat)(us:List U):U:=coC q (rM c us)
def IK:List U->U| .bool _::_=> .bool false|_=>default
def V4 (us:List U):U:=us.tail.getD (u0 us).toI.toNat (IK us.tail)
def Cp (s:Nat):Nat->List U->List (List U)
 |0,_=>[]
 |k+1,l=>l.take s::Cp s k (l.drop s)
def U.eqv:U->U->Bool
 | .int a,.int b=>decide (a=b)
 | .bool a,.bool b=>a==b
 | .str a,.str b=>decide (a=b)
 |_,_=>false
def E7 (l:List (List U))(i c:Nat)(Y:List U):List (List U):=l.set i ((l.getD i []).take c++Y++(l.getD i []).drop (c+Y.length))
def jS (c:Nat)(us:List U):U:= .list (E7 (u0 us).toL (u1 us).toI.toNat c (us.drop 2))
def so (us:List U):U:= .list (List.replicate (u0 us).toI.toNat us.tail)
def Ce:List U->List U->Bool
 |[],[]=>true
 |a::l,b::ak=>a.eqv b&&Ce l ak
 |_,_=>false
def Bz (G:Nat)(l:List (List U))(k:List U):Nat:=l.findIdx fun r=>Ce (r.take G) k
def lN (G:Nat)(us:List U):U:= .bool (decide (Bz G (u0 us).toL us.tail < (u0 us).toL.length))
def V6 (G c:Nat)(us:List U):U:=bif decide (Bz G (u0 us).toL (us.drop 2) < (u0 us).toL.length) then ((u0 us).toL.getD (Bz G (u0 us).toL (us.drop 2)) []).getD (G+c) default else u1 us
def qE (q G c:Nat)(us:List U):U:=coC q (V6 G c us)
def Cb (G:Nat)(l:List (List U))(k v:List U):List (List U):=bif decide (Bz G l k < l.length) then l.set (Bz G l k) (k++v) else l++[k++v]
def kX (G:Nat)(us:List U):U:= .list (Cb G (u0 us).toL (us.tail.take G) (us.tail.drop G))
def aH (k s:Nat)(us:List U):U:= .list (Cp s k us)
def UT (us:List U):U:= .list ((u0 us).toL++(u1 us).toL)
def js (us:List U):U:= .int (u0 us).toS.size
def C4 (s:ByteArray)(i:Nat):Int:=(((s.data.toList.getD i 0).toNat:Nat):Int)
def tx (us:List U):U:= .int (C4 (u0 us).toS (u1 us).toI.toNat)
def P0 (us:List U):U:= .list ((u0 us).toL.take (u1 us).toI.toNat)
def lO (us:List U):U:= .list ((u0 us).toL.drop (u1 us).toI.toNat)
def rU (us:List U):U:= .list (((u0 us).toL.take (u2 us).toI.toNat).drop (u1 us).toI.toNat)
def HI:List U->Bool
 |a::b::l=>a.eqv b&&HI l
 |_=>true
def lC (us:List U):U:= .bool (HI us)
def j7 (us:List U):U:= .bool (!HI us)
def qY (us:List U):U:= .bool ((u0 us).toB==(u1 us).toB)
def tz (us:List U):U:= .bool (!((u0 us).toB==(u1 us).toB))
def UU (us:List U):Prop:=(u0 us).toI≠0
def pT (us:List U):Prop:=(u0 us).toB=true
def pIn (us:List U):Prop:=0<=(u0 us).toI/\(u0 us).toI < (u1 us).toI
def XA (us:List U):Prop:=0<=(u0 us).toI/\(u0 us).toI < (u1 us).toL.length
def kN (us:List U):Prop:=0<=(u1 us).toI/\(u1 us).toI < (u0 us).toS.size
def ML (us:List U):Prop:=0<=(u1 us).toI/\(u1 us).toI<=(u0 us).toL.length
def sT (us:List U):Prop:=0<=(u1 us).toI/\(u1 us).toI<=(u2 us).toI/\(u2 us).toI<=(u0 us).toL.length
def xg (us:List U):Prop:=(u0 us).toI=0
def pNe (us:List U):Prop:=(u0 us).toI≠(u1 us).toI
def FH (ar ab:Int)(us:List U):Prop:=ar<=(u0 us).toI/\(u0 us).toI<=ab
def Io (b:Nat)(us:List U):Prop:=((u0 us).toL.length+(u1 us).toL.length)*b<=140737488355328
end
section
open Go Go.RowKit
inductive Blk where
 |pad
 |gone
 |cells (l:List AC) (elem:TypeId)
 |tok (x:Nat) (ks:List Kd) (elem:TypeId)
 |lp (stamp:Nat) (st:AC)
 |mrow (x y:Nat) (ks:List Kd) (elem:TypeId)
 |mapb (x:Nat) (kk:List Kd) (ka:Bool) (vk:List Kd) (va:Bool)
instance:Inhabited Blk:=⟨.pad⟩
abbrev Mem:=List Blk
def Mem.at (m:Mem)(id:Nat):Blk:=(m[id]?).getD .pad
def Blk.tracked:Blk->Bool| .gone| .pad=>false|_=>true
def Blk.ptrOk:Blk->Bool| .gone| .cells .. | .lp .. | .mapb .. =>true|_=>false
def DN (T:Tab)(x:Nat)(ks:List Kd):Nat:=(T x).toL.length*ks.length
def Bt (T:Tab)(W :Nat->Option Nat)(m:Mem)(w:World)(b off:Nat):Prop:=
 b < w.heap.size/\T.fr b off/\∀id,match m.at id with
  | .pad| .gone=>True
  | .cells _ _| .lp _ _| .mrow _ _ _ _| .mapb _ _ _ _ _=> W id≠some b
  | .tok x ks _=> W id=some b->off < DN T x ks
def BT:Nat:=140737488355328
mutual
def Bk (ok:Nat->Nat->Prop)(w:World):Kd->U->Value->Prop
 | .int k ar ab,u,v=>∃n,u= .int n/\v= .int k n/\ar<=n/\n<=ab
 | .bool,u,v=>∃b,u= .bool b/\v= .bool b
 | .str,u,v=>∃s,u= .str s/\(v= .string s/\s.size<=BT)
 | .val,u,v=>u= .val v/\v.oneCell'=true
 | .any,_,v=>v.oneCell'=true
 | .list ks,u,v=>∃l,u= .list l/\l.length<=BT/\(ks=[]->l=[])/\∃a I,v= .slice a l.length I/\l.length<=I/\(0 < l.length->∃b o,a=some ⟨b,o,none⟩/\
   ∀i us,l[i]? =some us->Bw ok w ks b (o+i*ks.length) us)
def Bw (ok:Nat->Nat->Prop)(w:World):List Kd->Nat->Nat->List U->Prop
 |[],_,_,us=>us=[]
 |k::ks,b,off,us=>∃u h,us=u::h/\(ok b off/\∃v,w.cell? ⟨b,off,none⟩=some v/\Bk ok w k u v)/\Bw ok w ks b (off+1) h
end
theorem cI {ok:Nat->Nat->Prop}{w:World}{k:Kd}{u:U}{v:Value}(h:Bk ok w k u v):coC (kdC k) u=u:=by
 cases k with
 |int=>obtain⟨n,rfl,_⟩:=h;rfl
 |bool=>obtain⟨n,rfl,_⟩:=h;rfl
 |str=>obtain⟨n,rfl,_⟩:=h;rfl
 |list=>obtain⟨n,rfl,_⟩:=h;rfl
 |val=>rfl
 |any=>rfl
def Bg (ok:Nat->Nat->Prop)(w:World):List Kd->List U->List Value->Prop
 |[],us,Y=>us=[]/\Y=[]
 |k::ks,us,Y=>∃u h v q,us=u::h/\Y=v::q/\Bk ok w k u v/\Bg ok w ks h q
def CQ (ok:Nat->Nat->Prop)(w:World)(ks:List Kd):List (List U)->List (List Value)->Prop
 |[],R=>R=[]
 |us::l,R=>∃Y h,R=Y::h/\Bg ok w ks us Y/\CQ ok w ks l h
def Bu (ok:Nat->Nat->Prop)(w:World)(ks:List Kd)(l:List (List U))(Y:List Value):Prop:=∃R,Y=R.flatten/\CQ ok w ks l R
def DL (ok:Nat->Nat->Prop)(w:World)(ks:List Kd)(a7:Bool)(us:List U)(v:Value):Prop:=
 ∃Y:List Value,Bg ok w ks us Y/\(if a7 then v= .agg Y.toArray else Y=[v])
def XC (T:Tab)(W :Nat->Option Nat)(w:World)(id x:Nat)(ks:List Kd)(e:TypeId)(v:Value):Prop:=
 (W id=none/\∃a,v= .slice a (T x).toL.length (T x).toL.length)\/
 ∃b I Y, W id=some b/\v= .slice (some ⟨b,0,none⟩) (T x).toL.length I/\w.heap[b]? =some (.cells Y e (0,0))/\I*ks.length<=Y.size
def Vn (W :Nat->Option Nat)(w:World)(id:Nat)(ks:List Kd)(e:TypeId)(v:Value):Prop:=
 (W id=none/\v= .slice none 0 0)\/
 ∃b len I Y, W id=some b/\v= .slice (some ⟨b,0,none⟩) len I/\(len<=I/\len<=68719476736)/\w.heap[b]? =some (.cells Y e (0,0))/\I*ks.length<=Y.size
def S5 (W :Nat->Option Nat)(w:World)(id:Nat)(ks:List Kd)(e:TypeId)(a:Option Addr)(I:Nat):Prop:=
 (W id=none/\I=0)\/
 ∃b Y, W id=some b/\a=some ⟨b,0,none⟩/\w.heap[b]? =some (.cells Y e (0,0))/\I*ks.length<=Y.size
mutual
def BQ (T:Tab)(n:Nat)(W :Nat->Option Nat)(m:Mem)(w:World):AC->Value->Prop
 | .any,_=>True
 | .anyc,v=>v.oneCell'=true
 | .on c a,v=>c < n/\(T c= .bool true->BQ T n W m w a v)
 | .gd c a,v=>c < n/\(T c= .bool true->BQ T n W m w a v)/\(T c≠ .bool true->v=undef)
 | .cb b,v=>v= .bool b
 | .b x,v=>x < n/\∃b,T x= .bool b/\v= .bool b
 | .nb x,v=>x < n/\∃b,T x= .bool b/\v= .bool !b
 | .ci k i,v=>v= .int k i
 | .i k ar ab x,v=>x < n/\∃i,T x= .int i/\v= .int k i/\ar<=i/\i<=ab
 | .cv c,v=>v=c.value
 | .v x,v=>x < n/\T x= .val v/\v.oneCell'=true
 | .s x,v=>x < n/\∃s,T x= .str s/\(v= .string s/\s.size<=BT)
 | .ptr id off,v=>∃b, W id=some b/\v= .pointer (some ⟨b,off,none⟩)/\(m.at id).ptrOk=true
 | .pix id base B aO x aG,v=>x < n/\∃b j, W id=some b/\T x= .int j/\0<=j/\j < aO/\v= .pointer (some ⟨b,base+j.toNat*B+aG,none⟩)/\(m.at id).ptrOk=true
 | .ro x ks,v=>x < n/\Bk (Bt T W m w) w (.list ks) (T x) v
 | .rp x t off ks,v=>(x < n/\t < n)/\∃j b o us,T t= .int j/\0<=j/\(T x).toL[j.toNat]? =some us/\v= .pointer (some ⟨b,o+j.toNat*ks.length+off,none⟩)/\
   Bw (Bt T W m w) w ks b (o+j.toNat*ks.length) us
 | .vec id x ks,v=>x < n/\m.at id≠ .pad/\Bk (Bt T W m w) w (.list ks) (T x) v/\∀X e,m.at id= .tok x X e->XC T W w id x X e v
 | .fn f first I,v=>∃Y us,v= .func f (Y:List Value).toArray (us:List Value).toArray/\BR T n W m w first Y/\BR T n W m w I us
 | .sel x alts,v=>x < n/\∃j,T x= .int j/\0<=j/\CG T n W m w alts j.toNat v
 | .yl id,v=>∃b, W id=some b/\v= .func (.yield b) #[] #[]/\(m.at id).ptrOk=true
 | .asl id off len,v=>∃b, W id=some b/\v= .slice (some ⟨b,off,none⟩) len len/\(m.at id).ptrOk=true
 | .rsv id x ks,v=>x < n/\m.at id≠ .pad/\T x= .list []/\(∃a len I,v= .slice a len I)/\∀X e,m.at id= .tok x X e->Vn W w id X e v
 | .mr id y,v=>(y < n/\m.at id≠ .pad)/\∃j a I,T y= .int j/\(0<=j/\j<=BT)/\v= .slice a j.toNat I/\(j<=I/\(0 < j->∃b,a=some ⟨b,0,none⟩))/\∀x ks e,m.at id= .mrow x y ks e->S5 W w id ks e a I
 | .mp id y t sz off,v=>(y < n/\t < n/\m.at id≠ .pad)/\∃j L b,T t= .int j/\T y= .int L/\(0<=j/\j < L)/\v= .pointer (some ⟨b,j.toNat*sz+off,none⟩)/\∀x ks e,m.at id= .mrow x y ks e-> W id=some b
 | .mv id,v=>∃b, W id=some b/\v= .map (some b)/\(m.at id).ptrOk=true
 | .agg l,v=>∃Y,v= .agg (Y:List Value).toArray/\BR T n W m w l Y
 | .tup l,v=>∃Y,v= .tuple (Y:List Value).toArray/\BR T n W m w l Y
def BR (T:Tab)(n:Nat)(W :Nat->Option Nat)(m:Mem)(w:World):List AC->List Value->Prop
 |[],Y=>Y=[]
 |c::l,Y=>∃u us,Y=u::us/\BQ T n W m w c u/\BR T n W m w l us
def CG (T:Tab)(n:Nat)(W :Nat->Option Nat)(m:Mem)(w:World):List AC->Nat->Value->Prop
 |[],_,_=>False
 |c::_,0,v=>BQ T n W m w c v
 |_::l,j+1,v=>CG T n W m w l j v
end
def Cj (T:Tab)(n:Nat)(W :Nat->Option Nat)(m:Mem)(w:World)(id:Nat):Blk->Prop
 | .pad| .gone=>True
 | .cells l e=>∃b Y, W id=some b/\w.heap[b]? =some (.cells (Y:List Value).toArray e (0,0))/\BR T n W m w l Y
 | .tok x ks e=>x < n/\∃l,T x= .list l/\(W id=none\/∃b Y, W id=some b/\w.heap[b]? =some (.cells Y e (0,0))/\l.length*ks.length<=Y.size/\∀off,T.fr b off)
 | .lp x st=>∃(b:Nat) (q:Loop), W id=some b/\w.heap[b]? =some (.loop q)/\q.params=(T.lp x).ps/\q.assign=(T.lp x).assign/\q.body=(T.lp x).body/\q.tmps.size=(T.lp x).tmps.n/\(∀i c,(T.lp x).tmps.get i=some c->BQ T n W m w c (q.tmps.getD i undef))/\
   ∃j,BQ T n W m w st (.int .i64 j)/\((j=0/\q.state= .ready/\q.pending=none)\/(j= -1/\q.state= .busy)\/∃(k:Nat) (h:bn),j=(k:Int)+1/\(T.lp x).jumps[k]? =some h/\q.state= .done/\q.pending=some h.code)
 | .mrow x y ks e=>(x < n/\y < n)/\∃l,T x= .list l/\T y= .int l.length/\(l.length<=BT/\ks≠[])/\
   ((W id=none/\l=[])\/∃b Y us, W id=some b/\w.heap[b]? =some (.cells (Y++us:List Value).toArray e (0,0))/\Bu (Bt T W m w) w ks l Y/\∀off,T.fr b off)
 | .mapb x al ka aM aT=>x < n/\∃l b ay a5,T x= .list l/\ W id=some b/\w.heap[b]? =some (.map (ay:List MapEntry).toArray a5)/\ay.length=l.length/\l.length<=BT/\
   (∀(i:Nat) (us:List U) (e:MapEntry),l[i]? =some us->ay[i]? =some e->∃u1 u2,us=u1++u2/\DL (Bt T W m w) w al ka u1 e.key/\DL (Bt T W m w) w aM aT u2 e.val)/\
   ∃base,a5=base+ay.length/\∀(i:Nat) (e:MapEntry),ay[i]? =some e->e.born=base+i
structure BX (T:Tab) (n:Nat) (ρ :Nat->Option Nat) (m:Mem) (w:World):Prop where
 blk:∀id,Cj T n ρ m w id (m.at id)
 inj:∀id id' b,(m.at id).tracked=true->(m.at id').tracked=true-> ρ id=some b-> ρ id'=some b->id=id'
 fr:∀b off,w.heap.size<=b->T.fr b off
structure BY (T:Tab) (n:Nat) (ρ :Nat->Option Nat) (m:Mem) (w:World) (ρ':Nat->Option Nat) (m':Mem) (w':World):Prop where
 os:w'.os=w.os
 tape:w'.tape=w.tape
 output:w'.output=w.output
 size:w.heap.size<=w'.heap.size
 mlen:∀id,m.at id≠ .pad->m'.at id≠ .pad
 rho:∀id,(m.at id).ptrOk=true-> ρ' id= ρ id/\(m'.at id).ptrOk=true
 untr:∀id,m.at id≠ .pad->(m'.at id).tracked=true->(m.at id).tracked=true
 fresh:∀id b,m.at id= .pad->(m'.at id).tracked=true-> ρ' id=some b->w.heap.size<=b
 old:∀k,k < w.heap.size->(∀id,(m.at id).tracked=true-> ρ id≠some k)->w'.heap[k]? =w.heap[k]?
 tok:∀id x ks e,m.at id= .tok x ks e->(m'.at id= .tok x ks e/\ ρ' id= ρ id/\∀b, ρ id=some b->w'.heap[b]? =w.heap[b]?)\/
  ((∀b, ρ id=some b->∀off,off < DN T x ks->w'.cell? ⟨b,off,none⟩=w.cell? ⟨b,off,none⟩)/\
   (m'.at id= .gone\/∃x' ks' e',m'.at id= .tok x' ks' e'/\n<=x'/\∀b', ρ' id=some b'->(ρ id=some b'/\DN T x ks<=DN T x' ks')\/w.heap.size<=b'))
 row:∀id x y ks e,m.at id= .mrow x y ks e->m'.at id= .gone\/∃x' y' ks',m'.at id= .mrow x' y' ks' e/\ks'.length=ks.length/\
  ((y'=y/\ ρ' id= ρ id/\∀b vs, ρ id=some b->w.heap[b]? =some (.cells vs e (0,0))->∃vs',w'.heap[b]? =some (.cells vs' e (0,0))/\vs'.size=vs.size)\/
   (n<=y'/\∀b', ρ' id=some b'-> ρ id=some b'\/w.heap.size<=b'))
end
section
open Go Go.RowKit
variable{id:Nat}
theorem Mem.at_ge {m:Mem}(h:m.length<=id):m.at id= .pad:=by
 simp[Mem.at,Ai h]
theorem lg {m:Mem}(h:(m.at id).tracked=true):m.at id≠ .pad:=fun e=>by rw[e] at h;cases h
theorem Cf {m:Mem}(h:(m.at id).ptrOk=true):m.at id≠ .pad:=fun e=>by rw[e] at h;cases h
theorem N3 {m:Mem}(h:(m.at id).tracked=true):(m.at id).ptrOk=true\/(∃x ks e,m.at id= .tok x ks e)\/∃x y ks e,m.at id= .mrow x y ks e:=by
 cases z:m.at id with
 |pad=>rw[z] at h;cases h
 |gone=>exact .inl rfl
 |cells l e=>exact .inl rfl
 |lp E q=>exact .inl rfl
 |mapb x al D aM aT=>exact .inl rfl
 |tok x ks e=>exact .inr (.inl ⟨x,ks,e,rfl⟩)
 |mrow x y ks e=>exact .inr (.inr ⟨x,y,ks,e,rfl⟩)
theorem C5 {w ac:World}{b:Nat}(h:ac.heap[b]? =w.heap[b]?)(off:Nat):ac.cell? ⟨b,off,none⟩=w.cell? ⟨b,off,none⟩:=by
 simp only[World.cell?,h]
section
variable {T:Tab}{n ap:Nat}{W ad Z:Nat->Option Nat}{m ag S:Mem}{w ac ao:World}
theorem BY.refl (T:Tab)(n:Nat)(W :Nat->Option Nat)(m:Mem)(w:World):BY T n W m w W m w where
 os:=rfl
 tape:=rfl
 output:=rfl
 size:=AE _
 mlen:=fun _ h=>h
 rho:=fun _ h=>⟨rfl,h⟩
 untr:=fun _ _ h=>h
 fresh:=fun id b h q _=>by rw[h] at q;cases q
 old:=fun _ _ _=>rfl
 tok:=fun _ _ _ _ h=> .inl ⟨h,rfl,fun _ _=>rfl⟩
 row:=fun _ x y ks e h=> .inr ⟨x,y,ks,h,rfl,.inl ⟨rfl,rfl,fun _ Y _ z=>⟨Y,z,rfl⟩⟩⟩
theorem BY.down (h:BY T ap W m w ad ag ac)(K:n<=ap):BY T n W m w ad ag ac:=
 {h with
  tok:=fun id x ks e J=>(h.tok id x ks e J).imp (fun q=>q) fun⟨O,C⟩=>⟨O,C.imp (fun q=>q) fun⟨L,X,e',z,D,E⟩=>⟨L,X,e',z,AV K D,E⟩⟩
  row:=fun id x y ks e J=>(h.row id x y ks e J).imp (fun q=>q) fun⟨L,aF,X,O,C,z⟩=>⟨L,aF,X,O,C,z.imp (fun q=>q) fun⟨D,E⟩=>⟨AV K D,E⟩⟩ }
variable{id b:Nat}
theorem BY.back (h:BY T n W m w ad ag ac)(q:(ag.at id).tracked=true)(J: ad id=some b):
  w.heap.size<=b\/((m.at id).tracked=true/\ W id=some b):=by
 by_cases E:m.at id= .pad
 .exact .inl (h.fresh id b E q J)
 .have K:=h.untr id E q;rcases N3 K with V|⟨x,ks,e,z⟩|⟨x,y,ks,e,z⟩;rotate_left 2
  .rcases h.row id x y ks e z with O|⟨L,aF,X,O,_,⟨_,D,_⟩|⟨_,D⟩⟩
   .rw[O] at q;cases q
   .grind
   .grind
  .exact .inr ⟨K,by rw[<-(h.rho id V).1];exact J⟩
  .rcases h.tok id x ks e z with⟨_,C,_⟩|⟨_,C|⟨L,X,e',_,_,D⟩⟩
   .grind
   .rw[C] at q;cases q
   .grind
theorem BY.lone (h:BY T n W m w ad ag ac)(D:BX T n W m w)(J:(m.at id).tracked=true)(E: W id=some b)(V:b < w.heap.size)
  (hn:(ag.at id).tracked=true-> ad id≠some b):∀q,(ag.at q).tracked=true-> ad q≠some b:=by
 intro q K z;rcases h.back K z with O|⟨O,C⟩
 .omega
 .have:=D.inj q id b O J C E;grind
theorem BX.lt (K:BX T n W m w)(J:(m.at id).tracked=true)(z: W id=some b):b < w.heap.size:=by
 have h:=K.blk id;cases D:m.at id with
 |pad=>rw[D] at J;cases J
 |gone=>rw[D] at J;cases J
 |cells l e=>
  rw[D] at h;obtain⟨E,Y,O,C,_⟩:=h;rw[z] at O;cases O;exact (AI.1 C).1
 |lp st q=>
  rw[D] at h;obtain⟨E,q',O,C,_⟩:=h;rw[z] at O;cases O;exact (AI.1 C).1
 |tok x ks e=>
  rw[D] at h;obtain⟨_,r,_,O⟩:=h;rcases O with O|⟨E,Y,O,C,_⟩
  .rw[z] at O;cases O
  .rw[z] at O;cases O;exact (AI.1 C).1
 |mrow x y ks e=>
  rw[D] at h;obtain⟨_,r,_,_,_,O⟩:=h;rcases O with⟨O,_⟩|⟨E,Y,us,O,C,_⟩
  .rw[z] at O;cases O
  .rw[z] at O;cases O;exact (AI.1 C).1
 |mapb x al V aM aT=>
  rw[D] at h;obtain⟨_,_,E,ay,a3,_,O,C,_⟩:=h;rw[z] at O;cases O;exact (AI.1 C).1
theorem BY.trans (h:BY T n W m w ad ag ac)(hm:BX T n W m w)(hn:n<=ap)(k:BY T ap ad ag ac Z S ao):BY T n W m w Z S ao where
 os:=k.os.trans h.os
 tape:=k.tape.trans h.tape
 output:=k.output.trans h.output
 size:=AV h.size k.size
 mlen:=fun id hp=>k.mlen id (h.mlen id hp)
 rho:=fun id J=>
  have O:=h.rho id J;have C:=k.rho id O.2
  ⟨C.1.trans O.1,C.2⟩
 untr:=fun id hp J=>h.untr id hp (k.untr id (h.mlen id hp) J)
 fresh:=by
  intro id b hp J he;rcases k.back J he with O|⟨O,C⟩
  .exact AV h.size O
  .exact h.fresh id b hp O C
 old:=by
  intro j hj bs;have O:=h.old j hj bs;rw[<-O];refine k.old j (AH hj h.size) ?_;intro id J he;rcases h.back J he with O|⟨O,C⟩
  .omega
  .exact bs id O C
 tok:=by
  intro id x ks e hx;have a9:(m.at id).tracked=true:=by rw[hx];rfl
  have a2:m.at id≠ .pad:=lg a9;rcases h.tok id x ks e hx with⟨O,C,h3⟩|⟨O,C⟩
  .rcases k.tok id x ks e O with⟨V,E,D⟩|⟨V,E⟩
   .refine .inl ⟨V,E.trans C,fun b q=>?_⟩;rw[D b (by rw[C];exact q),h3 b q]
   .refine .inr ⟨fun b q off ho=>?_,?_⟩
    .rw[V b (by rw[C];exact q) off ho];exact C5 (h3 b q) off
    .rcases E with E|⟨L,X,e',E,D,k4⟩
     .exact .inl E
     .refine .inr ⟨L,X,e',E,AV hn D,fun b' a1=>?_⟩;rcases k4 b' a1 with z|z
      .exact .inl ⟨by rw[<-C];exact z.1,z.2⟩
      .exact .inr (AV h.size z)
  .
   have gone:(∀b, W id=some b->((ag.at id).tracked=true-> ad id≠some b))->(∀b, W id=some b->∀off,off < DN T x ks->ao.cell? ⟨b,off,none⟩=w.cell? ⟨b,off,none⟩):=by
    intro hn b q off ho;rw[<-O b q off ho];have ba:=hm.lt a9 q;exact C5 (k.old b (AH ba h.size) (h.lone hm a9 q ba (hn b q))) off
   rcases C with C|⟨L,X,e',C,h3,K⟩
   .refine .inr ⟨gone (fun b q J=>by rw[C] at J;cases J),?_⟩;have h6:=k.mlen id (h.mlen id a2);cases a6:S.at id with
    |pad=>exact absurd a6 h6
    |gone=>exact .inl rfl
    |cells l e2=>
     have:=k.untr id (h.mlen id a2) (by rw[a6];rfl);rw[C] at this;cases this
    |lp b7 q2=>
     have:=k.untr id (h.mlen id a2) (by rw[a6];rfl);rw[C] at this;cases this
    |mrow=>
     have:=k.untr id (h.mlen id a2) (by rw[a6];rfl);rw[C] at this;cases this
    |mapb=>
     have:=k.untr id (h.mlen id a2) (by rw[a6];rfl);rw[C] at this;cases this
    |tok aw bl e2=>
     have:=k.untr id (h.mlen id a2) (by rw[a6];rfl);rw[C] at this;cases this
   .have keep:∀b, W id=some b->∀off,off < DN T x ks->ao.cell? ⟨b,off,none⟩=w.cell? ⟨b,off,none⟩:=by
     intro b q off ho;by_cases he: ad id=some b
     .have hp:DN T x ks<=DN T L X:=by
       rcases K b he with h5|h5
       .exact h5.2
       .have:=hm.lt a9 q;omega
      rcases k.tok id L X e' C with⟨_,_,D⟩|⟨V,_⟩
      .rw[C5 (D b he) off];exact O b q off ho
      .rw[V b he off (AH ho hp)];exact O b q off ho
     .rw[<-O b q off ho];have ba:=hm.lt a9 q;exact C5 (k.old b (AH ba h.size) (h.lone hm a9 q ba (fun _=>he))) off
    refine .inr ⟨keep,?_⟩;rcases k.tok id L X e' C with⟨V,E,D⟩|⟨V,E⟩
    .refine .inr ⟨L,X,e',V,h3,fun b' a1=>K b' (by rw[<-E];exact a1)⟩
    .rcases E with E|⟨aw,bl,e2,E,D,k4⟩
     .exact .inl E
     .refine .inr ⟨aw,bl,e2,E,AV hn D,fun b' a1=>?_⟩;rcases k4 b' a1 with z|z
      .rcases K b' z.1 with h5|h5
       .exact .inl ⟨h5.1,AV h5.2 z.2⟩
       .exact .inr h5
      .exact .inr (AV h.size z)
 row:=by
  intro id x y ks e hx;have gone:ag.at id= .gone->S.at id= .gone:=fun O=>by
   have a2:=k.mlen id (by rw[O];exact fun h=>by cases h);by_cases J:(S.at id).tracked=true
   .have:=k.untr id (by rw[O];exact fun h=>by cases h) J;rw[O] at this;cases this
   .cases a6:S.at id<;>rw[a6] at J a2<;>first|rfl|exact absurd rfl a2|exact absurd rfl J
  rcases h.row id x y ks e hx with O|⟨L,aF,X,O,C,h3⟩
  .exact .inl (gone O)
  .rcases k.row id L aF X e O with V|⟨aw,y2,bl,V,E,D⟩
   .exact .inl V
   .refine .inr ⟨aw,y2,bl,V,E.trans C,?_⟩;rcases D with⟨D,k4,z⟩|⟨D,k4⟩
    .rcases h3 with⟨h3,K,h5⟩|⟨h3,K⟩
     .refine .inl ⟨D.trans h3,k4.trans K,fun b Y q hv=>?_⟩;obtain⟨b4,q1,q2⟩:=h5 b Y q hv;obtain⟨b5,q3,q4⟩:=z b b4 (by rw[K];exact q) q1;exact⟨b5,q3,q4.trans q2⟩
     .exact .inr ⟨by rw[D];exact h3,fun b' a1=>K b' (by rw[<-k4];exact a1)⟩
    .refine .inr ⟨AV hn D,fun b' a1=>?_⟩;rcases k4 b' a1 with z|z
     .rcases h3 with⟨_,K,_⟩|⟨_,K⟩
      .exact .inl (by rw[<-K];exact z)
      .exact K b' z
     .exact .inr (AV h.size z)
theorem BY.safe0 (h:BY T n W m w ad ag ac){off:Nat}(aa:Bt T W m w b off):
  Bt T ad ag ac b off/\ac.cell? ⟨b,off,none⟩=w.cell? ⟨b,off,none⟩:=by
 obtain⟨hb,hf,aa⟩:=aa;have ax:∀id,(m.at id).tracked=true-> W id=some b->∃x ks e,m.at id= .tok x ks e/\off < DN T x ks:=by
  intro id E z;have:=aa id;cases D:m.at id with
  |pad=>rw[D] at E;cases E
  |gone=>rw[D] at E;cases E
  |cells l e=>rw[D] at this;exact absurd z this
  |lp st q=>rw[D] at this;exact absurd z this
  |mrow x y ks e=>rw[D] at this;exact absurd z this
  |mapb x al ka aM aT=>rw[D] at this;exact absurd z this
  |tok x ks e=>rw[D] at this;exact⟨x,ks,e,rfl,this z⟩
 have not:∀id,(ag.at id).tracked=true->(∀x ks e,ag.at id≠ .tok x ks e)-> ad id≠some b:=by
  intro id E hp z;rcases h.back E z with O|⟨O,C⟩
  .omega
  .obtain⟨x,ks,e',D,_⟩:=ax id O C;rcases h.tok id x ks e' D with⟨O,_⟩|⟨_,O|⟨L,X,e',O,_⟩⟩
   .exact hp _ _ _ O
   .rw[O] at E;cases E
   .exact hp _ _ _ O
 refine⟨⟨AH hb h.size,hf,fun id=>?_⟩,?_⟩
 .cases J:ag.at id with
  |pad=>trivial
  |gone=>trivial
  |cells l e=>exact not id (by rw[J];rfl) (by rw[J];exact fun _ _ _ h=>by cases h)
  |lp st q=>exact not id (by rw[J];rfl) (by rw[J];exact fun _ _ _ h=>by cases h)
  |mrow x y ks e=>exact not id (by rw[J];rfl) (by rw[J];exact fun _ _ _ h=>by cases h)
  |mapb x al ka aM aT=>exact not id (by rw[J];rfl) (by rw[J];exact fun _ _ _ h=>by cases h)
  |tok L X e'=>
   intro z;rcases h.back (by rw[J];rfl) z with O|⟨O,C⟩
   .omega
   .obtain⟨x,ks,e2,D,K⟩:=ax id O C;rcases h.tok id x ks e2 D with⟨O,C,_⟩|⟨_,O|⟨aw,ba,e3,O,_,V⟩⟩
    .rw[J] at O;cases O;exact K
    .rw[J] at O;cases O
    .rw[J] at O;cases O;rcases V b z with h4|h4
     .exact AH K h4.2
     .omega
 .by_cases a2:∃id,(m.at id).tracked=true/\ W id=some b
  .obtain⟨id,E,z⟩:=a2;obtain⟨x,ks,e,D,K⟩:=ax id E z;rcases h.tok id x ks e D with⟨_,_,V⟩|⟨O,_⟩
   .exact C5 (V b z) off
   .exact O b z off K
  .exact C5 (h.old b hb (fun id E z=>a2 ⟨id,E,z⟩)) off
theorem BY.safe (h:BY T n W m w ad ag ac)(_hm:BX T n W m w){off:Nat}(aa:Bt T W m w b off):
  Bt T ad ag ac b off/\ac.cell? ⟨b,off,none⟩=w.cell? ⟨b,off,none⟩:=h.safe0 aa
end
mutual
theorem Bk.mono {ok N:Nat->Nat->Prop}{w ac:World}(h:∀b off,ok b off->N b off/\ac.cell? ⟨b,off,none⟩=w.cell? ⟨b,off,none⟩):
  ∀(k:Kd) (u:U) (v:Value),Bk ok w k u v->Bk N ac k u v
 | .int _ _ _,_,_,hh=>hh
 | .bool,_,_,hh=>hh
 | .str,_,_,hh=>hh
 | .val,_,_,hh=>hh
 | .any,_,_,hh=>hh
 | .list ks,u,v,⟨l,h0,O,C,a,I,h3,h4,h5⟩=>by
  refine⟨l,h0,O,C,a,I,h3,h4,fun D=>?_⟩;obtain⟨b,o,q,z⟩:=h5 D;exact⟨b,o,q,fun i us ab=>Bw.mono h ks b _ us (z i us ab)⟩
theorem Bw.mono {ok N:Nat->Nat->Prop}{w ac:World}(h:∀b off,ok b off->N b off/\ac.cell? ⟨b,off,none⟩=w.cell? ⟨b,off,none⟩):
  ∀(ks:List Kd) (b off:Nat) (us:List U),Bw ok w ks b off us->Bw N ac ks b off us
 |[],_,_,_,hh=>hh
 |k::ks,b,off,us,⟨u,us',e,⟨O,v,C,h3⟩,h4⟩=>
  ⟨u,us',e,⟨(h b off O).1,v,by rw[(h b off O).2];exact C,Bk.mono h k u v h3⟩,Bw.mono h ks b _ us' h4⟩
end
section
variable {T:Tab}{n ap:Nat}{W ad:Nat->Option Nat}{m ag:Mem}{w ac:World}
variable{id x y:Nat}{v:Value}{N:Nat->Nat->Prop}
theorem BY.link0 (h:BY T n W m w ad ag ac)(hx:x < n)(V:m.at id≠ .pad)
  (hl:∀ks e,m.at id= .tok x ks e->XC T W w id x ks e v):∀ks e,ag.at id= .tok x ks e->XC T ad ac id x ks e v:=by
 intro ks e q;have ht:=h.untr id V (by rw[q];rfl);rcases N3 ht with hk|⟨J,E,D,z⟩|⟨J,y0,E,D,z⟩;rotate_left 2
 .rcases h.row id J y0 E D z with O|⟨_,_,_,O,_⟩<;>rw[q] at O<;>cases O
 .have:=(h.rho id hk).2;rw[q] at this;cases this
 .rcases h.tok id J E D z with⟨O,C,K⟩|⟨_,O|⟨L,X,e',O,h4,_⟩⟩
  .rw[q] at O;cases O;rcases hl ks e z with⟨af,aj⟩|⟨b,I,Y,af,aj,l3,l4⟩
   .exact .inl ⟨by rw[C];exact af,aj⟩
   .exact .inr ⟨b,I,Y,by rw[C];exact af,aj,by rw[K b af];exact l3,l4⟩
  .rw[q] at O;cases O
  .grind
theorem BY.linkR (h:BY T n W m w ad ag ac)(hx:x < n)(V:m.at id≠ .pad)
  (hl:∀ks e,m.at id= .tok x ks e->Vn W w id ks e v):∀ks e,ag.at id= .tok x ks e->Vn ad ac id ks e v:=by
 intro ks e q;have ht:=h.untr id V (by rw[q];rfl);rcases N3 ht with hk|⟨J,E,D,z⟩|⟨J,y0,E,D,z⟩;rotate_left 2
 .rcases h.row id J y0 E D z with O|⟨_,_,_,O,_⟩<;>rw[q] at O<;>cases O
 .have:=(h.rho id hk).2;rw[q] at this;cases this
 .rcases h.tok id J E D z with⟨O,C,K⟩|⟨_,O|⟨L,X,e',O,h4,_⟩⟩
  .rw[q] at O;cases O;rcases hl ks e z with⟨af,aj⟩|⟨b,len,I,Y,af,aj,l0,l3,l4⟩
   .exact .inl ⟨by rw[C];exact af,aj⟩
   .exact .inr ⟨b,len,I,Y,by rw[C];exact af,aj,l0,by rw[K b af];exact l3,l4⟩
  .rw[q] at O;cases O
  .grind
theorem BY.linkM (h:BY T n W m w ad ag ac){a:Option Addr}{I:Nat}(hy:y < n)(aw:m.at id≠ .pad)
  (hl:∀x ks e,m.at id= .mrow x y ks e->S5 W w id ks e a I):∀x ks e,ag.at id= .mrow x y ks e->S5 ad ac id ks e a I:=by
 intro x ks e q;have ht:=h.untr id aw (by rw[q];rfl);rcases N3 ht with hk|⟨J,E,K,D⟩|⟨J,y0,E,K,D⟩
 .have:=(h.rho id hk).2;rw[q] at this;cases this
 .rcases h.tok id J E K D with⟨O,_⟩|⟨_,O|⟨_,_,_,O,_⟩⟩<;>rw[q] at O<;>cases O
 .rcases h.row id J y0 E K D with O|⟨L,aF,X,O,C,z⟩
  .rw[q] at O;cases O
  .rw[q] at O;cases O;rcases z with⟨z,V,h5⟩|⟨z,_⟩
   .subst z;rcases hl J E e D with⟨af,aj⟩|⟨b,Y,af,aj,l3,l4⟩
    .exact .inl ⟨by rw[V];exact af,aj⟩
    .obtain⟨a6,q1,q2⟩:=h5 b Y af l3;exact .inr ⟨b,a6,by rw[V];exact af,aj,q1,by rw[q2,C];exact l4⟩
   .omega
theorem BY.ptrM (h:BY T n W m w ad ag ac){b:Nat}(hy:y < n)(K:m.at id≠ .pad)
  (hl:∀x ks e,m.at id= .mrow x y ks e-> W id=some b):∀x ks e,ag.at id= .mrow x y ks e-> ad id=some b:=by
 intro x ks e q;have ht:=h.untr id K (by rw[q];rfl);rcases N3 ht with V|⟨J,E,z,D⟩|⟨J,y0,E,z,D⟩
 .have:=(h.rho id V).2;rw[q] at this;cases this
 .rcases h.tok id J E z D with⟨O,_⟩|⟨_,O|⟨_,_,_,O,_⟩⟩<;>rw[q] at O<;>cases O
 .rcases h.row id J y0 E z D with O|⟨L,aF,X,O,C,h3⟩
  .rw[q] at O;cases O
  .grind
theorem Bg.mono {ok N:Nat->Nat->Prop}{w ac:World}(h:∀b off,ok b off->N b off/\ac.cell? ⟨b,off,none⟩=w.cell? ⟨b,off,none⟩):∀{ks:List Kd} {us:List U} {Y:List Value},Bg ok w ks us Y->Bg N ac ks us Y
 |[],_,_,hh=>hh
 |_::_,_,_,⟨u,us',v,vs',O,C,h3,h4⟩=>⟨u,us',v,vs',O,C,Bk.mono h _ _ _ h3,Bg.mono h h4⟩
theorem CQ.mono {ok N:Nat->Nat->Prop}{w ac:World}(h:∀b off,ok b off->N b off/\ac.cell? ⟨b,off,none⟩=w.cell? ⟨b,off,none⟩){ks:List Kd}:∀{l:List (List U)} {R:List (List Value)},CQ ok w ks l R->CQ N ac ks l R
 |[],_,hh=>hh
 |_::_,_,⟨Y,vss',O,C,h3⟩=>⟨Y,vss',O,Bg.mono h C,CQ.mono h h3⟩
theorem Bu.mono {ok:Nat->Nat->Prop}{w ac:World}(h:∀b off,ok b off->N b off/\ac.cell? ⟨b,off,none⟩=w.cell? ⟨b,off,none⟩){ks:List Kd}{l:List (List U)}{Y:List Value}:Bu ok w ks l Y->Bu N ac ks l Y
 |⟨R,O,C⟩=>⟨R,O,CQ.mono h C⟩
theorem DL.mono {ok:Nat->Nat->Prop}{w ac:World}(h:∀b off,ok b off->N b off/\ac.cell? ⟨b,off,none⟩=w.cell? ⟨b,off,none⟩){ks:List Kd}{a7:Bool}{us:List U}:DL ok w ks a7 us v->DL N ac ks a7 us v
 |⟨Y,O,C⟩=>⟨Y,Bg.mono h O,C⟩
mutual
theorem BQ.mono0 (h:BY T n W m w ad ag ac)(q:n<=ap):∀(c:AC) (v:Value),BQ T n W m w c v->BQ T ap ad ag ac c v
 | .any,_,_=>trivial
 | .anyc,_,hh=>hh
 | .on _ a,v,hh=>⟨AH hh.1 q,fun z=>BQ.mono0 h q a v (hh.2 z)⟩
 | .gd _ a,v,hh=>⟨AH hh.1 q,fun z=>BQ.mono0 h q a v (hh.2.1 z),hh.2.2⟩
 | .cb _,_,hh=>hh
 | .b _,_,⟨h0,hh⟩=>⟨AH h0 q,hh⟩
 | .nb _,_,⟨h0,hh⟩=>⟨AH h0 q,hh⟩
 | .ci _ _,_,hh=>hh
 | .i _ _ _ _,_,⟨h0,hh⟩=>⟨AH h0 q,hh⟩
 | .cv _,_,hh=>hh
 | .v _,_,⟨h0,hh⟩=>⟨AH h0 q,hh⟩
 | .s _,_,⟨h0,hh⟩=>⟨AH h0 q,hh⟩
 | .ptr id off,v,⟨b,O,C,h3⟩=>⟨b,by rw[(h.rho id h3).1];exact O,C,(h.rho id h3).2⟩
 | .pix id base B aO x aG,v,⟨h0,b,j,O,C,h5,h6,h7,h3⟩=>
  ⟨AH h0 q,b,j,by rw[(h.rho id h3).1];exact O,C,h5,h6,h7,(h.rho id h3).2⟩
 | .ro x ks,v,⟨h0,C⟩=>⟨AH h0 q,Bk.mono (fun _ _ aa=>h.safe0 aa) _ _ v C⟩
 | .rp x t off ks,v,⟨h0,j,b,o,us,C,h3,h4,h5,h6⟩=>⟨⟨AH h0.1 q,AH h0.2 q⟩,j,b,o,us,C,h3,h4,h5,Bw.mono (fun _ _ aa=>h.safe0 aa) _ _ _ _ h6⟩
 | .vec id x ks,v,⟨C,h3,h4,h5⟩=>
  ⟨AH C q,h.mlen id h3,Bk.mono (fun _ _ aa=>h.safe0 aa) _ _ v h4,h.link0 C h3 h5⟩
 | .fn f first I,v,⟨Y,us,O,C,h3⟩=>⟨Y,us,O,BR.mono0 h q first Y C,BR.mono0 h q I us h3⟩
 | .sel x alts,v,⟨h0,j,O,C,h3⟩=>⟨AH h0 q,j,O,C,CG.mono0 h q alts j.toNat v h3⟩
 | .yl id,v,⟨b,O,C,h3⟩=>⟨b,by rw[(h.rho id h3).1];exact O,C,(h.rho id h3).2⟩
 | .asl id off len,v,⟨b,O,C,h3⟩=>⟨b,by rw[(h.rho id h3).1];exact O,C,(h.rho id h3).2⟩
 | .rsv id x ks,v,⟨C,h3,h4,h6,h5⟩=>⟨AH C q,h.mlen id h3,h4,h6,h.linkR C h3 h5⟩
 | .mr id y,v,⟨⟨h0,h3⟩,j,a,I,O,C,h4,h5,h6⟩=>⟨⟨AH h0 q,h.mlen id h3⟩,j,a,I,O,C,h4,h5,h.linkM h0 h3 h6⟩
 | .mp id y t sz off,v,⟨⟨h0,h0',h3⟩,j,L,b,O,C,h4,h5,h6⟩=>⟨⟨AH h0 q,AH h0' q,h.mlen id h3⟩,j,L,b,O,C,h4,h5,h.ptrM h0 h3 h6⟩
 | .mv id,v,⟨b,O,C,h3⟩=>⟨b,by rw[(h.rho id h3).1];exact O,C,(h.rho id h3).2⟩
 | .agg l,v,⟨Y,O,C⟩=>⟨Y,O,BR.mono0 h q l Y C⟩
 | .tup l,v,⟨Y,O,C⟩=>⟨Y,O,BR.mono0 h q l Y C⟩
theorem BR.mono0 (h:BY T n W m w ad ag ac)(q:n<=ap):∀(l:List AC) (Y:List Value),BR T n W m w l Y->BR T ap ad ag ac l Y
 |[],_,hh=>hh
 |c::l,_,⟨u,us,O,C,h3⟩=>⟨u,us,O,BQ.mono0 h q c u C,BR.mono0 h q l us h3⟩
theorem CG.mono0 (h:BY T n W m w ad ag ac)(q:n<=ap):∀(l:List AC) (j:Nat) (v:Value),CG T n W m w l j v->CG T ap ad ag ac l j v
 |[],_,_,hh=>hh
 |c::_,0,v,hh=>BQ.mono0 h q c v hh
 |_::l,j+1,v,hh=>CG.mono0 h q l j v hh
end
theorem BQ.mono (h:BY T n W m w ad ag ac)(_hm:BX T n W m w)(z:n<=ap)(c:AC)(v:Value)(q:BQ T n W m w c v):BQ T ap ad ag ac c v:=BQ.mono0 h z c v q
theorem BR.mono (h:BY T n W m w ad ag ac)(_hm:BX T n W m w)(z:n<=ap)(l:List AC)(Y:List Value)(q:BR T n W m w l Y):BR T ap ad ag ac l Y:=BR.mono0 h z l Y q
theorem BR.length:∀{l:List AC} {Y:List Value},BR T n W m w l Y->Y.length=l.length
 |[],_,h=>by cases h;rfl
 |_::l,_,⟨u,us,O,_,h3⟩=>by subst O;simp[BR.length h3]
theorem BR.get:∀{l:List AC} {Y:List Value},BR T n W m w l Y->∀{i:Nat} {c:AC},l[i]? =some c->∃u,Y[i]? =some u/\BQ T n W m w c u
 |_::_,_,⟨u,us,O,C,_⟩,0,c,hc=>by subst O;simp at hc;subst hc;exact⟨u,by simp,C⟩
 |_::l,_,⟨u,us,O,_,h3⟩,i+1,c,hc=>by subst O;simp at hc;simpa using BR.get h3 hc
 |[],_,_,_,_,hc=>by simp at hc
theorem BR.of_get:∀{l:List AC} {Y:List Value},Y.length=l.length->(∀(i:Nat) (c:AC) (u:Value),l[i]? =some c->Y[i]? =some u->BQ T n W m w c u)->BR T n W m w l Y
 |[],[],_,_=>rfl
 |[],_::_,h,_=>by simp at h
 |_::_,[],h,_=>by simp at h
 |c::l,u::us,h,k=>⟨u,us,rfl,k 0 c u rfl rfl,BR.of_get (by simpa using h) (fun i q E z D=>k (i+1) q E (by simpa using z) (by simpa using D))⟩
variable{l:List AC}{Y:List Value}
theorem BR.set (h:BR T n W m w l Y)(i:Nat){c:AC}{u:Value}(E:BQ T n W m w c u):BR T n W m w (l.set i c) (Y.set i u):=by
 refine BR.of_get (by simp[h.length]) ?_;intro j q J O C;rw[yP] at O C;by_cases e:i=j
 .grind
 .simp only[e,if_false] at O C;obtain⟨u2,z,D⟩:=h.get O;grind
theorem BR.drop (h:BR T n W m w l Y)(k:Nat):BR T n W m w (l.drop k) (Y.drop k):=by
 refine BR.of_get (by simp[h.length]) ?_;intro j c u O C;simp only[A8] at O C;obtain⟨u2,q,z⟩:=h.get O;grind
theorem BR.take (h:BR T n W m w l Y)(k:Nat):BR T n W m w (l.take k) (Y.take k):=by
 refine BR.of_get (by simp[h.length]) ?_;intro j c u O C;simp only[BB] at O C;split at O
 .rename_i q;simp only[q,if_true] at C;obtain⟨u2,z,D⟩:=h.get O;grind
 .cases O
theorem BR.append {ak:List AC}{D:List Value}(h:BR T n W m w l Y)(z:BR T n W m w ak D):BR T n W m w (l++ak) (Y++D):=by
 refine BR.of_get (by simp[h.length,z.length]) ?_;intro j c u O C;rw[BA] at O C;rw[h.length] at C;split at O
 .rename_i q;simp only[q,if_true] at C;obtain⟨u2,E,J⟩:=h.get O;grind
 .rename_i q;simp only[q,if_false] at C;obtain⟨u2,E,J⟩:=z.get O;grind
end
end
section
open Go Go.RowKit
abbrev PC:=Option Nat
structure Ob where
 pc:PC
 p:Pr
structure G where
 n:Nat
 eqs:List (Nat × Ex)
 obs:List Ob
 lps:List (Nat × DP):=[]
structure R where
 c:AC
 m:Mem
 us:List Ex:=[]
 ps:List Pr:=[]
def KD:Nat->List Ex->List (Nat × Ex)->List (Nat × Ex)
 |_,[],f=>f
 |n,e::ay,f=>KD (n+1) ay ((n,e)::f)
def G.pushAll (g:G):List Ex->G
 |[]=>g
 |us=>{ g with n:=g.n+us.length,eqs:=KD g.n us g.eqs }
def pcv (T:Tab):PC->Prop
 |none=>True
 |some c=>T c= .bool true
def Ob.holds (T:Tab)(o:Ob):Prop:=pcv T o.pc->o.p.holds T
def G.needAll (g:G)(ae:PC)(ps:List Pr):G:=
 match ps with
 |[]=>g
 |ps=>{ g with obs:=ps.map (Ob.mk ae)++g.obs }
structure Agr (T:Tab) (g:G):Prop where
 eqs:∀p∈g.eqs,T p.1=p.2.eval T
 lps:∀p∈g.lps,T.lp p.1=p.2
def CB (T:Tab)(g:G):Prop:=∀o∈g.obs,o.holds T
def New (T:Tab)(n:Nat)(us:List Ex):Prop:=∀j u,us[j]? =some u->T (n+j)=u.eval T
theorem New.nil (T:Tab)(n:Nat):New T n []:=fun j u h=>by simp at h
theorem New.left {T:Tab}{n:Nat}{us z:List Ex}(h:New T n (us++z)):New T n us:=fun j u q=>
 h j u (by rw[AR (AG.1 q).1];exact q)
theorem New.right {T:Tab}{n:Nat}{us q:List Ex}(h:New T n (us++q)):New T (n+us.length) q:=fun j u z=>by
 rw[Nat.add_assoc];exact h _ u (by rw[AS (by omega)];simpa using z)
theorem New.head {T:Tab}{n:Nat}{u:Ex}{us:List Ex}(h:New T n (u::us)):T n=u.eval T:=h 0 u rfl
theorem KJ:∀(us:List Ex) (n:Nat) (f:List (Nat × Ex)) (p:Nat × Ex),p∈KD n us f↔p∈f\/∃j u,us[j]? =some u/\p=(n+j,u)
 |[],n,f,p=>by simp[KD]
 |e::ay,n,f,p=>by
  rw[KD,KJ ay (n+1)];constructor
  .rintro (h|⟨j,u,O,C⟩)
   .cases h with
    |head=>exact .inr ⟨0,e,rfl,rfl⟩
    |tail _ h=>exact .inl h
   .exact .inr ⟨j+1,u,by simpa using O,by rw[C];congr 1;omega⟩
  .rintro (h|⟨j,u,O,C⟩)
   .exact .inl (AK _ h)
   .cases j with
    |zero=>simp at O;subst O;subst C;exact .inl (AN ..)
    |succ j=>exact .inr ⟨j,u,by simpa using O,by rw[C];congr 1;omega⟩
def Kd.isAny:Kd->Bool| .any=>true|_=>false
mutual
def Kd.join:Kd->Kd->Kd
 | .int k ar ab,.int k' lo' hi'=>if k=k' then .int k (min ar lo') (max ab hi') else .any
 | .bool,.bool=> .bool
 | .str,.str=> .str
 | .val,.val=> .val
 | .list ks,.list X=>
  match ks,X with
  |[],X=> .list X
  |ks,[]=> .list ks
  |ks,X=>if ks.length=X.length then .list (Kd.joins ks X) else .any
 |_,_=> .any
def Kd.joins:List Kd->List Kd->List Kd
 |k::ks,k'::X=>Kd.join k k'::Kd.joins ks X
 |_,_=>[]
end
mutual
def Kd.beq:Kd->Kd->Bool
 | .int k ar ab,.int k' lo' hi'=>decide (k=k')&&decide (ar=lo')&&decide (ab=hi')
 | .bool,.bool=>true
 | .str,.str=>true
 | .val,.val=>true
 | .any,.any=>true
 | .list ks,.list X=>Kd.beqs ks X
 |_,_=>false
def Kd.beqs:List Kd->List Kd->Bool
 |[],[]=>true
 |k::ks,k'::X=>Kd.beq k k'&&Kd.beqs ks X
 |_,_=>false
end
mutual
theorem Kd.beq_eq:∀(k q:Kd),Kd.beq k q=true->k=q
 | .int _ _ _,d,h=>by cases d<;>simp_all [Kd.beq]
 | .bool,d,h=>by cases d<;>simp_all [Kd.beq]
 | .str,d,h=>by cases d<;>simp_all [Kd.beq]
 | .val,d,h=>by cases d<;>simp_all [Kd.beq]
 | .any,d,h=>by cases d<;>simp_all [Kd.beq]
 | .list ks,d,h=>by
  cases d<;>simp[Kd.beq] at h;rw[Kd.beqs_eq ks _ h]
theorem Kd.beqs_eq:∀(k q:List Kd),Kd.beqs k q=true->k=q
 |[],d,h=>by cases d<;>simp_all [Kd.beqs]
 |k::ks,d,h=>by
  cases d<;>simp[Kd.beqs] at h;rw[Kd.beq_eq k _ h.1,Kd.beqs_eq ks _ h.2]
end
theorem Kd.joins_len:∀(ks X:List Kd),ks.length=X.length->(Kd.joins ks X).length=ks.length
 |[],[],_=>rfl
 |[],_::_,h=>by simp at h
 |_::_,[],h=>by simp at h
 |k::ks,k'::X,hl=>by simp[Kd.joins,Kd.joins_len ks X (by simpa using hl)]
section
variable {ok:Nat->Nat->Prop}{w:World}
theorem Bk.one {k:Kd}{u:U}{v:Value}(h:Bk ok w k u v):v.oneCell'=true:=by
 cases k with
 |int=>obtain⟨_,_,h,_⟩:=h;rw[h];rfl
 |bool=>obtain⟨_,_,h⟩:=h;rw[h];rfl
 |str=>obtain⟨_,_,h,_⟩:=h;rw[h];rfl
 |val=>exact h.2
 |any=>exact h
 |list ks=>obtain⟨_,_,_,_,_,_,h,_⟩:=h;rw[h];rfl
mutual
theorem Kd.join_l:∀(k q:Kd) (u:U) (v:Value),Bk ok w k u v->Bk ok w (Kd.join k q) u v
 | .int k ar ab,q,u,v,h=>by
  cases q<;>try (exact h.one)
  rename_i j a3 a2;simp only[Kd.join];split
  .obtain⟨n,O,C,z,D⟩:=h;exact⟨n,O,C,by omega,by omega⟩
  .exact h.one
 | .bool,q,u,v,h=>by cases q<;>first|exact h|exact h.one
 | .str,q,u,v,h=>by cases q<;>first|exact h|exact h.one
 | .val,q,u,v,h=>by cases q<;>first|exact h|exact h.one
 | .any,q,u,v,h=>by cases q<;>exact h.one
 | .list ks,q,u,v,h=>by
  cases q<;>try (exact h.one)
  rename_i X;have E:=h;obtain⟨l,J,O,C,a,I,z,D,h5⟩:=h;cases ks with
  |nil=>
   obtain rfl:=C rfl;exact⟨[],J,O,fun _=>rfl,a,I,z,D,fun h=>absurd h (by simp)⟩
  |cons c aC=>
   cases X with
   |nil=>exact E
   |cons V al=>
    simp only[Kd.join];split
    .rename_i K;refine⟨l,J,O,(fun h=>by simp[Kd.joins] at h),a,I,z,D,fun hp=>?_⟩;obtain⟨b,o,h6,h7⟩:=h5 hp;refine⟨b,o,h6,fun i us ab=>?_⟩;have:=Kd.joins_l (c::aC) (V::al) K b _ us (h7 i us ab);rw[Kd.joins_len _ _ K];exact this
    .exact E.one
theorem Kd.joins_l:∀(ks X:List Kd),ks.length=X.length->∀(b off:Nat) (us:List U),Bw ok w ks b off us->Bw ok w (Kd.joins ks X) b off us
 |[],[],_,_,_,_,h=>h
 |[],_::_,h,_,_,_,_=>by simp at h
 |_::_,[],h,_,_,_,_=>by simp at h
 |k::ks,k'::X,hl,b,off,us,⟨u,us',e,⟨O,v,C,h3⟩,h4⟩=>
  ⟨u,us',e,⟨O,v,C,Kd.join_l k k' u v h3⟩,Kd.joins_l ks X (by simpa using hl) b _ us' h4⟩
end
mutual
theorem Kd.join_r:∀(k q:Kd) (u:U) (v:Value),Bk ok w q u v->Bk ok w (Kd.join k q) u v
 | .int k ar ab,q,u,v,h=>by
  cases q<;>try (exact h.one)
  rename_i j a3 a2;simp only[Kd.join];split
  .rename_i e;obtain⟨n,O,C,z,D⟩:=h;exact⟨n,O,by rw[e];exact C,by omega,by omega⟩
  .exact h.one
 | .bool,q,u,v,h=>by cases q<;>first|exact h|exact h.one
 | .str,q,u,v,h=>by cases q<;>first|exact h|exact h.one
 | .val,q,u,v,h=>by cases q<;>first|exact h|exact h.one
 | .any,q,u,v,h=>by cases q<;>exact h.one
 | .list ks,q,u,v,h=>by
  cases q<;>try (exact h.one)
  rename_i X;have J:=h;obtain⟨l,K,O,C,a,I,z,D,h5⟩:=h;cases ks with
  |nil=>exact J
  |cons c aC=>
   cases X with
   |nil=>
    obtain rfl:=C rfl;exact⟨[],K,O,fun _=>rfl,a,I,z,D,fun h=>absurd h (by simp)⟩
   |cons V al=>
    simp only[Kd.join];split
    .rename_i E;refine⟨l,K,O,(fun h=>by simp[Kd.joins] at h),a,I,z,D,fun hp=>?_⟩;obtain⟨b,o,h6,h7⟩:=h5 hp;refine⟨b,o,h6,fun i us ab=>?_⟩;have:=Kd.joins_r (c::aC) (V::al) E b _ us (h7 i us ab);rw[Kd.joins_len _ _ E,E];exact this
    .exact J.one
theorem Kd.joins_r:∀(ks X:List Kd),ks.length=X.length->∀(b off:Nat) (us:List U),Bw ok w X b off us->Bw ok w (Kd.joins ks X) b off us
 |[],[],_,_,_,_,h=>h
 |[],_::_,h,_,_,_,_=>by simp at h
 |_::_,[],h,_,_,_,_=>by simp at h
 |k::ks,k'::X,hl,b,off,us,⟨u,us',e,⟨O,v,C,h3⟩,h4⟩=>
  ⟨u,us',e,⟨O,v,C,Kd.join_r k k' u v h3⟩,Kd.joins_r ks X (by simpa using hl) b _ us' h4⟩
end
end
inductive Vx where
 |rf (r:Rf)
 |ex (e:Ex)
def Vx.eval (T:Tab):Vx->U| .rf r=>r.eval T| .ex e=>e.eval T
def Gq:AC->Option (Kd × Rf)
 | .cb b=>some (.bool,.c (.bool b))
 | .b x=>some (.bool,.e x)
 | .nb x=>some (.bool,.n x)
 | .ci k n=>some (.int k n n,.c (.int n))
 | .i k ar ab x=>some (.int k ar ab,.e x)
 | .cv .nilSlice=>some (.list [],.c (.list []))
 | .cv (.str s)=>if s.size<=65536 then some (.str,.c (.str s)) else none
 | .cv c=>some (.val,.c (.val c.value))
 | .v x=>some (.val,.e x)
 | .s x=>some (.str,.e x)
 | .ro x ks=>some (.list ks,.e x)
 | .vec _ x ks=>some (.list ks,.e x)
 |_=>none
def MD:Kd->Nat->AC
 | .int k ar ab,x=>if ar=ab then .ci k ar else .i k ar ab x
 | .bool,x=> .b x
 | .str,x=> .s x
 | .val,x=> .v x
 | .any,_=> .anyc
 | .list ks,x=> .ro x ks
def DV (c:AC):Option (IntKind × Int × Int × Rf):=
 match c with
 | .ci k n=>some (k,n,n,.c (.int n))
 | .i k ar ab x=>some (k,ar,ab,.e x)
 |_=>none
def KI (c:AC):Option (Option Bool × Rf):=
 match c with
 | .cb b=>some (some b,.c (.bool b))
 | .b x=>some (none,.e x)
 | .nb x=>some (none,.n x)
 |_=>none
def Kg (c:AC):Option (List Kd × Rf):=
 match c with
 | .cv .nilSlice=>some ([],.c (.list []))
 | .ro x ks=>some (ks,.e x)
 | .vec _ x ks=>some (ks,.e x)
 |_=>none
def mkV (g:G)(m:Mem)(k:Kd)(v:Vx)(ps:List Pr:=[]):R:=
 match k,v with
 | .int k ar ab,v=>if ar=ab then { c:= .ci k ar,m,us:=[],ps } else
  match v with
  | .rf (.e x)=>{ c:= .i k ar ab x,m,us:=[],ps }
  | .rf r=>{ c:= .i k ar ab g.n,m,us:=[⟨ "id",oId,[r]⟩],ps }
  | .ex e=>{ c:= .i k ar ab g.n,m,us:=[e],ps }
 |k,.ex e=>{ c:=MD k g.n,m,us:=[e],ps }
 |k,.rf (.e x)=>{ c:=MD k x,m,us:=[],ps }
 |k,.rf r=>{ c:=MD k g.n,m,us:=[⟨ "id",oId,[r]⟩],ps }
def mkI (g:G)(m:Mem)(k:IntKind)(ar ab:Int)(v:Vx)(ps:List Pr:=[]):R:=mkV g m (.int k ar ab) v ps
def mkB (g:G)(m:Mem)(h:Option Bool)(e:Ex)(ps:List Pr:=[]):R:=
 match h with
 |some b=>{ c:= .cb b,m,us:=[],ps }
 |none=>{ c:= .b g.n,m,us:=[e],ps }
def FR:IntKind->String
 | .i8=> "i8" | .i16=> "i16" | .i32=> "i32" | .i64=> "i64" | .u8=> "u8" | .u16=> "u16" | .u32=> "u32" | .u64=> "u64"
def aA (k:IntKind)(e:Ex):Ex:=⟨FR k++ " " ++e.tag.str,LM k e.f,e.args⟩
def rng (k:IntKind)(ar ab:Int)(e:Ex):Int × Int × Vx:=
 if k.min<=ar/\ab<=k.max then (ar,ab,.ex e) else (k.min,k.max,.ex (aA k e))
def ex2 (h:Tg)(f:Int->Int->Int)(a b:Rf):Ex:=⟨h,o2 f,[a,b]⟩
def W9 (n:Int):Option Nat:=(List.range 64).find? fun j=>decide (n=((2 ^ j:Nat):Int) - 1)
def Sa (op:BinOp)(k:IntKind)(af O:Int)(av:Rf)(aj C:Int):Option (Int × Int × Vx):=
 if aj=C/\0<=aj/\aj.toNat<=k.bits then
  match op with
  | .shl=>some (rng k (af*((2 ^ aj.toNat:Nat):Int)) (O*((2 ^ aj.toNat:Nat):Int)) (ex2 "mul" tB av (.c (.int ((2 ^ aj.toNat:Nat):Int)))))
  | .shr=>some (af / ((2 ^ aj.toNat:Nat):Int),O / ((2 ^ aj.toNat:Nat):Int),.ex (ex2 "div" t8 av (.c (.int ((2 ^ aj.toNat:Nat):Int)))))
  |_=>none
 else none
def Wg (op:BinOp)(k:IntKind)(af O:Int)(av:Rf)(aj C:Int)(aD:Rf):Option ((Int × Int × Vx) × List Pr):=
 match op with
 | .add=>some (if (aj=0/\C=0)/\k.min<=af/\O<=k.max then (af,O,.rf av) else if (af=0/\O=0)/\k.min<=aj/\C<=k.max then (aj,C,.rf aD) else rng k (af+aj) (O+C) (ex2 "add" rE av aD),[])
 | .sub=>some (if (aj=0/\C=0)/\k.min<=af/\O<=k.max then (af,O,.rf av) else rng k (af - C) (O - aj) (ex2 "sub" tQ av aD),[])
 | .mul=>some (rng k (min (min (af*aj) (af*C)) (min (O*aj) (O*C))) (max (max (af*aj) (af*C)) (max (O*aj) (O*C))) (ex2 "mul" tB av aD),[])
 | .quo=>
  if 0 < aj then
   if 0<=af then some (rng k (af / C) (O / aj) (ex2 "div" t8 av aD),[])
   else if aj=C then some (rng k (af.tdiv aj) (O.tdiv aj) (ex2 "tdiv" Ww av aD),[])
   else some (rng k (min af 0) (max O 0) (ex2 "tdiv" Ww av aD),[])
  else some ((k.min,k.max,.ex (aA k (ex2 "tdiv" Ww av aD))),[⟨ "nez",UU,[aD]⟩])
 | .rem=>
  if 0 < aj then
   if 0<=af then some ((if af=O/\aj=C then af % aj else 0,if af=O/\aj=C then af % aj else min O (C - 1),.ex (ex2 "mod" aq av aD)),[])
   else some ((max (1 - C) (min af 0),min (C - 1) (max O 0),.ex (ex2 "tmod" jg av aD)),[])
  else some ((min af 0,max O 0,.ex (ex2 "tmod" jg av aD)),[⟨ "nez",UU,[aD]⟩])
 | .and=>match W9 aj with
  |some j=>if (aj=C/\0<=af)/\O<=k.max/\C<=k.max then some ((0,C,.ex (ex2 "mod" aq av (.c (.int ((2 ^ j:Nat):Int))))),[]) else some ((k.min,k.max,.ex (ex2 (FR k++ " and") (El .and k) av aD)),[])
  |none=>some ((k.min,k.max,.ex (ex2 (FR k++ " and") (El .and k) av aD)),[])
 | .or=>some ((k.min,k.max,.ex (ex2 (FR k++ " or") (El .or k) av aD)),[])
 | .xor=>some ((k.min,k.max,.ex (ex2 (FR k++ " xor") (El .xor k) av aD)),[])
 | .andNot=>some ((k.min,k.max,.ex (ex2 (FR k++ " andNot") (El .andNot k) av aD)),[])
 |_=>none
def rV (op:BinOp)(af O:Int)(av:Rf)(aj C:Int)(aD:Rf):Option (Option Bool × Ex):=
 match op with
 | .lss=>some (if O < aj then some true else if C<=af then some false else none,⟨ "lt",oLt,[av,aD]⟩)
 | .leq=>some (if O<=aj then some true else if C < af then some false else none,⟨ "le",oLe,[av,aD]⟩)
 | .gtr=>some (if C < af then some true else if O<=aj then some false else none,⟨ "lt",oLt,[aD,av]⟩)
 | .geq=>some (if C<=af then some true else if O < aj then some false else none,⟨ "le",oLe,[aD,av]⟩)
 | .eql=>some (if O < aj\/C < af then some false else if af=O/\aj=C/\af=aj then some true else none,⟨ "eq",oEq,[av,aD]⟩)
 | .neq=>some (if O < aj\/C < af then some true else if af=O/\aj=C/\af=aj then some false else none,⟨ "ne",oNe,[av,aD]⟩)
 |_=>none
theorem Fa (k:IntKind)(n:Int):k.min<=k.wrap n/\k.wrap n<=k.max:=by
 cases k<;>simp[IntKind.min,IntKind.max,IntKind.wrap,IntKind.signed,IntKind.bits]<;>(try split)<;>omega
theorem GO (k:IntKind)(n:Int)(O:k.min<=n)(C:n<=k.max):k.wrap n=n:=by
 cases k<;>simp[IntKind.min,IntKind.max,IntKind.wrap,IntKind.signed,IntKind.bits] at* <;>(try split)<;>omega
structure kD (T:Tab) (t:Int × Int × Vx) (n:Int):Prop where
 val:t.2.2.eval T= .int n
 lo:t.1<=n
 hi:n<=t.2.1
variable{e:Ex}{T:Tab}{af O av aj C aD a d:Int}{k:IntKind}{aB aJ:Rf}{t:Int × Int × Vx}
theorem Lr (k:IntKind){ar ab n:Int}(q:e.eval T= .int n)(O:ar<=n)(C:n<=ab):kD T (rng k ar ab e) (k.wrap n):=by
 unfold rng;split
 .rename_i h;rw[GO k n (by omega) (by omega)];exact⟨q,O,C⟩
 .have:=Fa k n;refine⟨?_,this.1,this.2⟩;show LM k e.f (e.args.map (Rf.eval T))=_;have z:e.f (e.args.map (Rf.eval T))= .int n:=q;simp only[LM,z,U.toI]
theorem lH (a:af<=av)(b:av<=O)(c:aj<=aD)(d:aD<=C):
  min (min (af*aj) (af*C)) (min (O*aj) (O*C))<=av*aD/\av*aD<=max (max (af*aj) (af*C)) (max (O*aj) (O*C)):=by
 have q:∀x:Int,(min (af*x) (O*x)<=av*x/\av*x<=max (af*x) (O*x)):=by
  intro x;rcases Int.le_total 0 x with h|h
  .have:=Int.mul_le_mul_of_nonneg_right a h;have:=Int.mul_le_mul_of_nonneg_right b h;omega
  .have:=Int.mul_le_mul_of_nonpos_right a h;have:=Int.mul_le_mul_of_nonpos_right b h;omega
 have z:=q aj;have E:=q C;rcases Int.le_total 0 av with h|h
 .have:=Int.mul_le_mul_of_nonneg_left c h;have:=Int.mul_le_mul_of_nonneg_left d h;omega
 .have:=Int.mul_le_mul_of_nonpos_left h c;have:=Int.mul_le_mul_of_nonpos_left h d;omega
theorem YI {b:Int}(h:a<=b)(hd:0 < d):a.tdiv d<=b.tdiv d:=by
 rw[tdiv_eq_if a d,tdiv_eq_if b d];split<;>split
 .exact Int.ediv_le_ediv hd h
 .omega
 .have O:0<= -a / d:=Int.ediv_nonneg (by omega) (by omega);have C:0<=b / d:=Int.ediv_nonneg (by omega) (by omega);omega
 .have: -b / d<= -a / d:=Int.ediv_le_ediv hd (by omega);omega
theorem jE (hd:0 < d):min a 0<=a.tdiv d/\a.tdiv d<=max a 0:=by
 rw[tdiv_eq_if a d];split
 .have O:0<=a / d:=Int.ediv_nonneg (by omega) (by omega);have C:a / d<=a:=Int.ediv_le_self d (by omega);omega
 .have O:0<= -a / d:=Int.ediv_nonneg (by omega) (by omega);have C: -a / d<= -a:=Int.ediv_le_self d (by omega);omega
theorem Xa (h:0<=a)(hd:0 < d):a % d<=a:=by
 have O:0<=a / d:=Int.ediv_nonneg h (by omega);have C:=Int.mul_nonneg (show 0<=d by omega) O;rw[Int.emod_def];omega
theorem gL (hd:0 < d):max (1 - d) (min a 0)<=a.tmod d/\a.tmod d<=min (d - 1) (max a 0):=by
 rw[tmod_eq_if a d];split
 .have O:=Int.emod_nonneg a (show d≠0 by omega);have C:=Int.emod_lt_of_pos a hd;have h:a % d<=a:=Xa (by omega) hd;omega
 .have O:=Int.emod_nonneg (-a) (show d≠0 by omega);have C:=Int.emod_lt_of_pos (-a) hd;have h: -a % d<= -a:=Xa (by omega) hd;omega
theorem si (_hd:d≠0):min a 0<=a.tmod d/\a.tmod d<=max a 0:=by
 have O:(a.tmod d).natAbs<=a.natAbs:=by
  rw[Int.natAbs_tmod];exact Nat.mod_le _ _
 rcases Int.le_total 0 a with h|h
 .have:=Int.tmod_nonneg d h;omega
 .rw[tmod_eq_if a d] at*;split at O
  .grind
  .rename_i C;simp only[C,if_false] at O⊢;have:=Int.emod_nonneg (-a) _hd;omega
theorem kY {n:Int}{j:Nat}(h:W9 n=some j):n=((2 ^ j:Nat):Int) - 1:=by
 unfold W9 at h;grind
theorem vH {w a b:Nat}(h:a < 2 ^ w):(BitVec.ofInt w (a:Int) &&& BitVec.ofInt w (b:Int)).toNat=a &&& (b % 2 ^ w):=by
 grind
theorem n7 (k:IntKind){a:Nat}(h:(a:Int)<=k.max):a < 2 ^ k.bits:=by
 cases k<;>simp[IntKind.max,IntKind.signed,IntKind.bits] at* <;>omega
theorem Zl (k:IntKind)(a b:Nat)(h:(a:Int)<=k.max)(q:(b:Int)<=k.max):El .and k (a:Int) (b:Int)=((a &&& b:Nat):Int):=by
 have O:=n7 k h;have C:=n7 k q;show k.wrap _=_;have e:((BitVec.ofInt k.bits (a:Int) &&& BitVec.ofInt k.bits (b:Int)).toNat:Int)=((a &&& b:Nat):Int):=by rw[vH O,Nat.mod_eq_of_lt C]
 refine (BI k.wrap e).trans (GO k _ ?_ ?_)
 .have:k.min<=0:=by cases k<;>simp[IntKind.min,IntKind.signed,IntKind.bits]
  omega
 .have:=Nat.and_le_left (n:=a) (m:=b);omega
theorem pO {op:BinOp}{E:IntKind}(h:Sa op k af O aB aj C=some t)(e1:aB.eval T= .int av)
  (z:af<=av) (D:av<=O) (a2:aj<=aD) (b2:aD<=C) (P:Program) (aR:TypeId) (w:World):
  ∃n,(binOp op aR (.int k av) (.int E aD)).run P w= .ok (.int k n) w/\kD T t n:=by
 unfold Sa at h;split at h
 case isFalse=>cases h
 rename_i hc;obtain rfl:aD=aj:=by omega
 have K:¬aD < 0:=by omega
 have J:min aD.toNat k.bits=aD.toNat:=by omega
 have aE:∀V f,(ex2 V f aB (.c (.int ((2 ^ aD.toNat:Nat):Int)))).eval T= .int (f av ((2 ^ aD.toNat:Nat):Int)):=fun V f=>by show U.int (f (Rf.eval T aB).toI _)=_;rw[e1];rfl
 have q:0 < ((2 ^ aD.toNat:Nat):Int):=by have:=Nat.two_pow_pos aD.toNat;omega
 have aw:(2 ^ aD.toNat:Int)=((2 ^ aD.toNat:Nat):Int):=by simp
 split at h
 .cases h;refine⟨k.wrap (av*((2 ^ aD.toNat:Nat):Int)),?_,Lr k (aE _ _) (Int.mul_le_mul_of_nonneg_right z (by omega)) (Int.mul_le_mul_of_nonneg_right D (by omega))⟩;simp[binOp,Op.shift,K,J]
 .cases h;refine⟨av / ((2 ^ aD.toNat:Nat):Int),?_,aE _ _,Int.ediv_le_ediv q z,Int.ediv_le_ediv q D⟩;simp only[binOp,Op.shift,K,J,if_false,aw,Int.fdiv_eq_ediv_of_nonneg _ (Int.le_of_lt q)];rfl
 .cases h
theorem rR {op:BinOp}{ps:List Pr}(h:Wg op k af O aB aj C aJ=some (t,ps))(K:aB.eval T= .int av)(V:aJ.eval T= .int aD)
  (E:af<=av) (J:av<=O) (a2:aj<=aD) (b2:aD<=C) (hp:∀p∈ps,p.holds T) (P:Program) (aR:TypeId) (w:World):
  ∃n,(binOp op aR (.int k av) (.int k aD)).run P w= .ok (.int k n) w/\kD T t n:=by
 have aE:∀a6 f,(ex2 a6 f aB aJ).eval T= .int (f av aD):=fun a6 f=>by simp[ex2,Ex.eval,o2,u0,u1,K,V,U.toI]
 cases op<;>simp only[Wg] at h
 case add=>
  cases h;refine⟨k.wrap (av+aD),by simp[binOp,Op.intArith],?_⟩;split
  .rename_i hc;obtain rfl:aD=0:=by omega
   rw[Int.add_zero,GO k av (by omega) (by omega)];exact⟨K,E,J⟩
  .split
   .rename_i hc;obtain rfl:av=0:=by omega
    rw[Int.zero_add,GO k aD (by omega) (by omega)];exact⟨V,a2,b2⟩
   .exact Lr k (aE _ _) (by omega) (by omega)
 case sub=>
  cases h;refine⟨k.wrap (av - aD),by simp[binOp,Op.intArith],?_⟩;split
  .rename_i hc;obtain rfl:aD=0:=by omega
   rw[Int.sub_zero,GO k av (by omega) (by omega)];exact⟨K,E,J⟩
  .exact Lr k (aE _ _) (by omega) (by omega)
 case mul=>
  cases h;have D:=lH E J a2 b2;exact⟨k.wrap (av*aD),by simp[binOp,Op.intArith],Lr k (aE _ _) D.1 D.2⟩
 case quo=>
  split at h
  .rename_i hl;have z:aD≠0:=by omega
   split at h
   .rename_i bi;cases h;have e:av.tdiv aD=av / aD:=Int.tdiv_eq_ediv_of_nonneg (by omega);have bl:af / C<=av / aD:=by
     have h3:af / C<=af / aD:=by
      refine Int.le_ediv_of_mul_le (by omega) ?_;have q0:0<=af / C:=Int.ediv_nonneg (by omega) (by omega);have:=Int.mul_le_mul_of_nonneg_left b2 q0;have:=Int.ediv_mul_le af (show C≠0 by omega);omega
     have h4:af / aD<=av / aD:=Int.ediv_le_ediv (by omega) E;omega
    have bb:av / aD<=O / aj:=by
     have h3:av / aD<=av / aj:=by
      refine Int.le_ediv_of_mul_le (by omega) ?_;have q0:0<=av / aD:=Int.ediv_nonneg (by omega) (by omega);have:=Int.mul_le_mul_of_nonneg_left a2 q0;have:=Int.ediv_mul_le av z;omega
     have h4:av / aj<=O / aj:=Int.ediv_le_ediv (by omega) J;omega
    refine⟨k.wrap (av / aD),?_,Lr k (aE _ _) bl bb⟩;rw[<-e];simp[binOp,Op.intDiv,z]
   .split at h
    .rename_i he;subst he;obtain rfl:aD=aj:=by omega
     cases h;exact⟨k.wrap (av.tdiv aD),by simp[binOp,Op.intDiv,z],Lr k (aE _ _) (YI E hl) (YI J hl)⟩
    .cases h;have D:=jE (a:=av) (d:=aD) (by omega);exact⟨k.wrap (av.tdiv aD),by simp[binOp,Op.intDiv,z],Lr k (aE _ _) (by omega) (by omega)⟩
  .cases h;have z:aD≠0:=by
    have:=hp ⟨ "nez",UU,[aJ]⟩ (by simp);simpa [Pr.holds,UU,u0,V,U.toI] using this
   have q:=Fa k (av.tdiv aD);refine⟨k.wrap (av.tdiv aD),by simp[binOp,Op.intDiv,z],?_,q.1,q.2⟩;simp[Vx.eval,aA,Ex.eval,LM,ex2,o2,u0,u1,K,V,U.toI,Ww]
 case rem=>
  split at h
  .rename_i hl;have z:aD≠0:=by omega
   split at h
   .rename_i bi;cases h;have e:av.tmod aD=av % aD:=Int.tmod_eq_emod_of_nonneg (by omega);have q1:=Int.emod_nonneg av z;have q2:=Int.emod_lt_of_pos av (show 0 < aD by omega);have q3:av % aD<=av:=Xa (by omega) (by omega);refine⟨av % aD,by simp[binOp,Op.intDiv,z,e],aE _ _,?_,?_⟩<;>simp only
    .split
     .rename_i hc;obtain rfl:av=af:=by omega
      obtain rfl:aD=aj:=by omega
      exact Aw _
     .omega
    .split
     .rename_i hc;obtain rfl:av=af:=by omega
      obtain rfl:aD=aj:=by omega
      exact Aw _
     .omega
   .cases h;have D:=gL (a:=av) (d:=aD) (by omega);refine⟨av.tmod aD,by simp[binOp,Op.intDiv,z],aE _ _,?_,?_⟩<;>simp only<;>omega
  .cases h;have z:aD≠0:=by
    have:=hp ⟨ "nez",UU,[aJ]⟩ (by simp);simpa [Pr.holds,UU,u0,V,U.toI] using this
   have D:=si (a:=av) z;refine⟨av.tmod aD,by simp[binOp,Op.intDiv,z],aE _ _,?_,?_⟩<;>simp only<;>omega
 case and=>
  split at h
  .rename_i j hj;split at h
   .rename_i hc;cases h;obtain rfl:aD=aj:=by omega
    have hl:=kY hj;obtain⟨a,rfl⟩:∃a:Nat,av=a:=⟨av.toNat,by omega⟩;have bo:0 < 2 ^ j:=Nat.two_pow_pos j;have D:El .and k (a:Int) aD=(a:Int) % ((2 ^ j:Nat):Int):=by
     have h3:aD=((2 ^ j - 1:Nat):Int):=by omega
     rw[h3,Zl k a (2 ^ j - 1) (by omega) (by omega),Nat.and_two_pow_sub_one_eq_mod];exact Int.natCast_emod a (2 ^ j)
    refine⟨(a:Int) % ((2 ^ j:Nat):Int),?_,?_⟩
    .rw[<-D];simp[binOp,Op.intBits,El]
    .have e3:(ex2 "mod" aq aB (.c (.int ((2 ^ j:Nat):Int)))).eval T= .int ((a:Int) % ((2 ^ j:Nat):Int)):=by show U.int (aq (Rf.eval T aB).toI _)=_;rw[K];rfl
     have q1:=Int.emod_nonneg (a:Int) (show ((2 ^ j:Nat):Int)≠0 by omega);have q2:=Int.emod_lt_of_pos (a:Int) (show 0 < ((2 ^ j:Nat):Int) by omega);refine⟨e3,q1,?_⟩;show _<=C;omega
   .cases h;have q:=Fa k;exact⟨El .and k av aD,by simp[binOp,Op.intBits,El],aE _ _,(q _).1,(q _).2⟩
  .cases h;have q:=Fa k;exact⟨El .and k av aD,by simp[binOp,Op.intBits,El],aE _ _,(q _).1,(q _).2⟩
 case or=>cases h;have q:=Fa k;exact⟨El .or k av aD,by simp[binOp,Op.intBits,El],aE _ _,(q _).1,(q _).2⟩
 case xor=>cases h;have q:=Fa k;exact⟨El .xor k av aD,by simp[binOp,Op.intBits,El],aE _ _,(q _).1,(q _).2⟩
 case andNot=>cases h;have q:=Fa k;exact⟨El .andNot k av aD,by simp[binOp,Op.intBits,El],aE _ _,(q _).1,(q _).2⟩
 all_goals cases h
theorem du {p:Bool->Prop}{q:Bool->Prop}{r:Bool->Prop}(b:Bool)(O:p b)(C:q b)(h:r b):∃b,p b/\q b/\r b:=⟨b,O,C,h⟩
theorem vo {op:BinOp}{E:Option Bool}(h:rV op af O aB aj C aJ=some (E,e))(z:aB.eval T= .int av)(D:aJ.eval T= .int aD)
  (J:af<=av) (V:av<=O) (K:aj<=aD) (b2:aD<=C) (P:Program) (aR:TypeId) (w:World):
  ∃b,(binOp op aR (.int k av) (.int k aD)).run P w= .ok (.bool b) w/\e.eval T= .bool b/\∀c,E=some c->b=c:=by
 cases op<;>simp only[rV] at h<;>cases h
 case eql=>exact du (decide (av=aD)) (by simp[binOp,Op.intCmp]<;>rfl) (by simp[Ex.eval,oEq,u0,u1,z,D,U.toI]) (fun c q=>by
  revert q
  split
  .intro q;cases q;simp;omega
  .split
   .intro q;cases q;simp;omega
   .intro q;cases q)
 case neq=>exact du (!decide (av=aD)) (by simp[binOp,Op.intCmp]<;>rfl) (by simp[Ex.eval,oNe,u0,u1,z,D,U.toI]) (fun c q=>by
  revert q
  split
  .intro q;cases q;simp;omega
  .split
   .intro q;cases q;simp;omega
   .intro q;cases q)
 all_goals refine⟨_,by simp[binOp,Op.intCmp]<;>rfl,by simp[Ex.eval,oLt,oLe,u0,u1,z,D,U.toI],fun c q=>?_⟩
 all_goals
  revert q
  split
  .intro q;cases q;simp;omega
  .split
   .intro q;cases q;simp;omega
   .intro q;cases q
mutual
def AC.beq:AC->AC->Bool
 | .any,.any=>true
 | .anyc,.anyc=>true
 | .on c a,.on d p=>Nat.beq c d&&AC.beq a p
 | .gd c a,.gd d p=>Nat.beq c d&&AC.beq a p
 | .cb a,.cb p=>a==p
 | .b x,.b y=>Nat.beq x y
 | .nb x,.nb y=>Nat.beq x y
 | .ci k n,.ci j m=>decide (k=j)&&decide (n=m)
 | .i k ar ab x,.i k' lo' hi' L=>Nat.beq x L&&decide (k=k')&&decide (ar=lo')&&decide (ab=hi')
 | .cv a,.cv p=>decide (a=p)
 | .v x,.v y=>Nat.beq x y
 | .ptr a1 a2,.ptr aS c2=>Nat.beq a1 aS&&Nat.beq a2 c2
 | .pix a1 a2 a3 a4 a5 a6,.pix aS c2 c3 c4 c5 c6=>Nat.beq a1 aS&&Nat.beq a2 c2&&Nat.beq a3 c3&&Nat.beq a4 c4&&Nat.beq a5 c5&&Nat.beq a6 c6
 | .s x,.s y=>Nat.beq x y
 | .ro x ks,.ro y X=>Nat.beq x y&&Kd.beqs ks X
 | .rp a1 a2 a3 ks,.rp aS c2 c3 X=>Nat.beq a1 aS&&Nat.beq a2 c2&&Nat.beq a3 c3&&Kd.beqs ks X
 | .vec a1 a2 ks,.vec aS c2 X=>Nat.beq a1 aS&&Nat.beq a2 c2&&Kd.beqs ks X
 | .sel x l,.sel y ak=>Nat.beq x y&&AC.beqL l ak
 | .yl x,.yl y=>Nat.beq x y
 | .asl a1 a2 a3,.asl aS c2 c3=>Nat.beq a1 aS&&Nat.beq a2 c2&&Nat.beq a3 c3
 | .rsv a1 a2 ks,.rsv aS c2 X=>Nat.beq a1 aS&&Nat.beq a2 c2&&Kd.beqs ks X
 | .mr a1 a2,.mr aS c2=>Nat.beq a1 aS&&Nat.beq a2 c2
 | .mp a1 a2 a3 a4 a5,.mp aS c2 c3 c4 c5=>Nat.beq a1 aS&&Nat.beq a2 c2&&Nat.beq a3 c3&&Nat.beq a4 c4&&Nat.beq a5 c5
 | .mv a,.mv c=>Nat.beq a c
 | .fn f a1 a2,.fn f' aS c2=>decide (f=f')&&AC.beqL a1 aS&&AC.beqL a2 c2
 | .agg l,.agg ak=>AC.beqL l ak
 | .tup l,.tup ak=>AC.beqL l ak
 |_,_=>false
def AC.beqL:List AC->List AC->Bool
 |[],[]=>true
 |a::l,p::ak=>AC.beq a p&&AC.beqL l ak
 |_,_=>false
end
def AC.atom:AC->Bool
 | .any| .on _ _| .gd _ _| .agg _| .tup _| .sel _ _=>false
 |_=>true
def AC.cellsOf:AC->Option (List AC)
 | .agg l=>if l.all AC.atom then some l else none
 |c=>if c.atom then some [c] else none
def jR:Value->AC
 | .bool b=> .cb b
 | .int k n=> .ci k n
 | .string s=> .cv (.str s)
 | .pointer none=> .cv .nilPtr
 | .slice none 0 0=> .cv .nilSlice
 | .nilFunc=> .cv .nilFunc
 | .nilIface=> .cv .nilIface
 | .map none=> .cv .nilMap
 | .agg _| .tuple _=> .any
 |_=> .anyc
def Ka:Value->AC
 | .agg aC=> .agg (aC.toList.map jR)
 |v=>jR v
def FJ (x t:Nat):Nat->Nat->List Kd->List AC × List Ex
 |_,_,[]=>([],[])
 |n,c,k::ks=>
  let (l,us):=FJ x t (n+1) (c+1) ks
  (MD k n::l,⟨W8 (kdC k)++toString c,TR (kdC k) c,[.e x,.e t]⟩::us)
def Cn (c:AC):Kd × Rf:=(Gq c).getD (.any,.c default)
def AC.isPtr:AC->Bool
 | .ptr .. | .pix .. | .rp .. | .mp .. | .fn .. =>true
 |_=>false
def mix (n:Nat)(b:Rf)(c d:AC):AC × List Ex:=
 if AC.beq c d then (c,[]) else
 match Gq c,Gq d with
 |some (k,r),some (k',r')=>
  if (Kd.join k k').isAny then (.anyc,[]) else (MD (Kd.join k k') n,[⟨ "if",oIf,[b,r,r']⟩])
 |_,_=>if c.atom&&d.atom then (.anyc,[]) else (.any,[])
def Xg (n:Nat)(b:Rf)(c d:AC):AC × List Ex:=
 if AC.beq c d then (c,[]) else
 if c.isPtr&& !d.isPtr then (.on n c,[⟨ "id",oId,[b]⟩]) else
 if d.isPtr&& !c.isPtr then (.on n d,[⟨ "not",XL,[b]⟩]) else
 mix n b c d
def RP (f:Nat->AC->AC->AC × List Ex)(n:Nat):List AC->List AC->List AC × List Ex
 |c::l,d::ak=>
  let (a,us):=f n c d;let (r,h):=RP f (n+us.length) l ak
  (a::r,us++h)
 |_,_=>([],[])
def O3 (n:Nat)(b:Rf)(c d:AC):AC × List Ex:=
 match c,d with
 | .agg l,.agg ak=>if l.length=ak.length then let (r,us):=RP (fun n=>mix n b) n l ak;(.agg r,us) else (.any,[])
 |c,d=>Xg n b c d
def Ha (n:Nat)(b:Rf)(c d:AC):AC × List Ex:=
 match c,d with
 | .tup l,.tup ak=>if l.length=ak.length then let (r,us):=RP (fun n=>O3 n b) n l ak;(.tup r,us) else (.any,[])
 |c,d=>O3 n b c d
def TL:List AC->Option (Kd × List Rf)
 |[]=>none
 |[c]=>(Gq c).map fun (k,r)=>(k,[r])
 |c::aC=>match Gq c,TL aC with
  |some (k,r),some (k',l)=>some (Kd.join k k',r::l)
  |_,_=>none
def AC.isFn:AC->Bool
 | .fn .. | .cv .nilFunc=>true
 |_=>false
def WK (l:List AC)(base B aO aG:Nat):Option (List AC):=
 (List.range aO).mapM fun j=>l[base+j*B+aG]?
def Lf (g:G)(m:Mem)(x:Nat)(aC:List AC)(ps:List Pr):Option R:=
 match TL aC with
 |some (k,ah)=>if k.isAny then none else some { c:=MD k g.n,m,us:=[⟨ "pick",V4,.e x::ah⟩],ps }
 |none=>if aC.all AC.isFn then some { c:= .sel x aC,m,ps } else none
def JC (x:Nat):Nat->List (List AC)->Option (List AC × List Ex)
 |_,[]=>some ([],[])
 |n,aC::r=>match TL aC with
  |some (k,ah)=>if k.isAny then none else (JC x (n+1) r).map fun (l,us)=>(MD k n::l,⟨ "pick",V4,.e x::ah⟩::us)
  |none=>none
def R4 (l:List AC)(base B aO aG size:Nat):Option (List (List AC)):=(List.range size).mapM fun c=>WK l base B aO (aG+c)
def GH (P:Program)(t:TypeId):Option (Nat × Bool):=
 match P.info? t,P.underlying t with
 |some i,some (.struct _)=>some (i.size,true)
 |some i,some (.array _ _)=>some (i.size,true)
 |some _,some _=>some (1,false)
 |_,_=>none
def HK (P:Program)(t:TypeId)(p:AC)(m:Mem)(g:G):Option R:=do
 let (size,agg) <-GH P t
 match p with
 | .ptr id off=>
  match m.at id with
  | .cells l _=>
   let aC:=(l.drop off).take size
   if aC.length=size then
    if agg then some { c:= .agg aC,m } else aC[0]?.map fun c=>{ c,m }
   else none
  |_=>none
 | .pix id base B aO x aG=>
  match m.at id with
  | .cells l _=>do
   if agg then
    let M<-R4 l base B aO aG size;let (ls,us) <-JC x g.n M
    some { c:= .agg ls,m,us }
   else
   let aC<-WK l base B aO aG
   Lf g m x aC []
  |_=>none
 | .rp x t off ks=>
  let aC:=(ks.drop off).take size
  if aC.length=size then
   let (l,us):=FJ x t g.n off aC
   if agg then some { c:= .agg l,m,us } else l[0]?.map fun c=>{ c,m,us }
  else none
 | .mp id y t sz off=>
  match m.at id with
  | .mrow x aF ks _=>
   let aC:=(ks.drop off).take size
   if (aF=y/\ks.length=sz)/\aC.length=size then
    let (l,us):=FJ x t g.n off aC
    if agg then some { c:= .agg l,m,us } else l[0]?.map fun c=>{ c,m,us }
   else none
  |_=>none
 |_=>none
def I6 (x:Nat)(c:AC)(base B aG:Nat)(h:List AC):Nat->Nat->Option (List AC × List Ex)
 |0,_=>some (h,[])
 |j+1,n=>do
  let (l,us) <-I6 x c base B aG h j n;let q<-h[base+j*B+aG]?;let e:Ex:=⟨ "eq",oEq,[.e x,.c (.int j)]⟩;let (d,z):=mix (n+us.length+1) (.e (n+us.length)) c q
  if d.atom then some (l.set (base+j*B+aG) d,us++(e::z)) else none
def Pf (ks:List Kd)(off:Nat)(l:List Kd):List Kd:=ks.take off++Kd.joins ((ks.drop off).take l.length) l++ks.drop (off+l.length)
def dx (P:Program)(t:TypeId)(p v:AC)(m:Mem)(g:G):Option R:=do
 let i<-P.info? t;let aC<-v.cellsOf
 if aC.length=i.size then
  match p with
  | .ptr id off=>
   match m.at id with
   | .cells l e=>if off+i.size<=l.length then some { c:= .any,m:=m.set id (.cells (l.take off++aC++l.drop (off+i.size)) e) } else none
   |_=>none
  | .pix id base B aO x aG=>
   match m.at id,aC with
   | .cells l e,[c]=>
    if B=0 then none else do
    let (l,us) <-I6 x c base B aG l aO g.n
    some { c:= .any,m:=m.set id (.cells l e),us }
   |_,_=>none
  | .mp id y t sz off=>
   match m.at id with
   | .mrow x aF ks e=>
    if (aF=y/\ks.length=sz)/\off+aC.length<=sz then
     some { c:= .any,m:=m.set id (.mrow g.n y (Pf ks off (aC.map fun c=>(Cn c).1)) e),us:=[⟨ "rset " ++toString off,jS off,.e x:: .e t::aC.map fun c=>(Cn c).2⟩] }
    else none
   |_=>none
  |_=>none
 else none
def Sv (l:List AC)(e:TypeId)(m:Mem):R:={ c:= .ptr m.length 0,m:=m++[.cells l e] }
def J3 (P:Program)(t:TypeId)(m:Mem):Option R:=do
 let i<-P.info? t;let z<-i.zero;let l<-(Ka z).cellsOf
 some (Sv l t m)
def rX (t:TypeId)(v:AC)(m:Mem):Option R:=do
 let l<-v.cellsOf
 some (Sv l t m)
def QN (h:Nat->Option (Nat × Nat))(cells:List AC):List (Nat × AC)->Option (List AC)
 |[]=>some cells
 |(i,v)::rest=>do
  let (off,size) <-h i;let aC<-v.cellsOf
  if aC.length=size/\off+size<=cells.length then QN h (cells.take off++aC++cells.drop (off+size)) rest else none
def VY (P:Program)(t:TypeId)(aV:List (Nat × AC))(m:Mem):Option R:=do
 let i<-P.info? t;let z<-i.zero;let l<-(Ka z).cellsOf
 match P.underlying t with
 |some (.array _ e)=>do
  let h<-P.info? e;let l<-QN (fun i=>some (i*h.size,h.size)) l aV
  some { c:= .agg l,m }
 |some (.struct fields)=>do
  let q<-fields.toList.mapM (fun f=>(P.info? f.type).map fun i=>(f.offset,i.size));let l<-QN (q.toArray[·]?) l aV
  some { c:= .agg l,m }
 |_=>none
def H7 (P:Program)(s:TypeId)(p:AC)(f:Nat)(m:Mem):Option R:=do
 match P.underlying s with
 |some (.struct fields)=>do
  let h<-fields[f]?;let i<-P.info? h.type
  if i.size=0 then none else
  match p with
  | .ptr id off=>some { c:= .ptr id (off+h.offset),m }
  | .pix id base B aO x aG=>some { c:= .pix id base B aO x (aG+h.offset),m }
  | .rp x t off ks=>some { c:= .rp x t (off+h.offset) ks,m }
  | .mp id y t sz off=>some { c:= .mp id y t sz (off+h.offset),m }
  |_=>none
 |_=>none
def TC (g:G)(am:AC):Option (Nat × List Ex):=
 match am with
 | .i _ _ _ x=>some (x,[])
 | .ci _ n=>some (g.n,[⟨ "id",oId,[.c (.int n)]⟩])
 |_=>none
def Dy (P:Program)(t:TypeId)(p am:AC)(m:Mem)(g:G):Option R:=do
 let (_,ar,ab,n) <-DV am
 match P.underlying t with
 |some (.array len e)=>do
  let i<-P.info? e
  if i.size=0 then none else
  if ar=ab then
   if 0<=ar/\ar < len then
    match p with
    | .ptr id off=>some { c:= .ptr id (off+ar.toNat*i.size),m }
    | .pix id base B aO x aG=>some { c:= .pix id base B aO x (aG+ar.toNat*i.size),m }
    | .rp x t off ks=>some { c:= .rp x t (off+ar.toNat*i.size) ks,m }
    | .mp id y t sz off=>some { c:= .mp id y t sz (off+ar.toNat*i.size),m }
    |_=>none
   else none
  else
   match p with
   | .ptr id off=>do
    let (x,us) <-TC g am
    some { c:= .pix id off i.size len x 0,m,us,ps:=if 0<=ar/\ab < len then [] else [⟨ "in",pIn,[n,.c (.int len)]⟩] }
   |_=>none
 |some (.slice e)=>do
  let i<-P.info? e
  if ar=ab/\0 < i.size then
   match p with
   | .asl id off len=>if 0<=ar/\ar < len then some { c:= .ptr id (off+ar.toNat*i.size),m } else none
   |_=>aIndexSl i.size p am n m g
  else aIndexSl i.size p am n m g
 |_=>none
where aIndexSl (size:Nat) (p am:AC) (n:Rf) (m:Mem) (g:G):Option R:=do
  let (x,us) <-TC g am
  match p with
  | .mr id y=>some { c:= .mp id y x size 0,m,us,ps:=[⟨ "in",pIn,[n,.e y]⟩] }
  | .ro y ks=>if size=ks.length then some { c:= .rp y x 0 ks,m,us,ps:=[⟨ "inl",XA,[n,.e y]⟩] } else none
  | .vec _ y ks=>if size=ks.length then some { c:= .rp y x 0 ks,m,us,ps:=[⟨ "inl",XA,[n,.e y]⟩] } else none
  |_=>none
def apart (P:Program)(t:TypeId)(l:List AC)(off:Nat):Option AC:=do
 let (size,agg) <-GH P t
 if agg then
  let aC:=(l.drop off).take size
  if aC.length=size then some (.agg aC) else none
 else l[off]?
def bX (P:Program)(s:TypeId)(x:AC)(f:Nat)(m:Mem):Option R:=
 match P.underlying s,x with
 |some (.struct fields),.agg l=>do
  let h<-fields[f]?;let c<-apart P h.type l h.offset
  some { c,m }
 |_,_=>none
def bp (P:Program)(t:TypeId)(x am:AC)(m:Mem)(g:G):Option R:=do
 let (_,ar,ab,n) <-DV am
 match P.underlying t,x with
 |some (.array len e),.agg l=>do
  let i<-P.info? e
  if ar=ab then
   if 0<=ar/\ar < len then do
    let c<-apart P e l (ar.toNat*i.size)
    some { c,m }
   else none
  else
   let (size,agg) <-GH P e
   if i.size=size then
    match am with
    | .i _ _ _ x=>do
     if agg then
      let M<-R4 l 0 size len 0 size;let (ls,us) <-JC x g.n M
      some { c:= .agg ls,m,us,ps:=if 0<=ar/\ab < len then [] else [⟨ "in",pIn,[n,.c (.int len)]⟩] }
     else
     let aC<-WK l 0 1 len 0
     Lf g m x aC (if 0<=ar/\ab < len then [] else [⟨ "in",pIn,[n,.c (.int len)]⟩])
    |_=>none
   else none
 |some .string,.s y=>some { c:= .i .u8 0 255 g.n,m,us:=[⟨ "sat",tx,[.e y,n]⟩],ps:=[⟨ "ins",kN,[.e y,n]⟩] }
 |_,_=>none
def P1 (x:AC)(i:Nat)(m:Mem):Option R:=
 match x with
 | .tup l=>l[i]?.map fun c=>{ c,m }
 |_=>none
def Hk (x:AC)(m:Mem):Option R:=
 match x with
 | .on c (.ptr id off)=>some { c:= .ptr id off,m,ps:=[⟨ "t",pT,[.e c]⟩] }
 | .on c (.rp x t off ks)=>some { c:= .rp x t off ks,m,ps:=[⟨ "t",pT,[.e c]⟩] }
 | .on c (.mp id y t sz off)=>some { c:= .mp id y t sz off,m,ps:=[⟨ "t",pT,[.e c]⟩] }
 | .ptr .. | .pix .. | .rp .. | .mp .. =>some { c:=x,m }
 | .fn (.func _) .. =>some { c:=x,m }
 |_=>none
def Ui (c:AC):Option (Option ByteArray × Rf):=
 match c with
 | .cv (.str s)=>if s.size<=65536 then some (some s,.c (.str s)) else none
 | .s x=>some (none,.e x)
 |_=>none
def ceq (c d:AC):Option (Option Bool × List Rf):=
 match DV c,DV d with
 |some (k,af,O,av),some (k',aj,C,aD)=>
  if k=k' then
   if AC.beq c d then some (some true,[])
   else if O < aj\/C < af then some (some false,[])
   else some (none,[av,aD])
  else none
 |_,_=>
  match KI c,KI d with
  |some (some x,_),some (some y,_)=>some (some (x==y),[])
  |some (_,av),some (_,aD)=>if AC.beq c d then some (some true,[]) else some (none,[av,aD])
  |_,_=>
   match Ui c,Ui d with
   |some (some x,_),some (some y,_)=>some (some (decide (x=y)),[])
   |some (_,av),some (_,aD)=>if AC.beq c d then some (some true,[]) else some (none,[av,aD])
   |_,_=>none
def aQ:List AC->List AC->Option (Option Bool × List Rf)
 |[],[]=>some (some true,[])
 |c::l,d::ak=>do
  let (k,r) <-ceq c d;let (k',r') <-aQ l ak
  match k,k' with
  |some false,_=>some (some false,[])
  |_,some false=>some (some false,[])
  |some true,k'=>some (k',r')
  |none,some true=>some (none,r)
  |none,none=>some (none,r++r')
 |_,_=>none
inductive Ek where
 |int|bool|str
 deriving DecidableEq
def H5 (P:Program)(h:TypeId->Option (List Ek)):List Field->Nat->Option (List Ek)
 |[],_=>some []
 |f::fs,off=>do
  if f.offset=off/\f.name≠ "_" then
   let ks<-h f.type
   if P.cellsOf f.type=ks.length then
    let r<-H5 P h fs (off+ks.length)
    some (ks++r)
   else none
  else none
def C3 (P:Program):Nat->TypeId->Option (List Ek)
 |0,_=>none
 |d+1,t=>
  match P.underlying t with
  |some .bool=>some [.bool]
  |some (.int _)=>some [.int]
  |some .string=>some [.str]
  |some (.struct fs)=>if P.stoodInHeld t then none else H5 P (C3 P d) fs.toList 0
  |some (.array n e)=>do
   let ks<-C3 P d e
   if P.cellsOf e=ks.length then some (List.replicate n ks).flatten else none
  |_=>none
def ekOk (k:Ek)(c:AC):Bool:=
 match k with
 | .int=>(DV c).isSome
 | .bool=>(KI c).isSome
 | .str=>(Ui c).isSome
def S8:List Ek->List AC->Bool
 |[],[]=>true
 |k::ks,c::l=>ekOk k c&&S8 ks l
 |_,_=>false
def DI (P:Program)(t:TypeId):Bool:=
 match P.underlying t with
 |some (.struct _)|some (.array _ _)=>true
 |_=>false
def aEq (P:Program)(neg:Bool)(t:TypeId)(x y:AC)(m:Mem)(g:G):Option R:=
 let h:Option (Option Bool × List Rf)->Option R:=fun o=>o.map fun (k,ah)=>if neg then mkB g m (k.map not) ⟨ "nes",j7,ah⟩ else mkB g m k ⟨ "eqs",lC,ah⟩
 match x,y with
 | .agg l,.agg ak=>
  match C3 P 12 t with
  |some ks=>if DI P t&&S8 ks l&& !P.eqGuardType P.depth t then h (aQ l ak) else none
  |none=>none
 | .cv .nilPtr,.cv .nilPtr=>match P.underlying t with
  |some (.pointer _)=>h (some (some true,[]))
  |_=>none
 | .ptr ..,.cv .nilPtr=>match P.underlying t with
  |some (.pointer _)=>h (some (some false,[]))
  |_=>none
 |_,_=>match P.underlying t with
  |some .bool=>if (KI x).isSome then (ceq x y).map fun (k,ah)=>if neg then mkB g m (k.map not) ⟨ "neb",tz,ah⟩ else mkB g m k ⟨ "eqb",qY,ah⟩ else none
  |some .string=>if (Ui x).isSome then h (ceq x y) else none
  |_=>none
def ec (P:Program)(op:BinOp)(t:TypeId)(x y:AC)(m:Mem)(g:G):Option R:=
 match DV x,DV y with
 |some (k,af,O,av),some (k',aj,C,aD)=>
  match Sa op k af O av aj C with
  |some (ar,ab,n)=>some (mkI g m k ar ab n)
  |none=>
  if k=k' then
   match Wg op k af O av aj C aD with
   |some ((ar,ab,n),ps)=>some (mkI g m k ar ab n ps)
   |none=>match rV op af O av aj C aD with
    |some (kn,b)=>some (mkB g m (if AC.beq x y then (match op with| .eql=>some true| .neq=>some false|_=>kn) else kn) b)
    |none=>none
  else none
 |_,_=>
  match op with
  | .eql=>aEq P false t x y m g
  | .neq=>aEq P true t x y m g
  |_=>none
def aUn (op:UnOp)(x:AC)(m:Mem)(g:G):Option R:=
 match op with
 | .not=>match x with
  | .cb p=>some { c:= .cb !p,m }
  | .b y=>some { c:= .nb y,m }
  | .nb y=>some { c:= .b y,m }
  |_=>none
 | .neg=>do
  let (k,ar,ab,n) <-DV x;let (ar,ab,n):=rng k (0 - ab) (0 - ar) ⟨ "neg",au,[n]⟩
  some (mkI g m k ar ab n)
 |_=>none
def Ut (P:Program)(h a1:TypeId)(x:AC)(m:Mem)(g:G):Option R:=
 match P.underlying h,P.underlying a1 with
 |some _,some (.int k)=>do
  let (_,ar,ab,n) <-DV x
  if k.min<=ar/\ab<=k.max then some (mkI g m k ar ab (.rf n))
  else some (mkI g m k k.min k.max (.ex ⟨FR k++ " id",LM k oId,[n]⟩))
 |_,_=>none
def Z4 (c a b:AC)(m:Mem)(g:G):Option R:=do
 match<-KI c with
 |(some true,_)=>some { c:=a,m }
 |(some false,_)=>some { c:=b,m }
 |(none,x)=>
  match KI a,KI b with
  |some (ka,y),some (kb,z)=>some (mkB g m none (if ka=some true then ⟨ "or",oOr,[x,z]⟩ else if kb=some false then ⟨ "and",R9,[x,y]⟩ else ⟨ "ifb",kE,[x,y,z]⟩))
  |_,_=>none
def sx (P:Program)(t:TypeId)(x:AC)(m:Mem)(g:G):Option R:=
 match P.underlying t with
 |some (.slice _)=>
  match x with
  | .cv .nilSlice=>some { c:= .ci .i64 0,m }
  | .mr _ y=>some { c:= .i .i64 0 BT y,m }
  | .asl _ _ len=>some { c:= .ci .i64 len,m }
  |_=>match Kg x with
   |some (_,r)=>some (mkI g m .i64 0 BT (.ex ⟨ "len",SQ,[r]⟩))
   |_=>none
 |some .string=>
  match x with
  | .cv (.str s)=>some { c:= .ci .i64 s.size,m }
  | .s y=>some (mkI g m .i64 0 BT (.ex ⟨ "slen",js,[.e y]⟩))
  |_=>none
 |some (.map _ _)=>
  match x with
  | .mv id=>match m.at id with
   | .mapb a0 _ _ _ _=>some (mkI g m .i64 0 BT (.ex ⟨ "len",SQ,[.e a0]⟩))
   |_=>none
  |_=>none
 |_=>none
def dt (h:Bool)(x y:AC)(m:Mem)(g:G):Option R:=do
 let (k,af,O,av) <-DV x;let (k',aj,C,aD) <-DV y
 if k=k' then
  if h then some (mkI g m k (max af aj) (max O C) (.ex (ex2 "max" XT av aD))) else some (mkI g m k (min af aj) (min O C) (.ex (ex2 "min" XD av aD)))
 else none
def Ff:List Nat->List Nat->Bool
 |[],[]=>true
 |a::l,b::ak=>Nat.beq a b&&Ff l ak
 |_,_=>false
def EC:List (List AC)->List Kd
 |[]=>[]
 |[l]=>l.map fun c=>(Cn c).1
 |l::ls=>Kd.joins (l.map fun c=>(Cn c).1) (EC ls)
def V0 (h:List (List AC)):List Rf:=(h.map fun l=>l.map fun c=>(Cn c).2).flatten
def EY (P:Program)(t:TypeId)(len:Nat)(aV:List (Nat × AC))(m:Mem)(g:G):Option R:=do
 match P.underlying t with
 |some (.slice e)=>do
  let i<-P.info? e;let z<-i.zero
  if Ff (aV.map (·.1)) (List.range len)=true/\0 < i.size/\0 < len/\len*i.size<=16777216 then
   let h<-aV.mapM fun (_,a)=>a.cellsOf
   if h.all (fun l=>decide (l.length=i.size)) then
    some { c:= .vec m.length g.n (EC h),m:=m++[.tok g.n (EC h) e],us:=[⟨ "row " ++toString i.size,aH len i.size,V0 h⟩] }
   else none
  else if len=0/\aV.length=0/\0 < i.size then do
   let l<-(Ka z).cellsOf
   if l.length=i.size then some { c:= .vec m.length g.n (l.map fun c=>(Cn c).1),m:=m++[.tok g.n (l.map fun c=>(Cn c).1) e],us:=[⟨ "id",oId,[.c (.list [])]⟩] } else none
  else none
 |_=>none
def PH (P:Program)(t:TypeId)(len:Nat)(aV:List (Nat × AC))(m:Mem):Option R:=do
 match P.underlying t with
 |some (.slice e)=>do
  let i<-P.info? e;let _<-i.zero
  if Ff (aV.map (·.1)) (List.range len)=true/\0 < i.size/\0 < len/\len*i.size<=16777216 then
   let h<-aV.mapM fun (_,a)=>a.cellsOf
   if h.all (fun l=>decide (l.length=i.size)) then
    some { c:= .asl m.length 0 len,m:=m++[.cells h.flatten e] }
   else none
  else none
 |_=>none
def Kt (P:Program)(t:TypeId)(len:Nat)(aV:List (Nat × AC))(m:Mem)(g:G):Option R:=do
 let r<-EY P t len aV m g
 match r.c with
 | .vec _ x ks=>some { r with c:= .ro x ks,m:=m++[.gone] }
 |_=>none
def Ib:List Kd->List Kd->List Kd
 |[],ks=>ks
 |ks,[]=>ks
 |ks,X=>Kd.joins ks X
def jv (P:Program)(au:Array TypeId)(s:AC)(E:List Kd)(aJ:Rf)(m:Mem)(g:G):Option R:=do
 let t<-au[0]?
 match P.underlying t with
 |some (.slice e)=>do
  let i<-P.info? e;let z<-i.zero;let (k1,aB) <-Kg s;let ks:=Ib k1 E;let ps:List Pr:=[⟨ "fits " ++toString i.bytes,Io i.bytes,[aB,aJ]⟩]
  if Ff au.toList [t,t]=true/\0 < i.size/\0 < i.bytes/\E.length=i.size/\ks.length=i.size/\z.cells.size=i.size then
   match s with
   | .cv .nilSlice=>some { c:= .vec m.length g.n ks,m:=m++[.tok g.n ks e],us:=[⟨ "app",UT,[aB,aJ]⟩],ps }
   | .vec id y k1=>
    match m.at id with
    | .tok aF k1' e'=>if y=aF/\e=e'/\k1.length=i.size/\Kd.beqs k1 k1'=true then some { c:= .vec id g.n ks,m:=m.set id (.tok g.n ks e),us:=[⟨ "app",UT,[aB,aJ]⟩],ps } else none
    |_=>none
   |_=>none
  else none
 |_=>none
def Z2 (P:Program)(au:Array TypeId)(id y:Nat)(E:List Kd)(aJ:Rf)(m:Mem)(g:G):Option R:=do
 let t<-au[0]?
 match P.underlying t with
 |some (.slice e)=>do
  let i<-P.info? e;let z<-i.zero
  match m.at id with
  | .mrow x aF k1 e'=>
   let ks:=Ib k1 E
   if (y=aF/\e=e')/\Ff au.toList [t,t]=true/\0 < i.size/\0 < i.bytes/\E.length=i.size/\k1.length=i.size/\z.cells.size=i.size then
    some { c:= .mr id (g.n+1),m:=m.set id (.mrow g.n (g.n+1) ks e),us:=[⟨ "app",UT,[.e x,aJ]⟩,⟨ "len",SQ,[.e g.n]⟩],ps:=[⟨ "fits " ++toString i.bytes,Io i.bytes,[.e x,aJ]⟩] }
   else none
  |_=>none
 |_=>none
def Dm (s:Nat):Nat->List AC->List (List AC)
 |0,_=>[]
 |k+1,l=>l.take s::Dm s k (l.drop s)
def Ul (P:Program)(au:Array TypeId)(s x:AC)(m:Mem)(g:G):Option R:=
 match x with
 | .asl id off len=>
  match m.at id with
  | .cells l _=>do
   let t<-au[0]?
   match P.underlying t with
   |some (.slice e)=>do
    let i<-P.info? e;let h:=Dm i.size len (l.drop off)
    if off+len*i.size<=l.length/\0 < i.size/\0 < len/\len<=65536/\(h.all fun l=>l.all AC.atom)=true then do
     let r<-jv P au s (EC h) (.e g.n) m { g with n:=g.n+1 }
     some { r with us:=⟨ "row " ++toString i.size,aH len i.size,V0 h⟩::r.us }
    else none
   |_=>none
  |_=>none
 | .rsv id y kr=>do
  let t<-au[0]?
  match P.underlying t,s,m.at id with
  |some (.slice e),.cv .nilSlice,.tok aF ky _=>do
   let i<-P.info? e;let z<-i.zero
   if Ff au.toList [t,t]=true/\0 < i.size/\0 < i.bytes/\i.bytes<=1024/\y=aF/\ky.length=i.size/\kr.length=i.size/\z.cells.size=i.size then
    some { c:= .rsv m.length g.n kr,m:=m++[.tok g.n kr e],us:=[⟨ "id",oId,[.c (.list [])]⟩] }
   else none
  |_,_,_=>none
 |x=>match DV x with
  |some (_,_,_,rn)=>do
   let t<-au[0]?;let q<-au[1]?
   match P.underlying t,P.underlying q,s with
   |some (.slice e),some (.int _),.cv .nilSlice=>do
    let i<-P.info? e;let z<-i.zero;let l<-(Ka z).cellsOf;let ks:=l.map fun c=>(Cn c).1
    if Ff au.toList [t,q]=true/\0 < i.size/\ks.length=i.size/\z.cells.size=i.size/\i.bytes<=1024 then
     some { c:= .rsv m.length g.n ks,m:=m++[.tok g.n ks e],us:=[⟨ "id",oId,[.c (.list [])]⟩],ps:=[⟨ "between 0 68719476736",FH 0 68719476736,[rn]⟩] }
    else none
   |_,_,_=>none
  |none=>do
   let (E,aJ) <-Kg x
   jv P au s E aJ m g
def XI (P:Program)(au:Array TypeId)(s x:AC)(m:Mem)(g:G):Option R:=
 match s with
 | .mr id y=>do
  let (E,aJ) <-Kg x
  Z2 P au id y E aJ m g
 |s=>Ul P au s x m g
def Li (P:Program)(t:TypeId)(x:AC)(ar ab:Option AC)(m:Mem)(g:G):Option R:=
 match P.underlying t with
 |some (.array n e)=>
  match x,ar,ab with
  | .ptr id off,none,none=>if (P.info? e).isSome then some { c:= .asl id off n,m } else none
  |_,_,_=>none
 |some (.slice e)=>do
  let i<-P.info? e
  match x,ar,ab with
  | .cv .nilSlice,none,some (.ci _ n)=>if n=0 then some { c:= .cv .nilSlice,m } else none
  | .rsv id y ks,none,some (.ci _ n)=>if n=0 then some { c:= .vec id y ks,m } else none
  |x,ar,ab=>do
   let (ks,r) <-Kg x
   if i.size=ks.length/\0 < i.size then
    match ar,ab with
    |none,some b=>do
     let (_,_,_,rb) <-DV b
     some { c:= .ro g.n ks,m,us:=[⟨ "take",P0,[r,rb]⟩],ps:=[⟨ "take",ML,[r,rb]⟩] }
    |some a,none=>do
     let (_,_,_,ra) <-DV a
     some { c:= .ro g.n ks,m,us:=[⟨ "drop",lO,[r,ra]⟩],ps:=[⟨ "take",ML,[r,ra]⟩] }
    |some a,some b=>do
     let (_,_,_,ra) <-DV a;let (_,_,_,rb) <-DV b
     some { c:= .ro g.n ks,m,us:=[⟨ "cut",rU,[r,ra,rb]⟩],ps:=[⟨ "cut",sT,[r,ra,rb]⟩] }
    |none,none=>none
   else none
 |_=>none
def Xh (P:Program)(t:TypeId)(x:AC)(ar:Option AC)(ab a0:AC)(m:Mem)(g:G):Option R:=
 match P.underlying t,ar with
 |some (.slice e),none=>do
  let i<-P.info? e;let (_,_,_,rb) <-DV ab
  if AC.beq ab a0 then
   match x,ab with
   | .cv .nilSlice,.ci _ n=>if n=0 then some { c:= .cv .nilSlice,m } else none
   |x,_=>do
    let (ks,r) <-Kg x
    if i.size=ks.length/\0 < i.size then
     match x with
     | .vec id y _=>match m.at id with
      | .tok aF ks2 e'=>if (y=aF/\e=e')/\Kd.beqs ks ks2=true then some { c:= .vec id g.n ks,m:=m.set id (.tok g.n ks e),us:=[⟨ "take",P0,[r,rb]⟩],ps:=[⟨ "take",ML,[r,rb]⟩] } else none
      |_=>none
     |_=>some { c:= .vec m.length g.n ks,m:=m++[.tok g.n ks e],us:=[⟨ "take",P0,[r,rb]⟩],ps:=[⟨ "take",ML,[r,rb]⟩] }
    else none
  else none
 |_,_=>none
def UR (P:Program)(t:TypeId)(len I:AC)(m:Mem)(g:G):Option R:=
 match P.underlying t with
 |some (.slice e)=>do
  let i<-P.info? e;let z<-i.zero;let (k,_,_,r) <-DV len;let l<-(Ka z).cellsOf;let ks:=l.map fun c=>(Cn c).1
  if AC.beq len I=true/\k= .i64/\0 < i.size/\ks.length=i.size/\z.cells.size=i.size/\i.bytes<=1024 then
   some { c:= .mr m.length (g.n+1),m:=m++[.mrow g.n (g.n+1) ks e],us:=[⟨ "rep",so,r::l.map fun c=>(Cn c).2⟩,⟨ "id",oId,[r]⟩],ps:=[⟨ "between 0 68719476736",FH 0 68719476736,[r]⟩] }
  else none
 |_=>none
def PV (P:Program)(e:TypeId):Option (List Kd):=do
 let i<-P.info? e;let z<-i.zero;let l<-(Ka z).cellsOf
 if l.length=i.size/\0 < i.size then some (l.map fun c=>(Cn c).1) else none
def Js (ks:List Kd)(e:TypeId)(m:Mem)(g:G):R:={ c:= .mr m.length (g.n+1),m:=m++[.mrow g.n (g.n+1) ks e],us:=[⟨ "id",oId,[.c (.list [])]⟩,⟨ "id",oId,[.c (.int 0)]⟩] }
def J8 (P:Program)(t:TypeId)(len h:Nat)(m:Mem)(g:G):Option R:=
 match P.underlying t with
 |some (.slice e)=>if len=0/\h=0 then (PV P e).map fun ks=>Js ks e m g else none
 |_=>none
def Q4 (P:Program)(t:TypeId)(x:AC)(ar:Option AC)(ab a0:AC)(m:Mem)(g:G):Option R:=
 match P.underlying t,ar,ab with
 |some (.slice e),none,.ci _ n=>if AC.beq ab a0=true/\n=0/\(Kg x).isSome=true then (PV P e).map fun ks=>Js ks e m g else none
 |_,_,_=>none
def NX (P:Program)(au:Array TypeId)(s x:AC)(m:Mem)(g:G):Option R:=do
 let t<-au[0]?
 match s,P.underlying t with
 | .cv .nilSlice,some (.slice e)=>do
  let ks<-PV P e;let (E,aJ) <-Kg x;let r:=Js ks e m g;let aJ<-Z2 P au m.length (g.n+1) E aJ r.m { g with n:=g.n+2 }
  some { aJ with us:=r.us++aJ.us }
 |_,_=>none
def RT (P:Program)(t:TypeId)(len I:AC)(m:Mem)(g:G):Option R:=
 match P.underlying t with
 |some (.slice e)=>do
  let i<-P.info? e;let z<-i.zero;let (k,_,_,r) <-DV len;let l<-(Ka z).cellsOf;let ks:=l.map fun c=>(Cn c).1
  if AC.beq len I=true/\k= .i64/\0 < i.size/\ks.length=i.size/\z.cells.size=i.size/\i.bytes<=1024 then
   some { c:= .rsv m.length g.n ks,m:=m++[.tok g.n ks e],us:=[⟨ "id",oId,[.c (.list [])]⟩],ps:=[⟨ "between 0 68719476736",FH 0 68719476736,[r]⟩] }
  else none
 |_=>none
def TA (h:Bool):AC->List AC->Mem->G->Option R
 |x,[],m,_=>some { c:=x,m }
 |x,y::l,m,g=>do
  let r<-dt h x y m g;let aJ<-TA h r.c l m { g with n:=g.n+r.us.length }
  some { c:=aJ.c,m,us:=r.us++aJ.us }
def Kf (P:Program)(b:Builtin)(au:Array TypeId)(args:List AC)(m:Mem)(g:G):Option R:=
 match b,args with
 | .len,[x]=>do
  let t<-au[0]?
  sx P t x m g
 | .min,[x,y]=>dt false x y m g
 | .max,[x,y]=>dt true x y m g
 | .append,[s,x]=>XI P au s x m g
 | .min,x::y::z::l=>TA false x (y::z::l) m g
 | .max,x::y::z::l=>TA true x (y::z::l) m g
 | .cap,[.cv .nilSlice]=>do
  let t<-au[0]?
  match P.underlying t with
  |some (.slice _)=>some { c:= .ci .i64 0,m }
  |_=>none
 |_,_=>none
def fit (k:Kd)(c:AC):Option (Rf × List Pr):=
 match k,Gq c with
 | .int k ar ab,some (.int k' lo' hi',r)=>if k=k' then some (r,if ar<=lo'/\hi'<=ab then [] else [⟨ "between " ++toString ar++ " " ++toString ab,FH ar ab,[r]⟩]) else none
 |k,some (k',r)=>if Kd.beq (Kd.join k' k) k&& !k.isAny then some (r,[]) else none
 |_,_=>none
def NL:Kd->Option Ek
 | .int _ _ _=>some .int
 | .bool=>some .bool
 | .str=>some .str
 |_=>none
def bM (P:Program):Nat->TypeId->Option (List Kd)
 |0,_=>none
 |d+1,t=>
  match P.underlying t with
  |some .bool=>some [.bool]
  |some (.int k)=>some [.int k k.min k.max]
  |some .string=>some [.str]
  |some (.struct fs)=>(fs.toList.mapM fun f=>bM P d f.type).map List.flatten
  |some (.array n e)=>(bM P d e).map fun ks=>(List.replicate n ks).flatten
  |some (.slice e)=>(bM P d e).map fun ks=>[.list ks]
  |_=>none
def K6:Bool->AC->Option (List AC)
 |true,.agg l=>some l
 |true,_=>none
 |false,.agg _=>none
 |false,.tup _=>none
 |false,c=>some [c]
def PD:List Kd->List AC->Option (List Rf × List Pr)
 |[],[]=>some ([],[])
 |k::ks,c::l=>do
  let (r,ps) <-fit k c;let (ah,qs) <-PD ks l
  some (r::ah,ps++qs)
 |_,_=>none
def Qs (P:Program)(h:TypeId)(al:List Kd)(q:Bool):Bool:=
 (DI P h==q)&&(match C3 P 12 h with|some ks=>decide (al.map NL=ks.map some)|none=>false)
def Ue (P:Program)(t:TypeId)(m:Mem)(g:G):Option R:=
 match P.underlying t with
 |some (.map kt et)=>do
  let al<-bM P 6 kt;let aM<-bM P 6 et
  some { c:= .mv m.length,m:=m++[.mapb g.n al (DI P kt) aM (DI P et)],us:=[⟨ "id",oId,[.c (.list [])]⟩] }
 |_=>none
def Iq (x G:Nat)(ah:List Rf):Nat->Nat->List Kd->List Rf->List AC × List Ex
 |n,c,k::ks,z::D=>
  let (l,us):=Iq x G ah (n+1) (c+1) ks D
  (MD k n::l,⟨ "m" ++W8 (kdC k)++toString G++ " " ++toString c,qE (kdC k) G c,.e x::z::ah⟩::us)
 |_,_,_,_=>([],[])
def Xu (P:Program)(t:TypeId)(x am:AC)(ok:Bool)(m:Mem)(g:G):Option R:=
 match P.underlying t,x with
 |some (.map kt et),.mv id=>
  match m.at id with
  | .mapb a0 al ka aM aT=>
   if Qs P kt al ka then do
    let h<-K6 ka am;let (ah,ps) <-PD al h;let i<-P.info? et;let z<-i.zero;let q<-K6 aT (Ka z);let (D,qs) <-PD aM q
    if qs.isEmpty then
     let (l,us):=Iq a0 al.length ah g.n 0 aM D;let v:=if aT then AC.agg l else l.headD .any
     if ok then some { c:= .tup [v,.b (g.n+us.length)],m,us:=us++[⟨ "mhas " ++toString al.length,lN al.length,.e a0::ah⟩],ps }
     else some { c:=v,m,us,ps }
    else none
   else none
  |_=>none
 |_,_=>none
def QM (P:Program)(t:TypeId)(x am v:AC)(m:Mem)(g:G):Option R:=
 match P.underlying t,x with
 |some (.map kt _),.mv id=>
  match m.at id with
  | .mapb a0 al ka aM aT=>
   if Qs P kt al ka then do
    let h<-K6 ka am;let (ah,ps) <-PD al h;let q<-K6 aT v;let (Y,qs) <-PD aM q
    some { c:= .any,m:=m.set id (.mapb g.n al ka aM aT),us:=[⟨ "mset " ++toString al.length,kX al.length,.e a0::(ah++Y)⟩],ps:=ps++qs++[⟨ "fits 1",Io 1,[.e a0,.c (.list [[]])]⟩] }
   else none
  |_=>none
 |_,_=>none
def aOp (P:Program)(aE:Operand->AC)(op:Op)(m:Mem)(g:G):Option R:=
 match op with
 | .move x| .assign x=>some { c:=aE x,m }
 | .pick c a b=>Z4 (aE c) (aE a) (aE b) m g
 | .alloc t=>J3 P t m
 | .box t x=>rX t (aE x) m
 | .build t aV=>VY P t (aV.toList.map fun (i,x)=>(i,aE x)) m
 | .buildSlice t len aV=>EY P t len (aV.toList.map fun (i,x)=>(i,aE x)) m g
 | .load t a=>HK P t (aE a) m g
 | .store t a x=>dx P t (aE a) (aE x) m g
 | .nilCheck x=>Hk (aE x) m
 | .binOp op t x y _=>ec P op t (aE x) (aE y) m g
 | .unOp op _ x=>aUn op (aE x) m g
 | .convert s d x=>Ut P s d (aE x) m g
 | .makeFunc aA first I=>some { c:= .fn aA (first.toList.map aE) (I.toList.map aE),m }
 | .fieldAddr t x f=>H7 P t (aE x) f m
 | .field t x f=>bX P t (aE x) f m
 | .indexAddr t x i=>Dy P t (aE x) (aE i) m g
 | .index t x i=>bp P t (aE x) (aE i) m g
 | .extract x i=>P1 (aE x) i m
 | .slice t x ar ab none=>Li P t (aE x) (ar.map aE) (ab.map aE) m g
 | .slice t x ar (some ab) (some a0)=>Xh P t (aE x) (ar.map aE) (aE ab) (aE a0) m g
 | .makeSlice t n c=>RT P t (aE n) (aE c) m g
 | .makeMap t none=>Ue P t m g
 | .lookup t x am ok=>Xu P t (aE x) (aE am) ok m g
 | .mapUpdate t x am v=>QM P t (aE x) (aE am) (aE v) m g
 | .call { callee:= .builtin b,args,argTypes }=>Kf P b argTypes (args.toList.map aE) m g
 |_=>none
def FL (k:Nat)(P:Program)(aE:Operand->AC)(op:Op)(m:Mem)(g:G):Option R:=
 match k with
 |0=>aOp P aE op m g
 |1=>match op with
  | .makeSlice t n c=>UR P t (aE n) (aE c) m g
  | .buildSlice t len aV=>J8 P t len aV.size m g
  | .slice t x ar (some ab) (some a0)=>Q4 P t (aE x) (ar.map aE) (aE ab) (aE a0) m g
  | .call { callee:= .builtin .append,args,argTypes }=>match args.toList.map aE with
   |[s,x]=>NX P argTypes s x m g
   |_=>none
  |_=>none
 |_=>match op with
  | .buildSlice t len aV=>if k=3 then Kt P t len (aV.toList.map fun (i,x)=>(i,aE x)) m g else PH P t len (aV.toList.map fun (i,x)=>(i,aE x)) m
  |op=>aOp P aE op m g
end
section
open Go Go.RowKit
mutual
theorem AC.beq_eq:∀(c d:AC),AC.beq c d=true->c=d
 | .any,d,h=>by cases d<;>simp_all [AC.beq]
 | .anyc,d,h=>by cases d<;>simp_all [AC.beq]
 | .on c a,d,h=>by
  cases d<;>simp[AC.beq] at h;rw[h.1,AC.beq_eq a _ h.2]
 | .gd c a,d,h=>by
  cases d<;>simp[AC.beq] at h;rw[h.1,AC.beq_eq a _ h.2]
 | .cb a,d,h=>by cases d<;>simp_all [AC.beq]
 | .b a,d,h=>by cases d<;>simp_all [AC.beq]
 | .nb a,d,h=>by cases d<;>simp_all [AC.beq]
 | .ci k n,d,h=>by cases d<;>simp_all [AC.beq]
 | .i k ar ab x,d,h=>by cases d<;>simp_all [AC.beq]
 | .cv a,d,h=>by cases d<;>simp_all [AC.beq]
 | .v a,d,h=>by cases d<;>simp_all [AC.beq]
 | .s a,d,h=>by cases d<;>simp_all [AC.beq]
 | .ptr _ _,d,h=>by cases d<;>simp_all [AC.beq]
 | .pix _ _ _ _ _ _,d,h=>by cases d<;>simp_all [AC.beq]
 | .ro x ks,d,h=>by
  cases d<;>simp[AC.beq] at h;rw[h.1,Kd.beqs_eq ks _ h.2]
 | .rp _ _ _ ks,d,h=>by
  cases d<;>simp[AC.beq] at h;rw[h.1.1.1,h.1.1.2,h.1.2,Kd.beqs_eq ks _ h.2]
 | .vec _ _ ks,d,h=>by
  cases d<;>simp[AC.beq] at h;rw[h.1.1,h.1.2,Kd.beqs_eq ks _ h.2]
 | .fn f a1 a2,d,h=>by
  cases d<;>simp[AC.beq] at h;rw[h.1.1,AC.beqL_eq a1 _ h.1.2,AC.beqL_eq a2 _ h.2]
 | .sel x l,d,h=>by
  cases d<;>simp[AC.beq] at h;rw[h.1,AC.beqL_eq l _ h.2]
 | .yl x,d,h=>by cases d<;>simp_all [AC.beq]
 | .asl a1 a2 a3,d,h=>by cases d<;>simp_all [AC.beq]
 | .rsv a1 a2 ks,d,h=>by
  cases d<;>simp[AC.beq] at h;rw[h.1.1,h.1.2,Kd.beqs_eq ks _ h.2]
 | .mr a1 a2,d,h=>by cases d<;>simp_all [AC.beq]
 | .mp a1 a2 a3 a4 a5,d,h=>by cases d<;>simp_all [AC.beq]
 | .mv a1,d,h=>by cases d<;>simp_all [AC.beq]
 | .agg l,d,h=>by
  cases d<;>simp[AC.beq] at h;rw[AC.beqL_eq l _ h]
 | .tup l,d,h=>by
  cases d<;>simp[AC.beq] at h;rw[AC.beqL_eq l _ h]
theorem AC.beqL_eq:∀(l ak:List AC),AC.beqL l ak=true->l=ak
 |[],ak,h=>by cases ak<;>simp_all [AC.beqL]
 |a::l,ak,h=>by
  cases ak<;>simp[AC.beqL] at h;rw[AC.beq_eq a _ h.1,AC.beqL_eq l _ h.2]
end
section
variable {T:Tab}{n ap:Nat}{W :Nat->Option Nat}{m:Mem}{w:World}
theorem BX.mono {ap:Nat}(D:BX T n W m w)(z:n<=ap):BX T ap W m w where
 blk:=fun id=>by
  have h:=D.blk id;cases E:m.at id with
  |pad=>trivial
  |gone=>trivial
  |cells l e=>
   rw[E] at h;obtain⟨b,Y,O,C,J⟩:=h;exact⟨b,Y,O,C,BR.mono (BY.refl T n W m w) D z l Y J⟩
  |tok x ks e=>
   rw[E] at h;exact⟨AH h.1 z,h.2⟩
  |mrow x y ks e=>
   rw[E] at h;exact⟨⟨AH h.1.1 z,AH h.1.2 z⟩,h.2⟩
  |mapb x al ka aM aT=>
   rw[E] at h;exact⟨AH h.1 z,h.2⟩
  |lp x st=>
   rw[E] at h;obtain⟨b,q,O,C,J,K,V,h9,h6,j,h7,h8⟩:=h;exact⟨b,q,O,C,J,K,V,h9,fun i c hc=>BQ.mono (BY.refl T n W m w) D z _ _ (h6 i c hc),j,BQ.mono (BY.refl T n W m w) D z _ _ h7,h8⟩
 inj:=D.inj
 fr:=D.fr
variable{c d:AC}{v:Value}{l:List AC}{k:Kd}{r A:Rf}{b:Bool}{n0:Nat}
theorem BQ.up0 {ap:Nat}(q:n<=ap)(h:BQ T n W m w c v):BQ T ap W m w c v:=
 BQ.mono0 (BY.refl T n W m w) q c v h
theorem BQ.up {ap:Nat}(q:BX T n W m w)(z:n<=ap)(h:BQ T n W m w c v):BQ T ap W m w c v:=
 BQ.mono (BY.refl T n W m w) q z c v h
theorem BR.up {ap:Nat}(q:BX T n W m w)(z:n<=ap){c:List AC}{v:List Value}(h:BR T n W m w c v):BR T ap W m w c v:=
 BR.mono (BY.refl T n W m w) q z c v h
theorem CV.one (c:CV):c.value.oneCell'=true:=by cases c<;>rfl
theorem Iu (q:c.atom=true)(h:BQ T n W m w c v):v.oneCell'=true:=by
 cases c<;>simp[AC.atom] at q
 case anyc=>exact h
 case cb=>rw[show v=_ from h];rfl
 case b=>obtain⟨_,b,_,h⟩:=h;rw[h];rfl
 case nb=>obtain⟨_,b,_,h⟩:=h;rw[h];rfl
 case ci=>rw[show v=_ from h];rfl
 case i=>obtain⟨_,i,_,h,_⟩:=h;rw[h];rfl
 case cv c=>rw[show v=_ from h];exact c.one
 case v=>exact h.2.2
 case s=>obtain⟨_,i,_,h,_⟩:=h;rw[h];rfl
 case ptr=>obtain⟨b,_,h,_⟩:=h;rw[h];rfl
 case pix=>obtain⟨_,b,j,_,_,_,_,h,_⟩:=h;rw[h];rfl
 case ro=>exact h.2.one
 case rp=>obtain⟨_,j,b,o,us,_,_,_,h,_⟩:=h;rw[h];rfl
 case vec=>exact h.2.2.1.one
 case fn=>obtain⟨_,_,h,_⟩:=h;rw[h];rfl
 case yl=>obtain⟨b,_,h,_⟩:=h;rw[h];rfl
 case asl=>obtain⟨b,_,h,_⟩:=h;rw[h];rfl
 case rsv=>obtain⟨_,_,_,⟨a,len,I,h⟩,_⟩:=h;rw[h];rfl
 case mr=>obtain⟨_,j,a,I,_,_,h,_⟩:=h;rw[h];rfl
 case mp=>obtain⟨_,j,L,b,_,_,_,h,_⟩:=h;rw[h];rfl
 case mv=>obtain⟨b,_,h,_⟩:=h;rw[h];rfl
theorem qC (h:v.oneCell'=true):v.cells= #[v]:=by
 cases v<;>simp[Value.oneCell'] at h<;>rfl
theorem BR.ones {Y:List Value}(z:l.all AC.atom=true)(h:BR T n W m w l Y):∀v∈Y,v.oneCell'=true:=by
 intro v D;obtain⟨i,ab⟩:=List.getElem?_of_mem D;have q:i < l.length:=by rw[<-h.length];exact (AG.1 ab).1
 obtain⟨u,O,C⟩:=h.get (AF q);rw[ab] at O;cases O;exact Iu (Ae.1 z _ (yM q)) C
theorem ET (z:c.cellsOf=some l)(h:BQ T n W m w c v):
  ∃Y,v.cells=(Y:List Value).toArray/\BR T n W m w l Y/\l.all AC.atom=true/\(∀u∈Y,u.oneCell'=true):=by
 have one:∀c:AC,c.atom=true->BQ T n W m w c v->∃Y,v.cells=(Y:List Value).toArray/\BR T n W m w [c] Y/\[c].all AC.atom=true/\(∀u∈Y,u.oneCell'=true):=by
  intro c q h;exact⟨[v],qC (Iu q h),⟨v,[],rfl,h,rfl⟩,by simp[q],by intro u D;simp at D;rw[D];exact Iu q h⟩
 cases c
 case agg ak=>
  simp only[AC.cellsOf] at z;split at z
  .rename_i q;cases z;obtain⟨Y,O,C⟩:=h;exact⟨Y,by rw[O];rfl,C,q,C.ones q⟩
  .cases z
 all_goals
  simp only[AC.cellsOf] at z;split at z
  .rename_i q;cases z;exact one _ q h
  .cases z
theorem dC (v:Value):BQ T n W m w (jR v) v:=by
 have one:∀u:Value,u.oneCell'=true->BQ T n W m w .anyc u:=fun _ h=>h;cases v with
 |pointer a=>cases a<;>first|exact rfl|exact one _ rfl
 |slice a l c=>
  cases a with
  |some a=>exact one _ rfl
  |none=>
   cases l with
   |succ l=>exact one _ rfl
   |zero=>cases c<;>first|exact rfl|exact one _ rfl
 |map r=>cases r<;>first|exact rfl|exact one _ rfl
 |agg _=>exact trivial
 |tuple _=>exact trivial
 |bool _=>exact rfl
 |int _ _=>exact rfl
 |string _=>exact rfl
 |nilFunc=>exact rfl
 |nilIface=>exact rfl
 |float _ _=>exact one _ rfl
 |complex _ _ _=>exact one _ rfl
 |chan _=>exact one _ rfl
 |func _ _ _=>exact one _ rfl
 |iface _ _=>exact one _ rfl
theorem M6 (v:Value):BQ T n W m w (Ka v) v:=by
 cases v
 case agg aC=>
  refine⟨aC.toList,by simp,BR.of_get (by simp) ?_⟩;intro i c u O C;simp only[Aj] at O;rw[C] at O;simp at O;subst O;exact dC u
 all_goals (unfold Ka;exact dC _)
theorem evc (T:Tab)(u:U):Rf.eval T (.c u)=u:=rfl
theorem eve (T:Tab)(x:Nat):Rf.eval T (.e x)=T x:=rfl
theorem evn (T:Tab)(x:Nat):Rf.eval T (.n x)= .bool (!(T x).toB):=rfl
theorem Ik (ok:Nat->Nat->Prop)(ks:List Kd):Bk ok w (.list ks) (.list []) (.slice none 0 0):=
 ⟨[],rfl,by simp,fun _=>rfl,none,0,rfl,AE _,fun h=>absurd h (by simp)⟩
theorem CV.kd {c:CV}(aa:Gq (.cv c)=some (k,r))(h:v=c.value)(ok:Nat->Nat->Prop):Bk ok w k (r.eval T) v:=by
 subst h;cases c
 case str s=>
  simp only[Gq] at aa;split at aa
  .rename_i q;cases aa;exact⟨s,rfl,rfl,AV q (by decide)⟩
  .cases aa
 all_goals simp only[Gq] at aa<;>cases aa
 case nilSlice=>exact Ik _ _
 all_goals exact⟨rfl,rfl⟩
theorem JQ (q:Gq c=some (k,r))(h:BQ T n W m w c v):Bk (Bt T W m w) w k (r.eval T) v:=by
 cases c
 case cv c=>exact CV.kd q h _
 all_goals simp only[Gq] at q<;>cases q
 case cb=>exact⟨_,rfl,h⟩
 case b=>obtain⟨_,i,O,C⟩:=h;exact⟨i,O,C⟩
 case nb=>obtain⟨_,i,O,C⟩:=h;exact⟨!i,by simp[Rf.eval,O,U.toB],C⟩
 case ci=>exact⟨_,rfl,h,Aw _,Aw _⟩
 case i=>obtain⟨_,i,O,C,z,D⟩:=h;exact⟨i,O,C,z,D⟩
 case v=>exact h.2
 case s=>obtain⟨_,i,O,C⟩:=h;exact⟨i,O,C⟩
 case ro=>exact h.2
 case vec=>exact h.2.2.1
theorem GQ {x:Nat}(q:x < n)(h:Bk (Bt T W m w) w k (T x) v):BQ T n W m w (MD k x) v:=by
 cases k with
 |int k ar ab=>
  obtain⟨i,O,C,z,D⟩:=h;simp only[MD];split
  .obtain rfl:i=ar:=by omega
   exact C
  .exact⟨q,i,O,C,z,D⟩
 |bool=>obtain⟨i,O,C⟩:=h;exact⟨q,i,O,C⟩
 |str=>obtain⟨i,O,C⟩:=h;exact⟨q,i,O,C⟩
 |val=>exact⟨q,h⟩
 |any=>exact h
 |list ks=>exact⟨q,h⟩
theorem Cw {k:IntKind}{ar ab:Int}(q:DV c=some (k,ar,ab,r))(h:BQ T n W m w c v):
  ∃i,v= .int k i/\r.eval T= .int i/\ar<=i/\i<=ab:=by
 cases c<;>simp only[DV] at q<;>cases q
 case ci=>exact⟨_,h,rfl,Aw _,Aw _⟩
 case i=>
  obtain⟨E,i,O,C,z,D⟩:=h;exact⟨i,C,O,z,D⟩
theorem FS {k:Option Bool}(z:KI c=some (k,r))(h:BQ T n W m w c v):
  ∃i,v= .bool i/\r.eval T= .bool i/\∀b,k=some b->i=b:=by
 cases c<;>simp only[KI] at z<;>cases z
 case cb=>exact⟨_,h,rfl,fun b q=>by cases q;rfl⟩
 case b=>
  obtain⟨D,i,O,C⟩:=h;exact⟨i,C,O,fun b q=>by cases q⟩
 case nb=>
  obtain⟨D,i,O,C⟩:=h;exact⟨!i,C,by simp[Rf.eval,O,U.toB],fun b q=>by cases q⟩
theorem HH {ks:List Kd}(q:Kg c=some (ks,r))(h:BQ T n W m w c v):
  Bk (Bt T W m w) w (.list ks) (r.eval T) v:=by
 cases c<;>simp only[Kg] at q
 case ro x ks=>cases q;exact h.2
 case vec id x ks=>cases q;exact h.2.2.1
 case cv c=>
  cases c<;>simp only at q<;>cases q;rw[show v=_ from h];exact Ik _ _
 all_goals cases q
theorem iX (q:c.atom=true)(h:BQ T n W m w c v):Bk (Bt T W m w) w (Cn c).1 ((Cn c).2.eval T) v:=by
 unfold Cn;cases aa:Gq c with
 |some z=>exact JQ aa h
 |none=>exact Iu q h
theorem NN (x t:Nat):∀(ks:List Kd) (n0 c:Nat),(FJ x t n0 c ks).1.length=ks.length/\(FJ x t n0 c ks).2.length=ks.length
 |[],_,_=>⟨rfl,rfl⟩
 |k::ks,n0,c=>by simp[FJ,NN x t ks (n0+1) (c+1)]
theorem Ph (a1:(A.eval T).toB=b)(K:n<=ap)
  (D:New T n0 (mix n0 A c d).2) (z:n0+(mix n0 A c d).2.length<=ap)
  (O:b=true->BQ T n W m w c v) (C:b=false->BQ T n W m w d v):BQ T ap W m w (mix n0 A c d).1 v:=by
 unfold mix at D z⊢;split
 .rename_i he;have:=AC.beq_eq _ _ he;subst this;cases b with
  |true=>exact (O rfl).up0 K
  |false=>exact (C rfl).up0 K
 .rename_i a0;simp only[a0] at D z;have aw:c.atom=true->d.atom=true->v.oneCell'=true:=fun V a2=>by
   cases b with
   |true=>exact Iu V (O rfl)
   |false=>exact Iu a2 (C rfl)
  split
  .rename_i k r k' r' E J;simp only[E,J] at D z;have one:v.oneCell'=true:=by
    cases b with
    |true=>exact (JQ E (O rfl)).one
    |false=>exact (JQ J (C rfl)).one
   split
   .exact one
   .rename_i q;simp only[q] at D z;refine GQ (by simp at z;omega) ?_;have e:=D.head;simp[Ex.eval,oIf,u0,u1,u2,a1] at e;rw[e];cases b with
    |true=>exact Bk.mono (fun _ _ h=>⟨h,rfl⟩) _ _ _ (Kd.join_l _ _ _ _ (JQ E (O rfl)))
    |false=>exact Bk.mono (fun _ _ h=>⟨h,rfl⟩) _ _ _ (Kd.join_r _ _ _ _ (JQ J (C rfl)))
  .rename_i a3;split
   .rename_i q;simp only[AB] at q;exact aw q.1 q.2
   .trivial
theorem uw (K:(A.eval T).toB=b)(D:n<=ap)
  (q:New T n0 (Xg n0 A c d).2) (h:n0+(Xg n0 A c d).2.length<=ap)
  (O:b=true->BQ T n W m w c v) (C:b=false->BQ T n W m w d v):BQ T ap W m w (Xg n0 A c d).1 v:=by
 unfold Xg at q h⊢;split
 .rename_i he;have:=AC.beq_eq _ _ he;subst this;cases b with
  |true=>exact (O rfl).up0 D
  |false=>exact (C rfl).up0 D
 .rename_i aw;simp only[aw] at q h;split
  .rename_i E;simp only[E,if_true] at q h;refine⟨by simp at h;omega,fun z=>?_⟩;have e:=q.head;simp[Ex.eval,oId,u0] at e;rw[e] at z;have V:b=true:=by rw[<-K,z];rfl
   exact (O V).up0 D
  .rename_i E;simp only[E] at q h;split
   .rename_i J;simp only[J,if_true] at q h;refine⟨by simp at h;omega,fun z=>?_⟩;have e:=q.head;simp[Ex.eval,XL,u0,K] at e;rw[e] at z;cases b<;>simp at z;exact (C rfl).up0 D
   .rename_i J;simp only[J] at q h;exact Ph K D q h O C
theorem TE {f:Nat->AC->AC->AC × List Ex}{b:Bool}:
  ∀{l ak:List AC} {Y:List Value} {n0:Nat},(∀n0 c d v,c∈l->d∈ak->New T n0 (f n0 c d).2->n0+(f n0 c d).2.length<=ap->(b=true->BQ T n W m w c v)->(b=false->BQ T n W m w d v)->BQ T ap W m w (f n0 c d).1 v)->
  l.length=ak.length->New T n0 (RP f n0 l ak).2->n0+(RP f n0 l ak).2.length<=ap->(b=true->BR T n W m w l Y)->(b=false->BR T n W m w ak Y)->
  BR T ap W m w (RP f n0 l ak).1 Y
 |[],[],Y,_,_,_,_,_,O,C=>by
  cases b with
  |true=>exact O rfl
  |false=>exact C rfl
 |[],_::_,_,_,_,h,_,_,_,_=>by simp at h
 |_::_,[],_,_,_,h,_,_,_,_=>by simp at h
 |c::l,d::ak,Y,n0,hf,hll,hnew,hl,O,C=>by
  simp only[RP] at hnew hl⊢;simp only[AP] at hl;have D:∃u us,Y=u::us/\(b=true->BQ T n W m w c u/\BR T n W m w l us)/\(b=false->BQ T n W m w d u/\BR T n W m w ak us):=by
   cases b with
   |true=>obtain⟨u,us,e,q,E⟩:=O rfl;exact⟨u,us,e,fun _=>⟨q,E⟩,(fun h=>by cases h)⟩
   |false=>obtain⟨u,us,e,q,E⟩:=C rfl;exact⟨u,us,e,(fun h=>by cases h),fun _=>⟨q,E⟩⟩
  obtain⟨u,us,rfl,q,E⟩:=D;refine⟨u,us,rfl,hf n0 c d u (by simp) (by simp) hnew.left (by omega) (fun h=>(q h).1) (fun h=>(E h).1),?_⟩;exact TE (fun n0 c d v z hd=>hf n0 c d v (by simp[z]) (by simp[hd])) (by simpa using hll) hnew.right (by omega) (fun h=>(q h).2) (fun h=>(E h).2)
theorem W2 (K:(A.eval T).toB=b)(J:n<=ap)
  (z:New T n0 (O3 n0 A c d).2) (q:n0+(O3 n0 A c d).2.length<=ap)
  (O:b=true->BQ T n W m w c v) (C:b=false->BQ T n W m w d v):BQ T ap W m w (O3 n0 A c d).1 v:=by
 by_cases hh:∃l ak,c= .agg l/\d= .agg ak
 .obtain⟨l,ak,rfl,rfl⟩:=hh;simp only[O3] at z q⊢;split
  .rename_i D;simp only[D,if_true] at z q;have hv:∃Y,v= .agg (Y:List Value).toArray/\(b=true->BR T n W m w l Y)/\(b=false->BR T n W m w ak Y):=by
    cases b with
    |true=>obtain⟨Y,e,k⟩:=O rfl;exact⟨Y,e,fun _=>k,(fun h=>by cases h)⟩
    |false=>obtain⟨Y,e,k⟩:=C rfl;exact⟨Y,e,(fun h=>by cases h),fun _=>k⟩
   obtain⟨Y,e,k1,E⟩:=hv;exact⟨Y,e,TE (fun n0 c d v _ _ V a2 a3 a4=>Ph K J V a2 a3 a4) D z q k1 E⟩
  .trivial
 .have e:O3 n0 A c d=Xg n0 A c d:=by
   unfold O3;grind
  rw[e] at z q⊢;exact uw K J z q O C
theorem vE (K:(A.eval T).toB=b)(J:n<=ap)
  (z:New T n0 (Ha n0 A c d).2) (q:n0+(Ha n0 A c d).2.length<=ap)
  (O:b=true->BQ T n W m w c v) (C:b=false->BQ T n W m w d v):BQ T ap W m w (Ha n0 A c d).1 v:=by
 by_cases hh:∃l ak,c= .tup l/\d= .tup ak
 .obtain⟨l,ak,rfl,rfl⟩:=hh;simp only[Ha] at z q⊢;split
  .rename_i D;simp only[D,if_true] at z q;have hv:∃Y,v= .tuple (Y:List Value).toArray/\(b=true->BR T n W m w l Y)/\(b=false->BR T n W m w ak Y):=by
    cases b with
    |true=>obtain⟨Y,e,k⟩:=O rfl;exact⟨Y,e,fun _=>k,(fun h=>by cases h)⟩
    |false=>obtain⟨Y,e,k⟩:=C rfl;exact⟨Y,e,(fun h=>by cases h),fun _=>k⟩
   obtain⟨Y,e,k1,E⟩:=hv;exact⟨Y,e,TE (fun n0 c d v _ _ V a2 a3 a4=>W2 K J V a2 a3 a4) D z q k1 E⟩
  .trivial
 .have e:Ha n0 A c d=O3 n0 A c d:=by
   unfold Ha;grind
  rw[e] at z q⊢;exact W2 K J z q O C
end
end
section
open Go Go.RowKit
theorem DF (b off j:Nat):(⟨b,off,none⟩:Addr).add j=⟨b,off+j,none⟩:=by
 unfold Addr.add;grind
theorem Bj (m:Mem)(x:Blk)(id:Nat):Mem.at (m++[x]) id=if id=m.length then x else m.at id:=by
 unfold Mem.at;grind
theorem Hw (m:Mem)(k:Nat)(x:Blk)(id:Nat)(h:m.at k≠ .pad):Mem.at (m.set k x) id=if id=k then x else m.at id:=by
 unfold Mem.at at*;grind
def DX (W :Nat->Option Nat)(id b:Nat):Nat->Option Nat:=fun j=>if j=id then some b else W j
theorem CF (W :Nat->Option Nat)(id b:Nat):DX W id b id=some b:=by simp[DX]
theorem CC (W :Nat->Option Nat)(id b:Nat){j:Nat}(h:j≠id):DX W id b j= W j:=by simp[DX,h]
section
variable {T:Tab}{n ap:Nat}{W :Nat->Option Nat}{m:Mem}{w:World}{g:G}{us:List Ex}
theorem CZ (w:World)(o:Obj)(k:Nat)(h:k < w.heap.size):(w.alloc o).heap[k]? =w.heap[k]? :=by
 show (w.heap.push o)[k]? =_;grind
theorem D5 (w:World)(o:Obj):(w.alloc o).heap[w.heap.size]? =some o:=by
 show (w.heap.push o)[w.heap.size]? =_;simp
theorem Jm (D:BX T n W m w)(o:Obj)(x:Blk):BY T n W m w (DX W m.length w.heap.size) (m++[x]) (w.alloc o) where
 os:=rfl
 tape:=rfl
 output:=rfl
 size:=by simp
 mlen:=fun id h=>by
  rw[Bj];split
  .rename_i e;subst e;exact absurd (Mem.at_ge (AE _)) h
  .exact h
 rho:=fun id h=>by
  have:id≠m.length:=fun e=>by subst e;exact Cf h (Mem.at_ge (AE _))
  rw[Bj,BG this];exact⟨CC _ _ _ this,h⟩
 untr:=fun id h q=>by
  have:id≠m.length:=fun e=>by subst e;exact h (Mem.at_ge (AE _))
  rw[Bj,BG this] at q;exact q
 fresh:=fun id b h q E=>by
  by_cases e:id=m.length
  .subst e;rw[CF] at E;cases E;exact AE _
  .rw[Bj,BG e,h] at q;cases q
 old:=fun k J _=>CZ w o k J
 tok:=fun id y ks e h=>by
  have:id≠m.length:=fun e=>by subst e;rw[Mem.at_ge (AE _)] at h;cases h
  refine .inl ⟨by rw[Bj,BG this];exact h,CC _ _ _ this,fun b z=>?_⟩;exact CZ w o b (D.lt (by rw[h];rfl) z)
 row:=fun id L y ks e h=>by
  have:id≠m.length:=fun e=>by subst e;rw[Mem.at_ge (AE _)] at h;cases h
  refine .inr ⟨L,y,ks,by rw[Bj,BG this];exact h,rfl,.inl ⟨rfl,CC _ _ _ this,fun b Y z K=>⟨Y,?_,rfl⟩⟩⟩;rw[CZ w o b (D.lt (by rw[h];rfl) z)];exact K
theorem Cj.step {ad:Nat->Option Nat}{ag:Mem}{ac:World}(h:BY T n W m w ad ag ac)(hm:BX T n W m w)(K:n<=ap){id:Nat}(he:ag.at id=m.at id)
  (V: ad id= W id) (hw:∀b, W id=some b->ac.heap[b]? =w.heap[b]?):Cj T ap ad ag ac id (ag.at id):=by
 rw[he];have D:=hm.blk id;cases hx:m.at id with
 |pad=>trivial
 |gone=>trivial
 |cells l e=>
  rw[hx] at D;obtain⟨b,Y,O,C,z⟩:=D;exact⟨b,Y,by rw[V];exact O,by rw[hw b O];exact C,BR.mono h hm K l Y z⟩
 |lp x st=>
  rw[hx] at D;obtain⟨b,q,O,C,z,E,J,h9,h6,j,h7,h8⟩:=D;exact⟨b,q,by rw[V];exact O,by rw[hw b O];exact C,z,E,J,h9,fun i c hc=>BQ.mono h hm K _ _ (h6 i c hc),j,BQ.mono h hm K _ _ h7,h8⟩
 |tok x ks e=>
  rw[hx] at D;obtain⟨h0,r,O,C⟩:=D;refine⟨AH h0 K,r,O,?_⟩;rcases C with C|⟨b,Y,C,z,E,J⟩
  .exact .inl (by rw[V];exact C)
  .exact .inr ⟨b,Y,by rw[V];exact C,by rw[hw b C];exact z,E,J⟩
 |mrow x y ks e=>
  rw[hx] at D;obtain⟨h0,r,O,a6,a8,C⟩:=D;refine⟨⟨AH h0.1 K,AH h0.2 K⟩,r,O,a6,a8,?_⟩;rcases C with⟨C,z⟩|⟨b,Y,us,C,z,E,J⟩
  .exact .inl ⟨by rw[V];exact C,z⟩
  .exact .inr ⟨b,Y,us,by rw[V];exact C,by rw[hw b C];exact z,Bu.mono (fun _ _ aa=>h.safe0 aa) E,J⟩
 |mapb x al ka aM aT=>
  rw[hx] at D;obtain⟨h0,l,b,ay,a3,O,C,z,E,J,h6,h7⟩:=D;refine⟨AH h0 K,l,b,ay,a3,O,by rw[V];exact C,by rw[hw b C];exact z,E,J,fun i us e hl he=>?_,h7⟩;obtain⟨u1,u2,q1,q2,q3⟩:=h6 i us e hl he;exact⟨u1,u2,q1,DL.mono (fun _ _ aa=>h.safe0 aa) q2,DL.mono (fun _ _ aa=>h.safe0 aa) q3⟩
theorem TZ (D:BX T n W m w){l:List AC}{Y:List Value}(hl:BR T n W m w l Y)(e:TypeId):
  BY T n W m w (DX W m.length w.heap.size) (m++[.cells l e]) (w.alloc (.cells Y.toArray e))/\
  BX T n (DX W m.length w.heap.size) (m++[.cells l e]) (w.alloc (.cells Y.toArray e))/\
  BQ T n (DX W m.length w.heap.size) (m++[.cells l e]) (w.alloc (.cells Y.toArray e)) (.ptr m.length 0) (.pointer (some ⟨w.heap.size,0,none⟩)):=by
 have aa:=Jm D (.cells Y.toArray e) (.cells l e);refine⟨aa,⟨fun id=>?_,fun id aw b q V K J=>?_,fun b off h=>D.fr b off (AV aa.size h)⟩,w.heap.size,CF _ _ _,rfl,by rw[Bj,BH rfl];rfl⟩
 .by_cases z:id=m.length
  .subst z;rw[Bj,BH rfl];exact⟨w.heap.size,Y,CF _ _ _,D5 _ _,BR.mono aa D (AE _) _ _ hl⟩
  .by_cases q:(m.at id).tracked=true
   .exact Cj.step aa D (AE _) (by rw[Bj,BG z]) (CC _ _ _ z) (fun b hb=>CZ w _ b (D.lt q hb))
   .rw[Bj,BG z];cases hx:m.at id with
    |pad=>trivial
    |gone=>trivial
    |cells=>rw[hx] at q;exact absurd rfl q
    |lp=>rw[hx] at q;exact absurd rfl q
    |tok=>rw[hx] at q;exact absurd rfl q
    |mrow=>rw[hx] at q;exact absurd rfl q
    |mapb=>rw[hx] at q;exact absurd rfl q
 .rw[Bj] at q V;by_cases z:id=m.length
  .by_cases E:aw=m.length
   .omega
   .rw[BG E] at V;subst z;rw[CF] at K;cases K;rw[CC _ _ _ E] at J;have:=D.lt V J;omega
  .rw[BG z] at q;rw[CC _ _ _ z] at K;by_cases E:aw=m.length
   .subst E;rw[CF] at J;cases J;have:=D.lt q K;omega
   .rw[BG E] at V;rw[CC _ _ _ E] at J;exact D.inj id aw b q V K J
theorem EV (w:World)(b:Nat)(aC:Array Value)(k:Nat)(h:k≠b):(w.setRow b aC).heap[k]? =w.heap[k]? :=setRow_other w b k aC h
theorem PE (K:BX T n W m w){id b:Nat}{l ak:List AC}{Y al:List Value}{e:TypeId}(J:m.at id= .cells l e)(V: W id=some b)
  (hb:w.heap[b]? =some (.cells Y.toArray e (0,0))) (hl:BR T ap W m w ak al) (hn:n<=ap):
  BY T n W m w W (m.set id (.cells ak e)) (w.setRow b al.toArray)/\BX T ap W (m.set id (.cells ak e)) (w.setRow b al.toArray):=by
 have E:m.at id≠ .pad:=by rw[J];exact fun h=>by cases h
 have z:=Hw m id (.cells ak e);have aa:∀n,BY T n W m w W (m.set id (.cells ak e)) (w.setRow b al.toArray):=fun n=>{
  os:=rfl
  tape:=rfl
  output:=rfl
  size:=by simp
  mlen:=fun j h=>by rw[z j E];split<;>first|exact (fun h=>by cases h)|exact h
  rho:=fun j h=>by rw[z j E];split<;>first|exact⟨rfl,rfl⟩|exact⟨rfl,h⟩
  untr:=fun j h q=>by
   rw[z j E] at q;split at q
   .rename_i he;subst he;rw[J];rfl
   .exact q
  fresh:=fun j c h q V=>by
   rw[z j E] at q;split at q
   .grind
   .rw[h] at q;cases q
  old:=fun k hk a8=>EV w b _ k (fun e=>a8 id (by rw[J];rfl) (by rw[e];exact V))
  tok:=fun j x ks e' h=>by
   have D:j≠id:=fun e=>by subst e;rw[J] at h;cases h
   refine .inl ⟨by rw[z j E,BG D];exact h,rfl,fun c hc=>EV w b _ c (fun e=>?_)⟩;subst e;exact D (K.inj j id c (by rw[h];rfl) (by rw[J];rfl) hc V)
  row:=fun j x y ks e' h=>by
   have D:j≠id:=fun e=>by subst e;rw[J] at h;cases h
   refine .inr ⟨x,y,ks,by rw[z j E,BG D];exact h,rfl,.inl ⟨rfl,rfl,fun c Y hc hv=>⟨Y,?_,rfl⟩⟩⟩;rw[EV w b _ c (fun e=>?_)]
   .exact hv
   .subst e;exact D (K.inj j id c (by rw[h];rfl) (by rw[J];rfl) hc V) }
 refine⟨aa n,⟨fun j=>?_,fun j j' c q a9 O C=>?_,fun b off h=>K.fr b off (AV (aa n).size h)⟩⟩
 .by_cases D:j=id
  .subst D;rw[z j E,BH rfl];exact⟨b,al,V,setRow_heap w b Y.toArray al.toArray e (0,0) hb,BR.mono (aa ap) (K.mono hn) (AE _) _ _ hl⟩
  .by_cases q:(m.at j).tracked=true
   .refine Cj.step (aa n) K hn (by rw[z j E,BG D]) rfl (fun c hc=>EV w b _ c (fun e=>?_));subst e;exact D (K.inj j id c q (by rw[J];rfl) hc V)
   .rw[z j E,BG D];cases hx:m.at j with
    |pad=>trivial
    |gone=>trivial
    |cells=>rw[hx] at q;exact absurd rfl q
    |lp=>rw[hx] at q;exact absurd rfl q
    |tok=>rw[hx] at q;exact absurd rfl q
    |mrow=>rw[hx] at q;exact absurd rfl q
    |mapb=>rw[hx] at q;exact absurd rfl q
 .have tr:∀k,(Mem.at (m.set id (.cells ak e)) k).tracked=true->(m.at k).tracked=true:=fun k hk=>by
   rw[z k E] at hk;split at hk
   .rename_i he;subst he;rw[J];rfl
   .exact hk
  exact K.inj j j' c (tr j q) (tr j' a9) O C
variable {P:Program}
variable{t:TypeId}{size:Nat}{a7:Bool}{Y F:List Value}
theorem NJ (h:GH P t=some (size,a7)):a7=false->size=1:=by
 unfold GH at h;grind
theorem HS (h:GH P t=some (size,a7))(b off:Nat)(E:Y.length=size)
  (D:∀j v,Y[j]? =some v->w.cell? ⟨b,off+j,none⟩=some v):
  (loadVar t ⟨b,off,none⟩).run P w= .ok (if a7 then .agg Y.toArray else Y.headD undef) w:=by
 have z:(loadCells ⟨b,off,none⟩ size).run P w= .ok Y.toArray w:=by
  subst E;exact run_loadCells_list (P:=P) (w:=w) _ Y (fun j v J=>by rw[DF];exact D j v J)
 unfold GH at h;cases ab:P.info? t with
 |none=>rw[ab] at h;simp at h
 |some i=>
  cases q:P.underlying t with
  |none=>rw[ab,q] at h;simp at h
  |some d=>
   rw[ab,q] at h;cases d<;>simp at h<;>obtain⟨O,C⟩:=h<;>subst C
   case struct K=>
    subst O;simp[loadVar,isAgg,run_underlying q,sizeOf,typeInfo,ab,z]
   case array k e=>
    subst O;simp[loadVar,isAgg,run_underlying q,sizeOf,typeInfo,ab,z]
   all_goals
    cases Y with
    |nil=>simp at E;omega
    |cons v Y=>
     have:=D 0 v rfl;simp only[Nat.add_zero] at this;simp[loadVar,isAgg,run_underlying q,this]
def Cv (F:List Value)(k:Nat)(Y:List Value):List Value:=F.take k++Y++F.drop (k+Y.length)
theorem Vj {k:Nat}(q:k < F.length)(v:Value)(h:List Value):Cv (F.set k v) (k+1) h=Cv F k (v::h):=by
 have O:(F.set k v).take (k+1)=F.take k++[v]:=by
  apply List.ext_getElem?;grind
 have C:(F.set k v).drop (k+1+h.length)=F.drop (k+(h.length+1)):=by
  apply List.ext_getElem?;grind
 simp only[Cv,O,Ad,C,Am,List.cons_append,BF]
theorem L0 (b off:Nat)(t:TypeId):∀(Y:List Value) (i:Nat) (F:List Value) (w:World),w.heap[b]? =some (.cells F.toArray t (0,0))->off+i+Y.length<=F.length->
  (∀v∈Y,v.oneCell'=true)->(storeCells ⟨b,off,none⟩ Y i).run P w= .ok () (w.setRow b (Cv F (off+i) Y).toArray)
 |[],i,F,w,hb,_,_=>by
  have e:Cv F (off+i) []=F:=by simp[Cv]
  rw[e];simp only[storeCells];show Result.ok () w=_;congr 1;unfold World.setRow;cases w with
  |mk al ax drawn os aw=>
   congr 1;apply Array.ext
   .simp
   .intro k O C;simp only[Array.getElem_modify];split
    .rename_i D;subst D;obtain⟨V,h⟩:=AI.1 hb;simp only at h;rw[h]
    .rfl
 |v::rest,i,F,w,hb,hl,O=>by
  simp at hl;have ab:off+i < F.length:=by omega
  have q:w.cell? ⟨b,off+i,none⟩=some F[off+i]:=by simp[World.cell?,hb,ab]
  have z:w.frozen? ⟨b,off+i,none⟩=false:=by simp[World.frozen?,hb]
  have E:(store ((⟨b,off,none⟩:Addr).add i) v).run P w= .ok () (w.setRow b (F.set (off+i) v).toArray):=by
   rw[DF,run_store P w _ v _ (O v (by simp)),q];simp[z,setCell_eq_setRow w b (off+i) F.toArray t (0,0) v hb]
  have K:=L0 b off t rest (i+1) (F.set (off+i) v) (w.setRow b (F.set (off+i) v).toArray) (setRow_heap w b F.toArray _ t _ hb) (by simp;omega) (fun x J=>O x (by simp[J]));simp only[storeCells,Ar,E,Aq,K,setRow_setRow];rw[show off+(i+1)=off+i+1 by omega,Vj ab]
theorem MH {i:TypeInfo}(ab:P.info? t=some i)(b off:Nat)(e:TypeId){v:Value}(h:w.heap[b]? =some (.cells F.toArray e (0,0)))
  (z:v.cells=Y.toArray) (q:Y.length=i.size) (D:off+i.size<=F.length) (O:∀u∈Y,u.oneCell'=true):
  (storeVar t ⟨b,off,none⟩ v).run P w= .ok () (w.setRow b (Cv F off Y).toArray):=by
 have:=L0 (P:=P) b off e Y 0 F w h (by omega) O;simp[storeVar,sizeOf,typeInfo,ab,z,q,this]
end
def Cd (T:Tab)(g:G)(W :Nat->Option Nat)(m:Mem)(w:World)(run:Result Next)(r:R):Prop:=
 ∃v ac ad,(run= .ok (.value v) ac\/(run= .ok .skip ac/\v=undef))/\BY T g.n W m w ad r.m ac/\
  BX T (g.n+r.us.length) ad r.m ac/\BQ T (g.n+r.us.length) ad r.m ac r.c v
section
variable {P:Program}{T:Tab}{W :Nat->Option Nat}{m:Mem}{w:World}{g:G}{r:R}
variable{v:Value}{k:Kd}{x base B aO aG size ap id b:Nat}{ps:List Pr}{ar ab j:Int}{i:Vx}{e:TypeId}{l aC:List AC}{M:List (List AC)}{Y:List Value}
theorem Cd.pure {run:Result Next}(D:run= .ok (.value v) w)(z:BX T g.n W m w)(h:r.m=m)
  (q:BQ T (g.n+r.us.length) W m w r.c v):Cd T g W m w run r:=
 ⟨v,w, W,.inl D,by rw[h];exact BY.refl T g.n W m w,by rw[h];exact z.mono (by omega),by rw[h];exact q⟩
def CR (T:Tab)(g:G)(W :Nat->Option Nat)(m:Mem)(w:World)(run:Result Next)(r:R):Prop:=
 ∃v,run= .ok (.value v) w/\r.m=m/\BQ T (g.n+r.us.length) W m w r.c v
theorem CR.res {run:Result Next}(h:CR T g W m w run r)(z:BX T g.n W m w):Cd T g W m w run r:=by
 obtain⟨v,O,C,q⟩:=h;exact Cd.pure O z C q
theorem CR.pure {run:Result Next}(z:run= .ok (.value v) w)(_hm:BX T g.n W m w)(h:r.m=m)
  (q:BQ T (g.n+r.us.length) W m w r.c v):CR T g W m w run r:=⟨v,z,h,q⟩
theorem CR.same {run:Result Next}(D:run= .ok (.value v) w)(h:BX T g.n W m w)(q:r.m=m)
  (z:BQ T g.n W m w r.c v):CR T g W m w run r:=CR.pure D h q (z.up h (by omega))
theorem Cd.same {run:Result Next}(D:run= .ok (.value v) w)(h:BX T g.n W m w)(q:r.m=m)
  (z:BQ T g.n W m w r.c v):Cd T g W m w run r:=
 Cd.pure D h q (z.up h (by omega))
theorem wV {v:Vx}{x:Value}(q:New T g.n (mkV g m k v ps).us)(h:Bk (Bt T W m w) w k (v.eval T) x)
  (J:∀y,v= .rf (.e y)->y < g.n):BQ T (g.n+(mkV g m k v ps).us.length) W m w (mkV g m k v ps).c x:=by
 have ex:∀e:Ex,New T g.n [e]->e.eval T=v.eval T->Bk (Bt T W m w) w k (T g.n) x:=fun e O C=>by rw[O.head,C];exact h
 have rf:∀r:Rf,v= .rf r->(⟨ "id",oId,[r]⟩:Ex).eval T=v.eval T:=fun r e=>by subst e;rfl
 cases k with
 |int k ar ab=>
  simp only[mkV] at q⊢;split
  .obtain⟨i,O,C,D,E⟩:=h;obtain rfl:i=ar:=by omega
   exact C
  .rename_i K;simp only[K] at q;have z:∀y ap,y < ap->Bk (Bt T W m w) w (.int k ar ab) (T y) x->BQ T ap W m w (.i k ar ab y) x:=by
    rintro y ap V ⟨i,O,C,D,E⟩;exact⟨V,i,O,C,D,E⟩
   cases v with
   |ex e=>exact z _ _ (by simp) (ex e q rfl)
   |rf r=>
    cases r with
    |e y=>exact z _ _ (by have:=J y rfl;simp;omega) h
    |c u=>exact z _ _ (by simp) (ex _ q (rf _ rfl))
    |n y=>exact z _ _ (by simp) (ex _ q (rf _ rfl))
 |_=>
  cases v with
  |ex e=>exact GQ (by simp[mkV]) (ex e q rfl)
  |rf r=>
   cases r with
   |e y=>exact GQ (by have:=J y rfl;simp[mkV];omega) h
   |c u=>exact GQ (by simp[mkV]) (ex _ q (rf _ rfl))
   |n y=>exact GQ (by simp[mkV]) (ex _ q (rf _ rfl))
theorem Ie {k:IntKind}{i:Int}{v:Vx}(q:New T g.n (mkI g m k ar ab v ps).us)(z:v.eval T= .int i)(O:ar<=i)(C:i<=ab)
  (h:∀y,v= .rf (.e y)->y < g.n):BQ T (g.n+(mkI g m k ar ab v ps).us.length) W m w (mkI g m k ar ab v ps).c (.int k i):=
 wV (k:= .int k ar ab) q ⟨i,z,rfl,O,C⟩ h
theorem NQ {k:Option Bool}{i:Bool}{e:Ex}(h:New T g.n (mkB g m k e ps).us)(q:k=none->e.eval T= .bool i)(O:∀b,k=some b->i=b):
  BQ T (g.n+(mkB g m k e ps).us.length) W m w (mkB g m k e ps).c (.bool i):=by
 cases k with
 |some b=>rw[O b rfl];exact rfl
 |none=>exact⟨by simp[mkB],i,by rw[h.head];exact q rfl,rfl⟩
theorem yD {v:Vx}:(mkV g m k v ps).m=m:=by
 cases k<;>cases v<;>simp only[mkV]<;>(repeat (first|rfl|split))
theorem wr {v:Vx}:(mkV g m k v ps).ps=ps:=by
 cases k<;>cases v<;>simp only[mkV]<;>(repeat (first|rfl|split))
theorem LT {k:IntKind}:(mkI g m k ar ab i ps).m=m:=yD
theorem TH {k:Option Bool}{i:Ex}:(mkB g m k i ps).m=m:=by unfold mkB;split<;>rfl
theorem xA {k:IntKind}:(mkI g m k ar ab i ps).ps=ps:=wr
theorem OA {a:Act}{o:Oper}{s:Sem Value}{ac:World}(h:execOp a.eval o=(do Pure.pure (.value (<-s))))(aa:s.run P w= .ok v ac):
  (execOp a.eval o).run P w= .ok (.value v) ac:=by
 rw[h];simp[aa]
theorem Fx {aW J:Type}(f:aW->Option J):∀(l:List aW) (r:List J),l.mapM f=some r->r.length=l.length/\∀(i:Nat) (x:aW),l[i]? =some x->r[i]? =f x
 |[],r,h=>by simp at h;subst h;exact⟨rfl,fun i x h=>by simp at h⟩
 |x::l,r,h=>by
  simp only[List.mapM_cons,AD,Option.pure_def] at h;cases q:f x with
  |none=>simp[q] at h
  |some y=>
   cases E:l.mapM f with
   |none=>simp[q,E] at h
   |some K=>
    simp[q,E] at h;subst h;obtain⟨O,C⟩:=Fx f l K E;refine⟨by simp[O],fun i z D=>?_⟩;cases i with
    |zero=>simp at D;subst D;simp[q]
    |succ i=>simp at D;simpa using C i z D
theorem Qv (h:WK l base B aO aG=some aC):∀j,j < aO->aC[j]? =l[base+j*B+aG]? :=by
 intro j q;exact (Fx _ _ _ h).2 j j (by simp[q])
theorem Ua {n:Nat}:∀{aC:List AC} {k:Kd} {ah:List Rf},TL aC=some (k,ah)->
  ∀(j:Nat) (c:AC) (v:Value),aC[j]? =some c->BQ T n W m w c v->∃r,ah[j]? =some r/\Bk (Bt T W m w) w k (r.eval T) v
 |[],_,_,h,_,_,_,_,_=>by cases h
 |[c],k,ah,h,j,d,v,hj,hh=>by
  simp only[TL,AX] at h;obtain⟨⟨D,r⟩,O,C⟩:=h;cases C;cases j with
  |zero=>
   simp at hj;subst hj;exact⟨r,rfl,JQ O hh⟩
  |succ j=>simp at hj
 |c::d::aC,k,ah,h,j,e,v,hj,hh=>by
  simp only[TL] at h;split at h
  .rename_i J aB E aj O C;cases h;cases j with
   |zero=>
    simp at hj;subst hj;exact⟨aB,rfl,Kd.join_l _ _ _ _ (JQ O hh)⟩
   |succ j=>
    simp at hj;obtain⟨r,q,z⟩:=Ua C j e v (by simpa using hj) hh;exact⟨r,by simpa using q,Kd.join_r _ _ _ _ z⟩
  .cases h
theorem CG.get {n:Nat}:∀{l:List AC} {j:Nat} {c:AC} {v:Value},l[j]? =some c->BQ T n W m w c v->CG T n W m w l j v
 |[],_,_,_,h,_=>by simp at h
 |c::_,0,d,v,h,hh=>by simp at h;subst h;exact hh
 |_::l,j+1,d,v,h,hh=>CG.get (l:=l) (by simpa using h) hh
theorem R2 (h:Lf g m x aC ps=some r)(K:New T g.n r.us)(V:x < g.n)(z:T x= .int j)(J:0<=j)
  {c:AC}  (D:aC[j.toNat]? =some c) (E:BQ T g.n W m w c v):r.m=m/\r.ps=ps/\BQ T (g.n+r.us.length) W m w r.c v:=by
 unfold Lf at h;split at h
 .rename_i k ah aa;split at h
  .cases h
  .cases h;refine⟨rfl,rfl,GQ (by simp) ?_⟩;obtain⟨q,O,C⟩:=Ua aa j.toNat c v D E;have:=K.head;have e:T g.n=q.eval T:=by
    rw[this];simp[Ex.eval,V4,u0,Rf.eval,z,U.toI,List.getD,O]
   rw[e];exact C
 .split at h
  .cases h;exact⟨rfl,rfl,by simpa using V,j,z,J,(CG.get D E)⟩
  .cases h
theorem TS {ap:Nat}{x:Nat}{j:Int}(D:T x= .int j)(V:0<=j):∀{M:List (List AC)} {n0:Nat} {z:List AC} {us:List Ex} {Y:List Value},JC x n0 M=some (z,us)->New T n0 us->n0+us.length<=ap->
  Y.length=M.length->(∀(i:Nat) (aC:List AC) (v:Value),M[i]? =some aC->Y[i]? =some v->∃c,aC[j.toNat]? =some c/\BQ T g.n W m w c v)->BR T ap W m w z Y
 |[],n0,z,us,Y,h,_,_,hl,_=>by
  simp only[JC,Ax,Prod.mk.injEq] at h;obtain⟨rfl,rfl⟩:=h;cases Y with
  |nil=>rfl
  |cons=>simp at hl
 |aC::r,n0,z,us,Y,h,hnew,hn,hl,hh=>by
  cases Y with
  |nil=>simp at hl
  |cons v Y=>
   simp only[JC] at h;split at h
   .rename_i k ah aa;split at h
    .cases h
    .simp only[AX] at h;obtain⟨⟨l,a0⟩,O,C⟩:=h;cases C;simp only[Ad] at hn;obtain⟨c,J,K⟩:=hh 0 aC v rfl rfl;obtain⟨q,q1,q2⟩:=Ua aa j.toNat c v J K;have e:T n0=q.eval T:=by
      rw[hnew.head];simp[Ex.eval,V4,u0,Rf.eval,D,U.toI,List.getD,q1]
     refine⟨v,Y,rfl,GQ (by omega) (by rw[e];exact q2),?_⟩;exact TS D V O (fun i u ab=>by
      have:=hnew (i+1) u (by simpa using ab);rwa [show n0+1+i=n0+(i+1) by omega]) (by omega) (by simpa using hl) (fun i E v' a b=>hh (i+1) E v' (by simpa using a) (by simpa using b))
   .cases h
theorem X6 (h:R4 l base B aO aG size=some M):
  M.length=size/\∀c,c < size->∃aC,M[c]? =some aC/\WK l base B aO (aG+c)=some aC:=by
 obtain⟨O,C⟩:=Fx _ _ _ h;refine⟨by simpa using O,fun c q=>?_⟩;have z:=C c c (by simp[q]);grind
theorem Va {D:List AC}{us:List Ex}(K:R4 l base B aO aG size=some M)(hp:JC x g.n M=some (D,us))(ax:New T g.n us)(hn:g.n+us.length<=ap)
   (J:T x= .int j) (V:0<=j) (al:j.toNat < aO)  (q:BR T g.n W m w l Y):
  base+j.toNat*B+aG+size<=Y.length\/size=0->BR T ap W m w D ((Y.drop (base+j.toNat*B+aG)).take size):=by
 intro a5;obtain⟨O,C⟩:=X6 K;refine TS (g:=g) J V hp ax hn ?_ (fun i aC v ab hv=>?_)
 .grind
 .have h:i < size:=by rw[<-O];exact (AG.1 ab).1
  obtain⟨a4,E,q2⟩:=C i h;rw[ab] at E;cases E;have q3:=Qv q2 j.toNat al;simp only[BB,A8,BH h] at hv;have z:base+j.toNat*B+(aG+i) < l.length:=by
   rw[<-q.length];grind
  refine⟨l[base+j.toNat*B+(aG+i)],by rw[q3];exact AF z,?_⟩;obtain⟨u,u1,u2⟩:=q.get (AF z);grind
theorem Wh (h:R4 l base B aO aG size=some M){j:Nat}(z:j < aO):base+j*B+aG+size<=l.length\/size=0:=by
 rcases yN size with D|D
 .exact .inr D
 .obtain⟨_,C⟩:=X6 h;obtain⟨aC,_,q⟩:=C (size - 1) (by omega);have J:=Qv q j z;have E:j < aC.length:=by rw[(Fx _ _ _ q).1];simpa using z
  grind
theorem Cj.get {n:Nat}(z:BX T n W m w)(q:m.at id= .cells l e)(J: W id=some b):
  ∃Y,w.heap[b]? =some (.cells (Y:List Value).toArray e (0,0))/\BR T n W m w l Y:=by
 have h:=z.blk id;rw[q] at h;obtain⟨D,Y,O,C,E⟩:=h;grind
theorem HY {off:Nat}(h:w.heap[b]? =some (.cells Y.toArray e (0,0))):w.cell? ⟨b,off,none⟩=Y[off]? :=by
 simp[World.cell?,h]
theorem Bw.drop {ok:Nat->Nat->Prop}:∀{ks:List Kd} {b off:Nat} {us:List U} (k:Nat),Bw ok w ks b off us->Bw ok w (ks.drop k) b (off+k) (us.drop k)
 |ks,b,off,us,0,h=>h
 |[],_,_,us,_+1,h=>by rw[show us=[] from h];rfl
 |_::ks,b,off,us,k+1,⟨u,us',e,_,h⟩=>by
  have:=Bw.drop k h;rw[e];rwa [show off+1+k=off+(k+1) by omega] at this
theorem Bw.take {ok:Nat->Nat->Prop}:∀{ks:List Kd} {b off:Nat} {us:List U} (k:Nat),Bw ok w ks b off us->Bw ok w (ks.take k) b off (us.take k)
 |_,_,_,_,0,_=>by simp only[List.take_zero];rfl
 |[],_,_,us,_+1,h=>by rw[show us=[] from h];rfl
 |_::ks,b,off,us,k+1,⟨u,us',e,O,C⟩=>by subst e;exact⟨u,us'.take k,rfl,O,Bw.take k C⟩
theorem Bw.length {ok:Nat->Nat->Prop}:∀{ks:List Kd} {b off:Nat} {us:List U},Bw ok w ks b off us->us.length=ks.length
 |[],_,_,us,h=>by rw[show us=[] from h];rfl
 |_::ks,b,off,us,⟨u,us',e,_,h⟩=>by subst e;simp[h.length]
theorem qR {t:Nat}{aZ:List U}(ht:T t= .int j)(a5:(T x).toL[j.toNat]? =some aZ){ks:List Kd}{off n0 c:Nat}(h:Bw (Bt T W m w) w ks b off ((aZ.drop c).take size))
  (K:New T n0 (FJ x t n0 c ks).2) (J:n0+ks.length<=ap):
  ∃Y:List Value,Y.length=ks.length/\(∀j v,Y[j]? =some v->w.cell? ⟨b,off+j,none⟩=some v)/\BR T ap W m w (FJ x t n0 c ks).1 Y:=by
 have bb:∀{ks:List Kd} {b off n0 c size:Nat},Bw (Bt T W m w) w ks b off ((aZ.drop c).take size)->New T n0 (FJ x t n0 c ks).2->n0+ks.length<=ap->
   ∃Y:List Value,Y.length=ks.length/\(∀j v,Y[j]? =some v->w.cell? ⟨b,off+j,none⟩=some v)/\BR T ap W m w (FJ x t n0 c ks).1 Y:=by
  intro ks;induction ks with
  |nil=>intro b off n0 c size _ _ _;exact⟨[],rfl,fun j v h=>by simp at h,rfl⟩
  |cons k ks ih=>
   rintro b off n0 c size ⟨u,bc,e,⟨_,v,C,V⟩,h4⟩ K J;simp only[Ad] at J;have al:New T n0 (⟨W8 (kdC k)++toString c,TR (kdC k) c,[.e x,.e t]⟩::(FJ x t (n0+1) (c+1) ks).2):=K;cases size with
   |zero=>simp at e
   |succ size=>
    have hd:∃D,aZ.drop c=u::D/\D.take size=bc:=by
     cases hr:aZ.drop c with
     |nil=>rw[hr] at e;simp at e
     |cons a D=>rw[hr] at e;simp at e;obtain⟨rfl,e⟩:=e;exact⟨D,rfl,e⟩
    obtain⟨D,hd,a4⟩:=hd;have hT:T n0=u:=by
     have hc:aZ[c]? =some u:=by
      have:=BI (·[0]?) hd;simpa using this
     have:=al.head;simp[Ex.eval,TR,rM,u0,u1,Rf.eval,ht,U.toI,List.getD,a5,hc] at this;exact this.trans (cI V)
    have a3:New T (n0+1) (FJ x t (n0+1) (c+1) ks).2:=fun j u q=>by
     have:=al (j+1) u (by simpa using q);grind
    have a2:aZ.drop (c+1)=D:=by rw[<-A7,hd];rfl
    obtain⟨Y,k1,E,k3⟩:=ih (b:=b) (off:=off+1) (n0:=n0+1) (c:=c+1) (size:=size) (by rw[a2,a4];exact h4) a3 (by omega);refine⟨v::Y,by simp[k1],?_,v,Y,rfl,GQ (by omega) (by rw[hT];exact V),k3⟩;intro j z q;cases j with
    |zero=>simp at q;subst q;exact C
    |succ j=>
     simp at q;have:=E j z q;rwa [show off+1+j=off+(j+1) by omega] at this
 exact bb h K J
theorem Bg.dropC {ok:Nat->Nat->Prop}:∀{ks:List Kd} {us:List U} {Y:List Value} (k:Nat),Bg ok w ks us Y->Bg ok w (ks.drop k) (us.drop k) (Y.drop k)
 |_,_,_,0,h=>h
 |[],_,_,_+1,⟨O,C⟩=>by subst O;subst C;exact⟨rfl,rfl⟩
 |_::_,_,_,k+1,⟨_,_,_,_,O,C,_,h4⟩=>by subst O;subst C;exact Bg.dropC k h4
theorem Bg.takeC {ok:Nat->Nat->Prop}:∀{ks:List Kd} {us:List U} {Y:List Value} (k:Nat),Bg ok w ks us Y->Bg ok w (ks.take k) (us.take k) (Y.take k)
 |_,_,_,0,_=>by simp only[List.take_zero];exact⟨rfl,rfl⟩
 |[],_,_,_+1,⟨O,C⟩=>by subst O;subst C;exact⟨rfl,rfl⟩
 |_::_,_,_,k+1,⟨u,us',v,vs',O,C,h3,h4⟩=>by subst O;subst C;exact⟨u,_,v,_,rfl,rfl,h3,Bg.takeC k h4⟩
theorem Bg.lenC {ok:Nat->Nat->Prop}:∀{ks:List Kd} {us:List U} {Y:List Value},Bg ok w ks us Y->Y.length=ks.length/\us.length=ks.length
 |[],_,_,⟨O,C⟩=>by subst O;subst C;exact⟨rfl,rfl⟩
 |k::ks,_,_,⟨u,us',v,vs',O,C,_,h4⟩=>by subst O;subst C;have:=h4.lenC;simp[this]
theorem CQ.rowC {ok:Nat->Nat->Prop}{ks:List Kd}:∀{l:List (List U)} {R:List (List Value)} {j:Nat} {us:List U},CQ ok w ks l R->l[j]? =some us->Bg ok w ks us ((R.flatten.drop (j*ks.length)).take ks.length)
 |[],_,_,_,_,hj=>by simp at hj
 |x::l,_,0,us,⟨Y,vss',e,O,C⟩,hj=>by
  subst e;simp at hj;subst hj;have:=O.lenC.1;rw[Nat.zero_mul,List.drop_zero,BK,List.take_append_of_le_length (by omega),List.take_of_length_le (by omega)];exact O
 |x::l,_,j+1,us,⟨Y,vss',e,O,C⟩,hj=>by
  subst e;have h:=O.lenC.1;have:=CQ.rowC C (by simpa using hj);rw[BK,show (j+1)*ks.length=Y.length+j*ks.length by rw[Af,h];omega,<-A7,List.drop_left' rfl];exact this
theorem CQ.lenC {ok:Nat->Nat->Prop}{ks:List Kd}:∀{l:List (List U)} {R:List (List Value)},CQ ok w ks l R->R.flatten.length=l.length*ks.length
 |[],_,h=>by rw[show _=[] from h];simp
 |_::_,_,⟨Y,vss',e,O,C⟩=>by
  subst e;have:=C.lenC;have:=O.lenC.1;simp[*,Af];omega
theorem Bg.join_l {ok:Nat->Nat->Prop}:∀{ks X:List Kd},ks.length=X.length->∀{us:List U} {Y:List Value},Bg ok w ks us Y->Bg ok w (Kd.joins ks X) us Y
 |[],[],_,_,_,h=>h
 |[],_::_,h,_,_,_=>by simp at h
 |_::_,[],h,_,_,_=>by simp at h
 |k::ks,k'::X,hl,_,_,⟨u,us',v,vs',O,C,h3,h4⟩=>⟨u,us',v,vs',O,C,Kd.join_l k k' u v h3,h4.join_l (by simpa using hl)⟩
theorem Bg.join_r {ok:Nat->Nat->Prop}:∀{ks X:List Kd},ks.length=X.length->∀{us:List U} {Y:List Value},Bg ok w X us Y->Bg ok w (Kd.joins ks X) us Y
 |[],[],_,_,_,h=>h
 |[],_::_,h,_,_,_=>by simp at h
 |_::_,[],h,_,_,_=>by simp at h
 |k::ks,k'::X,hl,_,_,⟨u,us',v,vs',O,C,h3,h4⟩=>⟨u,us',v,vs',O,C,Kd.join_r k k' u v h3,h4.join_r (by simpa using hl)⟩
theorem Tj {ap:Nat}{x t:Nat}{j:Int}{aZ:List U}(J:T t= .int j)(E:(T x).toL[j.toNat]? =some aZ):∀{ks:List Kd} {Y:List Value} {n0 c size:Nat},Bg (Bt T W m w) w ks ((aZ.drop c).take size) Y->
  New T n0 (FJ x t n0 c ks).2->n0+ks.length<=ap->BR T ap W m w (FJ x t n0 c ks).1 Y
 |[],_,_,_,_,⟨_,h⟩,_,_=>h
 |k::ks,_,n0,c,0,⟨u,us',v,vs',e,_⟩,_,_=>by simp at e
 |k::ks,_,n0,c,size+1,⟨u,us',v,vs',e,e2,h3,h4⟩,hnew,hn=>by
  subst e2;simp only[Ad] at hn;have z:New T n0 (⟨W8 (kdC k)++toString c,TR (kdC k) c,[.e x,.e t]⟩::(FJ x t (n0+1) (c+1) ks).2):=hnew;have hd:∃q,aZ.drop c=u::q/\q.take size=us':=by
   cases D:aZ.drop c with
   |nil=>rw[D] at e;simp at e
   |cons a q=>rw[D] at e;simp at e;obtain⟨rfl,e⟩:=e;exact⟨q,rfl,e⟩
  obtain⟨q,hd,a0⟩:=hd;have K:T n0=u:=by
   have V:aZ[c]? =some u:=by
    have:=BI (·[0]?) hd;simpa using this
   have:=z.head;simp[Ex.eval,TR,rM,u0,u1,Rf.eval,J,U.toI,List.getD,E,V] at this;exact this.trans (cI h3)
  have ax:New T (n0+1) (FJ x t (n0+1) (c+1) ks).2:=fun j u hj=>by
   have:=z (j+1) u (by simpa using hj);rwa [show n0+1+j=n0+(j+1) by omega]
  have al:aZ.drop (c+1)=q:=by rw[<-A7,hd];rfl
  exact⟨v,vs',rfl,GQ (by omega) (by rw[K];exact h3),Tj J E (c:=c+1) (n0:=n0+1) (size:=size) (by rw[al,a0];exact h4) ax (by omega)⟩
theorem qt {n:Nat}(hm:BX T n W m w){y:Nat}{ks:List Kd}(V:m.at id= .mrow x y ks e)(hr: W id=some b){L:Int}(hy:T y= .int L)(h0:0<=j)(hj:j < L):
  ∃H l us,w.heap[b]? =some (.cells (H:List Value).toArray e (0,0))/\T x= .list l/\(l.length:Int)=L/\l[j.toNat]? =some us/\l.length*ks.length<=H.length/\
   Bg (Bt T W m w) w ks us ((H.drop (j.toNat*ks.length)).take ks.length):=by
 have h:=hm.blk id;rw[V] at h;obtain⟨_,l,O,C,h3,q⟩:=h;rw[hy] at C;have K:L=l.length:=by cases C;rfl
 rcases q with⟨q,D⟩|⟨b',Y,us,q,D,⟨R,E,J⟩,h8⟩
 .grind
 .rw[hr] at q;cases q;have z:j.toNat < l.length:=by omega
  have al:=J.lenC;rw[<-E] at al;refine⟨Y++us,l,l[j.toNat],by simpa using D,O,K.symm,AF z,by rw[AP];omega,?_⟩;have:=J.rowC (AF z);rw[<-E] at this;have a6:(j.toNat+1)*ks.length<=l.length*ks.length:=Ab _ z;grind
theorem P9 {t:TypeId}{p:AC}(h:HK P t p m g=some r)(al:New T g.n r.us)(hm:BX T g.n W m w)(hp:BQ T g.n W m w p v):
  ∃u,(Instr.loadAt t v).run P w= .ok u w/\r.m=m/\BQ T (g.n+r.us.length) W m w r.c u:=by
 unfold HK at h;simp only[AD,AA] at h;obtain⟨⟨size,a7⟩,aa,h⟩:=h;cases p<;>simp only at h
 case ptr id off=>
  obtain⟨b,hr,rfl,_⟩:=hp;split at h
  .rename_i l e V;obtain⟨Y,hb,hl⟩:=Cj.get hm V hr;split at h
   .rename_i q;have z:=(hl.drop off).take size;have a6:((Y.drop off).take size).length=size:=by rw[z.length];exact q
    have D:=HS (P:=P) (w:=w) aa b off a6 (fun j x hj=>by
     rw[HY hb];simp only[BB,A8] at hj;split at hj
     .exact hj
     .cases hj)
    refine⟨_,by simp only[Instr.loadAt,Instr.sureAddr,Ar,Ay,Aq];exact D,?_⟩;cases a7 with
    |true=>
     simp at h;subst h;exact⟨rfl,_,rfl,z.up hm (by simp)⟩
    |false=>
     simp at h;obtain⟨c,J,h⟩:=h;subst h;have aw:((l.drop off).take size)[0]? =some c:=by
      have:=NJ aa rfl;subst this;simpa [BB] using J
     obtain⟨u,O,C⟩:=z.get aw;refine⟨rfl,?_⟩;have:((Y.drop off).take size).headD undef=u:=by
      cases K:(Y.drop off).take size with
      |nil=>rw[K] at O;simp at O
      |cons y an=>rw[K] at O;simp at O;subst O;rfl
     rw[BG (by simp),this];exact C.up hm (by simp)
   .cases h
  .cases h
 case pix id base B aO x aG=>
  obtain⟨h0,b,j,hr,K,ax,cu,rfl,_⟩:=hp;split at h
  .rename_i l e V;obtain⟨Y,hb,hl⟩:=Cj.get hm V hr;split at h
   .rename_i bi;subst bi;simp only[AA] at h;obtain⟨M,b0,⟨ls,cl⟩,cb,h⟩:=h;cases h;have a0:j.toNat < aO:=by omega
    have q:=Wh b0 a0;rw[<-hl.length] at q;have z:=Va (ap:=g.n+cl.length) b0 cb al (AE _) K ax a0 hl q;have a6:((Y.drop (base+j.toNat*B+aG)).take size).length=size:=by
     rcases q with q|q
     .simp;omega
     .subst q;simp
    have D:=HS (P:=P) (w:=w) aa b (base+j.toNat*B+aG) a6 (fun i y ab=>by
     rw[HY hb];simp only[BB,A8] at ab;split at ab
     .exact ab
     .cases ab)
    exact⟨_,by simp only[Instr.loadAt,Instr.sureAddr,Ar,Ay,Aq];exact D,rfl,_,rfl,z⟩
   .rename_i bi;have b5:a7=false:=by simpa using bi
    subst b5;have bm:=NJ aa rfl;subst bm;simp only[AA] at h;obtain⟨aC,bx,h⟩:=h;have a0:j.toNat < aO:=by omega
    have bl:=Qv bx j.toNat a0;have b7:∃c,l[base+j.toNat*B+aG]? =some c:=by
     rw[<-bl];exact⟨_,AF (by rw[(Fx _ _ _ bx).1];simpa using a0)⟩
    obtain⟨c,J⟩:=b7;obtain⟨u,cc,ce⟩:=hl.get J;rw[J] at bl;have D:=HS (P:=P) (w:=w) aa b (base+j.toNat*B+aG) (Y:=[u]) rfl (fun i y ab=>by
     rw[HY hb];cases i with
     |zero=>simp at ab;subst ab;simpa using cc
     |succ i=>simp at ab)
    refine⟨u,by simp only[Instr.loadAt,Instr.sureAddr,Ar,Ay,Aq];exact D,?_⟩;obtain⟨f1,_,f3⟩:=R2 h al h0 K ax bl ce;exact⟨f1,f3⟩
  .cases h
 case rp x a2 off ks=>
  obtain⟨⟨h0,b4⟩,j,b,o,us,ht,ax,b9,rfl,J⟩:=hp;split at h
  .rename_i q;have a9:=(J.drop off).take size;have a5:r.us=(FJ x a2 g.n off ((ks.drop off).take size)).2:=by
    cases a7 with
    |true=>simp at h;subst h;rfl
    |false=>simp at h;obtain⟨c,_,h⟩:=h;subst h;rfl
   rw[a5] at al;have z:=(NN x a2 ((ks.drop off).take size) g.n off).2;have b6:Bw (Bt T W m w) w ((ks.drop off).take size) b (o+j.toNat*ks.length+off) (((us.drop off).take size)):=a9;obtain⟨Y,k1,E,k3⟩:=qR (ap:=g.n+r.us.length) ht b9 b6 al (by rw[a5,z];exact AE _);have D:=HS (P:=P) (w:=w) aa b (o+j.toNat*ks.length+off) (Y:=Y) (by rw[k1];exact q) E;refine⟨_,by simp only[Instr.loadAt,Instr.sureAddr,Ar,Ay,Aq];exact D,?_⟩;cases a7 with
   |true=>simp at h;subst h;exact⟨rfl,Y,rfl,k3⟩
   |false=>
    simp at h;obtain⟨c,aw,h⟩:=h;subst h;obtain⟨u,O,C⟩:=k3.get aw;have:Y.headD undef=u:=by
     cases Y with
     |nil=>simp at O
     |cons y an=>simp at O;subst O;rfl
    refine⟨rfl,?_⟩;rw[BG (by simp),this];exact C
  .cases h
 case mp id y a2 sz off=>
  obtain⟨⟨h0,b4,cs⟩,j,L,b,ht,hy,⟨ax,b8⟩,rfl,hk⟩:=hp;split at h
  .rename_i x aF ks e V;split at h
   .rename_i J;obtain⟨⟨rfl,bm⟩,q⟩:=J;have hr:=hk x ks e V;obtain⟨H,l,us,k1,E,k3,k4,k5,k6⟩:=qt hm V hr hy ax b8;have a9:=(k6.dropC off).takeC size;have a5:r.us=(FJ x a2 g.n off ((ks.drop off).take size)).2:=by
     cases a7 with
     |true=>simp at h;subst h;rfl
     |false=>simp at h;obtain⟨c,_,h⟩:=h;subst h;rfl
    rw[a5] at al;have z:=(NN x a2 ((ks.drop off).take size) g.n off).2;have k7:=Tj (ap:=g.n+r.us.length) ht (aZ:=us) (by rw[E];exact k4) a9 al (by rw[a5,z];exact AE _);have a6:=a9.lenC.1;have D:=HS (P:=P) (w:=w) aa b (j.toNat*sz+off) (by rw[a6];exact q) (fun i v ab=>by
     rw[HY k1];simp only[BB,A8] at ab;split at ab
     .split at ab
      .rw[<-ab,bm];congr 1;omega
      .cases ab
     .cases ab)
    refine⟨_,by simp only[Instr.loadAt,Instr.sureAddr,Ar,Ay,Aq];exact D,?_⟩;cases a7 with
    |true=>simp at h;subst h;exact⟨rfl,_,rfl,k7⟩
    |false=>
     simp at h;obtain⟨c,aw,h⟩:=h;subst h;obtain⟨u,O,C⟩:=k7.get aw;have:(((((H.drop (j.toNat*ks.length)).take ks.length).drop off).take size)).headD undef=u:=by
      cases K:((((H.drop (j.toNat*ks.length)).take ks.length).drop off).take size) with
      |nil=>rw[K] at O;simp at O
      |cons y an=>rw[K] at O;simp at O;subst O;rfl
     refine⟨rfl,?_⟩;rw[BG (by simp),this];exact C
   .cases h
  .cases h
 all_goals cases h
end
section
variable {P:Program}{T:Tab}{W :Nat->Option Nat}{m:Mem}{w:World}{g:G}{r:R}
variable{c:AC}{v:Value}{l:List AC}{Y:List Value}{Q:List Kd}{t:TypeId}{a:Act}{o:Oper}
theorem fT {d:AC}{n:Nat}(h:c.cellsOf=some [d])(D:BQ T n W m w c v):∃u,v.cells= #[u]/\BQ T n W m w d u/\u.oneCell'=true/\d.atom=true:=by
 obtain⟨Y,O,C,E,q⟩:=ET h D;obtain⟨u,us,rfl,J,z⟩:=C;rw[show us=[] from z] at O q;grind
theorem Tc (hm:BX T g.n W m w){ap:Nat}(V:g.n<=ap){x:Nat}{K:Int}(hx:T x= .int K){c:AC}{u:Value}{base B aG:Nat}(bo:B≠0)(hc:BQ T g.n W m w c u)(bs:0<=K)
  {Y:List Value} {l:List AC} (hl:BR T g.n W m w l Y):∀(J n0:Nat) (ak:List AC) (E:List Ex),I6 x c base B aG l J n0=some (ak,E)->New T n0 E->n0+E.length<=ap->
  BR T ap W m w ak (if K < J then Y.set (base+K.toNat*B+aG) u else Y)
 |0,n0,ak,E,h,_,_=>by
  simp[I6] at h;obtain⟨rfl,rfl⟩:=h;rw[BG (by simp;omega)];exact hl.up hm V
 |J+1,n0,ak,E,h,hnew,hle=>by
  simp only[I6,AD,AA] at h;obtain⟨⟨af,z⟩,O,a1,C,h3⟩:=h;split at h3
  .rename_i bt;cases h3;simp only[AP,Ad] at hle;have D:=Tc hm V hx bo hc bs hl J n0 af z O hnew.left (by omega);obtain⟨v0,al,bm⟩:=hl.get C;have hr:=hnew.right;have a9:(Rf.e (n0+z.length)).eval T= .bool (decide (K=J)):=by
    have:=hr.head;simpa [Ex.eval,oEq,u0,u1,Rf.eval,hx,U.toI] using this
   have a8:New T (n0+z.length+1) (mix (n0+z.length+1) (.e (n0+z.length)) c a1).2:=fun j u hj=>by
    have:=hr (j+1) u (by simpa using hj);rwa [show n0+z.length+1+j=n0+z.length+(j+1) by omega]
   by_cases bb:K=J
   .rw[BG (by omega)] at D;rw[BH (by omega)];have hd:BQ T ap W m w (mix (n0+z.length+1) (.e (n0+z.length)) c a1).1 u:=
     Ph (b:=decide (K=J)) (by rw[a9];rfl) V a8 (by omega) (fun _=>hc) (fun h=>by simp[bb] at h)
    have:=D.set (base+J*B+aG) hd;rwa [show K.toNat=J by omega]
   .have hd:BQ T ap W m w (mix (n0+z.length+1) (.e (n0+z.length)) c a1).1 v0:=
     Ph (b:=decide (K=J)) (by rw[a9];rfl) V a8 (by omega) (fun h=>by simp at h;exact absurd h bb) (fun _=>bm)
    have:=D.set (base+J*B+aG) hd;by_cases a4:K < J
    .rw[BH a4] at this D;rw[BH (by omega)];have bl:base+K.toNat*B+aG≠base+J*B+aG:=by
      intro e;have e2:K.toNat*B=J*B:=by omega
      have:=Nat.eq_of_mul_eq_mul_right (by omega) e2;omega
     have e:(Y.set (base+K.toNat*B+aG) u).set (base+J*B+aG) v0=Y.set (base+K.toNat*B+aG) u:=by
      apply List.ext_getElem?;intro k;rw[yP];split
      .rename_i hk;subst hk;rw[yP,BG bl,al,BH];rw[Au];exact (AG.1 al).1
      .rfl
     rw[e] at this;exact this
    .rw[BG a4] at this D;rw[BG (by omega)];have e:Y.set (base+J*B+aG) v0=Y:=by
      apply List.ext_getElem?;intro k;rw[yP];split
      .rename_i hk;subst hk;rw[al,BH (AG.1 al).1]
      .rfl
     rw[e] at this;exact this
  .cases h3
theorem ST {n:Nat}{aC:List AC}{us:List Value}(z:BR T n W m w l Y)(q:BR T n W m w aC us)(off size:Nat)(h:aC.length=size):
  BR T n W m w (l.take off++aC++l.drop (off+size)) (Cv Y off us):=by
 unfold Cv;rw[q.length,h];exact ((z.take off).append q).append (z.drop _)
theorem lG {k:Nat}(h:k < Y.length)(u:Value):Cv Y k [u]=Y.set k u:=by
 unfold Cv;rw[List.set_eq_take_append_cons_drop,BH h];simp
theorem Bg.appC {ok:Nat->Nat->Prop}:∀{ks X:List Kd} {us q:List U} {Y z:List Value},Bg ok w ks us Y->Bg ok w X q z->Bg ok w (ks++X) (us++q) (Y++z)
 |[],_,_,_,_,_,⟨O,C⟩,h=>by subst O;subst C;exact h
 |_::_,_,_,_,_,_,⟨u,q,v,z,O,C,h3,h4⟩,h=>by subst O;subst C;exact⟨u,_,v,_,rfl,rfl,h3,h4.appC h⟩
theorem lP {ks:List Kd}{off:Nat}(h:off+Q.length<=ks.length):(Pf ks off Q).length=ks.length:=by
 unfold Pf;rw[AP,AP,Kd.joins_len _ _ (by simp;omega)];simp;omega
theorem Bg.put_l {ok:Nat->Nat->Prop}{ks:List Kd}{off:Nat}{us:List U}(h:off+Q.length<=ks.length)(q:Bg ok w ks us Y):Bg ok w (Pf ks off Q) us Y:=by
 have z:us=us.take off++(us.drop off).take Q.length++us.drop (off+Q.length):=by
  rw[Am,<-A7,Az,Az]
 have D:Y=Y.take off++(Y.drop off).take Q.length++Y.drop (off+Q.length):=by
  rw[Am,<-A7,Az,Az]
 rw[z,D];refine ((q.takeC off).appC (Bg.join_l (by simp;omega) ((q.dropC off).takeC Q.length))).appC (q.dropC _)
theorem Bg.put_r {ok:Nat->Nat->Prop}{ks:List Kd}{off:Nat}{us q:List U}{G:List Value}(h:off+Q.length<=ks.length)(z:Bg ok w ks us Y)(hd:Bg ok w Q q G):Bg ok w (Pf ks off Q) (us.take off++q++us.drop (off+q.length)) (Cv Y off G):=by
 unfold Cv;rw[hd.lenC.1,hd.lenC.2];exact ((z.takeC off).appC (Bg.join_r (by simp;omega) hd)).appC (z.dropC _)
theorem CQ.setC {ok:Nat->Nat->Prop}{ks X:List Kd}(z:∀us Y,Bg ok w ks us Y->Bg ok w X us Y){E:List U}{q:List Value}(D:Bg ok w X E q):∀{l:List (List U)} {R:List (List Value)} (j:Nat),CQ ok w ks l R->CQ ok w X (l.set j E) (R.set j q)
 |[],_,j,h=>by rw[show _=[] from h];cases j<;>exact rfl
 |x::l,_,0,⟨Y,vss',e,O,C⟩=>by
  subst e;have K:∀{l:List (List U)} {R:List (List Value)},CQ ok w ks l R->CQ ok w X l R:=by
   intro l;induction l with
   |nil=>intro _ h;exact h
   |cons a l J=>rintro _ ⟨v,Y,e,O,C⟩;exact⟨v,Y,e,z _ _ O,J C⟩
  exact⟨q,vss',rfl,D,K C⟩
 |x::l,_,j+1,⟨Y,vss',e,O,C⟩=>by
  subst e;exact⟨Y,vss'.set j q,rfl,z _ _ O,CQ.setC z D j C⟩
theorem Pg {k off:Nat}{G:List Value}(D:off+G.length<=k)(q:List Value):∀{R:List (List Value)} {j:Nat} {Y:List Value},(∀v∈R,v.length=k)->R[j]? =some Y->
  Cv (R.flatten++q) (j*k+off) G=(R.set j (Cv Y off G)).flatten++q
 |[],_,_,_,h=>by simp at h
 |v::R,0,Y,hl,h=>by
  simp at h;subst h;have:=hl v (by simp);unfold Cv;simp only[Nat.zero_mul,AM,BK,Am,List.set_cons_zero];rw[List.take_append_of_le_length (by omega),List.drop_append_of_le_length (by omega)]
 |v::R,j+1,Y,hl,h=>by
  have z:=hl v (by simp);have J:=Pg D q (R:=R) (j:=j) (Y:=Y) (fun x E=>hl x (by simp[E])) (by simpa using h);simp only[BK,Am,List.set_cons_succ];rw[<-J];unfold Cv;rw[show (j+1)*k+off=v.length+(j*k+off) by rw[Af,z];omega,Nat.add_assoc,List.take_length_add_append,List.drop_length_add_append];simp only[Am]
theorem kJ {n:Nat}(V:BX T n W m w){ap id b x y:Nat}{ks X:List Kd}{e:TypeId}{ak:List (List U)}{H K:List Value}(D:m.at id= .mrow x y ks e)(hr: W id=some b)
  (hb:w.heap[b]? =some (.cells H.toArray e (0,0))) (b6:K.length=H.length) (hk:X.length=ks.length) (hT:T n= .list ak) (hy:T y= .int ak.length)
  (hv:∃Y us,K=Y++us/\Bu (Bt T W m w) w X ak Y) (hn:n < ap):
  BY T n W m w W (m.set id (.mrow n y X e)) (w.setRow b K.toArray)/\BX T ap W (m.set id (.mrow n y X e)) (w.setRow b K.toArray):=by
 have J:m.at id≠ .pad:=by rw[D];exact fun h=>by cases h
 have E:=Hw m id (.mrow n y X e);have bt:(w.setRow b K.toArray).heap[b]? =some (.cells K.toArray e (0,0)):=setRow_heap w b H.toArray K.toArray e (0,0) hb;have aa:BY T n W m w W (m.set id (.mrow n y X e)) (w.setRow b K.toArray):={
  os:=rfl
  tape:=rfl
  output:=rfl
  size:=by simp
  mlen:=fun j h=>by rw[E j J];split<;>first|exact (fun h=>by cases h)|exact h
  rho:=fun j h=>by
   have z:j≠id:=fun e=>by subst e;rw[D] at h;cases h
   grind
  untr:=fun j h q=>by
   rw[E j J] at q;split at q
   .rename_i he;subst he;rw[D];rfl
   .exact q
  fresh:=fun j c h q hr=>by
   rw[E j J] at q;split at q
   .grind
   .rw[h] at q;cases q
  old:=fun k hk bs=>EV w b _ k (fun e=>bs id (by rw[D];rfl) (by rw[e];exact hr))
  tok:=fun j x ks e' h=>by
   have z:j≠id:=fun e=>by subst e;rw[D] at h;cases h
   refine .inl ⟨by rw[E j J,BG z];exact h,rfl,fun c hc=>EV w b _ c (fun e=>?_)⟩;subst e;exact z (V.inj j id c (by rw[h];rfl) (by rw[D];rfl) hc hr)
  row:=fun j aw y2 b0 e2 h=>by
   by_cases z:j=id
   .grind
   .refine .inr ⟨aw,y2,b0,by rw[E j J,BG z];exact h,rfl,.inl ⟨rfl,rfl,fun c Y hc hv=>⟨Y,?_,rfl⟩⟩⟩;rw[EV w b _ c (fun e=>?_)]
    .exact hv
    .subst e;exact z (V.inj j id c (by rw[h];rfl) (by rw[D];rfl) hc hr) }
 have a5:=V.blk id;rw[D] at a5;obtain⟨⟨q1,q2⟩,l0,q3,q4,⟨q5,q6⟩,q7⟩:=a5;have bm:l0.length=ak.length:=by rw[hy] at q4;have:=U.int.inj q4;omega
 refine⟨aa,⟨fun j=>?_,fun j j' c q bx O C=>?_,fun b off h=>V.fr b off (AV aa.size h)⟩⟩
 .by_cases z:j=id
  .subst z;rw[E j J,BH rfl];obtain⟨Y,us,e1,e2⟩:=hv;have bl:∀off,T.fr b off:=by
    grind
   refine⟨⟨hn,AH q2 (by omega)⟩,ak,hT,hy,⟨by rw[<-bm];exact q5,fun h=>q6 (A6.1 (by rw[<-hk,h];rfl))⟩,.inr ⟨b,Y,us,hr,by rw[bt,e1],Bu.mono (fun _ _ h=>aa.safe0 h) e2,bl⟩⟩
  .by_cases q:(m.at j).tracked=true
   .refine Cj.step aa V (by omega) (by rw[E j J,BG z]) rfl (fun c hc=>EV w b _ c (fun e=>?_));subst e;exact z (V.inj j id c q (by rw[D];rfl) hc hr)
   .rw[E j J,BG z];cases hx:m.at j with
    |pad=>trivial
    |gone=>trivial
    |cells=>rw[hx] at q;exact absurd rfl q
    |lp=>rw[hx] at q;exact absurd rfl q
    |tok=>rw[hx] at q;exact absurd rfl q
    |mrow=>rw[hx] at q;exact absurd rfl q
    |mapb=>rw[hx] at q;exact absurd rfl q
 .have tr:∀k,(Mem.at (m.set id (.mrow n y X e)) k).tracked=true->(m.at k).tracked=true:=fun k hk=>by
   rw[E k J] at hk;split at hk
   .rename_i he;subst he;rw[D];rfl
   .exact hk
  exact V.inj j j' c (tr j q) (tr j' bx) O C
theorem Bg.ofC {n:Nat}(q:l.all AC.atom=true)(h:BR T n W m w l Y):
  Bg (Bt T W m w) w (l.map fun c=>(Cn c).1) (l.map fun c=>(Cn c).2.eval T) Y:=by
 induction l generalizing Y with
 |nil=>exact⟨rfl,h⟩
 |cons c l z=>
  obtain⟨u,us,rfl,O,C⟩:=h;simp only[List.all_cons,AB] at q;exact⟨_,_,u,us,rfl,rfl,iX q.1 O,z q.2 C⟩
theorem CQ.lens {ok:Nat->Nat->Prop}{ks:List Kd}:∀{l:List (List U)} {R:List (List Value)},CQ ok w ks l R->R.length=l.length/\∀v∈R,v.length=ks.length
 |[],_,h=>by rw[show _=[] from h];simp
 |_::_,_,⟨Y,vss',e,O,C⟩=>by
  subst e;obtain⟨z,E⟩:=C.lens;refine⟨by simp[z],fun v q=>?_⟩;cases q with
  |head=>exact O.lenC.1
  |tail _ q=>exact E v q
theorem CQ.getC {ok:Nat->Nat->Prop}{ks:List Kd}:∀{l:List (List U)} {R:List (List Value)} {j:Nat} {us:List U},CQ ok w ks l R->l[j]? =some us->∃Y,R[j]? =some Y/\Bg ok w ks us Y
 |[],_,_,_,_,hj=>by simp at hj
 |x::l,_,0,us,⟨Y,vss',e,O,C⟩,hj=>by
  subst e;simp at hj;subst hj;exact⟨Y,rfl,O⟩
 |x::l,_,j+1,us,⟨Y,vss',e,O,C⟩,hj=>by
  subst e;obtain⟨v,h,q⟩:=CQ.getC C (show l[j]? =some us by simpa using hj);exact⟨v,by simpa using h,q⟩
theorem qL {p:AC}{u:Value}(h:dx P t p c m g=some r)(b2:New T g.n r.us)(V:BX T g.n W m w)(hp:BQ T g.n W m w p v)(hc:BQ T g.n W m w c u):
  ∃ac,(Instr.storeAt t v u).run P w= .ok () ac/\BY T g.n W m w W r.m ac/\BX T (g.n+r.us.length) W r.m ac/\r.c= .any:=by
 unfold dx at h;simp only[AD,AA] at h;obtain⟨i,ab,aC,bc,h⟩:=h;split at h
 .rename_i K;have b1:=K;cases p<;>simp only at h
  case ptr id off=>
   obtain⟨b,E,rfl,_⟩:=hp;split at h
   .rename_i l e q;obtain⟨Y,D,hl⟩:=Cj.get V q E;split at h
    .rename_i b3;cases h;obtain⟨us,e1,J,e3,e4⟩:=ET bc hc;have al:=PE (ap:=g.n) V q E D (ST hl J off i.size K) (AE _);refine⟨_,?_,al.1,al.2,rfl⟩;simp only[Instr.storeAt,Instr.sureAddr,Ar,Ay,Aq];exact MH ab b off e D e1 (by rw[J.length];exact K) (by rw[hl.length];exact b3) e4
    .cases h
   .cases h
  case pix id base B aO x aG=>
   obtain⟨h0,b,j,E,hx,b0,db,rfl,_⟩:=hp;split at h
   .rename_i l e d q;split at h
    .cases h
    .rename_i al;simp only[AA] at h;obtain⟨⟨ak,ax⟩,b4,h⟩:=h;cases h;obtain⟨Y,D,hl⟩:=Cj.get V q E;obtain⟨y,e1,J,e3,_⟩:=fT bc hc;have hh:=Tc V (ap:=g.n+ax.length) (by omega) hx al J b0 hl aO g.n ak ax b4 b2 (AE _);rw[BH (by omega)] at hh;have cv:base+j.toNat*B+aG < Y.length:=by
      have c2:∀(a0 n0:Nat) (ak:List AC) (ax:List Ex),I6 x d base B aG l a0 n0=some (ak,ax)->∀k,k < a0->base+k*B+aG < l.length:=by
       intro a0;induction a0 with
       |zero=>intro _ _ _ _ k hk;omega
       |succ a0 ih=>
        intro n0 ak ax aa k hk;simp only[I6,AD,AA] at aa;obtain⟨⟨af,c4⟩,O,dd,C,_⟩:=aa;by_cases cs:k=a0
        .subst cs;exact (AG.1 C).1
        .exact ih n0 af c4 O k (by omega)
      rw[hl.length];exact c2 aO g.n ak ax b4 j.toNat (by omega)
     have b5:=PE (ap:=g.n+ax.length) V q E D hh (by omega);refine⟨_,?_,b5.1,b5.2,rfl⟩;simp only[Instr.storeAt,Instr.sureAddr,Ar,Ay,Aq];have bo:i.size=1:=by simpa using K.symm
     have:=MH (P:=P) (w:=w) ab b (base+j.toNat*B+aG) e (Y:=[y]) (v:=u) D e1 (by simp[bo]) (by omega) (by intro z hz;simp at hz;rw[hz];exact e3);rw[this,lG cv]
   .cases h
  case mp id y a2 sz off=>
   obtain⟨⟨h0,c7,c8⟩,j,L,b,ht,hy,⟨b0,c9⟩,rfl,hk⟩:=hp;split at h
   .rename_i x aF ks e q;split at h
    .rename_i ch;obtain⟨⟨rfl,bo⟩,b3⟩:=ch;cases h;have E:=hk x ks e q;have bt:=V.blk id;rw[q] at bt;obtain⟨_,l,q3,q4,⟨q5,q6⟩,q7⟩:=bt;have hL:L=l.length:=by rw[hy] at q4;exact U.int.inj q4
     have a8:j.toNat < l.length:=by omega
     rcases q7 with⟨_,q7⟩|⟨b',bs,a5,q7,D,⟨R,q8,q9⟩,_⟩
     .subst q7;simp at a8
     rw[E] at q7;cases q7;obtain⟨f,e1,J,e3,e4⟩:=ET bc hc;obtain⟨vj,g1,aw⟩:=q9.getC (AF a8);obtain⟨af,aj⟩:=q9.lens;have b6:f.length=aC.length:=J.length;have ci:=Bg.ofC e3 J;have bm:off+(aC.map fun c=>(Cn c).1).length<=ks.length:=by simp;omega
     have cj:=Pg (k:=ks.length) (off:=off) (G:=f) (by omega) a5 aj g1;have cf:T g.n= .list (E7 l j.toNat off (aC.map fun c=>(Cn c).2.eval T)):=by
      rw[b2.head];simp[Ex.eval,jS,u0,u1,Rf.eval,q3,ht,U.toL,U.toI,List.map_map];rfl
     have K:j.toNat*ks.length+off+f.length<=(bs++a5).length:=by
      have:=q9.lenC;rw[<-q8] at this;have cu:(j.toNat+1)*ks.length<=l.length*ks.length:=Ab _ a8;rw[Af,Nat.one_mul] at cu;rw[AP];omega
     have cx:(Cv (bs++a5) (j.toNat*ks.length+off) f).length=(bs++a5).length:=by
      unfold Cv;simp only[AP,Ao,Av] at K⊢;omega
     have cl:l.getD j.toNat []=l[j.toNat]:=by simp[List.getD,a8]
     have al:=kJ (ap:=g.n+1) (X:=Pf ks off (aC.map fun c=>(Cn c).1)) V q E D cx (lP bm) cf (by rw[hy,hL];simp[E7])
      ⟨(R.set j.toNat (Cv vj off f)).flatten,a5,by rw[q8];exact cj,_,rfl,by
       unfold E7;rw[cl];exact CQ.setC (fun _ _ h=>Bg.put_l bm h) (Bg.put_r bm aw ci) j.toNat q9⟩ (by omega)
     refine⟨_,?_,al.1,al.2,rfl⟩;simp only[Instr.storeAt,Instr.sureAddr,Ar,Ay,Aq];rw[<-bo];exact MH ab b (j.toNat*ks.length+off) e D e1 (by rw[b6];exact b1) (by rw[<-b1,<-b6];exact K) e4
    .cases h
   .cases h
  all_goals cases h
 .cases h
theorem JA {i:TypeInfo}{z:Value}(ab:P.info? t=some i)(h:i.zero=some z):(zeroValue t).run P w= .ok z w:=by
 simp[zeroValue,typeInfo,ab,h]
theorem QE (t:TypeId)(v:Value):(newVar t v).run P w= .ok ⟨w.heap.size,0,none⟩ (w.alloc (.cells v.cells t)):=by
 simp[newVar,newRow]
theorem hZ (D:BX T g.n W m w)(z:BR T g.n W m w l Y)(t:TypeId)(E:v.cells=Y.toArray){run:Result Next}
  (q:run= .ok (.value (.pointer (some ⟨w.heap.size,0,none⟩))) (w.alloc (.cells v.cells t))):Cd T g W m w run (Sv l t m):=by
 have h:=TZ D z t;rw[E] at q;exact⟨_,_,_,.inl q,h.1,h.2.1.mono (by simp[Sv]),h.2.2.up h.2.1 (by simp[Sv])⟩
theorem pu (h:J3 P t m=some r)(D:BX T g.n W m w)(E:o.op= .alloc t):Cd T g W m w ((execOp a.eval o).run P w) r:=by
 unfold J3 at h;simp only[AD,AA] at h;obtain⟨i,ab,z,J,l,q,h⟩:=h;cases h;obtain⟨Y,O,C,_,_⟩:=ET q (M6 (T:=T) (n:=g.n) (W := W) (m:=m) (w:=w) z);refine hZ D C t O ?_;simp[execOp,E,Instr.alloc,JA ab J,QE]
theorem u9 {x:Operand}(h:rX t c m=some r)(z:BX T g.n W m w)(D:o.op= .box t x)(E:BQ T g.n W m w c (a.eval x)):
  Cd T g W m w ((execOp a.eval o).run P w) r:=by
 unfold rX at h;simp only[AD,AA] at h;obtain⟨l,q,h⟩:=h;cases h;obtain⟨Y,O,C,_,_⟩:=ET q E;refine hZ z C t O ?_;simp[execOp,D,Instr.box,QE]
theorem Y8 (cells:Array Value)(off:Nat):∀(Y:List Value) (k:Nat),off+k+Y.length<=cells.size->
  (Y.zipIdx k).foldl (fun aC (p:Value × Nat)=>aC.setIfInBounds (off+p.2) p.1) cells=(Cv cells.toList (off+k) Y).toArray
 |[],k,h=>by simp[Cv]
 |v::Y,k,h=>by
  simp at h;simp only[List.zipIdx_cons,List.foldl_cons];have:=Y8 (cells.setIfInBounds (off+k) v) off Y (k+1) (by simp;omega);rw[this];simp only[Array.toList_setIfInBounds];rw[show off+(k+1)=off+k+1 by omega,Vj (by simp;omega)]
theorem bv (cells:Array Value)(off:Nat)(v:Value)(Y:List Value)(q:v.cells=Y.toArray)(h:off+Y.length<=cells.size):
  v.cells.zipIdx.foldl (fun aC (c,j)=>aC.setIfInBounds (off+j) c) cells=(Cv cells.toList off Y).toArray:=by
 rw[q,<-Array.foldl_toList];have:=Y8 cells off Y 0 (by omega);simpa using this
theorem dr {n:Nat}{V:Nat->Option (Nat × Nat)}:∀{aV:List (Nat × AC)} {f:List (Nat × Value)} {l ak:List AC} {Y:List Value},QN V l aV=some ak->BR T n W m w l Y->
  f.length=aV.length->(∀(k i:Nat) (c:AC) (j:Nat) (v:Value),aV[k]? =some (i,c)->f[k]? =some (j,v)->i=j/\BQ T n W m w c v)->
  ∃D,Instr.fill V Y.toArray f=some (D:List Value).toArray/\BR T n W m w ak D
 |[],f,l,ak,Y,h,hl,hlen,_=>by
  simp only[QN] at h;cases h;have:f=[]:=by simpa using hlen
  subst this;exact⟨Y,rfl,hl⟩
 |(i,c)::aV,[],_,_,_,_,_,hlen,_=>by simp at hlen
 |(i,c)::aV,(j,v)::f,l,ak,Y,h,hl,hlen,hh=>by
  obtain⟨rfl,hc⟩:=hh 0 i c j v rfl rfl;simp only[QN,AD,AA] at h;obtain⟨⟨off,size⟩,hp,aC,a0,h⟩:=h;split at h
  .rename_i z;obtain⟨us,E,J,_,_⟩:=ET a0 hc;have K:us.length=size:=by rw[J.length];exact z.1
   obtain⟨D,f1,f2⟩:=dr (f:=f) h (ST hl J off size z.1) (by simpa using hlen) (fun k a b c d O C=>hh (k+1) a b c d (by simpa using O) (by simpa using C));refine⟨D,?_,f2⟩;simp only[Instr.fill,hp];rw[BG]
   .rw[bv Y.toArray off v us E (by simp;rw[K,hl.length];exact z.2)];exact f1
   .have h3:=hl.length;have h4:=z.2;intro q;simp only[E,A9,Ah,decide_eq_true_eq] at q;rcases q with q|q
    .exact q K
    .omega
  .cases h
theorem Yo {aE:Operand->AC}{aV:Array (Nat × Operand)}(h:VY P t (aV.toList.map fun (i,x)=>(i,aE x)) m=some r)(hm:BX T g.n W m w)
  (ho:o.op= .build t aV) (ba:∀x,BQ T g.n W m w (aE x) (a.eval x)):CR T g W m w ((execOp a.eval o).run P w) r:=by
 unfold VY at h;simp only[AD,AA] at h;obtain⟨i,ab,z,hz,l,hl,h⟩:=h;obtain⟨Y,O,C,_,_⟩:=ET hl (M6 (T:=T) (n:=g.n) (W := W) (m:=m) (w:=w) z);have ax:∀V ak,QN V l (aV.toList.map fun (i,x)=>(i,aE x))=some ak->∃q:List Value,Instr.fill V z.cells (aV.map fun (i,x)=>(i,a.eval x)).toList=some q.toArray/\BR T g.n W m w ak q:=by
  intro V ak D;rw[O];refine dr D C (by simp) ?_;grind
 have al:∀q ak,BR T g.n W m w ak q->P.built t (aV.map fun (i,x)=>(i,a.eval x)).toList=some (q:List Value).toArray->r={ c:= .agg ak,m }->CR T g W m w ((execOp a.eval o).run P w) r:=by
  intro q ak hh hb hr;subst hr;refine CR.same (v:= .agg q.toArray) ?_ hm rfl ⟨q,rfl,hh⟩;simp only[execOp,ho,Ar,run_build w t _ _ hb,Aq,Ay]
 split at h
 .rename_i k e K;simp only[AA] at h;obtain⟨ie,a2,ak,D,h⟩:=h;obtain⟨q,E,J⟩:=ax _ _ D;exact al q ak J (by simp only[Program.built,ab,K,hz,a2,E]) (by cases h;rfl)
 .rename_i a9 K;simp only[AA] at h;obtain⟨bc,a6,ak,D,h⟩:=h;obtain⟨q,E,J⟩:=ax _ _ D;exact al q ak J (by simp only[Program.built,ab,K,hz,a6,E]) (by cases h;rfl)
 .cases h
end
section
variable {P:Program}{T:Tab}{W :Nat->Option Nat}{m:Mem}{w:World}{g:G}{r:R}
variable{t s e:TypeId}{i:TypeInfo}{p am x c:AC}{v u:Value}{k:IntKind}
theorem Cc (ab:P.info? t=some i)(w:World):(sizeOf t).run P w= .ok i.size w:=by
 simp[sizeOf,typeInfo,ab]
theorem Lb {q:Array Field}{f:Nat}{h:Field}(D:P.underlying s=some (.struct q))(z:q[f]? =some h)(ab:P.info? h.type=some i)
  (E:i.size≠0) (b off:Nat):(Instr.fieldAt s (.pointer (some ⟨b,off,none⟩)) f).run P w= .ok (.pointer (some ⟨b,off+h.offset,none⟩)) w:=by
 simp[Instr.fieldAt,run_underlying D,z,Instr.sureAddr,fieldPlace,Cc ab,E,DF]
theorem MI {f:Nat}(h:H7 P s p f m=some r)(J:BQ T g.n W m w p v):
  ∃u,(Instr.fieldAt s v f).run P w= .ok u w/\r.m=m/\r.us=[]/\BQ T g.n W m w r.c u:=by
 unfold H7 at h;split at h
 .rename_i ax K;simp only[AD,AA] at h;obtain⟨fd,E,i,ab,h⟩:=h;split at h
  .cases h
  .rename_i V;cases p<;>simp only at h
   case ptr id off=>
    cases h;obtain⟨b,O,rfl,q⟩:=J;exact⟨_,Lb K E ab V b off,rfl,rfl,b,O,rfl,q⟩
   case pix id base B aO x aG=>
    cases h;obtain⟨z,b,j,O,C,q,h4,rfl,D⟩:=J;exact⟨_,Lb K E ab V b _,rfl,rfl,z,b,j,O,C,q,h4,by rw[Nat.add_assoc],D⟩
   case rp x t off ks=>
    cases h;obtain⟨z,j,b,o,us,O,C,q,rfl,D⟩:=J;exact⟨_,Lb K E ab V b _,rfl,rfl,z,j,b,o,us,O,C,q,by rw[Nat.add_assoc],D⟩
   case mp id y t sz off=>
    cases h;obtain⟨z,j,L,b,O,C,q,rfl,D⟩:=J;exact⟨_,Lb K E ab V b _,rfl,rfl,z,j,L,b,O,C,q,by rw[Nat.add_assoc],D⟩
   all_goals cases h
 .cases h
theorem IV {len:Nat}(q:P.underlying t=some (.array len e))(ab:P.info? e=some i)(b off:Nat)(k:IntKind)(n:Int)(h:0<=n)(O:n < len):
  (Instr.indexAt t (.pointer (some ⟨b,off,none⟩)) (.int k n)).run P w= .ok (.pointer (some ⟨b,off+n.toNat*i.size,none⟩)) w:=by
 simp[Instr.indexAt,asIntOf,run_underlying q,Instr.sureAddr,Cc ab,h,O,DF]
theorem Qx (q:P.underlying t=some (.slice e))(ab:P.info? e=some i)(b off len I:Nat)(k:IntKind)(n:Int)(h:0<=n)(O:n < len):
  (Instr.indexAt t (.slice (some ⟨b,off,none⟩) len I) (.int k n)).run P w= .ok (.pointer (some ⟨b,off+n.toNat*i.size,none⟩)) w:=by
 simp[Instr.indexAt,asIntOf,run_underlying q,Cc ab,h,O,DF]
theorem QT {x:Nat}{q:List Ex}{n:Int}(h:TC g am=some (x,q))(z:New T g.n q)(ab:BQ T g.n W m w am (.int k n)):
  x < g.n+q.length/\T x= .int n:=by
 cases am<;>simp only[TC] at h<;>cases h
 case i=>
  obtain⟨D,j,O,C,_⟩:=ab;grind
 case ci=>
  have e:Value.int k n=_:=ab;cases e;exact⟨by simp,z.head⟩
theorem Tm (hu:P.underlying t=some (.slice e))(a0:P.info? e=some i){n:Int}{V:Rf}(a5:V.eval T= .int n)
  (h:Dy.aIndexSl i.size p am V m g=some r) (a3:New T g.n r.us) (a4:∀q∈r.ps,q.holds T) (E:BQ T g.n W m w p v)
  (a1:BQ T g.n W m w am (.int k n)):∃y,(Instr.indexAt t v (.int k n)).run P w= .ok y w/\r.m=m/\BQ T (g.n+r.us.length) W m w r.c y:=by
 unfold Dy.aIndexSl at h;simp only[AD,AA] at h;obtain⟨⟨x,bx⟩,hx,h⟩:=h;have sl:∀y ks,y < g.n->Bk (Bt T W m w) w (.list ks) (T y) v->i.size=ks.length->r={ c:= .rp y x 0 ks,m,us:=bx,ps:=[⟨ "inl",XA,[V,.e y]⟩] }->
   ∃z,(Instr.indexAt t v (.int k n)).run P w= .ok z w/\r.m=m/\BQ T (g.n+r.us.length) W m w r.c z:=by
  intro y ks hy bs J hr;subst hr;have K:=QT hx a3 a1;have D:=a4 ⟨ "inl",XA,[V,.e y]⟩ (by simp);obtain⟨l,hl,_,_,a,I,rfl,_,h5⟩:=bs;simp only[Pr.holds,XA,u0,u1,AT,An,a5,eve,hl,U.toI,U.toL] at D;obtain⟨b,o,rfl,h6⟩:=h5 (by omega);have a2:n.toNat < l.length:=by omega
  refine⟨_,Qx hu a0 b o l.length I k n D.1 D.2,rfl,⟨by simp only;omega,K.1⟩,n,b,o,l[n.toNat],K.2,D.1,?_,?_,?_⟩
  .rw[hl];exact AF a2
  .simp only[J,Nat.add_zero]
  .exact h6 n.toNat _ (AF a2)
 cases p<;>simp only at h
 case ro y ks=>
  split at h
  .rename_i J;exact sl y ks E.1 E.2 J (by cases h;rfl)
  .cases h
 case vec id y ks=>
  split at h
  .rename_i J;exact sl y ks E.1 E.2.2.1 J (by cases h;rfl)
  .cases h
 case mr id y=>
  cases h;have K:=QT hx a3 a1;obtain⟨⟨h0,bb⟩,L,a,I,hy,⟨b2,b3⟩,rfl,⟨b4,hb⟩,hl⟩:=E;have D:=a4 ⟨ "in",pIn,[V,.e y]⟩ (by simp);simp only[Pr.holds,pIn,u0,u1,AT,An,a5,eve,hy,U.toI] at D;obtain⟨b,rfl⟩:=hb (by omega);refine⟨_,Qx hu a0 b 0 L.toNat I k n D.1 (by omega),rfl,⟨by simp only;omega,K.1,bb⟩,n,L,b,K.2,hy,D,by simp,fun aw bt e2 hk=>?_⟩;rcases hl aw bt e2 hk with⟨_,b5⟩|⟨b',Y,af,aj,_,_⟩
  .omega
  .cases aj;exact af
 all_goals cases h
theorem MF (h:Dy P t p am m g=some r)(a0:New T g.n r.us)(a1:∀q∈r.ps,q.holds T)(K:BQ T g.n W m w p v)
  (aw:BQ T g.n W m w am u):∃y,(Instr.indexAt t v u).run P w= .ok y w/\r.m=m/\BQ T (g.n+r.us.length) W m w r.c y:=by
 unfold Dy at h;simp only[AD,AA] at h;obtain⟨⟨k,ar,ab,rn⟩,a5,h⟩:=h;obtain⟨n,rfl,a2,ba,a9⟩:=Cw a5 aw;simp only at h;split at h
 .rename_i len e J;simp only[AA] at h;obtain⟨i,E,h⟩:=h;split at h
  .cases h
  .rename_i hz;split at h
   .rename_i hc;obtain rfl:n=ar:=by omega
    split at h
    .rename_i z;cases p<;>simp only at h
     case ptr id off=>
      cases h;obtain⟨b,O,rfl,D⟩:=K;exact⟨_,IV J E b off k n z.1 z.2,rfl,b,O,rfl,D⟩
     case pix id base B aO x aG=>
      cases h;obtain⟨V,b,j,O,C,D,h4,rfl,h5⟩:=K;exact⟨_,IV J E b _ k n z.1 z.2,rfl,V,b,j,O,C,D,h4,by rw[Nat.add_assoc],h5⟩
     case rp x t off ks=>
      cases h;obtain⟨V,j,b,o,us,O,C,D,rfl,h5⟩:=K;exact⟨_,IV J E b _ k n z.1 z.2,rfl,V,j,b,o,us,O,C,D,by rw[Nat.add_assoc],h5⟩
     case mp id y t sz off=>
      cases h;obtain⟨V,j,L,b,O,C,D,rfl,h5⟩:=K;exact⟨_,IV J E b _ k n z.1 z.2,rfl,V,j,L,b,O,C,D,by rw[Nat.add_assoc],h5⟩
     all_goals cases h
    .cases h
   .cases p<;>simp only at h
    case ptr id off=>
     simp only[AA] at h;obtain⟨⟨x,bi⟩,hx,h⟩:=h;cases h;obtain⟨b,O,rfl,D⟩:=K;have a3:=QT hx a0 aw;have z:0<=n/\n < (len:Int):=by
      by_cases hc:0<=ar/\ab < len
      .omega
      .have:=a1 ⟨ "in",pIn,[rn,.c (.int len)]⟩ (by simp[hc]);simpa [Pr.holds,pIn,u0,u1,a2,evc,U.toI] using this
     exact⟨_,IV J E b off k n z.1 z.2,rfl,a3.1,b,n,O,a3.2,z.1,z.2,rfl,D⟩
    all_goals cases h
 .rename_i e J;simp only[AA] at h;obtain⟨i,E,h⟩:=h;split at h
  .rename_i hc;obtain rfl:n=ar:=by omega
   split at h
   .rename_i id off len;split at h
    .rename_i z;cases h;obtain⟨b,O,rfl,D⟩:=K;exact⟨_,Qx J E b off len len k n z.1 z.2,rfl,b,O,rfl,D⟩
    .cases h
   .exact Tm J E a2 h a0 a1 K aw
  .exact Tm J E a2 h a0 a1 K aw
 .cases h
theorem U4 {n:Nat}{l:List AC}{Y:List Value}{off:Nat}(h:Eng.apart P t l off=some c)(z:BR T n W m w l Y):
  ∃u,(part t Y.toArray off).run P w= .ok u w/\BQ T n W m w c u:=by
 unfold Eng.apart at h;simp only[AD,AA] at h;obtain⟨⟨size,a7⟩,aa,h⟩:=h;unfold GH at aa;cases ab:P.info? t with
 |none=>rw[ab] at aa;simp at aa
 |some i=>
  cases q:P.underlying t with
  |none=>rw[ab,q] at aa;simp at aa
  |some d=>
   rw[ab,q] at aa;cases d<;>simp at aa<;>obtain⟨O,C⟩:=aa<;>subst C<;>subst O
   case struct E=>
    simp at h;obtain⟨D,h⟩:=h;subst h;refine⟨.agg ((Y.drop off).take i.size).toArray,?_,_,rfl,(z.drop off).take i.size⟩;simp[part,isAgg,run_underlying q,Cc ab,List.extract_eq_take_drop]
   case array k e=>
    simp at h;obtain⟨D,h⟩:=h;subst h;refine⟨.agg ((Y.drop off).take i.size).toArray,?_,_,rfl,(z.drop off).take i.size⟩;simp[part,isAgg,run_underlying q,Cc ab,List.extract_eq_take_drop]
   all_goals
    simp at h;obtain⟨u,O,C⟩:=z.get h;exact⟨u,by simp[part,isAgg,run_underlying q,O],C⟩
theorem So {f:Nat}(h:bX P s c f m=some r)(q:BQ T g.n W m w c v):
  ∃u,(Instr.field s v f).run P w= .ok u w/\r.m=m/\r.us=[]/\BQ T g.n W m w r.c u:=by
 unfold bX at h;split at h
 .rename_i K l E;simp only[AD,AA] at h;obtain⟨J,z,d,hd,h⟩:=h;cases h;obtain⟨Y,rfl,D⟩:=q;obtain⟨u,O,C⟩:=U4 (P:=P) hd D;exact⟨u,by simp[Instr.field,run_underlying E,z,asAgg,O],rfl,rfl,C⟩
 .cases h
theorem Rt {len:Nat}(q:P.underlying t=some (.array len e))(ab:P.info? e=some i)(aC:Array Value)(k:IntKind)(n:Int)(h:0<=n)(O:n < len):
  (Instr.index t (.agg aC) (.int k n)).run P w=(part e aC (n.toNat*i.size)).run P w:=by
 simp[Instr.index,asIntOf,run_underlying q,Cc ab,h,O]
theorem SB (h:bp P t x am m g=some r)(a2:New T g.n r.us)(bo:∀q∈r.ps,q.holds T)(hx:BQ T g.n W m w x v)
  (bi:BQ T g.n W m w am u):∃y,(Instr.index t v u).run P w= .ok y w/\r.m=m/\(BQ T g.n W m w r.c y\/BQ T (g.n+r.us.length) W m w r.c y):=by
 unfold bp at h;simp only[AD,AA] at h;obtain⟨⟨k,ar,ab,rn⟩,a1,h⟩:=h;obtain⟨n,rfl,bt,cs,cj⟩:=Cw a1 bi;simp only at h;split at h
 .rename_i len e l V;simp only[AA] at h;obtain⟨i,a0,h⟩:=h;obtain⟨Y,rfl,D⟩:=hx;split at h
  .rename_i E;obtain rfl:n=ar:=by omega
   split at h
   .rename_i z;simp only[AA] at h;obtain⟨d,hd,h⟩:=h;cases h;obtain⟨y,O,C⟩:=U4 (P:=P) hd D;exact⟨y,by rw[Rt V a0 _ k n z.1 z.2];exact O,rfl,.inl C⟩
   .cases h
  .simp only[AA] at h;obtain⟨⟨size,a7⟩,aa,h⟩:=h;simp only at h;split at h
   .rename_i a4;cases am<;>simp only at h
    case i k' cx cl xi=>
     simp only[DV] at a1;cases a1;obtain⟨ca,ap,hT,ee,_⟩:=bi;cases ee;have bs:r.ps=(if 0<=ar/\ab < len then [] else [⟨ "in",pIn,[.e xi,.c (.int len)]⟩])->0<=n/\n < (len:Int):=by
      intro a3;by_cases E:0<=ar/\ab < len
      .omega
      .have:=bo ⟨ "in",pIn,[.e xi,.c (.int len)]⟩ (by rw[a3];simp[E]);simpa [Pr.holds,pIn,u0,u1,evc,eve,U.toI,hT] using this
     split at h
     .rename_i ax;subst ax;simp only[AA] at h;obtain⟨M,ba,⟨ls,cc⟩,b8,h⟩:=h;cases h;have z:=bs rfl;have bl:n.toNat < len:=by omega
      have bm:=Wh ba bl;rw[<-D.length] at bm;have b7:=Va (ap:=g.n+cc.length) ba b8 a2 (AE _) hT z.1 bl D bm;have K:DI P e=true/\∃ie,P.info? e=some ie/\ie.size=size:=by
       unfold GH at aa;unfold DI;split at aa<;>cases aa<;>simp_all
      obtain⟨K,ie,bb,bc⟩:=K;refine⟨.agg ((Y.drop (n.toNat*size)).take size).toArray,?_,rfl,.inr ⟨_,rfl,?_⟩⟩
      .rw[Rt V a0 _ k n z.1 z.2,a4];unfold DI at K;split at K
       .rename_i fs a5;simp[part,isAgg,run_underlying a5,Cc bb,bc,List.extract_eq_take_drop]
       .rename_i ce cf a5;simp[part,isAgg,run_underlying a5,Cc bb,bc,List.extract_eq_take_drop]
       .cases K
      .simpa using b7
     .rename_i ax;simp only[AA] at h;obtain⟨aC,a9,h⟩:=h;have b3:a7=false:=by simpa using ax
      subst b3;have b9:=NJ aa rfl;subst b9;have a3:r.ps=if 0<=ar/\ab < len then [] else [⟨ "in",pIn,[.e xi,.c (.int len)]⟩]:=by
       unfold Lf at h;split at h
       .split at h
        .cases h
        .cases h;rfl
       .split at h
        .cases h;rfl
        .cases h
      have z:=bs a3;have al:=Qv a9 n.toNat (by omega);simp only[Nat.mul_one,AM,Nat.add_zero] at al;have b6:∃c,l[n.toNat]? =some c:=by
       rw[<-al];exact⟨_,AF (by rw[(Fx _ _ _ a9).1];simp;omega)⟩
      obtain⟨c,E⟩:=b6;rw[E] at al;have b4:Eng.apart P e l n.toNat=some c:=by
       unfold Eng.apart;simp[aa,E]
      obtain⟨y,O,C⟩:=U4 (P:=P) b4 D;refine⟨y,by rw[Rt V a0 _ k n z.1 z.2,a4,Nat.mul_one];exact O,?_⟩;obtain⟨f1,_,f3⟩:=R2 h a2 ca hT z.1 al C;exact⟨f1,.inr f3⟩
    all_goals cases h
   .cases h
 .rename_i y V;cases h;obtain⟨hy,s,aa,rfl,a4⟩:=hx;have O:=bo ⟨ "ins",kN,[.e y,rn]⟩ (by simp);simp only[Pr.holds,kN,AT,An,u0,u1,eve,aa,bt,U.toS,U.toI] at O;obtain⟨C,h3⟩:=O;have J:n.toNat < s.size:=by omega
  have hb:s[n.toNat]? =some (s[n.toNat]'J):=getElem?_pos s n.toNat J;refine⟨.int .u8 ((s[n.toNat]'J).toNat:Int),?_,rfl,.inr ⟨by simp,C4 s n.toNat,?_,?_,?_,?_⟩⟩
  .simp[Instr.index,asIntOf,run_underlying V,BH C,hb]
  .rw[a2.head];simp only[Ex.eval,AT,An,tx,u0,u1,eve,aa,bt,U.toS,U.toI]
  .have e:C4 s n.toNat=((s[n.toNat]'J).toNat:Int):=by
    unfold C4;have D:n.toNat < s.data.toList.length:=by simpa using J
    rw[AY,AF D];rfl
   rw[e]
  .unfold C4;omega
  .unfold C4;have:=(s.data.toList.getD n.toNat 0).toNat_lt;omega
 .cases h
theorem PM {i:Nat}(h:P1 x i m=some r)(D:BQ T g.n W m w x v):
  ∃u,(Instr.extract v i).run P w= .ok u w/\r.m=m/\r.us=[]/\BQ T g.n W m w r.c u:=by
 cases x<;>simp only[P1] at h
 case tup l=>
  simp only[AX] at h;obtain⟨c,q,h⟩:=h;cases h;obtain⟨Y,rfl,z⟩:=D;obtain⟨u,O,C⟩:=z.get q;exact⟨u,by simp[Instr.extract,O],rfl,rfl,C⟩
 all_goals cases h
theorem cr {op:UnOp}(h:aUn op x m g=some r)(K:New T g.n r.us)(q:BQ T g.n W m w x v):
  ∃u,(Op.unary op v).run P w= .ok u w/\r.m=m/\BQ T (g.n+r.us.length) W m w r.c u:=by
 cases op<;>simp only[aUn] at h
 case not=>
  cases x<;>simp only at h<;>cases h
  case cb=>rw[show v=_ from q];exact⟨_,rfl,rfl,rfl⟩
  case b=>
   obtain⟨E,b,O,rfl⟩:=q;exact⟨_,rfl,rfl,by simp;omega,b,O,rfl⟩
  case nb=>
   obtain⟨E,b,O,rfl⟩:=q;exact⟨_,rfl,rfl,by simp;omega,b,O,by simp⟩
 case neg=>
  simp only[AD,AA] at h;obtain⟨⟨k,ar,ab,rn⟩,J,h⟩:=h;obtain⟨n,rfl,V,ax,aw⟩:=Cw J q;cases h;have z:=Lr (T:=T) k (ar:=0 - ab) (ab:=0 - ar) (n:=0 - n) (e:=⟨ "neg",au,[rn]⟩) (by simp[Ex.eval,au,u0,V,U.toI]) (by omega) (by omega);refine⟨.int k (k.wrap (0 - n)),by simp[Op.unary,Op.intArith],LT,Ie K z.val z.lo z.hi (fun y D=>?_)⟩;unfold rng at D;split at D<;>cases D
 all_goals cases h
theorem gx {n:Nat}{ar ab:Int}{r:Rf}(h:DV c=some (k,ar,ab,r))(z:BQ T n W m w c v):∀y,Vx.rf r= .rf (.e y)->y < n:=by
 intro y q;cases c<;>simp only[DV] at h<;>cases h
 .cases q
 .cases q;exact z.1
theorem O1 {z a1:TypeId}(h:Ut P z a1 x m g=some r)(E:New T g.n r.us)(K:BQ T g.n W m w x v):
  ∃u,(convert z a1 v).run P w= .ok u w/\r.m=m/\BQ T (g.n+r.us.length) W m w r.c u:=by
 unfold Ut at h;split at h
 .rename_i d k aa hd;simp only[AD,AA] at h;obtain⟨⟨k',ar,ab,rn⟩,D,h⟩:=h;obtain⟨n,rfl,J,al,V⟩:=Cw D K;have q:(convert z a1 (.int k' n)).run P w= .ok (.int k (k.wrap n)) w:=by
   simp only[convert,Ar,run_underlying aa,run_underlying hd,Aq];cases d<;>rfl
  simp only at h;split at h
  .rename_i hr;rw[GO k n (by omega) (by omega)] at q;cases h;exact⟨_,q,LT,Ie E J al V (gx D K)⟩
  .cases h;have:=Fa k n;exact⟨_,q,LT,Ie E (by simp[Vx.eval,Ex.eval,LM,oId,u0,J,U.toI]) this.1 this.2 (fun y hy=>by cases hy)⟩
 .cases h
theorem Vk {k:Bool}{r:Rf}(h:KI c=some (some k,r)):r= .c (.bool k):=by
 cases c<;>simp only[KI] at h<;>cases h;rfl
theorem QB {a b:AC}{K aT vb:Value}(h:Z4 c a b m g=some r)(a1:New T g.n r.us)(hm:BX T g.n W m w)(hc:BQ T g.n W m w c K)
  (ha:K= .bool true->BQ T g.n W m w a aT) (D:K= .bool false->BQ T g.n W m w b vb):
  ∃q,K= .bool q/\r.m=m/\BQ T (g.n+r.us.length) W m w r.c (if q then aT else vb):=by
 unfold Z4 at h;simp only[AD,AA] at h;obtain⟨⟨k,rq⟩,a4,h⟩:=h;obtain⟨q,rfl,E,J⟩:=FS a4 hc;refine⟨q,rfl,?_⟩;cases k with
 |some k=>
  have:=J k rfl;subst this;cases q with
  |true=>simp only at h;cases h;exact⟨rfl,(ha rfl).up hm (by simp)⟩
  |false=>simp only at h;cases h;exact⟨rfl,(D rfl).up hm (by simp)⟩
 |none=>
  simp only at h;split at h
  .rename_i ka ry kb rz hy hz;cases h;refine⟨TH,?_⟩;have a9:q=true->∃y,aT= .bool y/\ry.eval T= .bool y:=fun hq=>by
    obtain⟨y,V,z,_⟩:=FS hy (ha (by rw[hq]));exact⟨y,V,z⟩
   have ba:q=false->∃y,vb= .bool y/\rz.eval T= .bool y:=fun hq=>by
    obtain⟨y,V,z,_⟩:=FS hz (D (by rw[hq]));exact⟨y,V,z⟩
   cases q with
   |true=>
    obtain⟨y,rfl,z⟩:=a9 rfl;refine NQ a1 (fun _=>?_) (fun b D=>by cases D);split
    .rename_i J;subst J;have:=Vk hy;subst this;cases z;simp[Ex.eval,oOr,u0,u1,E,U.toB]
    .split
     .simp[Ex.eval,R9,u0,u1,E,z,U.toB]
     .simp[Ex.eval,kE,u0,u1,u2,E,z,U.toB]
   |false=>
    obtain⟨y,rfl,z⟩:=ba rfl;refine NQ a1 (fun _=>?_) (fun b D=>by cases D);split
    .simp[Ex.eval,oOr,u0,u1,E,z,U.toB]
    .split
     .rename_i J;subst J;have:=Vk hz;subst this;cases z;simp[Ex.eval,R9,u0,u1,E,U.toB]
     .simp[Ex.eval,kE,u0,u1,u2,E,z,U.toB]
  .cases h
theorem M5 {D:Bool}{y:AC}(h:dt D x y m g=some r)(E:New T g.n r.us)(hx:BQ T g.n W m w x v)(q:BQ T g.n W m w y u)(au:Array TypeId)(t:TypeId):
  ∃z,(if D then Builtin.max_ au t #[v,u] else Builtin.min_ au t #[v,u]).run P w= .ok z w/\r.m=m/\BQ T (g.n+r.us.length) W m w r.c z:=by
 unfold dt at h;simp only[AD,AA] at h;obtain⟨⟨k,af,O,aB⟩,ax,⟨k',aj,C,aJ⟩,a0,h⟩:=h;obtain⟨av,rfl,K,a1,b1⟩:=Cw ax hx;obtain⟨aD,rfl,V,a2,b2⟩:=Cw a0 q;have aE:∀J f,(ex2 J f aB aJ).eval T= .int (f av aD):=fun J f=>by simp[ex2,Ex.eval,o2,u0,u1,K,V,U.toI]
 simp only at h;split at h
 .rename_i hk;subst hk;cases D with
  |true=>
   simp only[if_true] at h⊢;cases h;refine⟨.int k (XT av aD),?_,LT,Ie E (aE _ _) (by simp[XT];omega) (by simp[XT];omega) (fun y q=>by cases q)⟩;rw[run_max_int2];simp only[XT];congr 2;split<;>omega
  |false=>
   simp only[if_false,AZ] at h⊢;cases h;refine⟨.int k (XD av aD),?_,LT,Ie E (aE _ _) (by simp[XD];omega) (by simp[XD];omega) (fun y q=>by cases q)⟩;rw[run_min_int2];simp only[XD];congr 2;split<;>omega
 .cases h
theorem Rx {u:U}(h:u.toB=true):u= .bool true:=by
 cases u<;>simp[U.toB] at h;rw[h]
theorem Se {a:Act}{o:Oper}{y:Operand}(h:Hk x m=some r)(ax:∀q∈r.ps,q.holds T)(V:BX T g.n W m w)(ho:o.op= .nilCheck y)
  (hv:a.eval y=v) (K:BQ T g.n W m w x v):CR T g W m w ((execOp a.eval o).run P w) r:=by
 have al:∀b off,v= .pointer (some ⟨b,off,none⟩)->(execOp a.eval o).run P w= .ok (.value v) w:=by
  intro b off e;simp[execOp,ho,hv,e]
 unfold Hk at h;split at h
 .rename_i c id off;cases h;have hc:T c= .bool true:=Rx (ax ⟨ "t",pT,[.e c]⟩ (by simp));have:=K.2 hc;obtain⟨b,O,C,z⟩:=this;exact CR.same (al _ _ C) V rfl ⟨b,O,C,z⟩
 .rename_i c x t off ks;cases h;have hc:T c= .bool true:=Rx (ax ⟨ "t",pT,[.e c]⟩ (by simp));have:=K.2 hc;obtain⟨E,j,b,o',us,O,C,z,D,J⟩:=this;exact CR.same (al _ _ D) V rfl ⟨E,j,b,o',us,O,C,z,D,J⟩
 .rename_i c id y t sz off;cases h;have hc:T c= .bool true:=Rx (ax ⟨ "t",pT,[.e c]⟩ (by simp));have:=K.2 hc;obtain⟨E,j,L,b,O,C,z,D,J⟩:=this;exact CR.same (al _ _ D) V rfl ⟨E,j,L,b,O,C,z,D,J⟩
 .cases h;obtain⟨b,O,C,z⟩:=K;exact CR.same (al _ _ C) V rfl ⟨b,O,C,z⟩
 .cases h;obtain⟨E,b,j,O,C,z,h4,D,J⟩:=K;exact CR.same (al _ _ D) V rfl ⟨E,b,j,O,C,z,h4,D,J⟩
 .cases h;obtain⟨E,j,b,o',us,O,C,z,D,J⟩:=K;exact CR.same (al _ _ D) V rfl ⟨E,j,b,o',us,O,C,z,D,J⟩
 .cases h;obtain⟨E,j,L,b,O,C,z,D,J⟩:=K;exact CR.same (al _ _ D) V rfl ⟨E,j,L,b,O,C,z,D,J⟩
 .cases h;have a4:=K;obtain⟨Y,us,O,C,z⟩:=K;refine CR.same ?_ V rfl a4;simp[execOp,ho,hv,O]
 .cases h
end
inductive KE:List Ek->List Value->List Value->Bool->Prop where
 |nil:KE [] [] [] true
 |int {ks us vs r} (k:IntKind) (a b:Int):KE ks us vs r->KE (.int::ks) (.int k a::us) (.int k b::vs) ((a==b)&&r)
 |bool {ks us vs r} (a b:Bool):KE ks us vs r->KE (.bool::ks) (.bool a::us) (.bool b::vs) ((a==b)&&r)
 |str {ks us vs r} (a b:ByteArray):KE ks us vs r->KE (.str::ks) (.string a::us) (.string b::vs) (decide (a=b)&&r)
theorem Jv (a b:ByteArray):(a.toList==b.toList)=decide (a=b):=by
 by_cases h:a=b
 .subst h;simp
 .rw[decide_eq_false h,beq_eq_false_iff_ne];intro q;refine h ?_;have:a.data.toList=b.data.toList:=by simpa [ByteArray.toList_eq] using q
  cases a;cases b;simp at this;rw[this]
theorem KE.length {ks us Y r}(h:KE ks us Y r):us.length=ks.length/\Y.length=ks.length:=by
 induction h with
 |nil=>simp
 |int _ _ _ _ q=>simp[q]
 |bool _ _ _ q=>simp[q]
 |str _ _ _ q=>simp[q]
theorem KE.split:∀{k1 E us Y r},KE (k1++E) us Y r->∃aB aJ,KE k1 (us.take k1.length) (Y.take k1.length) aB/\KE E (us.drop k1.length) (Y.drop k1.length) aJ/\r=(aB&&aJ)
 |[],E,us,Y,r,h=>⟨true,r,.nil,h,by simp⟩
 |k::k1,E,us,Y,r,h=>by
  cases h with
  |int al a b h=>
   obtain⟨aB,aJ,O,C,rfl⟩:=KE.split h;exact⟨(a==b)&&aB,aJ,.int al a b O,C,by rw[Bool.and_assoc]⟩
  |bool a b h=>
   obtain⟨aB,aJ,O,C,rfl⟩:=KE.split h;exact⟨(a==b)&&aB,aJ,.bool a b O,C,by rw[Bool.and_assoc]⟩
  |str a b h=>
   obtain⟨aB,aJ,O,C,rfl⟩:=KE.split h;exact⟨decide (a=b)&&aB,aJ,.str a b O,C,by rw[Bool.and_assoc]⟩
section
variable {P:Program}{T:Tab}{W :Nat->Option Nat}{m:Mem}{w:World}{g:G}{r:R}
def CN (P:Program)(t:TypeId)(us:List Value):Value:=
 match P.underlying t with
 |some (.struct _)|some (.array _ _)=> .agg us.toArray
 |_=>us.headD undef
theorem Kx {t:TypeId}{ks:List Ek}{d:Nat}(q:C3 P d t=some ks)(aa:P.cellsOf t=ks.length)(us:List Value)(off:Nat)(z:off+ks.length<=us.length):
  (part t us.toArray off).run P w= .ok (CN P t ((us.drop off).take ks.length)) w:=by
 have size:(∃i,P.info? t=some i)->(sizeOf t).run P w= .ok ks.length w:=by
  rintro⟨i,ab⟩;rw[Cc ab];simp[Program.cellsOf,ab] at aa;rw[aa]
 have E:∀D,P.underlying t=some D->∃i,P.info? t=some i:=by
  intro D h;cases ab:P.info? t with
  |some i=>exact⟨i,rfl⟩
  |none=>simp[Program.underlying,ab] at h
 cases d with
 |zero=>cases q
 |succ d=>
  simp only[C3] at q;split at q
  .rename_i h;cases q;have:off < us.length:=by simp at z;omega
   have e:(us.drop off).take 1=[us[off]]:=by
    rw[List.drop_eq_getElem_cons this];rfl
   simp[part,isAgg,run_underlying h,CN,h,this,e]
  .rename_i k h;cases q;have:off < us.length:=by simp at z;omega
   have e:(us.drop off).take 1=[us[off]]:=by
    rw[List.drop_eq_getElem_cons this];rfl
   simp[part,isAgg,run_underlying h,CN,h,this,e]
  .rename_i h;cases q;have:off < us.length:=by simp at z;omega
   have e:(us.drop off).take 1=[us[off]]:=by
    rw[List.drop_eq_getElem_cons this];rfl
   simp[part,isAgg,run_underlying h,CN,h,this,e]
  .rename_i J h;simp[part,isAgg,run_underlying h,CN,h,size (E _ h),List.extract_eq_take_drop]
  .rename_i n e h;simp[part,isAgg,run_underlying h,CN,h,size (E _ h),List.extract_eq_take_drop]
  .cases q
theorem T8 {d D:Nat}(ih:∀(t:TypeId) (ks:List Ek) (us Y:List Value) (q:Bool),C3 P d t=some ks->KE ks us Y q->(Op.equalIn D t (CN P t us) (CN P t Y)).run P w= .ok q w)
  (U V:List Value):∀(z:List Field) (off:Nat) (ks:List Ek) (q:Bool),H5 P (C3 P d) z off=some ks->KE ks (U.drop off) (V.drop off) q->off+ks.length<=U.length->off+ks.length<=V.length->
  (Op.eqFields D U.toArray V.toArray z).run P w= .ok q w
 |[],off,ks,q,h,hk,_,_=>by
  simp only[H5] at h;cases h;cases hu:U.drop off<;>cases hv:V.drop off<;>rw[hu,hv] at hk<;>cases hk;simp[Op.eqFields]
 |f::z,off,ks,q,h,hk,hU,hV=>by
  simp only[H5,AD] at h;split at h
  .rename_i hc;simp only[AA] at h;obtain⟨k1,O,h⟩:=h;split at h
   .rename_i K;simp only[AA] at h;obtain⟨E,C,h⟩:=h;cases h;simp only[AP] at hU hV;obtain⟨q1,q2,e1,J,rfl⟩:=hk.split;rw[A7,A7] at J;have a3:=T8 ih U V z (off+k1.length) E q2 C J (by omega) (by omega);obtain⟨rfl,hn⟩:=hc;simp only[Op.eqFields,hn,ne_eq,not_false_eq_true,if_true,Ar,Kx O K U f.offset (by omega),Kx O K V f.offset (by omega),Aq,ih f.type k1 _ _ q1 O e1];cases q1 with
    |true=>simpa using a3
    |false=>simp
   .cases h
  .cases h
theorem Wc {d D:Nat}{e:TypeId}{h:List Ek}(O:C3 P d e=some h)(z:P.cellsOf e=h.length)
  (K:∀(us Y:List Value) (q:Bool),KE h us Y q->(Op.equalIn D e (CN P e us) (CN P e Y)).run P w= .ok q w)
  (U V:List Value):∀(n s:Nat) (q:Bool),KE (List.replicate n h).flatten (U.drop (s*h.length)) (V.drop (s*h.length)) q->(s+n)*h.length<=U.length->(s+n)*h.length<=V.length->
  (Op.eqItems D e (P.cellsOf e) U.toArray V.toArray (List.range' s n)).run P w= .ok q w
 |0,s,q,hk,_,_=>by
  simp only[List.replicate_zero,List.flatten_nil] at hk;cases hu:U.drop (s*h.length)<;>cases hv:V.drop (s*h.length)<;>rw[hu,hv] at hk<;>cases hk;simp[Op.eqItems]
 |n+1,s,q,hk,hU,hV=>by
  simp only[List.replicate_succ,BK] at hk;obtain⟨q1,q2,e1,E,rfl⟩:=hk.split;rw[A7,A7,show s*h.length+h.length=(s+1)*h.length by rw[Af,Nat.one_mul]] at E;have b1:s*h.length+h.length<=U.length:=by
   have:(s+1)*h.length<=(s+(n+1))*h.length:=Ab _ (by omega);rw[Af,Nat.one_mul] at this;omega
  have b2:s*h.length+h.length<=V.length:=by
   have:(s+1)*h.length<=(s+(n+1))*h.length:=Ab _ (by omega);rw[Af,Nat.one_mul] at this;omega
  have J:=Wc O z K U V n (s+1) q2 E (by rw[show s+1+n=s+(n+1) by omega];exact hU) (by rw[show s+1+n=s+(n+1) by omega];exact hV);simp only[List.range'_succ,Op.eqItems,Ar,z,Kx O z U (s*h.length) b1,Kx O z V (s*h.length) b2,Aq,K _ _ q1 e1];rw[z] at J;cases q1 with
  |true=>simpa using J
  |false=>simp
theorem Mt:∀(d D:Nat) (t:TypeId) (ks:List Ek) (us Y:List Value) (q:Bool),d<=D->C3 P d t=some ks->KE ks us Y q->
  (Op.equalIn D t (CN P t us) (CN P t Y)).run P w= .ok q w
 |0,_,_,_,_,_,_,_,h,_=>by cases h
 |d+1,0,_,_,_,_,_,hd,_,_=>by omega
 |d+1,D+1,t,ks,us,Y,q,hd,h,E=>by
  simp only[C3] at h;split at h
  .rename_i z;cases h;cases E with
   |bool a b E=>
    cases E;simp[CN,z,run_equalIn_bool w D t a b z]
  .rename_i k z;cases h;cases E with
   |int k' a b E=>
    cases E;simp only[CN,z,List.headD_cons];rw[run_equalIn_int w D t k' k a b z];simp
  .rename_i z;cases h;cases E with
   |str a b E=>
    cases E;simp only[CN,z,List.headD_cons];rw[run_equalIn_string w D t a b z];simp[Jv]
  .rename_i K z;split at h
   .cases h
   .rename_i al;have J:=E.length;have V:P.fieldsOf t=K:=by simp[Program.fieldsOf,z]
    simp only[CN,z];rw[run_equalIn_struct w D t us.toArray Y.toArray (by rw[V];exact z) (by simpa using al),V];exact T8 (d:=d) (D:=D) (fun t ks us Y q O C=>Mt d D t ks us Y q (by omega) O C) us Y K.toList 0 ks q h (by simpa using E) (by omega) (by omega)
  .rename_i n e z;simp only[AD,AA] at h;obtain⟨k1,O,h⟩:=h;split at h
   .rename_i aw;cases h;have J:=E.length;have ab:∃i,P.info? e=some i:=by
     cases ab:P.info? e with
     |some i=>exact⟨i,rfl⟩
     |none=>
      cases d with
      |zero=>cases O
      |succ d=>simp[C3,Program.underlying,ab] at O
    obtain⟨i,ab⟩:=ab;simp only[CN,z];rw[run_equalIn_array w D us.toArray Y.toArray z ab,List.range_eq_range'];refine Wc O aw (fun us Y q C=>Mt d D e k1 us Y q (by omega) O C) us Y n 0 q (by simpa using E) ?_ ?_
    .rw[J.1];simp
    .rw[J.2];simp
   .cases h
  .cases h
theorem Kq {n:Nat}{c:AC}{v:Value}{k:Option ByteArray}{r:Rf}(q:Ui c=some (k,r))(h:BQ T n W m w c v):
  ∃i,v= .string i/\r.eval T= .str i/\∀b,k=some b->i=b:=by
 cases c<;>simp only[Ui] at q
 case s x=>
  cases q;obtain⟨D,i,O,C,_⟩:=h;exact⟨i,C,O,fun b z=>by cases z⟩
 case cv c=>
  cases c<;>simp only at q
  case str s=>
   split at q
   .cases q;exact⟨s,h,rfl,fun b z=>by cases z;rfl⟩
   .cases q
  all_goals cases q
 all_goals cases q
theorem dL:∀(l ak:List U),l.length % 2=0->HI (l++ak)=(HI l&&HI ak)
 |[],ak,_=>by simp[HI]
 |[_],_,h=>by simp at h
 |a::b::l,ak,h=>by
  simp only[List.cons_append,HI];rw[dL l ak (by simp at h;omega),Bool.and_assoc]
theorem aK {n:Nat}{c d:AC}{u v:Value}{k:Option Bool}{ah:List Rf}(h:ceq c d=some (k,ah))(V:BQ T n W m w c u)(hd:BQ T n W m w d v):
  ∃b,((∃al x y,u= .int al x/\v= .int al y/\b=(x==y))\/(∃x y,u= .bool x/\v= .bool y/\b=(x==y))\/(∃x y,u= .string x/\v= .string y/\b=decide (x=y)))/\(∀q,k=some q->b=q)/\(k=none->HI (ah.map (Rf.eval T))=b/\ah.length % 2=0):=by
 unfold ceq at h;split at h
 .rename_i k1 af O av E aj C aD z D;split at h
  .rename_i hk;subst hk;obtain⟨x,rfl,J,a1,b1⟩:=Cw z V;obtain⟨y,rfl,K,a2,b2⟩:=Cw D hd;refine⟨x==y,.inl ⟨_,_,_,rfl,rfl,rfl⟩,?_⟩;split at h
   .rename_i he;have:=AC.beq_eq _ _ he;grind
   .split at h
    .grind
    .cases h;refine⟨fun q hq=>(by cases hq),fun _=>⟨?_,by simp⟩⟩;simp[HI,U.eqv,J,K];rfl
  .cases h
 .split at h
  .rename_i x rx y ry z D;cases h;obtain⟨L,rfl,J,q1⟩:=FS z V;obtain⟨aF,rfl,K,q2⟩:=FS D hd;grind
  .rename_i kx rx ky ry _ z D;obtain⟨L,rfl,J,_⟩:=FS z V;obtain⟨aF,rfl,K,_⟩:=FS D hd;refine⟨L==aF,.inr (.inl ⟨_,_,rfl,rfl,rfl⟩),?_⟩;split at h
   .rename_i he;have:=AC.beq_eq _ _ he;grind
   .cases h;exact⟨fun q hq=>(by cases hq),fun _=>⟨by simp[HI,U.eqv,J,K],by simp⟩⟩
  .split at h
   .rename_i x rx y ry z D;cases h;obtain⟨L,rfl,J,q1⟩:=Kq z V;obtain⟨aF,rfl,K,q2⟩:=Kq D hd;grind
   .rename_i kx rx ky ry _ z D;obtain⟨L,rfl,J,_⟩:=Kq z V;obtain⟨aF,rfl,K,_⟩:=Kq D hd;refine⟨decide (L=aF),.inr (.inr ⟨_,_,rfl,rfl,rfl⟩),?_⟩;split at h
    .rename_i he;have:=AC.beq_eq _ _ he;grind
    .cases h;exact⟨fun q hq=>(by cases hq),fun _=>⟨by simp[HI,U.eqv,J,K],by simp⟩⟩
   .cases h
theorem gv {n:Nat}:∀{ks:List Ek} {l ak:List AC} {xs an:List Value} {k:Option Bool} {ah:List Rf},aQ l ak=some (k,ah)->S8 ks l=true->
  BR T n W m w l xs->BR T n W m w ak an->∃b,KE ks xs an b/\(∀q,k=some q->b=q)/\(k=none->HI (ah.map (Rf.eval T))=b/\ah.length % 2=0)
 |ks,[],[],xs,an,k,ah,h,hk,hx,hy=>by
  simp only[aQ] at h;cases h;cases ks with
  |nil=>rw[show xs=[] from hx,show an=[] from hy];exact⟨true,.nil,fun q J=>(by cases J;rfl),fun h=>(by cases h)⟩
  |cons=>cases hk
 |ks,[],_::_,_,_,_,_,h,_,_,_=>by cases h
 |ks,_::_,[],_,_,_,_,h,_,_,_=>by cases h
 |ks,c::l,d::ak,xs,an,k,ah,h,hk,⟨x,xs',ex,hc,hl⟩,⟨y,ys',ey,hd,hl'⟩=>by
  subst ex;subst ey;cases ks with
  |nil=>cases hk
  |cons al ks=>
   simp only[S8,AB] at hk;simp only[aQ,AD,AA] at h;obtain⟨⟨k1,aB⟩,O,⟨E,aJ⟩,C,h⟩:=h;obtain⟨b1,e1,e2,V⟩:=aK O hc hd;obtain⟨b2,f1,f2,f3⟩:=gv C hk.2 hl hl';have ke:KE (al::ks) (x::xs') (y::ys') (b1&&b2):=by
    have K:=hk.1;rcases e1 with⟨ik,p,q,rfl,rfl,rfl⟩|⟨p,q,rfl,rfl,rfl⟩|⟨p,q,rfl,rfl,rfl⟩<;>cases al<;>simp only[ekOk,Option.isSome_iff_exists] at K
    case inl.int=>exact .int ik p q f1
    case inr.inl.bool=>exact .bool p q f1
    case inr.inr.str=>exact .str p q f1
    case inl.bool=>obtain⟨⟨z,z'⟩,D⟩:=K;obtain⟨_,this,_⟩:=(FS D hc);cases this
    case inr.inr.bool=>obtain⟨⟨z,z'⟩,D⟩:=K;obtain⟨_,this,_⟩:=(FS D hc);cases this
    case inl.str=>obtain⟨⟨z,z'⟩,D⟩:=K;obtain⟨_,this,_⟩:=(Kq D hc);cases this
    case inr.inl.str=>obtain⟨⟨z,z'⟩,D⟩:=K;obtain⟨_,this,_⟩:=(Kq D hc);cases this
    case inr.inl.int=>obtain⟨⟨z1,z2,z3,z4⟩,D⟩:=K;obtain⟨_,this,_⟩:=(Cw D hc);cases this
    case inr.inr.int=>obtain⟨⟨z1,z2,z3,z4⟩,D⟩:=K;obtain⟨_,this,_⟩:=(Cw D hc);cases this
   refine⟨_,ke,?_⟩;simp only at h;split at h
   .cases h;rw[e2 false rfl];exact⟨fun q J=>(by cases J;rfl),fun h=>(by cases h)⟩
   .cases h;rw[f2 false rfl];exact⟨fun q J=>(by cases J;simp),fun h=>(by cases h)⟩
   .cases h;rw[e2 true rfl,Bool.true_and];exact⟨f2,f3⟩
   .cases h;rw[f2 true rfl];exact⟨fun q J=>(by cases J),fun _=>by simpa using V rfl⟩
   .cases h;refine⟨fun q J=>(by cases J),fun _=>⟨?_,?_⟩⟩
    .rw[AL,dL _ _ (by simpa using (V rfl).2),(V rfl).1,(f3 rfl).1]
    .have:=(V rfl).2;have:=(f3 rfl).2;simp;omega
end
section
variable {P:Program}{T:Tab}{n ap:Nat}{W ad:Nat->Option Nat}{m ag:Mem}{w ac:World}{g:G}{r:R}
theorem Bg.len {ok:Nat->Nat->Prop}:∀{ks:List Kd} {us:List U} {Y:List Value},Bg ok w ks us Y->Y.length=ks.length/\us.length=ks.length
 |[],_,_,⟨O,C⟩=>by subst O;subst C;exact⟨rfl,rfl⟩
 |k::ks,_,_,⟨u,us',v,vs',O,C,_,h4⟩=>by subst O;subst C;have:=h4.len;simp[this]
theorem Bg.ones {ok:Nat->Nat->Prop}:∀{ks:List Kd} {us:List U} {Y:List Value},Bg ok w ks us Y->∀v∈Y,v.oneCell'=true
 |[],_,_,⟨O,C⟩=>by subst C;simp
 |k::ks,_,_,⟨u,us',v,vs',O,C,h3,h4⟩=>by
  subst C;intro x h;cases h with
  |head=>exact h3.one
  |tail _ h=>exact h4.ones x h
theorem Bw.cells {ok:Nat->Nat->Prop}:∀{ks:List Kd} {b off:Nat} {us:List U},Bw ok w ks b off us->∃Y,Bg ok w ks us Y/\∀j v,Y[j]? =some v->w.cell? ⟨b,off+j,none⟩=some v
 |[],_,_,us,h=>⟨[],⟨h,rfl⟩,fun j v q=>by simp at q⟩
 |k::ks,b,off,us,⟨u,us',e,⟨_,v,C,h3⟩,h4⟩=>by
  obtain⟨Y,z,E⟩:=Bw.cells h4;refine⟨v::Y,⟨u,us',v,Y,e,rfl,h3,z⟩,fun j x q=>?_⟩;cases j with
  |zero=>simp at q;subst q;exact C
  |succ j=>
   have:=E j x (by simpa using q);rwa [show off+1+j=off+(j+1) by omega] at this
theorem Bg.holds {ok N:Nat->Nat->Prop}(q:∀b off,ok b off->N b off/\ac.cell? ⟨b,off,none⟩=w.cell? ⟨b,off,none⟩){b:Nat}:∀{ks:List Kd} {us:List U} {Y:List Value} {off:Nat},Bg ok w ks us Y->
  (∀p,p < ks.length->N b (off+p)/\ac.cell? ⟨b,off+p,none⟩=Y[p]?)->Bw N ac ks b off us
 |[],_,_,_,⟨O,_⟩,_=>O
 |k::ks,_,_,off,⟨u,us',v,vs',O,C,h3,h4⟩,hb=>by
  have h:=hb 0 (by simp);subst C;refine⟨u,us',O,⟨h.1,v,by simpa using h.2,Bk.mono q k u v h3⟩,Bg.holds q h4 (fun p z=>?_)⟩;have:=hb (p+1) (by simp;omega);rw[show off+1+p=off+(p+1) by omega];simpa using this
theorem CQ.len {ok:Nat->Nat->Prop}{ks:List Kd}:∀{l:List (List U)} {R:List (List Value)},CQ ok w ks l R->R.flatten.length=l.length*ks.length/\R.length=l.length
 |[],_,h=>by rw[show _=[] from h];simp
 |_::_,_,⟨Y,vss',e,O,C⟩=>by
  subst e;have:=C.len;have:=O.len;simp[*,Af];omega
variable{l:List (List U)}{Y:List Value}{X:List Kd}{e:TypeId}{aN:World}{H:Array Value}{I:Nat}
theorem Bu.len {ok:Nat->Nat->Prop}{ks:List Kd}(h:Bu ok w ks l Y):Y.length=l.length*ks.length:=by
 obtain⟨R,rfl,h⟩:=h;exact h.len.1
theorem Bu.nil (ok:Nat->Nat->Prop)(ks:List Kd):Bu ok w ks [] []:=⟨[],rfl,rfl⟩
theorem CQ.ones {ok:Nat->Nat->Prop}{ks:List Kd}:∀{l:List (List U)} {R:List (List Value)},CQ ok w ks l R->∀v∈R.flatten,v.oneCell'=true
 |[],_,h=>by rw[show _=[] from h];simp
 |_::_,_,⟨Y,vss',e,O,C⟩=>by
  subst e;intro x q;simp only[BK,Ap] at q;rcases q with q|q
  .exact O.ones x q
  .exact C.ones x q
theorem Bu.ones {ok:Nat->Nat->Prop}{ks:List Kd}(h:Bu ok w ks l Y):∀v∈Y,v.oneCell'=true:=by
 obtain⟨R,rfl,h⟩:=h;exact h.ones
theorem Bu.of_holds {ok:Nat->Nat->Prop}{ks:List Kd}{b:Nat}:∀{l:List (List U)} {o:Nat},(∀i us,l[i]? =some us->Bw ok w ks b (o+i*ks.length) us)->
  ∃Y,Bu ok w ks l Y/\∀j v,Y[j]? =some v->w.cell? ⟨b,o+j,none⟩=some v
 |[],_,_=>⟨[],Bu.nil _ _,fun j v h=>by simp at h⟩
 |us::l,o,h=>by
  obtain⟨Y,z,E⟩:=(h 0 us rfl).cells;obtain⟨_,⟨R,rfl,O⟩,C⟩:=Bu.of_holds (l:=l) (o:=o+ks.length) (fun i x ab=>by
   have:=h (i+1) x (by simpa using ab);rwa [show o+ks.length+i*ks.length=o+(i+1)*ks.length by rw[Af];omega])
  refine⟨Y++R.flatten,⟨Y::R,rfl,Y,R,rfl,z,O⟩,fun j v q=>?_⟩;have J:=z.len.1;by_cases D:j < Y.length
  .rw[AR D] at q;simpa using E j v q
  .rw[AS (by omega)] at q;have:=C _ v q;rwa [show o+ks.length+(j - Y.length)=o+j by omega] at this
theorem CQ.app {ok:Nat->Nat->Prop}{ks:List Kd}:∀{l ak:List (List U)} {R q:List (List Value)},CQ ok w ks l R->CQ ok w ks ak q->CQ ok w ks (l++ak) (R++q)
 |[],_,_,_,h,h'=>by rw[show _=[] from h];exact h'
 |_::_,_,_,_,⟨Y,vss1,e,O,C⟩,h'=>by subst e;exact⟨Y,vss1++_,rfl,O,C.app h'⟩
theorem CQ.kinds {ok:Nat->Nat->Prop}{ks:List Kd}(h:∀us Y,Bg ok w ks us Y->Bg ok w X us Y):∀{l:List (List U)} {R:List (List Value)},CQ ok w ks l R->CQ ok w X l R
 |[],_,hh=>hh
 |_::_,_,⟨Y,vss1,e,O,C⟩=>⟨Y,vss1,e,h _ _ O,C.kinds h⟩
theorem Bu.app {ok:Nat->Nat->Prop}{ks:List Kd}{ak:List (List U)}{D:List Value}(h:Bu ok w ks l Y)(q:Bu ok w X ak D)(e:ks=[]->l=[])(E:X≠[])(J:ks≠[]->ks.length=X.length):
  Bu ok w (Ib ks X) (l++ak) (Y++D):=by
 cases ks with
 |nil=>
  have:=e rfl;subst this;have K:Y=[]:=by
   have:=h.len;simpa using this
  subst K;exact q
 |cons k ks=>
  cases X with
  |nil=>exact absurd rfl E
  |cons k' X=>
   have z:=J (by simp);obtain⟨R,rfl,h⟩:=h;obtain⟨V,rfl,q⟩:=q;exact⟨R++V,by simp,(h.kinds (fun _ _ h=>h.join_l z)).app (q.kinds (fun _ _ h=>h.join_r z))⟩
theorem Bu.holds {ok N:Nat->Nat->Prop}{ks:List Kd}(q:∀b off,ok b off->N b off/\ac.cell? ⟨b,off,none⟩=w.cell? ⟨b,off,none⟩){b:Nat}:
  ∀{l:List (List U)} {Y:List Value} {o:Nat},Bu ok w ks l Y->(∀p,p < l.length*ks.length->N b (o+p)/\ac.cell? ⟨b,o+p,none⟩=Y[p]?)->
  ∀i us,l[i]? =some us->Bw N ac ks b (o+i*ks.length) us
 |[],_,_,_,_=>fun i us h=>by simp at h
 |x::l,_,o,⟨R,e,Y,vss',e2,O,C⟩,hb=>by
  subst e;subst e2;have E:=O.len.1;have z:(x::l).length*ks.length=l.length*ks.length+ks.length:=by simp[Af]
  rw[z] at hb;intro i us ab;cases i with
  |zero=>
   simp at ab;subst ab;rw[Nat.zero_mul,Nat.add_zero];refine Bg.holds q O (fun p D=>?_);have:=hb p (by omega);rw[BK,AR (by omega)] at this;exact this
  |succ i=>
   have:=Bu.holds q (o:=o+ks.length) ⟨vss',rfl,C⟩ (fun p D=>by
    have:=hb (ks.length+p) (by omega);rw[BK,AS (by omega),show ks.length+p - Y.length=p by omega] at this;rwa [show o+ks.length+p=o+(ks.length+p) by omega]) i us (by simpa using ab)
   rwa [show o+(i+1)*ks.length=o+ks.length+i*ks.length by rw[Af];omega]
theorem bA {x id b off:Nat}{ks:List Kd}(K:b < w.heap.size)(V:T.fr b off)(D:m.at id= .tok x ks e)(hr: W id=some b)(E:∀J,(m.at J).tracked=true-> W J=some b->J=id)(ho:off < DN T x ks):Bt T W m w b off:=by
 refine⟨K,V,fun j=>?_⟩;cases h:m.at j with
 |pad=>trivial
 |gone=>trivial
 |cells l e'=>
  intro q;have:=E j (by rw[h];rfl) q;subst this;rw[D] at h;cases h
 |lp y st=>
  intro q;have:=E j (by rw[h];rfl) q;subst this;rw[D] at h;cases h
 |mrow y z X e'=>
  intro q;have:=E j (by rw[h];rfl) q;subst this;rw[D] at h;cases h
 |mapb y al ka aM aT=>
  intro q;have:=E j (by rw[h];rfl) q;subst this;rw[D] at h;cases h
 |tok y X e'=>
  intro q;have:=E j (by rw[h];rfl) q;subst this;rw[D] at h;cases h;exact ho
theorem eI (D:BX T n W m w)(a6:n < ap){ks:List Kd}(bl:ks≠[])(hv:Bu (Bt T W m w) w ks l Y)(hk:l.length<=BT)(hT:T n= .list l)
   (hd:aN=w\/aN=w.drew)   (ba:∀p,p < l.length*ks.length->H[p]? =Y[p]?) (a4:l.length<=I) (a9:I*ks.length<=H.size):
  ∃ ad, ad m.length=some w.heap.size/\BY T n W m w ad (m++[.tok n ks e]) (aN.alloc (.cells H e))/\BX T ap ad (m++[.tok n ks e]) (aN.alloc (.cells H e))/\
   BQ T ap ad (m++[.tok n ks e]) (aN.alloc (.cells H e)) (.vec m.length n ks) (.slice (some ⟨w.heap.size,0,none⟩) l.length I):=by
 have a2:aN.heap=w.heap:=by rcases hd with rfl|rfl<;>rfl
 have z:=Jm (T:=T) D (.cells H e) (.tok n ks e);have aa:BY T n W m w (DX W m.length w.heap.size) (m++[.tok n ks e]) (aN.alloc (.cells H e)):=by
  rcases hd with rfl|rfl
  .exact z
  .exact⟨z.os,z.tape,z.output,z.size,z.mlen,z.rho,z.untr,z.fresh,z.old,z.tok,z.row⟩
 have aw:Mem.at (m++[.tok n ks e]) m.length= .tok n ks e:=by rw[Bj,BH rfl]
 have a3:(aN.alloc (.cells H e)).heap[w.heap.size]? =some (.cells H e (0,0)):=by
  rw[<-a2];exact D5 _ _
 have a5:∀id J b,(Mem.at (m++[.tok n ks e]) id).tracked=true->(Mem.at (m++[.tok n ks e]) J).tracked=true->DX W m.length w.heap.size id=some b->DX W m.length w.heap.size J=some b->id=J:=by
  intro id J b q al hr V;rw[Bj] at q al;by_cases K:id=m.length
  .by_cases E:J=m.length
   .omega
   .rw[BG E] at al;subst K;rw[CF] at hr;cases hr;rw[CC _ _ _ E] at V;have:=D.lt al V;omega
  .rw[BG K] at q;rw[CC _ _ _ K] at hr;by_cases E:J=m.length
   .subst E;rw[CF] at V;cases V;have:=D.lt q hr;omega
   .rw[BG E] at al;rw[CC _ _ _ E] at V;exact D.inj id J b q al hr V
 have bo:DN T n ks=l.length*ks.length:=by simp[DN,hT,U.toL]
 have bi:l.length*ks.length<=H.size:=AV (Ab _ a4) a9;refine⟨_,CF _ _ _,aa,⟨fun id=>?_,a5,fun b off h=>D.fr b off (AV aa.size h)⟩,a6,by rw[aw];exact (fun h=>by cases h),?_,fun X e' E=>?_⟩
 .by_cases K:id=m.length
  .subst K;rw[aw];exact⟨a6,_,hT,.inr ⟨w.heap.size,H,CF _ _ _,a3,bi,fun off=>D.fr _ off (AE _)⟩⟩
  .by_cases q:(m.at id).tracked=true
   .refine Cj.step aa D (by omega) (by rw[Bj,BG K]) (CC _ _ _ K) (fun b hb=>?_);have:=D.lt q hb;rw[CZ _ _ _ (by rw[a2];exact this),a2]
   .rw[Bj,BG K];cases hx:m.at id with
    |pad=>trivial
    |gone=>trivial
    |cells=>rw[hx] at q;exact absurd rfl q
    |lp=>rw[hx] at q;exact absurd rfl q
    |tok=>rw[hx] at q;exact absurd rfl q
    |mrow=>rw[hx] at q;exact absurd rfl q
    |mapb=>rw[hx] at q;exact absurd rfl q
 .refine⟨l,hT,hk,fun h=>absurd h bl,some ⟨w.heap.size,0,none⟩,I,rfl,a4,fun _=>⟨w.heap.size,0,rfl,?_⟩⟩;refine hv.holds (o:=0) (fun b off ho=>aa.safe D ho) (fun p hp=>⟨?_,?_⟩)
  .rw[AM];refine bA (by simp[a2]) (D.fr _ _ (AE _)) aw (CF _ _ _) (fun J al V=>a5 J m.length _ al (by rw[aw];rfl) V (CF _ _ _)) (by rw[bo];exact hp)
  .simp only[World.cell?,a3,AM];exact ba p hp
 .rw[aw] at E;cases E;exact .inr ⟨w.heap.size,I,H,CF _ _ _,by simp[hT,U.toL],a3,a9⟩
theorem XZ (J:BX T n W m w)(V:n < ap){ks:List Kd}(K:ks≠[])(hv:Bu (Bt T W m w) w ks l Y)(E:l.length<=BT)(q:T n= .list l)
   (hd:aN=w\/aN=w.drew)   (z:∀p,p < l.length*ks.length->H[p]? =Y[p]?) (D:l.length<=I) (al:I*ks.length<=H.size):
  ∃ ad,BY T n W m w ad (m++[.tok n ks e]) (aN.alloc (.cells H e))/\BX T ap ad (m++[.tok n ks e]) (aN.alloc (.cells H e))/\
   BQ T ap ad (m++[.tok n ks e]) (aN.alloc (.cells H e)) (.vec m.length n ks) (.slice (some ⟨w.heap.size,0,none⟩) l.length I):=
 let⟨ad,_,h⟩:=eI J V K hv E q hd z D al
 ⟨ad,h⟩
end
section
variable {P:Program}{T:Tab}{n ap:Nat}{W ad:Nat->Option Nat}{m ag:Mem}{w ac:World}{g:G}{r:R}
theorem Hj:∀(l ak:List Nat),Ff l ak=true->l=ak
 |[],[],_=>rfl
 |[],_::_,h=>by cases h
 |_::_,[],h=>by cases h
 |a::l,b::ak,h=>by
  simp only[Ff,AB] at h;rw[yI h.1,Hj l ak h.2]
variable{l:List AC}{Y:List Value}
theorem Bg.of (q:l.all AC.atom=true)(h:BR T n W m w l Y):
  Bg (Bt T W m w) w (l.map fun c=>(Cn c).1) (l.map fun c=>(Cn c).2.eval T) Y:=by
 induction l generalizing Y with
 |nil=>exact⟨rfl,h⟩
 |cons c l z=>
  obtain⟨u,us,rfl,O,C⟩:=h;simp only[List.all_cons,AB] at q;exact⟨_,_,u,us,rfl,rfl,iX q.1 O,z q.2 C⟩
theorem Bu.one (q:l.all AC.atom=true)(h:BR T n W m w l Y):
  Bu (Bt T W m w) w (l.map fun c=>(Cn c).1) [l.map fun c=>(Cn c).2.eval T] Y:=
 ⟨[Y],by simp,Y,[],rfl,Bg.of q h,rfl⟩
def Sx (T:Tab)(n:Nat)(W :Nat->Option Nat)(m:Mem)(w:World):List (List AC)->List (List Value)->Prop
 |[],R=>R=[]
 |l::ls,R=>∃Y h,R=Y::h/\l.all AC.atom=true/\BR T n W m w l Y/\Sx T n W m w ls h
theorem R5 {s:Nat}(aa:0 < s):∀{q:List (List AC)} {R:List (List Value)},Sx T n W m w q R->(∀l∈q,l.length=s)->q≠[]->
  (EC q).length=s/\Bu (Bt T W m w) w (EC q) (q.map fun l=>l.map fun c=>(Cn c).2.eval T) R.flatten
 |[],_,_,_,h=>absurd rfl h
 |[l],R,⟨Y,vss',e,ha,hl,hr⟩,hlen,_=>by
  subst e;rw[show vss'=[] from hr];refine⟨by simp[EC,hlen l (by simp)],?_⟩;simpa [EC] using Bu.one ha hl
 |l::aj::q,R,⟨Y,vss',e,ha,hl,hr⟩,hlen,_=>by
  subst e;obtain⟨D,e3⟩:=R5 aa hr (fun x hx=>hlen x (by simp[hx])) (by simp);have z:(l.map fun c=>(Cn c).1).length=s:=by simp[hlen l (by simp)]
  have K:(l.map fun c=>(Cn c).1).length=(EC (aj::q)).length:=by rw[z,D]
  have J:EC (l::aj::q)=Kd.joins (l.map fun c=>(Cn c).1) (EC (aj::q)):=rfl;refine⟨by rw[J,Kd.joins_len _ _ K,z],?_⟩;have V:(l.map fun c=>(Cn c).1)≠[]:=fun h=>by rw[h] at z;simp at z;omega
  have al:EC (aj::q)≠[]:=fun h=>by rw[h] at D;simp at D;omega
  have:=(Bu.one ha hl).app e3 (fun h=>absurd h V) al (fun _=>K);have e5:Ib (l.map fun c=>(Cn c).1) (EC (aj::q))=EC (l::aj::q):=by
   rw[J];generalize (l.map fun c=>(Cn c).1)=k1 at*;generalize EC (aj::q)=E at*;cases k1 with
   |nil=>exact absurd rfl V
   |cons a b=>cases E with
    |nil=>exact absurd rfl al
    |cons c d=>rfl
  rw[e5] at this;simpa using this
theorem SH {s:Nat}:∀(q:List (List Rf)),(∀l∈q,l.length=s)->Cp s q.length (q.flatten.map (Rf.eval T))=q.map fun l=>l.map (Rf.eval T)
 |[],_=>rfl
 |l::q,h=>by
  have O:=h l (by simp);have:=SH q (fun x z=>h x (by simp[z]));simp only[Ad,Cp,BK,AL,AT];rw[List.take_left' (by simpa using O),List.drop_left' (by simpa using O),this]
theorem UA {s:Nat}:∀{R:List (List Value)},(∀v∈R,v.length=s)->R.flatten.length=R.length*s
 |[],_=>by simp
 |v::R,h=>by
  have:=UA (R:=R) (fun x q=>h x (by simp[q]));simp[this,h v (by simp),Af,Nat.add_comm]
theorem Rm (s:Nat):∀(f:List (Nat × Value)) (R:List (List Value)) (k:Nat) (F:List Value),f.length=R.length->(∀(j i:Nat) (v:Value) (Y:List Value),f[j]? =some (i,v)->R[j]? =some Y->i=k+j/\v.cells=Y.toArray)->
  (∀v∈R,v.length=s)->F.length=(k+R.length)*s->
  Instr.fill (fun i=>some (i*s,s)) F.toArray f=some (F.take (k*s)++R.flatten).toArray
 |[],[],k,F,_,_,_,hc=>by
  simp only[Instr.fill,List.flatten_nil,yJ];rw[List.take_of_length_le (by simp at hc;omega)]
 |[],_::_,_,_,h,_,_,_=>by simp at h
 |_::_,[],_,_,h,_,_,_=>by simp at h
 |(i,v)::f,Y::R,k,F,hl,hh,aa,hc=>by
  obtain⟨ab,z⟩:=hh 0 i v Y rfl rfl;simp at ab;subst ab;have O:=aa Y (by simp);have aw:F.length=i*s+s+R.length*s:=by
   rw[hc,Ad,Af,Af,Nat.one_mul];omega
  simp only[Instr.fill];rw[BG]
  .rw[bv F.toArray (i*s) v Y z (by simp;omega)];have:=Rm s f R (i+1) (Cv F (i*s) Y) (by simpa using hl) (fun j E V al J K=>by
    have:=hh (j+1) E V al (by simpa using J) (by simpa using K);exact⟨by omega,this.2⟩) (fun x D=>aa x (by simp[D])) (by
     simp only[Cv,AP,Ao,Av];rw[Af,Af,Nat.one_mul];omega)
   rw[show (F.toArray).toList=F from rfl,this];congr 2;have e:(Cv F (i*s) Y).take ((i+1)*s)=F.take (i*s)++Y:=by
    unfold Cv;rw[Af,Nat.one_mul];apply List.take_left';simp;omega
   rw[e];simp
  .intro q;simp only[z,A9,Ah,decide_eq_true_eq] at q;rcases q with q|q
   .exact q O
   .omega
theorem it {E:List (AC × Value)}{J:List (List AC)}(V:∀p∈E,BQ T n W m w p.1 p.2)(h:E.mapM (fun p=>p.1.cellsOf)=some J):
  ∃R,Sx T n W m w J R/\R.length=E.length/\(∀(j:Nat) (p:AC × Value) (Y:List Value),E[j]? =some p->R[j]? =some Y->p.2.cells=Y.toArray)/\(∀(j:Nat) (l:List AC) (Y:List Value),J[j]? =some l->R[j]? =some Y->Y.length=l.length):=by
 induction E generalizing J with
 |nil=>simp at h;subst h;exact⟨[],rfl,rfl,fun j p Y h=>by simp at h,fun j l Y h=>by simp at h⟩
 |cons p E ih=>
  simp only[List.mapM_cons,AD,Option.pure_def,AA] at h;obtain⟨l,O,a5,C,h3⟩:=h;cases h3;obtain⟨Y,e1,K,e3,_⟩:=ET O (V p (by simp));obtain⟨R,f1,f2,f3,f4⟩:=ih (fun q z=>V q (by simp[z])) C;refine⟨Y::R,⟨Y,R,rfl,e3,K,f1⟩,by simp[f2],fun j q us z D=>?_,fun j q us z D=>?_⟩
  .cases j with
   |zero=>simp at z D;subst z;subst D;exact e1
   |succ j=>exact f3 j q us (by simpa using z) (by simpa using D)
  .cases j with
   |zero=>simp at z D;subst z;subst D;exact K.length
   |succ j=>exact f4 j q us (by simpa using z) (by simpa using D)
theorem PU {t:TypeId}{len:Nat}{a:Act}{o:Oper}{aE:Operand->AC}{aV:Array (Nat × Operand)}(h:EY P t len (aV.toList.map fun (i,x)=>(i,aE x)) m g=some r)(b0:New T g.n r.us)(hm:BX T g.n W m w)
  (ho:o.op= .buildSlice t len aV) (cf:∀x,BQ T g.n W m w (aE x) (a.eval x)):Cd T g W m w ((execOp a.eval o).run P w) r:=by
 unfold EY at h;split at h
 .rename_i e hu;simp only[AD,AA] at h;obtain⟨i,ab,z,hz,h⟩:=h;split at h
  .rename_i hc;obtain⟨a1,bc,c9,c8⟩:=hc;have a1:=Hj _ _ a1;simp only[AA] at h;obtain⟨J,bb,h⟩:=h;split at h
   .rename_i cb;cases h;have cj:((aV.toList.map fun (p:Nat × Operand)=>(aE p.2,a.eval p.2))).mapM (fun p=>p.1.cellsOf)=some J:=by
     rw[List.mapM_map] at bb⊢;exact bb
    obtain⟨R,f1,V,f3,f4⟩:=it (T:=T) (n:=g.n) (W := W) (m:=m) (w:=w) (by
     intro p hp;simp only[BL] at hp;obtain⟨p',_,rfl⟩:=hp;exact cf p'.2) cj
    simp only[List.length_map] at V;have ax:aV.toList.length=len:=by
     have:=BI List.length a1;simpa using this
    have aw:J.length=len:=by
     have:=(Fx _ _ _ bb).1;simpa [ax] using this
    have a9:∀l∈J,l.length=i.size:=fun l hl=>by simpa using Ae.1 cb l hl
    have b3:∀v∈R,v.length=i.size:=by
     intro v hv;obtain⟨j,hj⟩:=List.getElem?_of_mem hv;have a2:j < J.length:=by rw[aw,<-ax,<-V];exact (AG.1 hj).1
     rw[f4 j _ v (AF a2) hj];exact a9 _ (yM a2)
    have cl:J≠[]:=fun h=>by rw[h] at aw;simp at aw;omega
    obtain⟨c2,c3⟩:=R5 bc f1 a9 cl;have hT:T g.n= .list (J.map fun l=>l.map fun c=>(Cn c).2.eval T):=by
     have K:=b0.head;have e2:=SH (T:=T) (s:=i.size) (J.map fun l=>l.map fun c=>(Cn c).2) (fun l hl=>by
      simp only[BL] at hl;obtain⟨ak,ci,rfl⟩:=hl;simp[a9 ak ci])
     rw[K];simp only[Ex.eval,aH,V0];simp only[List.length_map,aw] at e2;rw[e2];simp[List.map_map,Function.comp_def]
    have bo:=UA b3;rw[V,ax] at bo;have ce:EC J≠[]:=fun h=>by rw[h] at c2;simp at c2;omega
    have c4:∀D:Array Value,((Array.range (len*i.size)).map (fun x=>D[x % D.size]!)).toList.length=(0+R.length)*i.size:=by
     intro D;simp[V,ax]
    have ch:∀D:Array Value,Instr.fill (fun j=>some (j*i.size,i.size)) ((Array.range (len*i.size)).map (fun x=>D[x % D.size]!)) (aV.map fun (j,x)=>(j,a.eval x)).toList=some R.flatten.toArray:=by
     intro D;have:=Rm i.size (aV.map fun (j,x)=>(j,a.eval x)).toList R 0 ((Array.range (len*i.size)).map (fun x=>D[x % D.size]!)).toList (by simp[V]) (fun j k v Y q1 q2=>by
      simp only[Array.toList_map,Aj,AX] at q1;obtain⟨⟨p1,p2⟩,K,e2⟩:=q1;cases e2;refine⟨?_,f3 j (aE p2,a.eval p2) Y (by simp only[Aj,K,BC]) q2⟩;have e3:(aV.toList.map fun (p:Nat × Operand)=>(p.1,aE p.2)).map (·.1)=aV.toList.map (·.1):=by simp
      have e4:=a1;rw[e3] at e4;have e5:(aV.toList.map (·.1))[j]? =some p1:=by simp only[Aj,K,BC]
      rw[e4] at e5;have a2:j < len:=by rw[<-ax];exact (AG.1 K).1
      simp[a2] at e5;omega) b3 (c4 D)
     rw[Array.toArray_toList] at this;rw[this];simp
    have cy:¬(len*i.size=0):=by
     intro h;rcases Nat.mul_eq_zero.1 h with h|h<;>omega
    have cx:(execOp a.eval o).run P w= .ok (.value (.slice (some ⟨w.heap.size,0,none⟩) len len)) (w.alloc (.cells R.flatten.toArray e)):=by
     have hb:¬(len*i.size > 2 ^ 24):=by omega
     simp only[execOp,ho,Instr.buildSlice,Ar,run_underlying hu,Aq,Cc ab,Sem.run_ite,hb,if_false,cy,JA ab hz,Ay,ch];simp[newRow]
    have ba:(J.map fun l=>l.map fun c=>(Cn c).2.eval T).length=len:=by simp[aw]
    obtain⟨ad,k1,E,k3⟩:=XZ (e:=e) (ap:=g.n+1) hm (by omega) ce c3 (by rw[ba];simp only[BT];have:len<=len*i.size:=Nat.le_mul_of_pos_right _ bc;omega) hT (.inl rfl) (H:=R.flatten.toArray) (I:=len) (fun p _=>by simp) (by rw[ba];exact AE _) (by simp only[A9];rw[bo,c2];exact AE _);rw[ba] at k3;exact⟨_,_, ad,.inl cx,k1,E,k3⟩
   .cases h
  .split at h
   .rename_i hc;obtain⟨rfl,cu,bc⟩:=hc;simp only[AA] at h;obtain⟨l,hl,h⟩:=h;split at h
    .rename_i bt;cases h;have cv:aV= #[]:=by
      have:aV.toList.length=0:=by simpa using cu
      exact Array.ext' (A6.1 this)
     subst cv;have hT:T g.n= .list []:=by rw[b0.head];rfl
     have cs:(l.map fun c=>(Cn c).1)≠[]:=fun h=>by
      have:=BI List.length h;simp at this;rw[this] at bt;simp at bt;omega
     obtain⟨ad,k1,E,k3⟩:=XZ (e:=e) (ap:=g.n+1) hm (by omega) cs (Bu.nil _ _) (Ak _) hT (.inl rfl) (H:= #[]) (I:=0) (fun p hp=>by simp at hp) (Ak _) (by simp);refine⟨_,_, ad,.inl ?_,k1,E,k3⟩;simp[execOp,ho,Instr.buildSlice,run_underlying hu,Cc ab,Instr.fill,newRow];exact BI (fun q=>w.alloc (Obj.cells q e)) (Array.eq_empty_of_size_eq_zero (by simp))
    .cases h
   .cases h
 .cases h
end
end
end Go.Eng
end
