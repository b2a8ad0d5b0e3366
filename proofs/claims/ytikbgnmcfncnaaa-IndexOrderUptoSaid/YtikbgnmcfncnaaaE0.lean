/-
  A part of the proof: the evaluator of code and its soundness.
-/
import GoSem.Core.View
import GoSem.Op.IntBits
import Derived.Calls
import Derived.Below
import Derived.Laws.World
import Derived.Laws.Sem
import Derived.Laws.Small
import Derived.IntWalk
import Derived.Laws.Cells
import Derived.Laws.Tables
import Derived.Laws.StructEq
import Derived.ChangeKeysEq
import Derived.Laws.AppendOwn
set_option linter.unusedVariables false
set_option linter.unusedSimpArgs false
noncomputable section
namespace Go.Eng
theorem AA7:type_of% @Option.bind_eq_some_iff:=@Option.bind_eq_some_iff
theorem AA8:type_of% @Bool.and_eq_true:=@Bool.and_eq_true
theorem AA9:type_of% @Nat.eq_of_beq_eq_true:=@Nat.eq_of_beq_eq_true
theorem ABA:type_of% @Option.bind_eq_bind:=@Option.bind_eq_bind
theorem ABB:type_of% @Nat.le_refl:=@Nat.le_refl
theorem ABC:type_of% @List.getElem?_eq_getElem:=@List.getElem?_eq_getElem
theorem ABD:type_of% @List.getElem?_eq_some_iff:=@List.getElem?_eq_some_iff
theorem ABE:type_of% @Nat.lt_of_lt_of_le:=@Nat.lt_of_lt_of_le
theorem ABF:type_of% @Array.getElem?_eq_some_iff:=@Array.getElem?_eq_some_iff
theorem ABG:type_of% @Array.getD_eq_getD_getElem?:=@Array.getD_eq_getD_getElem?
theorem ABH:type_of% @List.mem_cons_of_mem:=@List.mem_cons_of_mem
theorem ABI:type_of% @List.map_append:=@List.map_append
theorem ABJ:type_of% @Nat.zero_add:=@Nat.zero_add
theorem ABK:type_of% @List.mem_cons_self:=@List.mem_cons_self
theorem ABL:type_of% @List.mem_append_right:=@List.mem_append_right
theorem ABM:type_of% @List.length_append:=@List.length_append
theorem ABN:type_of% @Nat.lt_or_ge:=@Nat.lt_or_ge
theorem ABO:type_of% @List.getElem?_append_left:=@List.getElem?_append_left
theorem ABP:type_of% @List.getElem?_append_right:=@List.getElem?_append_right
theorem ABQ:type_of% @List.map_cons:=@List.map_cons
theorem ABR:type_of% @List.mem_append_left:=@List.mem_append_left
theorem ABS:type_of% @Nat.le_trans:=@Nat.le_trans
theorem ABT:type_of% @List.forall_mem_cons:=@List.forall_mem_cons
theorem ABU:type_of% @Option.map_eq_some_iff:=@Option.map_eq_some_iff
theorem ABV:type_of% @List.getD_eq_getElem?_getD:=@List.getD_eq_getElem?_getD
theorem ABW:type_of% @Bool.false_eq_true:=@Bool.false_eq_true
theorem ABX:type_of% @Nat.le_of_ble_eq_true:=@Nat.le_of_ble_eq_true
theorem ABY:type_of% @Nat.mul_le_mul_right:=@Nat.mul_le_mul_right
theorem ABZ:type_of% @List.mem_iff_getElem?:=@List.mem_iff_getElem?
theorem ABa:type_of% @List.length_cons:=@List.length_cons
theorem ABb:type_of% @List.all_eq_true:=@List.all_eq_true
theorem ABc:type_of% @Nat.add_mul:=@Nat.add_mul
theorem ABd:type_of% @Option.bind_some:=@Option.bind_some
theorem ABe:type_of% @Bool.or_eq_true:=@Bool.or_eq_true
theorem ABf:type_of% @List.getElem?_eq_none:=@List.getElem?_eq_none
theorem ABg:type_of% @List.getElem?_map:=@List.getElem?_map
theorem ABh:type_of% @Nat.zero_le:=@Nat.zero_le
theorem ABi:type_of% @List.mem_singleton:=@List.mem_singleton
theorem ABj:type_of% @List.append_assoc:=@List.append_assoc
theorem ABk:type_of% @List.map_nil:=@List.map_nil
theorem ABl:type_of% @List.length_take:=@List.length_take
theorem ABm:type_of% @List.mem_append:=@List.mem_append
theorem ABn:type_of% @Result.andThen_ok:=@Result.andThen_ok
theorem ABo:type_of% @Sem.run_bind:=@Sem.run_bind
theorem ABp:type_of% @List.length_nil:=@List.length_nil
theorem ABq:type_of% @Decidable.of_not_not:=@Decidable.of_not_not
theorem ABr:type_of% @List.length_set:=@List.length_set
theorem ABs:type_of% @List.length_drop:=@List.length_drop
theorem ABt:type_of% @Int.le_refl:=@Int.le_refl
theorem ABu:type_of% @Option.some.injEq:=@Option.some.injEq
theorem ABv:type_of% @Sem.run_pure:=@Sem.run_pure
theorem ABw:type_of% @List.take_append_drop:=@List.take_append_drop
theorem ABx:type_of% @List.append_nil:=@List.append_nil
theorem ABy:type_of% @List.mem_iff_getElem:=@List.mem_iff_getElem
theorem ABz:type_of% @Array.getElem?_setIfInBounds:=@Array.getElem?_setIfInBounds
theorem AB0:type_of% @List.getElem_mem:=@List.getElem_mem
theorem AB1:type_of% @Nat.eq_zero_or_pos:=@Nat.eq_zero_or_pos
theorem AB2:type_of% @Array.getElem?_eq_getElem:=@Array.getElem?_eq_getElem
theorem AB3:type_of% @List.length_eq_zero_iff:=@List.length_eq_zero_iff
theorem AB4:type_of% @List.drop_drop:=@List.drop_drop
theorem AB5:type_of% @List.getElem?_drop:=@List.getElem?_drop
theorem AB6:type_of% @List.size_toArray:=@List.size_toArray
theorem AB7:type_of% @List.getElem?_append:=@List.getElem?_append
theorem AB8:type_of% @List.getElem?_take:=@List.getElem?_take
theorem AB9:type_of% @Option.map_some:=@Option.map_some
theorem ACA:type_of% @List.take_length:=@List.take_length
theorem ACB:type_of% @List.getElem?_set:=@List.getElem?_set
theorem ACC:type_of% @List.nil_append:=@List.nil_append
theorem ACD:type_of% @if_neg:=@if_neg
theorem ACE:type_of% @if_pos:=@if_pos
theorem ACF:type_of% @congrArg:=@congrArg
theorem ACG:type_of% @List.pairwise_iff_getElem:=@List.pairwise_iff_getElem
theorem ACH:type_of% @List.flatten_cons:=@List.flatten_cons
theorem ACI:type_of% @List.mem_map:=@List.mem_map
theorem ACJ:type_of% @List.pairwise_append:=@List.pairwise_append
theorem ACK:type_of% @List.pairwise_cons:=@List.pairwise_cons
section
open Go
inductive U where
 |int (n:Int)
 |bool (b:Bool)
 |str (s:ByteArray)
 |val (v:Value)
 |list (l:List (List U))
instance:Inhabited U:=⟨.int 0⟩
abbrev U':=List (List U)
def U.toI:U->Int| .int n=>n|_=>0
def U.toB:U->Bool| .bool b=>b|_=>false
def U.toS:U->ByteArray| .str s=>s|_=>ByteArray.empty
def U.toL:U->U'| .list l=>l|_=>[]
inductive Kd where
 |int (k:IntKind) (lo hi:Int)
 |bool
 |str
 |val
 |any
 |list (cells:List Kd)
instance:Inhabited Kd:=⟨.any⟩
inductive CV where
 |nilPtr|nilSlice|nilFunc|nilIface|nilMap
 |str (s:ByteArray)
 deriving DecidableEq
def CV.value:CV->Value
 | .nilPtr=> .pointer none
 | .nilSlice=> .slice none 0 0
 | .nilFunc=> .nilFunc
 | .nilIface=> .nilIface
 | .nilMap=> .map none
 | .str s=> .string s
inductive AC where
 |any
 |anyc
 |on (c:Nat) (a:AC)
 |gd (c:Nat) (a:AC)
 |cb (b:Bool)
 |b (x:Nat)
 |nb (x:Nat)
 |ci (k:IntKind) (n:Int)
 |i (k:IntKind) (lo hi:Int) (x:Nat)
 |cv (c:CV)
 |v (x:Nat)
 |s (x:Nat)
 |ptr (id off:Nat)
 |pix (id base stride cnt x plus:Nat)
 |ro (x:Nat) (ks:List Kd)
 |rp (x t off:Nat) (ks:List Kd)
 |vec (id x:Nat) (ks:List Kd)
 |fn (f:Fn) (first cap:List AC)
 |sel (x:Nat) (alts:List AC)
 |yl (id:Nat)
 |asl (id off len:Nat)
 |rsv (id x:Nat) (ks:List Kd)
 |mr (id y:Nat)
 |mp (id y t sz off:Nat)
 |mv (id:Nat)
 |agg (l:List AC)
 |tup (l:List AC)
instance:Inhabited AC:=⟨.any⟩
inductive eQ where
 |ret
 |exit (id:Nat)
 deriving DecidableEq
def eQ.code:eQ->Code| .ret=> .ret| .exit id=> .exit id
inductive Tr where
 |nil
 |node (v:Option AC) (l r:Tr)
instance:Inhabited Tr:=⟨.nil⟩
def Tr.get:Tr->Nat->Option AC
 | .nil,_=>none
 | .node v l r,i=>bif Nat.beq i 0 then v else bif Nat.beq (i % 2) 1 then l.get (i / 2) else r.get (i / 2 - 1)
def Tr.val:Tr->Option AC| .nil=>none| .node v _ _=>v
def Tr.lt:Tr->Tr| .nil=> .nil| .node _ l _=>l
def Tr.rt:Tr->Tr| .nil=> .nil| .node _ _ r=>r
def Tr.setF:Nat->Tr->Nat->Option AC->Tr
 |0,_,_,_=> .nil
 |f+1,t,i,c=>bif Nat.beq i 0 then .node c t.lt t.rt else bif Nat.beq (i % 2) 1 then .node t.val (Tr.setF f t.lt (i / 2) c) t.rt else .node t.val t.lt (Tr.setF f t.rt (i / 2 - 1) c)
structure AZ where
 n:Nat
 loc:List (Nat × AC)
 t:Tr
instance:Inhabited AZ:=⟨⟨0,[],.nil⟩⟩
def BH:List (Nat × AC)->Nat->Option AC
 |[],_=>none
 |(j,c)::r,i=>bif Nat.beq j i then some c else BH r i
def AZ.get (s:AZ)(i:Nat):Option AC:=
 match BH s.loc i with
 |some c=>some c
 |none=>s.t.get i
def AZ.set (s:AZ)(i:Nat)(c:AC):AZ:=bif Nat.blt i s.n then { s with loc:=(i,c)::s.loc } else s
def AZ.fix (s:AZ)(i:Nat)(c:Option AC):AZ:=bif Nat.blt i s.n then { s with t:=Tr.setF 16 s.t i c } else s
def PU (keep:Nat):List (Nat × AC)->Tr->Tr
 |[],t=>t
 |(i,c)::r,t=>let h:=PU keep r t;if keep.testBit i then Tr.setF 16 h i (some c) else match h.get i with|none=>h|some _=>Tr.setF 16 h i none
def AZ.commit (s:AZ)(keep:Nat):AZ:={ s with loc:=[],t:=PU keep s.loc s.t }
structure CL where
 tmps:AZ
 ps:Array Tmp
 assign:Code
 body:Code
 jumps:List eQ
structure Tab where
 get:Nat->U
 fr:Nat->Nat->Prop
 lp:Nat->CL
 base:Nat
instance:CoeFun Tab (fun _=>Nat->U):=⟨Tab.get⟩
inductive Rf where
 |c (u:U)
 |e (x:Nat)
 |n (x:Nat)
instance:Inhabited Rf:=⟨.c default⟩
def Rf.eval (T:Tab):Rf->U
 | .c u=>u
 | .e x=>T x
 | .n x=> .bool (!(T x).toB)
inductive Tg where
 |s (t:String)
 |loop (j nh k:Nat) (eqs:List (Nat × Tg × List Rf)) (pcn:Option Nat) (nxt:List Rf) (fv:List Nat) (obs:List (Option Nat × Tg × List Rf))
instance:Coe String Tg:=⟨Tg.s⟩
instance:Inhabited Tg:=⟨.s ""⟩
def Tg.str:Tg->String| .s t=>t|_=> "loop"
structure Ex where
 tag:Tg
 f:List U->U
 args:List Rf
def Ex.eval (T:Tab)(e:Ex):U:=e.f (e.args.map (Rf.eval T))
structure Pr where
 tag:Tg
 f:List U->Prop
 args:List Rf
def Pr.holds (T:Tab)(p:Pr):Prop:=p.f (p.args.map (Rf.eval T))
def th (a b:Int):Int:=a+b
def u4 (a b:Int):Int:=a - b
def wm (a b:Int):Int:=a*b
def uJ (a b:Int):Int:=a / b
def eZ (a b:Int):Int:=a % b
def WQ (a b:Int):Int:=a.tdiv b
def mS (a b:Int):Int:=a.tmod b
def DT (op:BinOp)(k:IntKind)(x y:Int):Int:=
 k.wrap (match op with
  | .and=>(BitVec.ofInt k.bits x &&& BitVec.ofInt k.bits y).toNat
  | .or=>(BitVec.ofInt k.bits x ||| BitVec.ofInt k.bits y).toNat
  | .xor=>(BitVec.ofInt k.bits x ^^^ BitVec.ofInt k.bits y).toNat
  |_=>(BitVec.ofInt k.bits x &&& ~~~(BitVec.ofInt k.bits y)).toNat)
def Xb (a b:Int):Int:=min a b
def XT (a b:Int):Int:=max a b
def u0:List U->U|a::_=>a|_=>default
def u1:List U->U|_::a::_=>a|_=>default
def u2:List U->U|_::_::a::_=>a|_=>default
def o2 (f:Int->Int->Int)(us:List U):U:= .int (f (u0 us).toI (u1 us).toI)
def fh (us:List U):U:= .int (0 - (u0 us).toI)
def Km (k:IntKind)(f:List U->U)(us:List U):U:= .int (k.wrap (f us).toI)
def oId (us:List U):U:=u0 us
def oLt (us:List U):U:= .bool (decide ((u0 us).toI < (u1 us).toI))
def oLe (us:List U):U:= .bool (decide ((u0 us).toI<=(u1 us).toI))
def oEq (us:List U):U:= .bool (decide ((u0 us).toI=(u1 us).toI))
def oNe (us:List U):U:= .bool (!decide ((u0 us).toI=(u1 us).toI))
def SM (us:List U):U:= .bool ((u0 us).toB&&(u1 us).toB)
def oOr (us:List U):U:= .bool ((u0 us).toB||(u1 us).toB)
def oIf (us:List U):U:=bif (u0 us).toB then u1 us else u2 us
def nr (us:List U):U:= .bool (bif (u0 us).toB then (u1 us).toB else (u2 us).toB)
def XE (us:List U):U:= .bool !(u0 us).toB
def Sp (us:List U):U:= .int (u0 us).toL.length
def uF (c:Nat)(us:List U):U:=((u0 us).toL.getD (u1 us).toI.toNat []).getD c default
def kdC:Kd->Nat| .int _ _ _=>0| .bool=>1| .str=>2| .list _=>3|_=>4
def coC:Nat->U->U|0,u=> .int u.toI|1,u=> .bool u.toB|2,u=> .str u.toS|3,u=> .list u.toL|_,u=>u
def XV:Nat->String|0=> "get " |1=> "getb " |2=> "gets " |3=> "getl " |_=> "getv "
def TG (q c:Nat)(us:List U):U:=coC q (uF c us)
def HR:List U->U| .bool _::_=> .bool false|_=>default
def WO (us:List U):U:=us.tail.getD (u0 us).toI.toNat (HR us.tail)
def Bv (s:Nat):Nat->List U->U'
 |0,_=>[]
 |k+1,l=>l.take s::Bv s k (l.drop s)
def U.eqv:U->U->Bool
 | .int a,.int b=>decide (a=b)
 | .bool a,.bool b=>a==b
 | .str a,.str b=>decide (a=b)
 |_,_=>false
def B7 (l:U')(i c:Nat)(W:List U):U':=l.set i ((l.getD i []).take c++W++(l.getD i []).drop (c+W.length))
def nc (c:Nat)(us:List U):U:= .list (B7 (u0 us).toL (u1 us).toI.toNat c (us.drop 2))
def vy (us:List U):U:= .list (List.replicate (u0 us).toI.toNat us.tail)
def BG:List U->List U->Bool
 |[],[]=>true
 |a::l,b::ae=>a.eqv b&&BG l ae
 |_,_=>false
def Ai (G:Nat)(l:U')(k:List U):Nat:=l.findIdx fun r=>BG (r.take G) k
def lJ (G:Nat)(us:List U):U:= .bool (decide (Ai G (u0 us).toL us.tail < (u0 us).toL.length))
def WI (G c:Nat)(us:List U):U:=bif decide (Ai G (u0 us).toL (us.drop 2) < (u0 us).toL.length) then ((u0 us).toL.getD (Ai G (u0 us).toL (us.drop 2)) []).getD (G+c) default else u1 us
def rP (q G c:Nat)(us:List U):U:=coC q (WI G c us)
def BB (G:Nat)(l:U')(k v:List U):U':=bif decide (Ai G l k < l.length) then l.set (Ai G l k) (k++v) else l++[k++v]
def lD (G:Nat)(us:List U):U:= .list (BB G (u0 us).toL (us.tail.take G) (us.tail.drop G))
def dX (k s:Nat)(us:List U):U:= .list (Bv s k us)
def Uo (us:List U):U:= .list ((u0 us).toL++(u1 us).toL)
def ng (us:List U):U:= .int (u0 us).toS.size
def Br (s:ByteArray)(i:Nat):Int:=(((s.data.toList.getD i 0).toNat:Nat):Int)
def wW (us:List U):U:= .int (Br (u0 us).toS (u1 us).toI.toNat)
def QM (us:List U):U:= .list ((u0 us).toL.take (u1 us).toI.toNat)
def nQ (us:List U):U:= .list ((u0 us).toL.drop (u1 us).toI.toNat)
def vr (us:List U):U:= .list (((u0 us).toL.take (u2 us).toI.toNat).drop (u1 us).toI.toNat)
def GI:List U->Bool
 |a::b::l=>a.eqv b&&GI l
 |_=>true
def kD (us:List U):U:= .bool (GI us)
def ot (us:List U):U:= .bool (!GI us)
def vZ (us:List U):U:= .bool ((u0 us).toB==(u1 us).toB)
def vC (us:List U):U:= .bool (!((u0 us).toB==(u1 us).toB))
def Ud (us:List U):Prop:=(u0 us).toI≠0
def pT (us:List U):Prop:=(u0 us).toB=true
def pIn (us:List U):Prop:=0<=(u0 us).toI/\(u0 us).toI < (u1 us).toI
def Xl (us:List U):Prop:=0<=(u0 us).toI/\(u0 us).toI < (u1 us).toL.length
def m6 (us:List U):Prop:=0<=(u1 us).toI/\(u1 us).toI < (u0 us).toS.size
def Lp (us:List U):Prop:=0<=(u1 us).toI/\(u1 us).toI<=(u0 us).toL.length
def tv (us:List U):Prop:=0<=(u1 us).toI/\(u1 us).toI<=(u2 us).toI/\(u2 us).toI<=(u0 us).toL.length
def AAj (us:List U):Prop:=(u0 us).toI=0
def pNe (us:List U):Prop:=(u0 us).toI≠(u1 us).toI
def Dy (am Y:Int)(us:List U):Prop:=am<=(u0 us).toI/\(u0 us).toI<=Y
def Hy (b:Nat)(us:List U):Prop:=((u0 us).toL.length+(u1 us).toL.length)*b<=140737488355328
end
section
open Go Go.RowKit
inductive Blk where
 |pad
 |gone
 |cells (l:List AC) (elem:TypeId)
 |tok (x:Nat) (ks:List Kd) (elem:TypeId)
 |lp (stamp:Nat) (st:AC)
 |mrow (x y:Nat) (ks:List Kd) (elem:TypeId)
 |mapb (x:Nat) (kk:List Kd) (ka:Bool) (vk:List Kd) (va:Bool)
instance:Inhabited Blk:=⟨.pad⟩
abbrev Mem:=List Blk
def Mem.at (m:Mem)(id:Nat):Blk:=(m[id]?).getD .pad
def Blk.tracked:Blk->Bool| .gone| .pad=>false|_=>true
def Blk.ptrOk:Blk->Bool| .gone| .cells .. | .lp .. | .mapb .. =>true|_=>false
def CH (T:Tab)(x:Nat)(ks:List Kd):Nat:=(T x).toL.length*ks.length
def Ag (T:Tab)(V :Nat->Option Nat)(m:Mem)(w:World)(b off:Nat):Prop:=
 b < w.heap.size/\T.fr b off/\∀id,match m.at id with
  | .pad| .gone=>True
  | .cells _ _| .lp _ _| .mrow _ _ _ _| .mapb _ _ _ _ _=> V id≠some b
  | .tok x ks _=> V id=some b->off < CH T x ks
def AB:Nat:=140737488355328
mutual
def AX (ok:Nat->Nat->Prop)(w:World):Kd->U->Value->Prop
 | .int k am Y,u,v=>∃n,u= .int n/\v= .int k n/\am<=n/\n<=Y
 | .bool,u,v=>∃b,u= .bool b/\v= .bool b
 | .str,u,v=>∃s,u= .str s/\(v= .string s/\s.size<=AB)
 | .val,u,v=>u= .val v/\v.oneCell'=true
 | .any,_,v=>v.oneCell'=true
 | .list ks,u,v=>∃l,u= .list l/\l.length<=AB/\(ks=[]->l=[])/\∃a I,v= .slice a l.length I/\l.length<=I/\(0 < l.length->∃b o,a=some ⟨b,o,none⟩/\
   ∀i us,l[i]? =some us->Al ok w ks b (o+i*ks.length) us)
def Al (ok:Nat->Nat->Prop)(w:World):List Kd->Nat->Nat->List U->Prop
 |[],_,_,us=>us=[]
 |k::ks,b,off,us=>∃u h,us=u::h/\(ok b off/\∃v,w.cell? ⟨b,off,none⟩=some v/\AX ok w k u v)/\Al ok w ks b (off+1) h
end
theorem fJ {ok:Nat->Nat->Prop}{w:World}{k:Kd}{u:U}{v:Value}(h:AX ok w k u v):coC (kdC k) u=u:=by
 cases k with
 |int=>obtain⟨n,rfl,_⟩:=h;rfl
 |bool=>obtain⟨n,rfl,_⟩:=h;rfl
 |str=>obtain⟨n,rfl,_⟩:=h;rfl
 |list=>obtain⟨n,rfl,_⟩:=h;rfl
 |val=>rfl
 |any=>rfl
def AT (ok:Nat->Nat->Prop)(w:World):List Kd->List U->List Value->Prop
 |[],us,W=>us=[]/\W=[]
 |k::ks,us,W=>∃u h v q,us=u::h/\W=v::q/\AX ok w k u v/\AT ok w ks h q
def A9 (ok:Nat->Nat->Prop)(w:World)(ks:List Kd):U'->List (List Value)->Prop
 |[],R=>R=[]
 |us::l,R=>∃W h,R=W::h/\AT ok w ks us W/\A9 ok w ks l h
def Ah (ok:Nat->Nat->Prop)(w:World)(ks:List Kd)(l:U')(W:List Value):Prop:=∃R,W=R.flatten/\A9 ok w ks l R
def CJ (ok:Nat->Nat->Prop)(w:World)(ks:List Kd)(a7:Bool)(us:List U)(v:Value):Prop:=
 ∃W:List Value,AT ok w ks us W/\(if a7 then v= .agg W.toArray else W=[v])
def Xd (T:Tab)(V :Nat->Option Nat)(w:World)(id x:Nat)(ks:List Kd)(e:TypeId)(v:Value):Prop:=
 (V id=none/\∃a,v= .slice a (T x).toL.length (T x).toL.length)\/
 ∃b I W, V id=some b/\v= .slice (some ⟨b,0,none⟩) (T x).toL.length I/\w.heap[b]? =some (.cells W e (0,0))/\I*ks.length<=W.size
def V4 (V :Nat->Option Nat)(w:World)(id:Nat)(ks:List Kd)(e:TypeId)(v:Value):Prop:=
 (V id=none/\v= .slice none 0 0)\/
 ∃b len I W, V id=some b/\v= .slice (some ⟨b,0,none⟩) len I/\(len<=I/\len<=68719476736)/\w.heap[b]? =some (.cells W e (0,0))/\I*ks.length<=W.size
def TB (V :Nat->Option Nat)(w:World)(id:Nat)(ks:List Kd)(e:TypeId)(a:Option Addr)(I:Nat):Prop:=
 (V id=none/\I=0)\/
 ∃b W, V id=some b/\a=some ⟨b,0,none⟩/\w.heap[b]? =some (.cells W e (0,0))/\I*ks.length<=W.size
mutual
def AA (T:Tab)(n:Nat)(V :Nat->Option Nat)(m:Mem)(w:World):AC->Value->Prop
 | .any,_=>True
 | .anyc,v=>v.oneCell'=true
 | .on c a,v=>c < n/\(T c= .bool true->AA T n V m w a v)
 | .gd c a,v=>c < n/\(T c= .bool true->AA T n V m w a v)/\(T c≠ .bool true->v=undef)
 | .cb b,v=>v= .bool b
 | .b x,v=>x < n/\∃b,T x= .bool b/\v= .bool b
 | .nb x,v=>x < n/\∃b,T x= .bool b/\v= .bool !b
 | .ci k i,v=>v= .int k i
 | .i k am Y x,v=>x < n/\∃i,T x= .int i/\v= .int k i/\am<=i/\i<=Y
 | .cv c,v=>v=c.value
 | .v x,v=>x < n/\T x= .val v/\v.oneCell'=true
 | .s x,v=>x < n/\∃s,T x= .str s/\(v= .string s/\s.size<=AB)
 | .ptr id off,v=>∃b, V id=some b/\v= .pointer (some ⟨b,off,none⟩)/\(m.at id).ptrOk=true
 | .pix id base B aE x an,v=>x < n/\∃b j, V id=some b/\T x= .int j/\0<=j/\j < aE/\v= .pointer (some ⟨b,base+j.toNat*B+an,none⟩)/\(m.at id).ptrOk=true
 | .ro x ks,v=>x < n/\AX (Ag T V m w) w (.list ks) (T x) v
 | .rp x t off ks,v=>(x < n/\t < n)/\∃j b o us,T t= .int j/\0<=j/\(T x).toL[j.toNat]? =some us/\v= .pointer (some ⟨b,o+j.toNat*ks.length+off,none⟩)/\
   Al (Ag T V m w) w ks b (o+j.toNat*ks.length) us
 | .vec id x ks,v=>x < n/\m.at id≠ .pad/\AX (Ag T V m w) w (.list ks) (T x) v/\∀af e,m.at id= .tok x af e->Xd T V w id x af e v
 | .fn f first I,v=>∃W us,v= .func f (W:List Value).toArray (us:List Value).toArray/\AF T n V m w first W/\AF T n V m w I us
 | .sel x alts,v=>x < n/\∃j,T x= .int j/\0<=j/\Av T n V m w alts j.toNat v
 | .yl id,v=>∃b, V id=some b/\v= .func (.yield b) #[] #[]/\(m.at id).ptrOk=true
 | .asl id off len,v=>∃b, V id=some b/\v= .slice (some ⟨b,off,none⟩) len len/\(m.at id).ptrOk=true
 | .rsv id x ks,v=>x < n/\m.at id≠ .pad/\T x= .list []/\(∃a len I,v= .slice a len I)/\∀af e,m.at id= .tok x af e->V4 V w id af e v
 | .mr id y,v=>(y < n/\m.at id≠ .pad)/\∃j a I,T y= .int j/\(0<=j/\j<=AB)/\v= .slice a j.toNat I/\(j<=I/\(0 < j->∃b,a=some ⟨b,0,none⟩))/\∀x ks e,m.at id= .mrow x y ks e->TB V w id ks e a I
 | .mp id y t sz off,v=>(y < n/\t < n/\m.at id≠ .pad)/\∃j L b,T t= .int j/\T y= .int L/\(0<=j/\j < L)/\v= .pointer (some ⟨b,j.toNat*sz+off,none⟩)/\∀x ks e,m.at id= .mrow x y ks e-> V id=some b
 | .mv id,v=>∃b, V id=some b/\v= .map (some b)/\(m.at id).ptrOk=true
 | .agg l,v=>∃W,v= .agg (W:List Value).toArray/\AF T n V m w l W
 | .tup l,v=>∃W,v= .tuple (W:List Value).toArray/\AF T n V m w l W
def AF (T:Tab)(n:Nat)(V :Nat->Option Nat)(m:Mem)(w:World):List AC->List Value->Prop
 |[],W=>W=[]
 |c::l,W=>∃u us,W=u::us/\AA T n V m w c u/\AF T n V m w l us
def Av (T:Tab)(n:Nat)(V :Nat->Option Nat)(m:Mem)(w:World):List AC->Nat->Value->Prop
 |[],_,_=>False
 |c::_,0,v=>AA T n V m w c v
 |_::l,j+1,v=>Av T n V m w l j v
end
def BS (T:Tab)(n:Nat)(V :Nat->Option Nat)(m:Mem)(w:World)(id:Nat):Blk->Prop
 | .pad| .gone=>True
 | .cells l e=>∃b W, V id=some b/\w.heap[b]? =some (.cells (W:List Value).toArray e (0,0))/\AF T n V m w l W
 | .tok x ks e=>x < n/\∃l,T x= .list l/\(V id=none\/∃b W, V id=some b/\w.heap[b]? =some (.cells W e (0,0))/\l.length*ks.length<=W.size/\∀off,T.fr b off)
 | .lp x st=>∃(b:Nat) (q:Loop), V id=some b/\w.heap[b]? =some (.loop q)/\q.params=(T.lp x).ps/\q.assign=(T.lp x).assign/\q.body=(T.lp x).body/\q.tmps.size=(T.lp x).tmps.n/\(∀i c,(T.lp x).tmps.get i=some c->AA T n V m w c (q.tmps.getD i undef))/\
   ∃j,AA T n V m w st (.int .i64 j)/\((j=0/\q.state= .ready/\q.pending=none)\/(j= -1/\q.state= .busy)\/∃(k:Nat) (h:eQ),j=(k:Int)+1/\(T.lp x).jumps[k]? =some h/\q.state= .done/\q.pending=some h.code)
 | .mrow x y ks e=>(x < n/\y < n)/\∃l,T x= .list l/\T y= .int l.length/\(l.length<=AB/\ks≠[])/\
   ((V id=none/\l=[])\/∃b W us, V id=some b/\w.heap[b]? =some (.cells (W++us:List Value).toArray e (0,0))/\Ah (Ag T V m w) w ks l W/\∀off,T.fr b off)
 | .mapb x ao ka aJ aT=>x < n/\∃l b ar a6,T x= .list l/\ V id=some b/\w.heap[b]? =some (.map (ar:List MapEntry).toArray a6)/\ar.length=l.length/\l.length<=AB/\
   (∀(i:Nat) (us:List U) (e:MapEntry),l[i]? =some us->ar[i]? =some e->∃u1 u2,us=u1++u2/\CJ (Ag T V m w) w ao ka u1 e.key/\CJ (Ag T V m w) w aJ aT u2 e.val)/\
   ∃base,a6=base+ar.length/\∀(i:Nat) (e:MapEntry),ar[i]? =some e->e.born=base+i
structure AH (T:Tab) (n:Nat) (ρ :Nat->Option Nat) (m:Mem) (w:World):Prop where
 blk:∀id,BS T n ρ m w id (m.at id)
 inj:∀id id' b,(m.at id).tracked=true->(m.at id').tracked=true-> ρ id=some b-> ρ id'=some b->id=id'
 fr:∀b off,w.heap.size<=b->T.fr b off
structure AI (T:Tab) (n:Nat) (ρ :Nat->Option Nat) (m:Mem) (w:World) (ρ':Nat->Option Nat) (m':Mem) (w':World):Prop where
 os:w'.os=w.os
 tape:w'.tape=w.tape
 output:w'.output=w.output
 size:w.heap.size<=w'.heap.size
 mlen:∀id,m.at id≠ .pad->m'.at id≠ .pad
 rho:∀id,(m.at id).ptrOk=true-> ρ' id= ρ id/\(m'.at id).ptrOk=true
 untr:∀id,m.at id≠ .pad->(m'.at id).tracked=true->(m.at id).tracked=true
 fresh:∀id b,m.at id= .pad->(m'.at id).tracked=true-> ρ' id=some b->w.heap.size<=b
 old:∀k,k < w.heap.size->(∀id,(m.at id).tracked=true-> ρ id≠some k)->w'.heap[k]? =w.heap[k]?
 tok:∀id x ks e,m.at id= .tok x ks e->(m'.at id= .tok x ks e/\ ρ' id= ρ id/\∀b, ρ id=some b->w'.heap[b]? =w.heap[b]?)\/
  ((∀b, ρ id=some b->∀off,off < CH T x ks->w'.cell? ⟨b,off,none⟩=w.cell? ⟨b,off,none⟩)/\
   (m'.at id= .gone\/∃x' ks' e',m'.at id= .tok x' ks' e'/\n<=x'/\∀b', ρ' id=some b'->(ρ id=some b'/\CH T x ks<=CH T x' ks')\/w.heap.size<=b'))
 row:∀id x y ks e,m.at id= .mrow x y ks e->m'.at id= .gone\/∃x' y' ks',m'.at id= .mrow x' y' ks' e/\ks'.length=ks.length/\
  ((y'=y/\ ρ' id= ρ id/\∀b vs, ρ id=some b->w.heap[b]? =some (.cells vs e (0,0))->∃vs',w'.heap[b]? =some (.cells vs' e (0,0))/\vs'.size=vs.size)\/
   (n<=y'/\∀b', ρ' id=some b'-> ρ id=some b'\/w.heap.size<=b'))
end
section
open Go Go.RowKit
variable{id:Nat}
theorem Mem.at_ge {m:Mem}(h:m.length<=id):m.at id= .pad:=by
 simp[Mem.at,ABf h]
theorem ol {m:Mem}(h:(m.at id).tracked=true):m.at id≠ .pad:=fun e=>by rw[e] at h;cases h
theorem BM {m:Mem}(h:(m.at id).ptrOk=true):m.at id≠ .pad:=fun e=>by rw[e] at h;cases h
theorem Mv {m:Mem}(h:(m.at id).tracked=true):(m.at id).ptrOk=true\/(∃x ks e,m.at id= .tok x ks e)\/∃x y ks e,m.at id= .mrow x y ks e:=by
 cases z:m.at id with
 |pad=>rw[z] at h;cases h
 |gone=>exact .inl rfl
 |cells l e=>exact .inl rfl
 |lp E q=>exact .inl rfl
 |mapb x ao D aJ aT=>exact .inl rfl
 |tok x ks e=>exact .inr (.inl ⟨x,ks,e,rfl⟩)
 |mrow x y ks e=>exact .inr (.inr ⟨x,y,ks,e,rfl⟩)
theorem Bq {w ab:World}{b:Nat}(h:ab.heap[b]? =w.heap[b]?)(off:Nat):ab.cell? ⟨b,off,none⟩=w.cell? ⟨b,off,none⟩:=by
 simp only[World.cell?,h]
section
variable {T:Tab}{n aj:Nat}{V ac Z:Nat->Option Nat}{m ag S:Mem}{w ab aq:World}
theorem AI.refl (T:Tab)(n:Nat)(V :Nat->Option Nat)(m:Mem)(w:World):AI T n V m w V m w where
 os:=rfl
 tape:=rfl
 output:=rfl
 size:=ABB _
 mlen:=fun _ h=>h
 rho:=fun _ h=>⟨rfl,h⟩
 untr:=fun _ _ h=>h
 fresh:=fun id b h q _=>by rw[h] at q;cases q
 old:=fun _ _ _=>rfl
 tok:=fun _ _ _ _ h=> .inl ⟨h,rfl,fun _ _=>rfl⟩
 row:=fun _ x y ks e h=> .inr ⟨x,y,ks,h,rfl,.inl ⟨rfl,rfl,fun _ W _ z=>⟨W,z,rfl⟩⟩⟩
theorem AI.down (h:AI T aj V m w ac ag ab)(J:n<=aj):AI T n V m w ac ag ab:=
 {h with
  tok:=fun id x ks e H=>(h.tok id x ks e H).imp (fun q=>q) fun⟨C,O⟩=>⟨C,O.imp (fun q=>q) fun⟨L,af,e',z,D,E⟩=>⟨L,af,e',z,ABS J D,E⟩⟩
  row:=fun id x y ks e H=>(h.row id x y ks e H).imp (fun q=>q) fun⟨L,aF,af,C,O,z⟩=>⟨L,aF,af,C,O,z.imp (fun q=>q) fun⟨D,E⟩=>⟨ABS J D,E⟩⟩ }
variable{id b:Nat}
theorem AI.back (h:AI T n V m w ac ag ab)(q:(ag.at id).tracked=true)(H: ac id=some b):
  w.heap.size<=b\/((m.at id).tracked=true/\ V id=some b):=by
 by_cases E:m.at id= .pad
 .exact .inl (h.fresh id b E q H)
 .have J:=h.untr id E q;rcases Mv J with K|⟨x,ks,e,z⟩|⟨x,y,ks,e,z⟩;rotate_left 2
  .rcases h.row id x y ks e z with C|⟨L,aF,af,C,_,⟨_,D,_⟩|⟨_,D⟩⟩
   .rw[C] at q;cases q
   .grind
   .grind
  .exact .inr ⟨J,by rw[<-(h.rho id K).1];exact H⟩
  .rcases h.tok id x ks e z with⟨_,O,_⟩|⟨_,O|⟨L,af,e',_,_,D⟩⟩
   .grind
   .rw[O] at q;cases q
   .grind
theorem AI.lone (h:AI T n V m w ac ag ab)(D:AH T n V m w)(H:(m.at id).tracked=true)(E: V id=some b)(K:b < w.heap.size)
  (hn:(ag.at id).tracked=true-> ac id≠some b):∀q,(ag.at q).tracked=true-> ac q≠some b:=by
 intro q J z;rcases h.back J z with C|⟨C,O⟩
 .omega
 .have:=D.inj q id b C H O E;grind
theorem AH.lt (J:AH T n V m w)(H:(m.at id).tracked=true)(z: V id=some b):b < w.heap.size:=by
 have h:=J.blk id;cases D:m.at id with
 |pad=>rw[D] at H;cases H
 |gone=>rw[D] at H;cases H
 |cells l e=>
  rw[D] at h;obtain⟨E,W,C,O,_⟩:=h;rw[z] at C;cases C;exact (ABF.1 O).1
 |lp st q=>
  rw[D] at h;obtain⟨E,q',C,O,_⟩:=h;rw[z] at C;cases C;exact (ABF.1 O).1
 |tok x ks e=>
  rw[D] at h;obtain⟨_,r,_,C⟩:=h;rcases C with C|⟨E,W,C,O,_⟩
  .rw[z] at C;cases C
  .rw[z] at C;cases C;exact (ABF.1 O).1
 |mrow x y ks e=>
  rw[D] at h;obtain⟨_,r,_,_,_,C⟩:=h;rcases C with⟨C,_⟩|⟨E,W,us,C,O,_⟩
  .rw[z] at C;cases C
  .rw[z] at C;cases C;exact (ABF.1 O).1
 |mapb x ao K aJ aT=>
  rw[D] at h;obtain⟨_,_,E,ar,a4,_,C,O,_⟩:=h;rw[z] at C;cases C;exact (ABF.1 O).1
theorem AI.trans (h:AI T n V m w ac ag ab)(hm:AH T n V m w)(hn:n<=aj)(k:AI T aj ac ag ab Z S aq):AI T n V m w Z S aq where
 os:=k.os.trans h.os
 tape:=k.tape.trans h.tape
 output:=k.output.trans h.output
 size:=ABS h.size k.size
 mlen:=fun id hp=>k.mlen id (h.mlen id hp)
 rho:=fun id H=>
  have C:=h.rho id H;have O:=k.rho id C.2
  ⟨O.1.trans C.1,O.2⟩
 untr:=fun id hp H=>h.untr id hp (k.untr id (h.mlen id hp) H)
 fresh:=by
  intro id b hp H he;rcases k.back H he with C|⟨C,O⟩
  .exact ABS h.size C
  .exact h.fresh id b hp C O
 old:=by
  intro j hj bl;have C:=h.old j hj bl;rw[<-C];refine k.old j (ABE hj h.size) ?_;intro id H he;rcases h.back H he with C|⟨C,O⟩
  .omega
  .exact bl id C O
 tok:=by
  intro id x ks e hx;have a6:(m.at id).tracked=true:=by rw[hx];rfl
  have a0:m.at id≠ .pad:=ol a6;rcases h.tok id x ks e hx with⟨C,O,h3⟩|⟨C,O⟩
  .rcases k.tok id x ks e C with⟨K,E,D⟩|⟨K,E⟩
   .refine .inl ⟨K,E.trans O,fun b q=>?_⟩;rw[D b (by rw[O];exact q),h3 b q]
   .refine .inr ⟨fun b q off ho=>?_,?_⟩
    .rw[K b (by rw[O];exact q) off ho];exact Bq (h3 b q) off
    .rcases E with E|⟨L,af,e',E,D,k4⟩
     .exact .inl E
     .refine .inr ⟨L,af,e',E,ABS hn D,fun b' aw=>?_⟩;rcases k4 b' aw with z|z
      .exact .inl ⟨by rw[<-O];exact z.1,z.2⟩
      .exact .inr (ABS h.size z)
  .
   have gone:(∀b, V id=some b->((ag.at id).tracked=true-> ac id≠some b))->(∀b, V id=some b->∀off,off < CH T x ks->aq.cell? ⟨b,off,none⟩=w.cell? ⟨b,off,none⟩):=by
    intro hn b q off ho;rw[<-C b q off ho];have a8:=hm.lt a6 q;exact Bq (k.old b (ABE a8 h.size) (h.lone hm a6 q a8 (hn b q))) off
   rcases O with O|⟨L,af,e',O,h3,J⟩
   .refine .inr ⟨gone (fun b q H=>by rw[O] at H;cases H),?_⟩;have h6:=k.mlen id (h.mlen id a0);cases a4:S.at id with
    |pad=>exact absurd a4 h6
    |gone=>exact .inl rfl
    |cells l e2=>
     have:=k.untr id (h.mlen id a0) (by rw[a4];rfl);rw[O] at this;cases this
    |lp b4 q2=>
     have:=k.untr id (h.mlen id a0) (by rw[a4];rfl);rw[O] at this;cases this
    |mrow=>
     have:=k.untr id (h.mlen id a0) (by rw[a4];rfl);rw[O] at this;cases this
    |mapb=>
     have:=k.untr id (h.mlen id a0) (by rw[a4];rfl);rw[O] at this;cases this
    |tok aZ bc e2=>
     have:=k.untr id (h.mlen id a0) (by rw[a4];rfl);rw[O] at this;cases this
   .have keep:∀b, V id=some b->∀off,off < CH T x ks->aq.cell? ⟨b,off,none⟩=w.cell? ⟨b,off,none⟩:=by
     intro b q off ho;by_cases he: ac id=some b
     .have hp:CH T x ks<=CH T L af:=by
       rcases J b he with h5|h5
       .exact h5.2
       .have:=hm.lt a6 q;omega
      rcases k.tok id L af e' O with⟨_,_,D⟩|⟨K,_⟩
      .rw[Bq (D b he) off];exact C b q off ho
      .rw[K b he off (ABE ho hp)];exact C b q off ho
     .rw[<-C b q off ho];have a8:=hm.lt a6 q;exact Bq (k.old b (ABE a8 h.size) (h.lone hm a6 q a8 (fun _=>he))) off
    refine .inr ⟨keep,?_⟩;rcases k.tok id L af e' O with⟨K,E,D⟩|⟨K,E⟩
    .refine .inr ⟨L,af,e',K,h3,fun b' aw=>J b' (by rw[<-E];exact aw)⟩
    .rcases E with E|⟨aZ,bc,e2,E,D,k4⟩
     .exact .inl E
     .refine .inr ⟨aZ,bc,e2,E,ABS hn D,fun b' aw=>?_⟩;rcases k4 b' aw with z|z
      .rcases J b' z.1 with h5|h5
       .exact .inl ⟨h5.1,ABS h5.2 z.2⟩
       .exact .inr h5
      .exact .inr (ABS h.size z)
 row:=by
  intro id x y ks e hx;have gone:ag.at id= .gone->S.at id= .gone:=fun C=>by
   have a0:=k.mlen id (by rw[C];exact fun h=>by cases h);by_cases H:(S.at id).tracked=true
   .have:=k.untr id (by rw[C];exact fun h=>by cases h) H;rw[C] at this;cases this
   .cases a4:S.at id<;>rw[a4] at H a0<;>first|rfl|exact absurd rfl a0|exact absurd rfl H
  rcases h.row id x y ks e hx with C|⟨L,aF,af,C,O,h3⟩
  .exact .inl (gone C)
  .rcases k.row id L aF af e C with K|⟨aZ,y2,bc,K,E,D⟩
   .exact .inl K
   .refine .inr ⟨aZ,y2,bc,K,E.trans O,?_⟩;rcases D with⟨D,k4,z⟩|⟨D,k4⟩
    .rcases h3 with⟨h3,J,h5⟩|⟨h3,J⟩
     .refine .inl ⟨D.trans h3,k4.trans J,fun b W q hv=>?_⟩;obtain⟨b1,q1,q2⟩:=h5 b W q hv;obtain⟨b2,q3,q4⟩:=z b b1 (by rw[J];exact q) q1;exact⟨b2,q3,q4.trans q2⟩
     .exact .inr ⟨by rw[D];exact h3,fun b' aw=>J b' (by rw[<-k4];exact aw)⟩
    .refine .inr ⟨ABS hn D,fun b' aw=>?_⟩;rcases k4 b' aw with z|z
     .rcases h3 with⟨_,J,_⟩|⟨_,J⟩
      .exact .inl (by rw[<-J];exact z)
      .exact J b' z
     .exact .inr (ABS h.size z)
theorem AI.safe0 (h:AI T n V m w ac ag ab){off:Nat}(aa:Ag T V m w b off):
  Ag T ac ag ab b off/\ab.cell? ⟨b,off,none⟩=w.cell? ⟨b,off,none⟩:=by
 obtain⟨hb,hf,aa⟩:=aa;have ad:∀id,(m.at id).tracked=true-> V id=some b->∃x ks e,m.at id= .tok x ks e/\off < CH T x ks:=by
  intro id E z;have:=aa id;cases D:m.at id with
  |pad=>rw[D] at E;cases E
  |gone=>rw[D] at E;cases E
  |cells l e=>rw[D] at this;exact absurd z this
  |lp st q=>rw[D] at this;exact absurd z this
  |mrow x y ks e=>rw[D] at this;exact absurd z this
  |mapb x ao ka aJ aT=>rw[D] at this;exact absurd z this
  |tok x ks e=>rw[D] at this;exact⟨x,ks,e,rfl,this z⟩
 have not:∀id,(ag.at id).tracked=true->(∀x ks e,ag.at id≠ .tok x ks e)-> ac id≠some b:=by
  intro id E hp z;rcases h.back E z with C|⟨C,O⟩
  .omega
  .obtain⟨x,ks,e',D,_⟩:=ad id C O;rcases h.tok id x ks e' D with⟨C,_⟩|⟨_,C|⟨L,af,e',C,_⟩⟩
   .exact hp _ _ _ C
   .rw[C] at E;cases E
   .exact hp _ _ _ C
 refine⟨⟨ABE hb h.size,hf,fun id=>?_⟩,?_⟩
 .cases H:ag.at id with
  |pad=>trivial
  |gone=>trivial
  |cells l e=>exact not id (by rw[H];rfl) (by rw[H];exact fun _ _ _ h=>by cases h)
  |lp st q=>exact not id (by rw[H];rfl) (by rw[H];exact fun _ _ _ h=>by cases h)
  |mrow x y ks e=>exact not id (by rw[H];rfl) (by rw[H];exact fun _ _ _ h=>by cases h)
  |mapb x ao ka aJ aT=>exact not id (by rw[H];rfl) (by rw[H];exact fun _ _ _ h=>by cases h)
  |tok L af e'=>
   intro z;rcases h.back (by rw[H];rfl) z with C|⟨C,O⟩
   .omega
   .obtain⟨x,ks,e2,D,J⟩:=ad id C O;rcases h.tok id x ks e2 D with⟨C,O,_⟩|⟨_,C|⟨aZ,a8,e3,C,_,K⟩⟩
    .rw[H] at C;cases C;exact J
    .rw[H] at C;cases C
    .rw[H] at C;cases C;rcases K b z with h4|h4
     .exact ABE J h4.2
     .omega
 .by_cases a0:∃id,(m.at id).tracked=true/\ V id=some b
  .obtain⟨id,E,z⟩:=a0;obtain⟨x,ks,e,D,J⟩:=ad id E z;rcases h.tok id x ks e D with⟨_,_,K⟩|⟨C,_⟩
   .exact Bq (K b z) off
   .exact C b z off J
  .exact Bq (h.old b hb (fun id E z=>a0 ⟨id,E,z⟩)) off
theorem AI.safe (h:AI T n V m w ac ag ab)(_hm:AH T n V m w){off:Nat}(aa:Ag T V m w b off):
  Ag T ac ag ab b off/\ab.cell? ⟨b,off,none⟩=w.cell? ⟨b,off,none⟩:=h.safe0 aa
end
mutual
theorem AX.mono {ok N:Nat->Nat->Prop}{w ab:World}(h:∀b off,ok b off->N b off/\ab.cell? ⟨b,off,none⟩=w.cell? ⟨b,off,none⟩):
  ∀(k:Kd) (u:U) (v:Value),AX ok w k u v->AX N ab k u v
 | .int _ _ _,_,_,hh=>hh
 | .bool,_,_,hh=>hh
 | .str,_,_,hh=>hh
 | .val,_,_,hh=>hh
 | .any,_,_,hh=>hh
 | .list ks,u,v,⟨l,h0,C,O,a,I,h3,h4,h5⟩=>by
  refine⟨l,h0,C,O,a,I,h3,h4,fun D=>?_⟩;obtain⟨b,o,q,z⟩:=h5 D;exact⟨b,o,q,fun i us Y=>Al.mono h ks b _ us (z i us Y)⟩
theorem Al.mono {ok N:Nat->Nat->Prop}{w ab:World}(h:∀b off,ok b off->N b off/\ab.cell? ⟨b,off,none⟩=w.cell? ⟨b,off,none⟩):
  ∀(ks:List Kd) (b off:Nat) (us:List U),Al ok w ks b off us->Al N ab ks b off us
 |[],_,_,_,hh=>hh
 |k::ks,b,off,us,⟨u,us',e,⟨C,v,O,h3⟩,h4⟩=>
  ⟨u,us',e,⟨(h b off C).1,v,by rw[(h b off C).2];exact O,AX.mono h k u v h3⟩,Al.mono h ks b _ us' h4⟩
end
section
variable {T:Tab}{n aj:Nat}{V ac:Nat->Option Nat}{m ag:Mem}{w ab:World}
variable{id x y:Nat}{v:Value}{N:Nat->Nat->Prop}
theorem AI.link0 (h:AI T n V m w ac ag ab)(hx:x < n)(K:m.at id≠ .pad)
  (hl:∀ks e,m.at id= .tok x ks e->Xd T V w id x ks e v):∀ks e,ag.at id= .tok x ks e->Xd T ac ab id x ks e v:=by
 intro ks e q;have ht:=h.untr id K (by rw[q];rfl);rcases Mv ht with hk|⟨H,E,D,z⟩|⟨H,y0,E,D,z⟩;rotate_left 2
 .rcases h.row id H y0 E D z with C|⟨_,_,_,C,_⟩<;>rw[q] at C<;>cases C
 .have:=(h.rho id hk).2;rw[q] at this;cases this
 .rcases h.tok id H E D z with⟨C,O,J⟩|⟨_,C|⟨L,af,e',C,h4,_⟩⟩
  .rw[q] at C;cases C;rcases hl ks e z with⟨X,ah⟩|⟨b,I,W,X,ah,l3,l4⟩
   .exact .inl ⟨by rw[O];exact X,ah⟩
   .exact .inr ⟨b,I,W,by rw[O];exact X,ah,by rw[J b X];exact l3,l4⟩
  .rw[q] at C;cases C
  .grind
theorem AI.linkR (h:AI T n V m w ac ag ab)(hx:x < n)(K:m.at id≠ .pad)
  (hl:∀ks e,m.at id= .tok x ks e->V4 V w id ks e v):∀ks e,ag.at id= .tok x ks e->V4 ac ab id ks e v:=by
 intro ks e q;have ht:=h.untr id K (by rw[q];rfl);rcases Mv ht with hk|⟨H,E,D,z⟩|⟨H,y0,E,D,z⟩;rotate_left 2
 .rcases h.row id H y0 E D z with C|⟨_,_,_,C,_⟩<;>rw[q] at C<;>cases C
 .have:=(h.rho id hk).2;rw[q] at this;cases this
 .rcases h.tok id H E D z with⟨C,O,J⟩|⟨_,C|⟨L,af,e',C,h4,_⟩⟩
  .rw[q] at C;cases C;rcases hl ks e z with⟨X,ah⟩|⟨b,len,I,W,X,ah,l0,l3,l4⟩
   .exact .inl ⟨by rw[O];exact X,ah⟩
   .exact .inr ⟨b,len,I,W,by rw[O];exact X,ah,l0,by rw[J b X];exact l3,l4⟩
  .rw[q] at C;cases C
  .grind
theorem AI.linkM (h:AI T n V m w ac ag ab){a:Option Addr}{I:Nat}(hy:y < n)(al:m.at id≠ .pad)
  (hl:∀x ks e,m.at id= .mrow x y ks e->TB V w id ks e a I):∀x ks e,ag.at id= .mrow x y ks e->TB ac ab id ks e a I:=by
 intro x ks e q;have ht:=h.untr id al (by rw[q];rfl);rcases Mv ht with hk|⟨H,E,J,D⟩|⟨H,y0,E,J,D⟩
 .have:=(h.rho id hk).2;rw[q] at this;cases this
 .rcases h.tok id H E J D with⟨C,_⟩|⟨_,C|⟨_,_,_,C,_⟩⟩<;>rw[q] at C<;>cases C
 .rcases h.row id H y0 E J D with C|⟨L,aF,af,C,O,z⟩
  .rw[q] at C;cases C
  .rw[q] at C;cases C;rcases z with⟨z,K,h5⟩|⟨z,_⟩
   .subst z;rcases hl H E e D with⟨X,ah⟩|⟨b,W,X,ah,l3,l4⟩
    .exact .inl ⟨by rw[K];exact X,ah⟩
    .obtain⟨a5,q1,q2⟩:=h5 b W X l3;exact .inr ⟨b,a5,by rw[K];exact X,ah,q1,by rw[q2,O];exact l4⟩
   .omega
theorem AI.ptrM (h:AI T n V m w ac ag ab){b:Nat}(hy:y < n)(J:m.at id≠ .pad)
  (hl:∀x ks e,m.at id= .mrow x y ks e-> V id=some b):∀x ks e,ag.at id= .mrow x y ks e-> ac id=some b:=by
 intro x ks e q;have ht:=h.untr id J (by rw[q];rfl);rcases Mv ht with K|⟨H,E,z,D⟩|⟨H,y0,E,z,D⟩
 .have:=(h.rho id K).2;rw[q] at this;cases this
 .rcases h.tok id H E z D with⟨C,_⟩|⟨_,C|⟨_,_,_,C,_⟩⟩<;>rw[q] at C<;>cases C
 .rcases h.row id H y0 E z D with C|⟨L,aF,af,C,O,h3⟩
  .rw[q] at C;cases C
  .grind
theorem AT.mono {ok N:Nat->Nat->Prop}{w ab:World}(h:∀b off,ok b off->N b off/\ab.cell? ⟨b,off,none⟩=w.cell? ⟨b,off,none⟩):∀{ks:List Kd} {us:List U} {W:List Value},AT ok w ks us W->AT N ab ks us W
 |[],_,_,hh=>hh
 |_::_,_,_,⟨u,us',v,vs',C,O,h3,h4⟩=>⟨u,us',v,vs',C,O,AX.mono h _ _ _ h3,AT.mono h h4⟩
theorem A9.mono {ok N:Nat->Nat->Prop}{w ab:World}(h:∀b off,ok b off->N b off/\ab.cell? ⟨b,off,none⟩=w.cell? ⟨b,off,none⟩){ks:List Kd}:∀{l:U'} {R:List (List Value)},A9 ok w ks l R->A9 N ab ks l R
 |[],_,hh=>hh
 |_::_,_,⟨W,vss',C,O,h3⟩=>⟨W,vss',C,AT.mono h O,A9.mono h h3⟩
theorem Ah.mono {ok:Nat->Nat->Prop}{w ab:World}(h:∀b off,ok b off->N b off/\ab.cell? ⟨b,off,none⟩=w.cell? ⟨b,off,none⟩){ks:List Kd}{l:U'}{W:List Value}:Ah ok w ks l W->Ah N ab ks l W
 |⟨R,C,O⟩=>⟨R,C,A9.mono h O⟩
theorem CJ.mono {ok:Nat->Nat->Prop}{w ab:World}(h:∀b off,ok b off->N b off/\ab.cell? ⟨b,off,none⟩=w.cell? ⟨b,off,none⟩){ks:List Kd}{a7:Bool}{us:List U}:CJ ok w ks a7 us v->CJ N ab ks a7 us v
 |⟨W,C,O⟩=>⟨W,AT.mono h C,O⟩
mutual
theorem AA.mono0 (h:AI T n V m w ac ag ab)(q:n<=aj):∀(c:AC) (v:Value),AA T n V m w c v->AA T aj ac ag ab c v
 | .any,_,_=>trivial
 | .anyc,_,hh=>hh
 | .on _ a,v,hh=>⟨ABE hh.1 q,fun z=>AA.mono0 h q a v (hh.2 z)⟩
 | .gd _ a,v,hh=>⟨ABE hh.1 q,fun z=>AA.mono0 h q a v (hh.2.1 z),hh.2.2⟩
 | .cb _,_,hh=>hh
 | .b _,_,⟨h0,hh⟩=>⟨ABE h0 q,hh⟩
 | .nb _,_,⟨h0,hh⟩=>⟨ABE h0 q,hh⟩
 | .ci _ _,_,hh=>hh
 | .i _ _ _ _,_,⟨h0,hh⟩=>⟨ABE h0 q,hh⟩
 | .cv _,_,hh=>hh
 | .v _,_,⟨h0,hh⟩=>⟨ABE h0 q,hh⟩
 | .s _,_,⟨h0,hh⟩=>⟨ABE h0 q,hh⟩
 | .ptr id off,v,⟨b,C,O,h3⟩=>⟨b,by rw[(h.rho id h3).1];exact C,O,(h.rho id h3).2⟩
 | .pix id base B aE x an,v,⟨h0,b,j,C,O,h5,h6,h7,h3⟩=>
  ⟨ABE h0 q,b,j,by rw[(h.rho id h3).1];exact C,O,h5,h6,h7,(h.rho id h3).2⟩
 | .ro x ks,v,⟨h0,O⟩=>⟨ABE h0 q,AX.mono (fun _ _ aa=>h.safe0 aa) _ _ v O⟩
 | .rp x t off ks,v,⟨h0,j,b,o,us,O,h3,h4,h5,h6⟩=>⟨⟨ABE h0.1 q,ABE h0.2 q⟩,j,b,o,us,O,h3,h4,h5,Al.mono (fun _ _ aa=>h.safe0 aa) _ _ _ _ h6⟩
 | .vec id x ks,v,⟨O,h3,h4,h5⟩=>
  ⟨ABE O q,h.mlen id h3,AX.mono (fun _ _ aa=>h.safe0 aa) _ _ v h4,h.link0 O h3 h5⟩
 | .fn f first I,v,⟨W,us,C,O,h3⟩=>⟨W,us,C,AF.mono0 h q first W O,AF.mono0 h q I us h3⟩
 | .sel x alts,v,⟨h0,j,C,O,h3⟩=>⟨ABE h0 q,j,C,O,Av.mono0 h q alts j.toNat v h3⟩
 | .yl id,v,⟨b,C,O,h3⟩=>⟨b,by rw[(h.rho id h3).1];exact C,O,(h.rho id h3).2⟩
 | .asl id off len,v,⟨b,C,O,h3⟩=>⟨b,by rw[(h.rho id h3).1];exact C,O,(h.rho id h3).2⟩
 | .rsv id x ks,v,⟨O,h3,h4,h6,h5⟩=>⟨ABE O q,h.mlen id h3,h4,h6,h.linkR O h3 h5⟩
 | .mr id y,v,⟨⟨h0,h3⟩,j,a,I,C,O,h4,h5,h6⟩=>⟨⟨ABE h0 q,h.mlen id h3⟩,j,a,I,C,O,h4,h5,h.linkM h0 h3 h6⟩
 | .mp id y t sz off,v,⟨⟨h0,h0',h3⟩,j,L,b,C,O,h4,h5,h6⟩=>⟨⟨ABE h0 q,ABE h0' q,h.mlen id h3⟩,j,L,b,C,O,h4,h5,h.ptrM h0 h3 h6⟩
 | .mv id,v,⟨b,C,O,h3⟩=>⟨b,by rw[(h.rho id h3).1];exact C,O,(h.rho id h3).2⟩
 | .agg l,v,⟨W,C,O⟩=>⟨W,C,AF.mono0 h q l W O⟩
 | .tup l,v,⟨W,C,O⟩=>⟨W,C,AF.mono0 h q l W O⟩
theorem AF.mono0 (h:AI T n V m w ac ag ab)(q:n<=aj):∀(l:List AC) (W:List Value),AF T n V m w l W->AF T aj ac ag ab l W
 |[],_,hh=>hh
 |c::l,_,⟨u,us,C,O,h3⟩=>⟨u,us,C,AA.mono0 h q c u O,AF.mono0 h q l us h3⟩
theorem Av.mono0 (h:AI T n V m w ac ag ab)(q:n<=aj):∀(l:List AC) (j:Nat) (v:Value),Av T n V m w l j v->Av T aj ac ag ab l j v
 |[],_,_,hh=>hh
 |c::_,0,v,hh=>AA.mono0 h q c v hh
 |_::l,j+1,v,hh=>Av.mono0 h q l j v hh
end
theorem AA.mono (h:AI T n V m w ac ag ab)(_hm:AH T n V m w)(z:n<=aj)(c:AC)(v:Value)(q:AA T n V m w c v):AA T aj ac ag ab c v:=AA.mono0 h z c v q
theorem AF.mono (h:AI T n V m w ac ag ab)(_hm:AH T n V m w)(z:n<=aj)(l:List AC)(W:List Value)(q:AF T n V m w l W):AF T aj ac ag ab l W:=AF.mono0 h z l W q
theorem AF.length:∀{l:List AC} {W:List Value},AF T n V m w l W->W.length=l.length
 |[],_,h=>by cases h;rfl
 |_::l,_,⟨u,us,C,_,h3⟩=>by subst C;simp[AF.length h3]
theorem AF.get:∀{l:List AC} {W:List Value},AF T n V m w l W->∀{i:Nat} {c:AC},l[i]? =some c->∃u,W[i]? =some u/\AA T n V m w c u
 |_::_,_,⟨u,us,C,O,_⟩,0,c,hc=>by subst C;simp at hc;subst hc;exact⟨u,by simp,O⟩
 |_::l,_,⟨u,us,C,_,h3⟩,i+1,c,hc=>by subst C;simp at hc;simpa using AF.get h3 hc
 |[],_,_,_,_,hc=>by simp at hc
theorem AF.of_get:∀{l:List AC} {W:List Value},W.length=l.length->(∀(i:Nat) (c:AC) (u:Value),l[i]? =some c->W[i]? =some u->AA T n V m w c u)->AF T n V m w l W
 |[],[],_,_=>rfl
 |[],_::_,h,_=>by simp at h
 |_::_,[],h,_=>by simp at h
 |c::l,u::us,h,k=>⟨u,us,rfl,k 0 c u rfl rfl,AF.of_get (by simpa using h) (fun i q E z D=>k (i+1) q E (by simpa using z) (by simpa using D))⟩
variable{l:List AC}{W:List Value}
theorem AF.set (h:AF T n V m w l W)(i:Nat){c:AC}{u:Value}(E:AA T n V m w c u):AF T n V m w (l.set i c) (W.set i u):=by
 refine AF.of_get (by simp[h.length]) ?_;intro j q H C O;rw[ACB] at C O;by_cases e:i=j
 .grind
 .simp only[e,if_false] at C O;obtain⟨u2,z,D⟩:=h.get C;grind
theorem AF.drop (h:AF T n V m w l W)(k:Nat):AF T n V m w (l.drop k) (W.drop k):=by
 refine AF.of_get (by simp[h.length]) ?_;intro j c u C O;simp only[AB5] at C O;obtain⟨u2,q,z⟩:=h.get C;grind
theorem AF.take (h:AF T n V m w l W)(k:Nat):AF T n V m w (l.take k) (W.take k):=by
 refine AF.of_get (by simp[h.length]) ?_;intro j c u C O;simp only[AB8] at C O;split at C
 .rename_i q;simp only[q,if_true] at O;obtain⟨u2,z,D⟩:=h.get C;grind
 .cases C
theorem AF.append {ae:List AC}{D:List Value}(h:AF T n V m w l W)(z:AF T n V m w ae D):AF T n V m w (l++ae) (W++D):=by
 refine AF.of_get (by simp[h.length,z.length]) ?_;intro j c u C O;rw[AB7] at C O;rw[h.length] at O;split at C
 .rename_i q;simp only[q,if_true] at O;obtain⟨u2,E,H⟩:=h.get C;grind
 .rename_i q;simp only[q,if_false] at O;obtain⟨u2,E,H⟩:=z.get C;grind
end
end
section
open Go Go.RowKit
abbrev PC:=Option Nat
structure Ob where
 pc:PC
 p:Pr
structure G where
 n:Nat
 eqs:List (Nat × Ex)
 obs:List Ob
 lps:List (Nat × CL):=[]
structure R where
 c:AC
 m:Mem
 us:List Ex:=[]
 ps:List Pr:=[]
def Jh:Nat->List Ex->List (Nat × Ex)->List (Nat × Ex)
 |_,[],D=>D
 |n,e::ar,D=>Jh (n+1) ar ((n,e)::D)
def G.pushAll (g:G):List Ex->G
 |[]=>g
 |us=>{ g with n:=g.n+us.length,eqs:=Jh g.n us g.eqs }
def pcv (T:Tab):PC->Prop
 |none=>True
 |some c=>T c= .bool true
def Ob.holds (T:Tab)(o:Ob):Prop:=pcv T o.pc->o.p.holds T
def G.needAll (g:G)(ad:PC)(ps:List Pr):G:=
 match ps with
 |[]=>g
 |ps=>{ g with obs:=ps.map (Ob.mk ad)++g.obs }
structure Agr (T:Tab) (g:G):Prop where
 eqs:∀p∈g.eqs,T p.1=p.2.eval T
 lps:∀p∈g.lps,T.lp p.1=p.2
def Ar (T:Tab)(g:G):Prop:=∀o∈g.obs,o.holds T
def New (T:Tab)(n:Nat)(us:List Ex):Prop:=∀j u,us[j]? =some u->T (n+j)=u.eval T
theorem New.nil (T:Tab)(n:Nat):New T n []:=fun j u h=>by simp at h
theorem New.left {T:Tab}{n:Nat}{us z:List Ex}(h:New T n (us++z)):New T n us:=fun j u q=>
 h j u (by rw[ABO (ABD.1 q).1];exact q)
theorem New.right {T:Tab}{n:Nat}{us q:List Ex}(h:New T n (us++q)):New T (n+us.length) q:=fun j u z=>by
 rw[Nat.add_assoc];exact h _ u (by rw[ABP (by omega)];simpa using z)
theorem New.head {T:Tab}{n:Nat}{u:Ex}{us:List Ex}(h:New T n (u::us)):T n=u.eval T:=h 0 u rfl
theorem JT:∀(us:List Ex) (n:Nat) (D:List (Nat × Ex)) (p:Nat × Ex),p∈Jh n us D↔p∈D\/∃j u,us[j]? =some u/\p=(n+j,u)
 |[],n,D,p=>by simp[Jh]
 |e::ar,n,D,p=>by
  rw[Jh,JT ar (n+1)];constructor
  .rintro (h|⟨j,u,C,O⟩)
   .cases h with
    |head=>exact .inr ⟨0,e,rfl,rfl⟩
    |tail _ h=>exact .inl h
   .exact .inr ⟨j+1,u,by simpa using C,by rw[O];congr 1;omega⟩
  .rintro (h|⟨j,u,C,O⟩)
   .exact .inl (ABH _ h)
   .cases j with
    |zero=>simp at C;subst C;subst O;exact .inl (ABK ..)
    |succ j=>exact .inr ⟨j,u,by simpa using C,by rw[O];congr 1;omega⟩
def Kd.isAny:Kd->Bool| .any=>true|_=>false
mutual
def Kd.join:Kd->Kd->Kd
 | .int k am Y,.int k' lo' hi'=>if k=k' then .int k (min am lo') (max Y hi') else .any
 | .bool,.bool=> .bool
 | .str,.str=> .str
 | .val,.val=> .val
 | .list ks,.list af=>
  match ks,af with
  |[],af=> .list af
  |ks,[]=> .list ks
  |ks,af=>if ks.length=af.length then .list (Kd.joins ks af) else .any
 |_,_=> .any
def Kd.joins:List Kd->List Kd->List Kd
 |k::ks,k'::af=>Kd.join k k'::Kd.joins ks af
 |_,_=>[]
end
mutual
def Kd.beq:Kd->Kd->Bool
 | .int k am Y,.int k' lo' hi'=>decide (k=k')&&decide (am=lo')&&decide (Y=hi')
 | .bool,.bool=>true
 | .str,.str=>true
 | .val,.val=>true
 | .any,.any=>true
 | .list ks,.list af=>Kd.beqs ks af
 |_,_=>false
def Kd.beqs:List Kd->List Kd->Bool
 |[],[]=>true
 |k::ks,k'::af=>Kd.beq k k'&&Kd.beqs ks af
 |_,_=>false
end
mutual
theorem Kd.beq_eq:∀(k q:Kd),Kd.beq k q=true->k=q
 | .int _ _ _,d,h=>by cases d<;>simp_all [Kd.beq]
 | .bool,d,h=>by cases d<;>simp_all [Kd.beq]
 | .str,d,h=>by cases d<;>simp_all [Kd.beq]
 | .val,d,h=>by cases d<;>simp_all [Kd.beq]
 | .any,d,h=>by cases d<;>simp_all [Kd.beq]
 | .list ks,d,h=>by
  cases d<;>simp[Kd.beq] at h;rw[Kd.beqs_eq ks _ h]
theorem Kd.beqs_eq:∀(k q:List Kd),Kd.beqs k q=true->k=q
 |[],d,h=>by cases d<;>simp_all [Kd.beqs]
 |k::ks,d,h=>by
  cases d<;>simp[Kd.beqs] at h;rw[Kd.beq_eq k _ h.1,Kd.beqs_eq ks _ h.2]
end
theorem Kd.joins_len:∀(ks af:List Kd),ks.length=af.length->(Kd.joins ks af).length=ks.length
 |[],[],_=>rfl
 |[],_::_,h=>by simp at h
 |_::_,[],h=>by simp at h
 |k::ks,k'::af,hl=>by simp[Kd.joins,Kd.joins_len ks af (by simpa using hl)]
section
variable {ok:Nat->Nat->Prop}{w:World}
theorem AX.one {k:Kd}{u:U}{v:Value}(h:AX ok w k u v):v.oneCell'=true:=by
 cases k with
 |int=>obtain⟨_,_,h,_⟩:=h;rw[h];rfl
 |bool=>obtain⟨_,_,h⟩:=h;rw[h];rfl
 |str=>obtain⟨_,_,h,_⟩:=h;rw[h];rfl
 |val=>exact h.2
 |any=>exact h
 |list ks=>obtain⟨_,_,_,_,_,_,h,_⟩:=h;rw[h];rfl
mutual
theorem Kd.join_l:∀(k q:Kd) (u:U) (v:Value),AX ok w k u v->AX ok w (Kd.join k q) u v
 | .int k am Y,q,u,v,h=>by
  cases q<;>try (exact h.one)
  rename_i j a2 a1;simp only[Kd.join];split
  .obtain⟨n,C,O,z,D⟩:=h;exact⟨n,C,O,by omega,by omega⟩
  .exact h.one
 | .bool,q,u,v,h=>by cases q<;>first|exact h|exact h.one
 | .str,q,u,v,h=>by cases q<;>first|exact h|exact h.one
 | .val,q,u,v,h=>by cases q<;>first|exact h|exact h.one
 | .any,q,u,v,h=>by cases q<;>exact h.one
 | .list ks,q,u,v,h=>by
  cases q<;>try (exact h.one)
  rename_i af;have E:=h;obtain⟨l,H,C,O,a,I,z,D,h5⟩:=h;cases ks with
  |nil=>
   obtain rfl:=O rfl;exact⟨[],H,C,fun _=>rfl,a,I,z,D,fun h=>absurd h (by simp)⟩
  |cons c aD=>
   cases af with
   |nil=>exact E
   |cons K ad=>
    simp only[Kd.join];split
    .rename_i J;refine⟨l,H,C,(fun h=>by simp[Kd.joins] at h),a,I,z,D,fun hp=>?_⟩;obtain⟨b,o,h6,h7⟩:=h5 hp;refine⟨b,o,h6,fun i us Y=>?_⟩;have:=Kd.joins_l (c::aD) (K::ad) J b _ us (h7 i us Y);rw[Kd.joins_len _ _ J];exact this
    .exact E.one
theorem Kd.joins_l:∀(ks af:List Kd),ks.length=af.length->∀(b off:Nat) (us:List U),Al ok w ks b off us->Al ok w (Kd.joins ks af) b off us
 |[],[],_,_,_,_,h=>h
 |[],_::_,h,_,_,_,_=>by simp at h
 |_::_,[],h,_,_,_,_=>by simp at h
 |k::ks,k'::af,hl,b,off,us,⟨u,us',e,⟨C,v,O,h3⟩,h4⟩=>
  ⟨u,us',e,⟨C,v,O,Kd.join_l k k' u v h3⟩,Kd.joins_l ks af (by simpa using hl) b _ us' h4⟩
end
mutual
theorem Kd.join_r:∀(k q:Kd) (u:U) (v:Value),AX ok w q u v->AX ok w (Kd.join k q) u v
 | .int k am Y,q,u,v,h=>by
  cases q<;>try (exact h.one)
  rename_i j a2 a1;simp only[Kd.join];split
  .rename_i e;obtain⟨n,C,O,z,D⟩:=h;exact⟨n,C,by rw[e];exact O,by omega,by omega⟩
  .exact h.one
 | .bool,q,u,v,h=>by cases q<;>first|exact h|exact h.one
 | .str,q,u,v,h=>by cases q<;>first|exact h|exact h.one
 | .val,q,u,v,h=>by cases q<;>first|exact h|exact h.one
 | .any,q,u,v,h=>by cases q<;>exact h.one
 | .list ks,q,u,v,h=>by
  cases q<;>try (exact h.one)
  rename_i af;have H:=h;obtain⟨l,J,C,O,a,I,z,D,h5⟩:=h;cases ks with
  |nil=>exact H
  |cons c aD=>
   cases af with
   |nil=>
    obtain rfl:=O rfl;exact⟨[],J,C,fun _=>rfl,a,I,z,D,fun h=>absurd h (by simp)⟩
   |cons K ad=>
    simp only[Kd.join];split
    .rename_i E;refine⟨l,J,C,(fun h=>by simp[Kd.joins] at h),a,I,z,D,fun hp=>?_⟩;obtain⟨b,o,h6,h7⟩:=h5 hp;refine⟨b,o,h6,fun i us Y=>?_⟩;have:=Kd.joins_r (c::aD) (K::ad) E b _ us (h7 i us Y);rw[Kd.joins_len _ _ E,E];exact this
    .exact H.one
theorem Kd.joins_r:∀(ks af:List Kd),ks.length=af.length->∀(b off:Nat) (us:List U),Al ok w af b off us->Al ok w (Kd.joins ks af) b off us
 |[],[],_,_,_,_,h=>h
 |[],_::_,h,_,_,_,_=>by simp at h
 |_::_,[],h,_,_,_,_=>by simp at h
 |k::ks,k'::af,hl,b,off,us,⟨u,us',e,⟨C,v,O,h3⟩,h4⟩=>
  ⟨u,us',e,⟨C,v,O,Kd.join_r k k' u v h3⟩,Kd.joins_r ks af (by simpa using hl) b _ us' h4⟩
end
end
inductive Vx where
 |rf (r:Rf)
 |ex (e:Ex)
def Vx.eval (T:Tab):Vx->U| .rf r=>r.eval T| .ex e=>e.eval T
def FY:AC->Option (Kd × Rf)
 | .cb b=>some (.bool,.c (.bool b))
 | .b x=>some (.bool,.e x)
 | .nb x=>some (.bool,.n x)
 | .ci k n=>some (.int k n n,.c (.int n))
 | .i k am Y x=>some (.int k am Y,.e x)
 | .cv .nilSlice=>some (.list [],.c (.list []))
 | .cv (.str s)=>if s.size<=65536 then some (.str,.c (.str s)) else none
 | .cv c=>some (.val,.c (.val c.value))
 | .v x=>some (.val,.e x)
 | .s x=>some (.str,.e x)
 | .ro x ks=>some (.list ks,.e x)
 | .vec _ x ks=>some (.list ks,.e x)
 |_=>none
def Lg:Kd->Nat->AC
 | .int k am Y,x=>if am=Y then .ci k am else .i k am Y x
 | .bool,x=> .b x
 | .str,x=> .s x
 | .val,x=> .v x
 | .any,_=> .anyc
 | .list ks,x=> .ro x ks
def CO (c:AC):Option (IntKind × Int × Int × Rf):=
 match c with
 | .ci k n=>some (k,n,n,.c (.int n))
 | .i k am Y x=>some (k,am,Y,.e x)
 |_=>none
def Jk (c:AC):Option (Option Bool × Rf):=
 match c with
 | .cb b=>some (some b,.c (.bool b))
 | .b x=>some (none,.e x)
 | .nb x=>some (none,.n x)
 |_=>none
def Jx (c:AC):Option (List Kd × Rf):=
 match c with
 | .cv .nilSlice=>some ([],.c (.list []))
 | .ro x ks=>some (ks,.e x)
 | .vec _ x ks=>some (ks,.e x)
 |_=>none
def mkV (g:G)(m:Mem)(k:Kd)(v:Vx)(ps:List Pr:=[]):R:=
 match k,v with
 | .int k am Y,v=>if am=Y then { c:= .ci k am,m,us:=[],ps } else
  match v with
  | .rf (.e x)=>{ c:= .i k am Y x,m,us:=[],ps }
  | .rf r=>{ c:= .i k am Y g.n,m,us:=[⟨ "id",oId,[r]⟩],ps }
  | .ex e=>{ c:= .i k am Y g.n,m,us:=[e],ps }
 |k,.ex e=>{ c:=Lg k g.n,m,us:=[e],ps }
 |k,.rf (.e x)=>{ c:=Lg k x,m,us:=[],ps }
 |k,.rf r=>{ c:=Lg k g.n,m,us:=[⟨ "id",oId,[r]⟩],ps }
def mkI (g:G)(m:Mem)(k:IntKind)(am Y:Int)(v:Vx)(ps:List Pr:=[]):R:=mkV g m (.int k am Y) v ps
def mkB (g:G)(m:Mem)(h:Option Bool)(e:Ex)(ps:List Pr:=[]):R:=
 match h with
 |some b=>{ c:= .cb b,m,us:=[],ps }
 |none=>{ c:= .b g.n,m,us:=[e],ps }
def EG:IntKind->String
 | .i8=> "i8" | .i16=> "i16" | .i32=> "i32" | .i64=> "i64" | .u8=> "u8" | .u16=> "u16" | .u32=> "u32" | .u64=> "u64"
def fU (k:IntKind)(e:Ex):Ex:=⟨EG k++ " " ++e.tag.str,Km k e.f,e.args⟩
def rng (k:IntKind)(am Y:Int)(e:Ex):Int × Int × Vx:=
 if k.min<=am/\Y<=k.max then (am,Y,.ex e) else (k.min,k.max,.ex (fU k e))
def ex2 (h:Tg)(f:Int->Int->Int)(a b:Rf):Ex:=⟨h,o2 f,[a,b]⟩
def Xu (n:Int):Option Nat:=(List.range 64).find? fun j=>decide (n=((2 ^ j:Nat):Int) - 1)
def SV (op:BinOp)(k:IntKind)(X C:Int)(av:Rf)(ah O:Int):Option (Int × Int × Vx):=
 if ah=O/\0<=ah/\ah.toNat<=k.bits then
  match op with
  | .shl=>some (rng k (X*((2 ^ ah.toNat:Nat):Int)) (C*((2 ^ ah.toNat:Nat):Int)) (ex2 "mul" wm av (.c (.int ((2 ^ ah.toNat:Nat):Int)))))
  | .shr=>some (X / ((2 ^ ah.toNat:Nat):Int),C / ((2 ^ ah.toNat:Nat):Int),.ex (ex2 "div" uJ av (.c (.int ((2 ^ ah.toNat:Nat):Int)))))
  |_=>none
 else none
def VN (op:BinOp)(k:IntKind)(X C:Int)(av:Rf)(ah O:Int)(aB:Rf):Option ((Int × Int × Vx) × List Pr):=
 match op with
 | .add=>some (if (ah=0/\O=0)/\k.min<=X/\C<=k.max then (X,C,.rf av) else if (X=0/\C=0)/\k.min<=ah/\O<=k.max then (ah,O,.rf aB) else rng k (X+ah) (C+O) (ex2 "add" th av aB),[])
 | .sub=>some (if (ah=0/\O=0)/\k.min<=X/\C<=k.max then (X,C,.rf av) else rng k (X - O) (C - ah) (ex2 "sub" u4 av aB),[])
 | .mul=>some (rng k (min (min (X*ah) (X*O)) (min (C*ah) (C*O))) (max (max (X*ah) (X*O)) (max (C*ah) (C*O))) (ex2 "mul" wm av aB),[])
 | .quo=>
  if 0 < ah then
   if 0<=X then some (rng k (X / O) (C / ah) (ex2 "div" uJ av aB),[])
   else if ah=O then some (rng k (X.tdiv ah) (C.tdiv ah) (ex2 "tdiv" WQ av aB),[])
   else some (rng k (min X 0) (max C 0) (ex2 "tdiv" WQ av aB),[])
  else some ((k.min,k.max,.ex (fU k (ex2 "tdiv" WQ av aB))),[⟨ "nez",Ud,[aB]⟩])
 | .rem=>
  if 0 < ah then
   if 0<=X then some ((if X=C/\ah=O then X % ah else 0,if X=C/\ah=O then X % ah else min C (O - 1),.ex (ex2 "mod" eZ av aB)),[])
   else some ((max (1 - O) (min X 0),min (O - 1) (max C 0),.ex (ex2 "tmod" mS av aB)),[])
  else some ((min X 0,max C 0,.ex (ex2 "tmod" mS av aB)),[⟨ "nez",Ud,[aB]⟩])
 | .and=>match Xu ah with
  |some j=>if (ah=O/\0<=X)/\C<=k.max/\O<=k.max then some ((0,O,.ex (ex2 "mod" eZ av (.c (.int ((2 ^ j:Nat):Int))))),[]) else some ((k.min,k.max,.ex (ex2 (EG k++ " and") (DT .and k) av aB)),[])
  |none=>some ((k.min,k.max,.ex (ex2 (EG k++ " and") (DT .and k) av aB)),[])
 | .or=>some ((k.min,k.max,.ex (ex2 (EG k++ " or") (DT .or k) av aB)),[])
 | .xor=>some ((k.min,k.max,.ex (ex2 (EG k++ " xor") (DT .xor k) av aB)),[])
 | .andNot=>some ((k.min,k.max,.ex (ex2 (EG k++ " andNot") (DT .andNot k) av aB)),[])
 |_=>none
def ua (op:BinOp)(X C:Int)(av:Rf)(ah O:Int)(aB:Rf):Option (Option Bool × Ex):=
 match op with
 | .lss=>some (if C < ah then some true else if O<=X then some false else none,⟨ "lt",oLt,[av,aB]⟩)
 | .leq=>some (if C<=ah then some true else if O < X then some false else none,⟨ "le",oLe,[av,aB]⟩)
 | .gtr=>some (if O < X then some true else if C<=ah then some false else none,⟨ "lt",oLt,[aB,av]⟩)
 | .geq=>some (if O<=X then some true else if C < ah then some false else none,⟨ "le",oLe,[aB,av]⟩)
 | .eql=>some (if C < ah\/O < X then some false else if X=C/\ah=O/\X=ah then some true else none,⟨ "eq",oEq,[av,aB]⟩)
 | .neq=>some (if C < ah\/O < X then some true else if X=C/\ah=O/\X=ah then some false else none,⟨ "ne",oNe,[av,aB]⟩)
 |_=>none
theorem EM (k:IntKind)(n:Int):k.min<=k.wrap n/\k.wrap n<=k.max:=by
 cases k<;>simp[IntKind.min,IntKind.max,IntKind.wrap,IntKind.signed,IntKind.bits]<;>(try split)<;>omega
theorem E6 (k:IntKind)(n:Int)(C:k.min<=n)(O:n<=k.max):k.wrap n=n:=by
 cases k<;>simp[IntKind.min,IntKind.max,IntKind.wrap,IntKind.signed,IntKind.bits] at* <;>(try split)<;>omega
structure kL (T:Tab) (t:Int × Int × Vx) (n:Int):Prop where
 val:t.2.2.eval T= .int n
 lo:t.1<=n
 hi:n<=t.2.1
variable{e:Ex}{T:Tab}{X C av ah O aB a d:Int}{k:IntKind}{ax aK:Rf}{t:Int × Int × Vx}
theorem LQ (k:IntKind){am Y n:Int}(q:e.eval T= .int n)(C:am<=n)(O:n<=Y):kL T (rng k am Y e) (k.wrap n):=by
 unfold rng;split
 .rename_i h;rw[E6 k n (by omega) (by omega)];exact⟨q,C,O⟩
 .have:=EM k n;refine⟨?_,this.1,this.2⟩;show Km k e.f (e.args.map (Rf.eval T))=_;have z:e.f (e.args.map (Rf.eval T))= .int n:=q;simp only[Km,z,U.toI]
theorem lL (a:X<=av)(b:av<=C)(c:ah<=aB)(d:aB<=O):
  min (min (X*ah) (X*O)) (min (C*ah) (C*O))<=av*aB/\av*aB<=max (max (X*ah) (X*O)) (max (C*ah) (C*O)):=by
 have q:∀x:Int,(min (X*x) (C*x)<=av*x/\av*x<=max (X*x) (C*x)):=by
  intro x;rcases Int.le_total 0 x with h|h
  .have:=Int.mul_le_mul_of_nonneg_right a h;have:=Int.mul_le_mul_of_nonneg_right b h;omega
  .have:=Int.mul_le_mul_of_nonpos_right a h;have:=Int.mul_le_mul_of_nonpos_right b h;omega
 have z:=q ah;have E:=q O;rcases Int.le_total 0 av with h|h
 .have:=Int.mul_le_mul_of_nonneg_left c h;have:=Int.mul_le_mul_of_nonneg_left d h;omega
 .have:=Int.mul_le_mul_of_nonpos_left h c;have:=Int.mul_le_mul_of_nonpos_left h d;omega
theorem YX {b:Int}(h:a<=b)(hd:0 < d):a.tdiv d<=b.tdiv d:=by
 rw[tdiv_eq_if a d,tdiv_eq_if b d];split<;>split
 .exact Int.ediv_le_ediv hd h
 .omega
 .have C:0<= -a / d:=Int.ediv_nonneg (by omega) (by omega);have O:0<=b / d:=Int.ediv_nonneg (by omega) (by omega);omega
 .have: -b / d<= -a / d:=Int.ediv_le_ediv hd (by omega);omega
theorem nB (hd:0 < d):min a 0<=a.tdiv d/\a.tdiv d<=max a 0:=by
 rw[tdiv_eq_if a d];split
 .have C:0<=a / d:=Int.ediv_nonneg (by omega) (by omega);have O:a / d<=a:=Int.ediv_le_self d (by omega);omega
 .have C:0<= -a / d:=Int.ediv_nonneg (by omega) (by omega);have O: -a / d<= -a:=Int.ediv_le_self d (by omega);omega
theorem Xe (h:0<=a)(hd:0 < d):a % d<=a:=by
 have C:0<=a / d:=Int.ediv_nonneg h (by omega);have O:=Int.mul_nonneg (show 0<=d by omega) C;rw[Int.emod_def];omega
theorem gw (hd:0 < d):max (1 - d) (min a 0)<=a.tmod d/\a.tmod d<=min (d - 1) (max a 0):=by
 rw[tmod_eq_if a d];split
 .have C:=Int.emod_nonneg a (show d≠0 by omega);have O:=Int.emod_lt_of_pos a hd;have h:a % d<=a:=Xe (by omega) hd;omega
 .have C:=Int.emod_nonneg (-a) (show d≠0 by omega);have O:=Int.emod_lt_of_pos (-a) hd;have h: -a % d<= -a:=Xe (by omega) hd;omega
theorem vh (_hd:d≠0):min a 0<=a.tmod d/\a.tmod d<=max a 0:=by
 have C:(a.tmod d).natAbs<=a.natAbs:=by
  rw[Int.natAbs_tmod];exact Nat.mod_le _ _
 rcases Int.le_total 0 a with h|h
 .have:=Int.tmod_nonneg d h;omega
 .rw[tmod_eq_if a d] at*;split at C
  .grind
  .rename_i O;simp only[O,if_false] at C⊢;have:=Int.emod_nonneg (-a) _hd;omega
theorem kN {n:Int}{j:Nat}(h:Xu n=some j):n=((2 ^ j:Nat):Int) - 1:=by
 unfold Xu at h;grind
theorem yu {w a b:Nat}(h:a < 2 ^ w):(BitVec.ofInt w (a:Int) &&& BitVec.ofInt w (b:Int)).toNat=a &&& (b % 2 ^ w):=by
 grind
theorem tD (k:IntKind){a:Nat}(h:(a:Int)<=k.max):a < 2 ^ k.bits:=by
 cases k<;>simp[IntKind.max,IntKind.signed,IntKind.bits] at* <;>omega
theorem Zq (k:IntKind)(a b:Nat)(h:(a:Int)<=k.max)(q:(b:Int)<=k.max):DT .and k (a:Int) (b:Int)=((a &&& b:Nat):Int):=by
 have C:=tD k h;have O:=tD k q;show k.wrap _=_;have e:((BitVec.ofInt k.bits (a:Int) &&& BitVec.ofInt k.bits (b:Int)).toNat:Int)=((a &&& b:Nat):Int):=by rw[yu C,Nat.mod_eq_of_lt O]
 refine (ACF k.wrap e).trans (E6 k _ ?_ ?_)
 .have:k.min<=0:=by cases k<;>simp[IntKind.min,IntKind.signed,IntKind.bits]
  omega
 .have:=Nat.and_le_left (n:=a) (m:=b);omega
theorem qQ {op:BinOp}{E:IntKind}(h:SV op k X C ax ah O=some t)(e1:ax.eval T= .int av)
  (z:X<=av) (D:av<=C) (a2:ah<=aB) (b2:aB<=O) (P:Program) (az:TypeId) (w:World):
  ∃n,(binOp op az (.int k av) (.int E aB)).run P w= .ok (.int k n) w/\kL T t n:=by
 unfold SV at h;split at h
 case isFalse=>cases h
 rename_i hc;obtain rfl:aB=ah:=by omega
 have J:¬aB < 0:=by omega
 have H:min aB.toNat k.bits=aB.toNat:=by omega
 have aI:∀K f,(ex2 K f ax (.c (.int ((2 ^ aB.toNat:Nat):Int)))).eval T= .int (f av ((2 ^ aB.toNat:Nat):Int)):=fun K f=>by show U.int (f (Rf.eval T ax).toI _)=_;rw[e1];rfl
 have q:0 < ((2 ^ aB.toNat:Nat):Int):=by have:=Nat.two_pow_pos aB.toNat;omega
 have al:(2 ^ aB.toNat:Int)=((2 ^ aB.toNat:Nat):Int):=by simp
 split at h
 .cases h;refine⟨k.wrap (av*((2 ^ aB.toNat:Nat):Int)),?_,LQ k (aI _ _) (Int.mul_le_mul_of_nonneg_right z (by omega)) (Int.mul_le_mul_of_nonneg_right D (by omega))⟩;simp[binOp,Op.shift,J,H]
 .cases h;refine⟨av / ((2 ^ aB.toNat:Nat):Int),?_,aI _ _,Int.ediv_le_ediv q z,Int.ediv_le_ediv q D⟩;simp only[binOp,Op.shift,J,H,if_false,al,Int.fdiv_eq_ediv_of_nonneg _ (Int.le_of_lt q)];rfl
 .cases h
theorem tZ {op:BinOp}{ps:List Pr}(h:VN op k X C ax ah O aK=some (t,ps))(J:ax.eval T= .int av)(K:aK.eval T= .int aB)
  (E:X<=av) (H:av<=C) (a2:ah<=aB) (b2:aB<=O) (hp:∀p∈ps,p.holds T) (P:Program) (az:TypeId) (w:World):
  ∃n,(binOp op az (.int k av) (.int k aB)).run P w= .ok (.int k n) w/\kL T t n:=by
 have aI:∀a5 f,(ex2 a5 f ax aK).eval T= .int (f av aB):=fun a5 f=>by simp[ex2,Ex.eval,o2,u0,u1,J,K,U.toI]
 cases op<;>simp only[VN] at h
 case add=>
  cases h;refine⟨k.wrap (av+aB),by simp[binOp,Op.intArith],?_⟩;split
  .rename_i hc;obtain rfl:aB=0:=by omega
   rw[Int.add_zero,E6 k av (by omega) (by omega)];exact⟨J,E,H⟩
  .split
   .rename_i hc;obtain rfl:av=0:=by omega
    rw[Int.zero_add,E6 k aB (by omega) (by omega)];exact⟨K,a2,b2⟩
   .exact LQ k (aI _ _) (by omega) (by omega)
 case sub=>
  cases h;refine⟨k.wrap (av - aB),by simp[binOp,Op.intArith],?_⟩;split
  .rename_i hc;obtain rfl:aB=0:=by omega
   rw[Int.sub_zero,E6 k av (by omega) (by omega)];exact⟨J,E,H⟩
  .exact LQ k (aI _ _) (by omega) (by omega)
 case mul=>
  cases h;have D:=lL E H a2 b2;exact⟨k.wrap (av*aB),by simp[binOp,Op.intArith],LQ k (aI _ _) D.1 D.2⟩
 case quo=>
  split at h
  .rename_i hl;have z:aB≠0:=by omega
   split at h
   .rename_i bc;cases h;have e:av.tdiv aB=av / aB:=Int.tdiv_eq_ediv_of_nonneg (by omega);have bi:X / O<=av / aB:=by
     have h3:X / O<=X / aB:=by
      refine Int.le_ediv_of_mul_le (by omega) ?_;have q0:0<=X / O:=Int.ediv_nonneg (by omega) (by omega);have:=Int.mul_le_mul_of_nonneg_left b2 q0;have:=Int.ediv_mul_le X (show O≠0 by omega);omega
     have h4:X / aB<=av / aB:=Int.ediv_le_ediv (by omega) E;omega
    have ba:av / aB<=C / ah:=by
     have h3:av / aB<=av / ah:=by
      refine Int.le_ediv_of_mul_le (by omega) ?_;have q0:0<=av / aB:=Int.ediv_nonneg (by omega) (by omega);have:=Int.mul_le_mul_of_nonneg_left a2 q0;have:=Int.ediv_mul_le av z;omega
     have h4:av / ah<=C / ah:=Int.ediv_le_ediv (by omega) H;omega
    refine⟨k.wrap (av / aB),?_,LQ k (aI _ _) bi ba⟩;rw[<-e];simp[binOp,Op.intDiv,z]
   .split at h
    .rename_i he;subst he;obtain rfl:aB=ah:=by omega
     cases h;exact⟨k.wrap (av.tdiv aB),by simp[binOp,Op.intDiv,z],LQ k (aI _ _) (YX E hl) (YX H hl)⟩
    .cases h;have D:=nB (a:=av) (d:=aB) (by omega);exact⟨k.wrap (av.tdiv aB),by simp[binOp,Op.intDiv,z],LQ k (aI _ _) (by omega) (by omega)⟩
  .cases h;have z:aB≠0:=by
    have:=hp ⟨ "nez",Ud,[aK]⟩ (by simp);simpa [Pr.holds,Ud,u0,K,U.toI] using this
   have q:=EM k (av.tdiv aB);refine⟨k.wrap (av.tdiv aB),by simp[binOp,Op.intDiv,z],?_,q.1,q.2⟩;simp[Vx.eval,fU,Ex.eval,Km,ex2,o2,u0,u1,J,K,U.toI,WQ]
 case rem=>
  split at h
  .rename_i hl;have z:aB≠0:=by omega
   split at h
   .rename_i bc;cases h;have e:av.tmod aB=av % aB:=Int.tmod_eq_emod_of_nonneg (by omega);have q1:=Int.emod_nonneg av z;have q2:=Int.emod_lt_of_pos av (show 0 < aB by omega);have q3:av % aB<=av:=Xe (by omega) (by omega);refine⟨av % aB,by simp[binOp,Op.intDiv,z,e],aI _ _,?_,?_⟩<;>simp only
    iterate 2
     .split
      .rename_i hc;obtain rfl:av=X:=by omega
       obtain rfl:aB=ah:=by omega
       exact ABt _
      .omega
   .cases h;have D:=gw (a:=av) (d:=aB) (by omega);refine⟨av.tmod aB,by simp[binOp,Op.intDiv,z],aI _ _,?_,?_⟩<;>simp only<;>omega
  .cases h;have z:aB≠0:=by
    have:=hp ⟨ "nez",Ud,[aK]⟩ (by simp);simpa [Pr.holds,Ud,u0,K,U.toI] using this
   have D:=vh (a:=av) z;refine⟨av.tmod aB,by simp[binOp,Op.intDiv,z],aI _ _,?_,?_⟩<;>simp only<;>omega
 case and=>
  split at h
  .rename_i j hj;split at h
   .rename_i hc;cases h;obtain rfl:aB=ah:=by omega
    have hl:=kN hj;obtain⟨a,rfl⟩:∃a:Nat,av=a:=⟨av.toNat,by omega⟩;have bl:0 < 2 ^ j:=Nat.two_pow_pos j;have D:DT .and k (a:Int) aB=(a:Int) % ((2 ^ j:Nat):Int):=by
     have h3:aB=((2 ^ j - 1:Nat):Int):=by omega
     rw[h3,Zq k a (2 ^ j - 1) (by omega) (by omega),Nat.and_two_pow_sub_one_eq_mod];exact Int.natCast_emod a (2 ^ j)
    refine⟨(a:Int) % ((2 ^ j:Nat):Int),?_,?_⟩
    .rw[<-D];simp[binOp,Op.intBits,DT]
    .have e3:(ex2 "mod" eZ ax (.c (.int ((2 ^ j:Nat):Int)))).eval T= .int ((a:Int) % ((2 ^ j:Nat):Int)):=by show U.int (eZ (Rf.eval T ax).toI _)=_;rw[J];rfl
     have q1:=Int.emod_nonneg (a:Int) (show ((2 ^ j:Nat):Int)≠0 by omega);have q2:=Int.emod_lt_of_pos (a:Int) (show 0 < ((2 ^ j:Nat):Int) by omega);refine⟨e3,q1,?_⟩;show _<=O;omega
   .cases h;have q:=EM k;exact⟨DT .and k av aB,by simp[binOp,Op.intBits,DT],aI _ _,(q _).1,(q _).2⟩
  .cases h;have q:=EM k;exact⟨DT .and k av aB,by simp[binOp,Op.intBits,DT],aI _ _,(q _).1,(q _).2⟩
 case or=>cases h;have q:=EM k;exact⟨DT .or k av aB,by simp[binOp,Op.intBits,DT],aI _ _,(q _).1,(q _).2⟩
 case xor=>cases h;have q:=EM k;exact⟨DT .xor k av aB,by simp[binOp,Op.intBits,DT],aI _ _,(q _).1,(q _).2⟩
 case andNot=>cases h;have q:=EM k;exact⟨DT .andNot k av aB,by simp[binOp,Op.intBits,DT],aI _ _,(q _).1,(q _).2⟩
 all_goals cases h
theorem fD {p:Bool->Prop}{q:Bool->Prop}{r:Bool->Prop}(b:Bool)(C:p b)(O:q b)(h:r b):∃b,p b/\q b/\r b:=⟨b,C,O,h⟩
theorem yD {op:BinOp}{E:Option Bool}(h:ua op X C ax ah O aK=some (E,e))(z:ax.eval T= .int av)(D:aK.eval T= .int aB)
  (H:X<=av) (K:av<=C) (J:ah<=aB) (b2:aB<=O) (P:Program) (az:TypeId) (w:World):
  ∃b,(binOp op az (.int k av) (.int k aB)).run P w= .ok (.bool b) w/\e.eval T= .bool b/\∀c,E=some c->b=c:=by
 cases op<;>simp only[ua] at h<;>cases h
 case eql=>exact fD (decide (av=aB)) (by simp[binOp,Op.intCmp]<;>rfl) (by simp[Ex.eval,oEq,u0,u1,z,D,U.toI]) (fun c q=>by
  revert q
  split
  .intro q;cases q;simp;omega
  .split
   .intro q;cases q;simp;omega
   .intro q;cases q)
 case neq=>exact fD (!decide (av=aB)) (by simp[binOp,Op.intCmp]<;>rfl) (by simp[Ex.eval,oNe,u0,u1,z,D,U.toI]) (fun c q=>by
  revert q
  split
  .intro q;cases q;simp;omega
  .split
   .intro q;cases q;simp;omega
   .intro q;cases q)
 all_goals refine⟨_,by simp[binOp,Op.intCmp]<;>rfl,by simp[Ex.eval,oLt,oLe,u0,u1,z,D,U.toI],fun c q=>?_⟩
 all_goals
  revert q
  split
  .intro q;cases q;simp;omega
  .split
   .intro q;cases q;simp;omega
   .intro q;cases q
mutual
def AC.beq:AC->AC->Bool
 | .any,.any=>true
 | .anyc,.anyc=>true
 | .on c a,.on d p=>Nat.beq c d&&AC.beq a p
 | .gd c a,.gd d p=>Nat.beq c d&&AC.beq a p
 | .cb a,.cb p=>a==p
 | .b x,.b y=>Nat.beq x y
 | .nb x,.nb y=>Nat.beq x y
 | .ci k n,.ci j m=>decide (k=j)&&decide (n=m)
 | .i k am Y x,.i k' lo' hi' L=>Nat.beq x L&&decide (k=k')&&decide (am=lo')&&decide (Y=hi')
 | .cv a,.cv p=>decide (a=p)
 | .v x,.v y=>Nat.beq x y
 | .ptr a1 a2,.ptr aS c2=>Nat.beq a1 aS&&Nat.beq a2 c2
 | .pix a1 a2 a3 a4 a5 a6,.pix aS c2 c3 c4 c5 c6=>Nat.beq a1 aS&&Nat.beq a2 c2&&Nat.beq a3 c3&&Nat.beq a4 c4&&Nat.beq a5 c5&&Nat.beq a6 c6
 | .s x,.s y=>Nat.beq x y
 | .ro x ks,.ro y af=>Nat.beq x y&&Kd.beqs ks af
 | .rp a1 a2 a3 ks,.rp aS c2 c3 af=>Nat.beq a1 aS&&Nat.beq a2 c2&&Nat.beq a3 c3&&Kd.beqs ks af
 | .vec a1 a2 ks,.vec aS c2 af=>Nat.beq a1 aS&&Nat.beq a2 c2&&Kd.beqs ks af
 | .sel x l,.sel y ae=>Nat.beq x y&&AC.beqL l ae
 | .yl x,.yl y=>Nat.beq x y
 | .asl a1 a2 a3,.asl aS c2 c3=>Nat.beq a1 aS&&Nat.beq a2 c2&&Nat.beq a3 c3
 | .rsv a1 a2 ks,.rsv aS c2 af=>Nat.beq a1 aS&&Nat.beq a2 c2&&Kd.beqs ks af
 | .mr a1 a2,.mr aS c2=>Nat.beq a1 aS&&Nat.beq a2 c2
 | .mp a1 a2 a3 a4 a5,.mp aS c2 c3 c4 c5=>Nat.beq a1 aS&&Nat.beq a2 c2&&Nat.beq a3 c3&&Nat.beq a4 c4&&Nat.beq a5 c5
 | .mv a,.mv c=>Nat.beq a c
 | .fn f a1 a2,.fn f' aS c2=>decide (f=f')&&AC.beqL a1 aS&&AC.beqL a2 c2
 | .agg l,.agg ae=>AC.beqL l ae
 | .tup l,.tup ae=>AC.beqL l ae
 |_,_=>false
def AC.beqL:List AC->List AC->Bool
 |[],[]=>true
 |a::l,p::ae=>AC.beq a p&&AC.beqL l ae
 |_,_=>false
end
def AC.atom:AC->Bool
 | .any| .on _ _| .gd _ _| .agg _| .tup _| .sel _ _=>false
 |_=>true
def AC.cellsOf:AC->Option (List AC)
 | .agg l=>if l.all AC.atom then some l else none
 |c=>if c.atom then some [c] else none
def oc:Value->AC
 | .bool b=> .cb b
 | .int k n=> .ci k n
 | .string s=> .cv (.str s)
 | .pointer none=> .cv .nilPtr
 | .slice none 0 0=> .cv .nilSlice
 | .nilFunc=> .cv .nilFunc
 | .nilIface=> .cv .nilIface
 | .map none=> .cv .nilMap
 | .agg _| .tuple _=> .any
 |_=> .anyc
def Jq:Value->AC
 | .agg aD=> .agg (aD.toList.map oc)
 |v=>oc v
def D8 (x t:Nat):Nat->Nat->List Kd->List AC × List Ex
 |_,_,[]=>([],[])
 |n,c,k::ks=>
  let (l,us):=D8 x t (n+1) (c+1) ks
  (Lg k n::l,⟨XV (kdC k)++toString c,TG (kdC k) c,[.e x,.e t]⟩::us)
def BX (c:AC):Kd × Rf:=(FY c).getD (.any,.c default)
def AC.isPtr:AC->Bool
 | .ptr .. | .pix .. | .rp .. | .mp .. | .fn .. =>true
 |_=>false
def mix (n:Nat)(b:Rf)(c d:AC):AC × List Ex:=
 if AC.beq c d then (c,[]) else
 match FY c,FY d with
 |some (k,r),some (k',r')=>
  if (Kd.join k k').isAny then (.anyc,[]) else (Lg (Kd.join k k') n,[⟨ "if",oIf,[b,r,r']⟩])
 |_,_=>if c.atom&&d.atom then (.anyc,[]) else (.any,[])
def XI (n:Nat)(b:Rf)(c d:AC):AC × List Ex:=
 if AC.beq c d then (c,[]) else
 if c.isPtr&& !d.isPtr then (.on n c,[⟨ "id",oId,[b]⟩]) else
 if d.isPtr&& !c.isPtr then (.on n d,[⟨ "not",XE,[b]⟩]) else
 mix n b c d
def QW (f:Nat->AC->AC->AC × List Ex)(n:Nat):List AC->List AC->List AC × List Ex
 |c::l,d::ae=>
  let (a,us):=f n c d;let (r,h):=QW f (n+us.length) l ae
  (a::r,us++h)
 |_,_=>([],[])
def OS (n:Nat)(b:Rf)(c d:AC):AC × List Ex:=
 match c,d with
 | .agg l,.agg ae=>if l.length=ae.length then let (r,us):=QW (fun n=>mix n b) n l ae;(.agg r,us) else (.any,[])
 |c,d=>XI n b c d
def Gk (n:Nat)(b:Rf)(c d:AC):AC × List Ex:=
 match c,d with
 | .tup l,.tup ae=>if l.length=ae.length then let (r,us):=QW (fun n=>OS n b) n l ae;(.tup r,us) else (.any,[])
 |c,d=>OS n b c d
def S6:List AC->Option (Kd × List Rf)
 |[]=>none
 |[c]=>(FY c).map fun (k,r)=>(k,[r])
 |c::aD=>match FY c,S6 aD with
  |some (k,r),some (k',l)=>some (Kd.join k k',r::l)
  |_,_=>none
def AC.isFn:AC->Bool
 | .fn .. | .cv .nilFunc=>true
 |_=>false
def Wt (l:List AC)(base B aE an:Nat):Option (List AC):=
 (List.range aE).mapM fun j=>l[base+j*B+an]?
def La (g:G)(m:Mem)(x:Nat)(aD:List AC)(ps:List Pr):Option R:=
 match S6 aD with
 |some (k,ai)=>if k.isAny then none else some { c:=Lg k g.n,m,us:=[⟨ "pick",WO,.e x::ai⟩],ps }
 |none=>if aD.all AC.isFn then some { c:= .sel x aD,m,ps } else none
def IE (x:Nat):Nat->List (List AC)->Option (List AC × List Ex)
 |_,[]=>some ([],[])
 |n,aD::r=>match S6 aD with
  |some (k,ai)=>if k.isAny then none else (IE x (n+1) r).map fun (l,us)=>(Lg k n::l,⟨ "pick",WO,.e x::ai⟩::us)
  |none=>none
def Rd (l:List AC)(base B aE an size:Nat):Option (List (List AC)):=(List.range size).mapM fun c=>Wt l base B aE (an+c)
def E3 (P:Program)(t:TypeId):Option (Nat × Bool):=
 match P.info? t,P.underlying t with
 |some i,some (.struct _)=>some (i.size,true)
 |some i,some (.array _ _)=>some (i.size,true)
 |some _,some _=>some (1,false)
 |_,_=>none
def GK (P:Program)(t:TypeId)(p:AC)(m:Mem)(g:G):Option R:=do
 let (size,agg) <-E3 P t
 match p with
 | .ptr id off=>
  match m.at id with
  | .cells l _=>
   let aD:=(l.drop off).take size
   if aD.length=size then
    if agg then some { c:= .agg aD,m } else aD[0]?.map fun c=>{ c,m }
   else none
  |_=>none
 | .pix id base B aE x an=>
  match m.at id with
  | .cells l _=>do
   if agg then
    let M<-Rd l base B aE an size;let (ls,us) <-IE x g.n M
    some { c:= .agg ls,m,us }
   else
   let aD<-Wt l base B aE an
   La g m x aD []
  |_=>none
 | .rp x t off ks=>
  let aD:=(ks.drop off).take size
  if aD.length=size then
   let (l,us):=D8 x t g.n off aD
   if agg then some { c:= .agg l,m,us } else l[0]?.map fun c=>{ c,m,us }
  else none
 | .mp id y t sz off=>
  match m.at id with
  | .mrow x aF ks _=>
   let aD:=(ks.drop off).take size
   if (aF=y/\ks.length=sz)/\aD.length=size then
    let (l,us):=D8 x t g.n off aD
    if agg then some { c:= .agg l,m,us } else l[0]?.map fun c=>{ c,m,us }
   else none
  |_=>none
 |_=>none
def IR (x:Nat)(c:AC)(base B an:Nat)(h:List AC):Nat->Nat->Option (List AC × List Ex)
 |0,_=>some (h,[])
 |j+1,n=>do
  let (l,us) <-IR x c base B an h j n;let q<-h[base+j*B+an]?;let e:Ex:=⟨ "eq",oEq,[.e x,.c (.int j)]⟩;let (d,z):=mix (n+us.length+1) (.e (n+us.length)) c q
  if d.atom then some (l.set (base+j*B+an) d,us++(e::z)) else none
def PE (ks:List Kd)(off:Nat)(l:List Kd):List Kd:=ks.take off++Kd.joins ((ks.drop off).take l.length) l++ks.drop (off+l.length)
def fp (P:Program)(t:TypeId)(p v:AC)(m:Mem)(g:G):Option R:=do
 let i<-P.info? t;let aD<-v.cellsOf
 if aD.length=i.size then
  match p with
  | .ptr id off=>
   match m.at id with
   | .cells l e=>if off+i.size<=l.length then some { c:= .any,m:=m.set id (.cells (l.take off++aD++l.drop (off+i.size)) e) } else none
   |_=>none
  | .pix id base B aE x an=>
   match m.at id,aD with
   | .cells l e,[c]=>
    if B=0 then none else do
    let (l,us) <-IR x c base B an l aE g.n
    some { c:= .any,m:=m.set id (.cells l e),us }
   |_,_=>none
  | .mp id y t sz off=>
   match m.at id with
   | .mrow x aF ks e=>
    if (aF=y/\ks.length=sz)/\off+aD.length<=sz then
     some { c:= .any,m:=m.set id (.mrow g.n y (PE ks off (aD.map fun c=>(BX c).1)) e),us:=[⟨ "rset " ++toString off,nc off,.e x:: .e t::aD.map fun c=>(BX c).2⟩] }
    else none
   |_=>none
  |_=>none
 else none
def Sa (l:List AC)(e:TypeId)(m:Mem):R:={ c:= .ptr m.length 0,m:=m++[.cells l e] }
def I8 (P:Program)(t:TypeId)(m:Mem):Option R:=do
 let i<-P.info? t;let z<-i.zero;let l<-(Jq z).cellsOf
 some (Sa l t m)
def uX (t:TypeId)(v:AC)(m:Mem):Option R:=do
 let l<-v.cellsOf
 some (Sa l t m)
def Py (h:Nat->Option (Nat × Nat))(cells:List AC):List (Nat × AC)->Option (List AC)
 |[]=>some cells
 |(i,v)::rest=>do
  let (off,size) <-h i;let aD<-v.cellsOf
  if aD.length=size/\off+size<=cells.length then Py h (cells.take off++aD++cells.drop (off+size)) rest else none
def VV (P:Program)(t:TypeId)(H:List (Nat × AC))(m:Mem):Option R:=do
 let i<-P.info? t;let z<-i.zero;let l<-(Jq z).cellsOf
 match P.underlying t with
 |some (.array _ e)=>do
  let h<-P.info? e;let l<-Py (fun i=>some (i*h.size,h.size)) l H
  some { c:= .agg l,m }
 |some (.struct fields)=>do
  let q<-fields.toList.mapM (fun f=>(P.info? f.type).map fun i=>(f.offset,i.size));let l<-Py (q.toArray[·]?) l H
  some { c:= .agg l,m }
 |_=>none
def HA (P:Program)(s:TypeId)(p:AC)(f:Nat)(m:Mem):Option R:=do
 match P.underlying s with
 |some (.struct fields)=>do
  let h<-fields[f]?;let i<-P.info? h.type
  if i.size=0 then none else
  match p with
  | .ptr id off=>some { c:= .ptr id (off+h.offset),m }
  | .pix id base B aE x an=>some { c:= .pix id base B aE x (an+h.offset),m }
  | .rp x t off ks=>some { c:= .rp x t (off+h.offset) ks,m }
  | .mp id y t sz off=>some { c:= .mp id y t sz (off+h.offset),m }
  |_=>none
 |_=>none
def TE (g:G)(aY:AC):Option (Nat × List Ex):=
 match aY with
 | .i _ _ _ x=>some (x,[])
 | .ci _ n=>some (g.n,[⟨ "id",oId,[.c (.int n)]⟩])
 |_=>none
def Co (P:Program)(t:TypeId)(p aY:AC)(m:Mem)(g:G):Option R:=do
 let (_,am,Y,n) <-CO aY
 match P.underlying t with
 |some (.array len e)=>do
  let i<-P.info? e
  if i.size=0 then none else
  if am=Y then
   if 0<=am/\am < len then
    match p with
    | .ptr id off=>some { c:= .ptr id (off+am.toNat*i.size),m }
    | .pix id base B aE x an=>some { c:= .pix id base B aE x (an+am.toNat*i.size),m }
    | .rp x t off ks=>some { c:= .rp x t (off+am.toNat*i.size) ks,m }
    | .mp id y t sz off=>some { c:= .mp id y t sz (off+am.toNat*i.size),m }
    |_=>none
   else none
  else
   match p with
   | .ptr id off=>do
    let (x,us) <-TE g aY
    some { c:= .pix id off i.size len x 0,m,us,ps:=if 0<=am/\Y < len then [] else [⟨ "in",pIn,[n,.c (.int len)]⟩] }
   |_=>none
 |some (.slice e)=>do
  let i<-P.info? e
  if am=Y/\0 < i.size then
   match p with
   | .asl id off len=>if 0<=am/\am < len then some { c:= .ptr id (off+am.toNat*i.size),m } else none
   |_=>aIndexSl i.size p aY n m g
  else aIndexSl i.size p aY n m g
 |_=>none
where aIndexSl (size:Nat) (p aY:AC) (n:Rf) (m:Mem) (g:G):Option R:=do
  let (x,us) <-TE g aY
  match p with
  | .mr id y=>some { c:= .mp id y x size 0,m,us,ps:=[⟨ "in",pIn,[n,.e y]⟩] }
  | .ro y ks=>if size=ks.length then some { c:= .rp y x 0 ks,m,us,ps:=[⟨ "inl",Xl,[n,.e y]⟩] } else none
  | .vec _ y ks=>if size=ks.length then some { c:= .rp y x 0 ks,m,us,ps:=[⟨ "inl",Xl,[n,.e y]⟩] } else none
  |_=>none
def apart (P:Program)(t:TypeId)(l:List AC)(off:Nat):Option AC:=do
 let (size,agg) <-E3 P t
 if agg then
  let aD:=(l.drop off).take size
  if aD.length=size then some (.agg aD) else none
 else l[off]?
def eS (P:Program)(s:TypeId)(x:AC)(f:Nat)(m:Mem):Option R:=
 match P.underlying s,x with
 |some (.struct fields),.agg l=>do
  let h<-fields[f]?;let c<-apart P h.type l h.offset
  some { c,m }
 |_,_=>none
def dJ (P:Program)(t:TypeId)(x aY:AC)(m:Mem)(g:G):Option R:=do
 let (_,am,Y,n) <-CO aY
 match P.underlying t,x with
 |some (.array len e),.agg l=>do
  let i<-P.info? e
  if am=Y then
   if 0<=am/\am < len then do
    let c<-apart P e l (am.toNat*i.size)
    some { c,m }
   else none
  else
   let (size,agg) <-E3 P e
   if i.size=size then
    match aY with
    | .i _ _ _ x=>do
     if agg then
      let M<-Rd l 0 size len 0 size;let (ls,us) <-IE x g.n M
      some { c:= .agg ls,m,us,ps:=if 0<=am/\Y < len then [] else [⟨ "in",pIn,[n,.c (.int len)]⟩] }
     else
     let aD<-Wt l 0 1 len 0
     La g m x aD (if 0<=am/\Y < len then [] else [⟨ "in",pIn,[n,.c (.int len)]⟩])
    |_=>none
   else none
 |some .string,.s y=>some { c:= .i .u8 0 255 g.n,m,us:=[⟨ "sat",wW,[.e y,n]⟩],ps:=[⟨ "ins",m6,[.e y,n]⟩] }
 |_,_=>none
def QA (x:AC)(i:Nat)(m:Mem):Option R:=
 match x with
 | .tup l=>l[i]?.map fun c=>{ c,m }
 |_=>none
def GY (x:AC)(m:Mem):Option R:=
 match x with
 | .on c (.ptr id off)=>some { c:= .ptr id off,m,ps:=[⟨ "t",pT,[.e c]⟩] }
 | .on c (.rp x t off ks)=>some { c:= .rp x t off ks,m,ps:=[⟨ "t",pT,[.e c]⟩] }
 | .on c (.mp id y t sz off)=>some { c:= .mp id y t sz off,m,ps:=[⟨ "t",pT,[.e c]⟩] }
 | .ptr .. | .pix .. | .rp .. | .mp .. =>some { c:=x,m }
 | .fn (.func _) .. =>some { c:=x,m }
 |_=>none
def UX (c:AC):Option (Option ByteArray × Rf):=
 match c with
 | .cv (.str s)=>if s.size<=65536 then some (some s,.c (.str s)) else none
 | .s x=>some (none,.e x)
 |_=>none
def ceq (c d:AC):Option (Option Bool × List Rf):=
 match CO c,CO d with
 |some (k,X,C,av),some (k',ah,O,aB)=>
  if k=k' then
   if AC.beq c d then some (some true,[])
   else if C < ah\/O < X then some (some false,[])
   else some (none,[av,aB])
  else none
 |_,_=>
  match Jk c,Jk d with
  |some (some x,_),some (some y,_)=>some (some (x==y),[])
  |some (_,av),some (_,aB)=>if AC.beq c d then some (some true,[]) else some (none,[av,aB])
  |_,_=>
   match UX c,UX d with
   |some (some x,_),some (some y,_)=>some (some (decide (x=y)),[])
   |some (_,av),some (_,aB)=>if AC.beq c d then some (some true,[]) else some (none,[av,aB])
   |_,_=>none
def aZ:List AC->List AC->Option (Option Bool × List Rf)
 |[],[]=>some (some true,[])
 |c::l,d::ae=>do
  let (k,r) <-ceq c d;let (k',r') <-aZ l ae
  match k,k' with
  |some false,_=>some (some false,[])
  |_,some false=>some (some false,[])
  |some true,k'=>some (k',r')
  |none,some true=>some (none,r)
  |none,none=>some (none,r++r')
 |_,_=>none
inductive Ek where
 |int|bool|str
 deriving DecidableEq
def G9 (P:Program)(h:TypeId->Option (List Ek)):List Field->Nat->Option (List Ek)
 |[],_=>some []
 |f::fs,off=>do
  if f.offset=off/\f.name≠ "_" then
   let ks<-h f.type
   if P.cellsOf f.type=ks.length then
    let r<-G9 P h fs (off+ks.length)
    some (ks++r)
   else none
  else none
def Bs (P:Program):Nat->TypeId->Option (List Ek)
 |0,_=>none
 |d+1,t=>
  match P.underlying t with
  |some .bool=>some [.bool]
  |some (.int _)=>some [.int]
  |some .string=>some [.str]
  |some (.struct fs)=>if P.stoodInHeld t then none else G9 P (Bs P d) fs.toList 0
  |some (.array n e)=>do
   let ks<-Bs P d e
   if P.cellsOf e=ks.length then some (List.replicate n ks).flatten else none
  |_=>none
def ekOk (k:Ek)(c:AC):Bool:=
 match k with
 | .int=>(CO c).isSome
 | .bool=>(Jk c).isSome
 | .str=>(UX c).isSome
def St:List Ek->List AC->Bool
 |[],[]=>true
 |k::ks,c::l=>ekOk k c&&St ks l
 |_,_=>false
def CF (P:Program)(t:TypeId):Bool:=
 match P.underlying t with
 |some (.struct _)|some (.array _ _)=>true
 |_=>false
def aEq (P:Program)(neg:Bool)(t:TypeId)(x y:AC)(m:Mem)(g:G):Option R:=
 let h:Option (Option Bool × List Rf)->Option R:=fun o=>o.map fun (k,ai)=>if neg then mkB g m (k.map not) ⟨ "nes",ot,ai⟩ else mkB g m k ⟨ "eqs",kD,ai⟩
 match x,y with
 | .agg l,.agg ae=>
  match Bs P 12 t with
  |some ks=>if CF P t&&St ks l&& !P.eqGuardType P.depth t then h (aZ l ae) else none
  |none=>none
 | .cv .nilPtr,.cv .nilPtr=>match P.underlying t with
  |some (.pointer _)=>h (some (some true,[]))
  |_=>none
 | .ptr ..,.cv .nilPtr=>match P.underlying t with
  |some (.pointer _)=>h (some (some false,[]))
  |_=>none
 |_,_=>match P.underlying t with
  |some .bool=>if (Jk x).isSome then (ceq x y).map fun (k,ai)=>if neg then mkB g m (k.map not) ⟨ "neb",vC,ai⟩ else mkB g m k ⟨ "eqb",vZ,ai⟩ else none
  |some .string=>if (UX x).isSome then h (ceq x y) else none
  |_=>none
def ae (P:Program)(op:BinOp)(t:TypeId)(x y:AC)(m:Mem)(g:G):Option R:=
 match CO x,CO y with
 |some (k,X,C,av),some (k',ah,O,aB)=>
  match SV op k X C av ah O with
  |some (am,Y,n)=>some (mkI g m k am Y n)
  |none=>
  if k=k' then
   match VN op k X C av ah O aB with
   |some ((am,Y,n),ps)=>some (mkI g m k am Y n ps)
   |none=>match ua op X C av ah O aB with
    |some (kn,b)=>some (mkB g m (if AC.beq x y then (match op with| .eql=>some true| .neq=>some false|_=>kn) else kn) b)
    |none=>none
  else none
 |_,_=>
  match op with
  | .eql=>aEq P false t x y m g
  | .neq=>aEq P true t x y m g
  |_=>none
def aUn (op:UnOp)(x:AC)(m:Mem)(g:G):Option R:=
 match op with
 | .not=>match x with
  | .cb p=>some { c:= .cb !p,m }
  | .b y=>some { c:= .nb y,m }
  | .nb y=>some { c:= .b y,m }
  |_=>none
 | .neg=>do
  let (k,am,Y,n) <-CO x;let (am,Y,n):=rng k (0 - Y) (0 - am) ⟨ "neg",fh,[n]⟩
  some (mkI g m k am Y n)
 |_=>none
def VC (P:Program)(h a3:TypeId)(x:AC)(m:Mem)(g:G):Option R:=
 match P.underlying h,P.underlying a3 with
 |some _,some (.int k)=>do
  let (_,am,Y,n) <-CO x
  if k.min<=am/\Y<=k.max then some (mkI g m k am Y (.rf n))
  else some (mkI g m k k.min k.max (.ex ⟨EG k++ " id",Km k oId,[n]⟩))
 |_,_=>none
def aA (c a b:AC)(m:Mem)(g:G):Option R:=do
 match<-Jk c with
 |(some true,_)=>some { c:=a,m }
 |(some false,_)=>some { c:=b,m }
 |(none,x)=>
  match Jk a,Jk b with
  |some (ka,y),some (kb,z)=>some (mkB g m none (if ka=some true then ⟨ "or",oOr,[x,z]⟩ else if kb=some false then ⟨ "and",SM,[x,y]⟩ else ⟨ "ifb",nr,[x,y,z]⟩))
  |_,_=>none
def wj (P:Program)(t:TypeId)(x:AC)(m:Mem)(g:G):Option R:=
 match P.underlying t with
 |some (.slice _)=>
  match x with
  | .cv .nilSlice=>some { c:= .ci .i64 0,m }
  | .mr _ y=>some { c:= .i .i64 0 AB y,m }
  | .asl _ _ len=>some { c:= .ci .i64 len,m }
  |_=>match Jx x with
   |some (_,r)=>some (mkI g m .i64 0 AB (.ex ⟨ "len",Sp,[r]⟩))
   |_=>none
 |some .string=>
  match x with
  | .cv (.str s)=>some { c:= .ci .i64 s.size,m }
  | .s y=>some (mkI g m .i64 0 AB (.ex ⟨ "slen",ng,[.e y]⟩))
  |_=>none
 |some (.map _ _)=>
  match x with
  | .mv id=>match m.at id with
   | .mapb a2 _ _ _ _=>some (mkI g m .i64 0 AB (.ex ⟨ "len",Sp,[.e a2]⟩))
   |_=>none
  |_=>none
 |_=>none
def cX (h:Bool)(x y:AC)(m:Mem)(g:G):Option R:=do
 let (k,X,C,av) <-CO x;let (k',ah,O,aB) <-CO y
 if k=k' then
  if h then some (mkI g m k (max X ah) (max C O) (.ex (ex2 "max" XT av aB))) else some (mkI g m k (min X ah) (min C O) (.ex (ex2 "min" Xb av aB)))
 else none
def EP:List Nat->List Nat->Bool
 |[],[]=>true
 |a::l,b::ae=>Nat.beq a b&&EP l ae
 |_,_=>false
def C7:List (List AC)->List Kd
 |[]=>[]
 |[l]=>l.map fun c=>(BX c).1
 |l::ls=>Kd.joins (l.map fun c=>(BX c).1) (C7 ls)
def VK (h:List (List AC)):List Rf:=(h.map fun l=>l.map fun c=>(BX c).2).flatten
def DM (P:Program)(t:TypeId)(len:Nat)(H:List (Nat × AC))(m:Mem)(g:G):Option R:=do
 match P.underlying t with
 |some (.slice e)=>do
  let i<-P.info? e;let z<-i.zero
  if EP (H.map (·.1)) (List.range len)=true/\0 < i.size/\0 < len/\len*i.size<=16777216 then
   let h<-H.mapM fun (_,a)=>a.cellsOf
   if h.all (fun l=>decide (l.length=i.size)) then
    some { c:= .vec m.length g.n (C7 h),m:=m++[.tok g.n (C7 h) e],us:=[⟨ "row " ++toString i.size,dX len i.size,VK h⟩] }
   else none
  else if len=0/\H.length=0/\0 < i.size then do
   let l<-(Jq z).cellsOf
   if l.length=i.size then some { c:= .vec m.length g.n (l.map fun c=>(BX c).1),m:=m++[.tok g.n (l.map fun c=>(BX c).1) e],us:=[⟨ "id",oId,[.c (.list [])]⟩] } else none
  else none
 |_=>none
def Oq (P:Program)(t:TypeId)(len:Nat)(H:List (Nat × AC))(m:Mem):Option R:=do
 match P.underlying t with
 |some (.slice e)=>do
  let i<-P.info? e;let _<-i.zero
  if EP (H.map (·.1)) (List.range len)=true/\0 < i.size/\0 < len/\len*i.size<=16777216 then
   let h<-H.mapM fun (_,a)=>a.cellsOf
   if h.all (fun l=>decide (l.length=i.size)) then
    some { c:= .asl m.length 0 len,m:=m++[.cells h.flatten e] }
   else none
  else none
 |_=>none
def Jn (P:Program)(t:TypeId)(len:Nat)(H:List (Nat × AC))(m:Mem)(g:G):Option R:=do
 let r<-DM P t len H m g
 match r.c with
 | .vec _ x ks=>some { r with c:= .ro x ks,m:=m++[.gone] }
 |_=>none
def HW:List Kd->List Kd->List Kd
 |[],ks=>ks
 |ks,[]=>ks
 |ks,af=>Kd.joins ks af
def mj (P:Program)(ay:Array TypeId)(s:AC)(E:List Kd)(aK:Rf)(m:Mem)(g:G):Option R:=do
 let t<-ay[0]?
 match P.underlying t with
 |some (.slice e)=>do
  let i<-P.info? e;let z<-i.zero;let (k1,ax) <-Jx s;let ks:=HW k1 E;let ps:List Pr:=[⟨ "fits " ++toString i.bytes,Hy i.bytes,[ax,aK]⟩]
  if EP ay.toList [t,t]=true/\0 < i.size/\0 < i.bytes/\E.length=i.size/\ks.length=i.size/\z.cells.size=i.size then
   match s with
   | .cv .nilSlice=>some { c:= .vec m.length g.n ks,m:=m++[.tok g.n ks e],us:=[⟨ "app",Uo,[ax,aK]⟩],ps }
   | .vec id y k1=>
    match m.at id with
    | .tok aF k1' e'=>if y=aF/\e=e'/\k1.length=i.size/\Kd.beqs k1 k1'=true then some { c:= .vec id g.n ks,m:=m.set id (.tok g.n ks e),us:=[⟨ "app",Uo,[ax,aK]⟩],ps } else none
    |_=>none
   |_=>none
  else none
 |_=>none
def aH (P:Program)(ay:Array TypeId)(id y:Nat)(E:List Kd)(aK:Rf)(m:Mem)(g:G):Option R:=do
 let t<-ay[0]?
 match P.underlying t with
 |some (.slice e)=>do
  let i<-P.info? e;let z<-i.zero
  match m.at id with
  | .mrow x aF k1 e'=>
   let ks:=HW k1 E
   if (y=aF/\e=e')/\EP ay.toList [t,t]=true/\0 < i.size/\0 < i.bytes/\E.length=i.size/\k1.length=i.size/\z.cells.size=i.size then
    some { c:= .mr id (g.n+1),m:=m.set id (.mrow g.n (g.n+1) ks e),us:=[⟨ "app",Uo,[.e x,aK]⟩,⟨ "len",Sp,[.e g.n]⟩],ps:=[⟨ "fits " ++toString i.bytes,Hy i.bytes,[.e x,aK]⟩] }
   else none
  |_=>none
 |_=>none
def Cb (s:Nat):Nat->List AC->List (List AC)
 |0,_=>[]
 |k+1,l=>l.take s::Cb s k (l.drop s)
def U9 (P:Program)(ay:Array TypeId)(s x:AC)(m:Mem)(g:G):Option R:=
 match x with
 | .asl id off len=>
  match m.at id with
  | .cells l _=>do
   let t<-ay[0]?
   match P.underlying t with
   |some (.slice e)=>do
    let i<-P.info? e;let h:=Cb i.size len (l.drop off)
    if off+len*i.size<=l.length/\0 < i.size/\0 < len/\len<=65536/\(h.all fun l=>l.all AC.atom)=true then do
     let r<-mj P ay s (C7 h) (.e g.n) m { g with n:=g.n+1 }
     some { r with us:=⟨ "row " ++toString i.size,dX len i.size,VK h⟩::r.us }
    else none
   |_=>none
  |_=>none
 | .rsv id y kr=>do
  let t<-ay[0]?
  match P.underlying t,s,m.at id with
  |some (.slice e),.cv .nilSlice,.tok aF ky _=>do
   let i<-P.info? e;let z<-i.zero
   if EP ay.toList [t,t]=true/\0 < i.size/\0 < i.bytes/\i.bytes<=1024/\y=aF/\ky.length=i.size/\kr.length=i.size/\z.cells.size=i.size then
    some { c:= .rsv m.length g.n kr,m:=m++[.tok g.n kr e],us:=[⟨ "id",oId,[.c (.list [])]⟩] }
   else none
  |_,_,_=>none
 |x=>match CO x with
  |some (_,_,_,rn)=>do
   let t<-ay[0]?;let q<-ay[1]?
   match P.underlying t,P.underlying q,s with
   |some (.slice e),some (.int _),.cv .nilSlice=>do
    let i<-P.info? e;let z<-i.zero;let l<-(Jq z).cellsOf;let ks:=l.map fun c=>(BX c).1
    if EP ay.toList [t,q]=true/\0 < i.size/\ks.length=i.size/\z.cells.size=i.size/\i.bytes<=1024 then
     some { c:= .rsv m.length g.n ks,m:=m++[.tok g.n ks e],us:=[⟨ "id",oId,[.c (.list [])]⟩],ps:=[⟨ "between 0 68719476736",Dy 0 68719476736,[rn]⟩] }
    else none
   |_,_,_=>none
  |none=>do
   let (E,aK) <-Jx x
   mj P ay s E aK m g
def XS (P:Program)(ay:Array TypeId)(s x:AC)(m:Mem)(g:G):Option R:=
 match s with
 | .mr id y=>do
  let (E,aK) <-Jx x
  aH P ay id y E aK m g
 |s=>U9 P ay s x m g
def LJ (P:Program)(t:TypeId)(x:AC)(am Y:Option AC)(m:Mem)(g:G):Option R:=
 match P.underlying t with
 |some (.array n e)=>
  match x,am,Y with
  | .ptr id off,none,none=>if (P.info? e).isSome then some { c:= .asl id off n,m } else none
  |_,_,_=>none
 |some (.slice e)=>do
  let i<-P.info? e
  match x,am,Y with
  | .cv .nilSlice,none,some (.ci _ n)=>if n=0 then some { c:= .cv .nilSlice,m } else none
  | .rsv id y ks,none,some (.ci _ n)=>if n=0 then some { c:= .vec id y ks,m } else none
  |x,am,Y=>do
   let (ks,r) <-Jx x
   if i.size=ks.length/\0 < i.size then
    match am,Y with
    |none,some b=>do
     let (_,_,_,rb) <-CO b
     some { c:= .ro g.n ks,m,us:=[⟨ "take",QM,[r,rb]⟩],ps:=[⟨ "take",Lp,[r,rb]⟩] }
    |some a,none=>do
     let (_,_,_,ra) <-CO a
     some { c:= .ro g.n ks,m,us:=[⟨ "drop",nQ,[r,ra]⟩],ps:=[⟨ "take",Lp,[r,ra]⟩] }
    |some a,some b=>do
     let (_,_,_,ra) <-CO a;let (_,_,_,rb) <-CO b
     some { c:= .ro g.n ks,m,us:=[⟨ "cut",vr,[r,ra,rb]⟩],ps:=[⟨ "cut",tv,[r,ra,rb]⟩] }
    |none,none=>none
   else none
 |_=>none
def Xc (P:Program)(t:TypeId)(x:AC)(am:Option AC)(Y a2:AC)(m:Mem)(g:G):Option R:=
 match P.underlying t,am with
 |some (.slice e),none=>do
  let i<-P.info? e;let (_,_,_,rb) <-CO Y
  if AC.beq Y a2 then
   match x,Y with
   | .cv .nilSlice,.ci _ n=>if n=0 then some { c:= .cv .nilSlice,m } else none
   |x,_=>do
    let (ks,r) <-Jx x
    if i.size=ks.length/\0 < i.size then
     match x with
     | .vec id y _=>match m.at id with
      | .tok aF ks2 e'=>if (y=aF/\e=e')/\Kd.beqs ks ks2=true then some { c:= .vec id g.n ks,m:=m.set id (.tok g.n ks e),us:=[⟨ "take",QM,[r,rb]⟩],ps:=[⟨ "take",Lp,[r,rb]⟩] } else none
      |_=>none
     |_=>some { c:= .vec m.length g.n ks,m:=m++[.tok g.n ks e],us:=[⟨ "take",QM,[r,rb]⟩],ps:=[⟨ "take",Lp,[r,rb]⟩] }
    else none
  else none
 |_,_=>none
def Us (P:Program)(t:TypeId)(len I:AC)(m:Mem)(g:G):Option R:=
 match P.underlying t with
 |some (.slice e)=>do
  let i<-P.info? e;let z<-i.zero;let (k,_,_,r) <-CO len;let l<-(Jq z).cellsOf;let ks:=l.map fun c=>(BX c).1
  if AC.beq len I=true/\k= .i64/\0 < i.size/\ks.length=i.size/\z.cells.size=i.size/\i.bytes<=1024 then
   some { c:= .mr m.length (g.n+1),m:=m++[.mrow g.n (g.n+1) ks e],us:=[⟨ "rep",vy,r::l.map fun c=>(BX c).2⟩,⟨ "id",oId,[r]⟩],ps:=[⟨ "between 0 68719476736",Dy 0 68719476736,[r]⟩] }
  else none
 |_=>none
def PG (P:Program)(e:TypeId):Option (List Kd):=do
 let i<-P.info? e;let z<-i.zero;let l<-(Jq z).cellsOf
 if l.length=i.size/\0 < i.size then some (l.map fun c=>(BX c).1) else none
def JU (ks:List Kd)(e:TypeId)(m:Mem)(g:G):R:={ c:= .mr m.length (g.n+1),m:=m++[.mrow g.n (g.n+1) ks e],us:=[⟨ "id",oId,[.c (.list [])]⟩,⟨ "id",oId,[.c (.int 0)]⟩] }
def I3 (P:Program)(t:TypeId)(len h:Nat)(m:Mem)(g:G):Option R:=
 match P.underlying t with
 |some (.slice e)=>if len=0/\h=0 then (PG P e).map fun ks=>JU ks e m g else none
 |_=>none
def P3 (P:Program)(t:TypeId)(x:AC)(am:Option AC)(Y a2:AC)(m:Mem)(g:G):Option R:=
 match P.underlying t,am,Y with
 |some (.slice e),none,.ci _ n=>if AC.beq Y a2=true/\n=0/\(Jx x).isSome=true then (PG P e).map fun ks=>JU ks e m g else none
 |_,_,_=>none
def NJ (P:Program)(ay:Array TypeId)(s x:AC)(m:Mem)(g:G):Option R:=do
 let t<-ay[0]?
 match s,P.underlying t with
 | .cv .nilSlice,some (.slice e)=>do
  let ks<-PG P e;let (E,aK) <-Jx x;let r:=JU ks e m g;let aK<-aH P ay m.length (g.n+1) E aK r.m { g with n:=g.n+2 }
  some { aK with us:=r.us++aK.us }
 |_,_=>none
def Pq (P:Program)(t:TypeId)(len I:AC)(m:Mem)(g:G):Option R:=
 match P.underlying t with
 |some (.slice e)=>do
  let i<-P.info? e;let z<-i.zero;let (k,_,_,r) <-CO len;let l<-(Jq z).cellsOf;let ks:=l.map fun c=>(BX c).1
  if AC.beq len I=true/\k= .i64/\0 < i.size/\ks.length=i.size/\z.cells.size=i.size/\i.bytes<=1024 then
   some { c:= .rsv m.length g.n ks,m:=m++[.tok g.n ks e],us:=[⟨ "id",oId,[.c (.list [])]⟩],ps:=[⟨ "between 0 68719476736",Dy 0 68719476736,[r]⟩] }
  else none
 |_=>none
def TM (h:Bool):AC->List AC->Mem->G->Option R
 |x,[],m,_=>some { c:=x,m }
 |x,y::l,m,g=>do
  let r<-cX h x y m g;let aK<-TM h r.c l m { g with n:=g.n+r.us.length }
  some { c:=aK.c,m,us:=r.us++aK.us }
def J1 (P:Program)(b:Builtin)(ay:Array TypeId)(args:List AC)(m:Mem)(g:G):Option R:=
 match b,args with
 | .len,[x]=>do
  let t<-ay[0]?
  wj P t x m g
 | .min,[x,y]=>cX false x y m g
 | .max,[x,y]=>cX true x y m g
 | .append,[s,x]=>XS P ay s x m g
 | .min,x::y::z::l=>TM false x (y::z::l) m g
 | .max,x::y::z::l=>TM true x (y::z::l) m g
 | .cap,[.cv .nilSlice]=>do
  let t<-ay[0]?
  match P.underlying t with
  |some (.slice _)=>some { c:= .ci .i64 0,m }
  |_=>none
 |_,_=>none
def fit (k:Kd)(c:AC):Option (Rf × List Pr):=
 match k,FY c with
 | .int k am Y,some (.int k' lo' hi',r)=>if k=k' then some (r,if am<=lo'/\hi'<=Y then [] else [⟨ "between " ++toString am++ " " ++toString Y,Dy am Y,[r]⟩]) else none
 |k,some (k',r)=>if Kd.beq (Kd.join k' k) k&& !k.isAny then some (r,[]) else none
 |_,_=>none
def NF:Kd->Option Ek
 | .int _ _ _=>some .int
 | .bool=>some .bool
 | .str=>some .str
 |_=>none
def fM (P:Program):Nat->TypeId->Option (List Kd)
 |0,_=>none
 |d+1,t=>
  match P.underlying t with
  |some .bool=>some [.bool]
  |some (.int k)=>some [.int k k.min k.max]
  |some .string=>some [.str]
  |some (.struct fs)=>(fs.toList.mapM fun f=>fM P d f.type).map List.flatten
  |some (.array n e)=>(fM P d e).map fun ks=>(List.replicate n ks).flatten
  |some (.slice e)=>(fM P d e).map fun ks=>[.list ks]
  |_=>none
def Jl:Bool->AC->Option (List AC)
 |true,.agg l=>some l
 |true,_=>none
 |false,.agg _=>none
 |false,.tup _=>none
 |false,c=>some [c]
def Oj:List Kd->List AC->Option (List Rf × List Pr)
 |[],[]=>some ([],[])
 |k::ks,c::l=>do
  let (r,ps) <-fit k c;let (ai,qs) <-Oj ks l
  some (r::ai,ps++qs)
 |_,_=>none
def Q6 (P:Program)(h:TypeId)(ao:List Kd)(q:Bool):Bool:=
 (CF P h==q)&&(match Bs P 12 h with|some ks=>decide (ao.map NF=ks.map some)|none=>false)
def Um (P:Program)(t:TypeId)(m:Mem)(g:G):Option R:=
 match P.underlying t with
 |some (.map kt et)=>do
  let ao<-fM P 6 kt;let aJ<-fM P 6 et
  some { c:= .mv m.length,m:=m++[.mapb g.n ao (CF P kt) aJ (CF P et)],us:=[⟨ "id",oId,[.c (.list [])]⟩] }
 |_=>none
def Hs (x G:Nat)(ai:List Rf):Nat->Nat->List Kd->List Rf->List AC × List Ex
 |n,c,k::ks,z::D=>
  let (l,us):=Hs x G ai (n+1) (c+1) ks D
  (Lg k n::l,⟨ "m" ++XV (kdC k)++toString G++ " " ++toString c,rP (kdC k) G c,.e x::z::ai⟩::us)
 |_,_,_,_=>([],[])
def Xs (P:Program)(t:TypeId)(x aY:AC)(ok:Bool)(m:Mem)(g:G):Option R:=
 match P.underlying t,x with
 |some (.map kt et),.mv id=>
  match m.at id with
  | .mapb a2 ao ka aJ aT=>
   if Q6 P kt ao ka then do
    let h<-Jl ka aY;let (ai,ps) <-Oj ao h;let i<-P.info? et;let z<-i.zero;let q<-Jl aT (Jq z);let (D,qs) <-Oj aJ q
    if qs.isEmpty then
     let (l,us):=Hs a2 ao.length ai g.n 0 aJ D;let v:=if aT then AC.agg l else l.headD .any
     if ok then some { c:= .tup [v,.b (g.n+us.length)],m,us:=us++[⟨ "mhas " ++toString ao.length,lJ ao.length,.e a2::ai⟩],ps }
     else some { c:=v,m,us,ps }
    else none
   else none
  |_=>none
 |_,_=>none
def QY (P:Program)(t:TypeId)(x aY v:AC)(m:Mem)(g:G):Option R:=
 match P.underlying t,x with
 |some (.map kt _),.mv id=>
  match m.at id with
  | .mapb a2 ao ka aJ aT=>
   if Q6 P kt ao ka then do
    let h<-Jl ka aY;let (ai,ps) <-Oj ao h;let q<-Jl aT v;let (W,qs) <-Oj aJ q
    some { c:= .any,m:=m.set id (.mapb g.n ao ka aJ aT),us:=[⟨ "mset " ++toString ao.length,lD ao.length,.e a2::(ai++W)⟩],ps:=ps++qs++[⟨ "fits 1",Hy 1,[.e a2,.c (.list [[]])]⟩] }
   else none
  |_=>none
 |_,_=>none
def aOp (P:Program)(aI:Operand->AC)(op:Op)(m:Mem)(g:G):Option R:=
 match op with
 | .move x| .assign x=>some { c:=aI x,m }
 | .pick c a b=>aA (aI c) (aI a) (aI b) m g
 | .alloc t=>I8 P t m
 | .box t x=>uX t (aI x) m
 | .build t H=>VV P t (H.toList.map fun (i,x)=>(i,aI x)) m
 | .buildSlice t len H=>DM P t len (H.toList.map fun (i,x)=>(i,aI x)) m g
 | .load t a=>GK P t (aI a) m g
 | .store t a x=>fp P t (aI a) (aI x) m g
 | .nilCheck x=>GY (aI x) m
 | .binOp op t x y _=>ae P op t (aI x) (aI y) m g
 | .unOp op _ x=>aUn op (aI x) m g
 | .convert s d x=>VC P s d (aI x) m g
 | .makeFunc aC first I=>some { c:= .fn aC (first.toList.map aI) (I.toList.map aI),m }
 | .fieldAddr t x f=>HA P t (aI x) f m
 | .field t x f=>eS P t (aI x) f m
 | .indexAddr t x i=>Co P t (aI x) (aI i) m g
 | .index t x i=>dJ P t (aI x) (aI i) m g
 | .extract x i=>QA (aI x) i m
 | .slice t x am Y none=>LJ P t (aI x) (am.map aI) (Y.map aI) m g
 | .slice t x am (some Y) (some a2)=>Xc P t (aI x) (am.map aI) (aI Y) (aI a2) m g
 | .makeSlice t n c=>Pq P t (aI n) (aI c) m g
 | .makeMap t none=>Um P t m g
 | .lookup t x aY ok=>Xs P t (aI x) (aI aY) ok m g
 | .mapUpdate t x aY v=>QY P t (aI x) (aI aY) (aI v) m g
 | .call { callee:= .builtin b,args,argTypes }=>J1 P b argTypes (args.toList.map aI) m g
 |_=>none
def EA (k:Nat)(P:Program)(aI:Operand->AC)(op:Op)(m:Mem)(g:G):Option R:=
 match k with
 |0=>aOp P aI op m g
 |1=>match op with
  | .makeSlice t n c=>Us P t (aI n) (aI c) m g
  | .buildSlice t len H=>I3 P t len H.size m g
  | .slice t x am (some Y) (some a2)=>P3 P t (aI x) (am.map aI) (aI Y) (aI a2) m g
  | .call { callee:= .builtin .append,args,argTypes }=>match args.toList.map aI with
   |[s,x]=>NJ P argTypes s x m g
   |_=>none
  |_=>none
 |_=>match op with
  | .buildSlice t len H=>if k=3 then Jn P t len (H.toList.map fun (i,x)=>(i,aI x)) m g else Oq P t len (H.toList.map fun (i,x)=>(i,aI x)) m
  |op=>aOp P aI op m g
end
section
open Go Go.RowKit
mutual
theorem AC.beq_eq:∀(c d:AC),AC.beq c d=true->c=d
 | .any,d,h=>by cases d<;>simp_all [AC.beq]
 | .anyc,d,h=>by cases d<;>simp_all [AC.beq]
 | .on c a,d,h=>by
  cases d<;>simp[AC.beq] at h;rw[h.1,AC.beq_eq a _ h.2]
 | .gd c a,d,h=>by
  cases d<;>simp[AC.beq] at h;rw[h.1,AC.beq_eq a _ h.2]
 | .cb a,d,h=>by cases d<;>simp_all [AC.beq]
 | .b a,d,h=>by cases d<;>simp_all [AC.beq]
 | .nb a,d,h=>by cases d<;>simp_all [AC.beq]
 | .ci k n,d,h=>by cases d<;>simp_all [AC.beq]
 | .i k am Y x,d,h=>by cases d<;>simp_all [AC.beq]
 | .cv a,d,h=>by cases d<;>simp_all [AC.beq]
 | .v a,d,h=>by cases d<;>simp_all [AC.beq]
 | .s a,d,h=>by cases d<;>simp_all [AC.beq]
 | .ptr _ _,d,h=>by cases d<;>simp_all [AC.beq]
 | .pix _ _ _ _ _ _,d,h=>by cases d<;>simp_all [AC.beq]
 | .ro x ks,d,h=>by
  cases d<;>simp[AC.beq] at h;rw[h.1,Kd.beqs_eq ks _ h.2]
 | .rp _ _ _ ks,d,h=>by
  cases d<;>simp[AC.beq] at h;rw[h.1.1.1,h.1.1.2,h.1.2,Kd.beqs_eq ks _ h.2]
 | .vec _ _ ks,d,h=>by
  cases d<;>simp[AC.beq] at h;rw[h.1.1,h.1.2,Kd.beqs_eq ks _ h.2]
 | .fn f a1 a2,d,h=>by
  cases d<;>simp[AC.beq] at h;rw[h.1.1,AC.beqL_eq a1 _ h.1.2,AC.beqL_eq a2 _ h.2]
 | .sel x l,d,h=>by
  cases d<;>simp[AC.beq] at h;rw[h.1,AC.beqL_eq l _ h.2]
 | .yl x,d,h=>by cases d<;>simp_all [AC.beq]
 | .asl a1 a2 a3,d,h=>by cases d<;>simp_all [AC.beq]
 | .rsv a1 a2 ks,d,h=>by
  cases d<;>simp[AC.beq] at h;rw[h.1.1,h.1.2,Kd.beqs_eq ks _ h.2]
 | .mr a1 a2,d,h=>by cases d<;>simp_all [AC.beq]
 | .mp a1 a2 a3 a4 a5,d,h=>by cases d<;>simp_all [AC.beq]
 | .mv a1,d,h=>by cases d<;>simp_all [AC.beq]
 | .agg l,d,h=>by
  cases d<;>simp[AC.beq] at h;rw[AC.beqL_eq l _ h]
 | .tup l,d,h=>by
  cases d<;>simp[AC.beq] at h;rw[AC.beqL_eq l _ h]
theorem AC.beqL_eq:∀(l ae:List AC),AC.beqL l ae=true->l=ae
 |[],ae,h=>by cases ae<;>simp_all [AC.beqL]
 |a::l,ae,h=>by
  cases ae<;>simp[AC.beqL] at h;rw[AC.beq_eq a _ h.1,AC.beqL_eq l _ h.2]
end
section
variable {T:Tab}{n aj:Nat}{V :Nat->Option Nat}{m:Mem}{w:World}
theorem AH.mono {aj:Nat}(D:AH T n V m w)(z:n<=aj):AH T aj V m w where
 blk:=fun id=>by
  have h:=D.blk id;cases E:m.at id with
  |pad=>trivial
  |gone=>trivial
  |cells l e=>
   rw[E] at h;obtain⟨b,W,C,O,H⟩:=h;exact⟨b,W,C,O,AF.mono (AI.refl T n V m w) D z l W H⟩
  |tok x ks e=>
   rw[E] at h;exact⟨ABE h.1 z,h.2⟩
  |mrow x y ks e=>
   rw[E] at h;exact⟨⟨ABE h.1.1 z,ABE h.1.2 z⟩,h.2⟩
  |mapb x ao ka aJ aT=>
   rw[E] at h;exact⟨ABE h.1 z,h.2⟩
  |lp x st=>
   rw[E] at h;obtain⟨b,q,C,O,H,J,K,h9,h6,j,h7,h8⟩:=h;exact⟨b,q,C,O,H,J,K,h9,fun i c hc=>AA.mono (AI.refl T n V m w) D z _ _ (h6 i c hc),j,AA.mono (AI.refl T n V m w) D z _ _ h7,h8⟩
 inj:=D.inj
 fr:=D.fr
variable{c d:AC}{v:Value}{l:List AC}{k:Kd}{r aL:Rf}{b:Bool}{n0:Nat}
theorem AA.up0 {aj:Nat}(q:n<=aj)(h:AA T n V m w c v):AA T aj V m w c v:=
 AA.mono0 (AI.refl T n V m w) q c v h
theorem AA.up {aj:Nat}(q:AH T n V m w)(z:n<=aj)(h:AA T n V m w c v):AA T aj V m w c v:=
 AA.mono (AI.refl T n V m w) q z c v h
theorem AF.up {aj:Nat}(q:AH T n V m w)(z:n<=aj){c:List AC}{v:List Value}(h:AF T n V m w c v):AF T aj V m w c v:=
 AF.mono (AI.refl T n V m w) q z c v h
theorem CV.one (c:CV):c.value.oneCell'=true:=by cases c<;>rfl
theorem IQ (q:c.atom=true)(h:AA T n V m w c v):v.oneCell'=true:=by
 cases c<;>simp[AC.atom] at q
 case anyc=>exact h
 case cb=>rw[show v=_ from h];rfl
 case b=>obtain⟨_,b,_,h⟩:=h;rw[h];rfl
 case nb=>obtain⟨_,b,_,h⟩:=h;rw[h];rfl
 case ci=>rw[show v=_ from h];rfl
 case i=>obtain⟨_,i,_,h,_⟩:=h;rw[h];rfl
 case cv c=>rw[show v=_ from h];exact c.one
 case v=>exact h.2.2
 case s=>obtain⟨_,i,_,h,_⟩:=h;rw[h];rfl
 case ptr=>obtain⟨b,_,h,_⟩:=h;rw[h];rfl
 case pix=>obtain⟨_,b,j,_,_,_,_,h,_⟩:=h;rw[h];rfl
 case ro=>exact h.2.one
 case rp=>obtain⟨_,j,b,o,us,_,_,_,h,_⟩:=h;rw[h];rfl
 case vec=>exact h.2.2.1.one
 case fn=>obtain⟨_,_,h,_⟩:=h;rw[h];rfl
 case yl=>obtain⟨b,_,h,_⟩:=h;rw[h];rfl
 case asl=>obtain⟨b,_,h,_⟩:=h;rw[h];rfl
 case rsv=>obtain⟨_,_,_,⟨a,len,I,h⟩,_⟩:=h;rw[h];rfl
 case mr=>obtain⟨_,j,a,I,_,_,h,_⟩:=h;rw[h];rfl
 case mp=>obtain⟨_,j,L,b,_,_,_,h,_⟩:=h;rw[h];rfl
 case mv=>obtain⟨b,_,h,_⟩:=h;rw[h];rfl
theorem qh (h:v.oneCell'=true):v.cells= #[v]:=by
 cases v<;>simp[Value.oneCell'] at h<;>rfl
theorem AF.ones {W:List Value}(z:l.all AC.atom=true)(h:AF T n V m w l W):∀v∈W,v.oneCell'=true:=by
 intro v D;obtain⟨i,Y⟩:=List.getElem?_of_mem D;have q:i < l.length:=by rw[<-h.length];exact (ABD.1 Y).1
 obtain⟨u,C,O⟩:=h.get (ABC q);rw[Y] at C;cases C;exact IQ (ABb.1 z _ (AB0 q)) O
theorem DK (z:c.cellsOf=some l)(h:AA T n V m w c v):
  ∃W,v.cells=(W:List Value).toArray/\AF T n V m w l W/\l.all AC.atom=true/\(∀u∈W,u.oneCell'=true):=by
 have one:∀c:AC,c.atom=true->AA T n V m w c v->∃W,v.cells=(W:List Value).toArray/\AF T n V m w [c] W/\[c].all AC.atom=true/\(∀u∈W,u.oneCell'=true):=by
  intro c q h;exact⟨[v],qh (IQ q h),⟨v,[],rfl,h,rfl⟩,by simp[q],by intro u D;simp at D;rw[D];exact IQ q h⟩
 cases c
 case agg ae=>
  simp only[AC.cellsOf] at z;split at z
  .rename_i q;cases z;obtain⟨W,C,O⟩:=h;exact⟨W,by rw[C];rfl,O,q,O.ones q⟩
  .cases z
 all_goals
  simp only[AC.cellsOf] at z;split at z
  .rename_i q;cases z;exact one _ q h
  .cases z
theorem ay (v:Value):AA T n V m w (oc v) v:=by
 have one:∀u:Value,u.oneCell'=true->AA T n V m w .anyc u:=fun _ h=>h;cases v with
 |pointer a=>cases a<;>first|exact rfl|exact one _ rfl
 |slice a l c=>
  cases a with
  |some a=>exact one _ rfl
  |none=>
   cases l with
   |succ l=>exact one _ rfl
   |zero=>cases c<;>first|exact rfl|exact one _ rfl
 |map r=>cases r<;>first|exact rfl|exact one _ rfl
 |agg _=>exact trivial
 |tuple _=>exact trivial
 |bool _=>exact rfl
 |int _ _=>exact rfl
 |string _=>exact rfl
 |nilFunc=>exact rfl
 |nilIface=>exact rfl
 |float _ _=>exact one _ rfl
 |complex _ _ _=>exact one _ rfl
 |chan _=>exact one _ rfl
 |func _ _ _=>exact one _ rfl
 |iface _ _=>exact one _ rfl
theorem MM (v:Value):AA T n V m w (Jq v) v:=by
 cases v
 case agg aD=>
  refine⟨aD.toList,by simp,AF.of_get (by simp) ?_⟩;intro i c u C O;simp only[ABg] at C;rw[O] at C;simp at C;subst C;exact ay u
 all_goals (unfold Jq;exact ay _)
theorem evc (T:Tab)(u:U):Rf.eval T (.c u)=u:=rfl
theorem eve (T:Tab)(x:Nat):Rf.eval T (.e x)=T x:=rfl
theorem evn (T:Tab)(x:Nat):Rf.eval T (.n x)= .bool (!(T x).toB):=rfl
theorem HX (ok:Nat->Nat->Prop)(ks:List Kd):AX ok w (.list ks) (.list []) (.slice none 0 0):=
 ⟨[],rfl,by simp,fun _=>rfl,none,0,rfl,ABB _,fun h=>absurd h (by simp)⟩
theorem CV.kd {c:CV}(aa:FY (.cv c)=some (k,r))(h:v=c.value)(ok:Nat->Nat->Prop):AX ok w k (r.eval T) v:=by
 subst h;cases c
 case str s=>
  simp only[FY] at aa;split at aa
  .rename_i q;cases aa;exact⟨s,rfl,rfl,ABS q (by decide)⟩
  .cases aa
 all_goals simp only[FY] at aa<;>cases aa
 case nilSlice=>exact HX _ _
 all_goals exact⟨rfl,rfl⟩
theorem Iq (q:FY c=some (k,r))(h:AA T n V m w c v):AX (Ag T V m w) w k (r.eval T) v:=by
 cases c
 case cv c=>exact CV.kd q h _
 all_goals simp only[FY] at q<;>cases q
 case cb=>exact⟨_,rfl,h⟩
 case b=>obtain⟨_,i,C,O⟩:=h;exact⟨i,C,O⟩
 case nb=>obtain⟨_,i,C,O⟩:=h;exact⟨!i,by simp[Rf.eval,C,U.toB],O⟩
 case ci=>exact⟨_,rfl,h,ABt _,ABt _⟩
 case i=>obtain⟨_,i,C,O,z,D⟩:=h;exact⟨i,C,O,z,D⟩
 case v=>exact h.2
 case s=>obtain⟨_,i,C,O⟩:=h;exact⟨i,C,O⟩
 case ro=>exact h.2
 case vec=>exact h.2.2.1
theorem E5 {x:Nat}(q:x < n)(h:AX (Ag T V m w) w k (T x) v):AA T n V m w (Lg k x) v:=by
 cases k with
 |int k am Y=>
  obtain⟨i,C,O,z,D⟩:=h;simp only[Lg];split
  .obtain rfl:i=am:=by omega
   exact O
  .exact⟨q,i,C,O,z,D⟩
 |bool=>obtain⟨i,C,O⟩:=h;exact⟨q,i,C,O⟩
 |str=>obtain⟨i,C,O⟩:=h;exact⟨q,i,C,O⟩
 |val=>exact⟨q,h⟩
 |any=>exact h
 |list ks=>exact⟨q,h⟩
theorem Bk {k:IntKind}{am Y:Int}(q:CO c=some (k,am,Y,r))(h:AA T n V m w c v):
  ∃i,v= .int k i/\r.eval T= .int i/\am<=i/\i<=Y:=by
 cases c<;>simp only[CO] at q<;>cases q
 case ci=>exact⟨_,h,rfl,ABt _,ABt _⟩
 case i=>
  obtain⟨E,i,C,O,z,D⟩:=h;exact⟨i,O,C,z,D⟩
theorem EF {k:Option Bool}(z:Jk c=some (k,r))(h:AA T n V m w c v):
  ∃i,v= .bool i/\r.eval T= .bool i/\∀b,k=some b->i=b:=by
 cases c<;>simp only[Jk] at z<;>cases z
 case cb=>exact⟨_,h,rfl,fun b q=>by cases q;rfl⟩
 case b=>
  obtain⟨D,i,C,O⟩:=h;exact⟨i,O,C,fun b q=>by cases q⟩
 case nb=>
  obtain⟨D,i,C,O⟩:=h;exact⟨!i,O,by simp[Rf.eval,C,U.toB],fun b q=>by cases q⟩
theorem Fs {ks:List Kd}(q:Jx c=some (ks,r))(h:AA T n V m w c v):
  AX (Ag T V m w) w (.list ks) (r.eval T) v:=by
 cases c<;>simp only[Jx] at q
 case ro x ks=>cases q;exact h.2
 case vec id x ks=>cases q;exact h.2.2.1
 case cv c=>
  cases c<;>simp only at q<;>cases q;rw[show v=_ from h];exact HX _ _
 all_goals cases q
theorem jq (q:c.atom=true)(h:AA T n V m w c v):AX (Ag T V m w) w (BX c).1 ((BX c).2.eval T) v:=by
 unfold BX;cases aa:FY c with
 |some z=>exact Iq aa h
 |none=>exact IQ q h
theorem NO (x t:Nat):∀(ks:List Kd) (n0 c:Nat),(D8 x t n0 c ks).1.length=ks.length/\(D8 x t n0 c ks).2.length=ks.length
 |[],_,_=>⟨rfl,rfl⟩
 |k::ks,n0,c=>by simp[D8,NO x t ks (n0+1) (c+1)]
theorem PV (a0:(aL.eval T).toB=b)(J:n<=aj)
  (D:New T n0 (mix n0 aL c d).2) (z:n0+(mix n0 aL c d).2.length<=aj)
  (C:b=true->AA T n V m w c v) (O:b=false->AA T n V m w d v):AA T aj V m w (mix n0 aL c d).1 v:=by
 unfold mix at D z⊢;split
 .rename_i he;have:=AC.beq_eq _ _ he;subst this;cases b with
  |true=>exact (C rfl).up0 J
  |false=>exact (O rfl).up0 J
 .rename_i aw;simp only[aw] at D z;have al:c.atom=true->d.atom=true->v.oneCell'=true:=fun K a2=>by
   cases b with
   |true=>exact IQ K (C rfl)
   |false=>exact IQ a2 (O rfl)
  split
  .rename_i k r k' r' E H;simp only[E,H] at D z;have one:v.oneCell'=true:=by
    cases b with
    |true=>exact (Iq E (C rfl)).one
    |false=>exact (Iq H (O rfl)).one
   split
   .exact one
   .rename_i q;simp only[q] at D z;refine E5 (by simp at z;omega) ?_;have e:=D.head;simp[Ex.eval,oIf,u0,u1,u2,a0] at e;rw[e];cases b with
    |true=>exact AX.mono (fun _ _ h=>⟨h,rfl⟩) _ _ _ (Kd.join_l _ _ _ _ (Iq E (C rfl)))
    |false=>exact AX.mono (fun _ _ h=>⟨h,rfl⟩) _ _ _ (Kd.join_r _ _ _ _ (Iq H (O rfl)))
  .rename_i a1;split
   .rename_i q;simp only[AA8] at q;exact al q.1 q.2
   .trivial
theorem yL (J:(aL.eval T).toB=b)(D:n<=aj)
  (q:New T n0 (XI n0 aL c d).2) (h:n0+(XI n0 aL c d).2.length<=aj)
  (C:b=true->AA T n V m w c v) (O:b=false->AA T n V m w d v):AA T aj V m w (XI n0 aL c d).1 v:=by
 unfold XI at q h⊢;split
 .rename_i he;have:=AC.beq_eq _ _ he;subst this;cases b with
  |true=>exact (C rfl).up0 D
  |false=>exact (O rfl).up0 D
 .rename_i al;simp only[al] at q h;split
  .rename_i E;simp only[E,if_true] at q h;refine⟨by simp at h;omega,fun z=>?_⟩;have e:=q.head;simp[Ex.eval,oId,u0] at e;rw[e] at z;have K:b=true:=by rw[<-J,z];rfl
   exact (C K).up0 D
  .rename_i E;simp only[E] at q h;split
   .rename_i H;simp only[H,if_true] at q h;refine⟨by simp at h;omega,fun z=>?_⟩;have e:=q.head;simp[Ex.eval,XE,u0,J] at e;rw[e] at z;cases b<;>simp at z;exact (O rfl).up0 D
   .rename_i H;simp only[H] at q h;exact PV J D q h C O
theorem S4 {f:Nat->AC->AC->AC × List Ex}{b:Bool}:
  ∀{l ae:List AC} {W:List Value} {n0:Nat},(∀n0 c d v,c∈l->d∈ae->New T n0 (f n0 c d).2->n0+(f n0 c d).2.length<=aj->(b=true->AA T n V m w c v)->(b=false->AA T n V m w d v)->AA T aj V m w (f n0 c d).1 v)->
  l.length=ae.length->New T n0 (QW f n0 l ae).2->n0+(QW f n0 l ae).2.length<=aj->(b=true->AF T n V m w l W)->(b=false->AF T n V m w ae W)->
  AF T aj V m w (QW f n0 l ae).1 W
 |[],[],W,_,_,_,_,_,C,O=>by
  cases b with
  |true=>exact C rfl
  |false=>exact O rfl
 |[],_::_,_,_,_,h,_,_,_,_=>by simp at h
 |_::_,[],_,_,_,h,_,_,_,_=>by simp at h
 |c::l,d::ae,W,n0,hf,hll,hnew,hl,C,O=>by
  simp only[QW] at hnew hl⊢;simp only[ABM] at hl;have D:∃u us,W=u::us/\(b=true->AA T n V m w c u/\AF T n V m w l us)/\(b=false->AA T n V m w d u/\AF T n V m w ae us):=by
   cases b with
   |true=>obtain⟨u,us,e,q,E⟩:=C rfl;exact⟨u,us,e,fun _=>⟨q,E⟩,(fun h=>by cases h)⟩
   |false=>obtain⟨u,us,e,q,E⟩:=O rfl;exact⟨u,us,e,(fun h=>by cases h),fun _=>⟨q,E⟩⟩
  obtain⟨u,us,rfl,q,E⟩:=D;refine⟨u,us,rfl,hf n0 c d u (by simp) (by simp) hnew.left (by omega) (fun h=>(q h).1) (fun h=>(E h).1),?_⟩;exact S4 (fun n0 c d v z hd=>hf n0 c d v (by simp[z]) (by simp[hd])) (by simpa using hll) hnew.right (by omega) (fun h=>(q h).2) (fun h=>(E h).2)
theorem Xg (J:(aL.eval T).toB=b)(H:n<=aj)
  (z:New T n0 (OS n0 aL c d).2) (q:n0+(OS n0 aL c d).2.length<=aj)
  (C:b=true->AA T n V m w c v) (O:b=false->AA T n V m w d v):AA T aj V m w (OS n0 aL c d).1 v:=by
 by_cases hh:∃l ae,c= .agg l/\d= .agg ae
 .obtain⟨l,ae,rfl,rfl⟩:=hh;simp only[OS] at z q⊢;split
  .rename_i D;simp only[D,if_true] at z q;have hv:∃W,v= .agg (W:List Value).toArray/\(b=true->AF T n V m w l W)/\(b=false->AF T n V m w ae W):=by
    cases b with
    |true=>obtain⟨W,e,k⟩:=C rfl;exact⟨W,e,fun _=>k,(fun h=>by cases h)⟩
    |false=>obtain⟨W,e,k⟩:=O rfl;exact⟨W,e,(fun h=>by cases h),fun _=>k⟩
   obtain⟨W,e,k1,E⟩:=hv;exact⟨W,e,S4 (fun n0 c d v _ _ K a2 a3 a4=>PV J H K a2 a3 a4) D z q k1 E⟩
  .trivial
 .have e:OS n0 aL c d=XI n0 aL c d:=by
   unfold OS;grind
  rw[e] at z q⊢;exact yL J H z q C O
theorem xS (J:(aL.eval T).toB=b)(H:n<=aj)
  (z:New T n0 (Gk n0 aL c d).2) (q:n0+(Gk n0 aL c d).2.length<=aj)
  (C:b=true->AA T n V m w c v) (O:b=false->AA T n V m w d v):AA T aj V m w (Gk n0 aL c d).1 v:=by
 by_cases hh:∃l ae,c= .tup l/\d= .tup ae
 .obtain⟨l,ae,rfl,rfl⟩:=hh;simp only[Gk] at z q⊢;split
  .rename_i D;simp only[D,if_true] at z q;have hv:∃W,v= .tuple (W:List Value).toArray/\(b=true->AF T n V m w l W)/\(b=false->AF T n V m w ae W):=by
    cases b with
    |true=>obtain⟨W,e,k⟩:=C rfl;exact⟨W,e,fun _=>k,(fun h=>by cases h)⟩
    |false=>obtain⟨W,e,k⟩:=O rfl;exact⟨W,e,(fun h=>by cases h),fun _=>k⟩
   obtain⟨W,e,k1,E⟩:=hv;exact⟨W,e,S4 (fun n0 c d v _ _ K a2 a3 a4=>Xg J H K a2 a3 a4) D z q k1 E⟩
  .trivial
 .have e:Gk n0 aL c d=OS n0 aL c d:=by
   unfold Gk;grind
  rw[e] at z q⊢;exact Xg J H z q C O
end
end
section
open Go Go.RowKit
theorem CD (b off j:Nat):(⟨b,off,none⟩:Addr).add j=⟨b,off+j,none⟩:=by
 unfold Addr.add;grind
theorem AV (m:Mem)(x:Blk)(id:Nat):Mem.at (m++[x]) id=if id=m.length then x else m.at id:=by
 unfold Mem.at;grind
theorem Gq (m:Mem)(k:Nat)(x:Blk)(id:Nat)(h:m.at k≠ .pad):Mem.at (m.set k x) id=if id=k then x else m.at id:=by
 unfold Mem.at at*;grind
def CS (V :Nat->Option Nat)(id b:Nat):Nat->Option Nat:=fun j=>if j=id then some b else V j
theorem Au (V :Nat->Option Nat)(id b:Nat):CS V id b id=some b:=by simp[CS]
theorem As (V :Nat->Option Nat)(id b:Nat){j:Nat}(h:j≠id):CS V id b j= V j:=by simp[CS,h]
section
variable {T:Tab}{n aj:Nat}{V :Nat->Option Nat}{m:Mem}{w:World}{g:G}{us:List Ex}
theorem BJ (w:World)(o:Obj)(k:Nat)(h:k < w.heap.size):(w.alloc o).heap[k]? =w.heap[k]? :=by
 show (w.heap.push o)[k]? =_;grind
theorem C2 (w:World)(o:Obj):(w.alloc o).heap[w.heap.size]? =some o:=by
 show (w.heap.push o)[w.heap.size]? =_;simp
theorem JK (D:AH T n V m w)(o:Obj)(x:Blk):AI T n V m w (CS V m.length w.heap.size) (m++[x]) (w.alloc o) where
 os:=rfl
 tape:=rfl
 output:=rfl
 size:=by simp
 mlen:=fun id h=>by
  rw[AV];split
  .rename_i e;subst e;exact absurd (Mem.at_ge (ABB _)) h
  .exact h
 rho:=fun id h=>by
  have:id≠m.length:=fun e=>by subst e;exact BM h (Mem.at_ge (ABB _))
  rw[AV,ACD this];exact⟨As _ _ _ this,h⟩
 untr:=fun id h q=>by
  have:id≠m.length:=fun e=>by subst e;exact h (Mem.at_ge (ABB _))
  rw[AV,ACD this] at q;exact q
 fresh:=fun id b h q E=>by
  by_cases e:id=m.length
  .subst e;rw[Au] at E;cases E;exact ABB _
  .rw[AV,ACD e,h] at q;cases q
 old:=fun k H _=>BJ w o k H
 tok:=fun id y ks e h=>by
  have:id≠m.length:=fun e=>by subst e;rw[Mem.at_ge (ABB _)] at h;cases h
  refine .inl ⟨by rw[AV,ACD this];exact h,As _ _ _ this,fun b z=>?_⟩;exact BJ w o b (D.lt (by rw[h];rfl) z)
 row:=fun id L y ks e h=>by
  have:id≠m.length:=fun e=>by subst e;rw[Mem.at_ge (ABB _)] at h;cases h
  refine .inr ⟨L,y,ks,by rw[AV,ACD this];exact h,rfl,.inl ⟨rfl,As _ _ _ this,fun b W z J=>⟨W,?_,rfl⟩⟩⟩;rw[BJ w o b (D.lt (by rw[h];rfl) z)];exact J
theorem BS.step {ac:Nat->Option Nat}{ag:Mem}{ab:World}(h:AI T n V m w ac ag ab)(hm:AH T n V m w)(J:n<=aj){id:Nat}(he:ag.at id=m.at id)
  (K: ac id= V id) (hw:∀b, V id=some b->ab.heap[b]? =w.heap[b]?):BS T aj ac ag ab id (ag.at id):=by
 rw[he];have D:=hm.blk id;cases hx:m.at id with
 |pad=>trivial
 |gone=>trivial
 |cells l e=>
  rw[hx] at D;obtain⟨b,W,C,O,z⟩:=D;exact⟨b,W,by rw[K];exact C,by rw[hw b C];exact O,AF.mono h hm J l W z⟩
 |lp x st=>
  rw[hx] at D;obtain⟨b,q,C,O,z,E,H,h9,h6,j,h7,h8⟩:=D;exact⟨b,q,by rw[K];exact C,by rw[hw b C];exact O,z,E,H,h9,fun i c hc=>AA.mono h hm J _ _ (h6 i c hc),j,AA.mono h hm J _ _ h7,h8⟩
 |tok x ks e=>
  rw[hx] at D;obtain⟨h0,r,C,O⟩:=D;refine⟨ABE h0 J,r,C,?_⟩;rcases O with O|⟨b,W,O,z,E,H⟩
  .exact .inl (by rw[K];exact O)
  .exact .inr ⟨b,W,by rw[K];exact O,by rw[hw b O];exact z,E,H⟩
 |mrow x y ks e=>
  rw[hx] at D;obtain⟨h0,r,C,a5,a6,O⟩:=D;refine⟨⟨ABE h0.1 J,ABE h0.2 J⟩,r,C,a5,a6,?_⟩;rcases O with⟨O,z⟩|⟨b,W,us,O,z,E,H⟩
  .exact .inl ⟨by rw[K];exact O,z⟩
  .exact .inr ⟨b,W,us,by rw[K];exact O,by rw[hw b O];exact z,Ah.mono (fun _ _ aa=>h.safe0 aa) E,H⟩
 |mapb x ao ka aJ aT=>
  rw[hx] at D;obtain⟨h0,l,b,ar,a4,C,O,z,E,H,h6,h7⟩:=D;refine⟨ABE h0 J,l,b,ar,a4,C,by rw[K];exact O,by rw[hw b O];exact z,E,H,fun i us e hl he=>?_,h7⟩;obtain⟨u1,u2,q1,q2,q3⟩:=h6 i us e hl he;exact⟨u1,u2,q1,CJ.mono (fun _ _ aa=>h.safe0 aa) q2,CJ.mono (fun _ _ aa=>h.safe0 aa) q3⟩
theorem TU (D:AH T n V m w){l:List AC}{W:List Value}(hl:AF T n V m w l W)(e:TypeId):
  AI T n V m w (CS V m.length w.heap.size) (m++[.cells l e]) (w.alloc (.cells W.toArray e))/\
  AH T n (CS V m.length w.heap.size) (m++[.cells l e]) (w.alloc (.cells W.toArray e))/\
  AA T n (CS V m.length w.heap.size) (m++[.cells l e]) (w.alloc (.cells W.toArray e)) (.ptr m.length 0) (.pointer (some ⟨w.heap.size,0,none⟩)):=by
 have aa:=JK D (.cells W.toArray e) (.cells l e);refine⟨aa,⟨fun id=>?_,fun id al b q K J H=>?_,fun b off h=>D.fr b off (ABS aa.size h)⟩,w.heap.size,Au _ _ _,rfl,by rw[AV,ACE rfl];rfl⟩
 .by_cases z:id=m.length
  .subst z;rw[AV,ACE rfl];exact⟨w.heap.size,W,Au _ _ _,C2 _ _,AF.mono aa D (ABB _) _ _ hl⟩
  .by_cases q:(m.at id).tracked=true
   .exact BS.step aa D (ABB _) (by rw[AV,ACD z]) (As _ _ _ z) (fun b hb=>BJ w _ b (D.lt q hb))
   .rw[AV,ACD z];cases hx:m.at id with
    |pad=>trivial
    |gone=>trivial
    |cells=>rw[hx] at q;exact absurd rfl q
    |lp=>rw[hx] at q;exact absurd rfl q
    |tok=>rw[hx] at q;exact absurd rfl q
    |mrow=>rw[hx] at q;exact absurd rfl q
    |mapb=>rw[hx] at q;exact absurd rfl q
 .rw[AV] at q K;by_cases z:id=m.length
  .by_cases E:al=m.length
   .omega
   .rw[ACD E] at K;subst z;rw[Au] at J;cases J;rw[As _ _ _ E] at H;have:=D.lt K H;omega
  .rw[ACD z] at q;rw[As _ _ _ z] at J;by_cases E:al=m.length
   .subst E;rw[Au] at H;cases H;have:=D.lt q J;omega
   .rw[ACD E] at K;rw[As _ _ _ E] at H;exact D.inj id al b q K J H
theorem DH (w:World)(b:Nat)(aD:Array Value)(k:Nat)(h:k≠b):(w.setRow b aD).heap[k]? =w.heap[k]? :=setRow_other w b k aD h
theorem Of (J:AH T n V m w){id b:Nat}{l ae:List AC}{W ad:List Value}{e:TypeId}(H:m.at id= .cells l e)(K: V id=some b)
  (hb:w.heap[b]? =some (.cells W.toArray e (0,0))) (hl:AF T aj V m w ae ad) (hn:n<=aj):
  AI T n V m w V (m.set id (.cells ae e)) (w.setRow b ad.toArray)/\AH T aj V (m.set id (.cells ae e)) (w.setRow b ad.toArray):=by
 have E:m.at id≠ .pad:=by rw[H];exact fun h=>by cases h
 have z:=Gq m id (.cells ae e);have aa:∀n,AI T n V m w V (m.set id (.cells ae e)) (w.setRow b ad.toArray):=fun n=>{
  os:=rfl
  tape:=rfl
  output:=rfl
  size:=by simp
  mlen:=fun j h=>by rw[z j E];split<;>first|exact (fun h=>by cases h)|exact h
  rho:=fun j h=>by rw[z j E];split<;>first|exact⟨rfl,rfl⟩|exact⟨rfl,h⟩
  untr:=fun j h q=>by
   rw[z j E] at q;split at q
   .rename_i he;subst he;rw[H];rfl
   .exact q
  fresh:=fun j c h q K=>by
   rw[z j E] at q;split at q
   .grind
   .rw[h] at q;cases q
  old:=fun k hk a6=>DH w b _ k (fun e=>a6 id (by rw[H];rfl) (by rw[e];exact K))
  tok:=fun j x ks e' h=>by
   have D:j≠id:=fun e=>by subst e;rw[H] at h;cases h
   refine .inl ⟨by rw[z j E,ACD D];exact h,rfl,fun c hc=>DH w b _ c (fun e=>?_)⟩;subst e;exact D (J.inj j id c (by rw[h];rfl) (by rw[H];rfl) hc K)
  row:=fun j x y ks e' h=>by
   have D:j≠id:=fun e=>by subst e;rw[H] at h;cases h
   refine .inr ⟨x,y,ks,by rw[z j E,ACD D];exact h,rfl,.inl ⟨rfl,rfl,fun c W hc hv=>⟨W,?_,rfl⟩⟩⟩;rw[DH w b _ c (fun e=>?_)]
   .exact hv
   .subst e;exact D (J.inj j id c (by rw[h];rfl) (by rw[H];rfl) hc K) }
 refine⟨aa n,⟨fun j=>?_,fun j j' c q a8 C O=>?_,fun b off h=>J.fr b off (ABS (aa n).size h)⟩⟩
 .by_cases D:j=id
  .subst D;rw[z j E,ACE rfl];exact⟨b,ad,K,setRow_heap w b W.toArray ad.toArray e (0,0) hb,AF.mono (aa aj) (J.mono hn) (ABB _) _ _ hl⟩
  .by_cases q:(m.at j).tracked=true
   .refine BS.step (aa n) J hn (by rw[z j E,ACD D]) rfl (fun c hc=>DH w b _ c (fun e=>?_));subst e;exact D (J.inj j id c q (by rw[H];rfl) hc K)
   .rw[z j E,ACD D];cases hx:m.at j with
    |pad=>trivial
    |gone=>trivial
    |cells=>rw[hx] at q;exact absurd rfl q
    |lp=>rw[hx] at q;exact absurd rfl q
    |tok=>rw[hx] at q;exact absurd rfl q
    |mrow=>rw[hx] at q;exact absurd rfl q
    |mapb=>rw[hx] at q;exact absurd rfl q
 .have tr:∀k,(Mem.at (m.set id (.cells ae e)) k).tracked=true->(m.at k).tracked=true:=fun k hk=>by
   rw[z k E] at hk;split at hk
   .rename_i he;subst he;rw[H];rfl
   .exact hk
  exact J.inj j j' c (tr j q) (tr j' a8) C O
variable {P:Program}
variable{t:TypeId}{size:Nat}{a7:Bool}{W F:List Value}
theorem Mg (h:E3 P t=some (size,a7)):a7=false->size=1:=by
 unfold E3 at h;grind
theorem G2 (h:E3 P t=some (size,a7))(b off:Nat)(E:W.length=size)
  (D:∀j v,W[j]? =some v->w.cell? ⟨b,off+j,none⟩=some v):
  (loadVar t ⟨b,off,none⟩).run P w= .ok (if a7 then .agg W.toArray else W.headD undef) w:=by
 have z:(loadCells ⟨b,off,none⟩ size).run P w= .ok W.toArray w:=by
  subst E;exact run_loadCells_list (P:=P) (w:=w) _ W (fun j v H=>by rw[CD];exact D j v H)
 unfold E3 at h;cases Y:P.info? t with
 |none=>rw[Y] at h;simp at h
 |some i=>
  cases q:P.underlying t with
  |none=>rw[Y,q] at h;simp at h
  |some d=>
   rw[Y,q] at h;cases d<;>simp at h<;>obtain⟨C,O⟩:=h<;>subst O
   case struct J=>
    subst C;simp[loadVar,isAgg,run_underlying q,sizeOf,typeInfo,Y,z]
   case array k e=>
    subst C;simp[loadVar,isAgg,run_underlying q,sizeOf,typeInfo,Y,z]
   all_goals
    cases W with
    |nil=>simp at E;omega
    |cons v W=>
     have:=D 0 v rfl;simp only[Nat.add_zero] at this;simp[loadVar,isAgg,run_underlying q,this]
def Bl (F:List Value)(k:Nat)(W:List Value):List Value:=F.take k++W++F.drop (k+W.length)
theorem Vh {k:Nat}(q:k < F.length)(v:Value)(h:List Value):Bl (F.set k v) (k+1) h=Bl F k (v::h):=by
 have C:(F.set k v).take (k+1)=F.take k++[v]:=by
  apply List.ext_getElem?;grind
 have O:(F.set k v).drop (k+1+h.length)=F.drop (k+(h.length+1)):=by
  apply List.ext_getElem?;grind
 simp only[Bl,C,ABa,O,ABj,List.cons_append,ACC]
theorem LM (b off:Nat)(t:TypeId):∀(W:List Value) (i:Nat) (F:List Value) (w:World),w.heap[b]? =some (.cells F.toArray t (0,0))->off+i+W.length<=F.length->
  (∀v∈W,v.oneCell'=true)->(storeCells ⟨b,off,none⟩ W i).run P w= .ok () (w.setRow b (Bl F (off+i) W).toArray)
 |[],i,F,w,hb,_,_=>by
  have e:Bl F (off+i) []=F:=by simp[Bl]
  rw[e];simp only[storeCells];show Result.ok () w=_;congr 1;unfold World.setRow;cases w with
  |mk ad ao drawn os al=>
   congr 1;apply Array.ext
   .simp
   .intro k C O;simp only[Array.getElem_modify];split
    .rename_i D;subst D;obtain⟨K,h⟩:=ABF.1 hb;simp only at h;rw[h]
    .rfl
 |v::rest,i,F,w,hb,hl,C=>by
  simp at hl;have Y:off+i < F.length:=by omega
  have q:w.cell? ⟨b,off+i,none⟩=some F[off+i]:=by simp[World.cell?,hb,Y]
  have z:w.frozen? ⟨b,off+i,none⟩=false:=by simp[World.frozen?,hb]
  have E:(store ((⟨b,off,none⟩:Addr).add i) v).run P w= .ok () (w.setRow b (F.set (off+i) v).toArray):=by
   rw[CD,run_store P w _ v _ (C v (by simp)),q];simp[z,setCell_eq_setRow w b (off+i) F.toArray t (0,0) v hb]
  have J:=LM b off t rest (i+1) (F.set (off+i) v) (w.setRow b (F.set (off+i) v).toArray) (setRow_heap w b F.toArray _ t _ hb) (by simp;omega) (fun x H=>C x (by simp[H]));simp only[storeCells,ABo,E,ABn,J,setRow_setRow];rw[show off+(i+1)=off+i+1 by omega,Vh Y]
theorem Lf {i:TypeInfo}(Y:P.info? t=some i)(b off:Nat)(e:TypeId){v:Value}(h:w.heap[b]? =some (.cells F.toArray e (0,0)))
  (z:v.cells=W.toArray) (q:W.length=i.size) (D:off+i.size<=F.length) (C:∀u∈W,u.oneCell'=true):
  (storeVar t ⟨b,off,none⟩ v).run P w= .ok () (w.setRow b (Bl F off W).toArray):=by
 have:=LM (P:=P) b off e W 0 F w h (by omega) C;simp[storeVar,sizeOf,typeInfo,Y,z,q,this]
end
def BK (T:Tab)(g:G)(V :Nat->Option Nat)(m:Mem)(w:World)(run:Result Next)(r:R):Prop:=
 ∃v ab ac,(run= .ok (.value v) ab\/(run= .ok .skip ab/\v=undef))/\AI T g.n V m w ac r.m ab/\
  AH T (g.n+r.us.length) ac r.m ab/\AA T (g.n+r.us.length) ac r.m ab r.c v
section
variable {P:Program}{T:Tab}{V :Nat->Option Nat}{m:Mem}{w:World}{g:G}{r:R}
variable{v:Value}{k:Kd}{x base B aE an size aj id b:Nat}{ps:List Pr}{am Y j:Int}{i:Vx}{e:TypeId}{l aD:List AC}{M:List (List AC)}{W:List Value}
theorem BK.pure {run:Result Next}(D:run= .ok (.value v) w)(z:AH T g.n V m w)(h:r.m=m)
  (q:AA T (g.n+r.us.length) V m w r.c v):BK T g V m w run r:=
 ⟨v,w, V,.inl D,by rw[h];exact AI.refl T g.n V m w,by rw[h];exact z.mono (by omega),by rw[h];exact q⟩
def BA (T:Tab)(g:G)(V :Nat->Option Nat)(m:Mem)(w:World)(run:Result Next)(r:R):Prop:=
 ∃v,run= .ok (.value v) w/\r.m=m/\AA T (g.n+r.us.length) V m w r.c v
theorem BA.res {run:Result Next}(h:BA T g V m w run r)(z:AH T g.n V m w):BK T g V m w run r:=by
 obtain⟨v,C,O,q⟩:=h;exact BK.pure C z O q
theorem BA.pure {run:Result Next}(z:run= .ok (.value v) w)(_hm:AH T g.n V m w)(h:r.m=m)
  (q:AA T (g.n+r.us.length) V m w r.c v):BA T g V m w run r:=⟨v,z,h,q⟩
theorem BA.same {run:Result Next}(D:run= .ok (.value v) w)(h:AH T g.n V m w)(q:r.m=m)
  (z:AA T g.n V m w r.c v):BA T g V m w run r:=BA.pure D h q (z.up h (by omega))
theorem BK.same {run:Result Next}(D:run= .ok (.value v) w)(h:AH T g.n V m w)(q:r.m=m)
  (z:AA T g.n V m w r.c v):BK T g V m w run r:=
 BK.pure D h q (z.up h (by omega))
theorem AAE {v:Vx}{x:Value}(q:New T g.n (mkV g m k v ps).us)(h:AX (Ag T V m w) w k (v.eval T) x)
  (H:∀y,v= .rf (.e y)->y < g.n):AA T (g.n+(mkV g m k v ps).us.length) V m w (mkV g m k v ps).c x:=by
 have ex:∀e:Ex,New T g.n [e]->e.eval T=v.eval T->AX (Ag T V m w) w k (T g.n) x:=fun e C O=>by rw[C.head,O];exact h
 have rf:∀r:Rf,v= .rf r->(⟨ "id",oId,[r]⟩:Ex).eval T=v.eval T:=fun r e=>by subst e;rfl
 cases k with
 |int k am Y=>
  simp only[mkV] at q⊢;split
  .obtain⟨i,C,O,D,E⟩:=h;obtain rfl:i=am:=by omega
   exact O
  .rename_i J;simp only[J] at q;have z:∀y aj,y < aj->AX (Ag T V m w) w (.int k am Y) (T y) x->AA T aj V m w (.i k am Y y) x:=by
    rintro y aj K ⟨i,C,O,D,E⟩;exact⟨K,i,C,O,D,E⟩
   cases v with
   |ex e=>exact z _ _ (by simp) (ex e q rfl)
   |rf r=>
    cases r with
    |e y=>exact z _ _ (by have:=H y rfl;simp;omega) h
    |c u=>exact z _ _ (by simp) (ex _ q (rf _ rfl))
    |n y=>exact z _ _ (by simp) (ex _ q (rf _ rfl))
 |_=>
  cases v with
  |ex e=>exact E5 (by simp[mkV]) (ex e q rfl)
  |rf r=>
   cases r with
   |e y=>exact E5 (by have:=H y rfl;simp[mkV];omega) h
   |c u=>exact E5 (by simp[mkV]) (ex _ q (rf _ rfl))
   |n y=>exact E5 (by simp[mkV]) (ex _ q (rf _ rfl))
theorem Hk {k:IntKind}{i:Int}{v:Vx}(q:New T g.n (mkI g m k am Y v ps).us)(z:v.eval T= .int i)(C:am<=i)(O:i<=Y)
  (h:∀y,v= .rf (.e y)->y < g.n):AA T (g.n+(mkI g m k am Y v ps).us.length) V m w (mkI g m k am Y v ps).c (.int k i):=
 AAE (k:= .int k am Y) q ⟨i,z,rfl,C,O⟩ h
theorem NZ {k:Option Bool}{i:Bool}{e:Ex}(h:New T g.n (mkB g m k e ps).us)(q:k=none->e.eval T= .bool i)(C:∀b,k=some b->i=b):
  AA T (g.n+(mkB g m k e ps).us.length) V m w (mkB g m k e ps).c (.bool i):=by
 cases k with
 |some b=>rw[C b rfl];exact rfl
 |none=>exact⟨by simp[mkB],i,by rw[h.head];exact q rfl,rfl⟩
theorem AAk {v:Vx}:(mkV g m k v ps).m=m:=by
 cases k<;>cases v<;>simp only[mkV]<;>(repeat (first|rfl|split))
theorem zj {v:Vx}:(mkV g m k v ps).ps=ps:=by
 cases k<;>cases v<;>simp only[mkV]<;>(repeat (first|rfl|split))
theorem K4 {k:IntKind}:(mkI g m k am Y i ps).m=m:=AAk
theorem TN {k:Option Bool}{i:Ex}:(mkB g m k i ps).m=m:=by unfold mkB;split<;>rfl
theorem AAW {k:IntKind}:(mkI g m k am Y i ps).ps=ps:=zj
theorem N8 {a:Act}{o:Oper}{s:Sem Value}{ab:World}(h:execOp a.eval o=(do Pure.pure (.value (<-s))))(aa:s.run P w= .ok v ab):
  (execOp a.eval o).run P w= .ok (.value v) ab:=by
 rw[h];simp[aa]
theorem Ei {aW H:Type}(f:aW->Option H):∀(l:List aW) (r:List H),l.mapM f=some r->r.length=l.length/\∀(i:Nat) (x:aW),l[i]? =some x->r[i]? =f x
 |[],r,h=>by simp at h;subst h;exact⟨rfl,fun i x h=>by simp at h⟩
 |x::l,r,h=>by
  simp only[List.mapM_cons,ABA,Option.pure_def] at h;cases q:f x with
  |none=>simp[q] at h
  |some y=>
   cases E:l.mapM f with
   |none=>simp[q,E] at h
   |some J=>
    simp[q,E] at h;subst h;obtain⟨C,O⟩:=Ei f l J E;refine⟨by simp[C],fun i z D=>?_⟩;cases i with
    |zero=>simp at D;subst D;simp[q]
    |succ i=>simp at D;simpa using O i z D
theorem Qb (h:Wt l base B aE an=some aD):∀j,j < aE->aD[j]? =l[base+j*B+an]? :=by
 intro j q;exact (Ei _ _ _ h).2 j j (by simp[q])
theorem UY {n:Nat}:∀{aD:List AC} {k:Kd} {ai:List Rf},S6 aD=some (k,ai)->
  ∀(j:Nat) (c:AC) (v:Value),aD[j]? =some c->AA T n V m w c v->∃r,ai[j]? =some r/\AX (Ag T V m w) w k (r.eval T) v
 |[],_,_,h,_,_,_,_,_=>by cases h
 |[c],k,ai,h,j,d,v,hj,hh=>by
  simp only[S6,ABU] at h;obtain⟨⟨D,r⟩,C,O⟩:=h;cases O;cases j with
  |zero=>
   simp at hj;subst hj;exact⟨r,rfl,Iq C hh⟩
  |succ j=>simp at hj
 |c::d::aD,k,ai,h,j,e,v,hj,hh=>by
  simp only[S6] at h;split at h
  .rename_i H ax E ah C O;cases h;cases j with
   |zero=>
    simp at hj;subst hj;exact⟨ax,rfl,Kd.join_l _ _ _ _ (Iq C hh)⟩
   |succ j=>
    simp at hj;obtain⟨r,q,z⟩:=UY O j e v (by simpa using hj) hh;exact⟨r,by simpa using q,Kd.join_r _ _ _ _ z⟩
  .cases h
theorem Av.get {n:Nat}:∀{l:List AC} {j:Nat} {c:AC} {v:Value},l[j]? =some c->AA T n V m w c v->Av T n V m w l j v
 |[],_,_,_,h,_=>by simp at h
 |c::_,0,d,v,h,hh=>by simp at h;subst h;exact hh
 |_::l,j+1,d,v,h,hh=>Av.get (l:=l) (by simpa using h) hh
theorem SF (h:La g m x aD ps=some r)(J:New T g.n r.us)(K:x < g.n)(z:T x= .int j)(H:0<=j)
  {c:AC}  (D:aD[j.toNat]? =some c) (E:AA T g.n V m w c v):r.m=m/\r.ps=ps/\AA T (g.n+r.us.length) V m w r.c v:=by
 unfold La at h;split at h
 .rename_i k ai aa;split at h
  .cases h
  .cases h;refine⟨rfl,rfl,E5 (by simp) ?_⟩;obtain⟨q,C,O⟩:=UY aa j.toNat c v D E;have:=J.head;have e:T g.n=q.eval T:=by
    rw[this];simp[Ex.eval,WO,u0,Rf.eval,z,U.toI,List.getD,C]
   rw[e];exact O
 .split at h
  .cases h;exact⟨rfl,rfl,by simpa using K,j,z,H,(Av.get D E)⟩
  .cases h
theorem T9 {aj:Nat}{x:Nat}{j:Int}(D:T x= .int j)(K:0<=j):∀{M:List (List AC)} {n0:Nat} {z:List AC} {us:List Ex} {W:List Value},IE x n0 M=some (z,us)->New T n0 us->n0+us.length<=aj->
  W.length=M.length->(∀(i:Nat) (aD:List AC) (v:Value),M[i]? =some aD->W[i]? =some v->∃c,aD[j.toNat]? =some c/\AA T g.n V m w c v)->AF T aj V m w z W
 |[],n0,z,us,W,h,_,_,hl,_=>by
  simp only[IE,ABu,Prod.mk.injEq] at h;obtain⟨rfl,rfl⟩:=h;cases W with
  |nil=>rfl
  |cons=>simp at hl
 |aD::r,n0,z,us,W,h,hnew,hn,hl,hh=>by
  cases W with
  |nil=>simp at hl
  |cons v W=>
   simp only[IE] at h;split at h
   .rename_i k ai aa;split at h
    .cases h
    .simp only[ABU] at h;obtain⟨⟨l,aw⟩,C,O⟩:=h;cases O;simp only[ABa] at hn;obtain⟨c,H,J⟩:=hh 0 aD v rfl rfl;obtain⟨q,q1,q2⟩:=UY aa j.toNat c v H J;have e:T n0=q.eval T:=by
      rw[hnew.head];simp[Ex.eval,WO,u0,Rf.eval,D,U.toI,List.getD,q1]
     refine⟨v,W,rfl,E5 (by omega) (by rw[e];exact q2),?_⟩;exact T9 D K C (fun i u Y=>by
      have:=hnew (i+1) u (by simpa using Y);rwa [show n0+1+i=n0+(i+1) by omega]) (by omega) (by simpa using hl) (fun i E v' a b=>hh (i+1) E v' (by simpa using a) (by simpa using b))
   .cases h
theorem YC (h:Rd l base B aE an size=some M):
  M.length=size/\∀c,c < size->∃aD,M[c]? =some aD/\Wt l base B aE (an+c)=some aD:=by
 obtain⟨C,O⟩:=Ei _ _ _ h;refine⟨by simpa using C,fun c q=>?_⟩;have z:=O c c (by simp[q]);grind
theorem WE {D:List AC}{us:List Ex}(J:Rd l base B aE an size=some M)(hp:IE x g.n M=some (D,us))(ao:New T g.n us)(hn:g.n+us.length<=aj)
   (H:T x= .int j) (K:0<=j) (ad:j.toNat < aE)  (q:AF T g.n V m w l W):
  base+j.toNat*B+an+size<=W.length\/size=0->AF T aj V m w D ((W.drop (base+j.toNat*B+an)).take size):=by
 intro a4;obtain⟨C,O⟩:=YC J;refine T9 (g:=g) H K hp ao hn ?_ (fun i aD v Y hv=>?_)
 .grind
 .have h:i < size:=by rw[<-C];exact (ABD.1 Y).1
  obtain⟨a3,E,q2⟩:=O i h;rw[Y] at E;cases E;have q3:=Qb q2 j.toNat ad;simp only[AB8,AB5,ACE h] at hv;have z:base+j.toNat*B+(an+i) < l.length:=by
   rw[<-q.length];grind
  refine⟨l[base+j.toNat*B+(an+i)],by rw[q3];exact ABC z,?_⟩;obtain⟨u,u1,u2⟩:=q.get (ABC z);grind
theorem Vo (h:Rd l base B aE an size=some M){j:Nat}(z:j < aE):base+j*B+an+size<=l.length\/size=0:=by
 rcases AB1 size with D|D
 .exact .inr D
 .obtain⟨_,O⟩:=YC h;obtain⟨aD,_,q⟩:=O (size - 1) (by omega);have H:=Qb q j z;have E:j < aD.length:=by rw[(Ei _ _ _ q).1];simpa using z
  grind
theorem BS.get {n:Nat}(z:AH T n V m w)(q:m.at id= .cells l e)(H: V id=some b):
  ∃W,w.heap[b]? =some (.cells (W:List Value).toArray e (0,0))/\AF T n V m w l W:=by
 have h:=z.blk id;rw[q] at h;obtain⟨D,W,C,O,E⟩:=h;grind
theorem Gr {off:Nat}(h:w.heap[b]? =some (.cells W.toArray e (0,0))):w.cell? ⟨b,off,none⟩=W[off]? :=by
 simp[World.cell?,h]
theorem Al.drop {ok:Nat->Nat->Prop}:∀{ks:List Kd} {b off:Nat} {us:List U} (k:Nat),Al ok w ks b off us->Al ok w (ks.drop k) b (off+k) (us.drop k)
 |ks,b,off,us,0,h=>h
 |[],_,_,us,_+1,h=>by rw[show us=[] from h];rfl
 |_::ks,b,off,us,k+1,⟨u,us',e,_,h⟩=>by
  have:=Al.drop k h;rw[e];rwa [show off+1+k=off+(k+1) by omega] at this
theorem Al.take {ok:Nat->Nat->Prop}:∀{ks:List Kd} {b off:Nat} {us:List U} (k:Nat),Al ok w ks b off us->Al ok w (ks.take k) b off (us.take k)
 |_,_,_,_,0,_=>by simp only[List.take_zero];rfl
 |[],_,_,us,_+1,h=>by rw[show us=[] from h];rfl
 |_::ks,b,off,us,k+1,⟨u,us',e,C,O⟩=>by subst e;exact⟨u,us'.take k,rfl,C,Al.take k O⟩
theorem Al.length {ok:Nat->Nat->Prop}:∀{ks:List Kd} {b off:Nat} {us:List U},Al ok w ks b off us->us.length=ks.length
 |[],_,_,us,h=>by rw[show us=[] from h];rfl
 |_::ks,b,off,us,⟨u,us',e,_,h⟩=>by subst e;simp[h.length]
theorem sP {t:Nat}{a1:List U}(ht:T t= .int j)(a5:(T x).toL[j.toNat]? =some a1){ks:List Kd}{off n0 c:Nat}(h:Al (Ag T V m w) w ks b off ((a1.drop c).take size))
  (J:New T n0 (D8 x t n0 c ks).2) (H:n0+ks.length<=aj):
  ∃W:List Value,W.length=ks.length/\(∀j v,W[j]? =some v->w.cell? ⟨b,off+j,none⟩=some v)/\AF T aj V m w (D8 x t n0 c ks).1 W:=by
 have bb:∀{ks:List Kd} {b off n0 c size:Nat},Al (Ag T V m w) w ks b off ((a1.drop c).take size)->New T n0 (D8 x t n0 c ks).2->n0+ks.length<=aj->
   ∃W:List Value,W.length=ks.length/\(∀j v,W[j]? =some v->w.cell? ⟨b,off+j,none⟩=some v)/\AF T aj V m w (D8 x t n0 c ks).1 W:=by
  intro ks;induction ks with
  |nil=>intro b off n0 c size _ _ _;exact⟨[],rfl,fun j v h=>by simp at h,rfl⟩
  |cons k ks ih=>
   rintro b off n0 c size ⟨u,bc,e,⟨_,v,O,K⟩,h4⟩ J H;simp only[ABa] at H;have ad:New T n0 (⟨XV (kdC k)++toString c,TG (kdC k) c,[.e x,.e t]⟩::(D8 x t (n0+1) (c+1) ks).2):=J;cases size with
   |zero=>simp at e
   |succ size=>
    have hd:∃D,a1.drop c=u::D/\D.take size=bc:=by
     cases hr:a1.drop c with
     |nil=>rw[hr] at e;simp at e
     |cons a D=>rw[hr] at e;simp at e;obtain⟨rfl,e⟩:=e;exact⟨D,rfl,e⟩
    obtain⟨D,hd,a4⟩:=hd;have hT:T n0=u:=by
     have hc:a1[c]? =some u:=by
      have:=ACF (·[0]?) hd;simpa using this
     have:=ad.head;simp[Ex.eval,TG,uF,u0,u1,Rf.eval,ht,U.toI,List.getD,a5,hc] at this;exact this.trans (fJ K)
    have a3:New T (n0+1) (D8 x t (n0+1) (c+1) ks).2:=fun j u q=>by
     have:=ad (j+1) u (by simpa using q);grind
    have a2:a1.drop (c+1)=D:=by rw[<-AB4,hd];rfl
    obtain⟨W,k1,E,k3⟩:=ih (b:=b) (off:=off+1) (n0:=n0+1) (c:=c+1) (size:=size) (by rw[a2,a4];exact h4) a3 (by omega);refine⟨v::W,by simp[k1],?_,v,W,rfl,E5 (by omega) (by rw[hT];exact K),k3⟩;intro j z q;cases j with
    |zero=>simp at q;subst q;exact O
    |succ j=>
     simp at q;have:=E j z q;rwa [show off+1+j=off+(j+1) by omega] at this
 exact bb h J H
theorem AT.dropC {ok:Nat->Nat->Prop}:∀{ks:List Kd} {us:List U} {W:List Value} (k:Nat),AT ok w ks us W->AT ok w (ks.drop k) (us.drop k) (W.drop k)
 |_,_,_,0,h=>h
 |[],_,_,_+1,⟨C,O⟩=>by subst C;subst O;exact⟨rfl,rfl⟩
 |_::_,_,_,k+1,⟨_,_,_,_,C,O,_,h4⟩=>by subst C;subst O;exact AT.dropC k h4
theorem AT.takeC {ok:Nat->Nat->Prop}:∀{ks:List Kd} {us:List U} {W:List Value} (k:Nat),AT ok w ks us W->AT ok w (ks.take k) (us.take k) (W.take k)
 |_,_,_,0,_=>by simp only[List.take_zero];exact⟨rfl,rfl⟩
 |[],_,_,_+1,⟨C,O⟩=>by subst C;subst O;exact⟨rfl,rfl⟩
 |_::_,_,_,k+1,⟨u,us',v,vs',C,O,h3,h4⟩=>by subst C;subst O;exact⟨u,_,v,_,rfl,rfl,h3,AT.takeC k h4⟩
theorem AT.lenC {ok:Nat->Nat->Prop}:∀{ks:List Kd} {us:List U} {W:List Value},AT ok w ks us W->W.length=ks.length/\us.length=ks.length
 |[],_,_,⟨C,O⟩=>by subst C;subst O;exact⟨rfl,rfl⟩
 |k::ks,_,_,⟨u,us',v,vs',C,O,_,h4⟩=>by subst C;subst O;have:=h4.lenC;simp[this]
theorem A9.rowC {ok:Nat->Nat->Prop}{ks:List Kd}:∀{l:U'} {R:List (List Value)} {j:Nat} {us:List U},A9 ok w ks l R->l[j]? =some us->AT ok w ks us ((R.flatten.drop (j*ks.length)).take ks.length)
 |[],_,_,_,_,hj=>by simp at hj
 |x::l,_,0,us,⟨W,vss',e,C,O⟩,hj=>by
  subst e;simp at hj;subst hj;have:=C.lenC.1;rw[Nat.zero_mul,List.drop_zero,ACH,List.take_append_of_le_length (by omega),List.take_of_length_le (by omega)];exact C
 |x::l,_,j+1,us,⟨W,vss',e,C,O⟩,hj=>by
  subst e;have h:=C.lenC.1;have:=A9.rowC O (by simpa using hj);rw[ACH,show (j+1)*ks.length=W.length+j*ks.length by rw[ABc,h];omega,<-AB4,List.drop_left' rfl];exact this
theorem A9.lenC {ok:Nat->Nat->Prop}{ks:List Kd}:∀{l:U'} {R:List (List Value)},A9 ok w ks l R->R.flatten.length=l.length*ks.length
 |[],_,h=>by rw[show _=[] from h];simp
 |_::_,_,⟨W,vss',e,C,O⟩=>by
  subst e;have:=O.lenC;have:=C.lenC.1;simp[*,ABc];omega
theorem AT.join_l {ok:Nat->Nat->Prop}:∀{ks af:List Kd},ks.length=af.length->∀{us:List U} {W:List Value},AT ok w ks us W->AT ok w (Kd.joins ks af) us W
 |[],[],_,_,_,h=>h
 |[],_::_,h,_,_,_=>by simp at h
 |_::_,[],h,_,_,_=>by simp at h
 |k::ks,k'::af,hl,_,_,⟨u,us',v,vs',C,O,h3,h4⟩=>⟨u,us',v,vs',C,O,Kd.join_l k k' u v h3,h4.join_l (by simpa using hl)⟩
theorem AT.join_r {ok:Nat->Nat->Prop}:∀{ks af:List Kd},ks.length=af.length->∀{us:List U} {W:List Value},AT ok w af us W->AT ok w (Kd.joins ks af) us W
 |[],[],_,_,_,h=>h
 |[],_::_,h,_,_,_=>by simp at h
 |_::_,[],h,_,_,_=>by simp at h
 |k::ks,k'::af,hl,_,_,⟨u,us',v,vs',C,O,h3,h4⟩=>⟨u,us',v,vs',C,O,Kd.join_r k k' u v h3,h4.join_r (by simpa using hl)⟩
theorem UJ {aj:Nat}{x t:Nat}{j:Int}{a1:List U}(H:T t= .int j)(E:(T x).toL[j.toNat]? =some a1):∀{ks:List Kd} {W:List Value} {n0 c size:Nat},AT (Ag T V m w) w ks ((a1.drop c).take size) W->
  New T n0 (D8 x t n0 c ks).2->n0+ks.length<=aj->AF T aj V m w (D8 x t n0 c ks).1 W
 |[],_,_,_,_,⟨_,h⟩,_,_=>h
 |k::ks,_,n0,c,0,⟨u,us',v,vs',e,_⟩,_,_=>by simp at e
 |k::ks,_,n0,c,size+1,⟨u,us',v,vs',e,e2,h3,h4⟩,hnew,hn=>by
  subst e2;simp only[ABa] at hn;have z:New T n0 (⟨XV (kdC k)++toString c,TG (kdC k) c,[.e x,.e t]⟩::(D8 x t (n0+1) (c+1) ks).2):=hnew;have hd:∃q,a1.drop c=u::q/\q.take size=us':=by
   cases D:a1.drop c with
   |nil=>rw[D] at e;simp at e
   |cons a q=>rw[D] at e;simp at e;obtain⟨rfl,e⟩:=e;exact⟨q,rfl,e⟩
  obtain⟨q,hd,aw⟩:=hd;have J:T n0=u:=by
   have K:a1[c]? =some u:=by
    have:=ACF (·[0]?) hd;simpa using this
   have:=z.head;simp[Ex.eval,TG,uF,u0,u1,Rf.eval,H,U.toI,List.getD,E,K] at this;exact this.trans (fJ h3)
  have ao:New T (n0+1) (D8 x t (n0+1) (c+1) ks).2:=fun j u hj=>by
   have:=z (j+1) u (by simpa using hj);rwa [show n0+1+j=n0+(j+1) by omega]
  have ad:a1.drop (c+1)=q:=by rw[<-AB4,hd];rfl
  exact⟨v,vs',rfl,E5 (by omega) (by rw[J];exact h3),UJ H E (c:=c+1) (n0:=n0+1) (size:=size) (by rw[ad,aw];exact h4) ao (by omega)⟩
theorem uL {n:Nat}(hm:AH T n V m w){y:Nat}{ks:List Kd}(K:m.at id= .mrow x y ks e)(hr: V id=some b){L:Int}(hy:T y= .int L)(h0:0<=j)(hj:j < L):
  ∃A l us,w.heap[b]? =some (.cells (A:List Value).toArray e (0,0))/\T x= .list l/\(l.length:Int)=L/\l[j.toNat]? =some us/\l.length*ks.length<=A.length/\
   AT (Ag T V m w) w ks us ((A.drop (j.toNat*ks.length)).take ks.length):=by
 have h:=hm.blk id;rw[K] at h;obtain⟨_,l,C,O,h3,q⟩:=h;rw[hy] at O;have J:L=l.length:=by cases O;rfl
 rcases q with⟨q,D⟩|⟨b',W,us,q,D,⟨R,E,H⟩,h8⟩
 .grind
 .rw[hr] at q;cases q;have z:j.toNat < l.length:=by omega
  have ad:=H.lenC;rw[<-E] at ad;refine⟨W++us,l,l[j.toNat],by simpa using D,C,J.symm,ABC z,by rw[ABM];omega,?_⟩;have:=H.rowC (ABC z);rw[<-E] at this;have a5:(j.toNat+1)*ks.length<=l.length*ks.length:=ABY _ z;grind
theorem Pv {t:TypeId}{p:AC}(h:GK P t p m g=some r)(ad:New T g.n r.us)(hm:AH T g.n V m w)(hp:AA T g.n V m w p v):
  ∃u,(Instr.loadAt t v).run P w= .ok u w/\r.m=m/\AA T (g.n+r.us.length) V m w r.c u:=by
 unfold GK at h;simp only[ABA,AA7] at h;obtain⟨⟨size,a7⟩,aa,h⟩:=h;cases p<;>simp only at h
 case ptr id off=>
  obtain⟨b,hr,rfl,_⟩:=hp;split at h
  .rename_i l e K;obtain⟨W,hb,hl⟩:=BS.get hm K hr;split at h
   .rename_i q;have z:=(hl.drop off).take size;have a5:((W.drop off).take size).length=size:=by rw[z.length];exact q
    have D:=G2 (P:=P) (w:=w) aa b off a5 (fun j x hj=>by
     rw[Gr hb];simp only[AB8,AB5] at hj;split at hj
     .exact hj
     .cases hj)
    refine⟨_,by simp only[Instr.loadAt,Instr.sureAddr,ABo,ABv,ABn];exact D,?_⟩;cases a7 with
    |true=>
     simp at h;subst h;exact⟨rfl,_,rfl,z.up hm (by simp)⟩
    |false=>
     simp at h;obtain⟨c,H,h⟩:=h;subst h;have al:((l.drop off).take size)[0]? =some c:=by
      have:=Mg aa rfl;subst this;simpa [AB8] using H
     obtain⟨u,C,O⟩:=z.get al;refine⟨rfl,?_⟩;have:((W.drop off).take size).headD undef=u:=by
      cases J:(W.drop off).take size with
      |nil=>rw[J] at C;simp at C
      |cons y ap=>rw[J] at C;simp at C;subst C;rfl
     rw[ACD (by simp),this];exact O.up hm (by simp)
   .cases h
  .cases h
 case pix id base B aE x an=>
  obtain⟨h0,b,j,hr,J,ao,cs,rfl,_⟩:=hp;split at h
  .rename_i l e K;obtain⟨W,hb,hl⟩:=BS.get hm K hr;split at h
   .rename_i bi;subst bi;simp only[AA7] at h;obtain⟨M,bx,⟨ls,cj⟩,ca,h⟩:=h;cases h;have aw:j.toNat < aE:=by omega
    have q:=Vo bx aw;rw[<-hl.length] at q;have z:=WE (aj:=g.n+cj.length) bx ca ad (ABB _) J ao aw hl q;have a5:((W.drop (base+j.toNat*B+an)).take size).length=size:=by
     rcases q with q|q
     .simp;omega
     .subst q;simp
    have D:=G2 (P:=P) (w:=w) aa b (base+j.toNat*B+an) a5 (fun i y Y=>by
     rw[Gr hb];simp only[AB8,AB5] at Y;split at Y
     .exact Y
     .cases Y)
    exact⟨_,by simp only[Instr.loadAt,Instr.sureAddr,ABo,ABv,ABn];exact D,rfl,_,rfl,z⟩
   .rename_i bi;have b4:a7=false:=by simpa using bi
    subst b4;have bl:=Mg aa rfl;subst bl;simp only[AA7] at h;obtain⟨aD,bt,h⟩:=h;have aw:j.toNat < aE:=by omega
    have bk:=Qb bt j.toNat aw;have b6:∃c,l[base+j.toNat*B+an]? =some c:=by
     rw[<-bk];exact⟨_,ABC (by rw[(Ei _ _ _ bt).1];simpa using aw)⟩
    obtain⟨c,H⟩:=b6;obtain⟨u,cb,cc⟩:=hl.get H;rw[H] at bk;have D:=G2 (P:=P) (w:=w) aa b (base+j.toNat*B+an) (W:=[u]) rfl (fun i y Y=>by
     rw[Gr hb];cases i with
     |zero=>simp at Y;subst Y;simpa using cb
     |succ i=>simp at Y)
    refine⟨u,by simp only[Instr.loadAt,Instr.sureAddr,ABo,ABv,ABn];exact D,?_⟩;obtain⟨f1,_,f3⟩:=SF h ad h0 J ao bk cc;exact⟨f1,f3⟩
  .cases h
 case rp x t' off ks=>
  obtain⟨⟨h0,b3⟩,j,b,o,us,ht,ao,b8,rfl,H⟩:=hp;split at h
  .rename_i q;have a9:=(H.drop off).take size;have a4:r.us=(D8 x t' g.n off ((ks.drop off).take size)).2:=by
    cases a7 with
    |true=>simp at h;subst h;rfl
    |false=>simp at h;obtain⟨c,_,h⟩:=h;subst h;rfl
   rw[a4] at ad;have z:=(NO x t' ((ks.drop off).take size) g.n off).2;have b5:Al (Ag T V m w) w ((ks.drop off).take size) b (o+j.toNat*ks.length+off) (((us.drop off).take size)):=a9;obtain⟨W,k1,E,k3⟩:=sP (aj:=g.n+r.us.length) ht b8 b5 ad (by rw[a4,z];exact ABB _);have D:=G2 (P:=P) (w:=w) aa b (o+j.toNat*ks.length+off) (W:=W) (by rw[k1];exact q) E;refine⟨_,by simp only[Instr.loadAt,Instr.sureAddr,ABo,ABv,ABn];exact D,?_⟩;cases a7 with
   |true=>simp at h;subst h;exact⟨rfl,W,rfl,k3⟩
   |false=>
    simp at h;obtain⟨c,al,h⟩:=h;subst h;obtain⟨u,C,O⟩:=k3.get al;have:W.headD undef=u:=by
     cases W with
     |nil=>simp at C
     |cons y ap=>simp at C;subst C;rfl
    refine⟨rfl,?_⟩;rw[ACD (by simp),this];exact O
  .cases h
 case mp id y t' sz off=>
  obtain⟨⟨h0,b3,cl⟩,j,L,b,ht,hy,⟨ao,b7⟩,rfl,hk⟩:=hp;split at h
  .rename_i x aF ks e K;split at h
   .rename_i H;obtain⟨⟨rfl,bl⟩,q⟩:=H;have hr:=hk x ks e K;obtain⟨A,l,us,k1,E,k3,k4,k5,k6⟩:=uL hm K hr hy ao b7;have a9:=(k6.dropC off).takeC size;have a4:r.us=(D8 x t' g.n off ((ks.drop off).take size)).2:=by
     cases a7 with
     |true=>simp at h;subst h;rfl
     |false=>simp at h;obtain⟨c,_,h⟩:=h;subst h;rfl
    rw[a4] at ad;have z:=(NO x t' ((ks.drop off).take size) g.n off).2;have k7:=UJ (aj:=g.n+r.us.length) ht (a1:=us) (by rw[E];exact k4) a9 ad (by rw[a4,z];exact ABB _);have a5:=a9.lenC.1;have D:=G2 (P:=P) (w:=w) aa b (j.toNat*sz+off) (by rw[a5];exact q) (fun i v Y=>by
     rw[Gr k1];simp only[AB8,AB5] at Y;split at Y
     .split at Y
      .rw[<-Y,bl];congr 1;omega
      .cases Y
     .cases Y)
    refine⟨_,by simp only[Instr.loadAt,Instr.sureAddr,ABo,ABv,ABn];exact D,?_⟩;cases a7 with
    |true=>simp at h;subst h;exact⟨rfl,_,rfl,k7⟩
    |false=>
     simp at h;obtain⟨c,al,h⟩:=h;subst h;obtain⟨u,C,O⟩:=k7.get al;have:(((((A.drop (j.toNat*ks.length)).take ks.length).drop off).take size)).headD undef=u:=by
      cases J:((((A.drop (j.toNat*ks.length)).take ks.length).drop off).take size) with
      |nil=>rw[J] at C;simp at C
      |cons y ap=>rw[J] at C;simp at C;subst C;rfl
     refine⟨rfl,?_⟩;rw[ACD (by simp),this];exact O
   .cases h
  .cases h
 all_goals cases h
end
section
variable {P:Program}{T:Tab}{V :Nat->Option Nat}{m:Mem}{w:World}{g:G}{r:R}
variable{c:AC}{v:Value}{l:List AC}{W:List Value}{Q:List Kd}{t:TypeId}{a:Act}{o:Oper}
theorem fy {d:AC}{n:Nat}(h:c.cellsOf=some [d])(D:AA T n V m w c v):∃u,v.cells= #[u]/\AA T n V m w d u/\u.oneCell'=true/\d.atom=true:=by
 obtain⟨W,C,O,E,q⟩:=DK h D;obtain⟨u,us,rfl,H,z⟩:=O;rw[show us=[] from z] at C q;grind
theorem Tf (hm:AH T g.n V m w){aj:Nat}(H:g.n<=aj){x:Nat}{K:Int}(hx:T x= .int K){c:AC}{u:Value}{base B an:Nat}(bl:B≠0)(hc:AA T g.n V m w c u)(bm:0<=K)
  {W:List Value} {l:List AC} (hl:AF T g.n V m w l W):∀(J n0:Nat) (ae:List AC) (E:List Ex),IR x c base B an l J n0=some (ae,E)->New T n0 E->n0+E.length<=aj->
  AF T aj V m w ae (if K < J then W.set (base+K.toNat*B+an) u else W)
 |0,n0,ae,E,h,_,_=>by
  simp[IR] at h;obtain⟨rfl,rfl⟩:=h;rw[ACD (by simp;omega)];exact hl.up hm H
 |J+1,n0,ae,E,h,hnew,hle=>by
  simp only[IR,ABA,AA7] at h;obtain⟨⟨X,z⟩,C,a0,O,h3⟩:=h;split at h3
  .rename_i bo;cases h3;simp only[ABM,ABa] at hle;have D:=Tf hm H hx bl hc bm hl J n0 X z C hnew.left (by omega);obtain⟨v0,ad,bk⟩:=hl.get O;have hr:=hnew.right;have a8:(Rf.e (n0+z.length)).eval T= .bool (decide (K=J)):=by
    have:=hr.head;simpa [Ex.eval,oEq,u0,u1,Rf.eval,hx,U.toI] using this
   have a6:New T (n0+z.length+1) (mix (n0+z.length+1) (.e (n0+z.length)) c a0).2:=fun j u hj=>by
    have:=hr (j+1) u (by simpa using hj);rwa [show n0+z.length+1+j=n0+z.length+(j+1) by omega]
   by_cases ba:K=J
   .rw[ACD (by omega)] at D;rw[ACE (by omega)];have hd:AA T aj V m w (mix (n0+z.length+1) (.e (n0+z.length)) c a0).1 u:=
     PV (b:=decide (K=J)) (by rw[a8];rfl) H a6 (by omega) (fun _=>hc) (fun h=>by simp[ba] at h)
    have:=D.set (base+J*B+an) hd;rwa [show K.toNat=J by omega]
   .have hd:AA T aj V m w (mix (n0+z.length+1) (.e (n0+z.length)) c a0).1 v0:=
     PV (b:=decide (K=J)) (by rw[a8];rfl) H a6 (by omega) (fun h=>by simp at h;exact absurd h ba) (fun _=>bk)
    have:=D.set (base+J*B+an) hd;by_cases a3:K < J
    .rw[ACE a3] at this D;rw[ACE (by omega)];have bi:base+K.toNat*B+an≠base+J*B+an:=by
      intro e;have e2:K.toNat*B=J*B:=by omega
      have:=Nat.eq_of_mul_eq_mul_right (by omega) e2;omega
     have e:(W.set (base+K.toNat*B+an) u).set (base+J*B+an) v0=W.set (base+K.toNat*B+an) u:=by
      apply List.ext_getElem?;intro k;rw[ACB];split
      .rename_i hk;subst hk;rw[ACB,ACD bi,ad,ACE];rw[ABr];exact (ABD.1 ad).1
      .rfl
     rw[e] at this;exact this
    .rw[ACD a3] at this D;rw[ACD (by omega)];have e:W.set (base+J*B+an) v0=W:=by
      apply List.ext_getElem?;intro k;rw[ACB];split
      .rename_i hk;subst hk;rw[ad,ACE (ABD.1 ad).1]
      .rfl
     rw[e] at this;exact this
  .cases h3
theorem R1 {n:Nat}{aD:List AC}{us:List Value}(z:AF T n V m w l W)(q:AF T n V m w aD us)(off size:Nat)(h:aD.length=size):
  AF T n V m w (l.take off++aD++l.drop (off+size)) (Bl W off us):=by
 unfold Bl;rw[q.length,h];exact ((z.take off).append q).append (z.drop _)
theorem oG {k:Nat}(h:k < W.length)(u:Value):Bl W k [u]=W.set k u:=by
 unfold Bl;rw[List.set_eq_take_append_cons_drop,ACE h];simp
theorem AT.appC {ok:Nat->Nat->Prop}:∀{ks af:List Kd} {us q:List U} {W z:List Value},AT ok w ks us W->AT ok w af q z->AT ok w (ks++af) (us++q) (W++z)
 |[],_,_,_,_,_,⟨C,O⟩,h=>by subst C;subst O;exact h
 |_::_,_,_,_,_,_,⟨u,q,v,z,C,O,h3,h4⟩,h=>by subst C;subst O;exact⟨u,_,v,_,rfl,rfl,h3,h4.appC h⟩
theorem lU {ks:List Kd}{off:Nat}(h:off+Q.length<=ks.length):(PE ks off Q).length=ks.length:=by
 unfold PE;rw[ABM,ABM,Kd.joins_len _ _ (by simp;omega)];simp;omega
theorem AT.put_l {ok:Nat->Nat->Prop}{ks:List Kd}{off:Nat}{us:List U}(h:off+Q.length<=ks.length)(q:AT ok w ks us W):AT ok w (PE ks off Q) us W:=by
 have z:us=us.take off++(us.drop off).take Q.length++us.drop (off+Q.length):=by
  rw[ABj,<-AB4,ABw,ABw]
 have D:W=W.take off++(W.drop off).take Q.length++W.drop (off+Q.length):=by
  rw[ABj,<-AB4,ABw,ABw]
 rw[z,D];refine ((q.takeC off).appC (AT.join_l (by simp;omega) ((q.dropC off).takeC Q.length))).appC (q.dropC _)
theorem AT.put_r {ok:Nat->Nat->Prop}{ks:List Kd}{off:Nat}{us q:List U}{G:List Value}(h:off+Q.length<=ks.length)(z:AT ok w ks us W)(hd:AT ok w Q q G):AT ok w (PE ks off Q) (us.take off++q++us.drop (off+q.length)) (Bl W off G):=by
 unfold Bl;rw[hd.lenC.1,hd.lenC.2];exact ((z.takeC off).appC (AT.join_r (by simp;omega) hd)).appC (z.dropC _)
theorem A9.setC {ok:Nat->Nat->Prop}{ks af:List Kd}(z:∀us W,AT ok w ks us W->AT ok w af us W){E:List U}{q:List Value}(D:AT ok w af E q):∀{l:U'} {R:List (List Value)} (j:Nat),A9 ok w ks l R->A9 ok w af (l.set j E) (R.set j q)
 |[],_,j,h=>by rw[show _=[] from h];cases j<;>exact rfl
 |x::l,_,0,⟨W,vss',e,C,O⟩=>by
  subst e;have J:∀{l:U'} {R:List (List Value)},A9 ok w ks l R->A9 ok w af l R:=by
   intro l;induction l with
   |nil=>intro _ h;exact h
   |cons a l H=>rintro _ ⟨v,W,e,C,O⟩;exact⟨v,W,e,z _ _ C,H O⟩
  exact⟨q,vss',rfl,D,J O⟩
 |x::l,_,j+1,⟨W,vss',e,C,O⟩=>by
  subst e;exact⟨W,vss'.set j q,rfl,z _ _ C,A9.setC z D j O⟩
theorem O8 {k off:Nat}{G:List Value}(D:off+G.length<=k)(q:List Value):∀{R:List (List Value)} {j:Nat} {W:List Value},(∀v∈R,v.length=k)->R[j]? =some W->
  Bl (R.flatten++q) (j*k+off) G=(R.set j (Bl W off G)).flatten++q
 |[],_,_,_,h=>by simp at h
 |v::R,0,W,hl,h=>by
  simp at h;subst h;have:=hl v (by simp);unfold Bl;simp only[Nat.zero_mul,ABJ,ACH,ABj,List.set_cons_zero];rw[List.take_append_of_le_length (by omega),List.drop_append_of_le_length (by omega)]
 |v::R,j+1,W,hl,h=>by
  have z:=hl v (by simp);have H:=O8 D q (R:=R) (j:=j) (W:=W) (fun x E=>hl x (by simp[E])) (by simpa using h);simp only[ACH,ABj,List.set_cons_succ];rw[<-H];unfold Bl;rw[show (j+1)*k+off=v.length+(j*k+off) by rw[ABc,z];omega,Nat.add_assoc,List.take_length_add_append,List.drop_length_add_append];simp only[ABj]
theorem oO {n:Nat}(K:AH T n V m w){aj id b x y:Nat}{ks af:List Kd}{e:TypeId}{ae:U'}{A J:List Value}(D:m.at id= .mrow x y ks e)(hr: V id=some b)
  (hb:w.heap[b]? =some (.cells A.toArray e (0,0))) (b3:J.length=A.length) (hk:af.length=ks.length) (hT:T n= .list ae) (hy:T y= .int ae.length)
  (hv:∃W us,J=W++us/\Ah (Ag T V m w) w af ae W) (hn:n < aj):
  AI T n V m w V (m.set id (.mrow n y af e)) (w.setRow b J.toArray)/\AH T aj V (m.set id (.mrow n y af e)) (w.setRow b J.toArray):=by
 have H:m.at id≠ .pad:=by rw[D];exact fun h=>by cases h
 have E:=Gq m id (.mrow n y af e);have bm:(w.setRow b J.toArray).heap[b]? =some (.cells J.toArray e (0,0)):=setRow_heap w b A.toArray J.toArray e (0,0) hb;have aa:AI T n V m w V (m.set id (.mrow n y af e)) (w.setRow b J.toArray):={
  os:=rfl
  tape:=rfl
  output:=rfl
  size:=by simp
  mlen:=fun j h=>by rw[E j H];split<;>first|exact (fun h=>by cases h)|exact h
  rho:=fun j h=>by
   have z:j≠id:=fun e=>by subst e;rw[D] at h;cases h
   grind
  untr:=fun j h q=>by
   rw[E j H] at q;split at q
   .rename_i he;subst he;rw[D];rfl
   .exact q
  fresh:=fun j c h q hr=>by
   rw[E j H] at q;split at q
   .grind
   .rw[h] at q;cases q
  old:=fun k hk bl=>DH w b _ k (fun e=>bl id (by rw[D];rfl) (by rw[e];exact hr))
  tok:=fun j x ks e' h=>by
   have z:j≠id:=fun e=>by subst e;rw[D] at h;cases h
   refine .inl ⟨by rw[E j H,ACD z];exact h,rfl,fun c hc=>DH w b _ c (fun e=>?_)⟩;subst e;exact z (K.inj j id c (by rw[h];rfl) (by rw[D];rfl) hc hr)
  row:=fun j aZ y2 bs e2 h=>by
   by_cases z:j=id
   .grind
   .refine .inr ⟨aZ,y2,bs,by rw[E j H,ACD z];exact h,rfl,.inl ⟨rfl,rfl,fun c W hc hv=>⟨W,?_,rfl⟩⟩⟩;rw[DH w b _ c (fun e=>?_)]
    .exact hv
    .subst e;exact z (K.inj j id c (by rw[h];rfl) (by rw[D];rfl) hc hr) }
 have a3:=K.blk id;rw[D] at a3;obtain⟨⟨q1,q2⟩,l0,q3,q4,⟨q5,q6⟩,q7⟩:=a3;have bi:l0.length=ae.length:=by rw[hy] at q4;have:=U.int.inj q4;omega
 refine⟨aa,⟨fun j=>?_,fun j j' c q bo C O=>?_,fun b off h=>K.fr b off (ABS aa.size h)⟩⟩
 .by_cases z:j=id
  .subst z;rw[E j H,ACE rfl];obtain⟨W,us,e1,e2⟩:=hv;have bc:∀off,T.fr b off:=by
    grind
   refine⟨⟨hn,ABE q2 (by omega)⟩,ae,hT,hy,⟨by rw[<-bi];exact q5,fun h=>q6 (AB3.1 (by rw[<-hk,h];rfl))⟩,.inr ⟨b,W,us,hr,by rw[bm,e1],Ah.mono (fun _ _ h=>aa.safe0 h) e2,bc⟩⟩
  .by_cases q:(m.at j).tracked=true
   .refine BS.step aa K (by omega) (by rw[E j H,ACD z]) rfl (fun c hc=>DH w b _ c (fun e=>?_));subst e;exact z (K.inj j id c q (by rw[D];rfl) hc hr)
   .rw[E j H,ACD z];cases hx:m.at j with
    |pad=>trivial
    |gone=>trivial
    |cells=>rw[hx] at q;exact absurd rfl q
    |lp=>rw[hx] at q;exact absurd rfl q
    |tok=>rw[hx] at q;exact absurd rfl q
    |mrow=>rw[hx] at q;exact absurd rfl q
    |mapb=>rw[hx] at q;exact absurd rfl q
 .have tr:∀k,(Mem.at (m.set id (.mrow n y af e)) k).tracked=true->(m.at k).tracked=true:=fun k hk=>by
   rw[E k H] at hk;split at hk
   .rename_i he;subst he;rw[D];rfl
   .exact hk
  exact K.inj j j' c (tr j q) (tr j' bo) C O
theorem AT.ofC {n:Nat}(q:l.all AC.atom=true)(h:AF T n V m w l W):
  AT (Ag T V m w) w (l.map fun c=>(BX c).1) (l.map fun c=>(BX c).2.eval T) W:=by
 induction l generalizing W with
 |nil=>exact⟨rfl,h⟩
 |cons c l z=>
  obtain⟨u,us,rfl,C,O⟩:=h;simp only[List.all_cons,AA8] at q;exact⟨_,_,u,us,rfl,rfl,jq q.1 C,z q.2 O⟩
theorem A9.lens {ok:Nat->Nat->Prop}{ks:List Kd}:∀{l:U'} {R:List (List Value)},A9 ok w ks l R->R.length=l.length/\∀v∈R,v.length=ks.length
 |[],_,h=>by rw[show _=[] from h];simp
 |_::_,_,⟨W,vss',e,C,O⟩=>by
  subst e;obtain⟨z,E⟩:=O.lens;refine⟨by simp[z],fun v q=>?_⟩;cases q with
  |head=>exact C.lenC.1
  |tail _ q=>exact E v q
theorem A9.getC {ok:Nat->Nat->Prop}{ks:List Kd}:∀{l:U'} {R:List (List Value)} {j:Nat} {us:List U},A9 ok w ks l R->l[j]? =some us->∃W,R[j]? =some W/\AT ok w ks us W
 |[],_,_,_,_,hj=>by simp at hj
 |x::l,_,0,us,⟨W,vss',e,C,O⟩,hj=>by
  subst e;simp at hj;subst hj;exact⟨W,rfl,C⟩
 |x::l,_,j+1,us,⟨W,vss',e,C,O⟩,hj=>by
  subst e;obtain⟨v,h,q⟩:=A9.getC O (show l[j]? =some us by simpa using hj);exact⟨v,by simpa using h,q⟩
theorem tI {p:AC}{u:Value}(h:fp P t p c m g=some r)(bt:New T g.n r.us)(K:AH T g.n V m w)(hp:AA T g.n V m w p v)(hc:AA T g.n V m w c u):
  ∃ab,(Instr.storeAt t v u).run P w= .ok () ab/\AI T g.n V m w V r.m ab/\AH T (g.n+r.us.length) V r.m ab/\r.c= .any:=by
 unfold fp at h;simp only[ABA,AA7] at h;obtain⟨i,Y,aD,a9,h⟩:=h;split at h
 .rename_i J;have bs:=J;cases p<;>simp only at h
  case ptr id off=>
   obtain⟨b,E,rfl,_⟩:=hp;split at h
   .rename_i l e q;obtain⟨W,D,hl⟩:=BS.get K q E;split at h
    .rename_i bx;cases h;obtain⟨us,e1,H,e3,e4⟩:=DK a9 hc;have ad:=Of (aj:=g.n) K q E D (R1 hl H off i.size J) (ABB _);refine⟨_,?_,ad.1,ad.2,rfl⟩;simp only[Instr.storeAt,Instr.sureAddr,ABo,ABv,ABn];exact Lf Y b off e D e1 (by rw[H.length];exact J) (by rw[hl.length];exact bx) e4
    .cases h
   .cases h
  case pix id base B aE x an=>
   obtain⟨h0,b,j,E,hx,bo,c6,rfl,_⟩:=hp;split at h
   .rename_i l e d q;split at h
    .cases h
    .rename_i ad;simp only[AA7] at h;obtain⟨⟨ae,al⟩,b0,h⟩:=h;cases h;obtain⟨W,D,hl⟩:=BS.get K q E;obtain⟨y,e1,H,e3,_⟩:=fy a9 hc;have hh:=Tf K (aj:=g.n+al.length) (by omega) hx ad H bo hl aE g.n ae al b0 bt (ABB _);rw[ACE (by omega)] at hh;have cj:base+j.toNat*B+an < W.length:=by
      have cx:∀(ao n0:Nat) (ae:List AC) (al:List Ex),IR x d base B an l ao n0=some (ae,al)->∀k,k < ao->base+k*B+an < l.length:=by
       intro ao;induction ao with
       |zero=>intro _ _ _ _ k hk;omega
       |succ ao ih=>
        intro n0 ae al aa k hk;simp only[IR,ABA,AA7] at aa;obtain⟨⟨X,c0⟩,C,c7,O,_⟩:=aa;by_cases ch:k=ao
        .subst ch;exact (ABD.1 O).1
        .exact ih n0 X c0 C k (by omega)
      rw[hl.length];exact cx aE g.n ae al b0 j.toNat (by omega)
     have b1:=Of (aj:=g.n+al.length) K q E D hh (by omega);refine⟨_,?_,b1.1,b1.2,rfl⟩;simp only[Instr.storeAt,Instr.sureAddr,ABo,ABv,ABn];have bi:i.size=1:=by simpa using J.symm
     have:=Lf (P:=P) (w:=w) Y b (base+j.toNat*B+an) e (W:=[y]) (v:=u) D e1 (by simp[bi]) (by omega) (by intro z hz;simp at hz;rw[hz];exact e3);rw[this,oG cj]
   .cases h
  case mp id y t' sz off=>
   obtain⟨⟨h0,c3,c4⟩,j,L,b,ht,hy,⟨bo,c5⟩,rfl,hk⟩:=hp;split at h
   .rename_i x aF ks e q;split at h
    .rename_i cb;obtain⟨⟨rfl,bi⟩,bx⟩:=cb;cases h;have E:=hk x ks e q;have bl:=K.blk id;rw[q] at bl;obtain⟨_,l,q3,q4,⟨q5,q6⟩,q7⟩:=bl;have hL:L=l.length:=by rw[hy] at q4;exact U.int.inj q4
     have a4:j.toNat < l.length:=by omega
     rcases q7 with⟨_,q7⟩|⟨b',bk,a2,q7,D,⟨R,q8,q9⟩,_⟩
     .subst q7;simp at a4
     rw[E] at q7;cases q7;obtain⟨f,e1,H,e3,e4⟩:=DK a9 hc;obtain⟨vj,g1,au⟩:=q9.getC (ABC a4);obtain⟨X,ah⟩:=q9.lens;have b2:f.length=aD.length:=H.length;have cc:=AT.ofC e3 H;have bc:off+(aD.map fun c=>(BX c).1).length<=ks.length:=by simp;omega
     have ce:=O8 (k:=ks.length) (off:=off) (G:=f) (by omega) a2 ah g1;have ca:T g.n= .list (B7 l j.toNat off (aD.map fun c=>(BX c).2.eval T)):=by
      rw[bt.head];simp[Ex.eval,nc,u0,u1,Rf.eval,q3,ht,U.toL,U.toI,List.map_map];rfl
     have J:j.toNat*ks.length+off+f.length<=(bk++a2).length:=by
      have:=q9.lenC;rw[<-q8] at this;have ci:(j.toNat+1)*ks.length<=l.length*ks.length:=ABY _ a4;rw[ABc,Nat.one_mul] at ci;rw[ABM];omega
     have cl:(Bl (bk++a2) (j.toNat*ks.length+off) f).length=(bk++a2).length:=by
      unfold Bl;simp only[ABM,ABl,ABs] at J⊢;omega
     have cf:l.getD j.toNat []=l[j.toNat]:=by simp[List.getD,a4]
     have ad:=oO (aj:=g.n+1) (af:=PE ks off (aD.map fun c=>(BX c).1)) K q E D cl (lU bc) ca (by rw[hy,hL];simp[B7])
      ⟨(R.set j.toNat (Bl vj off f)).flatten,a2,by rw[q8];exact ce,_,rfl,by
       unfold B7;rw[cf];exact A9.setC (fun _ _ h=>AT.put_l bc h) (AT.put_r bc au cc) j.toNat q9⟩ (by omega)
     refine⟨_,?_,ad.1,ad.2,rfl⟩;simp only[Instr.storeAt,Instr.sureAddr,ABo,ABv,ABn];rw[<-bi];exact Lf Y b (j.toNat*ks.length+off) e D e1 (by rw[b2];exact bs) (by rw[<-bs,<-b2];exact J) e4
    .cases h
   .cases h
  all_goals cases h
 .cases h
theorem IG {i:TypeInfo}{z:Value}(Y:P.info? t=some i)(h:i.zero=some z):(zeroValue t).run P w= .ok z w:=by
 simp[zeroValue,typeInfo,Y,h]
theorem Qc (t:TypeId)(v:Value):(newVar t v).run P w= .ok ⟨w.heap.size,0,none⟩ (w.alloc (.cells v.cells t)):=by
 simp[newVar,newRow]
theorem ia (D:AH T g.n V m w)(z:AF T g.n V m w l W)(t:TypeId)(E:v.cells=W.toArray){run:Result Next}
  (q:run= .ok (.value (.pointer (some ⟨w.heap.size,0,none⟩))) (w.alloc (.cells v.cells t))):BK T g V m w run (Sa l t m):=by
 have h:=TU D z t;rw[E] at q;exact⟨_,_,_,.inl q,h.1,h.2.1.mono (by simp[Sa]),h.2.2.up h.2.1 (by simp[Sa])⟩
theorem pC (h:I8 P t m=some r)(D:AH T g.n V m w)(E:o.op= .alloc t):BK T g V m w ((execOp a.eval o).run P w) r:=by
 unfold I8 at h;simp only[ABA,AA7] at h;obtain⟨i,Y,z,H,l,q,h⟩:=h;cases h;obtain⟨W,C,O,_,_⟩:=DK q (MM (T:=T) (n:=g.n) (V := V) (m:=m) (w:=w) z);refine ia D O t C ?_;simp[execOp,E,Instr.alloc,IG Y H,Qc]
theorem yR {x:Operand}(h:uX t c m=some r)(z:AH T g.n V m w)(D:o.op= .box t x)(E:AA T g.n V m w c (a.eval x)):
  BK T g V m w ((execOp a.eval o).run P w) r:=by
 unfold uX at h;simp only[ABA,AA7] at h;obtain⟨l,q,h⟩:=h;cases h;obtain⟨W,C,O,_,_⟩:=DK q E;refine ia z O t C ?_;simp[execOp,D,Instr.box,Qc]
theorem Yp (cells:Array Value)(off:Nat):∀(W:List Value) (k:Nat),off+k+W.length<=cells.size->
  (W.zipIdx k).foldl (fun aD (p:Value × Nat)=>aD.setIfInBounds (off+p.2) p.1) cells=(Bl cells.toList (off+k) W).toArray
 |[],k,h=>by simp[Bl]
 |v::W,k,h=>by
  simp at h;simp only[List.zipIdx_cons,List.foldl_cons];have:=Yp (cells.setIfInBounds (off+k) v) off W (k+1) (by simp;omega);rw[this];simp only[Array.toList_setIfInBounds];rw[show off+(k+1)=off+k+1 by omega,Vh (by simp;omega)]
theorem eU (cells:Array Value)(off:Nat)(v:Value)(W:List Value)(q:v.cells=W.toArray)(h:off+W.length<=cells.size):
  v.cells.zipIdx.foldl (fun aD (c,j)=>aD.setIfInBounds (off+j) c) cells=(Bl cells.toList off W).toArray:=by
 rw[q,<-Array.foldl_toList];have:=Yp cells off W 0 (by omega);simpa using this
theorem cd {n:Nat}{ad:Nat->Option (Nat × Nat)}:∀{H:List (Nat × AC)} {f:List (Nat × Value)} {l ae:List AC} {W:List Value},Py ad l H=some ae->AF T n V m w l W->
  f.length=H.length->(∀(k i:Nat) (c:AC) (j:Nat) (v:Value),H[k]? =some (i,c)->f[k]? =some (j,v)->i=j/\AA T n V m w c v)->
  ∃D,Instr.fill ad W.toArray f=some (D:List Value).toArray/\AF T n V m w ae D
 |[],f,l,ae,W,h,hl,hlen,_=>by
  simp only[Py] at h;cases h;have:f=[]:=by simpa using hlen
  subst this;exact⟨W,rfl,hl⟩
 |(i,c)::H,[],_,_,_,_,_,hlen,_=>by simp at hlen
 |(i,c)::H,(j,v)::f,l,ae,W,h,hl,hlen,hh=>by
  obtain⟨rfl,hc⟩:=hh 0 i c j v rfl rfl;simp only[Py,ABA,AA7] at h;obtain⟨⟨off,size⟩,hp,aD,a0,h⟩:=h;split at h
  .rename_i z;obtain⟨us,E,J,_,_⟩:=DK a0 hc;have K:us.length=size:=by rw[J.length];exact z.1
   obtain⟨D,f1,f2⟩:=cd (f:=f) h (R1 hl J off size z.1) (by simpa using hlen) (fun k a b c d C O=>hh (k+1) a b c d (by simpa using C) (by simpa using O));refine⟨D,?_,f2⟩;simp only[Instr.fill,hp];rw[ACD]
   .rw[eU W.toArray off v us E (by simp;rw[K,hl.length];exact z.2)];exact f1
   .have h3:=hl.length;have h4:=z.2;intro q;simp only[E,AB6,ABe,decide_eq_true_eq] at q;rcases q with q|q
    .exact q K
    .omega
  .cases h
theorem ZB {aI:Operand->AC}{H:Array (Nat × Operand)}(h:VV P t (H.toList.map fun (i,x)=>(i,aI x)) m=some r)(hm:AH T g.n V m w)
  (ho:o.op= .build t H) (ba:∀x,AA T g.n V m w (aI x) (a.eval x)):BA T g V m w ((execOp a.eval o).run P w) r:=by
 unfold VV at h;simp only[ABA,AA7] at h;obtain⟨i,Y,z,hz,l,hl,h⟩:=h;obtain⟨W,C,O,_,_⟩:=DK hl (MM (T:=T) (n:=g.n) (V := V) (m:=m) (w:=w) z);have aw:∀ad ae,Py ad l (H.toList.map fun (i,x)=>(i,aI x))=some ae->∃q:List Value,Instr.fill ad z.cells (H.map fun (i,x)=>(i,a.eval x)).toList=some q.toArray/\AF T g.n V m w ae q:=by
  intro ad ae D;rw[C];refine cd D O (by simp) ?_;grind
 have al:∀q ae,AF T g.n V m w ae q->P.built t (H.map fun (i,x)=>(i,a.eval x)).toList=some (q:List Value).toArray->r={ c:= .agg ae,m }->BA T g V m w ((execOp a.eval o).run P w) r:=by
  intro q ae hh hb hr;subst hr;refine BA.same (v:= .agg q.toArray) ?_ hm rfl ⟨q,rfl,hh⟩;simp only[execOp,ho,ABo,run_build w t _ _ hb,ABn,ABv]
 split at h
 .rename_i k e K;simp only[AA7] at h;obtain⟨ie,a2,ae,D,h⟩:=h;obtain⟨q,E,J⟩:=aw _ _ D;exact al q ae J (by simp only[Program.built,Y,K,hz,a2,E]) (by cases h;rfl)
 .rename_i a9 K;simp only[AA7] at h;obtain⟨bc,a6,ae,D,h⟩:=h;obtain⟨q,E,J⟩:=aw _ _ D;exact al q ae J (by simp only[Program.built,Y,K,hz,a6,E]) (by cases h;rfl)
 .cases h
end
section
variable {P:Program}{T:Tab}{V :Nat->Option Nat}{m:Mem}{w:World}{g:G}{r:R}
variable{t s e:TypeId}{i:TypeInfo}{p aY x c:AC}{v u:Value}{k:IntKind}
theorem BL (Y:P.info? t=some i)(w:World):(sizeOf t).run P w= .ok i.size w:=by
 simp[sizeOf,typeInfo,Y]
theorem Ko {q:Array Field}{f:Nat}{h:Field}(D:P.underlying s=some (.struct q))(z:q[f]? =some h)(Y:P.info? h.type=some i)
  (E:i.size≠0) (b off:Nat):(Instr.fieldAt s (.pointer (some ⟨b,off,none⟩)) f).run P w= .ok (.pointer (some ⟨b,off+h.offset,none⟩)) w:=by
 simp[Instr.fieldAt,run_underlying D,z,Instr.sureAddr,fieldPlace,BL Y,E,CD]
theorem Le {f:Nat}(h:HA P s p f m=some r)(H:AA T g.n V m w p v):
  ∃u,(Instr.fieldAt s v f).run P w= .ok u w/\r.m=m/\r.us=[]/\AA T g.n V m w r.c u:=by
 unfold HA at h;split at h
 .rename_i ao J;simp only[ABA,AA7] at h;obtain⟨fd,E,i,Y,h⟩:=h;split at h
  .cases h
  .rename_i K;cases p<;>simp only at h
   case ptr id off=>
    cases h;obtain⟨b,C,rfl,q⟩:=H;exact⟨_,Ko J E Y K b off,rfl,rfl,b,C,rfl,q⟩
   case pix id base B aE x an=>
    cases h;obtain⟨z,b,j,C,O,q,h4,rfl,D⟩:=H;exact⟨_,Ko J E Y K b _,rfl,rfl,z,b,j,C,O,q,h4,by rw[Nat.add_assoc],D⟩
   case rp x t off ks=>
    cases h;obtain⟨z,j,b,o,us,C,O,q,rfl,D⟩:=H;exact⟨_,Ko J E Y K b _,rfl,rfl,z,j,b,o,us,C,O,q,by rw[Nat.add_assoc],D⟩
   case mp id y t sz off=>
    cases h;obtain⟨z,j,L,b,C,O,q,rfl,D⟩:=H;exact⟨_,Ko J E Y K b _,rfl,rfl,z,j,L,b,C,O,q,by rw[Nat.add_assoc],D⟩
   all_goals cases h
 .cases h
theorem Hf {len:Nat}(q:P.underlying t=some (.array len e))(Y:P.info? e=some i)(b off:Nat)(k:IntKind)(n:Int)(h:0<=n)(C:n < len):
  (Instr.indexAt t (.pointer (some ⟨b,off,none⟩)) (.int k n)).run P w= .ok (.pointer (some ⟨b,off+n.toNat*i.size,none⟩)) w:=by
 simp[Instr.indexAt,asIntOf,run_underlying q,Instr.sureAddr,BL Y,h,C,CD]
theorem Qd (q:P.underlying t=some (.slice e))(Y:P.info? e=some i)(b off len I:Nat)(k:IntKind)(n:Int)(h:0<=n)(C:n < len):
  (Instr.indexAt t (.slice (some ⟨b,off,none⟩) len I) (.int k n)).run P w= .ok (.pointer (some ⟨b,off+n.toNat*i.size,none⟩)) w:=by
 simp[Instr.indexAt,asIntOf,run_underlying q,BL Y,h,C,CD]
theorem Q8 {x:Nat}{q:List Ex}{n:Int}(h:TE g aY=some (x,q))(z:New T g.n q)(Y:AA T g.n V m w aY (.int k n)):
  x < g.n+q.length/\T x= .int n:=by
 cases aY<;>simp only[TE] at h<;>cases h
 case i=>
  obtain⟨D,j,C,O,_⟩:=Y;grind
 case ci=>
  have e:Value.int k n=_:=Y;cases e;exact⟨by simp,z.head⟩
theorem T3 (hu:P.underlying t=some (.slice e))(ao:P.info? e=some i){n:Int}{K:Rf}(a3:K.eval T= .int n)
  (h:Co.aIndexSl i.size p aY K m g=some r) (a1:New T g.n r.us) (a2:∀q∈r.ps,q.holds T) (E:AA T g.n V m w p v)
  (aw:AA T g.n V m w aY (.int k n)):∃y,(Instr.indexAt t v (.int k n)).run P w= .ok y w/\r.m=m/\AA T (g.n+r.us.length) V m w r.c y:=by
 unfold Co.aIndexSl at h;simp only[ABA,AA7] at h;obtain⟨⟨x,bo⟩,hx,h⟩:=h;have sl:∀y ks,y < g.n->AX (Ag T V m w) w (.list ks) (T y) v->i.size=ks.length->r={ c:= .rp y x 0 ks,m,us:=bo,ps:=[⟨ "inl",Xl,[K,.e y]⟩] }->
   ∃z,(Instr.indexAt t v (.int k n)).run P w= .ok z w/\r.m=m/\AA T (g.n+r.us.length) V m w r.c z:=by
  intro y ks hy bl H hr;subst hr;have J:=Q8 hx a1 aw;have D:=a2 ⟨ "inl",Xl,[K,.e y]⟩ (by simp);obtain⟨l,hl,_,_,a,I,rfl,_,h5⟩:=bl;simp only[Pr.holds,Xl,u0,u1,ABQ,ABk,a3,eve,hl,U.toI,U.toL] at D;obtain⟨b,o,rfl,h6⟩:=h5 (by omega);have a0:n.toNat < l.length:=by omega
  refine⟨_,Qd hu ao b o l.length I k n D.1 D.2,rfl,⟨by simp only;omega,J.1⟩,n,b,o,l[n.toNat],J.2,D.1,?_,?_,?_⟩
  .rw[hl];exact ABC a0
  .simp only[H,Nat.add_zero]
  .exact h6 n.toNat _ (ABC a0)
 cases p<;>simp only at h
 case ro y ks=>
  split at h
  .rename_i H;exact sl y ks E.1 E.2 H (by cases h;rfl)
  .cases h
 case vec id y ks=>
  split at h
  .rename_i H;exact sl y ks E.1 E.2.2.1 H (by cases h;rfl)
  .cases h
 case mr id y=>
  cases h;have J:=Q8 hx a1 aw;obtain⟨⟨h0,a9⟩,L,a,I,hy,⟨bx,b0⟩,rfl,⟨b1,hb⟩,hl⟩:=E;have D:=a2 ⟨ "in",pIn,[K,.e y]⟩ (by simp);simp only[Pr.holds,pIn,u0,u1,ABQ,ABk,a3,eve,hy,U.toI] at D;obtain⟨b,rfl⟩:=hb (by omega);refine⟨_,Qd hu ao b 0 L.toNat I k n D.1 (by omega),rfl,⟨by simp only;omega,J.1,a9⟩,n,L,b,J.2,hy,D,by simp,fun aZ bm e2 hk=>?_⟩;rcases hl aZ bm e2 hk with⟨_,b2⟩|⟨b',W,X,ah,_,_⟩
  .omega
  .cases ah;exact X
 all_goals cases h
theorem Li (h:Co P t p aY m g=some r)(aw:New T g.n r.us)(a0:∀q∈r.ps,q.holds T)(J:AA T g.n V m w p v)
  (al:AA T g.n V m w aY u):∃y,(Instr.indexAt t v u).run P w= .ok y w/\r.m=m/\AA T (g.n+r.us.length) V m w r.c y:=by
 unfold Co at h;simp only[ABA,AA7] at h;obtain⟨⟨k,am,Y,rn⟩,a4,h⟩:=h;obtain⟨n,rfl,a1,a9,a8⟩:=Bk a4 al;simp only at h;split at h
 .rename_i len e H;simp only[AA7] at h;obtain⟨i,E,h⟩:=h;split at h
  .cases h
  .rename_i hz;split at h
   .rename_i hc;obtain rfl:n=am:=by omega
    split at h
    .rename_i z;cases p<;>simp only at h
     case ptr id off=>
      cases h;obtain⟨b,C,rfl,D⟩:=J;exact⟨_,Hf H E b off k n z.1 z.2,rfl,b,C,rfl,D⟩
     case pix id base B aE x an=>
      cases h;obtain⟨K,b,j,C,O,D,h4,rfl,h5⟩:=J;exact⟨_,Hf H E b _ k n z.1 z.2,rfl,K,b,j,C,O,D,h4,by rw[Nat.add_assoc],h5⟩
     case rp x t off ks=>
      cases h;obtain⟨K,j,b,o,us,C,O,D,rfl,h5⟩:=J;exact⟨_,Hf H E b _ k n z.1 z.2,rfl,K,j,b,o,us,C,O,D,by rw[Nat.add_assoc],h5⟩
     case mp id y t sz off=>
      cases h;obtain⟨K,j,L,b,C,O,D,rfl,h5⟩:=J;exact⟨_,Hf H E b _ k n z.1 z.2,rfl,K,j,L,b,C,O,D,by rw[Nat.add_assoc],h5⟩
     all_goals cases h
    .cases h
   .cases p<;>simp only at h
    case ptr id off=>
     simp only[AA7] at h;obtain⟨⟨x,bc⟩,hx,h⟩:=h;cases h;obtain⟨b,C,rfl,D⟩:=J;have a2:=Q8 hx aw al;have z:0<=n/\n < (len:Int):=by
      by_cases hc:0<=am/\Y < len
      .omega
      .have:=a0 ⟨ "in",pIn,[rn,.c (.int len)]⟩ (by simp[hc]);simpa [Pr.holds,pIn,u0,u1,a1,evc,U.toI] using this
     exact⟨_,Hf H E b off k n z.1 z.2,rfl,a2.1,b,n,C,a2.2,z.1,z.2,rfl,D⟩
    all_goals cases h
 .rename_i e H;simp only[AA7] at h;obtain⟨i,E,h⟩:=h;split at h
  .rename_i hc;obtain rfl:n=am:=by omega
   split at h
   .rename_i id off len;split at h
    .rename_i z;cases h;obtain⟨b,C,rfl,D⟩:=J;exact⟨_,Qd H E b off len len k n z.1 z.2,rfl,b,C,rfl,D⟩
    .cases h
   .exact T3 H E a1 h aw a0 J al
  .exact T3 H E a1 h aw a0 J al
 .cases h
theorem UT {n:Nat}{l:List AC}{W:List Value}{off:Nat}(h:Eng.apart P t l off=some c)(z:AF T n V m w l W):
  ∃u,(part t W.toArray off).run P w= .ok u w/\AA T n V m w c u:=by
 unfold Eng.apart at h;simp only[ABA,AA7] at h;obtain⟨⟨size,a7⟩,aa,h⟩:=h;unfold E3 at aa;cases Y:P.info? t with
 |none=>rw[Y] at aa;simp at aa
 |some i=>
  cases q:P.underlying t with
  |none=>rw[Y,q] at aa;simp at aa
  |some d=>
   rw[Y,q] at aa;cases d<;>simp at aa<;>obtain⟨C,O⟩:=aa<;>subst O<;>subst C
   case struct E=>
    simp at h;obtain⟨D,h⟩:=h;subst h;refine⟨.agg ((W.drop off).take i.size).toArray,?_,_,rfl,(z.drop off).take i.size⟩;simp[part,isAgg,run_underlying q,BL Y,List.extract_eq_take_drop]
   case array k e=>
    simp at h;obtain⟨D,h⟩:=h;subst h;refine⟨.agg ((W.drop off).take i.size).toArray,?_,_,rfl,(z.drop off).take i.size⟩;simp[part,isAgg,run_underlying q,BL Y,List.extract_eq_take_drop]
   all_goals
    simp at h;obtain⟨u,C,O⟩:=z.get h;exact⟨u,by simp[part,isAgg,run_underlying q,C],O⟩
theorem Ru {f:Nat}(h:eS P s c f m=some r)(q:AA T g.n V m w c v):
  ∃u,(Instr.field s v f).run P w= .ok u w/\r.m=m/\r.us=[]/\AA T g.n V m w r.c u:=by
 unfold eS at h;split at h
 .rename_i J l E;simp only[ABA,AA7] at h;obtain⟨H,z,d,hd,h⟩:=h;cases h;obtain⟨W,rfl,D⟩:=q;obtain⟨u,C,O⟩:=UT (P:=P) hd D;exact⟨u,by simp[Instr.field,run_underlying E,z,asAgg,C],rfl,rfl,O⟩
 .cases h
theorem SO {len:Nat}(q:P.underlying t=some (.array len e))(Y:P.info? e=some i)(aD:Array Value)(k:IntKind)(n:Int)(h:0<=n)(C:n < len):
  (Instr.index t (.agg aD) (.int k n)).run P w=(part e aD (n.toNat*i.size)).run P w:=by
 simp[Instr.index,asIntOf,run_underlying q,BL Y,h,C]
theorem Rb (h:dJ P t x aY m g=some r)(a1:New T g.n r.us)(bl:∀q∈r.ps,q.holds T)(hx:AA T g.n V m w x v)
  (bc:AA T g.n V m w aY u):∃y,(Instr.index t v u).run P w= .ok y w/\r.m=m/\(AA T g.n V m w r.c y\/AA T (g.n+r.us.length) V m w r.c y):=by
 unfold dJ at h;simp only[ABA,AA7] at h;obtain⟨⟨k,am,Y,rn⟩,a0,h⟩:=h;obtain⟨n,rfl,bo,cj,ch⟩:=Bk a0 bc;simp only at h;split at h
 .rename_i len e l K;simp only[AA7] at h;obtain⟨i,aw,h⟩:=h;obtain⟨W,rfl,D⟩:=hx;split at h
  .rename_i E;obtain rfl:n=am:=by omega
   split at h
   .rename_i z;simp only[AA7] at h;obtain⟨d,hd,h⟩:=h;cases h;obtain⟨y,C,O⟩:=UT (P:=P) hd D;exact⟨y,by rw[SO K aw _ k n z.1 z.2];exact C,rfl,.inl O⟩
   .cases h
  .simp only[AA7] at h;obtain⟨⟨size,a7⟩,aa,h⟩:=h;simp only at h;split at h
   .rename_i a3;cases aY<;>simp only at h
    case i k' cu ci xi=>
     simp only[CO] at a0;cases a0;obtain⟨b8,aj,hT,ee,_⟩:=bc;cases ee;have bm:r.ps=(if 0<=am/\Y < len then [] else [⟨ "in",pIn,[.e xi,.c (.int len)]⟩])->0<=n/\n < (len:Int):=by
      intro a2;by_cases E:0<=am/\Y < len
      .omega
      .have:=bl ⟨ "in",pIn,[.e xi,.c (.int len)]⟩ (by rw[a2];simp[E]);simpa [Pr.holds,pIn,u0,u1,evc,eve,U.toI,hT] using this
     split at h
     .rename_i ao;subst ao;simp only[AA7] at h;obtain⟨M,a9,⟨ls,ca⟩,b6,h⟩:=h;cases h;have z:=bm rfl;have bi:n.toNat < len:=by omega
      have bk:=Vo a9 bi;rw[<-D.length] at bk;have b5:=WE (aj:=g.n+ca.length) a9 b6 a1 (ABB _) hT z.1 bi D bk;have J:CF P e=true/\∃ie,P.info? e=some ie/\ie.size=size:=by
       unfold E3 at aa;unfold CF;split at aa<;>cases aa<;>simp_all
      obtain⟨J,ie,ba,bb⟩:=J;refine⟨.agg ((W.drop (n.toNat*size)).take size).toArray,?_,rfl,.inr ⟨_,rfl,?_⟩⟩
      .rw[SO K aw _ k n z.1 z.2,a3];unfold CF at J;split at J
       .rename_i fs a4;simp[part,isAgg,run_underlying a4,BL ba,bb,List.extract_eq_take_drop]
       .rename_i cb cc a4;simp[part,isAgg,run_underlying a4,BL ba,bb,List.extract_eq_take_drop]
       .cases J
      .simpa using b5
     .rename_i ao;simp only[AA7] at h;obtain⟨aD,a8,h⟩:=h;have b1:a7=false:=by simpa using ao
      subst b1;have b7:=Mg aa rfl;subst b7;have a2:r.ps=if 0<=am/\Y < len then [] else [⟨ "in",pIn,[.e xi,.c (.int len)]⟩]:=by
       unfold La at h;split at h
       .split at h
        .cases h
        .cases h;rfl
       .split at h
        .cases h;rfl
        .cases h
      have z:=bm a2;have ad:=Qb a8 n.toNat (by omega);simp only[Nat.mul_one,ABJ,Nat.add_zero] at ad;have b4:∃c,l[n.toNat]? =some c:=by
       rw[<-ad];exact⟨_,ABC (by rw[(Ei _ _ _ a8).1];simp;omega)⟩
      obtain⟨c,E⟩:=b4;rw[E] at ad;have b2:Eng.apart P e l n.toNat=some c:=by
       unfold Eng.apart;simp[aa,E]
      obtain⟨y,C,O⟩:=UT (P:=P) b2 D;refine⟨y,by rw[SO K aw _ k n z.1 z.2,a3,Nat.mul_one];exact C,?_⟩;obtain⟨f1,_,f3⟩:=SF h a1 b8 hT z.1 ad O;exact⟨f1,.inr f3⟩
    all_goals cases h
   .cases h
 .rename_i y K;cases h;obtain⟨hy,s,aa,rfl,a3⟩:=hx;have C:=bl ⟨ "ins",m6,[.e y,rn]⟩ (by simp);simp only[Pr.holds,m6,ABQ,ABk,u0,u1,eve,aa,bo,U.toS,U.toI] at C;obtain⟨O,h3⟩:=C;have H:n.toNat < s.size:=by omega
  have hb:s[n.toNat]? =some (s[n.toNat]'H):=getElem?_pos s n.toNat H;refine⟨.int .u8 ((s[n.toNat]'H).toNat:Int),?_,rfl,.inr ⟨by simp,Br s n.toNat,?_,?_,?_,?_⟩⟩
  .simp[Instr.index,asIntOf,run_underlying K,ACE O,hb]
  .rw[a1.head];simp only[Ex.eval,ABQ,ABk,wW,u0,u1,eve,aa,bo,U.toS,U.toI]
  .have e:Br s n.toNat=((s[n.toNat]'H).toNat:Int):=by
    unfold Br;have D:n.toNat < s.data.toList.length:=by simpa using H
    rw[ABV,ABC D];rfl
   rw[e]
  .unfold Br;omega
  .unfold Br;have:=(s.data.toList.getD n.toNat 0).toNat_lt;omega
 .cases h
theorem OP {i:Nat}(h:QA x i m=some r)(D:AA T g.n V m w x v):
  ∃u,(Instr.extract v i).run P w= .ok u w/\r.m=m/\r.us=[]/\AA T g.n V m w r.c u:=by
 cases x<;>simp only[QA] at h
 case tup l=>
  simp only[ABU] at h;obtain⟨c,q,h⟩:=h;cases h;obtain⟨W,rfl,z⟩:=D;obtain⟨u,C,O⟩:=z.get q;exact⟨u,by simp[Instr.extract,C],rfl,rfl,O⟩
 all_goals cases h
theorem fe {op:UnOp}(h:aUn op x m g=some r)(J:New T g.n r.us)(q:AA T g.n V m w x v):
  ∃u,(Op.unary op v).run P w= .ok u w/\r.m=m/\AA T (g.n+r.us.length) V m w r.c u:=by
 cases op<;>simp only[aUn] at h
 case not=>
  cases x<;>simp only at h<;>cases h
  case cb=>rw[show v=_ from q];exact⟨_,rfl,rfl,rfl⟩
  case b=>
   obtain⟨E,b,C,rfl⟩:=q;exact⟨_,rfl,rfl,by simp;omega,b,C,rfl⟩
  case nb=>
   obtain⟨E,b,C,rfl⟩:=q;exact⟨_,rfl,rfl,by simp;omega,b,C,by simp⟩
 case neg=>
  simp only[ABA,AA7] at h;obtain⟨⟨k,am,Y,rn⟩,H,h⟩:=h;obtain⟨n,rfl,K,ao,al⟩:=Bk H q;cases h;have z:=LQ (T:=T) k (am:=0 - Y) (Y:=0 - am) (n:=0 - n) (e:=⟨ "neg",fh,[rn]⟩) (by simp[Ex.eval,fh,u0,K,U.toI]) (by omega) (by omega);refine⟨.int k (k.wrap (0 - n)),by simp[Op.unary,Op.intArith],K4,Hk J z.val z.lo z.hi (fun y D=>?_)⟩;unfold rng at D;split at D<;>cases D
 all_goals cases h
theorem jy {n:Nat}{am Y:Int}{r:Rf}(h:CO c=some (k,am,Y,r))(z:AA T n V m w c v):∀y,Vx.rf r= .rf (.e y)->y < n:=by
 intro y q;cases c<;>simp only[CO] at h<;>cases h
 .cases q
 .cases q;exact z.1
theorem Ow {z a3:TypeId}(h:VC P z a3 x m g=some r)(E:New T g.n r.us)(J:AA T g.n V m w x v):
  ∃u,(convert z a3 v).run P w= .ok u w/\r.m=m/\AA T (g.n+r.us.length) V m w r.c u:=by
 unfold VC at h;split at h
 .rename_i d k aa hd;simp only[ABA,AA7] at h;obtain⟨⟨k',am,Y,rn⟩,D,h⟩:=h;obtain⟨n,rfl,H,ad,K⟩:=Bk D J;have q:(convert z a3 (.int k' n)).run P w= .ok (.int k (k.wrap n)) w:=by
   simp only[convert,ABo,run_underlying aa,run_underlying hd,ABn];cases d<;>rfl
  simp only at h;split at h
  .rename_i hr;rw[E6 k n (by omega) (by omega)] at q;cases h;exact⟨_,q,K4,Hk E H ad K (jy D J)⟩
  .cases h;have:=EM k n;exact⟨_,q,K4,Hk E (by simp[Vx.eval,Ex.eval,Km,oId,u0,H,U.toI]) this.1 this.2 (fun y hy=>by cases hy)⟩
 .cases h
theorem VJ {k:Bool}{r:Rf}(h:Jk c=some (some k,r)):r= .c (.bool k):=by
 cases c<;>simp only[Jk] at h<;>cases h;rfl
theorem Ql {a b:AC}{J aT vb:Value}(h:aA c a b m g=some r)(a0:New T g.n r.us)(hm:AH T g.n V m w)(hc:AA T g.n V m w c J)
  (ha:J= .bool true->AA T g.n V m w a aT) (D:J= .bool false->AA T g.n V m w b vb):
  ∃q,J= .bool q/\r.m=m/\AA T (g.n+r.us.length) V m w r.c (if q then aT else vb):=by
 unfold aA at h;simp only[ABA,AA7] at h;obtain⟨⟨k,rq⟩,a3,h⟩:=h;obtain⟨q,rfl,E,H⟩:=EF a3 hc;refine⟨q,rfl,?_⟩;cases k with
 |some k=>
  have:=H k rfl;subst this;cases q with
  |true=>simp only at h;cases h;exact⟨rfl,(ha rfl).up hm (by simp)⟩
  |false=>simp only at h;cases h;exact⟨rfl,(D rfl).up hm (by simp)⟩
 |none=>
  simp only at h;split at h
  .rename_i ka ry kb rz hy hz;cases h;refine⟨TN,?_⟩;have a8:q=true->∃y,aT= .bool y/\ry.eval T= .bool y:=fun hq=>by
    obtain⟨y,K,z,_⟩:=EF hy (ha (by rw[hq]));exact⟨y,K,z⟩
   have a9:q=false->∃y,vb= .bool y/\rz.eval T= .bool y:=fun hq=>by
    obtain⟨y,K,z,_⟩:=EF hz (D (by rw[hq]));exact⟨y,K,z⟩
   cases q with
   |true=>
    obtain⟨y,rfl,z⟩:=a8 rfl;refine NZ a0 (fun _=>?_) (fun b D=>by cases D);split
    .rename_i H;subst H;have:=VJ hy;subst this;cases z;simp[Ex.eval,oOr,u0,u1,E,U.toB]
    .split
     .simp[Ex.eval,SM,u0,u1,E,z,U.toB]
     .simp[Ex.eval,nr,u0,u1,u2,E,z,U.toB]
   |false=>
    obtain⟨y,rfl,z⟩:=a9 rfl;refine NZ a0 (fun _=>?_) (fun b D=>by cases D);split
    .simp[Ex.eval,oOr,u0,u1,E,z,U.toB]
    .split
     .rename_i H;subst H;have:=VJ hz;subst this;cases z;simp[Ex.eval,SM,u0,u1,E,U.toB]
     .simp[Ex.eval,nr,u0,u1,u2,E,z,U.toB]
  .cases h
theorem MZ {D:Bool}{y:AC}(h:cX D x y m g=some r)(E:New T g.n r.us)(hx:AA T g.n V m w x v)(q:AA T g.n V m w y u)(ay:Array TypeId)(t:TypeId):
  ∃z,(if D then Builtin.max_ ay t #[v,u] else Builtin.min_ ay t #[v,u]).run P w= .ok z w/\r.m=m/\AA T (g.n+r.us.length) V m w r.c z:=by
 unfold cX at h;simp only[ABA,AA7] at h;obtain⟨⟨k,X,C,ax⟩,ao,⟨k',ah,O,aK⟩,aw,h⟩:=h;obtain⟨av,rfl,J,a1,b1⟩:=Bk ao hx;obtain⟨aB,rfl,K,a2,b2⟩:=Bk aw q;have aI:∀H f,(ex2 H f ax aK).eval T= .int (f av aB):=fun H f=>by simp[ex2,Ex.eval,o2,u0,u1,J,K,U.toI]
 simp only at h;split at h
 .rename_i hk;subst hk;cases D with
  |true=>
   simp only[if_true] at h⊢;cases h;refine⟨.int k (XT av aB),?_,K4,Hk E (aI _ _) (by simp[XT];omega) (by simp[XT];omega) (fun y q=>by cases q)⟩;rw[run_max_int2];simp only[XT];congr 2;split<;>omega
  |false=>
   simp only[if_false,ABW] at h⊢;cases h;refine⟨.int k (Xb av aB),?_,K4,Hk E (aI _ _) (by simp[Xb];omega) (by simp[Xb];omega) (fun y q=>by cases q)⟩;rw[run_min_int2];simp only[Xb];congr 2;split<;>omega
 .cases h
theorem Rk {u:U}(h:u.toB=true):u= .bool true:=by
 cases u<;>simp[U.toB] at h;rw[h]
theorem Sj {a:Act}{o:Oper}{y:Operand}(h:GY x m=some r)(ao:∀q∈r.ps,q.holds T)(K:AH T g.n V m w)(ho:o.op= .nilCheck y)
  (hv:a.eval y=v) (J:AA T g.n V m w x v):BA T g V m w ((execOp a.eval o).run P w) r:=by
 have ad:∀b off,v= .pointer (some ⟨b,off,none⟩)->(execOp a.eval o).run P w= .ok (.value v) w:=by
  intro b off e;simp[execOp,ho,hv,e]
 unfold GY at h;split at h
 .rename_i c id off;cases h;have hc:T c= .bool true:=Rk (ao ⟨ "t",pT,[.e c]⟩ (by simp));have:=J.2 hc;obtain⟨b,C,O,z⟩:=this;exact BA.same (ad _ _ O) K rfl ⟨b,C,O,z⟩
 .rename_i c x t off ks;cases h;have hc:T c= .bool true:=Rk (ao ⟨ "t",pT,[.e c]⟩ (by simp));have:=J.2 hc;obtain⟨E,j,b,o',us,C,O,z,D,H⟩:=this;exact BA.same (ad _ _ D) K rfl ⟨E,j,b,o',us,C,O,z,D,H⟩
 .rename_i c id y t sz off;cases h;have hc:T c= .bool true:=Rk (ao ⟨ "t",pT,[.e c]⟩ (by simp));have:=J.2 hc;obtain⟨E,j,L,b,C,O,z,D,H⟩:=this;exact BA.same (ad _ _ D) K rfl ⟨E,j,L,b,C,O,z,D,H⟩
 .cases h;obtain⟨b,C,O,z⟩:=J;exact BA.same (ad _ _ O) K rfl ⟨b,C,O,z⟩
 .cases h;obtain⟨E,b,j,C,O,z,h4,D,H⟩:=J;exact BA.same (ad _ _ D) K rfl ⟨E,b,j,C,O,z,h4,D,H⟩
 .cases h;obtain⟨E,j,b,o',us,C,O,z,D,H⟩:=J;exact BA.same (ad _ _ D) K rfl ⟨E,j,b,o',us,C,O,z,D,H⟩
 .cases h;obtain⟨E,j,L,b,C,O,z,D,H⟩:=J;exact BA.same (ad _ _ D) K rfl ⟨E,j,L,b,C,O,z,D,H⟩
 .cases h;have a3:=J;obtain⟨W,us,C,O,z⟩:=J;refine BA.same ?_ K rfl a3;simp[execOp,ho,hv,C]
 .cases h
end
inductive KE:List Ek->List Value->List Value->Bool->Prop where
 |nil:KE [] [] [] true
 |int {ks us vs r} (k:IntKind) (a b:Int):KE ks us vs r->KE (.int::ks) (.int k a::us) (.int k b::vs) ((a==b)&&r)
 |bool {ks us vs r} (a b:Bool):KE ks us vs r->KE (.bool::ks) (.bool a::us) (.bool b::vs) ((a==b)&&r)
 |str {ks us vs r} (a b:ByteArray):KE ks us vs r->KE (.str::ks) (.string a::us) (.string b::vs) (decide (a=b)&&r)
theorem JO (a b:ByteArray):(a.toList==b.toList)=decide (a=b):=by
 by_cases h:a=b
 .subst h;simp
 .rw[decide_eq_false h,beq_eq_false_iff_ne];intro q;refine h ?_;have:a.data.toList=b.data.toList:=by simpa [ByteArray.toList_eq] using q
  cases a;cases b;simp at this;rw[this]
theorem KE.length {ks us W r}(h:KE ks us W r):us.length=ks.length/\W.length=ks.length:=by
 induction h with
 |nil=>simp
 |int _ _ _ _ q=>simp[q]
 |bool _ _ _ q=>simp[q]
 |str _ _ _ q=>simp[q]
theorem KE.split:∀{k1 E us W r},KE (k1++E) us W r->∃ax aK,KE k1 (us.take k1.length) (W.take k1.length) ax/\KE E (us.drop k1.length) (W.drop k1.length) aK/\r=(ax&&aK)
 |[],E,us,W,r,h=>⟨true,r,.nil,h,by simp⟩
 |k::k1,E,us,W,r,h=>by
  cases h with
  |int ao a b h=>
   obtain⟨ax,aK,C,O,rfl⟩:=KE.split h;exact⟨(a==b)&&ax,aK,.int ao a b C,O,by rw[Bool.and_assoc]⟩
  |bool a b h=>
   obtain⟨ax,aK,C,O,rfl⟩:=KE.split h;exact⟨(a==b)&&ax,aK,.bool a b C,O,by rw[Bool.and_assoc]⟩
  |str a b h=>
   obtain⟨ax,aK,C,O,rfl⟩:=KE.split h;exact⟨decide (a=b)&&ax,aK,.str a b C,O,by rw[Bool.and_assoc]⟩
section
variable {P:Program}{T:Tab}{V :Nat->Option Nat}{m:Mem}{w:World}{g:G}{r:R}
def A6 (P:Program)(t:TypeId)(us:List Value):Value:=
 match P.underlying t with
 |some (.struct _)|some (.array _ _)=> .agg us.toArray
 |_=>us.headD undef
theorem J4 {t:TypeId}{ks:List Ek}{d:Nat}(q:Bs P d t=some ks)(aa:P.cellsOf t=ks.length)(us:List Value)(off:Nat)(z:off+ks.length<=us.length):
  (part t us.toArray off).run P w= .ok (A6 P t ((us.drop off).take ks.length)) w:=by
 have size:(∃i,P.info? t=some i)->(sizeOf t).run P w= .ok ks.length w:=by
  rintro⟨i,Y⟩;rw[BL Y];simp[Program.cellsOf,Y] at aa;rw[aa]
 have E:∀D,P.underlying t=some D->∃i,P.info? t=some i:=by
  intro D h;cases Y:P.info? t with
  |some i=>exact⟨i,rfl⟩
  |none=>simp[Program.underlying,Y] at h
 cases d with
 |zero=>cases q
 |succ d=>
  simp only[Bs] at q;split at q
  .rename_i h;cases q;have:off < us.length:=by simp at z;omega
   have e:(us.drop off).take 1=[us[off]]:=by
    rw[List.drop_eq_getElem_cons this];rfl
   simp[part,isAgg,run_underlying h,A6,h,this,e]
  .rename_i k h;cases q;have:off < us.length:=by simp at z;omega
   have e:(us.drop off).take 1=[us[off]]:=by
    rw[List.drop_eq_getElem_cons this];rfl
   simp[part,isAgg,run_underlying h,A6,h,this,e]
  .rename_i h;cases q;have:off < us.length:=by simp at z;omega
   have e:(us.drop off).take 1=[us[off]]:=by
    rw[List.drop_eq_getElem_cons this];rfl
   simp[part,isAgg,run_underlying h,A6,h,this,e]
  .rename_i H h;simp[part,isAgg,run_underlying h,A6,h,size (E _ h),List.extract_eq_take_drop]
  .rename_i n e h;simp[part,isAgg,run_underlying h,A6,h,size (E _ h),List.extract_eq_take_drop]
  .cases q
theorem Td {d D:Nat}(ih:∀(t:TypeId) (ks:List Ek) (us W:List Value) (q:Bool),Bs P d t=some ks->KE ks us W q->(Op.equalIn D t (A6 P t us) (A6 P t W)).run P w= .ok q w)
  (U z:List Value):∀(H:List Field) (off:Nat) (ks:List Ek) (q:Bool),G9 P (Bs P d) H off=some ks->KE ks (U.drop off) (z.drop off) q->off+ks.length<=U.length->off+ks.length<=z.length->
  (Op.eqFields D U.toArray z.toArray H).run P w= .ok q w
 |[],off,ks,q,h,hk,_,_=>by
  simp only[G9] at h;cases h;cases hu:U.drop off<;>cases hv:z.drop off<;>rw[hu,hv] at hk<;>cases hk;simp[Op.eqFields]
 |f::H,off,ks,q,h,hk,hU,hV=>by
  simp only[G9,ABA] at h;split at h
  .rename_i hc;simp only[AA7] at h;obtain⟨k1,C,h⟩:=h;split at h
   .rename_i K;simp only[AA7] at h;obtain⟨E,O,h⟩:=h;cases h;simp only[ABM] at hU hV;obtain⟨q1,q2,e1,J,rfl⟩:=hk.split;rw[AB4,AB4] at J;have a2:=Td ih U z H (off+k1.length) E q2 O J (by omega) (by omega);obtain⟨rfl,hn⟩:=hc;simp only[Op.eqFields,hn,ne_eq,not_false_eq_true,if_true,ABo,J4 C K U f.offset (by omega),J4 C K z f.offset (by omega),ABn,ih f.type k1 _ _ q1 C e1];cases q1 with
    |true=>simpa using a2
    |false=>simp
   .cases h
  .cases h
theorem Vp {d D:Nat}{e:TypeId}{h:List Ek}(C:Bs P d e=some h)(E:P.cellsOf e=h.length)
  (K:∀(us W:List Value) (q:Bool),KE h us W q->(Op.equalIn D e (A6 P e us) (A6 P e W)).run P w= .ok q w)
  (U z:List Value):∀(n s:Nat) (q:Bool),KE (List.replicate n h).flatten (U.drop (s*h.length)) (z.drop (s*h.length)) q->(s+n)*h.length<=U.length->(s+n)*h.length<=z.length->
  (Op.eqItems D e (P.cellsOf e) U.toArray z.toArray (List.range' s n)).run P w= .ok q w
 |0,s,q,hk,_,_=>by
  simp only[List.replicate_zero,List.flatten_nil] at hk;cases hu:U.drop (s*h.length)<;>cases hv:z.drop (s*h.length)<;>rw[hu,hv] at hk<;>cases hk;simp[Op.eqItems]
 |n+1,s,q,hk,hU,hV=>by
  simp only[List.replicate_succ,ACH] at hk;obtain⟨q1,q2,e1,H,rfl⟩:=hk.split;rw[AB4,AB4,show s*h.length+h.length=(s+1)*h.length by rw[ABc,Nat.one_mul]] at H;have b1:s*h.length+h.length<=U.length:=by
   have:(s+1)*h.length<=(s+(n+1))*h.length:=ABY _ (by omega);rw[ABc,Nat.one_mul] at this;omega
  have b2:s*h.length+h.length<=z.length:=by
   have:(s+1)*h.length<=(s+(n+1))*h.length:=ABY _ (by omega);rw[ABc,Nat.one_mul] at this;omega
  have J:=Vp C E K U z n (s+1) q2 H (by rw[show s+1+n=s+(n+1) by omega];exact hU) (by rw[show s+1+n=s+(n+1) by omega];exact hV);simp only[List.range'_succ,Op.eqItems,ABo,E,J4 C E U (s*h.length) b1,J4 C E z (s*h.length) b2,ABn,K _ _ q1 e1];rw[E] at J;cases q1 with
  |true=>simpa using J
  |false=>simp
theorem L7:∀(d D:Nat) (t:TypeId) (ks:List Ek) (us W:List Value) (q:Bool),d<=D->Bs P d t=some ks->KE ks us W q->
  (Op.equalIn D t (A6 P t us) (A6 P t W)).run P w= .ok q w
 |0,_,_,_,_,_,_,_,h,_=>by cases h
 |d+1,0,_,_,_,_,_,hd,_,_=>by omega
 |d+1,D+1,t,ks,us,W,q,hd,h,E=>by
  simp only[Bs] at h;split at h
  .rename_i z;cases h;cases E with
   |bool a b E=>
    cases E;simp[A6,z,run_equalIn_bool w D t a b z]
  .rename_i k z;cases h;cases E with
   |int k' a b E=>
    cases E;simp only[A6,z,List.headD_cons];rw[run_equalIn_int w D t k' k a b z];simp
  .rename_i z;cases h;cases E with
   |str a b E=>
    cases E;simp only[A6,z,List.headD_cons];rw[run_equalIn_string w D t a b z];simp[JO]
  .rename_i J z;split at h
   .cases h
   .rename_i ad;have H:=E.length;have K:P.fieldsOf t=J:=by simp[Program.fieldsOf,z]
    simp only[A6,z];rw[run_equalIn_struct w D t us.toArray W.toArray (by rw[K];exact z) (by simpa using ad),K];exact Td (d:=d) (D:=D) (fun t ks us W q C O=>L7 d D t ks us W q (by omega) C O) us W J.toList 0 ks q h (by simpa using E) (by omega) (by omega)
  .rename_i n e z;simp only[ABA,AA7] at h;obtain⟨k1,C,h⟩:=h;split at h
   .rename_i al;cases h;have H:=E.length;have Y:∃i,P.info? e=some i:=by
     cases Y:P.info? e with
     |some i=>exact⟨i,rfl⟩
     |none=>
      cases d with
      |zero=>cases C
      |succ d=>simp[Bs,Program.underlying,Y] at C
    obtain⟨i,Y⟩:=Y;simp only[A6,z];rw[run_equalIn_array w D us.toArray W.toArray z Y,List.range_eq_range'];refine Vp C al (fun us W q O=>L7 d D e k1 us W q (by omega) C O) us W n 0 q (by simpa using E) ?_ ?_
    .rw[H.1];simp
    .rw[H.2];simp
   .cases h
  .cases h
theorem Jt {n:Nat}{c:AC}{v:Value}{k:Option ByteArray}{r:Rf}(q:UX c=some (k,r))(h:AA T n V m w c v):
  ∃i,v= .string i/\r.eval T= .str i/\∀b,k=some b->i=b:=by
 cases c<;>simp only[UX] at q
 case s x=>
  cases q;obtain⟨D,i,C,O,_⟩:=h;exact⟨i,O,C,fun b z=>by cases z⟩
 case cv c=>
  cases c<;>simp only at q
  case str s=>
   split at q
   .cases q;exact⟨s,h,rfl,fun b z=>by cases z;rfl⟩
   .cases q
  all_goals cases q
 all_goals cases q
theorem bA:∀(l ae:List U),l.length % 2=0->GI (l++ae)=(GI l&&GI ae)
 |[],ae,_=>by simp[GI]
 |[_],_,h=>by simp at h
 |a::b::l,ae,h=>by
  simp only[List.cons_append,GI];rw[bA l ae (by simp at h;omega),Bool.and_assoc]
theorem dz {n:Nat}{c d:AC}{u v:Value}{k:Option Bool}{ai:List Rf}(h:ceq c d=some (k,ai))(K:AA T n V m w c u)(hd:AA T n V m w d v):
  ∃b,((∃ao x y,u= .int ao x/\v= .int ao y/\b=(x==y))\/(∃x y,u= .bool x/\v= .bool y/\b=(x==y))\/(∃x y,u= .string x/\v= .string y/\b=decide (x=y)))/\(∀q,k=some q->b=q)/\(k=none->GI (ai.map (Rf.eval T))=b/\ai.length % 2=0):=by
 unfold ceq at h;split at h
 .rename_i k1 X C av E ah O aB z D;split at h
  .rename_i hk;subst hk;obtain⟨x,rfl,H,a1,b1⟩:=Bk z K;obtain⟨y,rfl,J,a2,b2⟩:=Bk D hd;refine⟨x==y,.inl ⟨_,_,_,rfl,rfl,rfl⟩,?_⟩;split at h
   .rename_i he;have:=AC.beq_eq _ _ he;grind
   .split at h
    .grind
    .cases h;refine⟨fun q hq=>(by cases hq),fun _=>⟨?_,by simp⟩⟩;simp[GI,U.eqv,H,J];rfl
  .cases h
 .split at h
  .rename_i x rx y ry z D;cases h;obtain⟨L,rfl,H,q1⟩:=EF z K;obtain⟨aF,rfl,J,q2⟩:=EF D hd;grind
  .rename_i kx rx ky ry _ z D;obtain⟨L,rfl,H,_⟩:=EF z K;obtain⟨aF,rfl,J,_⟩:=EF D hd;refine⟨L==aF,.inr (.inl ⟨_,_,rfl,rfl,rfl⟩),?_⟩;split at h
   .rename_i he;have:=AC.beq_eq _ _ he;grind
   .cases h;exact⟨fun q hq=>(by cases hq),fun _=>⟨by simp[GI,U.eqv,H,J],by simp⟩⟩
  .split at h
   .rename_i x rx y ry z D;cases h;obtain⟨L,rfl,H,q1⟩:=Jt z K;obtain⟨aF,rfl,J,q2⟩:=Jt D hd;grind
   .rename_i kx rx ky ry _ z D;obtain⟨L,rfl,H,_⟩:=Jt z K;obtain⟨aF,rfl,J,_⟩:=Jt D hd;refine⟨decide (L=aF),.inr (.inr ⟨_,_,rfl,rfl,rfl⟩),?_⟩;split at h
    .rename_i he;have:=AC.beq_eq _ _ he;grind
    .cases h;exact⟨fun q hq=>(by cases hq),fun _=>⟨by simp[GI,U.eqv,H,J],by simp⟩⟩
   .cases h
theorem io {n:Nat}:∀{ks:List Ek} {l ae:List AC} {xs ap:List Value} {k:Option Bool} {ai:List Rf},aZ l ae=some (k,ai)->St ks l=true->
  AF T n V m w l xs->AF T n V m w ae ap->∃b,KE ks xs ap b/\(∀q,k=some q->b=q)/\(k=none->GI (ai.map (Rf.eval T))=b/\ai.length % 2=0)
 |ks,[],[],xs,ap,k,ai,h,hk,hx,hy=>by
  simp only[aZ] at h;cases h;cases ks with
  |nil=>rw[show xs=[] from hx,show ap=[] from hy];exact⟨true,.nil,fun q H=>(by cases H;rfl),fun h=>(by cases h)⟩
  |cons=>cases hk
 |ks,[],_::_,_,_,_,_,h,_,_,_=>by cases h
 |ks,_::_,[],_,_,_,_,h,_,_,_=>by cases h
 |ks,c::l,d::ae,xs,ap,k,ai,h,hk,⟨x,xs',ex,hc,hl⟩,⟨y,ys',ey,hd,hl'⟩=>by
  subst ex;subst ey;cases ks with
  |nil=>cases hk
  |cons ao ks=>
   simp only[St,AA8] at hk;simp only[aZ,ABA,AA7] at h;obtain⟨⟨k1,ax⟩,C,⟨E,aK⟩,O,h⟩:=h;obtain⟨b1,e1,e2,K⟩:=dz C hc hd;obtain⟨b2,f1,f2,f3⟩:=io O hk.2 hl hl';have ke:KE (ao::ks) (x::xs') (y::ys') (b1&&b2):=by
    have J:=hk.1;rcases e1 with⟨ik,p,q,rfl,rfl,rfl⟩|⟨p,q,rfl,rfl,rfl⟩|⟨p,q,rfl,rfl,rfl⟩<;>cases ao<;>simp only[ekOk,Option.isSome_iff_exists] at J
    case inl.int=>exact .int ik p q f1
    case inr.inl.bool=>exact .bool p q f1
    case inr.inr.str=>exact .str p q f1
    case inl.bool=>obtain⟨⟨z,z'⟩,D⟩:=J;obtain⟨_,this,_⟩:=(EF D hc);cases this
    case inr.inr.bool=>obtain⟨⟨z,z'⟩,D⟩:=J;obtain⟨_,this,_⟩:=(EF D hc);cases this
    case inl.str=>obtain⟨⟨z,z'⟩,D⟩:=J;obtain⟨_,this,_⟩:=(Jt D hc);cases this
    case inr.inl.str=>obtain⟨⟨z,z'⟩,D⟩:=J;obtain⟨_,this,_⟩:=(Jt D hc);cases this
    case inr.inl.int=>obtain⟨⟨z1,z2,z3,z4⟩,D⟩:=J;obtain⟨_,this,_⟩:=(Bk D hc);cases this
    case inr.inr.int=>obtain⟨⟨z1,z2,z3,z4⟩,D⟩:=J;obtain⟨_,this,_⟩:=(Bk D hc);cases this
   refine⟨_,ke,?_⟩;simp only at h;split at h
   .cases h;rw[e2 false rfl];exact⟨fun q H=>(by cases H;rfl),fun h=>(by cases h)⟩
   .cases h;rw[f2 false rfl];exact⟨fun q H=>(by cases H;simp),fun h=>(by cases h)⟩
   .cases h;rw[e2 true rfl,Bool.true_and];exact⟨f2,f3⟩
   .cases h;rw[f2 true rfl];exact⟨fun q H=>(by cases H),fun _=>by simpa using K rfl⟩
   .cases h;refine⟨fun q H=>(by cases H),fun _=>⟨?_,?_⟩⟩
    .rw[ABI,bA _ _ (by simpa using (K rfl).2),(K rfl).1,(f3 rfl).1]
    .have:=(K rfl).2;have:=(f3 rfl).2;simp;omega
end
section
variable {P:Program}{T:Tab}{n aj:Nat}{V ac:Nat->Option Nat}{m ag:Mem}{w ab:World}{g:G}{r:R}
theorem AT.len {ok:Nat->Nat->Prop}:∀{ks:List Kd} {us:List U} {W:List Value},AT ok w ks us W->W.length=ks.length/\us.length=ks.length
 |[],_,_,⟨C,O⟩=>by subst C;subst O;exact⟨rfl,rfl⟩
 |k::ks,_,_,⟨u,us',v,vs',C,O,_,h4⟩=>by subst C;subst O;have:=h4.len;simp[this]
theorem AT.ones {ok:Nat->Nat->Prop}:∀{ks:List Kd} {us:List U} {W:List Value},AT ok w ks us W->∀v∈W,v.oneCell'=true
 |[],_,_,⟨C,O⟩=>by subst O;simp
 |k::ks,_,_,⟨u,us',v,vs',C,O,h3,h4⟩=>by
  subst O;intro x h;cases h with
  |head=>exact h3.one
  |tail _ h=>exact h4.ones x h
theorem Al.cells {ok:Nat->Nat->Prop}:∀{ks:List Kd} {b off:Nat} {us:List U},Al ok w ks b off us->∃W,AT ok w ks us W/\∀j v,W[j]? =some v->w.cell? ⟨b,off+j,none⟩=some v
 |[],_,_,us,h=>⟨[],⟨h,rfl⟩,fun j v q=>by simp at q⟩
 |k::ks,b,off,us,⟨u,us',e,⟨_,v,O,h3⟩,h4⟩=>by
  obtain⟨W,z,E⟩:=Al.cells h4;refine⟨v::W,⟨u,us',v,W,e,rfl,h3,z⟩,fun j x q=>?_⟩;cases j with
  |zero=>simp at q;subst q;exact O
  |succ j=>
   have:=E j x (by simpa using q);rwa [show off+1+j=off+(j+1) by omega] at this
theorem AT.holds {ok N:Nat->Nat->Prop}(q:∀b off,ok b off->N b off/\ab.cell? ⟨b,off,none⟩=w.cell? ⟨b,off,none⟩){b:Nat}:∀{ks:List Kd} {us:List U} {W:List Value} {off:Nat},AT ok w ks us W->
  (∀p,p < ks.length->N b (off+p)/\ab.cell? ⟨b,off+p,none⟩=W[p]?)->Al N ab ks b off us
 |[],_,_,_,⟨C,_⟩,_=>C
 |k::ks,_,_,off,⟨u,us',v,vs',C,O,h3,h4⟩,hb=>by
  have h:=hb 0 (by simp);subst O;refine⟨u,us',C,⟨h.1,v,by simpa using h.2,AX.mono q k u v h3⟩,AT.holds q h4 (fun p z=>?_)⟩;have:=hb (p+1) (by simp;omega);rw[show off+1+p=off+(p+1) by omega];simpa using this
theorem A9.len {ok:Nat->Nat->Prop}{ks:List Kd}:∀{l:U'} {R:List (List Value)},A9 ok w ks l R->R.flatten.length=l.length*ks.length/\R.length=l.length
 |[],_,h=>by rw[show _=[] from h];simp
 |_::_,_,⟨W,vss',e,C,O⟩=>by
  subst e;have:=O.len;have:=C.len;simp[*,ABc];omega
variable{l:U'}{W:List Value}{af:List Kd}{e:TypeId}{aG:World}{A:Array Value}{I:Nat}
theorem Ah.len {ok:Nat->Nat->Prop}{ks:List Kd}(h:Ah ok w ks l W):W.length=l.length*ks.length:=by
 obtain⟨R,rfl,h⟩:=h;exact h.len.1
theorem Ah.nil (ok:Nat->Nat->Prop)(ks:List Kd):Ah ok w ks [] []:=⟨[],rfl,rfl⟩
theorem A9.ones {ok:Nat->Nat->Prop}{ks:List Kd}:∀{l:U'} {R:List (List Value)},A9 ok w ks l R->∀v∈R.flatten,v.oneCell'=true
 |[],_,h=>by rw[show _=[] from h];simp
 |_::_,_,⟨W,vss',e,C,O⟩=>by
  subst e;intro x q;simp only[ACH,ABm] at q;rcases q with q|q
  .exact C.ones x q
  .exact O.ones x q
theorem Ah.ones {ok:Nat->Nat->Prop}{ks:List Kd}(h:Ah ok w ks l W):∀v∈W,v.oneCell'=true:=by
 obtain⟨R,rfl,h⟩:=h;exact h.ones
theorem Ah.of_holds {ok:Nat->Nat->Prop}{ks:List Kd}{b:Nat}:∀{l:U'} {o:Nat},(∀i us,l[i]? =some us->Al ok w ks b (o+i*ks.length) us)->
  ∃W,Ah ok w ks l W/\∀j v,W[j]? =some v->w.cell? ⟨b,o+j,none⟩=some v
 |[],_,_=>⟨[],Ah.nil _ _,fun j v h=>by simp at h⟩
 |us::l,o,h=>by
  obtain⟨W,z,E⟩:=(h 0 us rfl).cells;obtain⟨_,⟨R,rfl,C⟩,O⟩:=Ah.of_holds (l:=l) (o:=o+ks.length) (fun i x Y=>by
   have:=h (i+1) x (by simpa using Y);rwa [show o+ks.length+i*ks.length=o+(i+1)*ks.length by rw[ABc];omega])
  refine⟨W++R.flatten,⟨W::R,rfl,W,R,rfl,z,C⟩,fun j v q=>?_⟩;have H:=z.len.1;by_cases D:j < W.length
  .rw[ABO D] at q;simpa using E j v q
  .rw[ABP (by omega)] at q;have:=O _ v q;rwa [show o+ks.length+(j - W.length)=o+j by omega] at this
theorem A9.app {ok:Nat->Nat->Prop}{ks:List Kd}:∀{l ae:U'} {R q:List (List Value)},A9 ok w ks l R->A9 ok w ks ae q->A9 ok w ks (l++ae) (R++q)
 |[],_,_,_,h,h'=>by rw[show _=[] from h];exact h'
 |_::_,_,_,_,⟨W,vss1,e,C,O⟩,h'=>by subst e;exact⟨W,vss1++_,rfl,C,O.app h'⟩
theorem A9.kinds {ok:Nat->Nat->Prop}{ks:List Kd}(h:∀us W,AT ok w ks us W->AT ok w af us W):∀{l:U'} {R:List (List Value)},A9 ok w ks l R->A9 ok w af l R
 |[],_,hh=>hh
 |_::_,_,⟨W,vss1,e,C,O⟩=>⟨W,vss1,e,h _ _ C,O.kinds h⟩
theorem Ah.app {ok:Nat->Nat->Prop}{ks:List Kd}{ae:U'}{D:List Value}(h:Ah ok w ks l W)(q:Ah ok w af ae D)(e:ks=[]->l=[])(E:af≠[])(H:ks≠[]->ks.length=af.length):
  Ah ok w (HW ks af) (l++ae) (W++D):=by
 cases ks with
 |nil=>
  have:=e rfl;subst this;have J:W=[]:=by
   have:=h.len;simpa using this
  subst J;exact q
 |cons k ks=>
  cases af with
  |nil=>exact absurd rfl E
  |cons k' af=>
   have z:=H (by simp);obtain⟨R,rfl,h⟩:=h;obtain⟨K,rfl,q⟩:=q;exact⟨R++K,by simp,(h.kinds (fun _ _ h=>h.join_l z)).app (q.kinds (fun _ _ h=>h.join_r z))⟩
theorem Ah.holds {ok N:Nat->Nat->Prop}{ks:List Kd}(q:∀b off,ok b off->N b off/\ab.cell? ⟨b,off,none⟩=w.cell? ⟨b,off,none⟩){b:Nat}:
  ∀{l:U'} {W:List Value} {o:Nat},Ah ok w ks l W->(∀p,p < l.length*ks.length->N b (o+p)/\ab.cell? ⟨b,o+p,none⟩=W[p]?)->
  ∀i us,l[i]? =some us->Al N ab ks b (o+i*ks.length) us
 |[],_,_,_,_=>fun i us h=>by simp at h
 |x::l,_,o,⟨R,e,W,vss',e2,C,O⟩,hb=>by
  subst e;subst e2;have E:=C.len.1;have z:(x::l).length*ks.length=l.length*ks.length+ks.length:=by simp[ABc]
  rw[z] at hb;intro i us Y;cases i with
  |zero=>
   simp at Y;subst Y;rw[Nat.zero_mul,Nat.add_zero];refine AT.holds q C (fun p D=>?_);have:=hb p (by omega);rw[ACH,ABO (by omega)] at this;exact this
  |succ i=>
   have:=Ah.holds q (o:=o+ks.length) ⟨vss',rfl,O⟩ (fun p D=>by
    have:=hb (ks.length+p) (by omega);rw[ACH,ABP (by omega),show ks.length+p - W.length=p by omega] at this;rwa [show o+ks.length+p=o+(ks.length+p) by omega]) i us (by simpa using Y)
   rwa [show o+(i+1)*ks.length=o+ks.length+i*ks.length by rw[ABc];omega]
theorem bK {x id b off:Nat}{ks:List Kd}(J:b < w.heap.size)(K:T.fr b off)(D:m.at id= .tok x ks e)(hr: V id=some b)(E:∀H,(m.at H).tracked=true-> V H=some b->H=id)(ho:off < CH T x ks):Ag T V m w b off:=by
 refine⟨J,K,fun j=>?_⟩;cases h:m.at j with
 |pad=>trivial
 |gone=>trivial
 |cells l e'=>
  intro q;have:=E j (by rw[h];rfl) q;subst this;rw[D] at h;cases h
 |lp y st=>
  intro q;have:=E j (by rw[h];rfl) q;subst this;rw[D] at h;cases h
 |mrow y z af e'=>
  intro q;have:=E j (by rw[h];rfl) q;subst this;rw[D] at h;cases h
 |mapb y ao ka aJ aT=>
  intro q;have:=E j (by rw[h];rfl) q;subst this;rw[D] at h;cases h
 |tok y af e'=>
  intro q;have:=E j (by rw[h];rfl) q;subst this;rw[D] at h;cases h;exact ho
theorem eJ (D:AH T n V m w)(a5:n < aj){ks:List Kd}(bi:ks≠[])(hv:Ah (Ag T V m w) w ks l W)(hk:l.length<=AB)(hT:T n= .list l)
   (hd:aG=w\/aG=w.drew)   (a9:∀p,p < l.length*ks.length->A[p]? =W[p]?) (a3:l.length<=I) (a8:I*ks.length<=A.size):
  ∃ ac, ac m.length=some w.heap.size/\AI T n V m w ac (m++[.tok n ks e]) (aG.alloc (.cells A e))/\AH T aj ac (m++[.tok n ks e]) (aG.alloc (.cells A e))/\
   AA T aj ac (m++[.tok n ks e]) (aG.alloc (.cells A e)) (.vec m.length n ks) (.slice (some ⟨w.heap.size,0,none⟩) l.length I):=by
 have a1:aG.heap=w.heap:=by rcases hd with rfl|rfl<;>rfl
 have z:=JK (T:=T) D (.cells A e) (.tok n ks e);have aa:AI T n V m w (CS V m.length w.heap.size) (m++[.tok n ks e]) (aG.alloc (.cells A e)):=by
  rcases hd with rfl|rfl
  .exact z
  .exact⟨z.os,z.tape,z.output,z.size,z.mlen,z.rho,z.untr,z.fresh,z.old,z.tok,z.row⟩
 have al:Mem.at (m++[.tok n ks e]) m.length= .tok n ks e:=by rw[AV,ACE rfl]
 have a2:(aG.alloc (.cells A e)).heap[w.heap.size]? =some (.cells A e (0,0)):=by
  rw[<-a1];exact C2 _ _
 have a4:∀id H b,(Mem.at (m++[.tok n ks e]) id).tracked=true->(Mem.at (m++[.tok n ks e]) H).tracked=true->CS V m.length w.heap.size id=some b->CS V m.length w.heap.size H=some b->id=H:=by
  intro id H b q ad hr K;rw[AV] at q ad;by_cases J:id=m.length
  .by_cases E:H=m.length
   .omega
   .rw[ACD E] at ad;subst J;rw[Au] at hr;cases hr;rw[As _ _ _ E] at K;have:=D.lt ad K;omega
  .rw[ACD J] at q;rw[As _ _ _ J] at hr;by_cases E:H=m.length
   .subst E;rw[Au] at K;cases K;have:=D.lt q hr;omega
   .rw[ACD E] at ad;rw[As _ _ _ E] at K;exact D.inj id H b q ad hr K
 have bl:CH T n ks=l.length*ks.length:=by simp[CH,hT,U.toL]
 have bc:l.length*ks.length<=A.size:=ABS (ABY _ a3) a8;refine⟨_,Au _ _ _,aa,⟨fun id=>?_,a4,fun b off h=>D.fr b off (ABS aa.size h)⟩,a5,by rw[al];exact (fun h=>by cases h),?_,fun af e' E=>?_⟩
 .by_cases J:id=m.length
  .subst J;rw[al];exact⟨a5,_,hT,.inr ⟨w.heap.size,A,Au _ _ _,a2,bc,fun off=>D.fr _ off (ABB _)⟩⟩
  .by_cases q:(m.at id).tracked=true
   .refine BS.step aa D (by omega) (by rw[AV,ACD J]) (As _ _ _ J) (fun b hb=>?_);have:=D.lt q hb;rw[BJ _ _ _ (by rw[a1];exact this),a1]
   .rw[AV,ACD J];cases hx:m.at id with
    |pad=>trivial
    |gone=>trivial
    |cells=>rw[hx] at q;exact absurd rfl q
    |lp=>rw[hx] at q;exact absurd rfl q
    |tok=>rw[hx] at q;exact absurd rfl q
    |mrow=>rw[hx] at q;exact absurd rfl q
    |mapb=>rw[hx] at q;exact absurd rfl q
 .refine⟨l,hT,hk,fun h=>absurd h bi,some ⟨w.heap.size,0,none⟩,I,rfl,a3,fun _=>⟨w.heap.size,0,rfl,?_⟩⟩;refine hv.holds (o:=0) (fun b off ho=>aa.safe D ho) (fun p hp=>⟨?_,?_⟩)
  .rw[ABJ];refine bK (by simp[a1]) (D.fr _ _ (ABB _)) al (Au _ _ _) (fun H ad K=>a4 H m.length _ ad (by rw[al];rfl) K (Au _ _ _)) (by rw[bl];exact hp)
  .simp only[World.cell?,a2,ABJ];exact a9 p hp
 .rw[al] at E;cases E;exact .inr ⟨w.heap.size,I,A,Au _ _ _,by simp[hT,U.toL],a2,a8⟩
theorem XH (H:AH T n V m w)(K:n < aj){ks:List Kd}(J:ks≠[])(hv:Ah (Ag T V m w) w ks l W)(E:l.length<=AB)(q:T n= .list l)
   (hd:aG=w\/aG=w.drew)   (z:∀p,p < l.length*ks.length->A[p]? =W[p]?) (D:l.length<=I) (ad:I*ks.length<=A.size):
  ∃ ac,AI T n V m w ac (m++[.tok n ks e]) (aG.alloc (.cells A e))/\AH T aj ac (m++[.tok n ks e]) (aG.alloc (.cells A e))/\
   AA T aj ac (m++[.tok n ks e]) (aG.alloc (.cells A e)) (.vec m.length n ks) (.slice (some ⟨w.heap.size,0,none⟩) l.length I):=
 let⟨ac,_,h⟩:=eJ H K J hv E q hd z D ad
 ⟨ac,h⟩
end
section
variable {P:Program}{T:Tab}{n aj:Nat}{V ac:Nat->Option Nat}{m ag:Mem}{w ab:World}{g:G}{r:R}
theorem Gg:∀(l ae:List Nat),EP l ae=true->l=ae
 |[],[],_=>rfl
 |[],_::_,h=>by cases h
 |_::_,[],h=>by cases h
 |a::l,b::ae,h=>by
  simp only[EP,AA8] at h;rw[AA9 h.1,Gg l ae h.2]
variable{l:List AC}{W:List Value}
theorem AT.of (q:l.all AC.atom=true)(h:AF T n V m w l W):
  AT (Ag T V m w) w (l.map fun c=>(BX c).1) (l.map fun c=>(BX c).2.eval T) W:=by
 induction l generalizing W with
 |nil=>exact⟨rfl,h⟩
 |cons c l z=>
  obtain⟨u,us,rfl,C,O⟩:=h;simp only[List.all_cons,AA8] at q;exact⟨_,_,u,us,rfl,rfl,jq q.1 C,z q.2 O⟩
theorem Ah.one (q:l.all AC.atom=true)(h:AF T n V m w l W):
  Ah (Ag T V m w) w (l.map fun c=>(BX c).1) [l.map fun c=>(BX c).2.eval T] W:=
 ⟨[W],by simp,W,[],rfl,AT.of q h,rfl⟩
def Sw (T:Tab)(n:Nat)(V :Nat->Option Nat)(m:Mem)(w:World):List (List AC)->List (List Value)->Prop
 |[],R=>R=[]
 |l::ls,R=>∃W h,R=W::h/\l.all AC.atom=true/\AF T n V m w l W/\Sw T n V m w ls h
theorem Sd {s:Nat}(aa:0 < s):∀{q:List (List AC)} {R:List (List Value)},Sw T n V m w q R->(∀l∈q,l.length=s)->q≠[]->
  (C7 q).length=s/\Ah (Ag T V m w) w (C7 q) (q.map fun l=>l.map fun c=>(BX c).2.eval T) R.flatten
 |[],_,_,_,h=>absurd rfl h
 |[l],R,⟨W,vss',e,ha,hl,hr⟩,hlen,_=>by
  subst e;rw[show vss'=[] from hr];refine⟨by simp[C7,hlen l (by simp)],?_⟩;simpa [C7] using Ah.one ha hl
 |l::ah::q,R,⟨W,vss',e,ha,hl,hr⟩,hlen,_=>by
  subst e;obtain⟨D,e3⟩:=Sd aa hr (fun x hx=>hlen x (by simp[hx])) (by simp);have z:(l.map fun c=>(BX c).1).length=s:=by simp[hlen l (by simp)]
  have J:(l.map fun c=>(BX c).1).length=(C7 (ah::q)).length:=by rw[z,D]
  have H:C7 (l::ah::q)=Kd.joins (l.map fun c=>(BX c).1) (C7 (ah::q)):=rfl;refine⟨by rw[H,Kd.joins_len _ _ J,z],?_⟩;have K:(l.map fun c=>(BX c).1)≠[]:=fun h=>by rw[h] at z;simp at z;omega
  have ad:C7 (ah::q)≠[]:=fun h=>by rw[h] at D;simp at D;omega
  have:=(Ah.one ha hl).app e3 (fun h=>absurd h K) ad (fun _=>J);have e5:HW (l.map fun c=>(BX c).1) (C7 (ah::q))=C7 (l::ah::q):=by
   rw[H];generalize (l.map fun c=>(BX c).1)=k1 at*;generalize C7 (ah::q)=E at*;cases k1 with
   |nil=>exact absurd rfl K
   |cons a b=>cases E with
    |nil=>exact absurd rfl ad
    |cons c d=>rfl
  rw[e5] at this;simpa using this
theorem SC {s:Nat}:∀(q:List (List Rf)),(∀l∈q,l.length=s)->Bv s q.length (q.flatten.map (Rf.eval T))=q.map fun l=>l.map (Rf.eval T)
 |[],_=>rfl
 |l::q,h=>by
  have C:=h l (by simp);have:=SC q (fun x z=>h x (by simp[z]));simp only[ABa,Bv,ACH,ABI,ABQ];rw[List.take_left' (by simpa using C),List.drop_left' (by simpa using C),this]
theorem Tc {s:Nat}:∀{R:List (List Value)},(∀v∈R,v.length=s)->R.flatten.length=R.length*s
 |[],_=>by simp
 |v::R,h=>by
  have:=Tc (R:=R) (fun x q=>h x (by simp[q]));simp[this,h v (by simp),ABc,Nat.add_comm]
theorem Ri (s:Nat):∀(f:List (Nat × Value)) (R:List (List Value)) (k:Nat) (F:List Value),f.length=R.length->(∀(j i:Nat) (v:Value) (W:List Value),f[j]? =some (i,v)->R[j]? =some W->i=k+j/\v.cells=W.toArray)->
  (∀v∈R,v.length=s)->F.length=(k+R.length)*s->
  Instr.fill (fun i=>some (i*s,s)) F.toArray f=some (F.take (k*s)++R.flatten).toArray
 |[],[],k,F,_,_,_,hc=>by
  simp only[Instr.fill,List.flatten_nil,ABx];rw[List.take_of_length_le (by simp at hc;omega)]
 |[],_::_,_,_,h,_,_,_=>by simp at h
 |_::_,[],_,_,h,_,_,_=>by simp at h
 |(i,v)::f,W::R,k,F,hl,hh,aa,hc=>by
  obtain⟨Y,z⟩:=hh 0 i v W rfl rfl;simp at Y;subst Y;have C:=aa W (by simp);have al:F.length=i*s+s+R.length*s:=by
   rw[hc,ABa,ABc,ABc,Nat.one_mul];omega
  simp only[Instr.fill];rw[ACD]
  .rw[eU F.toArray (i*s) v W z (by simp;omega)];have:=Ri s f R (i+1) (Bl F (i*s) W) (by simpa using hl) (fun j E K ad H J=>by
    have:=hh (j+1) E K ad (by simpa using H) (by simpa using J);exact⟨by omega,this.2⟩) (fun x D=>aa x (by simp[D])) (by
     simp only[Bl,ABM,ABl,ABs];rw[ABc,ABc,Nat.one_mul];omega)
   rw[show (F.toArray).toList=F from rfl,this];congr 2;have e:(Bl F (i*s) W).take ((i+1)*s)=F.take (i*s)++W:=by
    unfold Bl;rw[ABc,Nat.one_mul];apply List.take_left';simp;omega
   rw[e];simp
  .intro q;simp only[z,AB6,ABe,decide_eq_true_eq] at q;rcases q with q|q
   .exact q C
   .omega
theorem jC {E:List (AC × Value)}{H:List (List AC)}(K:∀p∈E,AA T n V m w p.1 p.2)(h:E.mapM (fun p=>p.1.cellsOf)=some H):
  ∃R,Sw T n V m w H R/\R.length=E.length/\(∀(j:Nat) (p:AC × Value) (W:List Value),E[j]? =some p->R[j]? =some W->p.2.cells=W.toArray)/\(∀(j:Nat) (l:List AC) (W:List Value),H[j]? =some l->R[j]? =some W->W.length=l.length):=by
 induction E generalizing H with
 |nil=>simp at h;subst h;exact⟨[],rfl,rfl,fun j p W h=>by simp at h,fun j l W h=>by simp at h⟩
 |cons p E ih=>
  simp only[List.mapM_cons,ABA,Option.pure_def,AA7] at h;obtain⟨l,C,a4,O,h3⟩:=h;cases h3;obtain⟨W,e1,J,e3,_⟩:=DK C (K p (by simp));obtain⟨R,f1,f2,f3,f4⟩:=ih (fun q z=>K q (by simp[z])) O;refine⟨W::R,⟨W,R,rfl,e3,J,f1⟩,by simp[f2],fun j q us z D=>?_,fun j q us z D=>?_⟩
  .cases j with
   |zero=>simp at z D;subst z;subst D;exact e1
   |succ j=>exact f3 j q us (by simpa using z) (by simpa using D)
  .cases j with
   |zero=>simp at z D;subst z;subst D;exact J.length
   |succ j=>exact f4 j q us (by simpa using z) (by simpa using D)
theorem O5 {t:TypeId}{len:Nat}{a:Act}{o:Oper}{aI:Operand->AC}{H:Array (Nat × Operand)}(h:DM P t len (H.toList.map fun (i,x)=>(i,aI x)) m g=some r)(bx:New T g.n r.us)(hm:AH T g.n V m w)
  (ho:o.op= .buildSlice t len H) (ce:∀x,AA T g.n V m w (aI x) (a.eval x)):BK T g V m w ((execOp a.eval o).run P w) r:=by
 unfold DM at h;split at h
 .rename_i e hu;simp only[ABA,AA7] at h;obtain⟨i,Y,z,hz,h⟩:=h;split at h
  .rename_i hc;obtain⟨a1,bc,c8,c7⟩:=hc;have a1:=Gg _ _ a1;simp only[AA7] at h;obtain⟨J,bb,h⟩:=h;split at h
   .rename_i ca;cases h;have ci:((H.toList.map fun (p:Nat × Operand)=>(aI p.2,a.eval p.2))).mapM (fun p=>p.1.cellsOf)=some J:=by
     rw[List.mapM_map] at bb⊢;exact bb
    obtain⟨R,f1,f2,f3,f4⟩:=jC (T:=T) (n:=g.n) (V := V) (m:=m) (w:=w) (by
     intro p hp;simp only[ACI] at hp;obtain⟨p',_,rfl⟩:=hp;exact ce p'.2) ci
    simp only[List.length_map] at f2;have aw:H.toList.length=len:=by
     have:=ACF List.length a1;simpa using this
    have ao:J.length=len:=by
     have:=(Ei _ _ _ bb).1;simpa [aw] using this
    have a9:∀l∈J,l.length=i.size:=fun l hl=>by simpa using ABb.1 ca l hl
    have b2:∀v∈R,v.length=i.size:=by
     intro v hv;obtain⟨j,hj⟩:=List.getElem?_of_mem hv;have a2:j < J.length:=by rw[ao,<-aw,<-f2];exact (ABD.1 hj).1
     rw[f4 j _ v (ABC a2) hj];exact a9 _ (AB0 a2)
    have cj:J≠[]:=fun h=>by rw[h] at ao;simp at ao;omega
    obtain⟨c2,c3⟩:=Sd bc f1 a9 cj;have hT:T g.n= .list (J.map fun l=>l.map fun c=>(BX c).2.eval T):=by
     have K:=bx.head;have e2:=SC (T:=T) (s:=i.size) (J.map fun l=>l.map fun c=>(BX c).2) (fun l hl=>by
      simp only[ACI] at hl;obtain⟨ae,ch,rfl⟩:=hl;simp[a9 ae ch])
     rw[K];simp only[Ex.eval,dX,VK];simp only[List.length_map,ao] at e2;rw[e2];simp[List.map_map,Function.comp_def]
    have bm:=Tc b2;rw[f2,aw] at bm;have cc:C7 J≠[]:=fun h=>by rw[h] at c2;simp at c2;omega
    have c1:∀D:Array Value,((Array.range (len*i.size)).map (fun x=>D[x % D.size]!)).toList.length=(0+R.length)*i.size:=by
     intro D;simp[f2,aw]
    have cf:∀D:Array Value,Instr.fill (fun j=>some (j*i.size,i.size)) ((Array.range (len*i.size)).map (fun x=>D[x % D.size]!)) (H.map fun (j,x)=>(j,a.eval x)).toList=some R.flatten.toArray:=by
     intro D;have:=Ri i.size (H.map fun (j,x)=>(j,a.eval x)).toList R 0 ((Array.range (len*i.size)).map (fun x=>D[x % D.size]!)).toList (by simp[f2]) (fun j k v W q1 q2=>by
      simp only[Array.toList_map,ABg,ABU] at q1;obtain⟨⟨p1,p2⟩,K,e2⟩:=q1;cases e2;refine⟨?_,f3 j (aI p2,a.eval p2) W (by simp only[ABg,K,AB9]) q2⟩;have e3:(H.toList.map fun (p:Nat × Operand)=>(p.1,aI p.2)).map (·.1)=H.toList.map (·.1):=by simp
      have e4:=a1;rw[e3] at e4;have e5:(H.toList.map (·.1))[j]? =some p1:=by simp only[ABg,K,AB9]
      rw[e4] at e5;have a2:j < len:=by rw[<-aw];exact (ABD.1 K).1
      simp[a2] at e5;omega) b2 (c1 D)
     rw[Array.toArray_toList] at this;rw[this];simp
    have cx:¬(len*i.size=0):=by
     intro h;rcases Nat.mul_eq_zero.1 h with h|h<;>omega
    have cv:(execOp a.eval o).run P w= .ok (.value (.slice (some ⟨w.heap.size,0,none⟩) len len)) (w.alloc (.cells R.flatten.toArray e)):=by
     have hb:¬(len*i.size > 2 ^ 24):=by omega
     simp only[execOp,ho,Instr.buildSlice,ABo,run_underlying hu,ABn,BL Y,Sem.run_ite,hb,if_false,cx,IG Y hz,ABv,cf];simp[newRow]
    have ba:(J.map fun l=>l.map fun c=>(BX c).2.eval T).length=len:=by simp[ao]
    obtain⟨ac,k1,E,k3⟩:=XH (e:=e) (aj:=g.n+1) hm (by omega) cc c3 (by rw[ba];simp only[AB];have:len<=len*i.size:=Nat.le_mul_of_pos_right _ bc;omega) hT (.inl rfl) (A:=R.flatten.toArray) (I:=len) (fun p _=>by simp) (by rw[ba];exact ABB _) (by simp only[AB6];rw[bm,c2];exact ABB _);rw[ba] at k3;exact⟨_,_, ac,.inl cv,k1,E,k3⟩
   .cases h
  .split at h
   .rename_i hc;obtain⟨rfl,cs,bc⟩:=hc;simp only[AA7] at h;obtain⟨l,hl,h⟩:=h;split at h
    .rename_i bs;cases h;have cu:H= #[]:=by
      have:H.toList.length=0:=by simpa using cs
      exact Array.ext' (AB3.1 this)
     subst cu;have hT:T g.n= .list []:=by rw[bx.head];rfl
     have cl:(l.map fun c=>(BX c).1)≠[]:=fun h=>by
      have:=ACF List.length h;simp at this;rw[this] at bs;simp at bs;omega
     obtain⟨ac,k1,E,k3⟩:=XH (e:=e) (aj:=g.n+1) hm (by omega) cl (Ah.nil _ _) (ABh _) hT (.inl rfl) (A:= #[]) (I:=0) (fun p hp=>by simp at hp) (ABh _) (by simp);refine⟨_,_, ac,.inl ?_,k1,E,k3⟩;simp[execOp,ho,Instr.buildSlice,run_underlying hu,BL Y,Instr.fill,newRow];exact ACF (fun q=>w.alloc (Obj.cells q e)) (Array.eq_empty_of_size_eq_zero (by simp))
    .cases h
   .cases h
 .cases h
end
end
end Go.Eng
end
