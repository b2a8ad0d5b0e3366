/-
  A part of the proof: the evaluator of code and its soundness.
-/
import GoSem.Core.View
import GoSem.Op.IntBits
import Derived.Calls
import Derived.Below
import Derived.Laws.World
import Derived.Laws.Sem
import Derived.Laws.Small
import Derived.IntWalk
import Derived.Laws.Cells
import Derived.Laws.Tables
import Derived.Laws.StructEq
import Derived.ChangeKeysEq
import Derived.Laws.AppendOwn
set_option linter.unusedVariables false
set_option linter.unusedSimpArgs false
noncomputable section
namespace Go.Eng
theorem vn:type_of% @Option.bind_eq_some_iff:=@Option.bind_eq_some_iff
theorem vo:type_of% @Bool.and_eq_true:=@Bool.and_eq_true
theorem vp:type_of% @Nat.eq_of_beq_eq_true:=@Nat.eq_of_beq_eq_true
theorem vq:type_of% @Option.bind_eq_bind:=@Option.bind_eq_bind
theorem vr:type_of% @Nat.le_refl:=@Nat.le_refl
theorem vt:type_of% @List.getElem?_eq_getElem:=@List.getElem?_eq_getElem
theorem vu:type_of% @List.getElem?_eq_some_iff:=@List.getElem?_eq_some_iff
theorem vw:type_of% @Nat.lt_of_lt_of_le:=@Nat.lt_of_lt_of_le
theorem vx:type_of% @Array.getElem?_eq_some_iff:=@Array.getElem?_eq_some_iff
theorem vy:type_of% @Array.getD_eq_getD_getElem?:=@Array.getD_eq_getD_getElem?
theorem vz:type_of% @List.mem_cons_of_mem:=@List.mem_cons_of_mem
theorem v7:type_of% @List.map_append:=@List.map_append
theorem v8:type_of% @Nat.zero_add:=@Nat.zero_add
theorem wA:type_of% @List.mem_cons_self:=@List.mem_cons_self
theorem wB:type_of% @List.mem_append_right:=@List.mem_append_right
theorem wC:type_of% @List.length_append:=@List.length_append
theorem wD:type_of% @Nat.lt_or_ge:=@Nat.lt_or_ge
theorem wE:type_of% @List.getElem?_append_left:=@List.getElem?_append_left
theorem wF:type_of% @List.getElem?_append_right:=@List.getElem?_append_right
theorem wG:type_of% @List.map_cons:=@List.map_cons
theorem wH:type_of% @List.mem_append_left:=@List.mem_append_left
theorem wI:type_of% @Nat.le_trans:=@Nat.le_trans
theorem wJ:type_of% @List.forall_mem_cons:=@List.forall_mem_cons
theorem wK:type_of% @Option.map_eq_some_iff:=@Option.map_eq_some_iff
theorem wL:type_of% @List.getD_eq_getElem?_getD:=@List.getD_eq_getElem?_getD
theorem wM:type_of% @Bool.false_eq_true:=@Bool.false_eq_true
theorem wN:type_of% @Nat.le_of_ble_eq_true:=@Nat.le_of_ble_eq_true
theorem wO:type_of% @Nat.mul_le_mul_right:=@Nat.mul_le_mul_right
theorem wP:type_of% @List.mem_iff_getElem?:=@List.mem_iff_getElem?
theorem wQ:type_of% @List.length_cons:=@List.length_cons
theorem wR:type_of% @List.all_eq_true:=@List.all_eq_true
theorem wS:type_of% @Nat.add_mul:=@Nat.add_mul
theorem wT:type_of% @Option.bind_some:=@Option.bind_some
theorem wU:type_of% @Bool.or_eq_true:=@Bool.or_eq_true
theorem wV:type_of% @List.getElem?_eq_none:=@List.getElem?_eq_none
theorem wW:type_of% @List.getElem?_map:=@List.getElem?_map
theorem wX:type_of% @Nat.zero_le:=@Nat.zero_le
theorem wY:type_of% @List.mem_singleton:=@List.mem_singleton
theorem wZ:type_of% @List.append_assoc:=@List.append_assoc
theorem wa:type_of% @List.map_nil:=@List.map_nil
theorem wb:type_of% @List.length_take:=@List.length_take
theorem wc:type_of% @List.mem_append:=@List.mem_append
section
open Go
inductive U where
 |int (n:Int)
 |bool (b:Bool)
 |str (s:ByteArray)
 |val (v:Value)
 |list (l:List (List U))
instance:Inhabited U:=⟨.int 0⟩
def U.toI:U->Int| .int n=>n|_=>0
def U.toB:U->Bool| .bool b=>b|_=>false
def U.toS:U->ByteArray| .str s=>s|_=>ByteArray.empty
def U.toL:U->List (List U)| .list l=>l|_=>[]
inductive Kd where
 |int (k:IntKind) (lo hi:Int)
 |bool
 |str
 |val
 |any
 |list (cells:List Kd)
instance:Inhabited Kd:=⟨.any⟩
inductive CV where
 |nilPtr|nilSlice|nilFunc|nilIface|nilMap
 |str (s:ByteArray)
 deriving DecidableEq
def CV.value:CV->Value
 | .nilPtr=> .pointer none
 | .nilSlice=> .slice none 0 0
 | .nilFunc=> .nilFunc
 | .nilIface=> .nilIface
 | .nilMap=> .map none
 | .str s=> .string s
inductive AC where
 |any
 |anyc
 |on (c:Nat) (a:AC)
 |gd (c:Nat) (a:AC)
 |cb (b:Bool)
 |b (x:Nat)
 |nb (x:Nat)
 |ci (k:IntKind) (n:Int)
 |i (k:IntKind) (lo hi:Int) (x:Nat)
 |cv (c:CV)
 |v (x:Nat)
 |s (x:Nat)
 |ptr (id off:Nat)
 |pix (id base stride cnt x plus:Nat)
 |ro (x:Nat) (ks:List Kd)
 |rp (x t off:Nat) (ks:List Kd)
 |vec (id x:Nat) (ks:List Kd)
 |fn (f:Fn) (first cap:List AC)
 |sel (x:Nat) (alts:List AC)
 |yl (id:Nat)
 |asl (id off len:Nat)
 |rsv (id x:Nat) (ks:List Kd)
 |mr (id y:Nat)
 |mp (id y t sz off:Nat)
 |mv (id:Nat)
 |agg (l:List AC)
 |tup (l:List AC)
instance:Inhabited AC:=⟨.any⟩
inductive UP where
 |ret
 |exit (id:Nat)
 deriving DecidableEq
def UP.code:UP->Code| .ret=> .ret| .exit id=> .exit id
inductive Tr where
 |nil
 |node (v:Option AC) (l r:Tr)
instance:Inhabited Tr:=⟨.nil⟩
def Tr.get:Tr->Nat->Option AC
 | .nil,_=>none
 | .node v l r,i=>bif Nat.beq i 0 then v else bif Nat.beq (i % 2) 1 then l.get (i / 2) else r.get (i / 2 - 1)
def Tr.val:Tr->Option AC| .nil=>none| .node v _ _=>v
def Tr.lt:Tr->Tr| .nil=> .nil| .node _ l _=>l
def Tr.rt:Tr->Tr| .nil=> .nil| .node _ _ r=>r
def Tr.setF:Nat->Tr->Nat->Option AC->Tr
 |0,_,_,_=> .nil
 |f+1,t,i,c=>bif Nat.beq i 0 then .node c t.lt t.rt else bif Nat.beq (i % 2) 1 then .node t.val (Tr.setF f t.lt (i / 2) c) t.rt else .node t.val t.lt (Tr.setF f t.rt (i / 2 - 1) c)
structure AO where
 n:Nat
 loc:List (Nat × AC)
 t:Tr
instance:Inhabited AO:=⟨⟨0,[],.nil⟩⟩
def A6:List (Nat × AC)->Nat->Option AC
 |[],_=>none
 |(j,c)::r,i=>bif Nat.beq j i then some c else A6 r i
def AO.get (s:AO)(i:Nat):Option AC:=
 match A6 s.loc i with
 |some c=>some c
 |none=>s.t.get i
def AO.set (s:AO)(i:Nat)(c:AC):AO:=bif Nat.blt i s.n then { s with loc:=(i,c)::s.loc } else s
def AO.fix (s:AO)(i:Nat)(c:Option AC):AO:=bif Nat.blt i s.n then { s with t:=Tr.setF 16 s.t i c } else s
def Km (keep:Nat):List (Nat × AC)->Tr->Tr
 |[],t=>t
 |(i,c)::r,t=>let t':=Km keep r t;if keep.testBit i then Tr.setF 16 t' i (some c) else match t'.get i with|none=>t'|some _=>Tr.setF 16 t' i none
def AO.commit (s:AO)(keep:Nat):AO:={ s with loc:=[],t:=Km keep s.loc s.t }
structure CA where
 tmps:AO
 ps:Array Tmp
 assign:Code
 body:Code
 jumps:List UP
structure Tab where
 get:Nat->U
 fr:Nat->Nat->Prop
 lp:Nat->CA
 base:Nat
instance:CoeFun Tab (fun _=>Nat->U):=⟨Tab.get⟩
inductive Rf where
 |c (u:U)
 |e (x:Nat)
 |n (x:Nat)
instance:Inhabited Rf:=⟨.c default⟩
def Rf.eval (T:Tab):Rf->U
 | .c u=>u
 | .e x=>T x
 | .n x=> .bool (!(T x).toB)
inductive Tg where
 |s (t:String)
 |loop (j nh k:Nat) (eqs:List (Nat × Tg × List Rf)) (pcn:Option Nat) (nxt:List Rf) (fv:List Nat) (obs:List (Option Nat × Tg × List Rf))
instance:Coe String Tg:=⟨Tg.s⟩
instance:Inhabited Tg:=⟨.s ""⟩
def Tg.str:Tg->String| .s t=>t|_=> "loop"
structure Ex where
 tag:Tg
 f:List U->U
 args:List Rf
def Ex.eval (T:Tab)(e:Ex):U:=e.f (e.args.map (Rf.eval T))
structure Pr where
 tag:Tg
 f:List U->Prop
 args:List Rf
def Pr.holds (T:Tab)(p:Pr):Prop:=p.f (p.args.map (Rf.eval T))
def ez (a b:Int):Int:=a+b
def cU (a b:Int):Int:=a - b
def dz (a b:Int):Int:=a*b
def eP (a b:Int):Int:=a / b
def Tm (a b:Int):Int:=a % b
def QI (a b:Int):Int:=a.tdiv b
def Yl (a b:Int):Int:=a.tmod b
def Cx (op:BinOp)(k:IntKind)(x y:Int):Int:=
 k.wrap (match op with
  | .and=>(BitVec.ofInt k.bits x &&& BitVec.ofInt k.bits y).toNat
  | .or=>(BitVec.ofInt k.bits x ||| BitVec.ofInt k.bits y).toNat
  | .xor=>(BitVec.ofInt k.bits x ^^^ BitVec.ofInt k.bits y).toNat
  |_=>(BitVec.ofInt k.bits x &&& ~~~(BitVec.ofInt k.bits y)).toNat)
def RT (a b:Int):Int:=min a b
def RF (a b:Int):Int:=max a b
def u0:List U->U|a::_=>a|_=>default
def u1:List U->U|_::a::_=>a|_=>default
def u2:List U->U|_::_::a::_=>a|_=>default
def o2 (f:Int->Int->Int)(us:List U):U:= .int (f (u0 us).toI (u1 us).toI)
def Vc (us:List U):U:= .int (0 - (u0 us).toI)
def He (k:IntKind)(f:List U->U)(us:List U):U:= .int (k.wrap (f us).toI)
def oId (us:List U):U:=u0 us
def oLt (us:List U):U:= .bool (decide ((u0 us).toI < (u1 us).toI))
def oLe (us:List U):U:= .bool (decide ((u0 us).toI<=(u1 us).toI))
def oEq (us:List U):U:= .bool (decide ((u0 us).toI=(u1 us).toI))
def oNe (us:List U):U:= .bool (!decide ((u0 us).toI=(u1 us).toI))
def Mp (us:List U):U:= .bool ((u0 us).toB&&(u1 us).toB)
def oOr (us:List U):U:= .bool ((u0 us).toB||(u1 us).toB)
def oIf (us:List U):U:=bif (u0 us).toB then u1 us else u2 us
def Yu (us:List U):U:= .bool (bif (u0 us).toB then (u1 us).toB else (u2 us).toB)
def RG (us:List U):U:= .bool !(u0 us).toB
def Nc (us:List U):U:= .int (u0 us).toL.length
def eF (c:Nat)(us:List U):U:=((u0 us).toL.getD (u1 us).toI.toNat []).getD c default
def kdC:Kd->Nat| .int _ _ _=>0| .bool=>1| .str=>2| .list _=>3|_=>4
def coC:Nat->U->U|0,u=> .int u.toI|1,u=> .bool u.toB|2,u=> .str u.toS|3,u=> .list u.toL|_,u=>u
def RK:Nat->String|0=> "get " |1=> "getb " |2=> "gets " |3=> "getl " |_=> "getv "
def N8 (q c:Nat)(us:List U):U:=coC q (eF c us)
def FB:List U->U| .bool _::_=> .bool false|_=>default
def P2 (us:List U):U:=us.tail.getD (u0 us).toI.toNat (FB us.tail)
def DM (s:Nat):Nat->List U->List (List U)
 |0,_=>[]
 |k+1,l=>l.take s::DM s k (l.drop s)
def U.eqv:U->U->Bool
 | .int a,.int b=>decide (a=b)
 | .bool a,.bool b=>a==b
 | .str a,.str b=>decide (a=b)
 |_,_=>false
def Dc (l:List (List U))(i c:Nat)(vs:List U):List (List U):=l.set i ((l.getD i []).take c++vs++(l.getD i []).drop (c+vs.length))
def YH (c:Nat)(us:List U):U:= .list (Dc (u0 us).toL (u1 us).toI.toNat c (us.drop 2))
def eC (us:List U):U:= .list (List.replicate (u0 us).toI.toNat us.tail)
def Bb:List U->List U->Bool
 |[],[]=>true
 |a::l,b::l'=>a.eqv b&&Bb l l'
 |_,_=>false
def Az (nk:Nat)(l:List (List U))(k:List U):Nat:=l.findIdx fun r=>Bb (r.take nk) k
def Yg (nk:Nat)(us:List U):U:= .bool (decide (Az nk (u0 us).toL us.tail < (u0 us).toL.length))
def Qp (nk c:Nat)(us:List U):U:=bif decide (Az nk (u0 us).toL (us.drop 2) < (u0 us).toL.length) then ((u0 us).toL.getD (Az nk (u0 us).toL (us.drop 2)) []).getD (nk+c) default else u1 us
def Zy (q nk c:Nat)(us:List U):U:=coC q (Qp nk c us)
def Bc (nk:Nat)(l:List (List U))(k v:List U):List (List U):=bif decide (Az nk l k < l.length) then l.set (Az nk l k) (k++v) else l++[k++v]
def YA (nk:Nat)(us:List U):U:= .list (Bc nk (u0 us).toL (us.tail.take nk) (us.tail.drop nk))
def Tv (k s:Nat)(us:List U):U:= .list (DM s k us)
def PA (us:List U):U:= .list ((u0 us).toL++(u1 us).toL)
def Y9 (us:List U):U:= .int (u0 us).toS.size
def Jj (s:ByteArray)(i:Nat):Int:=(((s.data.toList.getD i 0).toNat:Nat):Int)
def ek (us:List U):U:= .int (Jj (u0 us).toS (u1 us).toI.toNat)
def L8 (us:List U):U:= .list ((u0 us).toL.take (u1 us).toI.toNat)
def X3 (us:List U):U:= .list ((u0 us).toL.drop (u1 us).toI.toNat)
def cz (us:List U):U:= .list (((u0 us).toL.take (u2 us).toI.toNat).drop (u1 us).toI.toNat)
def Ec:List U->Bool
 |a::b::l=>a.eqv b&&Ec l
 |_=>true
def Yx (us:List U):U:= .bool (Ec us)
def Yd (us:List U):U:= .bool (!Ec us)
def eV (us:List U):U:= .bool ((u0 us).toB==(u1 us).toB)
def dc (us:List U):U:= .bool (!((u0 us).toB==(u1 us).toB))
def Ow (us:List U):Prop:=(u0 us).toI≠0
def pT (us:List U):Prop:=(u0 us).toB=true
def pIn (us:List U):Prop:=0<=(u0 us).toI/\(u0 us).toI < (u1 us).toI
def RU (us:List U):Prop:=0<=(u0 us).toI/\(u0 us).toI < (u1 us).toL.length
def YC (us:List U):Prop:=0<=(u1 us).toI/\(u1 us).toI < (u0 us).toS.size
def Ik (us:List U):Prop:=0<=(u1 us).toI/\(u1 us).toI<=(u0 us).toL.length
def cd (us:List U):Prop:=0<=(u1 us).toI/\(u1 us).toI<=(u2 us).toI/\(u2 us).toI<=(u0 us).toL.length
def iz (us:List U):Prop:=(u0 us).toI=0
def pNe (us:List U):Prop:=(u0 us).toI≠(u1 us).toI
def DH (lo hi:Int)(us:List U):Prop:=lo<=(u0 us).toI/\(u0 us).toI<=hi
def Fo (b:Nat)(us:List U):Prop:=((u0 us).toL.length+(u1 us).toL.length)*b<=140737488355328
end
section
open Go Go.RowKit
inductive Blk where
 |pad
 |gone
 |cells (l:List AC) (elem:TypeId)
 |tok (x:Nat) (ks:List Kd) (elem:TypeId)
 |lp (stamp:Nat) (st:AC)
 |mrow (x y:Nat) (ks:List Kd) (elem:TypeId)
 |mapb (x:Nat) (kk:List Kd) (ka:Bool) (vk:List Kd) (va:Bool)
instance:Inhabited Blk:=⟨.pad⟩
abbrev Mem:=List Blk
def Mem.at (m:Mem)(id:Nat):Blk:=(m[id]?).getD .pad
def Blk.tracked:Blk->Bool| .gone| .pad=>false|_=>true
def Blk.ptrOk:Blk->Bool| .gone| .cells .. | .lp .. | .mapb .. =>true|_=>false
def Bu (T:Tab)(x:Nat)(ks:List Kd):Nat:=(T x).toL.length*ks.length
def AS (T:Tab)(ρ :Nat->Option Nat)(m:Mem)(w:World)(b off:Nat):Prop:=
 b < w.heap.size/\T.fr b off/\∀id,match m.at id with
  | .pad| .gone=>True
  | .cells _ _| .lp _ _| .mrow _ _ _ _| .mapb _ _ _ _ _=> ρ id≠some b
  | .tok x ks _=> ρ id=some b->off < Bu T x ks
def AF:Nat:=140737488355328
mutual
def AM (ok:Nat->Nat->Prop)(w:World):Kd->U->Value->Prop
 | .int k lo hi,u,v=>∃n,u= .int n/\v= .int k n/\lo<=n/\n<=hi
 | .bool,u,v=>∃b,u= .bool b/\v= .bool b
 | .str,u,v=>∃s,u= .str s/\(v= .string s/\s.size<=AF)
 | .val,u,v=>u= .val v/\v.oneCell'=true
 | .any,_,v=>v.oneCell'=true
 | .list ks,u,v=>∃l,u= .list l/\l.length<=AF/\(ks=[]->l=[])/\∃a cap,v= .slice a l.length cap/\l.length<=cap/\(0 < l.length->∃b o,a=some ⟨b,o,none⟩/\
   ∀i us,l[i]? =some us->AX ok w ks b (o+i*ks.length) us)
def AX (ok:Nat->Nat->Prop)(w:World):List Kd->Nat->Nat->List U->Prop
 |[],_,_,us=>us=[]
 |k::ks,b,off,us=>∃u us',us=u::us'/\(ok b off/\∃v,w.cell? ⟨b,off,none⟩=some v/\AM ok w k u v)/\AX ok w ks b (off+1) us'
end
theorem VT {ok:Nat->Nat->Prop}{w:World}{k:Kd}{u:U}{v:Value}(h:AM ok w k u v):coC (kdC k) u=u:=by
 cases k with
 |int=>obtain⟨n,rfl,_⟩:=h;rfl
 |bool=>obtain⟨n,rfl,_⟩:=h;rfl
 |str=>obtain⟨n,rfl,_⟩:=h;rfl
 |list=>obtain⟨n,rfl,_⟩:=h;rfl
 |val=>rfl
 |any=>rfl
def AJ (ok:Nat->Nat->Prop)(w:World):List Kd->List U->List Value->Prop
 |[],us,vs=>us=[]/\vs=[]
 |k::ks,us,vs=>∃u us' v vs',us=u::us'/\vs=v::vs'/\AM ok w k u v/\AJ ok w ks us' vs'
def Ao (ok:Nat->Nat->Prop)(w:World)(ks:List Kd):List (List U)->List (List Value)->Prop
 |[],vss=>vss=[]
 |us::l,vss=>∃vs vss',vss=vs::vss'/\AJ ok w ks us vs/\Ao ok w ks l vss'
def AU (ok:Nat->Nat->Prop)(w:World)(ks:List Kd)(l:List (List U))(vs:List Value):Prop:=∃vss,vs=vss.flatten/\Ao ok w ks l vss
def Bn (ok:Nat->Nat->Prop)(w:World)(ks:List Kd)(ag:Bool)(us:List U)(v:Value):Prop:=
 ∃vs:List Value,AJ ok w ks us vs/\(if ag then v= .agg vs.toArray else vs=[v])
def Q0 (T:Tab)(ρ :Nat->Option Nat)(w:World)(id x:Nat)(ks:List Kd)(e:TypeId)(v:Value):Prop:=
 (ρ id=none/\∃a,v= .slice a (T x).toL.length (T x).toL.length)\/
 ∃b cap vs, ρ id=some b/\v= .slice (some ⟨b,0,none⟩) (T x).toL.length cap/\w.heap[b]? =some (.cells vs e (0,0))/\cap*ks.length<=vs.size
def Po (ρ :Nat->Option Nat)(w:World)(id:Nat)(ks:List Kd)(e:TypeId)(v:Value):Prop:=
 (ρ id=none/\v= .slice none 0 0)\/
 ∃b len cap vs, ρ id=some b/\v= .slice (some ⟨b,0,none⟩) len cap/\(len<=cap/\len<=68719476736)/\w.heap[b]? =some (.cells vs e (0,0))/\cap*ks.length<=vs.size
def Ng (ρ :Nat->Option Nat)(w:World)(id:Nat)(ks:List Kd)(e:TypeId)(a:Option Addr)(cap:Nat):Prop:=
 (ρ id=none/\cap=0)\/
 ∃b vs, ρ id=some b/\a=some ⟨b,0,none⟩/\w.heap[b]? =some (.cells vs e (0,0))/\cap*ks.length<=vs.size
mutual
def AA (T:Tab)(n:Nat)(ρ :Nat->Option Nat)(m:Mem)(w:World):AC->Value->Prop
 | .any,_=>True
 | .anyc,v=>v.oneCell'=true
 | .on c a,v=>c < n/\(T c= .bool true->AA T n ρ m w a v)
 | .gd c a,v=>c < n/\(T c= .bool true->AA T n ρ m w a v)/\(T c≠ .bool true->v=undef)
 | .cb b,v=>v= .bool b
 | .b x,v=>x < n/\∃b,T x= .bool b/\v= .bool b
 | .nb x,v=>x < n/\∃b,T x= .bool b/\v= .bool !b
 | .ci k i,v=>v= .int k i
 | .i k lo hi x,v=>x < n/\∃i,T x= .int i/\v= .int k i/\lo<=i/\i<=hi
 | .cv c,v=>v=c.value
 | .v x,v=>x < n/\T x= .val v/\v.oneCell'=true
 | .s x,v=>x < n/\∃s,T x= .str s/\(v= .string s/\s.size<=AF)
 | .ptr id off,v=>∃b, ρ id=some b/\v= .pointer (some ⟨b,off,none⟩)/\(m.at id).ptrOk=true
 | .pix id base stride cnt x plus,v=>x < n/\∃b j, ρ id=some b/\T x= .int j/\0<=j/\j < cnt/\v= .pointer (some ⟨b,base+j.toNat*stride+plus,none⟩)/\(m.at id).ptrOk=true
 | .ro x ks,v=>x < n/\AM (AS T ρ m w) w (.list ks) (T x) v
 | .rp x t off ks,v=>(x < n/\t < n)/\∃j b o us,T t= .int j/\0<=j/\(T x).toL[j.toNat]? =some us/\v= .pointer (some ⟨b,o+j.toNat*ks.length+off,none⟩)/\
   AX (AS T ρ m w) w ks b (o+j.toNat*ks.length) us
 | .vec id x ks,v=>x < n/\m.at id≠ .pad/\AM (AS T ρ m w) w (.list ks) (T x) v/\∀ks' e,m.at id= .tok x ks' e->Q0 T ρ w id x ks' e v
 | .fn f first cap,v=>∃vs us,v= .func f (vs:List Value).toArray (us:List Value).toArray/\AB T n ρ m w first vs/\AB T n ρ m w cap us
 | .sel x alts,v=>x < n/\∃j,T x= .int j/\0<=j/\Aa T n ρ m w alts j.toNat v
 | .yl id,v=>∃b, ρ id=some b/\v= .func (.yield b) #[] #[]/\(m.at id).ptrOk=true
 | .asl id off len,v=>∃b, ρ id=some b/\v= .slice (some ⟨b,off,none⟩) len len/\(m.at id).ptrOk=true
 | .rsv id x ks,v=>x < n/\m.at id≠ .pad/\T x= .list []/\(∃a len cap,v= .slice a len cap)/\∀ks' e,m.at id= .tok x ks' e->Po ρ w id ks' e v
 | .mr id y,v=>(y < n/\m.at id≠ .pad)/\∃j a cap,T y= .int j/\(0<=j/\j<=AF)/\v= .slice a j.toNat cap/\(j<=cap/\(0 < j->∃b,a=some ⟨b,0,none⟩))/\∀x ks e,m.at id= .mrow x y ks e->Ng ρ w id ks e a cap
 | .mp id y t sz off,v=>(y < n/\t < n/\m.at id≠ .pad)/\∃j L b,T t= .int j/\T y= .int L/\(0<=j/\j < L)/\v= .pointer (some ⟨b,j.toNat*sz+off,none⟩)/\∀x ks e,m.at id= .mrow x y ks e-> ρ id=some b
 | .mv id,v=>∃b, ρ id=some b/\v= .map (some b)/\(m.at id).ptrOk=true
 | .agg l,v=>∃vs,v= .agg (vs:List Value).toArray/\AB T n ρ m w l vs
 | .tup l,v=>∃vs,v= .tuple (vs:List Value).toArray/\AB T n ρ m w l vs
def AB (T:Tab)(n:Nat)(ρ :Nat->Option Nat)(m:Mem)(w:World):List AC->List Value->Prop
 |[],vs=>vs=[]
 |c::l,vs=>∃u us,vs=u::us/\AA T n ρ m w c u/\AB T n ρ m w l us
def Aa (T:Tab)(n:Nat)(ρ :Nat->Option Nat)(m:Mem)(w:World):List AC->Nat->Value->Prop
 |[],_,_=>False
 |c::_,0,v=>AA T n ρ m w c v
 |_::l,j+1,v=>Aa T n ρ m w l j v
end
def BB (T:Tab)(n:Nat)(ρ :Nat->Option Nat)(m:Mem)(w:World)(id:Nat):Blk->Prop
 | .pad| .gone=>True
 | .cells l e=>∃b vs, ρ id=some b/\w.heap[b]? =some (.cells (vs:List Value).toArray e (0,0))/\AB T n ρ m w l vs
 | .tok x ks e=>x < n/\∃l,T x= .list l/\(ρ id=none\/∃b vs, ρ id=some b/\w.heap[b]? =some (.cells vs e (0,0))/\l.length*ks.length<=vs.size/\∀off,T.fr b off)
 | .lp x st=>∃(b:Nat) (q:Loop), ρ id=some b/\w.heap[b]? =some (.loop q)/\q.params=(T.lp x).ps/\q.assign=(T.lp x).assign/\q.body=(T.lp x).body/\q.tmps.size=(T.lp x).tmps.n/\(∀i c,(T.lp x).tmps.get i=some c->AA T n ρ m w c (q.tmps.getD i undef))/\
   ∃j,AA T n ρ m w st (.int .i64 j)/\((j=0/\q.state= .ready/\q.pending=none)\/(j= -1/\q.state= .busy)\/∃(k:Nat) (jp:UP),j=(k:Int)+1/\(T.lp x).jumps[k]? =some jp/\q.state= .done/\q.pending=some jp.code)
 | .mrow x y ks e=>(x < n/\y < n)/\∃l,T x= .list l/\T y= .int l.length/\(l.length<=AF/\ks≠[])/\
   ((ρ id=none/\l=[])\/∃b vs us, ρ id=some b/\w.heap[b]? =some (.cells (vs++us:List Value).toArray e (0,0))/\AU (AS T ρ m w) w ks l vs/\∀off,T.fr b off)
 | .mapb x kk ka vk va=>x < n/\∃l b es clock,T x= .list l/\ ρ id=some b/\w.heap[b]? =some (.map (es:List MapEntry).toArray clock)/\es.length=l.length/\l.length<=AF/\
   (∀(i:Nat) (us:List U) (e:MapEntry),l[i]? =some us->es[i]? =some e->∃u1 u2,us=u1++u2/\Bn (AS T ρ m w) w kk ka u1 e.key/\Bn (AS T ρ m w) w vk va u2 e.val)/\
   ∃base,clock=base+es.length/\∀(i:Nat) (e:MapEntry),es[i]? =some e->e.born=base+i
structure AD (T:Tab) (n:Nat) (ρ :Nat->Option Nat) (m:Mem) (w:World):Prop where
 blk:∀id,BB T n ρ m w id (m.at id)
 inj:∀id id' b,(m.at id).tracked=true->(m.at id').tracked=true-> ρ id=some b-> ρ id'=some b->id=id'
 fr:∀b off,w.heap.size<=b->T.fr b off
structure AE (T:Tab) (n:Nat) (ρ :Nat->Option Nat) (m:Mem) (w:World) (ρ':Nat->Option Nat) (m':Mem) (w':World):Prop where
 os:w'.os=w.os
 tape:w'.tape=w.tape
 output:w'.output=w.output
 size:w.heap.size<=w'.heap.size
 mlen:∀id,m.at id≠ .pad->m'.at id≠ .pad
 rho:∀id,(m.at id).ptrOk=true-> ρ' id= ρ id/\(m'.at id).ptrOk=true
 untr:∀id,m.at id≠ .pad->(m'.at id).tracked=true->(m.at id).tracked=true
 fresh:∀id b,m.at id= .pad->(m'.at id).tracked=true-> ρ' id=some b->w.heap.size<=b
 old:∀k,k < w.heap.size->(∀id,(m.at id).tracked=true-> ρ id≠some k)->w'.heap[k]? =w.heap[k]?
 tok:∀id x ks e,m.at id= .tok x ks e->(m'.at id= .tok x ks e/\ ρ' id= ρ id/\∀b, ρ id=some b->w'.heap[b]? =w.heap[b]?)\/
  ((∀b, ρ id=some b->∀off,off < Bu T x ks->w'.cell? ⟨b,off,none⟩=w.cell? ⟨b,off,none⟩)/\
   (m'.at id= .gone\/∃x' ks' e',m'.at id= .tok x' ks' e'/\n<=x'/\∀b', ρ' id=some b'->(ρ id=some b'/\Bu T x ks<=Bu T x' ks')\/w.heap.size<=b'))
 row:∀id x y ks e,m.at id= .mrow x y ks e->m'.at id= .gone\/∃x' y' ks',m'.at id= .mrow x' y' ks' e/\ks'.length=ks.length/\
  ((y'=y/\ ρ' id= ρ id/\∀b vs, ρ id=some b->w.heap[b]? =some (.cells vs e (0,0))->∃vs',w'.heap[b]? =some (.cells vs' e (0,0))/\vs'.size=vs.size)\/
   (n<=y'/\∀b', ρ' id=some b'-> ρ id=some b'\/w.heap.size<=b'))
end
section
open Go Go.RowKit
theorem Mem.at_ge {m:Mem}{id:Nat}(h:m.length<=id):m.at id= .pad:=by
 simp[Mem.at,wV h]
theorem Y7 {m:Mem}{id:Nat}(h:(m.at id).tracked=true):m.at id≠ .pad:=fun e=>by rw[e] at h;cases h
theorem A7 {m:Mem}{id:Nat}(h:(m.at id).ptrOk=true):m.at id≠ .pad:=fun e=>by rw[e] at h;cases h
theorem JU {m:Mem}{id:Nat}(h:(m.at id).tracked=true):(m.at id).ptrOk=true\/(∃x ks e,m.at id= .tok x ks e)\/∃x y ks e,m.at id= .mrow x y ks e:=by
 cases hx:m.at id with
 |pad=>rw[hx] at h;cases h
 |gone=>exact .inl rfl
 |cells l e=>exact .inl rfl
 |lp st q=>exact .inl rfl
 |mapb x kk ka vk va=>exact .inl rfl
 |tok x ks e=>exact .inr (.inl ⟨x,ks,e,rfl⟩)
 |mrow x y ks e=>exact .inr (.inr ⟨x,y,ks,e,rfl⟩)
theorem BY {w w':World}{b:Nat}(h:w'.heap[b]? =w.heap[b]?)(off:Nat):w'.cell? ⟨b,off,none⟩=w.cell? ⟨b,off,none⟩:=by
 simp only[World.cell?,h]
section
variable {T:Tab}{n n':Nat}{ρ ρ' ρ'':Nat->Option Nat}{m m' m'':Mem}{w w' w'':World}
theorem AE.refl (T:Tab)(n:Nat)(ρ :Nat->Option Nat)(m:Mem)(w:World):AE T n ρ m w ρ m w where
 os:=rfl
 tape:=rfl
 output:=rfl
 size:=vr _
 mlen:=fun _ h=>h
 rho:=fun _ h=>⟨rfl,h⟩
 untr:=fun _ _ h=>h
 fresh:=fun id b h ht _=>by rw[h] at ht;cases ht
 old:=fun _ _ _=>rfl
 tok:=fun _ _ _ _ h=> .inl ⟨h,rfl,fun _ _=>rfl⟩
 row:=fun _ x y ks e h=> .inr ⟨x,y,ks,h,rfl,.inl ⟨rfl,rfl,fun _ vs _ hv=>⟨vs,hv,rfl⟩⟩⟩
theorem AE.down (h:AE T n' ρ m w ρ' m' w')(hn:n<=n'):AE T n ρ m w ρ' m' w':=
 {h with
  tok:=fun id x ks e hx=>(h.tok id x ks e hx).imp (fun hh=>hh) fun⟨h1,h2⟩=>⟨h1,h2.imp (fun hh=>hh) fun⟨x',ks',e',h3,h4,h5⟩=>⟨x',ks',e',h3,wI hn h4,h5⟩⟩
  row:=fun id x y ks e hx=>(h.row id x y ks e hx).imp (fun hh=>hh) fun⟨x',y',ks',h1,h2,h3⟩=>⟨x',y',ks',h1,h2,h3.imp (fun hh=>hh) fun⟨h4,h5⟩=>⟨wI hn h4,h5⟩⟩ }
theorem AE.back (h:AE T n ρ m w ρ' m' w'){id b:Nat}(ht:(m'.at id).tracked=true)(hr: ρ' id=some b):
  w.heap.size<=b\/((m.at id).tracked=true/\ ρ id=some b):=by
 by_cases hp:m.at id= .pad
 .exact .inl (h.fresh id b hp ht hr)
 .have ht2:=h.untr id hp ht;rcases JU ht2 with hk|⟨x,ks,e,hx⟩|⟨x,y,ks,e,hx⟩;rotate_left 2
  .rcases h.row id x y ks e hx with h1|⟨x',y',ks',h1,_,⟨_,h3,_⟩|⟨_,h3⟩⟩
   .rw[h1] at ht;cases ht
   .exact .inr ⟨ht2,by rw[<-h3];exact hr⟩
   .rcases h3 b hr with h4|h4
    .exact .inr ⟨ht2,h4⟩
    .exact .inl h4
  .exact .inr ⟨ht2,by rw[<-(h.rho id hk).1];exact hr⟩
  .rcases h.tok id x ks e hx with⟨_,h2,_⟩|⟨_,h2|⟨x',ks',e',_,_,h3⟩⟩
   .exact .inr ⟨ht2,by rw[<-h2];exact hr⟩
   .rw[h2] at ht;cases ht
   .rcases h3 b hr with h4|h4
    .exact .inr ⟨ht2,h4.1⟩
    .exact .inl h4
theorem AE.lone (h:AE T n ρ m w ρ' m' w')(hm:AD T n ρ m w){id b:Nat}(ht:(m.at id).tracked=true)(hr: ρ id=some b)(hb:b < w.heap.size)
  (hn:(m'.at id).tracked=true-> ρ' id≠some b):∀id',(m'.at id').tracked=true-> ρ' id'≠some b:=by
 intro id' ht' he;rcases h.back ht' he with h1|⟨h1,h2⟩
 .omega
 .have:=hm.inj id' id b h1 ht h2 hr;subst this;exact hn ht' he
theorem AD.lt (hm:AD T n ρ m w){id b:Nat}(ht:(m.at id).tracked=true)(hr: ρ id=some b):b < w.heap.size:=by
 have h:=hm.blk id;cases hx:m.at id with
 |pad=>rw[hx] at ht;cases ht
 |gone=>rw[hx] at ht;cases ht
 |cells l e=>
  rw[hx] at h;obtain⟨b',vs,h1,h2,_⟩:=h;rw[hr] at h1;cases h1;exact (vx.1 h2).1
 |lp st q=>
  rw[hx] at h;obtain⟨b',q',h1,h2,_⟩:=h;rw[hr] at h1;cases h1;exact (vx.1 h2).1
 |tok x ks e=>
  rw[hx] at h;obtain⟨_,r,_,h1⟩:=h;rcases h1 with h1|⟨b',vs,h1,h2,_⟩
  .rw[hr] at h1;cases h1
  .rw[hr] at h1;cases h1;exact (vx.1 h2).1
 |mrow x y ks e=>
  rw[hx] at h;obtain⟨_,r,_,_,_,h1⟩:=h;rcases h1 with⟨h1,_⟩|⟨b',vs,us,h1,h2,_⟩
  .rw[hr] at h1;cases h1
  .rw[hr] at h1;cases h1;exact (vx.1 h2).1
 |mapb x kk ka vk va=>
  rw[hx] at h;obtain⟨_,_,b',es,cl,_,h1,h2,_⟩:=h;rw[hr] at h1;cases h1;exact (vx.1 h2).1
theorem AE.trans (h:AE T n ρ m w ρ' m' w')(hm:AD T n ρ m w)(hn:n<=n')(k:AE T n' ρ' m' w' ρ'' m'' w''):AE T n ρ m w ρ'' m'' w'' where
 os:=k.os.trans h.os
 tape:=k.tape.trans h.tape
 output:=k.output.trans h.output
 size:=wI h.size k.size
 mlen:=fun id hp=>k.mlen id (h.mlen id hp)
 rho:=fun id ht=>
  have h1:=h.rho id ht;have h2:=k.rho id h1.2
  ⟨h2.1.trans h1.1,h2.2⟩
 untr:=fun id hp ht=>h.untr id hp (k.untr id (h.mlen id hp) ht)
 fresh:=by
  intro id b hp ht he;rcases k.back ht he with h1|⟨h1,h2⟩
  .exact wI h.size h1
  .exact h.fresh id b hp h1 h2
 old:=by
  intro j hj hno;have h1:=h.old j hj hno;rw[<-h1];refine k.old j (vw hj h.size) ?_;intro id ht he;rcases h.back ht he with h1|⟨h1,h2⟩
  .omega
  .exact hno id h1 h2
 tok:=by
  intro id x ks e hx;have htr:(m.at id).tracked=true:=by rw[hx];rfl
  have hne:m.at id≠ .pad:=Y7 htr;rcases h.tok id x ks e hx with⟨h1,h2,h3⟩|⟨h1,h2⟩
  .rcases k.tok id x ks e h1 with⟨k1,k2,k3⟩|⟨k1,k2⟩
   .refine .inl ⟨k1,k2.trans h2,fun b hb=>?_⟩;rw[k3 b (by rw[h2];exact hb),h3 b hb]
   .refine .inr ⟨fun b hb off ho=>?_,?_⟩
    .rw[k1 b (by rw[h2];exact hb) off ho];exact BY (h3 b hb) off
    .rcases k2 with k2|⟨x',ks',e',k2,k3,k4⟩
     .exact .inl k2
     .refine .inr ⟨x',ks',e',k2,wI hn k3,fun b' hb'=>?_⟩;rcases k4 b' hb' with k5|k5
      .exact .inl ⟨by rw[<-h2];exact k5.1,k5.2⟩
      .exact .inr (wI h.size k5)
  .
   have gone:(∀b, ρ id=some b->((m'.at id).tracked=true-> ρ' id≠some b))->(∀b, ρ id=some b->∀off,off < Bu T x ks->w''.cell? ⟨b,off,none⟩=w.cell? ⟨b,off,none⟩):=by
    intro hn b hb off ho;rw[<-h1 b hb off ho];have hlt:=hm.lt htr hb;exact BY (k.old b (vw hlt h.size) (h.lone hm htr hb hlt (hn b hb))) off
   rcases h2 with h2|⟨x',ks',e',h2,h3,h4⟩
   .refine .inr ⟨gone (fun b hb ht=>by rw[h2] at ht;cases ht),?_⟩;have h6:=k.mlen id (h.mlen id hne);cases hx2:m''.at id with
    |pad=>exact absurd hx2 h6
    |gone=>exact .inl rfl
    |cells l e2=>
     have:=k.untr id (h.mlen id hne) (by rw[hx2];rfl);rw[h2] at this;cases this
    |lp st2 q2=>
     have:=k.untr id (h.mlen id hne) (by rw[hx2];rfl);rw[h2] at this;cases this
    |mrow=>
     have:=k.untr id (h.mlen id hne) (by rw[hx2];rfl);rw[h2] at this;cases this
    |mapb=>
     have:=k.untr id (h.mlen id hne) (by rw[hx2];rfl);rw[h2] at this;cases this
    |tok x2 ks2 e2=>
     have:=k.untr id (h.mlen id hne) (by rw[hx2];rfl);rw[h2] at this;cases this
   .have keep:∀b, ρ id=some b->∀off,off < Bu T x ks->w''.cell? ⟨b,off,none⟩=w.cell? ⟨b,off,none⟩:=by
     intro b hb off ho;by_cases he: ρ' id=some b
     .have hp:Bu T x ks<=Bu T x' ks':=by
       rcases h4 b he with h5|h5
       .exact h5.2
       .have:=hm.lt htr hb;omega
      rcases k.tok id x' ks' e' h2 with⟨_,_,k3⟩|⟨k1,_⟩
      .rw[BY (k3 b he) off];exact h1 b hb off ho
      .rw[k1 b he off (vw ho hp)];exact h1 b hb off ho
     .rw[<-h1 b hb off ho];have hlt:=hm.lt htr hb;exact BY (k.old b (vw hlt h.size) (h.lone hm htr hb hlt (fun _=>he))) off
    refine .inr ⟨keep,?_⟩;rcases k.tok id x' ks' e' h2 with⟨k1,k2,k3⟩|⟨k1,k2⟩
    .refine .inr ⟨x',ks',e',k1,h3,fun b' hb'=>h4 b' (by rw[<-k2];exact hb')⟩
    .rcases k2 with k2|⟨x2,ks2,e2,k2,k3,k4⟩
     .exact .inl k2
     .refine .inr ⟨x2,ks2,e2,k2,wI hn k3,fun b' hb'=>?_⟩;rcases k4 b' hb' with k5|k5
      .rcases h4 b' k5.1 with h5|h5
       .exact .inl ⟨h5.1,wI h5.2 k5.2⟩
       .exact .inr h5
      .exact .inr (wI h.size k5)
 row:=by
  intro id x y ks e hx;have gone:m'.at id= .gone->m''.at id= .gone:=fun h1=>by
   have hne:=k.mlen id (by rw[h1];exact fun h=>by cases h);by_cases ht:(m''.at id).tracked=true
   .have:=k.untr id (by rw[h1];exact fun h=>by cases h) ht;rw[h1] at this;cases this
   .cases hx2:m''.at id<;>rw[hx2] at ht hne<;>first|rfl|exact absurd rfl hne|exact absurd rfl ht
  rcases h.row id x y ks e hx with h1|⟨x',y',ks',h1,h2,h3⟩
  .exact .inl (gone h1)
  .rcases k.row id x' y' ks' e h1 with k1|⟨x2,y2,ks2,k1,k2,k3⟩
   .exact .inl k1
   .refine .inr ⟨x2,y2,ks2,k1,k2.trans h2,?_⟩;rcases k3 with⟨k3,k4,k5⟩|⟨k3,k4⟩
    .rcases h3 with⟨h3,h4,h5⟩|⟨h3,h4⟩
     .refine .inl ⟨k3.trans h3,k4.trans h4,fun b vs hb hv=>?_⟩;obtain⟨vs',q1,q2⟩:=h5 b vs hb hv;obtain⟨vs2,q3,q4⟩:=k5 b vs' (by rw[h4];exact hb) q1;exact⟨vs2,q3,q4.trans q2⟩
     .exact .inr ⟨by rw[k3];exact h3,fun b' hb'=>h4 b' (by rw[<-k4];exact hb')⟩
    .refine .inr ⟨wI hn k3,fun b' hb'=>?_⟩;rcases k4 b' hb' with k5|k5
     .rcases h3 with⟨_,h4,_⟩|⟨_,h4⟩
      .exact .inl (by rw[<-h4];exact k5)
      .exact h4 b' k5
     .exact .inr (wI h.size k5)
theorem AE.safe0 (h:AE T n ρ m w ρ' m' w'){b off:Nat}(hs:AS T ρ m w b off):
  AS T ρ' m' w' b off/\w'.cell? ⟨b,off,none⟩=w.cell? ⟨b,off,none⟩:=by
 obtain⟨hb,hf,hs⟩:=hs;have key:∀id,(m.at id).tracked=true-> ρ id=some b->∃x ks e,m.at id= .tok x ks e/\off < Bu T x ks:=by
  intro id ht he;have:=hs id;cases hx:m.at id with
  |pad=>rw[hx] at ht;cases ht
  |gone=>rw[hx] at ht;cases ht
  |cells l e=>rw[hx] at this;exact absurd he this
  |lp st q=>rw[hx] at this;exact absurd he this
  |mrow x y ks e=>rw[hx] at this;exact absurd he this
  |mapb x kk ka vk va=>rw[hx] at this;exact absurd he this
  |tok x ks e=>rw[hx] at this;exact⟨x,ks,e,rfl,this he⟩
 have not:∀id,(m'.at id).tracked=true->(∀x ks e,m'.at id≠ .tok x ks e)-> ρ' id≠some b:=by
  intro id ht hp he;rcases h.back ht he with h1|⟨h1,h2⟩
  .omega
  .obtain⟨x,ks,e',hx,_⟩:=key id h1 h2;rcases h.tok id x ks e' hx with⟨h1,_⟩|⟨_,h1|⟨x',ks',e',h1,_⟩⟩
   .exact hp _ _ _ h1
   .rw[h1] at ht;cases ht
   .exact hp _ _ _ h1
 refine⟨⟨vw hb h.size,hf,fun id=>?_⟩,?_⟩
 .cases hx':m'.at id with
  |pad=>trivial
  |gone=>trivial
  |cells l e=>exact not id (by rw[hx'];rfl) (by rw[hx'];exact fun _ _ _ h=>by cases h)
  |lp st q=>exact not id (by rw[hx'];rfl) (by rw[hx'];exact fun _ _ _ h=>by cases h)
  |mrow x y ks e=>exact not id (by rw[hx'];rfl) (by rw[hx'];exact fun _ _ _ h=>by cases h)
  |mapb x kk ka vk va=>exact not id (by rw[hx'];rfl) (by rw[hx'];exact fun _ _ _ h=>by cases h)
  |tok x' ks' e'=>
   intro he;rcases h.back (by rw[hx'];rfl) he with h1|⟨h1,h2⟩
   .omega
   .obtain⟨x,ks,e2,hx,ho⟩:=key id h1 h2;rcases h.tok id x ks e2 hx with⟨h1,h2,_⟩|⟨_,h1|⟨x2,ks2,e3,h1,_,h3⟩⟩
    .rw[hx'] at h1;cases h1;exact ho
    .rw[hx'] at h1;cases h1
    .rw[hx'] at h1;cases h1;rcases h3 b he with h4|h4
     .exact vw ho h4.2
     .omega
 .by_cases hex:∃id,(m.at id).tracked=true/\ ρ id=some b
  .obtain⟨id,ht,he⟩:=hex;obtain⟨x,ks,e,hx,ho⟩:=key id ht he;rcases h.tok id x ks e hx with⟨_,_,h3⟩|⟨h1,_⟩
   .exact BY (h3 b he) off
   .exact h1 b he off ho
  .exact BY (h.old b hb (fun id ht he=>hex ⟨id,ht,he⟩)) off
theorem AE.safe (h:AE T n ρ m w ρ' m' w')(_hm:AD T n ρ m w){b off:Nat}(hs:AS T ρ m w b off):
  AS T ρ' m' w' b off/\w'.cell? ⟨b,off,none⟩=w.cell? ⟨b,off,none⟩:=h.safe0 hs
end
mutual
theorem AM.mono {ok ok':Nat->Nat->Prop}{w w':World}(h:∀b off,ok b off->ok' b off/\w'.cell? ⟨b,off,none⟩=w.cell? ⟨b,off,none⟩):
  ∀(k:Kd) (u:U) (v:Value),AM ok w k u v->AM ok' w' k u v
 | .int _ _ _,_,_,hh=>hh
 | .bool,_,_,hh=>hh
 | .str,_,_,hh=>hh
 | .val,_,_,hh=>hh
 | .any,_,_,hh=>hh
 | .list ks,u,v,⟨l,h0,h1,h2,a,cap,h3,h4,h5⟩=>by
  refine⟨l,h0,h1,h2,a,cap,h3,h4,fun hl=>?_⟩;obtain⟨b,o,hb,hc⟩:=h5 hl;exact⟨b,o,hb,fun i us hi=>AX.mono h ks b _ us (hc i us hi)⟩
theorem AX.mono {ok ok':Nat->Nat->Prop}{w w':World}(h:∀b off,ok b off->ok' b off/\w'.cell? ⟨b,off,none⟩=w.cell? ⟨b,off,none⟩):
  ∀(ks:List Kd) (b off:Nat) (us:List U),AX ok w ks b off us->AX ok' w' ks b off us
 |[],_,_,_,hh=>hh
 |k::ks,b,off,us,⟨u,us',e,⟨h1,v,h2,h3⟩,h4⟩=>
  ⟨u,us',e,⟨(h b off h1).1,v,by rw[(h b off h1).2];exact h2,AM.mono h k u v h3⟩,AX.mono h ks b _ us' h4⟩
end
section
variable {T:Tab}{n n':Nat}{ρ ρ':Nat->Option Nat}{m m':Mem}{w w':World}
theorem AE.link0 (h:AE T n ρ m w ρ' m' w'){id x:Nat}{v:Value}(hx:x < n)(hid:m.at id≠ .pad)
  (hl:∀ks e,m.at id= .tok x ks e->Q0 T ρ w id x ks e v):∀ks e,m'.at id= .tok x ks e->Q0 T ρ' w' id x ks e v:=by
 intro ks e he;have ht:=h.untr id hid (by rw[he];rfl);rcases JU ht with hk|⟨x0,ks0,e0,hx0⟩|⟨x0,y0,ks0,e0,hx0⟩;rotate_left 2
 .rcases h.row id x0 y0 ks0 e0 hx0 with h1|⟨_,_,_,h1,_⟩<;>rw[he] at h1<;>cases h1
 .have:=(h.rho id hk).2;rw[he] at this;cases this
 .rcases h.tok id x0 ks0 e0 hx0 with⟨h1,h2,h3⟩|⟨_,h1|⟨x',ks',e',h1,h4,_⟩⟩
  .rw[he] at h1;cases h1;rcases hl ks e hx0 with⟨l1,l2⟩|⟨b,cap,vs,l1,l2,l3,l4⟩
   .exact .inl ⟨by rw[h2];exact l1,l2⟩
   .exact .inr ⟨b,cap,vs,by rw[h2];exact l1,l2,by rw[h3 b l1];exact l3,l4⟩
  .rw[he] at h1;cases h1
  .rw[he] at h1;cases h1;omega
theorem AE.linkR (h:AE T n ρ m w ρ' m' w'){id x:Nat}{v:Value}(hx:x < n)(hid:m.at id≠ .pad)
  (hl:∀ks e,m.at id= .tok x ks e->Po ρ w id ks e v):∀ks e,m'.at id= .tok x ks e->Po ρ' w' id ks e v:=by
 intro ks e he;have ht:=h.untr id hid (by rw[he];rfl);rcases JU ht with hk|⟨x0,ks0,e0,hx0⟩|⟨x0,y0,ks0,e0,hx0⟩;rotate_left 2
 .rcases h.row id x0 y0 ks0 e0 hx0 with h1|⟨_,_,_,h1,_⟩<;>rw[he] at h1<;>cases h1
 .have:=(h.rho id hk).2;rw[he] at this;cases this
 .rcases h.tok id x0 ks0 e0 hx0 with⟨h1,h2,h3⟩|⟨_,h1|⟨x',ks',e',h1,h4,_⟩⟩
  .rw[he] at h1;cases h1;rcases hl ks e hx0 with⟨l1,l2⟩|⟨b,len,cap,vs,l1,l2,l0,l3,l4⟩
   .exact .inl ⟨by rw[h2];exact l1,l2⟩
   .exact .inr ⟨b,len,cap,vs,by rw[h2];exact l1,l2,l0,by rw[h3 b l1];exact l3,l4⟩
  .rw[he] at h1;cases h1
  .rw[he] at h1;cases h1;omega
theorem AE.linkM (h:AE T n ρ m w ρ' m' w'){id y:Nat}{a:Option Addr}{cap:Nat}(hy:y < n)(hid:m.at id≠ .pad)
  (hl:∀x ks e,m.at id= .mrow x y ks e->Ng ρ w id ks e a cap):∀x ks e,m'.at id= .mrow x y ks e->Ng ρ' w' id ks e a cap:=by
 intro x ks e he;have ht:=h.untr id hid (by rw[he];rfl);rcases JU ht with hk|⟨x0,ks0,e0,hx0⟩|⟨x0,y0,ks0,e0,hx0⟩
 .have:=(h.rho id hk).2;rw[he] at this;cases this
 .rcases h.tok id x0 ks0 e0 hx0 with⟨h1,_⟩|⟨_,h1|⟨_,_,_,h1,_⟩⟩<;>rw[he] at h1<;>cases h1
 .rcases h.row id x0 y0 ks0 e0 hx0 with h1|⟨x',y',ks',h1,h2,h3⟩
  .rw[he] at h1;cases h1
  .rw[he] at h1;cases h1;rcases h3 with⟨h3,h4,h5⟩|⟨h3,_⟩
   .subst h3;rcases hl x0 ks0 e hx0 with⟨l1,l2⟩|⟨b,vs,l1,l2,l3,l4⟩
    .exact .inl ⟨by rw[h4];exact l1,l2⟩
    .obtain⟨vs',q1,q2⟩:=h5 b vs l1 l3;exact .inr ⟨b,vs',by rw[h4];exact l1,l2,q1,by rw[q2,h2];exact l4⟩
   .omega
theorem AE.ptrM (h:AE T n ρ m w ρ' m' w'){id y b:Nat}(hy:y < n)(hid:m.at id≠ .pad)
  (hl:∀x ks e,m.at id= .mrow x y ks e-> ρ id=some b):∀x ks e,m'.at id= .mrow x y ks e-> ρ' id=some b:=by
 intro x ks e he;have ht:=h.untr id hid (by rw[he];rfl);rcases JU ht with hk|⟨x0,ks0,e0,hx0⟩|⟨x0,y0,ks0,e0,hx0⟩
 .have:=(h.rho id hk).2;rw[he] at this;cases this
 .rcases h.tok id x0 ks0 e0 hx0 with⟨h1,_⟩|⟨_,h1|⟨_,_,_,h1,_⟩⟩<;>rw[he] at h1<;>cases h1
 .rcases h.row id x0 y0 ks0 e0 hx0 with h1|⟨x',y',ks',h1,h2,h3⟩
  .rw[he] at h1;cases h1
  .rw[he] at h1;cases h1;rcases h3 with⟨h3,h4,_⟩|⟨h3,_⟩
   .subst h3;rw[h4];exact hl x0 ks0 e hx0
   .omega
theorem AJ.mono {ok ok':Nat->Nat->Prop}{w w':World}(h:∀b off,ok b off->ok' b off/\w'.cell? ⟨b,off,none⟩=w.cell? ⟨b,off,none⟩):∀{ks:List Kd} {us:List U} {vs:List Value},AJ ok w ks us vs->AJ ok' w' ks us vs
 |[],_,_,hh=>hh
 |_::_,_,_,⟨u,us',v,vs',h1,h2,h3,h4⟩=>⟨u,us',v,vs',h1,h2,AM.mono h _ _ _ h3,AJ.mono h h4⟩
theorem Ao.mono {ok ok':Nat->Nat->Prop}{w w':World}(h:∀b off,ok b off->ok' b off/\w'.cell? ⟨b,off,none⟩=w.cell? ⟨b,off,none⟩){ks:List Kd}:∀{l:List (List U)} {vss:List (List Value)},Ao ok w ks l vss->Ao ok' w' ks l vss
 |[],_,hh=>hh
 |_::_,_,⟨vs,vss',h1,h2,h3⟩=>⟨vs,vss',h1,AJ.mono h h2,Ao.mono h h3⟩
theorem AU.mono {ok ok':Nat->Nat->Prop}{w w':World}(h:∀b off,ok b off->ok' b off/\w'.cell? ⟨b,off,none⟩=w.cell? ⟨b,off,none⟩){ks:List Kd}{l:List (List U)}{vs:List Value}:AU ok w ks l vs->AU ok' w' ks l vs
 |⟨vss,h1,h2⟩=>⟨vss,h1,Ao.mono h h2⟩
theorem Bn.mono {ok ok':Nat->Nat->Prop}{w w':World}(h:∀b off,ok b off->ok' b off/\w'.cell? ⟨b,off,none⟩=w.cell? ⟨b,off,none⟩){ks:List Kd}{ag:Bool}{us:List U}{v:Value}:Bn ok w ks ag us v->Bn ok' w' ks ag us v
 |⟨vs,h1,h2⟩=>⟨vs,AJ.mono h h1,h2⟩
mutual
theorem AA.mono0 (h:AE T n ρ m w ρ' m' w')(hn:n<=n'):∀(c:AC) (v:Value),AA T n ρ m w c v->AA T n' ρ' m' w' c v
 | .any,_,_=>trivial
 | .anyc,_,hh=>hh
 | .on _ a,v,hh=>⟨vw hh.1 hn,fun hc=>AA.mono0 h hn a v (hh.2 hc)⟩
 | .gd _ a,v,hh=>⟨vw hh.1 hn,fun hc=>AA.mono0 h hn a v (hh.2.1 hc),hh.2.2⟩
 | .cb _,_,hh=>hh
 | .b _,_,⟨h0,hh⟩=>⟨vw h0 hn,hh⟩
 | .nb _,_,⟨h0,hh⟩=>⟨vw h0 hn,hh⟩
 | .ci _ _,_,hh=>hh
 | .i _ _ _ _,_,⟨h0,hh⟩=>⟨vw h0 hn,hh⟩
 | .cv _,_,hh=>hh
 | .v _,_,⟨h0,hh⟩=>⟨vw h0 hn,hh⟩
 | .s _,_,⟨h0,hh⟩=>⟨vw h0 hn,hh⟩
 | .ptr id off,v,⟨b,h1,h2,h3⟩=>⟨b,by rw[(h.rho id h3).1];exact h1,h2,(h.rho id h3).2⟩
 | .pix id base stride cnt x plus,v,⟨h0,b,j,h1,h2,h5,h6,h7,h3⟩=>
  ⟨vw h0 hn,b,j,by rw[(h.rho id h3).1];exact h1,h2,h5,h6,h7,(h.rho id h3).2⟩
 | .ro x ks,v,⟨h0,h2⟩=>⟨vw h0 hn,AM.mono (fun _ _ hs=>h.safe0 hs) _ _ v h2⟩
 | .rp x t off ks,v,⟨h0,j,b,o,us,h2,h3,h4,h5,h6⟩=>⟨⟨vw h0.1 hn,vw h0.2 hn⟩,j,b,o,us,h2,h3,h4,h5,AX.mono (fun _ _ hs=>h.safe0 hs) _ _ _ _ h6⟩
 | .vec id x ks,v,⟨h2,h3,h4,h5⟩=>
  ⟨vw h2 hn,h.mlen id h3,AM.mono (fun _ _ hs=>h.safe0 hs) _ _ v h4,h.link0 h2 h3 h5⟩
 | .fn f first cap,v,⟨vs,us,h1,h2,h3⟩=>⟨vs,us,h1,AB.mono0 h hn first vs h2,AB.mono0 h hn cap us h3⟩
 | .sel x alts,v,⟨h0,j,h1,h2,h3⟩=>⟨vw h0 hn,j,h1,h2,Aa.mono0 h hn alts j.toNat v h3⟩
 | .yl id,v,⟨b,h1,h2,h3⟩=>⟨b,by rw[(h.rho id h3).1];exact h1,h2,(h.rho id h3).2⟩
 | .asl id off len,v,⟨b,h1,h2,h3⟩=>⟨b,by rw[(h.rho id h3).1];exact h1,h2,(h.rho id h3).2⟩
 | .rsv id x ks,v,⟨h2,h3,h4,h6,h5⟩=>⟨vw h2 hn,h.mlen id h3,h4,h6,h.linkR h2 h3 h5⟩
 | .mr id y,v,⟨⟨h0,h3⟩,j,a,cap,h1,h2,h4,h5,h6⟩=>⟨⟨vw h0 hn,h.mlen id h3⟩,j,a,cap,h1,h2,h4,h5,h.linkM h0 h3 h6⟩
 | .mp id y t sz off,v,⟨⟨h0,h0',h3⟩,j,L,b,h1,h2,h4,h5,h6⟩=>⟨⟨vw h0 hn,vw h0' hn,h.mlen id h3⟩,j,L,b,h1,h2,h4,h5,h.ptrM h0 h3 h6⟩
 | .mv id,v,⟨b,h1,h2,h3⟩=>⟨b,by rw[(h.rho id h3).1];exact h1,h2,(h.rho id h3).2⟩
 | .agg l,v,⟨vs,h1,h2⟩=>⟨vs,h1,AB.mono0 h hn l vs h2⟩
 | .tup l,v,⟨vs,h1,h2⟩=>⟨vs,h1,AB.mono0 h hn l vs h2⟩
theorem AB.mono0 (h:AE T n ρ m w ρ' m' w')(hn:n<=n'):∀(l:List AC) (vs:List Value),AB T n ρ m w l vs->AB T n' ρ' m' w' l vs
 |[],_,hh=>hh
 |c::l,_,⟨u,us,h1,h2,h3⟩=>⟨u,us,h1,AA.mono0 h hn c u h2,AB.mono0 h hn l us h3⟩
theorem Aa.mono0 (h:AE T n ρ m w ρ' m' w')(hn:n<=n'):∀(l:List AC) (j:Nat) (v:Value),Aa T n ρ m w l j v->Aa T n' ρ' m' w' l j v
 |[],_,_,hh=>hh
 |c::_,0,v,hh=>AA.mono0 h hn c v hh
 |_::l,j+1,v,hh=>Aa.mono0 h hn l j v hh
end
theorem AA.mono (h:AE T n ρ m w ρ' m' w')(_hm:AD T n ρ m w)(hn:n<=n')(c:AC)(v:Value)(hh:AA T n ρ m w c v):AA T n' ρ' m' w' c v:=AA.mono0 h hn c v hh
theorem AB.mono (h:AE T n ρ m w ρ' m' w')(_hm:AD T n ρ m w)(hn:n<=n')(l:List AC)(vs:List Value)(hh:AB T n ρ m w l vs):AB T n' ρ' m' w' l vs:=AB.mono0 h hn l vs hh
theorem AB.length:∀{l:List AC} {vs:List Value},AB T n ρ m w l vs->vs.length=l.length
 |[],_,h=>by cases h;rfl
 |_::l,_,⟨u,us,h1,_,h3⟩=>by subst h1;simp[AB.length h3]
theorem AB.get:∀{l:List AC} {vs:List Value},AB T n ρ m w l vs->∀{i:Nat} {c:AC},l[i]? =some c->∃u,vs[i]? =some u/\AA T n ρ m w c u
 |_::_,_,⟨u,us,h1,h2,_⟩,0,c,hc=>by subst h1;simp at hc;subst hc;exact⟨u,by simp,h2⟩
 |_::l,_,⟨u,us,h1,_,h3⟩,i+1,c,hc=>by subst h1;simp at hc;simpa using AB.get h3 hc
 |[],_,_,_,_,hc=>by simp at hc
theorem AB.of_get:∀{l:List AC} {vs:List Value},vs.length=l.length->(∀(i:Nat) (c:AC) (u:Value),l[i]? =some c->vs[i]? =some u->AA T n ρ m w c u)->AB T n ρ m w l vs
 |[],[],_,_=>rfl
 |[],_::_,h,_=>by simp at h
 |_::_,[],h,_=>by simp at h
 |c::l,u::us,h,k=>⟨u,us,rfl,k 0 c u rfl rfl,AB.of_get (by simpa using h) (fun i c' u' hc hu=>k (i+1) c' u' (by simpa using hc) (by simpa using hu))⟩
theorem AB.set {l:List AC}{vs:List Value}(h:AB T n ρ m w l vs)(i:Nat){c:AC}{u:Value}(hc:AA T n ρ m w c u):AB T n ρ m w (l.set i c) (vs.set i u):=by
 refine AB.of_get (by simp[h.length]) ?_;intro j c' u' h1 h2;rw[List.getElem?_set] at h1 h2;by_cases e:i=j
 .subst e;simp only[if_true] at h1 h2;split at h1
  .cases h1;split at h2
   .cases h2;exact hc
   .cases h2
  .cases h1
 .simp only[e,if_false] at h1 h2;obtain⟨u2,h3,h4⟩:=h.get h1;rw[h2] at h3;cases h3;exact h4
theorem AB.drop {l:List AC}{vs:List Value}(h:AB T n ρ m w l vs)(k:Nat):AB T n ρ m w (l.drop k) (vs.drop k):=by
 refine AB.of_get (by simp[h.length]) ?_;intro j c u h1 h2;simp only[List.getElem?_drop] at h1 h2;obtain⟨u2,h3,h4⟩:=h.get h1;rw[h2] at h3;cases h3;exact h4
theorem AB.take {l:List AC}{vs:List Value}(h:AB T n ρ m w l vs)(k:Nat):AB T n ρ m w (l.take k) (vs.take k):=by
 refine AB.of_get (by simp[h.length]) ?_;intro j c u h1 h2;simp only[List.getElem?_take] at h1 h2;split at h1
 .rename_i hj;simp only[hj,if_true] at h2;obtain⟨u2,h3,h4⟩:=h.get h1;rw[h2] at h3;cases h3;exact h4
 .cases h1
theorem AB.append {l l':List AC}{vs vs':List Value}(h:AB T n ρ m w l vs)(h':AB T n ρ m w l' vs'):AB T n ρ m w (l++l') (vs++vs'):=by
 refine AB.of_get (by simp[h.length,h'.length]) ?_;intro j c u h1 h2;rw[List.getElem?_append] at h1 h2;rw[h.length] at h2;split at h1
 .rename_i hj;simp only[hj,if_true] at h2;obtain⟨u2,h3,h4⟩:=h.get h1;rw[h2] at h3;cases h3;exact h4
 .rename_i hj;simp only[hj,if_false] at h2;obtain⟨u2,h3,h4⟩:=h'.get h1;rw[h2] at h3;cases h3;exact h4
end
end
section
open Go Go.RowKit
abbrev PC:=Option Nat
structure Ob where
 pc:PC
 p:Pr
structure G where
 n:Nat
 eqs:List (Nat × Ex)
 obs:List Ob
 lps:List (Nat × CA):=[]
structure R where
 c:AC
 m:Mem
 us:List Ex:=[]
 ps:List Pr:=[]
def G3:Nat->List Ex->List (Nat × Ex)->List (Nat × Ex)
 |_,[],acc=>acc
 |n,e::es,acc=>G3 (n+1) es ((n,e)::acc)
def G.pushAll (g:G):List Ex->G
 |[]=>g
 |us=>{ g with n:=g.n+us.length,eqs:=G3 g.n us g.eqs }
def pcv (T:Tab):PC->Prop
 |none=>True
 |some c=>T c= .bool true
def Ob.holds (T:Tab)(o:Ob):Prop:=pcv T o.pc->o.p.holds T
def G.needAll (g:G)(pc:PC)(ps:List Pr):G:=
 match ps with
 |[]=>g
 |ps=>{ g with obs:=ps.map (Ob.mk pc)++g.obs }
structure Agr (T:Tab) (g:G):Prop where
 eqs:∀p∈g.eqs,T p.1=p.2.eval T
 lps:∀p∈g.lps,T.lp p.1=p.2
def AY (T:Tab)(g:G):Prop:=∀o∈g.obs,o.holds T
def New (T:Tab)(n:Nat)(us:List Ex):Prop:=∀j u,us[j]? =some u->T (n+j)=u.eval T
theorem New.nil (T:Tab)(n:Nat):New T n []:=fun j u h=>by simp at h
theorem New.left {T:Tab}{n:Nat}{us us':List Ex}(h:New T n (us++us')):New T n us:=fun j u hj=>
 h j u (by rw[wE (vu.1 hj).1];exact hj)
theorem New.right {T:Tab}{n:Nat}{us us':List Ex}(h:New T n (us++us')):New T (n+us.length) us':=fun j u hj=>by
 rw[Nat.add_assoc];exact h _ u (by rw[wF (by omega)];simpa using hj)
theorem New.head {T:Tab}{n:Nat}{u:Ex}{us:List Ex}(h:New T n (u::us)):T n=u.eval T:=h 0 u rfl
theorem Gr:∀(us:List Ex) (n:Nat) (acc:List (Nat × Ex)) (p:Nat × Ex),p∈G3 n us acc↔p∈acc\/∃j u,us[j]? =some u/\p=(n+j,u)
 |[],n,acc,p=>by simp[G3]
 |e::es,n,acc,p=>by
  rw[G3,Gr es (n+1)];constructor
  .rintro (h|⟨j,u,h1,h2⟩)
   .cases h with
    |head=>exact .inr ⟨0,e,rfl,rfl⟩
    |tail _ h=>exact .inl h
   .exact .inr ⟨j+1,u,by simpa using h1,by rw[h2];congr 1;omega⟩
  .rintro (h|⟨j,u,h1,h2⟩)
   .exact .inl (vz _ h)
   .cases j with
    |zero=>simp at h1;subst h1;subst h2;exact .inl (wA ..)
    |succ j=>exact .inr ⟨j,u,by simpa using h1,by rw[h2];congr 1;omega⟩
def Kd.isAny:Kd->Bool| .any=>true|_=>false
mutual
def Kd.join:Kd->Kd->Kd
 | .int k lo hi,.int k' lo' hi'=>if k=k' then .int k (min lo lo') (max hi hi') else .any
 | .bool,.bool=> .bool
 | .str,.str=> .str
 | .val,.val=> .val
 | .list ks,.list ks'=>
  match ks,ks' with
  |[],ks'=> .list ks'
  |ks,[]=> .list ks
  |ks,ks'=>if ks.length=ks'.length then .list (Kd.joins ks ks') else .any
 |_,_=> .any
def Kd.joins:List Kd->List Kd->List Kd
 |k::ks,k'::ks'=>Kd.join k k'::Kd.joins ks ks'
 |_,_=>[]
end
mutual
def Kd.beq:Kd->Kd->Bool
 | .int k lo hi,.int k' lo' hi'=>decide (k=k')&&decide (lo=lo')&&decide (hi=hi')
 | .bool,.bool=>true
 | .str,.str=>true
 | .val,.val=>true
 | .any,.any=>true
 | .list ks,.list ks'=>Kd.beqs ks ks'
 |_,_=>false
def Kd.beqs:List Kd->List Kd->Bool
 |[],[]=>true
 |k::ks,k'::ks'=>Kd.beq k k'&&Kd.beqs ks ks'
 |_,_=>false
end
mutual
theorem Kd.beq_eq:∀(k k':Kd),Kd.beq k k'=true->k=k'
 | .int _ _ _,d,h=>by cases d<;>simp_all [Kd.beq]
 | .bool,d,h=>by cases d<;>simp_all [Kd.beq]
 | .str,d,h=>by cases d<;>simp_all [Kd.beq]
 | .val,d,h=>by cases d<;>simp_all [Kd.beq]
 | .any,d,h=>by cases d<;>simp_all [Kd.beq]
 | .list ks,d,h=>by
  cases d<;>simp[Kd.beq] at h;rw[Kd.beqs_eq ks _ h]
theorem Kd.beqs_eq:∀(k k':List Kd),Kd.beqs k k'=true->k=k'
 |[],d,h=>by cases d<;>simp_all [Kd.beqs]
 |k::ks,d,h=>by
  cases d<;>simp[Kd.beqs] at h;rw[Kd.beq_eq k _ h.1,Kd.beqs_eq ks _ h.2]
end
theorem Kd.joins_len:∀(ks ks':List Kd),ks.length=ks'.length->(Kd.joins ks ks').length=ks.length
 |[],[],_=>rfl
 |[],_::_,h=>by simp at h
 |_::_,[],h=>by simp at h
 |k::ks,k'::ks',hl=>by simp[Kd.joins,Kd.joins_len ks ks' (by simpa using hl)]
section
variable {ok:Nat->Nat->Prop}{w:World}
theorem AM.one {k:Kd}{u:U}{v:Value}(h:AM ok w k u v):v.oneCell'=true:=by
 cases k with
 |int=>obtain⟨_,_,h,_⟩:=h;rw[h];rfl
 |bool=>obtain⟨_,_,h⟩:=h;rw[h];rfl
 |str=>obtain⟨_,_,h,_⟩:=h;rw[h];rfl
 |val=>exact h.2
 |any=>exact h
 |list ks=>obtain⟨_,_,_,_,_,_,h,_⟩:=h;rw[h];rfl
mutual
theorem Kd.join_l:∀(k k':Kd) (u:U) (v:Value),AM ok w k u v->AM ok w (Kd.join k k') u v
 | .int k lo hi,k',u,v,h=>by
  cases k'<;>try (exact h.one)
  rename_i j lo' hi';simp only[Kd.join];split
  .obtain⟨n,h1,h2,h3,h4⟩:=h;exact⟨n,h1,h2,by omega,by omega⟩
  .exact h.one
 | .bool,k',u,v,h=>by cases k'<;>first|exact h|exact h.one
 | .str,k',u,v,h=>by cases k'<;>first|exact h|exact h.one
 | .val,k',u,v,h=>by cases k'<;>first|exact h|exact h.one
 | .any,k',u,v,h=>by cases k'<;>exact h.one
 | .list ks,k',u,v,h=>by
  cases k'<;>try (exact h.one)
  rename_i ks';have h':=h;obtain⟨l,h0,h1,h2,a,cap,h3,h4,h5⟩:=h;cases ks with
  |nil=>
   obtain rfl:=h2 rfl;exact⟨[],h0,h1,fun _=>rfl,a,cap,h3,h4,fun h=>absurd h (by simp)⟩
  |cons c cs=>
   cases ks' with
   |nil=>exact h'
   |cons c' cs'=>
    simp only[Kd.join];split
    .rename_i hl;refine⟨l,h0,h1,(fun h=>by simp[Kd.joins] at h),a,cap,h3,h4,fun hp=>?_⟩;obtain⟨b,o,h6,h7⟩:=h5 hp;refine⟨b,o,h6,fun i us hi=>?_⟩;have:=Kd.joins_l (c::cs) (c'::cs') hl b _ us (h7 i us hi);rw[Kd.joins_len _ _ hl];exact this
    .exact h'.one
theorem Kd.joins_l:∀(ks ks':List Kd),ks.length=ks'.length->∀(b off:Nat) (us:List U),AX ok w ks b off us->AX ok w (Kd.joins ks ks') b off us
 |[],[],_,_,_,_,h=>h
 |[],_::_,h,_,_,_,_=>by simp at h
 |_::_,[],h,_,_,_,_=>by simp at h
 |k::ks,k'::ks',hl,b,off,us,⟨u,us',e,⟨h1,v,h2,h3⟩,h4⟩=>
  ⟨u,us',e,⟨h1,v,h2,Kd.join_l k k' u v h3⟩,Kd.joins_l ks ks' (by simpa using hl) b _ us' h4⟩
end
mutual
theorem Kd.join_r:∀(k k':Kd) (u:U) (v:Value),AM ok w k' u v->AM ok w (Kd.join k k') u v
 | .int k lo hi,k',u,v,h=>by
  cases k'<;>try (exact h.one)
  rename_i j lo' hi';simp only[Kd.join];split
  .rename_i e;obtain⟨n,h1,h2,h3,h4⟩:=h;exact⟨n,h1,by rw[e];exact h2,by omega,by omega⟩
  .exact h.one
 | .bool,k',u,v,h=>by cases k'<;>first|exact h|exact h.one
 | .str,k',u,v,h=>by cases k'<;>first|exact h|exact h.one
 | .val,k',u,v,h=>by cases k'<;>first|exact h|exact h.one
 | .any,k',u,v,h=>by cases k'<;>exact h.one
 | .list ks,k',u,v,h=>by
  cases k'<;>try (exact h.one)
  rename_i ks';have h':=h;obtain⟨l,h0,h1,h2,a,cap,h3,h4,h5⟩:=h;cases ks with
  |nil=>exact h'
  |cons c cs=>
   cases ks' with
   |nil=>
    obtain rfl:=h2 rfl;exact⟨[],h0,h1,fun _=>rfl,a,cap,h3,h4,fun h=>absurd h (by simp)⟩
   |cons c' cs'=>
    simp only[Kd.join];split
    .rename_i hl;refine⟨l,h0,h1,(fun h=>by simp[Kd.joins] at h),a,cap,h3,h4,fun hp=>?_⟩;obtain⟨b,o,h6,h7⟩:=h5 hp;refine⟨b,o,h6,fun i us hi=>?_⟩;have:=Kd.joins_r (c::cs) (c'::cs') hl b _ us (h7 i us hi);rw[Kd.joins_len _ _ hl,hl];exact this
    .exact h'.one
theorem Kd.joins_r:∀(ks ks':List Kd),ks.length=ks'.length->∀(b off:Nat) (us:List U),AX ok w ks' b off us->AX ok w (Kd.joins ks ks') b off us
 |[],[],_,_,_,_,h=>h
 |[],_::_,h,_,_,_,_=>by simp at h
 |_::_,[],h,_,_,_,_=>by simp at h
 |k::ks,k'::ks',hl,b,off,us,⟨u,us',e,⟨h1,v,h2,h3⟩,h4⟩=>
  ⟨u,us',e,⟨h1,v,h2,Kd.join_r k k' u v h3⟩,Kd.joins_r ks ks' (by simpa using hl) b _ us' h4⟩
end
end
inductive Vx where
 |rf (r:Rf)
 |ex (e:Ex)
def Vx.eval (T:Tab):Vx->U| .rf r=>r.eval T| .ex e=>e.eval T
def ED:AC->Option (Kd × Rf)
 | .cb b=>some (.bool,.c (.bool b))
 | .b x=>some (.bool,.e x)
 | .nb x=>some (.bool,.n x)
 | .ci k n=>some (.int k n n,.c (.int n))
 | .i k lo hi x=>some (.int k lo hi,.e x)
 | .cv .nilSlice=>some (.list [],.c (.list []))
 | .cv (.str s)=>if s.size<=65536 then some (.str,.c (.str s)) else none
 | .cv c=>some (.val,.c (.val c.value))
 | .v x=>some (.val,.e x)
 | .s x=>some (.str,.e x)
 | .ro x ks=>some (.list ks,.e x)
 | .vec _ x ks=>some (.list ks,.e x)
 |_=>none
def IG:Kd->Nat->AC
 | .int k lo hi,x=>if lo=hi then .ci k lo else .i k lo hi x
 | .bool,x=> .b x
 | .str,x=> .s x
 | .val,x=> .v x
 | .any,_=> .anyc
 | .list ks,x=> .ro x ks
def CM (c:AC):Option (IntKind × Int × Int × Rf):=
 match c with
 | .ci k n=>some (k,n,n,.c (.int n))
 | .i k lo hi x=>some (k,lo,hi,.e x)
 |_=>none
def G2 (c:AC):Option (Option Bool × Rf):=
 match c with
 | .cb b=>some (some b,.c (.bool b))
 | .b x=>some (none,.e x)
 | .nb x=>some (none,.n x)
 |_=>none
def IH (c:AC):Option (List Kd × Rf):=
 match c with
 | .cv .nilSlice=>some ([],.c (.list []))
 | .ro x ks=>some (ks,.e x)
 | .vec _ x ks=>some (ks,.e x)
 |_=>none
def mkV (g:G)(m:Mem)(k:Kd)(v:Vx)(ps:List Pr:=[]):R:=
 match k,v with
 | .int k lo hi,v=>if lo=hi then { c:= .ci k lo,m,us:=[],ps } else
  match v with
  | .rf (.e x)=>{ c:= .i k lo hi x,m,us:=[],ps }
  | .rf r=>{ c:= .i k lo hi g.n,m,us:=[⟨ "id",oId,[r]⟩],ps }
  | .ex e=>{ c:= .i k lo hi g.n,m,us:=[e],ps }
 |k,.ex e=>{ c:=IG k g.n,m,us:=[e],ps }
 |k,.rf (.e x)=>{ c:=IG k x,m,us:=[],ps }
 |k,.rf r=>{ c:=IG k g.n,m,us:=[⟨ "id",oId,[r]⟩],ps }
def mkI (g:G)(m:Mem)(k:IntKind)(lo hi:Int)(v:Vx)(ps:List Pr:=[]):R:=mkV g m (.int k lo hi) v ps
def mkB (g:G)(m:Mem)(known:Option Bool)(e:Ex)(ps:List Pr:=[]):R:=
 match known with
 |some b=>{ c:= .cb b,m,us:=[],ps }
 |none=>{ c:= .b g.n,m,us:=[e],ps }
def DQ:IntKind->String
 | .i8=> "i8" | .i16=> "i16" | .i32=> "i32" | .i64=> "i64" | .u8=> "u8" | .u16=> "u16" | .u32=> "u32" | .u64=> "u64"
def Vh (k:IntKind)(e:Ex):Ex:=⟨DQ k++ " " ++e.tag.str,He k e.f,e.args⟩
def rng (k:IntKind)(lo hi:Int)(e:Ex):Int × Int × Vx:=
 if k.min<=lo/\hi<=k.max then (lo,hi,.ex e) else (k.min,k.max,.ex (Vh k e))
def ex2 (tag:Tg)(f:Int->Int->Int)(a b:Rf):Ex:=⟨tag,o2 f,[a,b]⟩
def RQ (n:Int):Option Nat:=(List.range 64).find? fun j=>decide (n=((2 ^ j:Nat):Int) - 1)
def NP (op:BinOp)(k:IntKind)(l1 h1:Int)(n1:Rf)(l2 h2:Int):Option (Int × Int × Vx):=
 if l2=h2/\0<=l2/\l2.toNat<=k.bits then
  match op with
  | .shl=>some (rng k (l1*((2 ^ l2.toNat:Nat):Int)) (h1*((2 ^ l2.toNat:Nat):Int)) (ex2 "mul" dz n1 (.c (.int ((2 ^ l2.toNat:Nat):Int)))))
  | .shr=>some (l1 / ((2 ^ l2.toNat:Nat):Int),h1 / ((2 ^ l2.toNat:Nat):Int),.ex (ex2 "div" eP n1 (.c (.int ((2 ^ l2.toNat:Nat):Int)))))
  |_=>none
 else none
def QU (op:BinOp)(k:IntKind)(l1 h1:Int)(n1:Rf)(l2 h2:Int)(n2:Rf):Option ((Int × Int × Vx) × List Pr):=
 match op with
 | .add=>some (if (l2=0/\h2=0)/\k.min<=l1/\h1<=k.max then (l1,h1,.rf n1) else if (l1=0/\h1=0)/\k.min<=l2/\h2<=k.max then (l2,h2,.rf n2) else rng k (l1+l2) (h1+h2) (ex2 "add" ez n1 n2),[])
 | .sub=>some (if (l2=0/\h2=0)/\k.min<=l1/\h1<=k.max then (l1,h1,.rf n1) else rng k (l1 - h2) (h1 - l2) (ex2 "sub" cU n1 n2),[])
 | .mul=>some (rng k (min (min (l1*l2) (l1*h2)) (min (h1*l2) (h1*h2))) (max (max (l1*l2) (l1*h2)) (max (h1*l2) (h1*h2))) (ex2 "mul" dz n1 n2),[])
 | .quo=>
  if 0 < l2 then
   if 0<=l1 then some (rng k (l1 / h2) (h1 / l2) (ex2 "div" eP n1 n2),[])
   else if l2=h2 then some (rng k (l1.tdiv l2) (h1.tdiv l2) (ex2 "tdiv" QI n1 n2),[])
   else some (rng k (min l1 0) (max h1 0) (ex2 "tdiv" QI n1 n2),[])
  else some ((k.min,k.max,.ex (Vh k (ex2 "tdiv" QI n1 n2))),[⟨ "nez",Ow,[n2]⟩])
 | .rem=>
  if 0 < l2 then
   if 0<=l1 then some ((if l1=h1/\l2=h2 then l1 % l2 else 0,if l1=h1/\l2=h2 then l1 % l2 else min h1 (h2 - 1),.ex (ex2 "mod" Tm n1 n2)),[])
   else some ((max (1 - h2) (min l1 0),min (h2 - 1) (max h1 0),.ex (ex2 "tmod" Yl n1 n2)),[])
  else some ((min l1 0,max h1 0,.ex (ex2 "tmod" Yl n1 n2)),[⟨ "nez",Ow,[n2]⟩])
 | .and=>match RQ l2 with
  |some j=>if (l2=h2/\0<=l1)/\h1<=k.max/\h2<=k.max then some ((0,h2,.ex (ex2 "mod" Tm n1 (.c (.int ((2 ^ j:Nat):Int))))),[]) else some ((k.min,k.max,.ex (ex2 (DQ k++ " and") (Cx .and k) n1 n2)),[])
  |none=>some ((k.min,k.max,.ex (ex2 (DQ k++ " and") (Cx .and k) n1 n2)),[])
 | .or=>some ((k.min,k.max,.ex (ex2 (DQ k++ " or") (Cx .or k) n1 n2)),[])
 | .xor=>some ((k.min,k.max,.ex (ex2 (DQ k++ " xor") (Cx .xor k) n1 n2)),[])
 | .andNot=>some ((k.min,k.max,.ex (ex2 (DQ k++ " andNot") (Cx .andNot k) n1 n2)),[])
 |_=>none
def eD (op:BinOp)(l1 h1:Int)(n1:Rf)(l2 h2:Int)(n2:Rf):Option (Option Bool × Ex):=
 match op with
 | .lss=>some (if h1 < l2 then some true else if h2<=l1 then some false else none,⟨ "lt",oLt,[n1,n2]⟩)
 | .leq=>some (if h1<=l2 then some true else if h2 < l1 then some false else none,⟨ "le",oLe,[n1,n2]⟩)
 | .gtr=>some (if h2 < l1 then some true else if h1<=l2 then some false else none,⟨ "lt",oLt,[n2,n1]⟩)
 | .geq=>some (if h2<=l1 then some true else if h1 < l2 then some false else none,⟨ "le",oLe,[n2,n1]⟩)
 | .eql=>some (if h1 < l2\/h2 < l1 then some false else if l1=h1/\l2=h2/\l1=l2 then some true else none,⟨ "eq",oEq,[n1,n2]⟩)
 | .neq=>some (if h1 < l2\/h2 < l1 then some true else if l1=h1/\l2=h2/\l1=l2 then some false else none,⟨ "ne",oNe,[n1,n2]⟩)
 |_=>none
theorem Dd (k:IntKind)(n:Int):k.min<=k.wrap n/\k.wrap n<=k.max:=by
 cases k<;>simp[IntKind.min,IntKind.max,IntKind.wrap,IntKind.signed,IntKind.bits]<;>(try split)<;>omega
theorem Eb (k:IntKind)(n:Int)(h1:k.min<=n)(h2:n<=k.max):k.wrap n=n:=by
 cases k<;>simp[IntKind.min,IntKind.max,IntKind.wrap,IntKind.signed,IntKind.bits] at* <;>(try split)<;>omega
structure YD (T:Tab) (t:Int × Int × Vx) (n:Int):Prop where
 val:t.2.2.eval T= .int n
 lo:t.1<=n
 hi:n<=t.2.1
theorem IE (k:IntKind){lo hi n:Int}{e:Ex}{T:Tab}(he:e.eval T= .int n)(h1:lo<=n)(h2:n<=hi):YD T (rng k lo hi e) (k.wrap n):=by
 unfold rng;split
 .rename_i h;rw[Eb k n (by omega) (by omega)];exact⟨he,h1,h2⟩
 .have:=Dd k n;refine⟨?_,this.1,this.2⟩;show He k e.f (e.args.map (Rf.eval T))=_;have he':e.f (e.args.map (Rf.eval T))= .int n:=he;simp only[He,he',U.toI]
theorem YY {l1 h1 n1 l2 h2 n2:Int}(a:l1<=n1)(b:n1<=h1)(c:l2<=n2)(d:n2<=h2):
  min (min (l1*l2) (l1*h2)) (min (h1*l2) (h1*h2))<=n1*n2/\n1*n2<=max (max (l1*l2) (l1*h2)) (max (h1*l2) (h1*h2)):=by
 have key:∀x:Int,(min (l1*x) (h1*x)<=n1*x/\n1*x<=max (l1*x) (h1*x)):=by
  intro x;rcases Int.le_total 0 x with hx|hx
  .have:=Int.mul_le_mul_of_nonneg_right a hx;have:=Int.mul_le_mul_of_nonneg_right b hx;omega
  .have:=Int.mul_le_mul_of_nonpos_right a hx;have:=Int.mul_le_mul_of_nonpos_right b hx;omega
 have k1:=key l2;have k2:=key h2;rcases Int.le_total 0 n1 with hx|hx
 .have:=Int.mul_le_mul_of_nonneg_left c hx;have:=Int.mul_le_mul_of_nonneg_left d hx;omega
 .have:=Int.mul_le_mul_of_nonpos_left hx c;have:=Int.mul_le_mul_of_nonpos_left hx d;omega
theorem Rt {a b d:Int}(h:a<=b)(hd:0 < d):a.tdiv d<=b.tdiv d:=by
 rw[tdiv_eq_if a d,tdiv_eq_if b d];split<;>split
 .exact Int.ediv_le_ediv hd h
 .omega
 .have h1:0<= -a / d:=Int.ediv_nonneg (by omega) (by omega);have h2:0<=b / d:=Int.ediv_nonneg (by omega) (by omega);omega
 .have: -b / d<= -a / d:=Int.ediv_le_ediv hd (by omega);omega
theorem Yj {a d:Int}(hd:0 < d):min a 0<=a.tdiv d/\a.tdiv d<=max a 0:=by
 rw[tdiv_eq_if a d];split
 .have h1:0<=a / d:=Int.ediv_nonneg (by omega) (by omega);have h2:a / d<=a:=Int.ediv_le_self d (by omega);omega
 .have h1:0<= -a / d:=Int.ediv_nonneg (by omega) (by omega);have h2: -a / d<= -a:=Int.ediv_le_self d (by omega);omega
theorem Q2 {a d:Int}(ha:0<=a)(hd:0 < d):a % d<=a:=by
 have h1:0<=a / d:=Int.ediv_nonneg ha (by omega);have h2:=Int.mul_nonneg (show 0<=d by omega) h1;rw[Int.emod_def];omega
theorem Wq {a d:Int}(hd:0 < d):max (1 - d) (min a 0)<=a.tmod d/\a.tmod d<=min (d - 1) (max a 0):=by
 rw[tmod_eq_if a d];split
 .have h1:=Int.emod_nonneg a (show d≠0 by omega);have h2:=Int.emod_lt_of_pos a hd;have h3:a % d<=a:=Q2 (by omega) hd;omega
 .have h1:=Int.emod_nonneg (-a) (show d≠0 by omega);have h2:=Int.emod_lt_of_pos (-a) hd;have h3: -a % d<= -a:=Q2 (by omega) hd;omega
theorem da {a d:Int}(_hd:d≠0):min a 0<=a.tmod d/\a.tmod d<=max a 0:=by
 have h1:(a.tmod d).natAbs<=a.natAbs:=by
  rw[Int.natAbs_tmod];exact Nat.mod_le _ _
 rcases Int.le_total 0 a with h|h
 .have:=Int.tmod_nonneg d h;omega
 .rw[tmod_eq_if a d] at*;split at h1
  .obtain rfl:a=0:=by omega
   simp
  .rename_i h2;simp only[h2,if_false] at h1⊢;have:=Int.emod_nonneg (-a) _hd;omega
theorem Y5 {n:Int}{j:Nat}(h:RQ n=some j):n=((2 ^ j:Nat):Int) - 1:=by
 unfold RQ at h;have:=List.find?_some h;exact of_decide_eq_true this
theorem gQ {w a b:Nat}(h:a < 2 ^ w):(BitVec.ofInt w (a:Int) &&& BitVec.ofInt w (b:Int)).toNat=a &&& (b % 2 ^ w):=by
 rw[BitVec.toNat_and,BitVec.ofInt_natCast,BitVec.ofInt_natCast,BitVec.toNat_ofNat,BitVec.toNat_ofNat,Nat.mod_eq_of_lt h]
theorem Zz (k:IntKind){a:Nat}(h:(a:Int)<=k.max):a < 2 ^ k.bits:=by
 cases k<;>simp[IntKind.max,IntKind.signed,IntKind.bits] at* <;>omega
theorem Sz (k:IntKind)(a b:Nat)(ha:(a:Int)<=k.max)(hb:(b:Int)<=k.max):Cx .and k (a:Int) (b:Int)=((a &&& b:Nat):Int):=by
 have h1:=Zz k ha;have h2:=Zz k hb;show k.wrap _=_;have e:((BitVec.ofInt k.bits (a:Int) &&& BitVec.ofInt k.bits (b:Int)).toNat:Int)=((a &&& b:Nat):Int):=by rw[gQ h1,Nat.mod_eq_of_lt h2]
 refine (congrArg k.wrap e).trans (Eb k _ ?_ ?_)
 .have:k.min<=0:=by cases k<;>simp[IntKind.min,IntKind.signed,IntKind.bits]
  omega
 .have:=Nat.and_le_left (n:=a) (m:=b);omega
theorem bC {op:BinOp}{k k2:IntKind}{l1 h1 n1 l2 h2 n2:Int}{r1:Rf}{t:Int × Int × Vx}{T:Tab}(h:NP op k l1 h1 r1 l2 h2=some t)(e1:r1.eval T= .int n1)
  (a1:l1<=n1) (b1:n1<=h1) (a2:l2<=n2) (b2:n2<=h2) (P:Program) (ty:TypeId) (w:World):
  ∃n,(binOp op ty (.int k n1) (.int k2 n2)).run P w= .ok (.int k n) w/\YD T t n:=by
 unfold NP at h;split at h
 case isFalse=>cases h
 rename_i hc;obtain rfl:n2=l2:=by omega
 have hn:¬n2 < 0:=by omega
 have hm:min n2.toNat k.bits=n2.toNat:=by omega
 have ev:∀tag f,(ex2 tag f r1 (.c (.int ((2 ^ n2.toNat:Nat):Int)))).eval T= .int (f n1 ((2 ^ n2.toNat:Nat):Int)):=fun tag f=>by show U.int (f (Rf.eval T r1).toI _)=_;rw[e1];rfl
 have hp:0 < ((2 ^ n2.toNat:Nat):Int):=by have:=Nat.two_pow_pos n2.toNat;omega
 have hp2:(2 ^ n2.toNat:Int)=((2 ^ n2.toNat:Nat):Int):=by simp
 split at h
 .cases h;refine⟨k.wrap (n1*((2 ^ n2.toNat:Nat):Int)),?_,IE k (ev _ _) (Int.mul_le_mul_of_nonneg_right a1 (by omega)) (Int.mul_le_mul_of_nonneg_right b1 (by omega))⟩;simp[binOp,Op.shift,hn,hm]
 .cases h;refine⟨n1 / ((2 ^ n2.toNat:Nat):Int),?_,ev _ _,Int.ediv_le_ediv hp a1,Int.ediv_le_ediv hp b1⟩;simp only[binOp,Op.shift,hn,hm,if_false,hp2,Int.fdiv_eq_ediv_of_nonneg _ (Int.le_of_lt hp)];rfl
 .cases h
theorem dL {op:BinOp}{k:IntKind}{l1 h1 n1 l2 h2 n2:Int}{r1 r2:Rf}{t:Int × Int × Vx}{ps:List Pr}{T:Tab}(h:QU op k l1 h1 r1 l2 h2 r2=some (t,ps))(e1:r1.eval T= .int n1)(e2:r2.eval T= .int n2)
  (a1:l1<=n1) (b1:n1<=h1) (a2:l2<=n2) (b2:n2<=h2) (hp:∀p∈ps,p.holds T) (P:Program) (ty:TypeId) (w:World):
  ∃n,(binOp op ty (.int k n1) (.int k n2)).run P w= .ok (.int k n) w/\YD T t n:=by
 have ev:∀tag f,(ex2 tag f r1 r2).eval T= .int (f n1 n2):=fun tag f=>by simp[ex2,Ex.eval,o2,u0,u1,e1,e2,U.toI]
 cases op<;>simp only[QU] at h
 case add=>
  cases h;refine⟨k.wrap (n1+n2),by simp[binOp,Op.intArith],?_⟩;split
  .rename_i hc;obtain rfl:n2=0:=by omega
   rw[Int.add_zero,Eb k n1 (by omega) (by omega)];exact⟨e1,a1,b1⟩
  .split
   .rename_i hc;obtain rfl:n1=0:=by omega
    rw[Int.zero_add,Eb k n2 (by omega) (by omega)];exact⟨e2,a2,b2⟩
   .exact IE k (ev _ _) (by omega) (by omega)
 case sub=>
  cases h;refine⟨k.wrap (n1 - n2),by simp[binOp,Op.intArith],?_⟩;split
  .rename_i hc;obtain rfl:n2=0:=by omega
   rw[Int.sub_zero,Eb k n1 (by omega) (by omega)];exact⟨e1,a1,b1⟩
  .exact IE k (ev _ _) (by omega) (by omega)
 case mul=>
  cases h;have hb:=YY a1 b1 a2 b2;exact⟨k.wrap (n1*n2),by simp[binOp,Op.intArith],IE k (ev _ _) hb.1 hb.2⟩
 case quo=>
  split at h
  .rename_i hl;have hn0:n2≠0:=by omega
   split at h
   .rename_i hl1;cases h;have e:n1.tdiv n2=n1 / n2:=Int.tdiv_eq_ediv_of_nonneg (by omega);have lo1:l1 / h2<=n1 / n2:=by
     have h3:l1 / h2<=l1 / n2:=by
      refine Int.le_ediv_of_mul_le (by omega) ?_;have q0:0<=l1 / h2:=Int.ediv_nonneg (by omega) (by omega);have:=Int.mul_le_mul_of_nonneg_left b2 q0;have:=Int.ediv_mul_le l1 (show h2≠0 by omega);omega
     have h4:l1 / n2<=n1 / n2:=Int.ediv_le_ediv (by omega) a1;omega
    have hi1:n1 / n2<=h1 / l2:=by
     have h3:n1 / n2<=n1 / l2:=by
      refine Int.le_ediv_of_mul_le (by omega) ?_;have q0:0<=n1 / n2:=Int.ediv_nonneg (by omega) (by omega);have:=Int.mul_le_mul_of_nonneg_left a2 q0;have:=Int.ediv_mul_le n1 hn0;omega
     have h4:n1 / l2<=h1 / l2:=Int.ediv_le_ediv (by omega) b1;omega
    refine⟨k.wrap (n1 / n2),?_,IE k (ev _ _) lo1 hi1⟩;rw[<-e];simp[binOp,Op.intDiv,hn0]
   .split at h
    .rename_i he;subst he;obtain rfl:n2=l2:=by omega
     cases h;exact⟨k.wrap (n1.tdiv n2),by simp[binOp,Op.intDiv,hn0],IE k (ev _ _) (Rt a1 hl) (Rt b1 hl)⟩
    .cases h;have hb:=Yj (a:=n1) (d:=n2) (by omega);exact⟨k.wrap (n1.tdiv n2),by simp[binOp,Op.intDiv,hn0],IE k (ev _ _) (by omega) (by omega)⟩
  .cases h;have hn0:n2≠0:=by
    have:=hp ⟨ "nez",Ow,[r2]⟩ (by simp);simpa [Pr.holds,Ow,u0,e2,U.toI] using this
   have hw:=Dd k (n1.tdiv n2);refine⟨k.wrap (n1.tdiv n2),by simp[binOp,Op.intDiv,hn0],?_,hw.1,hw.2⟩;simp[Vx.eval,Vh,Ex.eval,He,ex2,o2,u0,u1,e1,e2,U.toI,QI]
 case rem=>
  split at h
  .rename_i hl;have hn0:n2≠0:=by omega
   split at h
   .rename_i hl1;cases h;have e:n1.tmod n2=n1 % n2:=Int.tmod_eq_emod_of_nonneg (by omega);have q1:=Int.emod_nonneg n1 hn0;have q2:=Int.emod_lt_of_pos n1 (show 0 < n2 by omega);have q3:n1 % n2<=n1:=Q2 (by omega) (by omega);refine⟨n1 % n2,by simp[binOp,Op.intDiv,hn0,e],ev _ _,?_,?_⟩<;>simp only
    .split
     .rename_i hc;obtain rfl:n1=l1:=by omega
      obtain rfl:n2=l2:=by omega
      exact Int.le_refl _
     .omega
    .split
     .rename_i hc;obtain rfl:n1=l1:=by omega
      obtain rfl:n2=l2:=by omega
      exact Int.le_refl _
     .omega
   .cases h;have hb:=Wq (a:=n1) (d:=n2) (by omega);refine⟨n1.tmod n2,by simp[binOp,Op.intDiv,hn0],ev _ _,?_,?_⟩<;>simp only<;>omega
  .cases h;have hn0:n2≠0:=by
    have:=hp ⟨ "nez",Ow,[r2]⟩ (by simp);simpa [Pr.holds,Ow,u0,e2,U.toI] using this
   have hb:=da (a:=n1) hn0;refine⟨n1.tmod n2,by simp[binOp,Op.intDiv,hn0],ev _ _,?_,?_⟩<;>simp only<;>omega
 case and=>
  split at h
  .rename_i j hj;split at h
   .rename_i hc;cases h;obtain rfl:n2=l2:=by omega
    have hl:=Y5 hj;obtain⟨a,rfl⟩:∃a:Nat,n1=a:=⟨n1.toNat,by omega⟩;have hp2:0 < 2 ^ j:=Nat.two_pow_pos j;have hb:Cx .and k (a:Int) n2=(a:Int) % ((2 ^ j:Nat):Int):=by
     have h3:n2=((2 ^ j - 1:Nat):Int):=by omega
     rw[h3,Sz k a (2 ^ j - 1) (by omega) (by omega),Nat.and_two_pow_sub_one_eq_mod];exact Int.natCast_emod a (2 ^ j)
    refine⟨(a:Int) % ((2 ^ j:Nat):Int),?_,?_⟩
    .rw[<-hb];simp[binOp,Op.intBits,Cx]
    .have e3:(ex2 "mod" Tm r1 (.c (.int ((2 ^ j:Nat):Int)))).eval T= .int ((a:Int) % ((2 ^ j:Nat):Int)):=by show U.int (Tm (Rf.eval T r1).toI _)=_;rw[e1];rfl
     have q1:=Int.emod_nonneg (a:Int) (show ((2 ^ j:Nat):Int)≠0 by omega);have q2:=Int.emod_lt_of_pos (a:Int) (show 0 < ((2 ^ j:Nat):Int) by omega);refine⟨e3,q1,?_⟩;show _<=h2;omega
   .cases h;have hw:=Dd k;exact⟨Cx .and k n1 n2,by simp[binOp,Op.intBits,Cx],ev _ _,(hw _).1,(hw _).2⟩
  .cases h;have hw:=Dd k;exact⟨Cx .and k n1 n2,by simp[binOp,Op.intBits,Cx],ev _ _,(hw _).1,(hw _).2⟩
 case or=>cases h;have hw:=Dd k;exact⟨Cx .or k n1 n2,by simp[binOp,Op.intBits,Cx],ev _ _,(hw _).1,(hw _).2⟩
 case xor=>cases h;have hw:=Dd k;exact⟨Cx .xor k n1 n2,by simp[binOp,Op.intBits,Cx],ev _ _,(hw _).1,(hw _).2⟩
 case andNot=>cases h;have hw:=Dd k;exact⟨Cx .andNot k n1 n2,by simp[binOp,Op.intBits,Cx],ev _ _,(hw _).1,(hw _).2⟩
 all_goals cases h
theorem Vq {p:Bool->Prop}{q:Bool->Prop}{r:Bool->Prop}(b:Bool)(h1:p b)(h2:q b)(h3:r b):∃b,p b/\q b/\r b:=⟨b,h1,h2,h3⟩
theorem gY {op:BinOp}{k:IntKind}{l1 h1 n1 l2 h2 n2:Int}{r1 r2:Rf}{kn:Option Bool}{e:Ex}{T:Tab}(h:eD op l1 h1 r1 l2 h2 r2=some (kn,e))(e1:r1.eval T= .int n1)(e2:r2.eval T= .int n2)
  (a1:l1<=n1) (b1:n1<=h1) (a2:l2<=n2) (b2:n2<=h2) (P:Program) (ty:TypeId) (w:World):
  ∃b,(binOp op ty (.int k n1) (.int k n2)).run P w= .ok (.bool b) w/\e.eval T= .bool b/\∀c,kn=some c->b=c:=by
 cases op<;>simp only[eD] at h<;>cases h
 case eql=>exact Vq (decide (n1=n2)) (by simp[binOp,Op.intCmp]<;>rfl) (by simp[Ex.eval,oEq,u0,u1,e1,e2,U.toI]) (fun c hc=>by
  revert hc
  split
  .intro hc;cases hc;simp;omega
  .split
   .intro hc;cases hc;simp;omega
   .intro hc;cases hc)
 case neq=>exact Vq (!decide (n1=n2)) (by simp[binOp,Op.intCmp]<;>rfl) (by simp[Ex.eval,oNe,u0,u1,e1,e2,U.toI]) (fun c hc=>by
  revert hc
  split
  .intro hc;cases hc;simp;omega
  .split
   .intro hc;cases hc;simp;omega
   .intro hc;cases hc)
 all_goals refine⟨_,by simp[binOp,Op.intCmp]<;>rfl,by simp[Ex.eval,oLt,oLe,u0,u1,e1,e2,U.toI],fun c hc=>?_⟩
 all_goals
  revert hc
  split
  .intro hc;cases hc;simp;omega
  .split
   .intro hc;cases hc;simp;omega
   .intro hc;cases hc
mutual
def AC.beq:AC->AC->Bool
 | .any,.any=>true
 | .anyc,.anyc=>true
 | .on c a,.on d p=>Nat.beq c d&&AC.beq a p
 | .gd c a,.gd d p=>Nat.beq c d&&AC.beq a p
 | .cb a,.cb p=>a==p
 | .b x,.b y=>Nat.beq x y
 | .nb x,.nb y=>Nat.beq x y
 | .ci k n,.ci j m=>decide (k=j)&&decide (n=m)
 | .i k lo hi x,.i k' lo' hi' x'=>Nat.beq x x'&&decide (k=k')&&decide (lo=lo')&&decide (hi=hi')
 | .cv a,.cv p=>decide (a=p)
 | .v x,.v y=>Nat.beq x y
 | .ptr a1 a2,.ptr c1 c2=>Nat.beq a1 c1&&Nat.beq a2 c2
 | .pix a1 a2 a3 a4 a5 a6,.pix c1 c2 c3 c4 c5 c6=>Nat.beq a1 c1&&Nat.beq a2 c2&&Nat.beq a3 c3&&Nat.beq a4 c4&&Nat.beq a5 c5&&Nat.beq a6 c6
 | .s x,.s y=>Nat.beq x y
 | .ro x ks,.ro y ks'=>Nat.beq x y&&Kd.beqs ks ks'
 | .rp a1 a2 a3 ks,.rp c1 c2 c3 ks'=>Nat.beq a1 c1&&Nat.beq a2 c2&&Nat.beq a3 c3&&Kd.beqs ks ks'
 | .vec a1 a2 ks,.vec c1 c2 ks'=>Nat.beq a1 c1&&Nat.beq a2 c2&&Kd.beqs ks ks'
 | .sel x l,.sel y l'=>Nat.beq x y&&AC.beqL l l'
 | .yl x,.yl y=>Nat.beq x y
 | .asl a1 a2 a3,.asl c1 c2 c3=>Nat.beq a1 c1&&Nat.beq a2 c2&&Nat.beq a3 c3
 | .rsv a1 a2 ks,.rsv c1 c2 ks'=>Nat.beq a1 c1&&Nat.beq a2 c2&&Kd.beqs ks ks'
 | .mr a1 a2,.mr c1 c2=>Nat.beq a1 c1&&Nat.beq a2 c2
 | .mp a1 a2 a3 a4 a5,.mp c1 c2 c3 c4 c5=>Nat.beq a1 c1&&Nat.beq a2 c2&&Nat.beq a3 c3&&Nat.beq a4 c4&&Nat.beq a5 c5
 | .mv a,.mv c=>Nat.beq a c
 | .fn f a1 a2,.fn f' c1 c2=>decide (f=f')&&AC.beqL a1 c1&&AC.beqL a2 c2
 | .agg l,.agg l'=>AC.beqL l l'
 | .tup l,.tup l'=>AC.beqL l l'
 |_,_=>false
def AC.beqL:List AC->List AC->Bool
 |[],[]=>true
 |a::l,p::l'=>AC.beq a p&&AC.beqL l l'
 |_,_=>false
end
def AC.atom:AC->Bool
 | .any| .on _ _| .gd _ _| .agg _| .tup _| .sel _ _=>false
 |_=>true
def AC.cellsOf:AC->Option (List AC)
 | .agg l=>if l.all AC.atom then some l else none
 |c=>if c.atom then some [c] else none
def Yz:Value->AC
 | .bool b=> .cb b
 | .int k n=> .ci k n
 | .string s=> .cv (.str s)
 | .pointer none=> .cv .nilPtr
 | .slice none 0 0=> .cv .nilSlice
 | .nilFunc=> .cv .nilFunc
 | .nilIface=> .cv .nilIface
 | .map none=> .cv .nilMap
 | .agg _| .tuple _=> .any
 |_=> .anyc
def II:Value->AC
 | .agg cs=> .agg (cs.toList.map Yz)
 |v=>Yz v
def DK (x t:Nat):Nat->Nat->List Kd->List AC × List Ex
 |_,_,[]=>([],[])
 |n,c,k::ks=>
  let (l,us):=DK x t (n+1) (c+1) ks
  (IG k n::l,⟨RK (kdC k)++toString c,N8 (kdC k) c,[.e x,.e t]⟩::us)
def BN (c:AC):Kd × Rf:=(ED c).getD (.any,.c default)
def AC.isPtr:AC->Bool
 | .ptr .. | .pix .. | .rp .. | .mp .. | .fn .. =>true
 |_=>false
def mix (n:Nat)(b:Rf)(c d:AC):AC × List Ex:=
 if AC.beq c d then (c,[]) else
 match ED c,ED d with
 |some (k,r),some (k',r')=>
  if (Kd.join k k').isAny then (.anyc,[]) else (IG (Kd.join k k') n,[⟨ "if",oIf,[b,r,r']⟩])
 |_,_=>if c.atom&&d.atom then (.anyc,[]) else (.any,[])
def Qu (n:Nat)(b:Rf)(c d:AC):AC × List Ex:=
 if AC.beq c d then (c,[]) else
 if c.isPtr&& !d.isPtr then (.on n c,[⟨ "id",oId,[b]⟩]) else
 if d.isPtr&& !c.isPtr then (.on n d,[⟨ "not",RG,[b]⟩]) else
 mix n b c d
def MH (f:Nat->AC->AC->AC × List Ex)(n:Nat):List AC->List AC->List AC × List Ex
 |c::l,d::l'=>
  let (a,us):=f n c d;let (r,us'):=MH f (n+us.length) l l'
  (a::r,us++us')
 |_,_=>([],[])
def KY (n:Nat)(b:Rf)(c d:AC):AC × List Ex:=
 match c,d with
 | .agg l,.agg l'=>if l.length=l'.length then let (r,us):=MH (fun n=>mix n b) n l l';(.agg r,us) else (.any,[])
 |c,d=>Qu n b c d
def E2 (n:Nat)(b:Rf)(c d:AC):AC × List Ex:=
 match c,d with
 | .tup l,.tup l'=>if l.length=l'.length then let (r,us):=MH (fun n=>KY n b) n l l';(.tup r,us) else (.any,[])
 |c,d=>KY n b c d
def Nz:List AC->Option (Kd × List Rf)
 |[]=>none
 |[c]=>(ED c).map fun (k,r)=>(k,[r])
 |c::cs=>match ED c,Nz cs with
  |some (k,r),some (k',l)=>some (Kd.join k k',r::l)
  |_,_=>none
def AC.isFn:AC->Bool
 | .fn .. | .cv .nilFunc=>true
 |_=>false
def QK (l:List AC)(base stride cnt plus:Nat):Option (List AC):=
 (List.range cnt).mapM fun j=>l[base+j*stride+plus]?
def H5 (g:G)(m:Mem)(x:Nat)(cs:List AC)(ps:List Pr):Option R:=
 match Nz cs with
 |some (k,rs)=>if k.isAny then none else some { c:=IG k g.n,m,us:=[⟨ "pick",P2,.e x::rs⟩],ps }
 |none=>if cs.all AC.isFn then some { c:= .sel x cs,m,ps } else none
def Fs (x:Nat):Nat->List (List AC)->Option (List AC × List Ex)
 |_,[]=>some ([],[])
 |n,cs::r=>match Nz cs with
  |some (k,rs)=>if k.isAny then none else (Fs x (n+1) r).map fun (l,us)=>(IG k n::l,⟨ "pick",P2,.e x::rs⟩::us)
  |none=>none
def Mi (l:List AC)(base stride cnt plus size:Nat):Option (List (List AC)):=(List.range size).mapM fun c=>QK l base stride cnt (plus+c)
def E9 (P:Program)(t:TypeId):Option (Nat × Bool):=
 match P.info? t,P.underlying t with
 |some i,some (.struct _)=>some (i.size,true)
 |some i,some (.array _ _)=>some (i.size,true)
 |some _,some _=>some (1,false)
 |_,_=>none
def TI (P:Program)(t:TypeId)(p:AC)(m:Mem)(g:G):Option R:=do
 let (size,agg) <-E9 P t
 match p with
 | .ptr id off=>
  match m.at id with
  | .cells l _=>
   let cs:=(l.drop off).take size
   if cs.length=size then
    if agg then some { c:= .agg cs,m } else cs[0]?.map fun c=>{ c,m }
   else none
  |_=>none
 | .pix id base stride cnt x plus=>
  match m.at id with
  | .cells l _=>do
   if agg then
    let css<-Mi l base stride cnt plus size;let (ls,us) <-Fs x g.n css
    some { c:= .agg ls,m,us }
   else
   let cs<-QK l base stride cnt plus
   H5 g m x cs []
  |_=>none
 | .rp x t off ks=>
  let cs:=(ks.drop off).take size
  if cs.length=size then
   let (l,us):=DK x t g.n off cs
   if agg then some { c:= .agg l,m,us } else l[0]?.map fun c=>{ c,m,us }
  else none
 | .mp id y t sz off=>
  match m.at id with
  | .mrow x y' ks _=>
   let cs:=(ks.drop off).take size
   if (y'=y/\ks.length=sz)/\cs.length=size then
    let (l,us):=DK x t g.n off cs
    if agg then some { c:= .agg l,m,us } else l[0]?.map fun c=>{ c,m,us }
   else none
  |_=>none
 |_=>none
def Fr (x:Nat)(c:AC)(base stride plus:Nat)(l0:List AC):Nat->Nat->Option (List AC × List Ex)
 |0,_=>some (l0,[])
 |j+1,n=>do
  let (l,us) <-Fr x c base stride plus l0 j n;let old<-l0[base+j*stride+plus]?;let e:Ex:=⟨ "eq",oEq,[.e x,.c (.int j)]⟩;let (d,us'):=mix (n+us.length+1) (.e (n+us.length)) c old
  if d.atom then some (l.set (base+j*stride+plus) d,us++(e::us')) else none
def LE (ks:List Kd)(off:Nat)(l:List Kd):List Kd:=ks.take off++Kd.joins ((ks.drop off).take l.length) l++ks.drop (off+l.length)
def Uu (P:Program)(t:TypeId)(p v:AC)(m:Mem)(g:G):Option R:=do
 let i<-P.info? t;let cs<-v.cellsOf
 if cs.length=i.size then
  match p with
  | .ptr id off=>
   match m.at id with
   | .cells l e=>if off+i.size<=l.length then some { c:= .any,m:=m.set id (.cells (l.take off++cs++l.drop (off+i.size)) e) } else none
   |_=>none
  | .pix id base stride cnt x plus=>
   match m.at id,cs with
   | .cells l e,[c]=>
    if stride=0 then none else do
    let (l,us) <-Fr x c base stride plus l cnt g.n
    some { c:= .any,m:=m.set id (.cells l e),us }
   |_,_=>none
  | .mp id y t sz off=>
   match m.at id with
   | .mrow x y' ks e=>
    if (y'=y/\ks.length=sz)/\off+cs.length<=sz then
     some { c:= .any,m:=m.set id (.mrow g.n y (LE ks off (cs.map fun c=>(BN c).1)) e),us:=[⟨ "rset " ++toString off,YH off,.e x:: .e t::cs.map fun c=>(BN c).2⟩] }
    else none
   |_=>none
  |_=>none
 else none
def M3 (l:List AC)(e:TypeId)(m:Mem):R:={ c:= .ptr m.length 0,m:=m++[.cells l e] }
def Gy (P:Program)(t:TypeId)(m:Mem):Option R:=do
 let i<-P.info? t;let z<-i.zero;let l<-(II z).cellsOf
 some (M3 l t m)
def cm (t:TypeId)(v:AC)(m:Mem):Option R:=do
 let l<-v.cellsOf
 some (M3 l t m)
def Lj (place:Nat->Option (Nat × Nat))(cells:List AC):List (Nat × AC)->Option (List AC)
 |[]=>some cells
 |(i,v)::rest=>do
  let (off,size) <-place i;let cs<-v.cellsOf
  if cs.length=size/\off+size<=cells.length then Lj place (cells.take off++cs++cells.drop (off+size)) rest else none
def P5 (P:Program)(t:TypeId)(parts:List (Nat × AC))(m:Mem):Option R:=do
 let i<-P.info? t;let z<-i.zero;let l<-(II z).cellsOf
 match P.underlying t with
 |some (.array _ e)=>do
  let ie<-P.info? e;let l<-Lj (fun i=>some (i*ie.size,ie.size)) l parts
  some { c:= .agg l,m }
 |some (.struct fields)=>do
  let places<-fields.toList.mapM (fun f=>(P.info? f.type).map fun i=>(f.offset,i.size));let l<-Lj (places.toArray[·]?) l parts
  some { c:= .agg l,m }
 |_=>none
def FE (P:Program)(s:TypeId)(p:AC)(f:Nat)(m:Mem):Option R:=do
 match P.underlying s with
 |some (.struct fields)=>do
  let fd<-fields[f]?;let i<-P.info? fd.type
  if i.size=0 then none else
  match p with
  | .ptr id off=>some { c:= .ptr id (off+fd.offset),m }
  | .pix id base stride cnt x plus=>some { c:= .pix id base stride cnt x (plus+fd.offset),m }
  | .rp x t off ks=>some { c:= .rp x t (off+fd.offset) ks,m }
  | .mp id y t sz off=>some { c:= .mp id y t sz (off+fd.offset),m }
  |_=>none
 |_=>none
def N6 (g:G)(ix:AC):Option (Nat × List Ex):=
 match ix with
 | .i _ _ _ x=>some (x,[])
 | .ci _ n=>some (g.n,[⟨ "id",oId,[.c (.int n)]⟩])
 |_=>none
def CQ (P:Program)(t:TypeId)(p ix:AC)(m:Mem)(g:G):Option R:=do
 let (_,lo,hi,n) <-CM ix
 match P.underlying t with
 |some (.array len e)=>do
  let i<-P.info? e
  if i.size=0 then none else
  if lo=hi then
   if 0<=lo/\lo < len then
    match p with
    | .ptr id off=>some { c:= .ptr id (off+lo.toNat*i.size),m }
    | .pix id base stride cnt x plus=>some { c:= .pix id base stride cnt x (plus+lo.toNat*i.size),m }
    | .rp x t off ks=>some { c:= .rp x t (off+lo.toNat*i.size) ks,m }
    | .mp id y t sz off=>some { c:= .mp id y t sz (off+lo.toNat*i.size),m }
    |_=>none
   else none
  else
   match p with
   | .ptr id off=>do
    let (x,us) <-N6 g ix
    some { c:= .pix id off i.size len x 0,m,us,ps:=if 0<=lo/\hi < len then [] else [⟨ "in",pIn,[n,.c (.int len)]⟩] }
   |_=>none
 |some (.slice e)=>do
  let i<-P.info? e
  if lo=hi/\0 < i.size then
   match p with
   | .asl id off len=>if 0<=lo/\lo < len then some { c:= .ptr id (off+lo.toNat*i.size),m } else none
   |_=>aIndexSl i.size p ix n m g
  else aIndexSl i.size p ix n m g
 |_=>none
where aIndexSl (size:Nat) (p ix:AC) (n:Rf) (m:Mem) (g:G):Option R:=do
  let (x,us) <-N6 g ix
  match p with
  | .mr id y=>some { c:= .mp id y x size 0,m,us,ps:=[⟨ "in",pIn,[n,.e y]⟩] }
  | .ro y ks=>if size=ks.length then some { c:= .rp y x 0 ks,m,us,ps:=[⟨ "inl",RU,[n,.e y]⟩] } else none
  | .vec _ y ks=>if size=ks.length then some { c:= .rp y x 0 ks,m,us,ps:=[⟨ "inl",RU,[n,.e y]⟩] } else none
  |_=>none
def apart (P:Program)(t:TypeId)(l:List AC)(off:Nat):Option AC:=do
 let (size,agg) <-E9 P t
 if agg then
  let cs:=(l.drop off).take size
  if cs.length=size then some (.agg cs) else none
 else l[off]?
def T6 (P:Program)(s:TypeId)(x:AC)(f:Nat)(m:Mem):Option R:=
 match P.underlying s,x with
 |some (.struct fields),.agg l=>do
  let fd<-fields[f]?;let c<-apart P fd.type l fd.offset
  some { c,m }
 |_,_=>none
def Um (P:Program)(t:TypeId)(x ix:AC)(m:Mem)(g:G):Option R:=do
 let (_,lo,hi,n) <-CM ix
 match P.underlying t,x with
 |some (.array len e),.agg l=>do
  let i<-P.info? e
  if lo=hi then
   if 0<=lo/\lo < len then do
    let c<-apart P e l (lo.toNat*i.size)
    some { c,m }
   else none
  else
   let (size,agg) <-E9 P e
   if i.size=size then
    match ix with
    | .i _ _ _ x=>do
     if agg then
      let css<-Mi l 0 size len 0 size;let (ls,us) <-Fs x g.n css
      some { c:= .agg ls,m,us,ps:=if 0<=lo/\hi < len then [] else [⟨ "in",pIn,[n,.c (.int len)]⟩] }
     else
     let cs<-QK l 0 1 len 0
     H5 g m x cs (if 0<=lo/\hi < len then [] else [⟨ "in",pIn,[n,.c (.int len)]⟩])
    |_=>none
   else none
 |some .string,.s y=>some { c:= .i .u8 0 255 g.n,m,us:=[⟨ "sat",ek,[.e y,n]⟩],ps:=[⟨ "ins",YC,[.e y,n]⟩] }
 |_,_=>none
def Lv (x:AC)(i:Nat)(m:Mem):Option R:=
 match x with
 | .tup l=>l[i]?.map fun c=>{ c,m }
 |_=>none
def Ep (x:AC)(m:Mem):Option R:=
 match x with
 | .on c (.ptr id off)=>some { c:= .ptr id off,m,ps:=[⟨ "t",pT,[.e c]⟩] }
 | .on c (.rp x t off ks)=>some { c:= .rp x t off ks,m,ps:=[⟨ "t",pT,[.e c]⟩] }
 | .on c (.mp id y t sz off)=>some { c:= .mp id y t sz off,m,ps:=[⟨ "t",pT,[.e c]⟩] }
 | .ptr .. | .pix .. | .rp .. | .mp .. =>some { c:=x,m }
 | .fn (.func _) .. =>some { c:=x,m }
 |_=>none
def PI (c:AC):Option (Option ByteArray × Rf):=
 match c with
 | .cv (.str s)=>if s.size<=65536 then some (some s,.c (.str s)) else none
 | .s x=>some (none,.e x)
 |_=>none
def ceq (c d:AC):Option (Option Bool × List Rf):=
 match CM c,CM d with
 |some (k,l1,h1,n1),some (k',l2,h2,n2)=>
  if k=k' then
   if AC.beq c d then some (some true,[])
   else if h1 < l2\/h2 < l1 then some (some false,[])
   else some (none,[n1,n2])
  else none
 |_,_=>
  match G2 c,G2 d with
  |some (some x,_),some (some y,_)=>some (some (x==y),[])
  |some (_,n1),some (_,n2)=>if AC.beq c d then some (some true,[]) else some (none,[n1,n2])
  |_,_=>
   match PI c,PI d with
   |some (some x,_),some (some y,_)=>some (some (decide (x=y)),[])
   |some (_,n1),some (_,n2)=>if AC.beq c d then some (some true,[]) else some (none,[n1,n2])
   |_,_=>none
def U1:List AC->List AC->Option (Option Bool × List Rf)
 |[],[]=>some (some true,[])
 |c::l,d::l'=>do
  let (k,r) <-ceq c d;let (k',r') <-U1 l l'
  match k,k' with
  |some false,_=>some (some false,[])
  |_,some false=>some (some false,[])
  |some true,k'=>some (k',r')
  |none,some true=>some (none,r)
  |none,none=>some (none,r++r')
 |_,_=>none
inductive Ek where
 |int|bool|str
 deriving DecidableEq
def FD (P:Program)(sub:TypeId->Option (List Ek)):List Field->Nat->Option (List Ek)
 |[],_=>some []
 |f::fs,off=>do
  if f.offset=off/\f.name≠ "_" then
   let ks<-sub f.type
   if P.cellsOf f.type=ks.length then
    let r<-FD P sub fs (off+ks.length)
    some (ks++r)
   else none
  else none
def Bg (P:Program):Nat->TypeId->Option (List Ek)
 |0,_=>none
 |d+1,t=>
  match P.underlying t with
  |some .bool=>some [.bool]
  |some (.int _)=>some [.int]
  |some .string=>some [.str]
  |some (.struct fs)=>if P.stoodInHeld t then none else FD P (Bg P d) fs.toList 0
  |some (.array n e)=>do
   let ks<-Bg P d e
   if P.cellsOf e=ks.length then some (List.replicate n ks).flatten else none
  |_=>none
def ekOk (k:Ek)(c:AC):Bool:=
 match k with
 | .int=>(CM c).isSome
 | .bool=>(G2 c).isSome
 | .str=>(PI c).isSome
def Nl:List Ek->List AC->Bool
 |[],[]=>true
 |k::ks,c::l=>ekOk k c&&Nl ks l
 |_,_=>false
def Bw (P:Program)(t:TypeId):Bool:=
 match P.underlying t with
 |some (.struct _)|some (.array _ _)=>true
 |_=>false
def aEq (P:Program)(neg:Bool)(t:TypeId)(x y:AC)(m:Mem)(g:G):Option R:=
 let fin:Option (Option Bool × List Rf)->Option R:=fun o=>o.map fun (k,rs)=>if neg then mkB g m (k.map not) ⟨ "nes",Yd,rs⟩ else mkB g m k ⟨ "eqs",Yx,rs⟩
 match x,y with
 | .agg l,.agg l'=>
  match Bg P 12 t with
  |some ks=>if Bw P t&&Nl ks l&& !P.eqGuardType P.depth t then fin (U1 l l') else none
  |none=>none
 | .cv .nilPtr,.cv .nilPtr=>match P.underlying t with
  |some (.pointer _)=>fin (some (some true,[]))
  |_=>none
 | .ptr ..,.cv .nilPtr=>match P.underlying t with
  |some (.pointer _)=>fin (some (some false,[]))
  |_=>none
 |_,_=>match P.underlying t with
  |some .bool=>if (G2 x).isSome then (ceq x y).map fun (k,rs)=>if neg then mkB g m (k.map not) ⟨ "neb",dc,rs⟩ else mkB g m k ⟨ "eqb",eV,rs⟩ else none
  |some .string=>if (PI x).isSome then fin (ceq x y) else none
  |_=>none
def U8 (P:Program)(op:BinOp)(t:TypeId)(x y:AC)(m:Mem)(g:G):Option R:=
 match CM x,CM y with
 |some (k,l1,h1,n1),some (k',l2,h2,n2)=>
  match NP op k l1 h1 n1 l2 h2 with
  |some (lo,hi,n)=>some (mkI g m k lo hi n)
  |none=>
  if k=k' then
   match QU op k l1 h1 n1 l2 h2 n2 with
   |some ((lo,hi,n),ps)=>some (mkI g m k lo hi n ps)
   |none=>match eD op l1 h1 n1 l2 h2 n2 with
    |some (kn,b)=>some (mkB g m (if AC.beq x y then (match op with| .eql=>some true| .neq=>some false|_=>kn) else kn) b)
    |none=>none
  else none
 |_,_=>
  match op with
  | .eql=>aEq P false t x y m g
  | .neq=>aEq P true t x y m g
  |_=>none
def aUn (op:UnOp)(x:AC)(m:Mem)(g:G):Option R:=
 match op with
 | .not=>match x with
  | .cb p=>some { c:= .cb !p,m }
  | .b y=>some { c:= .nb y,m }
  | .nb y=>some { c:= .b y,m }
  |_=>none
 | .neg=>do
  let (k,lo,hi,n) <-CM x;let (lo,hi,n):=rng k (0 - hi) (0 - lo) ⟨ "neg",Vc,[n]⟩
  some (mkI g m k lo hi n)
 |_=>none
def PJ (P:Program)(src dst:TypeId)(x:AC)(m:Mem)(g:G):Option R:=
 match P.underlying src,P.underlying dst with
 |some _,some (.int k)=>do
  let (_,lo,hi,n) <-CM x
  if k.min<=lo/\hi<=k.max then some (mkI g m k lo hi (.rf n))
  else some (mkI g m k k.min k.max (.ex ⟨DQ k++ " id",He k oId,[n]⟩))
 |_,_=>none
def S8 (c a b:AC)(m:Mem)(g:G):Option R:=do
 match<-G2 c with
 |(some true,_)=>some { c:=a,m }
 |(some false,_)=>some { c:=b,m }
 |(none,x)=>
  match G2 a,G2 b with
  |some (ka,y),some (kb,z)=>some (mkB g m none (if ka=some true then ⟨ "or",oOr,[x,z]⟩ else if kb=some false then ⟨ "and",Mp,[x,y]⟩ else ⟨ "ifb",Yu,[x,y,z]⟩))
  |_,_=>none
def cH (P:Program)(t:TypeId)(x:AC)(m:Mem)(g:G):Option R:=
 match P.underlying t with
 |some (.slice _)=>
  match x with
  | .cv .nilSlice=>some { c:= .ci .i64 0,m }
  | .mr _ y=>some { c:= .i .i64 0 AF y,m }
  | .asl _ _ len=>some { c:= .ci .i64 len,m }
  |_=>match IH x with
   |some (_,r)=>some (mkI g m .i64 0 AF (.ex ⟨ "len",Nc,[r]⟩))
   |_=>none
 |some .string=>
  match x with
  | .cv (.str s)=>some { c:= .ci .i64 s.size,m }
  | .s y=>some (mkI g m .i64 0 AF (.ex ⟨ "slen",Y9,[.e y]⟩))
  |_=>none
 |some (.map _ _)=>
  match x with
  | .mv id=>match m.at id with
   | .mapb mx _ _ _ _=>some (mkI g m .i64 0 AF (.ex ⟨ "len",Nc,[.e mx]⟩))
   |_=>none
  |_=>none
 |_=>none
def UW (big:Bool)(x y:AC)(m:Mem)(g:G):Option R:=do
 let (k,l1,h1,n1) <-CM x;let (k',l2,h2,n2) <-CM y
 if k=k' then
  if big then some (mkI g m k (max l1 l2) (max h1 h2) (.ex (ex2 "max" RF n1 n2))) else some (mkI g m k (min l1 l2) (min h1 h2) (.ex (ex2 "min" RT n1 n2)))
 else none
def De:List Nat->List Nat->Bool
 |[],[]=>true
 |a::l,b::l'=>Nat.beq a b&&De l l'
 |_,_=>false
def Cd:List (List AC)->List Kd
 |[]=>[]
 |[l]=>l.map fun c=>(BN c).1
 |l::ls=>Kd.joins (l.map fun c=>(BN c).1) (Cd ls)
def Ps (ls:List (List AC)):List Rf:=(ls.map fun l=>l.map fun c=>(BN c).2).flatten
def EU (P:Program)(t:TypeId)(len:Nat)(parts:List (Nat × AC))(m:Mem)(g:G):Option R:=do
 match P.underlying t with
 |some (.slice e)=>do
  let i<-P.info? e;let z<-i.zero
  if De (parts.map (·.1)) (List.range len)=true/\0 < i.size/\0 < len/\len*i.size<=16777216 then
   let ls<-parts.mapM fun (_,a)=>a.cellsOf
   if ls.all (fun l=>decide (l.length=i.size)) then
    some { c:= .vec m.length g.n (Cd ls),m:=m++[.tok g.n (Cd ls) e],us:=[⟨ "row " ++toString i.size,Tv len i.size,Ps ls⟩] }
   else none
  else if len=0/\parts.length=0/\0 < i.size then do
   let l<-(II z).cellsOf
   if l.length=i.size then some { c:= .vec m.length g.n (l.map fun c=>(BN c).1),m:=m++[.tok g.n (l.map fun c=>(BN c).1) e],us:=[⟨ "id",oId,[.c (.list [])]⟩] } else none
  else none
 |_=>none
def Kf (P:Program)(t:TypeId)(len:Nat)(parts:List (Nat × AC))(m:Mem):Option R:=do
 match P.underlying t with
 |some (.slice e)=>do
  let i<-P.info? e;let _<-i.zero
  if De (parts.map (·.1)) (List.range len)=true/\0 < i.size/\0 < len/\len*i.size<=16777216 then
   let ls<-parts.mapM fun (_,a)=>a.cellsOf
   if ls.all (fun l=>decide (l.length=i.size)) then
    some { c:= .asl m.length 0 len,m:=m++[.cells ls.flatten e] }
   else none
  else none
 |_=>none
def Ov (P:Program)(t:TypeId)(len:Nat)(parts:List (Nat × AC))(m:Mem)(g:G):Option R:=do
 let r<-EU P t len parts m g
 match r.c with
 | .vec _ x ks=>some { r with c:= .ro x ks,m:=m++[.gone] }
 |_=>none
def Fc:List Kd->List Kd->List Kd
 |[],ks=>ks
 |ks,[]=>ks
 |ks,ks'=>Kd.joins ks ks'
def Xt (P:Program)(ts:Array TypeId)(s:AC)(k2:List Kd)(r2:Rf)(m:Mem)(g:G):Option R:=do
 let t<-ts[0]?
 match P.underlying t with
 |some (.slice e)=>do
  let i<-P.info? e;let z<-i.zero;let (k1,r1) <-IH s;let ks:=Fc k1 k2;let ps:List Pr:=[⟨ "fits " ++toString i.bytes,Fo i.bytes,[r1,r2]⟩]
  if De ts.toList [t,t]=true/\0 < i.size/\0 < i.bytes/\k2.length=i.size/\ks.length=i.size/\z.cells.size=i.size then
   match s with
   | .cv .nilSlice=>some { c:= .vec m.length g.n ks,m:=m++[.tok g.n ks e],us:=[⟨ "app",PA,[r1,r2]⟩],ps }
   | .vec id y k1=>
    match m.at id with
    | .tok y' k1' e'=>if y=y'/\e=e'/\k1.length=i.size/\Kd.beqs k1 k1'=true then some { c:= .vec id g.n ks,m:=m.set id (.tok g.n ks e),us:=[⟨ "app",PA,[r1,r2]⟩],ps } else none
    |_=>none
   |_=>none
  else none
 |_=>none
def TM (P:Program)(ts:Array TypeId)(id y:Nat)(k2:List Kd)(r2:Rf)(m:Mem)(g:G):Option R:=do
 let t<-ts[0]?
 match P.underlying t with
 |some (.slice e)=>do
  let i<-P.info? e;let z<-i.zero
  match m.at id with
  | .mrow x y' k1 e'=>
   let ks:=Fc k1 k2
   if (y=y'/\e=e')/\De ts.toList [t,t]=true/\0 < i.size/\0 < i.bytes/\k2.length=i.size/\k1.length=i.size/\z.cells.size=i.size then
    some { c:= .mr id (g.n+1),m:=m.set id (.mrow g.n (g.n+1) ks e),us:=[⟨ "app",PA,[.e x,r2]⟩,⟨ "len",Nc,[.e g.n]⟩],ps:=[⟨ "fits " ++toString i.bytes,Fo i.bytes,[.e x,r2]⟩] }
   else none
  |_=>none
 |_=>none
def CI (s:Nat):Nat->List AC->List (List AC)
 |0,_=>[]
 |k+1,l=>l.take s::CI s k (l.drop s)
def Ox (P:Program)(ts:Array TypeId)(s x:AC)(m:Mem)(g:G):Option R:=
 match x with
 | .asl id off len=>
  match m.at id with
  | .cells l _=>do
   let t<-ts[0]?
   match P.underlying t with
   |some (.slice e)=>do
    let i<-P.info? e;let ls:=CI i.size len (l.drop off)
    if off+len*i.size<=l.length/\0 < i.size/\0 < len/\len<=65536/\(ls.all fun l=>l.all AC.atom)=true then do
     let r<-Xt P ts s (Cd ls) (.e g.n) m { g with n:=g.n+1 }
     some { r with us:=⟨ "row " ++toString i.size,Tv len i.size,Ps ls⟩::r.us }
    else none
   |_=>none
  |_=>none
 | .rsv id y kr=>do
  let t<-ts[0]?
  match P.underlying t,s,m.at id with
  |some (.slice e),.cv .nilSlice,.tok y' ky _=>do
   let i<-P.info? e;let z<-i.zero
   if De ts.toList [t,t]=true/\0 < i.size/\0 < i.bytes/\i.bytes<=1024/\y=y'/\ky.length=i.size/\kr.length=i.size/\z.cells.size=i.size then
    some { c:= .rsv m.length g.n kr,m:=m++[.tok g.n kr e],us:=[⟨ "id",oId,[.c (.list [])]⟩] }
   else none
  |_,_,_=>none
 |x=>match CM x with
  |some (_,_,_,rn)=>do
   let t<-ts[0]?;let tn<-ts[1]?
   match P.underlying t,P.underlying tn,s with
   |some (.slice e),some (.int _),.cv .nilSlice=>do
    let i<-P.info? e;let z<-i.zero;let l<-(II z).cellsOf;let ks:=l.map fun c=>(BN c).1
    if De ts.toList [t,tn]=true/\0 < i.size/\ks.length=i.size/\z.cells.size=i.size/\i.bytes<=1024 then
     some { c:= .rsv m.length g.n ks,m:=m++[.tok g.n ks e],us:=[⟨ "id",oId,[.c (.list [])]⟩],ps:=[⟨ "between 0 68719476736",DH 0 68719476736,[rn]⟩] }
    else none
   |_,_,_=>none
  |none=>do
   let (k2,r2) <-IH x
   Xt P ts s k2 r2 m g
def RD (P:Program)(ts:Array TypeId)(s x:AC)(m:Mem)(g:G):Option R:=
 match s with
 | .mr id y=>do
  let (k2,r2) <-IH x
  TM P ts id y k2 r2 m g
 |s=>Ox P ts s x m g
def UF (P:Program)(t:TypeId)(x:AC)(lo hi:Option AC)(m:Mem)(g:G):Option R:=
 match P.underlying t with
 |some (.array n e)=>
  match x,lo,hi with
  | .ptr id off,none,none=>if (P.info? e).isSome then some { c:= .asl id off n,m } else none
  |_,_,_=>none
 |some (.slice e)=>do
  let i<-P.info? e
  match x,lo,hi with
  | .cv .nilSlice,none,some (.ci _ n)=>if n=0 then some { c:= .cv .nilSlice,m } else none
  | .rsv id y ks,none,some (.ci _ n)=>if n=0 then some { c:= .vec id y ks,m } else none
  |x,lo,hi=>do
   let (ks,r) <-IH x
   if i.size=ks.length/\0 < i.size then
    match lo,hi with
    |none,some b=>do
     let (_,_,_,rb) <-CM b
     some { c:= .ro g.n ks,m,us:=[⟨ "take",L8,[r,rb]⟩],ps:=[⟨ "take",Ik,[r,rb]⟩] }
    |some a,none=>do
     let (_,_,_,ra) <-CM a
     some { c:= .ro g.n ks,m,us:=[⟨ "drop",X3,[r,ra]⟩],ps:=[⟨ "take",Ik,[r,ra]⟩] }
    |some a,some b=>do
     let (_,_,_,ra) <-CM a;let (_,_,_,rb) <-CM b
     some { c:= .ro g.n ks,m,us:=[⟨ "cut",cz,[r,ra,rb]⟩],ps:=[⟨ "cut",cd,[r,ra,rb]⟩] }
    |none,none=>none
   else none
 |_=>none
def RP (P:Program)(t:TypeId)(x:AC)(lo:Option AC)(hi mx:AC)(m:Mem)(g:G):Option R:=
 match P.underlying t,lo with
 |some (.slice e),none=>do
  let i<-P.info? e;let (_,_,_,rb) <-CM hi
  if AC.beq hi mx then
   match x,hi with
   | .cv .nilSlice,.ci _ n=>if n=0 then some { c:= .cv .nilSlice,m } else none
   |x,_=>do
    let (ks,r) <-IH x
    if i.size=ks.length/\0 < i.size then
     match x with
     | .vec id y _=>match m.at id with
      | .tok y' ks2 e'=>if (y=y'/\e=e')/\Kd.beqs ks ks2=true then some { c:= .vec id g.n ks,m:=m.set id (.tok g.n ks e),us:=[⟨ "take",L8,[r,rb]⟩],ps:=[⟨ "take",Ik,[r,rb]⟩] } else none
      |_=>none
     |_=>some { c:= .vec m.length g.n ks,m:=m++[.tok g.n ks e],us:=[⟨ "take",L8,[r,rb]⟩],ps:=[⟨ "take",Ik,[r,rb]⟩] }
    else none
  else none
 |_,_=>none
def O7 (P:Program)(t:TypeId)(len cap:AC)(m:Mem)(g:G):Option R:=
 match P.underlying t with
 |some (.slice e)=>do
  let i<-P.info? e;let z<-i.zero;let (k,_,_,r) <-CM len;let l<-(II z).cellsOf;let ks:=l.map fun c=>(BN c).1
  if AC.beq len cap=true/\k= .i64/\0 < i.size/\ks.length=i.size/\z.cells.size=i.size/\i.bytes<=1024 then
   some { c:= .mr m.length (g.n+1),m:=m++[.mrow g.n (g.n+1) ks e],us:=[⟨ "rep",eC,r::l.map fun c=>(BN c).2⟩,⟨ "id",oId,[r]⟩],ps:=[⟨ "between 0 68719476736",DH 0 68719476736,[r]⟩] }
  else none
 |_=>none
def LH (P:Program)(e:TypeId):Option (List Kd):=do
 let i<-P.info? e;let z<-i.zero;let l<-(II z).cellsOf
 if l.length=i.size/\0 < i.size then some (l.map fun c=>(BN c).1) else none
def FO (ks:List Kd)(e:TypeId)(m:Mem)(g:G):R:={ c:= .mr m.length (g.n+1),m:=m++[.mrow g.n (g.n+1) ks e],us:=[⟨ "id",oId,[.c (.list [])]⟩,⟨ "id",oId,[.c (.int 0)]⟩] }
def Ge (P:Program)(t:TypeId)(len np:Nat)(m:Mem)(g:G):Option R:=
 match P.underlying t with
 |some (.slice e)=>if len=0/\np=0 then (LH P e).map fun ks=>FO ks e m g else none
 |_=>none
def LZ (P:Program)(t:TypeId)(x:AC)(lo:Option AC)(hi mx:AC)(m:Mem)(g:G):Option R:=
 match P.underlying t,lo,hi with
 |some (.slice e),none,.ci _ n=>if AC.beq hi mx=true/\n=0/\(IH x).isSome=true then (LH P e).map fun ks=>FO ks e m g else none
 |_,_,_=>none
def Iz (P:Program)(ts:Array TypeId)(s x:AC)(m:Mem)(g:G):Option R:=do
 let t<-ts[0]?
 match s,P.underlying t with
 | .cv .nilSlice,some (.slice e)=>do
  let ks<-LH P e;let (k2,r2) <-IH x;let r:=FO ks e m g;let r2<-TM P ts m.length (g.n+1) k2 r2 r.m { g with n:=g.n+2 }
  some { r2 with us:=r.us++r2.us }
 |_,_=>none
def ME (P:Program)(t:TypeId)(len cap:AC)(m:Mem)(g:G):Option R:=
 match P.underlying t with
 |some (.slice e)=>do
  let i<-P.info? e;let z<-i.zero;let (k,_,_,r) <-CM len;let l<-(II z).cellsOf;let ks:=l.map fun c=>(BN c).1
  if AC.beq len cap=true/\k= .i64/\0 < i.size/\ks.length=i.size/\z.cells.size=i.size/\i.bytes<=1024 then
   some { c:= .rsv m.length g.n ks,m:=m++[.tok g.n ks e],us:=[⟨ "id",oId,[.c (.list [])]⟩],ps:=[⟨ "between 0 68719476736",DH 0 68719476736,[r]⟩] }
  else none
 |_=>none
def N9 (big:Bool):AC->List AC->Mem->G->Option R
 |x,[],m,_=>some { c:=x,m }
 |x,y::l,m,g=>do
  let r<-UW big x y m g;let r2<-N9 big r.c l m { g with n:=g.n+r.us.length }
  some { c:=r2.c,m,us:=r.us++r2.us }
def HN (P:Program)(b:Builtin)(ts:Array TypeId)(args:List AC)(m:Mem)(g:G):Option R:=
 match b,args with
 | .len,[x]=>do
  let t<-ts[0]?
  cH P t x m g
 | .min,[x,y]=>UW false x y m g
 | .max,[x,y]=>UW true x y m g
 | .append,[s,x]=>RD P ts s x m g
 | .min,x::y::z::l=>N9 false x (y::z::l) m g
 | .max,x::y::z::l=>N9 true x (y::z::l) m g
 | .cap,[.cv .nilSlice]=>do
  let t<-ts[0]?
  match P.underlying t with
  |some (.slice _)=>some { c:= .ci .i64 0,m }
  |_=>none
 |_,_=>none
def fit (k:Kd)(c:AC):Option (Rf × List Pr):=
 match k,ED c with
 | .int k lo hi,some (.int k' lo' hi',r)=>if k=k' then some (r,if lo<=lo'/\hi'<=hi then [] else [⟨ "between " ++toString lo++ " " ++toString hi,DH lo hi,[r]⟩]) else none
 |k,some (k',r)=>if Kd.beq (Kd.join k' k) k&& !k.isAny then some (r,[]) else none
 |_,_=>none
def I6:Kd->Option Ek
 | .int _ _ _=>some .int
 | .bool=>some .bool
 | .str=>some .str
 |_=>none
def Ve (P:Program):Nat->TypeId->Option (List Kd)
 |0,_=>none
 |d+1,t=>
  match P.underlying t with
  |some .bool=>some [.bool]
  |some (.int k)=>some [.int k k.min k.max]
  |some .string=>some [.str]
  |some (.struct fs)=>(fs.toList.mapM fun f=>Ve P d f.type).map List.flatten
  |some (.array n e)=>(Ve P d e).map fun ks=>(List.replicate n ks).flatten
  |some (.slice e)=>(Ve P d e).map fun ks=>[.list ks]
  |_=>none
def HV:Bool->AC->Option (List AC)
 |true,.agg l=>some l
 |true,_=>none
 |false,.agg _=>none
 |false,.tup _=>none
 |false,c=>some [c]
def KW:List Kd->List AC->Option (List Rf × List Pr)
 |[],[]=>some ([],[])
 |k::ks,c::l=>do
  let (r,ps) <-fit k c;let (rs,qs) <-KW ks l
  some (r::rs,ps++qs)
 |_,_=>none
def LT (P:Program)(kt:TypeId)(kk:List Kd)(ka:Bool):Bool:=
 (Bw P kt==ka)&&(match Bg P 12 kt with|some ks=>decide (kk.map I6=ks.map some)|none=>false)
def PN (P:Program)(t:TypeId)(m:Mem)(g:G):Option R:=
 match P.underlying t with
 |some (.map kt et)=>do
  let kk<-Ve P 6 kt;let vk<-Ve P 6 et
  some { c:= .mv m.length,m:=m++[.mapb g.n kk (Bw P kt) vk (Bw P et)],us:=[⟨ "id",oId,[.c (.list [])]⟩] }
 |_=>none
def Fj (x nk:Nat)(rs:List Rf):Nat->Nat->List Kd->List Rf->List AC × List Ex
 |n,c,k::ks,z::zs=>
  let (l,us):=Fj x nk rs (n+1) (c+1) ks zs
  (IG k n::l,⟨ "m" ++RK (kdC k)++toString nk++ " " ++toString c,Zy (kdC k) nk c,.e x::z::rs⟩::us)
 |_,_,_,_=>([],[])
def Qw (P:Program)(t:TypeId)(x ix:AC)(ok:Bool)(m:Mem)(g:G):Option R:=
 match P.underlying t,x with
 |some (.map kt et),.mv id=>
  match m.at id with
  | .mapb mx kk ka vk va=>
   if LT P kt kk ka then do
    let kc<-HV ka ix;let (rs,ps) <-KW kk kc;let i<-P.info? et;let z<-i.zero;let zc<-HV va (II z);let (zs,qs) <-KW vk zc
    if qs.isEmpty then
     let (l,us):=Fj mx kk.length rs g.n 0 vk zs;let v:=if va then AC.agg l else l.headD .any
     if ok then some { c:= .tup [v,.b (g.n+us.length)],m,us:=us++[⟨ "mhas " ++toString kk.length,Yg kk.length,.e mx::rs⟩],ps }
     else some { c:=v,m,us,ps }
    else none
   else none
  |_=>none
 |_,_=>none
def Lm (P:Program)(t:TypeId)(x ix v:AC)(m:Mem)(g:G):Option R:=
 match P.underlying t,x with
 |some (.map kt _),.mv id=>
  match m.at id with
  | .mapb mx kk ka vk va=>
   if LT P kt kk ka then do
    let kc<-HV ka ix;let (rs,ps) <-KW kk kc;let vc<-HV va v;let (vs,qs) <-KW vk vc
    some { c:= .any,m:=m.set id (.mapb g.n kk ka vk va),us:=[⟨ "mset " ++toString kk.length,YA kk.length,.e mx::(rs++vs)⟩],ps:=ps++qs++[⟨ "fits 1",Fo 1,[.e mx,.c (.list [[]])]⟩] }
   else none
  |_=>none
 |_,_=>none
def aOp (P:Program)(ev:Operand->AC)(op:Op)(m:Mem)(g:G):Option R:=
 match op with
 | .move x| .assign x=>some { c:=ev x,m }
 | .pick c a b=>S8 (ev c) (ev a) (ev b) m g
 | .alloc t=>Gy P t m
 | .box t x=>cm t (ev x) m
 | .build t parts=>P5 P t (parts.toList.map fun (i,x)=>(i,ev x)) m
 | .buildSlice t len parts=>EU P t len (parts.toList.map fun (i,x)=>(i,ev x)) m g
 | .load t a=>TI P t (ev a) m g
 | .store t a x=>Uu P t (ev a) (ev x) m g
 | .nilCheck x=>Ep (ev x) m
 | .binOp op t x y _=>U8 P op t (ev x) (ev y) m g
 | .unOp op _ x=>aUn op (ev x) m g
 | .convert s d x=>PJ P s d (ev x) m g
 | .makeFunc fn first cap=>some { c:= .fn fn (first.toList.map ev) (cap.toList.map ev),m }
 | .fieldAddr t x f=>FE P t (ev x) f m
 | .field t x f=>T6 P t (ev x) f m
 | .indexAddr t x i=>CQ P t (ev x) (ev i) m g
 | .index t x i=>Um P t (ev x) (ev i) m g
 | .extract x i=>Lv (ev x) i m
 | .slice t x lo hi none=>UF P t (ev x) (lo.map ev) (hi.map ev) m g
 | .slice t x lo (some hi) (some mx)=>RP P t (ev x) (lo.map ev) (ev hi) (ev mx) m g
 | .makeSlice t n c=>ME P t (ev n) (ev c) m g
 | .makeMap t none=>PN P t m g
 | .lookup t x ix ok=>Qw P t (ev x) (ev ix) ok m g
 | .mapUpdate t x ix v=>Lm P t (ev x) (ev ix) (ev v) m g
 | .call { callee:= .builtin b,args,argTypes }=>HN P b argTypes (args.toList.map ev) m g
 |_=>none
def FP (k:Nat)(P:Program)(ev:Operand->AC)(op:Op)(m:Mem)(g:G):Option R:=
 match k with
 |0=>aOp P ev op m g
 |1=>match op with
  | .makeSlice t n c=>O7 P t (ev n) (ev c) m g
  | .buildSlice t len parts=>Ge P t len parts.size m g
  | .slice t x lo (some hi) (some mx)=>LZ P t (ev x) (lo.map ev) (ev hi) (ev mx) m g
  | .call { callee:= .builtin .append,args,argTypes }=>match args.toList.map ev with
   |[s,x]=>Iz P argTypes s x m g
   |_=>none
  |_=>none
 |_=>match op with
  | .buildSlice t len parts=>if k=3 then Ov P t len (parts.toList.map fun (i,x)=>(i,ev x)) m g else Kf P t len (parts.toList.map fun (i,x)=>(i,ev x)) m
  |op=>aOp P ev op m g
end
section
open Go Go.RowKit
mutual
theorem AC.beq_eq:∀(c d:AC),AC.beq c d=true->c=d
 | .any,d,h=>by cases d<;>simp_all [AC.beq]
 | .anyc,d,h=>by cases d<;>simp_all [AC.beq]
 | .on c a,d,h=>by
  cases d<;>simp[AC.beq] at h;rw[h.1,AC.beq_eq a _ h.2]
 | .gd c a,d,h=>by
  cases d<;>simp[AC.beq] at h;rw[h.1,AC.beq_eq a _ h.2]
 | .cb a,d,h=>by cases d<;>simp_all [AC.beq]
 | .b a,d,h=>by cases d<;>simp_all [AC.beq]
 | .nb a,d,h=>by cases d<;>simp_all [AC.beq]
 | .ci k n,d,h=>by cases d<;>simp_all [AC.beq]
 | .i k lo hi x,d,h=>by cases d<;>simp_all [AC.beq]
 | .cv a,d,h=>by cases d<;>simp_all [AC.beq]
 | .v a,d,h=>by cases d<;>simp_all [AC.beq]
 | .s a,d,h=>by cases d<;>simp_all [AC.beq]
 | .ptr _ _,d,h=>by cases d<;>simp_all [AC.beq]
 | .pix _ _ _ _ _ _,d,h=>by cases d<;>simp_all [AC.beq]
 | .ro x ks,d,h=>by
  cases d<;>simp[AC.beq] at h;rw[h.1,Kd.beqs_eq ks _ h.2]
 | .rp _ _ _ ks,d,h=>by
  cases d<;>simp[AC.beq] at h;rw[h.1.1.1,h.1.1.2,h.1.2,Kd.beqs_eq ks _ h.2]
 | .vec _ _ ks,d,h=>by
  cases d<;>simp[AC.beq] at h;rw[h.1.1,h.1.2,Kd.beqs_eq ks _ h.2]
 | .fn f a1 a2,d,h=>by
  cases d<;>simp[AC.beq] at h;rw[h.1.1,AC.beqL_eq a1 _ h.1.2,AC.beqL_eq a2 _ h.2]
 | .sel x l,d,h=>by
  cases d<;>simp[AC.beq] at h;rw[h.1,AC.beqL_eq l _ h.2]
 | .yl x,d,h=>by cases d<;>simp_all [AC.beq]
 | .asl a1 a2 a3,d,h=>by cases d<;>simp_all [AC.beq]
 | .rsv a1 a2 ks,d,h=>by
  cases d<;>simp[AC.beq] at h;rw[h.1.1,h.1.2,Kd.beqs_eq ks _ h.2]
 | .mr a1 a2,d,h=>by cases d<;>simp_all [AC.beq]
 | .mp a1 a2 a3 a4 a5,d,h=>by cases d<;>simp_all [AC.beq]
 | .mv a1,d,h=>by cases d<;>simp_all [AC.beq]
 | .agg l,d,h=>by
  cases d<;>simp[AC.beq] at h;rw[AC.beqL_eq l _ h]
 | .tup l,d,h=>by
  cases d<;>simp[AC.beq] at h;rw[AC.beqL_eq l _ h]
theorem AC.beqL_eq:∀(l l':List AC),AC.beqL l l'=true->l=l'
 |[],l',h=>by cases l'<;>simp_all [AC.beqL]
 |a::l,l',h=>by
  cases l'<;>simp[AC.beqL] at h;rw[AC.beq_eq a _ h.1,AC.beqL_eq l _ h.2]
end
section
variable {T:Tab}{n n':Nat}{ρ :Nat->Option Nat}{m:Mem}{w:World}
theorem AD.mono {n':Nat}(hm:AD T n ρ m w)(hn:n<=n'):AD T n' ρ m w where
 blk:=fun id=>by
  have h:=hm.blk id;cases hx:m.at id with
  |pad=>trivial
  |gone=>trivial
  |cells l e=>
   rw[hx] at h;obtain⟨b,vs,h1,h2,h3⟩:=h;exact⟨b,vs,h1,h2,AB.mono (AE.refl T n ρ m w) hm hn l vs h3⟩
  |tok x ks e=>
   rw[hx] at h;exact⟨vw h.1 hn,h.2⟩
  |mrow x y ks e=>
   rw[hx] at h;exact⟨⟨vw h.1.1 hn,vw h.1.2 hn⟩,h.2⟩
  |mapb x kk ka vk va=>
   rw[hx] at h;exact⟨vw h.1 hn,h.2⟩
  |lp x st=>
   rw[hx] at h;obtain⟨b,q,h1,h2,h3,h4,h5,h9,h6,j,h7,h8⟩:=h;exact⟨b,q,h1,h2,h3,h4,h5,h9,fun i c hc=>AA.mono (AE.refl T n ρ m w) hm hn _ _ (h6 i c hc),j,AA.mono (AE.refl T n ρ m w) hm hn _ _ h7,h8⟩
 inj:=hm.inj
 fr:=hm.fr
theorem AA.up0 {n':Nat}(hn:n<=n'){c:AC}{v:Value}(h:AA T n ρ m w c v):AA T n' ρ m w c v:=
 AA.mono0 (AE.refl T n ρ m w) hn c v h
theorem AA.up {n':Nat}(hm:AD T n ρ m w)(hn:n<=n'){c:AC}{v:Value}(h:AA T n ρ m w c v):AA T n' ρ m w c v:=
 AA.mono (AE.refl T n ρ m w) hm hn c v h
theorem AB.up {n':Nat}(hm:AD T n ρ m w)(hn:n<=n'){c:List AC}{v:List Value}(h:AB T n ρ m w c v):AB T n' ρ m w c v:=
 AB.mono (AE.refl T n ρ m w) hm hn c v h
theorem CV.one (c:CV):c.value.oneCell'=true:=by cases c<;>rfl
theorem Fy {c:AC}{v:Value}(ha:c.atom=true)(h:AA T n ρ m w c v):v.oneCell'=true:=by
 cases c<;>simp[AC.atom] at ha
 case anyc=>exact h
 case cb=>rw[show v=_ from h];rfl
 case b=>obtain⟨_,b,_,h⟩:=h;rw[h];rfl
 case nb=>obtain⟨_,b,_,h⟩:=h;rw[h];rfl
 case ci=>rw[show v=_ from h];rfl
 case i=>obtain⟨_,i,_,h,_⟩:=h;rw[h];rfl
 case cv c=>rw[show v=_ from h];exact c.one
 case v=>exact h.2.2
 case s=>obtain⟨_,i,_,h,_⟩:=h;rw[h];rfl
 case ptr=>obtain⟨b,_,h,_⟩:=h;rw[h];rfl
 case pix=>obtain⟨_,b,j,_,_,_,_,h,_⟩:=h;rw[h];rfl
 case ro=>exact h.2.one
 case rp=>obtain⟨_,j,b,o,us,_,_,_,h,_⟩:=h;rw[h];rfl
 case vec=>exact h.2.2.1.one
 case fn=>obtain⟨_,_,h,_⟩:=h;rw[h];rfl
 case yl=>obtain⟨b,_,h,_⟩:=h;rw[h];rfl
 case asl=>obtain⟨b,_,h,_⟩:=h;rw[h];rfl
 case rsv=>obtain⟨_,_,_,⟨a,len,cap,h⟩,_⟩:=h;rw[h];rfl
 case mr=>obtain⟨_,j,a,cap,_,_,h,_⟩:=h;rw[h];rfl
 case mp=>obtain⟨_,j,L,b,_,_,_,h,_⟩:=h;rw[h];rfl
 case mv=>obtain⟨b,_,h,_⟩:=h;rw[h];rfl
theorem aE {v:Value}(h:v.oneCell'=true):v.cells= #[v]:=by
 cases v<;>simp[Value.oneCell'] at h<;>rfl
theorem AB.ones {l:List AC}{vs:List Value}(ha:l.all AC.atom=true)(h:AB T n ρ m w l vs):∀v∈vs,v.oneCell'=true:=by
 intro v hv;obtain⟨i,hi⟩:=List.getElem?_of_mem hv;have hl:i < l.length:=by rw[<-h.length];exact (vu.1 hi).1
 obtain⟨u,h1,h2⟩:=h.get (vt hl);rw[hi] at h1;cases h1;exact Fy (wR.1 ha _ (List.getElem_mem hl)) h2
theorem CC {c:AC}{l:List AC}{v:Value}(hc:c.cellsOf=some l)(h:AA T n ρ m w c v):
  ∃vs,v.cells=(vs:List Value).toArray/\AB T n ρ m w l vs/\l.all AC.atom=true/\(∀u∈vs,u.oneCell'=true):=by
 have one:∀c:AC,c.atom=true->AA T n ρ m w c v->∃vs,v.cells=(vs:List Value).toArray/\AB T n ρ m w [c] vs/\[c].all AC.atom=true/\(∀u∈vs,u.oneCell'=true):=by
  intro c ha h;exact⟨[v],aE (Fy ha h),⟨v,[],rfl,h,rfl⟩,by simp[ha],by intro u hu;simp at hu;rw[hu];exact Fy ha h⟩
 cases c
 case agg l'=>
  simp only[AC.cellsOf] at hc;split at hc
  .rename_i ha;cases hc;obtain⟨vs,h1,h2⟩:=h;exact⟨vs,by rw[h1];rfl,h2,ha,h2.ones ha⟩
  .cases hc
 all_goals
  simp only[AC.cellsOf] at hc;split at hc
  .rename_i ha;cases hc;exact one _ ha h
  .cases hc
theorem Ti (v:Value):AA T n ρ m w (Yz v) v:=by
 have one:∀u:Value,u.oneCell'=true->AA T n ρ m w .anyc u:=fun _ h=>h;cases v with
 |pointer a=>cases a<;>first|exact rfl|exact one _ rfl
 |slice a l c=>
  cases a with
  |some a=>exact one _ rfl
  |none=>
   cases l with
   |succ l=>exact one _ rfl
   |zero=>cases c<;>first|exact rfl|exact one _ rfl
 |map r=>cases r<;>first|exact rfl|exact one _ rfl
 |agg _=>exact trivial
 |tuple _=>exact trivial
 |bool _=>exact rfl
 |int _ _=>exact rfl
 |string _=>exact rfl
 |nilFunc=>exact rfl
 |nilIface=>exact rfl
 |float _ _=>exact one _ rfl
 |complex _ _ _=>exact one _ rfl
 |chan _=>exact one _ rfl
 |func _ _ _=>exact one _ rfl
 |iface _ _=>exact one _ rfl
theorem GJ (v:Value):AA T n ρ m w (II v) v:=by
 cases v
 case agg cs=>
  refine⟨cs.toList,by simp,AB.of_get (by simp) ?_⟩;intro i c u h1 h2;simp only[wW] at h1;rw[h2] at h1;simp at h1;subst h1;exact Ti u
 all_goals (unfold II;exact Ti _)
theorem evc (T:Tab)(u:U):Rf.eval T (.c u)=u:=rfl
theorem eve (T:Tab)(x:Nat):Rf.eval T (.e x)=T x:=rfl
theorem evn (T:Tab)(x:Nat):Rf.eval T (.n x)= .bool (!(T x).toB):=rfl
theorem Fg (ok:Nat->Nat->Prop)(ks:List Kd):AM ok w (.list ks) (.list []) (.slice none 0 0):=
 ⟨[],rfl,by simp,fun _=>rfl,none,0,rfl,vr _,fun h=>absurd h (by simp)⟩
theorem CV.kd {c:CV}{k:Kd}{r:Rf}{v:Value}(hs:ED (.cv c)=some (k,r))(h:v=c.value)(ok:Nat->Nat->Prop):AM ok w k (r.eval T) v:=by
 subst h;cases c
 case str s=>
  simp only[ED] at hs;split at hs
  .rename_i hz;cases hs;exact⟨s,rfl,rfl,wI hz (by decide)⟩
  .cases hs
 all_goals simp only[ED] at hs<;>cases hs
 case nilSlice=>exact Fg _ _
 all_goals exact⟨rfl,rfl⟩
theorem GP {c:AC}{v:Value}{k:Kd}{r:Rf}(hc:ED c=some (k,r))(h:AA T n ρ m w c v):AM (AS T ρ m w) w k (r.eval T) v:=by
 cases c
 case cv c=>exact CV.kd hc h _
 all_goals simp only[ED] at hc<;>cases hc
 case cb=>exact⟨_,rfl,h⟩
 case b=>obtain⟨_,i,h1,h2⟩:=h;exact⟨i,h1,h2⟩
 case nb=>obtain⟨_,i,h1,h2⟩:=h;exact⟨!i,by simp[Rf.eval,h1,U.toB],h2⟩
 case ci=>exact⟨_,rfl,h,Int.le_refl _,Int.le_refl _⟩
 case i=>obtain⟨_,i,h1,h2,h3,h4⟩:=h;exact⟨i,h1,h2,h3,h4⟩
 case v=>exact h.2
 case s=>obtain⟨_,i,h1,h2⟩:=h;exact⟨i,h1,h2⟩
 case ro=>exact h.2
 case vec=>exact h.2.2.1
theorem Dw {k:Kd}{x:Nat}{v:Value}(hx:x < n)(h:AM (AS T ρ m w) w k (T x) v):AA T n ρ m w (IG k x) v:=by
 cases k with
 |int k lo hi=>
  obtain⟨i,h1,h2,h3,h4⟩:=h;simp only[IG];split
  .obtain rfl:i=lo:=by omega
   exact h2
  .exact⟨hx,i,h1,h2,h3,h4⟩
 |bool=>obtain⟨i,h1,h2⟩:=h;exact⟨hx,i,h1,h2⟩
 |str=>obtain⟨i,h1,h2⟩:=h;exact⟨hx,i,h1,h2⟩
 |val=>exact⟨hx,h⟩
 |any=>exact h
 |list ks=>exact⟨hx,h⟩
theorem BZ {c:AC}{v:Value}{k:IntKind}{lo hi:Int}{r:Rf}(hc:CM c=some (k,lo,hi,r))(h:AA T n ρ m w c v):
  ∃i,v= .int k i/\r.eval T= .int i/\lo<=i/\i<=hi:=by
 cases c<;>simp only[CM] at hc<;>cases hc
 case ci=>exact⟨_,h,rfl,Int.le_refl _,Int.le_refl _⟩
 case i=>
  obtain⟨h0,i,h1,h2,h3,h4⟩:=h;exact⟨i,h2,h1,h3,h4⟩
theorem DR {c:AC}{v:Value}{k:Option Bool}{r:Rf}(hc:G2 c=some (k,r))(h:AA T n ρ m w c v):
  ∃i,v= .bool i/\r.eval T= .bool i/\∀b,k=some b->i=b:=by
 cases c<;>simp only[G2] at hc<;>cases hc
 case cb=>exact⟨_,h,rfl,fun b hb=>by cases hb;rfl⟩
 case b=>
  obtain⟨h0,i,h1,h2⟩:=h;exact⟨i,h2,h1,fun b hb=>by cases hb⟩
 case nb=>
  obtain⟨h0,i,h1,h2⟩:=h;exact⟨!i,h2,by simp[Rf.eval,h1,U.toB],fun b hb=>by cases hb⟩
theorem EV {c:AC}{v:Value}{ks:List Kd}{r:Rf}(hc:IH c=some (ks,r))(h:AA T n ρ m w c v):
  AM (AS T ρ m w) w (.list ks) (r.eval T) v:=by
 cases c<;>simp only[IH] at hc
 case ro x ks=>cases hc;exact h.2
 case vec id x ks=>cases hc;exact h.2.2.1
 case cv c=>
  cases c<;>simp only at hc<;>cases hc;rw[show v=_ from h];exact Fg _ _
 all_goals cases hc
theorem XW {c:AC}{v:Value}(ha:c.atom=true)(h:AA T n ρ m w c v):AM (AS T ρ m w) w (BN c).1 ((BN c).2.eval T) v:=by
 unfold BN;cases hs:ED c with
 |some kr=>exact GP hs h
 |none=>exact Fy ha h
theorem I4 (x t:Nat):∀(ks:List Kd) (n0 c:Nat),(DK x t n0 c ks).1.length=ks.length/\(DK x t n0 c ks).2.length=ks.length
 |[],_,_=>⟨rfl,rfl⟩
 |k::ks,n0,c=>by simp[DK,I4 x t ks (n0+1) (c+1)]
theorem Kw {b:Bool}{sb:Rf}(hsb:(sb.eval T).toB=b){c d:AC}{v:Value}{n0:Nat}(hnn:n<=n')
  (hnew:New T n0 (mix n0 sb c d).2) (hl:n0+(mix n0 sb c d).2.length<=n')
  (h1:b=true->AA T n ρ m w c v) (h2:b=false->AA T n ρ m w d v):AA T n' ρ m w (mix n0 sb c d).1 v:=by
 unfold mix at hnew hl⊢;split
 .rename_i he;have:=AC.beq_eq _ _ he;subst this;cases b with
  |true=>exact (h1 rfl).up0 hnn
  |false=>exact (h2 rfl).up0 hnn
 .rename_i hne;simp only[hne] at hnew hl;have anyc:c.atom=true->d.atom=true->v.oneCell'=true:=fun a1 a2=>by
   cases b with
   |true=>exact Fy a1 (h1 rfl)
   |false=>exact Fy a2 (h2 rfl)
  split
  .rename_i k r k' r' hx hy;simp only[hx,hy] at hnew hl;have one:v.oneCell'=true:=by
    cases b with
    |true=>exact (GP hx (h1 rfl)).one
    |false=>exact (GP hy (h2 rfl)).one
   split
   .exact one
   .rename_i ha;simp only[ha] at hnew hl;refine Dw (by simp at hl;omega) ?_;have e:=hnew.head;simp[Ex.eval,oIf,u0,u1,u2,hsb] at e;rw[e];cases b with
    |true=>exact AM.mono (fun _ _ h=>⟨h,rfl⟩) _ _ _ (Kd.join_l _ _ _ _ (GP hx (h1 rfl)))
    |false=>exact AM.mono (fun _ _ h=>⟨h,rfl⟩) _ _ _ (Kd.join_r _ _ _ _ (GP hy (h2 rfl)))
  .rename_i hnone;split
   .rename_i ha;simp only[vo] at ha;exact anyc ha.1 ha.2
   .trivial
theorem gT {b:Bool}{sb:Rf}(hsb:(sb.eval T).toB=b){c d:AC}{v:Value}{n0:Nat}(hnn:n<=n')
  (hnew:New T n0 (Qu n0 sb c d).2) (hl:n0+(Qu n0 sb c d).2.length<=n')
  (h1:b=true->AA T n ρ m w c v) (h2:b=false->AA T n ρ m w d v):AA T n' ρ m w (Qu n0 sb c d).1 v:=by
 unfold Qu at hnew hl⊢;split
 .rename_i he;have:=AC.beq_eq _ _ he;subst this;cases b with
  |true=>exact (h1 rfl).up0 hnn
  |false=>exact (h2 rfl).up0 hnn
 .rename_i hne;simp only[hne] at hnew hl;split
  .rename_i hp;simp only[hp,if_true] at hnew hl;refine⟨by simp at hl;omega,fun hc=>?_⟩;have e:=hnew.head;simp[Ex.eval,oId,u0] at e;rw[e] at hc;have hb:b=true:=by rw[<-hsb,hc];rfl
   exact (h1 hb).up0 hnn
  .rename_i hp;simp only[hp] at hnew hl;split
   .rename_i hq;simp only[hq,if_true] at hnew hl;refine⟨by simp at hl;omega,fun hc=>?_⟩;have e:=hnew.head;simp[Ex.eval,RG,u0,hsb] at e;rw[e] at hc;cases b<;>simp at hc;exact (h2 rfl).up0 hnn
   .rename_i hq;simp only[hq] at hnew hl;exact Kw hsb hnn hnew hl h1 h2
theorem Nq {f:Nat->AC->AC->AC × List Ex}{b:Bool}:
  ∀{l l':List AC} {vs:List Value} {n0:Nat},(∀n0 c d v,c∈l->d∈l'->New T n0 (f n0 c d).2->n0+(f n0 c d).2.length<=n'->(b=true->AA T n ρ m w c v)->(b=false->AA T n ρ m w d v)->AA T n' ρ m w (f n0 c d).1 v)->
  l.length=l'.length->New T n0 (MH f n0 l l').2->n0+(MH f n0 l l').2.length<=n'->(b=true->AB T n ρ m w l vs)->(b=false->AB T n ρ m w l' vs)->
  AB T n' ρ m w (MH f n0 l l').1 vs
 |[],[],vs,_,_,_,_,_,h1,h2=>by
  cases b with
  |true=>exact h1 rfl
  |false=>exact h2 rfl
 |[],_::_,_,_,_,h,_,_,_,_=>by simp at h
 |_::_,[],_,_,_,h,_,_,_,_=>by simp at h
 |c::l,d::l',vs,n0,hf,hll,hnew,hl,h1,h2=>by
  simp only[MH] at hnew hl⊢;simp only[wC] at hl;have hv:∃u us,vs=u::us/\(b=true->AA T n ρ m w c u/\AB T n ρ m w l us)/\(b=false->AA T n ρ m w d u/\AB T n ρ m w l' us):=by
   cases b with
   |true=>obtain⟨u,us,e,k1,k2⟩:=h1 rfl;exact⟨u,us,e,fun _=>⟨k1,k2⟩,(fun h=>by cases h)⟩
   |false=>obtain⟨u,us,e,k1,k2⟩:=h2 rfl;exact⟨u,us,e,(fun h=>by cases h),fun _=>⟨k1,k2⟩⟩
  obtain⟨u,us,rfl,k1,k2⟩:=hv;refine⟨u,us,rfl,hf n0 c d u (by simp) (by simp) hnew.left (by omega) (fun h=>(k1 h).1) (fun h=>(k2 h).1),?_⟩;exact Nq (fun n0 c d v hc hd=>hf n0 c d v (by simp[hc]) (by simp[hd])) (by simpa using hll) hnew.right (by omega) (fun h=>(k1 h).2) (fun h=>(k2 h).2)
theorem Qv {b:Bool}{sb:Rf}(hsb:(sb.eval T).toB=b){c d:AC}{v:Value}{n0:Nat}(hnn:n<=n')
  (hnew:New T n0 (KY n0 sb c d).2) (hl:n0+(KY n0 sb c d).2.length<=n')
  (h1:b=true->AA T n ρ m w c v) (h2:b=false->AA T n ρ m w d v):AA T n' ρ m w (KY n0 sb c d).1 v:=by
 by_cases hh:∃l l',c= .agg l/\d= .agg l'
 .obtain⟨l,l',rfl,rfl⟩:=hh;simp only[KY] at hnew hl⊢;split
  .rename_i hll;simp only[hll,if_true] at hnew hl;have hv:∃vs,v= .agg (vs:List Value).toArray/\(b=true->AB T n ρ m w l vs)/\(b=false->AB T n ρ m w l' vs):=by
    cases b with
    |true=>obtain⟨vs,e,k⟩:=h1 rfl;exact⟨vs,e,fun _=>k,(fun h=>by cases h)⟩
    |false=>obtain⟨vs,e,k⟩:=h2 rfl;exact⟨vs,e,(fun h=>by cases h),fun _=>k⟩
   obtain⟨vs,e,k1,k2⟩:=hv;exact⟨vs,e,Nq (fun n0 c d v _ _ a1 a2 a3 a4=>Kw hsb hnn a1 a2 a3 a4) hll hnew hl k1 k2⟩
  .trivial
 .have e:KY n0 sb c d=Qu n0 sb c d:=by
   unfold KY;split
   .exact absurd ⟨_,_,rfl,rfl⟩ hh
   .rfl
  rw[e] at hnew hl⊢;exact gT hsb hnn hnew hl h1 h2
theorem fy {b:Bool}{sb:Rf}(hsb:(sb.eval T).toB=b){c d:AC}{v:Value}{n0:Nat}(hnn:n<=n')
  (hnew:New T n0 (E2 n0 sb c d).2) (hl:n0+(E2 n0 sb c d).2.length<=n')
  (h1:b=true->AA T n ρ m w c v) (h2:b=false->AA T n ρ m w d v):AA T n' ρ m w (E2 n0 sb c d).1 v:=by
 by_cases hh:∃l l',c= .tup l/\d= .tup l'
 .obtain⟨l,l',rfl,rfl⟩:=hh;simp only[E2] at hnew hl⊢;split
  .rename_i hll;simp only[hll,if_true] at hnew hl;have hv:∃vs,v= .tuple (vs:List Value).toArray/\(b=true->AB T n ρ m w l vs)/\(b=false->AB T n ρ m w l' vs):=by
    cases b with
    |true=>obtain⟨vs,e,k⟩:=h1 rfl;exact⟨vs,e,fun _=>k,(fun h=>by cases h)⟩
    |false=>obtain⟨vs,e,k⟩:=h2 rfl;exact⟨vs,e,(fun h=>by cases h),fun _=>k⟩
   obtain⟨vs,e,k1,k2⟩:=hv;exact⟨vs,e,Nq (fun n0 c d v _ _ a1 a2 a3 a4=>Qv hsb hnn a1 a2 a3 a4) hll hnew hl k1 k2⟩
  .trivial
 .have e:E2 n0 sb c d=KY n0 sb c d:=by
   unfold E2;split
   .exact absurd ⟨_,_,rfl,rfl⟩ hh
   .rfl
  rw[e] at hnew hl⊢;exact Qv hsb hnn hnew hl h1 h2
end
end
section
open Go Go.RowKit
theorem Br (b off j:Nat):(⟨b,off,none⟩:Addr).add j=⟨b,off+j,none⟩:=by
 unfold Addr.add;split
 .subst_vars;rfl
 .rfl
theorem AN (m:Mem)(x:Blk)(id:Nat):Mem.at (m++[x]) id=if id=m.length then x else m.at id:=by
 unfold Mem.at;rw[List.getElem?_append];split
 .rename_i h;rw[if_neg (by omega)]
 .rename_i h;by_cases he:id=m.length
  .subst he;simp
  .rw[if_neg he,wV (by simp;omega),wV (by omega)]
theorem DI (m:Mem)(k:Nat)(x:Blk)(id:Nat)(hk:m.at k≠ .pad):Mem.at (m.set k x) id=if id=k then x else m.at id:=by
 unfold Mem.at at*;rw[List.getElem?_set];have hl:k < m.length:=by
  rcases wD k m.length with h|h
  .exact h
  .rw[wV h] at hk;exact absurd rfl hk
 by_cases he:id=k
 .subst he;simp[hl]
 .rw[if_neg (fun h=>he h.symm),if_neg he]
def B5 (ρ :Nat->Option Nat)(id b:Nat):Nat->Option Nat:=fun j=>if j=id then some b else ρ j
theorem Af (ρ :Nat->Option Nat)(id b:Nat):B5 ρ id b id=some b:=by simp[B5]
theorem Ad (ρ :Nat->Option Nat)(id b:Nat){j:Nat}(h:j≠id):B5 ρ id b j= ρ j:=by simp[B5,h]
section
variable {T:Tab}{n n':Nat}{ρ :Nat->Option Nat}{m:Mem}{w:World}{g:G}{us:List Ex}
theorem At (w:World)(o:Obj)(k:Nat)(h:k < w.heap.size):(w.alloc o).heap[k]? =w.heap[k]? :=by
 show (w.heap.push o)[k]? =_;rw[Array.getElem?_push,if_neg (by omega)]
theorem CX (w:World)(o:Obj):(w.alloc o).heap[w.heap.size]? =some o:=by
 show (w.heap.push o)[w.heap.size]? =_;simp
theorem Gz (hm:AD T n ρ m w)(o:Obj)(x:Blk):AE T n ρ m w (B5 ρ m.length w.heap.size) (m++[x]) (w.alloc o) where
 os:=rfl
 tape:=rfl
 output:=rfl
 size:=by simp
 mlen:=fun id h=>by
  rw[AN];split
  .rename_i e;subst e;exact absurd (Mem.at_ge (vr _)) h
  .exact h
 rho:=fun id h=>by
  have:id≠m.length:=fun e=>by subst e;exact A7 h (Mem.at_ge (vr _))
  rw[AN,if_neg this];exact⟨Ad _ _ _ this,h⟩
 untr:=fun id h ht=>by
  have:id≠m.length:=fun e=>by subst e;exact h (Mem.at_ge (vr _))
  rw[AN,if_neg this] at ht;exact ht
 fresh:=fun id b h ht hr=>by
  by_cases e:id=m.length
  .subst e;rw[Af] at hr;cases hr;exact vr _
  .rw[AN,if_neg e,h] at ht;cases ht
 old:=fun k hk _=>At w o k hk
 tok:=fun id y ks e h=>by
  have:id≠m.length:=fun e=>by subst e;rw[Mem.at_ge (vr _)] at h;cases h
  refine .inl ⟨by rw[AN,if_neg this];exact h,Ad _ _ _ this,fun b hb=>?_⟩;exact At w o b (hm.lt (by rw[h];rfl) hb)
 row:=fun id x' y ks e h=>by
  have:id≠m.length:=fun e=>by subst e;rw[Mem.at_ge (vr _)] at h;cases h
  refine .inr ⟨x',y,ks,by rw[AN,if_neg this];exact h,rfl,.inl ⟨rfl,Ad _ _ _ this,fun b vs hb hv=>⟨vs,?_,rfl⟩⟩⟩;rw[At w o b (hm.lt (by rw[h];rfl) hb)];exact hv
theorem BB.step {ρ':Nat->Option Nat}{m':Mem}{w':World}(h:AE T n ρ m w ρ' m' w')(hm:AD T n ρ m w)(hn:n<=n'){id:Nat}(he:m'.at id=m.at id)
  (hr: ρ' id= ρ id) (hw:∀b, ρ id=some b->w'.heap[b]? =w.heap[b]?):BB T n' ρ' m' w' id (m'.at id):=by
 rw[he];have hb:=hm.blk id;cases hx:m.at id with
 |pad=>trivial
 |gone=>trivial
 |cells l e=>
  rw[hx] at hb;obtain⟨b,vs,h1,h2,h3⟩:=hb;exact⟨b,vs,by rw[hr];exact h1,by rw[hw b h1];exact h2,AB.mono h hm hn l vs h3⟩
 |lp x st=>
  rw[hx] at hb;obtain⟨b,q,h1,h2,h3,h4,h5,h9,h6,j,h7,h8⟩:=hb;exact⟨b,q,by rw[hr];exact h1,by rw[hw b h1];exact h2,h3,h4,h5,h9,fun i c hc=>AA.mono h hm hn _ _ (h6 i c hc),j,AA.mono h hm hn _ _ h7,h8⟩
 |tok x ks e=>
  rw[hx] at hb;obtain⟨h0,r,h1,h2⟩:=hb;refine⟨vw h0 hn,r,h1,?_⟩;rcases h2 with h2|⟨b,vs,h2,h3,h4,h5⟩
  .exact .inl (by rw[hr];exact h2)
  .exact .inr ⟨b,vs,by rw[hr];exact h2,by rw[hw b h2];exact h3,h4,h5⟩
 |mrow x y ks e=>
  rw[hx] at hb;obtain⟨h0,r,h1,h1',h1'',h2⟩:=hb;refine⟨⟨vw h0.1 hn,vw h0.2 hn⟩,r,h1,h1',h1'',?_⟩;rcases h2 with⟨h2,h3⟩|⟨b,vs,us,h2,h3,h4,h5⟩
  .exact .inl ⟨by rw[hr];exact h2,h3⟩
  .exact .inr ⟨b,vs,us,by rw[hr];exact h2,by rw[hw b h2];exact h3,AU.mono (fun _ _ hs=>h.safe0 hs) h4,h5⟩
 |mapb x kk ka vk va=>
  rw[hx] at hb;obtain⟨h0,l,b,es,cl,h1,h2,h3,h4,h5,h6,h7⟩:=hb;refine⟨vw h0 hn,l,b,es,cl,h1,by rw[hr];exact h2,by rw[hw b h2];exact h3,h4,h5,fun i us e hl he=>?_,h7⟩;obtain⟨u1,u2,q1,q2,q3⟩:=h6 i us e hl he;exact⟨u1,u2,q1,Bn.mono (fun _ _ hs=>h.safe0 hs) q2,Bn.mono (fun _ _ hs=>h.safe0 hs) q3⟩
theorem Oa (hm:AD T n ρ m w){l:List AC}{vs:List Value}(hl:AB T n ρ m w l vs)(e:TypeId):
  AE T n ρ m w (B5 ρ m.length w.heap.size) (m++[.cells l e]) (w.alloc (.cells vs.toArray e))/\
  AD T n (B5 ρ m.length w.heap.size) (m++[.cells l e]) (w.alloc (.cells vs.toArray e))/\
  AA T n (B5 ρ m.length w.heap.size) (m++[.cells l e]) (w.alloc (.cells vs.toArray e)) (.ptr m.length 0) (.pointer (some ⟨w.heap.size,0,none⟩)):=by
 have hs:=Gz hm (.cells vs.toArray e) (.cells l e);refine⟨hs,⟨fun id=>?_,fun id id' b ht ht' hr hr'=>?_,fun b off h=>hm.fr b off (wI hs.size h)⟩,w.heap.size,Af _ _ _,rfl,by rw[AN,if_pos rfl];rfl⟩
 .by_cases he:id=m.length
  .subst he;rw[AN,if_pos rfl];exact⟨w.heap.size,vs,Af _ _ _,CX _ _,AB.mono hs hm (vr _) _ _ hl⟩
  .by_cases ht:(m.at id).tracked=true
   .exact BB.step hs hm (vr _) (by rw[AN,if_neg he]) (Ad _ _ _ he) (fun b hb=>At w _ b (hm.lt ht hb))
   .rw[AN,if_neg he];cases hx:m.at id with
    |pad=>trivial
    |gone=>trivial
    |cells=>rw[hx] at ht;exact absurd rfl ht
    |lp=>rw[hx] at ht;exact absurd rfl ht
    |tok=>rw[hx] at ht;exact absurd rfl ht
    |mrow=>rw[hx] at ht;exact absurd rfl ht
    |mapb=>rw[hx] at ht;exact absurd rfl ht
 .rw[AN] at ht ht';by_cases he:id=m.length
  .by_cases he':id'=m.length
   .omega
   .rw[if_neg he'] at ht';subst he;rw[Af] at hr;cases hr;rw[Ad _ _ _ he'] at hr';have:=hm.lt ht' hr';omega
  .rw[if_neg he] at ht;rw[Ad _ _ _ he] at hr;by_cases he':id'=m.length
   .subst he';rw[Af] at hr';cases hr';have:=hm.lt ht hr;omega
   .rw[if_neg he'] at ht';rw[Ad _ _ _ he'] at hr';exact hm.inj id id' b ht ht' hr hr'
theorem Cp (w:World)(b:Nat)(cs:Array Value)(k:Nat)(h:k≠b):(w.setRow b cs).heap[k]? =w.heap[k]? :=setRow_other w b k cs h
theorem Kl (hm:AD T n ρ m w){id b:Nat}{l l':List AC}{vs vs':List Value}{e:TypeId}(hid:m.at id= .cells l e)(hr: ρ id=some b)
  (hb:w.heap[b]? =some (.cells vs.toArray e (0,0))) (hl:AB T n' ρ m w l' vs') (hn:n<=n'):
  AE T n ρ m w ρ (m.set id (.cells l' e)) (w.setRow b vs'.toArray)/\AD T n' ρ (m.set id (.cells l' e)) (w.setRow b vs'.toArray):=by
 have hne:m.at id≠ .pad:=by rw[hid];exact fun h=>by cases h
 have hat:=DI m id (.cells l' e);have hs:∀n,AE T n ρ m w ρ (m.set id (.cells l' e)) (w.setRow b vs'.toArray):=fun n=>{
  os:=rfl
  tape:=rfl
  output:=rfl
  size:=by simp
  mlen:=fun j h=>by rw[hat j hne];split<;>first|exact (fun h=>by cases h)|exact h
  rho:=fun j h=>by rw[hat j hne];split<;>first|exact⟨rfl,rfl⟩|exact⟨rfl,h⟩
  untr:=fun j h ht=>by
   rw[hat j hne] at ht;split at ht
   .rename_i he;subst he;rw[hid];rfl
   .exact ht
  fresh:=fun j c h ht hr=>by
   rw[hat j hne] at ht;split at ht
   .rename_i he;subst he;exact absurd h hne
   .rw[h] at ht;cases ht
  old:=fun k hk hno=>Cp w b _ k (fun e=>hno id (by rw[hid];rfl) (by rw[e];exact hr))
  tok:=fun j x ks e' h=>by
   have hj:j≠id:=fun e=>by subst e;rw[hid] at h;cases h
   refine .inl ⟨by rw[hat j hne,if_neg hj];exact h,rfl,fun c hc=>Cp w b _ c (fun e=>?_)⟩;subst e;exact hj (hm.inj j id c (by rw[h];rfl) (by rw[hid];rfl) hc hr)
  row:=fun j x y ks e' h=>by
   have hj:j≠id:=fun e=>by subst e;rw[hid] at h;cases h
   refine .inr ⟨x,y,ks,by rw[hat j hne,if_neg hj];exact h,rfl,.inl ⟨rfl,rfl,fun c vs hc hv=>⟨vs,?_,rfl⟩⟩⟩;rw[Cp w b _ c (fun e=>?_)]
   .exact hv
   .subst e;exact hj (hm.inj j id c (by rw[h];rfl) (by rw[hid];rfl) hc hr) }
 refine⟨hs n,⟨fun j=>?_,fun j j' c ht ht' h1 h2=>?_,fun b off h=>hm.fr b off (wI (hs n).size h)⟩⟩
 .by_cases hj:j=id
  .subst hj;rw[hat j hne,if_pos rfl];exact⟨b,vs',hr,setRow_heap w b vs.toArray vs'.toArray e (0,0) hb,AB.mono (hs n') (hm.mono hn) (vr _) _ _ hl⟩
  .by_cases ht:(m.at j).tracked=true
   .refine BB.step (hs n) hm hn (by rw[hat j hne,if_neg hj]) rfl (fun c hc=>Cp w b _ c (fun e=>?_));subst e;exact hj (hm.inj j id c ht (by rw[hid];rfl) hc hr)
   .rw[hat j hne,if_neg hj];cases hx:m.at j with
    |pad=>trivial
    |gone=>trivial
    |cells=>rw[hx] at ht;exact absurd rfl ht
    |lp=>rw[hx] at ht;exact absurd rfl ht
    |tok=>rw[hx] at ht;exact absurd rfl ht
    |mrow=>rw[hx] at ht;exact absurd rfl ht
    |mapb=>rw[hx] at ht;exact absurd rfl ht
 .have tr:∀k,(Mem.at (m.set id (.cells l' e)) k).tracked=true->(m.at k).tracked=true:=fun k hk=>by
   rw[hat k hne] at hk;split at hk
   .rename_i he;subst he;rw[hid];rfl
   .exact hk
  exact hm.inj j j' c (tr j ht) (tr j' ht') h1 h2
variable {P:Program}
theorem Jf {t:TypeId}{size:Nat}{ag:Bool}(h:E9 P t=some (size,ag)):ag=false->size=1:=by
 unfold E9 at h;split at h<;>cases h<;>simp
theorem Ey {t:TypeId}{size:Nat}{ag:Bool}(h:E9 P t=some (size,ag))(b off:Nat){vs:List Value}(hl:vs.length=size)
  (hc:∀j v,vs[j]? =some v->w.cell? ⟨b,off+j,none⟩=some v):
  (loadVar t ⟨b,off,none⟩).run P w= .ok (if ag then .agg vs.toArray else vs.headD undef) w:=by
 have agg:(loadCells ⟨b,off,none⟩ size).run P w= .ok vs.toArray w:=by
  subst hl;exact run_loadCells_list (P:=P) (w:=w) _ vs (fun j v hj=>by rw[Br];exact hc j v hj)
 unfold E9 at h;cases hi:P.info? t with
 |none=>rw[hi] at h;simp at h
 |some i=>
  cases hu:P.underlying t with
  |none=>rw[hi,hu] at h;simp at h
  |some d=>
   rw[hi,hu] at h;cases d<;>simp at h<;>obtain⟨h1,h2⟩:=h<;>subst h2
   case struct fs=>
    subst h1;simp[loadVar,isAgg,run_underlying hu,sizeOf,typeInfo,hi,agg]
   case array k e=>
    subst h1;simp[loadVar,isAgg,run_underlying hu,sizeOf,typeInfo,hi,agg]
   all_goals
    cases vs with
    |nil=>simp at hl;omega
    |cons v vs=>
     have:=hc 0 v rfl;simp only[Nat.add_zero] at this;simp[loadVar,isAgg,run_underlying hu,this]
def BF (cur:List Value)(k:Nat)(vs:List Value):List Value:=cur.take k++vs++cur.drop (k+vs.length)
theorem Pg {cur:List Value}{k:Nat}(hk:k < cur.length)(v:Value)(rest:List Value):BF (cur.set k v) (k+1) rest=BF cur k (v::rest):=by
 have h1:(cur.set k v).take (k+1)=cur.take k++[v]:=by
  apply List.ext_getElem?;intro j;simp only[List.getElem?_take,List.getElem?_set,List.getElem?_append,wb];have hm:min k cur.length=k:=by omega
  rw[hm];rcases Nat.lt_trichotomy j k with h|h|h
  .rw[if_pos (by omega),if_neg (by omega),if_pos h,if_pos h]
  .subst h;rw[if_pos (by omega),if_pos rfl,if_pos hk,if_neg (by omega)];simp
  .rw[if_neg (by omega),if_neg (by omega),wV (by simp;omega)]
 have h2:(cur.set k v).drop (k+1+rest.length)=cur.drop (k+(rest.length+1)):=by
  apply List.ext_getElem?;intro j;simp only[List.getElem?_drop,List.getElem?_set];rw[if_neg (by omega),show k+1+rest.length+j=k+(rest.length+1)+j by omega]
 simp only[BF,h1,wQ,h2,wZ,List.cons_append,List.nil_append]
theorem H7 (b off:Nat)(t:TypeId):∀(vs:List Value) (i:Nat) (cur:List Value) (w:World),w.heap[b]? =some (.cells cur.toArray t (0,0))->off+i+vs.length<=cur.length->
  (∀v∈vs,v.oneCell'=true)->(storeCells ⟨b,off,none⟩ vs i).run P w= .ok () (w.setRow b (BF cur (off+i) vs).toArray)
 |[],i,cur,w,hb,_,_=>by
  have e:BF cur (off+i) []=cur:=by simp[BF]
  rw[e];simp only[storeCells];show Result.ok () w=_;congr 1;unfold World.setRow;cases w with
  |mk heap tape drawn os output=>
   congr 1;apply Array.ext
   .simp
   .intro k h1 h2;simp only[Array.getElem_modify];split
    .rename_i hk;subst hk;obtain⟨h3,h4⟩:=vx.1 hb;simp only at h4;rw[h4]
    .rfl
 |v::rest,i,cur,w,hb,hl,h1=>by
  simp at hl;have hi:off+i < cur.length:=by omega
  have hcell:w.cell? ⟨b,off+i,none⟩=some cur[off+i]:=by simp[World.cell?,hb,hi]
  have hfro:w.frozen? ⟨b,off+i,none⟩=false:=by simp[World.frozen?,hb]
  have hst:(store ((⟨b,off,none⟩:Addr).add i) v).run P w= .ok () (w.setRow b (cur.set (off+i) v).toArray):=by
   rw[Br,run_store P w _ v _ (h1 v (by simp)),hcell];simp[hfro,setCell_eq_setRow w b (off+i) cur.toArray t (0,0) v hb]
  have ih:=H7 b off t rest (i+1) (cur.set (off+i) v) (w.setRow b (cur.set (off+i) v).toArray) (setRow_heap w b cur.toArray _ t _ hb) (by simp;omega) (fun x hx=>h1 x (by simp[hx]));simp only[storeCells,Sem.run_bind,hst,Result.andThen_ok,ih,setRow_setRow];rw[show off+(i+1)=off+i+1 by omega,Pg hi]
theorem Fl {t:TypeId}{i:TypeInfo}(hi:P.info? t=some i)(b off:Nat)(e:TypeId){v:Value}{vs cur:List Value}(hb:w.heap[b]? =some (.cells cur.toArray e (0,0)))
  (hv:v.cells=vs.toArray) (hl:vs.length=i.size) (ho:off+i.size<=cur.length) (h1:∀u∈vs,u.oneCell'=true):
  (storeVar t ⟨b,off,none⟩ v).run P w= .ok () (w.setRow b (BF cur off vs).toArray):=by
 have:=H7 (P:=P) b off e vs 0 cur w hb (by omega) h1;simp[storeVar,sizeOf,typeInfo,hi,hv,hl,this]
end
def BC (T:Tab)(g:G)(ρ :Nat->Option Nat)(m:Mem)(w:World)(run:Result Next)(r:R):Prop:=
 ∃v w' ρ',(run= .ok (.value v) w'\/(run= .ok .skip w'/\v=undef))/\AE T g.n ρ m w ρ' r.m w'/\
  AD T (g.n+r.us.length) ρ' r.m w'/\AA T (g.n+r.us.length) ρ' r.m w' r.c v
section
variable {P:Program}{T:Tab}{ρ :Nat->Option Nat}{m:Mem}{w:World}{g:G}{r:R}
theorem BC.pure {run:Result Next}{v:Value}(hr:run= .ok (.value v) w)(hm:AD T g.n ρ m w)(he:r.m=m)
  (hh:AA T (g.n+r.us.length) ρ m w r.c v):BC T g ρ m w run r:=
 ⟨v,w, ρ,.inl hr,by rw[he];exact AE.refl T g.n ρ m w,by rw[he];exact hm.mono (by omega),by rw[he];exact hh⟩
def Aq (T:Tab)(g:G)(ρ :Nat->Option Nat)(m:Mem)(w:World)(run:Result Next)(r:R):Prop:=
 ∃v,run= .ok (.value v) w/\r.m=m/\AA T (g.n+r.us.length) ρ m w r.c v
theorem Aq.res {run:Result Next}(h:Aq T g ρ m w run r)(hm:AD T g.n ρ m w):BC T g ρ m w run r:=by
 obtain⟨v,h1,h2,h3⟩:=h;exact BC.pure h1 hm h2 h3
theorem Aq.pure {run:Result Next}{v:Value}(hr:run= .ok (.value v) w)(_hm:AD T g.n ρ m w)(he:r.m=m)
  (hh:AA T (g.n+r.us.length) ρ m w r.c v):Aq T g ρ m w run r:=⟨v,hr,he,hh⟩
theorem Aq.same {run:Result Next}{v:Value}(hr:run= .ok (.value v) w)(hm:AD T g.n ρ m w)(he:r.m=m)
  (hh:AA T g.n ρ m w r.c v):Aq T g ρ m w run r:=Aq.pure hr hm he (hh.up hm (by omega))
theorem BC.same {run:Result Next}{v:Value}(hr:run= .ok (.value v) w)(hm:AD T g.n ρ m w)(he:r.m=m)
  (hh:AA T g.n ρ m w r.c v):BC T g ρ m w run r:=
 BC.pure hr hm he (hh.up hm (by omega))
theorem iT {k:Kd}{v:Vx}{x:Value}{ps:List Pr}(hnew:New T g.n (mkV g m k v ps).us)(h:AM (AS T ρ m w) w k (v.eval T) x)
  (hlt:∀y,v= .rf (.e y)->y < g.n):AA T (g.n+(mkV g m k v ps).us.length) ρ m w (mkV g m k v ps).c x:=by
 have ex:∀e:Ex,New T g.n [e]->e.eval T=v.eval T->AM (AS T ρ m w) w k (T g.n) x:=fun e h1 h2=>by rw[h1.head,h2];exact h
 have rf:∀r:Rf,v= .rf r->(⟨ "id",oId,[r]⟩:Ex).eval T=v.eval T:=fun r e=>by subst e;rfl
 cases k with
 |int k lo hi=>
  simp only[mkV] at hnew⊢;split
  .obtain⟨i,h1,h2,h3,h4⟩:=h;obtain rfl:i=lo:=by omega
   exact h2
  .rename_i hne;simp only[hne] at hnew;have fin:∀y n',y < n'->AM (AS T ρ m w) w (.int k lo hi) (T y) x->AA T n' ρ m w (.i k lo hi y) x:=by
    rintro y n' hy ⟨i,h1,h2,h3,h4⟩;exact⟨hy,i,h1,h2,h3,h4⟩
   cases v with
   |ex e=>exact fin _ _ (by simp) (ex e hnew rfl)
   |rf r=>
    cases r with
    |e y=>exact fin _ _ (by have:=hlt y rfl;simp;omega) h
    |c u=>exact fin _ _ (by simp) (ex _ hnew (rf _ rfl))
    |n y=>exact fin _ _ (by simp) (ex _ hnew (rf _ rfl))
 |_=>
  cases v with
  |ex e=>exact Dw (by simp[mkV]) (ex e hnew rfl)
  |rf r=>
   cases r with
   |e y=>exact Dw (by have:=hlt y rfl;simp[mkV];omega) h
   |c u=>exact Dw (by simp[mkV]) (ex _ hnew (rf _ rfl))
   |n y=>exact Dw (by simp[mkV]) (ex _ hnew (rf _ rfl))
theorem FV {k:IntKind}{lo hi i:Int}{v:Vx}{ps:List Pr}(hnew:New T g.n (mkI g m k lo hi v ps).us)(hv:v.eval T= .int i)(h1:lo<=i)(h2:i<=hi)
  (hlt:∀y,v= .rf (.e y)->y < g.n):AA T (g.n+(mkI g m k lo hi v ps).us.length) ρ m w (mkI g m k lo hi v ps).c (.int k i):=
 iT (k:= .int k lo hi) hnew ⟨i,hv,rfl,h1,h2⟩ hlt
theorem JI {k:Option Bool}{i:Bool}{e:Ex}{ps:List Pr}(hnew:New T g.n (mkB g m k e ps).us)(hv:k=none->e.eval T= .bool i)(h1:∀b,k=some b->i=b):
  AA T (g.n+(mkB g m k e ps).us.length) ρ m w (mkB g m k e ps).c (.bool i):=by
 cases k with
 |some b=>rw[h1 b rfl];exact rfl
 |none=>exact⟨by simp[mkB],i,by rw[hnew.head];exact hv rfl,rfl⟩
theorem iy {k:Kd}{v:Vx}{ps:List Pr}:(mkV g m k v ps).m=m:=by
 cases k<;>cases v<;>simp only[mkV]<;>(repeat (first|rfl|split))
theorem iG {k:Kd}{v:Vx}{ps:List Pr}:(mkV g m k v ps).ps=ps:=by
 cases k<;>cases v<;>simp only[mkV]<;>(repeat (first|rfl|split))
theorem Hg {k:IntKind}{lo hi:Int}{i:Vx}{ps:List Pr}:(mkI g m k lo hi i ps).m=m:=iy
theorem N2 {k:Option Bool}{i:Ex}{ps:List Pr}:(mkB g m k i ps).m=m:=by unfold mkB;split<;>rfl
theorem ia {k:IntKind}{lo hi:Int}{i:Vx}{ps:List Pr}:(mkI g m k lo hi i ps).ps=ps:=iG
theorem KH {a:Act}{o:Oper}{s:Sem Value}{v:Value}{w':World}(he:execOp a.eval o=(do Pure.pure (.value (<-s))))(hs:s.run P w= .ok v w'):
  (execOp a.eval o).run P w= .ok (.value v) w':=by
 rw[he];simp[hs]
theorem Dl {α β:Type}(f:α->Option β):∀(l:List α) (r:List β),l.mapM f=some r->r.length=l.length/\∀(i:Nat) (x:α),l[i]? =some x->r[i]? =f x
 |[],r,h=>by simp at h;subst h;exact⟨rfl,fun i x h=>by simp at h⟩
 |x::l,r,h=>by
  simp only[List.mapM_cons,vq,Option.pure_def] at h;cases hx:f x with
  |none=>simp[hx] at h
  |some y=>
   cases hl:l.mapM f with
   |none=>simp[hx,hl] at h
   |some r'=>
    simp[hx,hl] at h;subst h;obtain⟨h1,h2⟩:=Dl f l r' hl;refine⟨by simp[h1],fun i z hz=>?_⟩;cases i with
    |zero=>simp at hz;subst hz;simp[hx]
    |succ i=>simp at hz;simpa using h2 i z hz
theorem Li {l cs:List AC}{base stride cnt plus:Nat}(h:QK l base stride cnt plus=some cs):∀j,j < cnt->cs[j]? =l[base+j*stride+plus]? :=by
 intro j hj;exact (Dl _ _ _ h).2 j j (by simp[hj])
theorem PB {n:Nat}:∀{cs:List AC} {k:Kd} {rs:List Rf},Nz cs=some (k,rs)->
  ∀(j:Nat) (c:AC) (v:Value),cs[j]? =some c->AA T n ρ m w c v->∃r,rs[j]? =some r/\AM (AS T ρ m w) w k (r.eval T) v
 |[],_,_,h,_,_,_,_,_=>by cases h
 |[c],k,rs,h,j,d,v,hj,hh=>by
  simp only[Nz,wK] at h;obtain⟨⟨k',r⟩,h1,h2⟩:=h;cases h2;cases j with
  |zero=>
   simp at hj;subst hj;exact⟨r,rfl,GP h1 hh⟩
  |succ j=>simp at hj
 |c::d::cs,k,rs,h,j,e,v,hj,hh=>by
  simp only[Nz] at h;split at h
  .rename_i k1 r1 k2 l2 h1 h2;cases h;cases j with
   |zero=>
    simp at hj;subst hj;exact⟨r1,rfl,Kd.join_l _ _ _ _ (GP h1 hh)⟩
   |succ j=>
    simp at hj;obtain⟨r,e1,e2⟩:=PB h2 j e v (by simpa using hj) hh;exact⟨r,by simpa using e1,Kd.join_r _ _ _ _ e2⟩
  .cases h
theorem Aa.get {n:Nat}:∀{l:List AC} {j:Nat} {c:AC} {v:Value},l[j]? =some c->AA T n ρ m w c v->Aa T n ρ m w l j v
 |[],_,_,_,h,_=>by simp at h
 |c::_,0,d,v,h,hh=>by simp at h;subst h;exact hh
 |_::l,j+1,d,v,h,hh=>Aa.get (l:=l) (by simpa using h) hh
theorem NQ {x:Nat}{cs:List AC}{ps:List Pr}(h:H5 g m x cs ps=some r)(hnew:New T g.n r.us)(hx:x < g.n){j:Int}(hT:T x= .int j)(hj:0<=j)
  {c:AC} {v:Value} (hc:cs[j.toNat]? =some c) (hh:AA T g.n ρ m w c v):r.m=m/\r.ps=ps/\AA T (g.n+r.us.length) ρ m w r.c v:=by
 unfold H5 at h;split at h
 .rename_i k rs hs;split at h
  .cases h
  .cases h;refine⟨rfl,rfl,Dw (by simp) ?_⟩;obtain⟨q,h1,h2⟩:=PB hs j.toNat c v hc hh;have:=hnew.head;have e:T g.n=q.eval T:=by
    rw[this];simp[Ex.eval,P2,u0,Rf.eval,hT,U.toI,List.getD,h1]
   rw[e];exact h2
 .split at h
  .cases h;exact⟨rfl,rfl,by simpa using hx,j,hT,hj,(Aa.get hc hh)⟩
  .cases h
theorem OH {n':Nat}{x:Nat}{j:Int}(hT:T x= .int j)(hj:0<=j):∀{css:List (List AC)} {n0:Nat} {ls:List AC} {us:List Ex} {vs:List Value},Fs x n0 css=some (ls,us)->New T n0 us->n0+us.length<=n'->
  vs.length=css.length->(∀(i:Nat) (cs:List AC) (v:Value),css[i]? =some cs->vs[i]? =some v->∃c,cs[j.toNat]? =some c/\AA T g.n ρ m w c v)->AB T n' ρ m w ls vs
 |[],n0,ls,us,vs,h,_,_,hl,_=>by
  simp only[Fs,Option.some.injEq,Prod.mk.injEq] at h;obtain⟨rfl,rfl⟩:=h;cases vs with
  |nil=>rfl
  |cons=>simp at hl
 |cs::r,n0,ls,us,vs,h,hnew,hn,hl,hh=>by
  cases vs with
  |nil=>simp at hl
  |cons v vs=>
   simp only[Fs] at h;split at h
   .rename_i k rs hs;split at h
    .cases h
    .simp only[wK] at h;obtain⟨⟨l,us'⟩,h1,h2⟩:=h;cases h2;simp only[wQ] at hn;obtain⟨c,h3,h4⟩:=hh 0 cs v rfl rfl;obtain⟨q,q1,q2⟩:=PB hs j.toNat c v h3 h4;have e:T n0=q.eval T:=by
      rw[hnew.head];simp[Ex.eval,P2,u0,Rf.eval,hT,U.toI,List.getD,q1]
     refine⟨v,vs,rfl,Dw (by omega) (by rw[e];exact q2),?_⟩;exact OH hT hj h1 (fun i u hi=>by
      have:=hnew (i+1) u (by simpa using hi);rwa [show n0+1+i=n0+(i+1) by omega]) (by omega) (by simpa using hl) (fun i cs' v' a b=>hh (i+1) cs' v' (by simpa using a) (by simpa using b))
   .cases h
theorem R3 {l:List AC}{base stride cnt plus size:Nat}{css:List (List AC)}(h:Mi l base stride cnt plus size=some css):
  css.length=size/\∀c,c < size->∃cs,css[c]? =some cs/\QK l base stride cnt (plus+c)=some cs:=by
 obtain⟨h1,h2⟩:=Dl _ _ _ h;refine⟨by simpa using h1,fun c hc=>?_⟩;have h3:=h2 c c (by simp[hc]);have h4:c < css.length:=by rw[h1];simpa using hc
 exact⟨css[c],vt h4,by rw[<-h3];exact vt h4⟩
theorem QX {n':Nat}{l:List AC}{base stride cnt plus size x:Nat}{css:List (List AC)}{ls:List AC}{us:List Ex}(hc:Mi l base stride cnt plus size=some css)(hp:Fs x g.n css=some (ls,us))(hnew:New T g.n us)(hn:g.n+us.length<=n')
  {j:Int} (hT:T x= .int j) (hj:0<=j) (hjc:j.toNat < cnt) {vs:List Value} (hl:AB T g.n ρ m w l vs):
  base+j.toNat*stride+plus+size<=vs.length\/size=0->AB T n' ρ m w ls ((vs.drop (base+j.toNat*stride+plus)).take size):=by
 intro hsz;obtain⟨h1,h2⟩:=R3 hc;refine OH (g:=g) hT hj hp hnew hn ?_ (fun i cs v hi hv=>?_)
 .rw[h1];rcases hsz with hsz|hsz
  .simp;omega
  .subst hsz;simp
 .have hi':i < size:=by rw[<-h1];exact (vu.1 hi).1
  obtain⟨cs',q1,q2⟩:=h2 i hi';rw[hi] at q1;cases q1;have q3:=Li q2 j.toNat hjc;simp only[List.getElem?_take,List.getElem?_drop,if_pos hi'] at hv;have hlen:base+j.toNat*stride+(plus+i) < l.length:=by
   rw[<-hl.length];have:=(vu.1 hv).1;omega
  refine⟨l[base+j.toNat*stride+(plus+i)],by rw[q3];exact vt hlen,?_⟩;obtain⟨u,u1,u2⟩:=hl.get (vt hlen);rw[show base+j.toNat*stride+(plus+i)=base+j.toNat*stride+plus+i by omega,hv] at u1;cases u1;exact u2
theorem Pb {l:List AC}{base stride cnt plus size:Nat}{css:List (List AC)}(h:Mi l base stride cnt plus size=some css){j:Nat}(hj:j < cnt):base+j*stride+plus+size<=l.length\/size=0:=by
 rcases Nat.eq_zero_or_pos size with hz|hz
 .exact .inr hz
 .obtain⟨_,h2⟩:=R3 h;obtain⟨cs,_,q⟩:=h2 (size - 1) (by omega);have q3:=Li q j hj;have hcs:j < cs.length:=by rw[(Dl _ _ _ q).1];simpa using hj
  rw[vt hcs] at q3;have:=(vu.1 q3.symm).1;omega
theorem BB.get {n:Nat}(hm:AD T n ρ m w){id b:Nat}{l:List AC}{e:TypeId}(hid:m.at id= .cells l e)(hr: ρ id=some b):
  ∃vs,w.heap[b]? =some (.cells (vs:List Value).toArray e (0,0))/\AB T n ρ m w l vs:=by
 have h:=hm.blk id;rw[hid] at h;obtain⟨b',vs,h1,h2,h3⟩:=h;rw[hr] at h1;cases h1;exact⟨vs,h2,h3⟩
theorem Ez {b off:Nat}{vs:List Value}{e:TypeId}(h:w.heap[b]? =some (.cells vs.toArray e (0,0))):w.cell? ⟨b,off,none⟩=vs[off]? :=by
 simp[World.cell?,h]
theorem AX.drop {ok:Nat->Nat->Prop}:∀{ks:List Kd} {b off:Nat} {us:List U} (k:Nat),AX ok w ks b off us->AX ok w (ks.drop k) b (off+k) (us.drop k)
 |ks,b,off,us,0,h=>h
 |[],_,_,us,_+1,h=>by rw[show us=[] from h];rfl
 |_::ks,b,off,us,k+1,⟨u,us',e,_,h⟩=>by
  have:=AX.drop k h;rw[e];rwa [show off+1+k=off+(k+1) by omega] at this
theorem AX.take {ok:Nat->Nat->Prop}:∀{ks:List Kd} {b off:Nat} {us:List U} (k:Nat),AX ok w ks b off us->AX ok w (ks.take k) b off (us.take k)
 |_,_,_,_,0,_=>by simp only[List.take_zero];rfl
 |[],_,_,us,_+1,h=>by rw[show us=[] from h];rfl
 |_::ks,b,off,us,k+1,⟨u,us',e,h1,h2⟩=>by subst e;exact⟨u,us'.take k,rfl,h1,AX.take k h2⟩
theorem AX.length {ok:Nat->Nat->Prop}:∀{ks:List Kd} {b off:Nat} {us:List U},AX ok w ks b off us->us.length=ks.length
 |[],_,_,us,h=>by rw[show us=[] from h];rfl
 |_::ks,b,off,us,⟨u,us',e,_,h⟩=>by subst e;simp[h.length]
theorem af {n':Nat}{x t:Nat}{j:Int}{row:List U}(ht:T t= .int j)(hrow:(T x).toL[j.toNat]? =some row){ks:List Kd}{b off n0 c size:Nat}(h:AX (AS T ρ m w) w ks b off ((row.drop c).take size))
  (hnew:New T n0 (DK x t n0 c ks).2) (hn:n0+ks.length<=n'):
  ∃vs:List Value,vs.length=ks.length/\(∀j v,vs[j]? =some v->w.cell? ⟨b,off+j,none⟩=some v)/\AB T n' ρ m w (DK x t n0 c ks).1 vs:=by
 have key:∀{ks:List Kd} {b off n0 c size:Nat},AX (AS T ρ m w) w ks b off ((row.drop c).take size)->New T n0 (DK x t n0 c ks).2->n0+ks.length<=n'->
   ∃vs:List Value,vs.length=ks.length/\(∀j v,vs[j]? =some v->w.cell? ⟨b,off+j,none⟩=some v)/\AB T n' ρ m w (DK x t n0 c ks).1 vs:=by
  intro ks;induction ks with
  |nil=>intro b off n0 c size _ _ _;exact⟨[],rfl,fun j v h=>by simp at h,rfl⟩
  |cons k ks ih=>
   rintro b off n0 c size ⟨u,us',e,⟨_,v,h2,h3⟩,h4⟩ hnew hn;simp only[wQ] at hn;have hnew':New T n0 (⟨RK (kdC k)++toString c,N8 (kdC k) c,[.e x,.e t]⟩::(DK x t (n0+1) (c+1) ks).2):=hnew;cases size with
   |zero=>simp at e
   |succ size=>
    have hd:∃rest,row.drop c=u::rest/\rest.take size=us':=by
     cases hr:row.drop c with
     |nil=>rw[hr] at e;simp at e
     |cons a rest=>rw[hr] at e;simp at e;obtain⟨rfl,e⟩:=e;exact⟨rest,rfl,e⟩
    obtain⟨rest,hd,hrest⟩:=hd;have hT:T n0=u:=by
     have hc:row[c]? =some u:=by
      have:=congrArg (·[0]?) hd;simpa using this
     have:=hnew'.head;simp[Ex.eval,N8,eF,u0,u1,Rf.eval,ht,U.toI,List.getD,hrow,hc] at this;exact this.trans (VT h3)
    have hnext:New T (n0+1) (DK x t (n0+1) (c+1) ks).2:=fun j u hj=>by
     have:=hnew' (j+1) u (by simpa using hj);rwa [show n0+1+j=n0+(j+1) by omega]
    have hd2:row.drop (c+1)=rest:=by rw[<-List.drop_drop,hd];rfl
    obtain⟨vs,k1,k2,k3⟩:=ih (b:=b) (off:=off+1) (n0:=n0+1) (c:=c+1) (size:=size) (by rw[hd2,hrest];exact h4) hnext (by omega);refine⟨v::vs,by simp[k1],?_,v,vs,rfl,Dw (by omega) (by rw[hT];exact h3),k3⟩;intro j z hj;cases j with
    |zero=>simp at hj;subst hj;exact h2
    |succ j=>
     simp at hj;have:=k2 j z hj;rwa [show off+1+j=off+(j+1) by omega] at this
 exact key h hnew hn
theorem AJ.dropC {ok:Nat->Nat->Prop}:∀{ks:List Kd} {us:List U} {vs:List Value} (k:Nat),AJ ok w ks us vs->AJ ok w (ks.drop k) (us.drop k) (vs.drop k)
 |_,_,_,0,h=>h
 |[],_,_,_+1,⟨h1,h2⟩=>by subst h1;subst h2;exact⟨rfl,rfl⟩
 |_::_,_,_,k+1,⟨_,_,_,_,h1,h2,_,h4⟩=>by subst h1;subst h2;exact AJ.dropC k h4
theorem AJ.takeC {ok:Nat->Nat->Prop}:∀{ks:List Kd} {us:List U} {vs:List Value} (k:Nat),AJ ok w ks us vs->AJ ok w (ks.take k) (us.take k) (vs.take k)
 |_,_,_,0,_=>by simp only[List.take_zero];exact⟨rfl,rfl⟩
 |[],_,_,_+1,⟨h1,h2⟩=>by subst h1;subst h2;exact⟨rfl,rfl⟩
 |_::_,_,_,k+1,⟨u,us',v,vs',h1,h2,h3,h4⟩=>by subst h1;subst h2;exact⟨u,_,v,_,rfl,rfl,h3,AJ.takeC k h4⟩
theorem AJ.lenC {ok:Nat->Nat->Prop}:∀{ks:List Kd} {us:List U} {vs:List Value},AJ ok w ks us vs->vs.length=ks.length/\us.length=ks.length
 |[],_,_,⟨h1,h2⟩=>by subst h1;subst h2;exact⟨rfl,rfl⟩
 |k::ks,_,_,⟨u,us',v,vs',h1,h2,_,h4⟩=>by subst h1;subst h2;have:=h4.lenC;simp[this]
theorem Ao.rowC {ok:Nat->Nat->Prop}{ks:List Kd}:∀{l:List (List U)} {vss:List (List Value)} {j:Nat} {us:List U},Ao ok w ks l vss->l[j]? =some us->AJ ok w ks us ((vss.flatten.drop (j*ks.length)).take ks.length)
 |[],_,_,_,_,hj=>by simp at hj
 |x::l,_,0,us,⟨vs,vss',e,h1,h2⟩,hj=>by
  subst e;simp at hj;subst hj;have:=h1.lenC.1;rw[Nat.zero_mul,List.drop_zero,List.flatten_cons,List.take_append_of_le_length (by omega),List.take_of_length_le (by omega)];exact h1
 |x::l,_,j+1,us,⟨vs,vss',e,h1,h2⟩,hj=>by
  subst e;have hl:=h1.lenC.1;have:=Ao.rowC h2 (by simpa using hj);rw[List.flatten_cons,show (j+1)*ks.length=vs.length+j*ks.length by rw[wS,hl];omega,<-List.drop_drop,List.drop_left' rfl];exact this
theorem Ao.lenC {ok:Nat->Nat->Prop}{ks:List Kd}:∀{l:List (List U)} {vss:List (List Value)},Ao ok w ks l vss->vss.flatten.length=l.length*ks.length
 |[],_,h=>by rw[show _=[] from h];simp
 |_::_,_,⟨vs,vss',e,h1,h2⟩=>by
  subst e;have:=h2.lenC;have:=h1.lenC.1;simp[*,wS];omega
theorem AJ.join_l {ok:Nat->Nat->Prop}:∀{ks ks':List Kd},ks.length=ks'.length->∀{us:List U} {vs:List Value},AJ ok w ks us vs->AJ ok w (Kd.joins ks ks') us vs
 |[],[],_,_,_,h=>h
 |[],_::_,h,_,_,_=>by simp at h
 |_::_,[],h,_,_,_=>by simp at h
 |k::ks,k'::ks',hl,_,_,⟨u,us',v,vs',h1,h2,h3,h4⟩=>⟨u,us',v,vs',h1,h2,Kd.join_l k k' u v h3,h4.join_l (by simpa using hl)⟩
theorem AJ.join_r {ok:Nat->Nat->Prop}:∀{ks ks':List Kd},ks.length=ks'.length->∀{us:List U} {vs:List Value},AJ ok w ks' us vs->AJ ok w (Kd.joins ks ks') us vs
 |[],[],_,_,_,h=>h
 |[],_::_,h,_,_,_=>by simp at h
 |_::_,[],h,_,_,_=>by simp at h
 |k::ks,k'::ks',hl,_,_,⟨u,us',v,vs',h1,h2,h3,h4⟩=>⟨u,us',v,vs',h1,h2,Kd.join_r k k' u v h3,h4.join_r (by simpa using hl)⟩
theorem Oe {n':Nat}{x t:Nat}{j:Int}{row:List U}(ht:T t= .int j)(hrow:(T x).toL[j.toNat]? =some row):∀{ks:List Kd} {vs:List Value} {n0 c size:Nat},AJ (AS T ρ m w) w ks ((row.drop c).take size) vs->
  New T n0 (DK x t n0 c ks).2->n0+ks.length<=n'->AB T n' ρ m w (DK x t n0 c ks).1 vs
 |[],_,_,_,_,⟨_,h⟩,_,_=>h
 |k::ks,_,n0,c,0,⟨u,us',v,vs',e,_⟩,_,_=>by simp at e
 |k::ks,_,n0,c,size+1,⟨u,us',v,vs',e,e2,h3,h4⟩,hnew,hn=>by
  subst e2;simp only[wQ] at hn;have hnew':New T n0 (⟨RK (kdC k)++toString c,N8 (kdC k) c,[.e x,.e t]⟩::(DK x t (n0+1) (c+1) ks).2):=hnew;have hd:∃rest,row.drop c=u::rest/\rest.take size=us':=by
   cases hr:row.drop c with
   |nil=>rw[hr] at e;simp at e
   |cons a rest=>rw[hr] at e;simp at e;obtain⟨rfl,e⟩:=e;exact⟨rest,rfl,e⟩
  obtain⟨rest,hd,hrest⟩:=hd;have hT:T n0=u:=by
   have hc:row[c]? =some u:=by
    have:=congrArg (·[0]?) hd;simpa using this
   have:=hnew'.head;simp[Ex.eval,N8,eF,u0,u1,Rf.eval,ht,U.toI,List.getD,hrow,hc] at this;exact this.trans (VT h3)
  have hnext:New T (n0+1) (DK x t (n0+1) (c+1) ks).2:=fun j u hj=>by
   have:=hnew' (j+1) u (by simpa using hj);rwa [show n0+1+j=n0+(j+1) by omega]
  have hd2:row.drop (c+1)=rest:=by rw[<-List.drop_drop,hd];rfl
  exact⟨v,vs',rfl,Dw (by omega) (by rw[hT];exact h3),Oe ht hrow (c:=c+1) (n0:=n0+1) (size:=size) (by rw[hd2,hrest];exact h4) hnext (by omega)⟩
theorem eW {n:Nat}(hm:AD T n ρ m w){id b x y:Nat}{ks:List Kd}{e:TypeId}(hid:m.at id= .mrow x y ks e)(hr: ρ id=some b){L:Int}(hy:T y= .int L){j:Int}(h0:0<=j)(hj:j < L):
  ∃all l us,w.heap[b]? =some (.cells (all:List Value).toArray e (0,0))/\T x= .list l/\(l.length:Int)=L/\l[j.toNat]? =some us/\l.length*ks.length<=all.length/\
   AJ (AS T ρ m w) w ks us ((all.drop (j.toNat*ks.length)).take ks.length):=by
 have h:=hm.blk id;rw[hid] at h;obtain⟨_,l,h1,h2,h3,h4⟩:=h;rw[hy] at h2;have hL:L=l.length:=by cases h2;rfl
 rcases h4 with⟨h4,h5⟩|⟨b',vs,us,h4,h5,⟨vss,h6,h7⟩,h8⟩
 .subst h5;simp at hL;omega
 .rw[hr] at h4;cases h4;have hjl:j.toNat < l.length:=by omega
  have hlen:=h7.lenC;rw[<-h6] at hlen;refine⟨vs++us,l,l[j.toNat],by simpa using h5,h1,hL.symm,vt hjl,by rw[wC];omega,?_⟩;have:=h7.rowC (vt hjl);rw[<-h6] at this;have hm2:(j.toNat+1)*ks.length<=l.length*ks.length:=wO _ hjl;rw[wS,Nat.one_mul] at hm2;rw[List.drop_append_of_le_length (by omega),List.take_append_of_le_length (by rw[List.length_drop];omega)];exact this
theorem LO {t:TypeId}{p:AC}{v:Value}(h:TI P t p m g=some r)(hnew:New T g.n r.us)(hm:AD T g.n ρ m w)(hp:AA T g.n ρ m w p v):
  ∃u,(Instr.loadAt t v).run P w= .ok u w/\r.m=m/\AA T (g.n+r.us.length) ρ m w r.c u:=by
 unfold TI at h;simp only[vq,vn] at h;obtain⟨⟨size,ag⟩,hs,h⟩:=h;cases p<;>simp only at h
 case ptr id off=>
  obtain⟨b,hr,rfl,_⟩:=hp;split at h
  .rename_i l e hid;obtain⟨vs,hb,hl⟩:=BB.get hm hid hr;split at h
   .rename_i hlen;have hl2:=(hl.drop off).take size;have hvl:((vs.drop off).take size).length=size:=by rw[hl2.length];exact hlen
    have hrun:=Ey (P:=P) (w:=w) hs b off hvl (fun j x hj=>by
     rw[Ez hb];simp only[List.getElem?_take,List.getElem?_drop] at hj;split at hj
     .exact hj
     .cases hj)
    refine⟨_,by simp only[Instr.loadAt,Instr.sureAddr,Sem.run_bind,Sem.run_pure,Result.andThen_ok];exact hrun,?_⟩;cases ag with
    |true=>
     simp at h;subst h;exact⟨rfl,_,rfl,hl2.up hm (by simp)⟩
    |false=>
     simp at h;obtain⟨c,hc,h⟩:=h;subst h;have hc':((l.drop off).take size)[0]? =some c:=by
      have:=Jf hs rfl;subst this;simpa [List.getElem?_take] using hc
     obtain⟨u,h1,h2⟩:=hl2.get hc';refine⟨rfl,?_⟩;have:((vs.drop off).take size).headD undef=u:=by
      cases hx:(vs.drop off).take size with
      |nil=>rw[hx] at h1;simp at h1
      |cons y ys=>rw[hx] at h1;simp at h1;subst h1;rfl
     rw[if_neg (by simp),this];exact h2.up hm (by simp)
   .cases h
  .cases h
 case pix id base stride cnt x plus=>
  obtain⟨h0,b,j,hr,hx,hj0,hjc,rfl,_⟩:=hp;split at h
  .rename_i l e hid;obtain⟨vs,hb,hl⟩:=BB.get hm hid hr;split at h
   .rename_i hag;subst hag;simp only[vn] at h;obtain⟨css,hcss,⟨ls,us'⟩,hpl,h⟩:=h;cases h;have hjn:j.toNat < cnt:=by omega
    have hlen:=Pb hcss hjn;rw[<-hl.length] at hlen;have hl2:=QX (n':=g.n+us'.length) hcss hpl hnew (vr _) hx hj0 hjn hl hlen;have hvl:((vs.drop (base+j.toNat*stride+plus)).take size).length=size:=by
     rcases hlen with hlen|hlen
     .simp;omega
     .subst hlen;simp
    have hrun:=Ey (P:=P) (w:=w) hs b (base+j.toNat*stride+plus) hvl (fun i y hi=>by
     rw[Ez hb];simp only[List.getElem?_take,List.getElem?_drop] at hi;split at hi
     .exact hi
     .cases hi)
    exact⟨_,by simp only[Instr.loadAt,Instr.sureAddr,Sem.run_bind,Sem.run_pure,Result.andThen_ok];exact hrun,rfl,_,rfl,hl2⟩
   .rename_i hag;have hag':ag=false:=by simpa using hag
    subst hag';have hsz:=Jf hs rfl;subst hsz;simp only[vn] at h;obtain⟨cs,hcs,h⟩:=h;have hjn:j.toNat < cnt:=by omega
    have hcj:=Li hcs j.toNat hjn;have hex:∃c,l[base+j.toNat*stride+plus]? =some c:=by
     rw[<-hcj];exact⟨_,vt (by rw[(Dl _ _ _ hcs).1];simpa using hjn)⟩
    obtain⟨c,hc⟩:=hex;obtain⟨u,hu1,hu2⟩:=hl.get hc;rw[hc] at hcj;have hrun:=Ey (P:=P) (w:=w) hs b (base+j.toNat*stride+plus) (vs:=[u]) rfl (fun i y hi=>by
     rw[Ez hb];cases i with
     |zero=>simp at hi;subst hi;simpa using hu1
     |succ i=>simp at hi)
    refine⟨u,by simp only[Instr.loadAt,Instr.sureAddr,Sem.run_bind,Sem.run_pure,Result.andThen_ok];exact hrun,?_⟩;obtain⟨f1,_,f3⟩:=NQ h hnew h0 hx hj0 hcj hu2;exact⟨f1,f3⟩
  .cases h
 case rp x t' off ks=>
  obtain⟨⟨h0,h0'⟩,j,b,o,us,ht,hj0,hjl,rfl,hc⟩:=hp;split at h
  .rename_i hlen;have hc2:=(hc.drop off).take size;have hus:r.us=(DK x t' g.n off ((ks.drop off).take size)).2:=by
    cases ag with
    |true=>simp at h;subst h;rfl
    |false=>simp at h;obtain⟨c,_,h⟩:=h;subst h;rfl
   rw[hus] at hnew;have hl2:=(I4 x t' ((ks.drop off).take size) g.n off).2;have hdrop:AX (AS T ρ m w) w ((ks.drop off).take size) b (o+j.toNat*ks.length+off) (((us.drop off).take size)):=hc2;obtain⟨vs,k1,k2,k3⟩:=af (n':=g.n+r.us.length) ht hjl hdrop hnew (by rw[hus,hl2];exact vr _);have hrun:=Ey (P:=P) (w:=w) hs b (o+j.toNat*ks.length+off) (vs:=vs) (by rw[k1];exact hlen) k2;refine⟨_,by simp only[Instr.loadAt,Instr.sureAddr,Sem.run_bind,Sem.run_pure,Result.andThen_ok];exact hrun,?_⟩;cases ag with
   |true=>simp at h;subst h;exact⟨rfl,vs,rfl,k3⟩
   |false=>
    simp at h;obtain⟨c,hc',h⟩:=h;subst h;obtain⟨u,h1,h2⟩:=k3.get hc';have:vs.headD undef=u:=by
     cases vs with
     |nil=>simp at h1
     |cons y ys=>simp at h1;subst h1;rfl
    refine⟨rfl,?_⟩;rw[if_neg (by simp),this];exact h2
  .cases h
 case mp id y t' sz off=>
  obtain⟨⟨h0,h0',h0''⟩,j,L,b,ht,hy,⟨hj0,hjL⟩,rfl,hk⟩:=hp;split at h
  .rename_i x y' ks e hid;split at h
   .rename_i hc;obtain⟨⟨rfl,hsz⟩,hlen⟩:=hc;have hr:=hk x ks e hid;obtain⟨all,l,us,k1,k2,k3,k4,k5,k6⟩:=eW hm hid hr hy hj0 hjL;have hc2:=(k6.dropC off).takeC size;have hus:r.us=(DK x t' g.n off ((ks.drop off).take size)).2:=by
     cases ag with
     |true=>simp at h;subst h;rfl
     |false=>simp at h;obtain⟨c,_,h⟩:=h;subst h;rfl
    rw[hus] at hnew;have hl2:=(I4 x t' ((ks.drop off).take size) g.n off).2;have k7:=Oe (n':=g.n+r.us.length) ht (row:=us) (by rw[k2];exact k4) hc2 hnew (by rw[hus,hl2];exact vr _);have hvl:=hc2.lenC.1;have hrun:=Ey (P:=P) (w:=w) hs b (j.toNat*sz+off) (by rw[hvl];exact hlen) (fun i v hi=>by
     rw[Ez k1];simp only[List.getElem?_take,List.getElem?_drop] at hi;split at hi
     .split at hi
      .rw[<-hi,hsz];congr 1;omega
      .cases hi
     .cases hi)
    refine⟨_,by simp only[Instr.loadAt,Instr.sureAddr,Sem.run_bind,Sem.run_pure,Result.andThen_ok];exact hrun,?_⟩;cases ag with
    |true=>simp at h;subst h;exact⟨rfl,_,rfl,k7⟩
    |false=>
     simp at h;obtain⟨c,hc',h⟩:=h;subst h;obtain⟨u,h1,h2⟩:=k7.get hc';have:(((((all.drop (j.toNat*ks.length)).take ks.length).drop off).take size)).headD undef=u:=by
      cases hx:((((all.drop (j.toNat*ks.length)).take ks.length).drop off).take size) with
      |nil=>rw[hx] at h1;simp at h1
      |cons y ys=>rw[hx] at h1;simp at h1;subst h1;rfl
     refine⟨rfl,?_⟩;rw[if_neg (by simp),this];exact h2
   .cases h
  .cases h
 all_goals cases h
end
section
variable {P:Program}{T:Tab}{ρ :Nat->Option Nat}{m:Mem}{w:World}{g:G}{r:R}
theorem WU {c d:AC}{v:Value}{n:Nat}(h:c.cellsOf=some [d])(hh:AA T n ρ m w c v):∃u,v.cells= #[u]/\AA T n ρ m w d u/\u.oneCell'=true/\d.atom=true:=by
 obtain⟨vs,h1,h2,h3,h4⟩:=CC h hh;obtain⟨u,us,rfl,h5,h6⟩:=h2;rw[show us=[] from h6] at h1 h4;exact⟨u,h1,h5,h4 u (by simp),by simpa using h3⟩
theorem OF (hm:AD T g.n ρ m w){n':Nat}(hnn:g.n<=n'){x:Nat}{xv:Int}(hx:T x= .int xv){c:AC}{u:Value}{base stride plus:Nat}(hst:stride≠0)(hc:AA T g.n ρ m w c u)(hx0:0<=xv)
  {vs:List Value} {l:List AC} (hl:AB T g.n ρ m w l vs):∀(J n0:Nat) (l':List AC) (us':List Ex),Fr x c base stride plus l J n0=some (l',us')->New T n0 us'->n0+us'.length<=n'->
  AB T n' ρ m w l' (if xv < J then vs.set (base+xv.toNat*stride+plus) u else vs)
 |0,n0,l',us',h,_,_=>by
  simp[Fr] at h;obtain⟨rfl,rfl⟩:=h;rw[if_neg (by simp;omega)];exact hl.up hm hnn
 |J+1,n0,l',us',h,hnew,hle=>by
  simp only[Fr,vq,vn] at h;obtain⟨⟨l1,us1⟩,h1,old,h2,h3⟩:=h;split at h3
  .rename_i hat;cases h3;simp only[wC,wQ] at hle;have ih:=OF hm hnn hx hst hc hx0 hl J n0 l1 us1 h1 hnew.left (by omega);obtain⟨v0,hv0,hold⟩:=hl.get h2;have hr:=hnew.right;have hsb:(Rf.e (n0+us1.length)).eval T= .bool (decide (xv=J)):=by
    have:=hr.head;simpa [Ex.eval,oEq,u0,u1,Rf.eval,hx,U.toI] using this
   have hr2:New T (n0+us1.length+1) (mix (n0+us1.length+1) (.e (n0+us1.length)) c old).2:=fun j u hj=>by
    have:=hr (j+1) u (by simpa using hj);rwa [show n0+us1.length+1+j=n0+us1.length+(j+1) by omega]
   by_cases hxJ:xv=J
   .rw[if_neg (by omega)] at ih;rw[if_pos (by omega)];have hd:AA T n' ρ m w (mix (n0+us1.length+1) (.e (n0+us1.length)) c old).1 u:=
     Kw (b:=decide (xv=J)) (by rw[hsb];rfl) hnn hr2 (by omega) (fun _=>hc) (fun h=>by simp[hxJ] at h)
    have:=ih.set (base+J*stride+plus) hd;rwa [show xv.toNat=J by omega]
   .have hd:AA T n' ρ m w (mix (n0+us1.length+1) (.e (n0+us1.length)) c old).1 v0:=
     Kw (b:=decide (xv=J)) (by rw[hsb];rfl) hnn hr2 (by omega) (fun h=>by simp at h;exact absurd h hxJ) (fun _=>hold)
    have:=ih.set (base+J*stride+plus) hd;by_cases hlt:xv < J
    .rw[if_pos hlt] at this ih;rw[if_pos (by omega)];have hne:base+xv.toNat*stride+plus≠base+J*stride+plus:=by
      intro e;have e2:xv.toNat*stride=J*stride:=by omega
      have:=Nat.eq_of_mul_eq_mul_right (by omega) e2;omega
     have e:(vs.set (base+xv.toNat*stride+plus) u).set (base+J*stride+plus) v0=vs.set (base+xv.toNat*stride+plus) u:=by
      apply List.ext_getElem?;intro k;rw[List.getElem?_set];split
      .rename_i hk;subst hk;rw[List.getElem?_set,if_neg hne,hv0,if_pos];rw[List.length_set];exact (vu.1 hv0).1
      .rfl
     rw[e] at this;exact this
    .rw[if_neg hlt] at this ih;rw[if_neg (by omega)];have e:vs.set (base+J*stride+plus) v0=vs:=by
      apply List.ext_getElem?;intro k;rw[List.getElem?_set];split
      .rename_i hk;subst hk;rw[hv0,if_pos (vu.1 hv0).1]
      .rfl
     rw[e] at this;exact this
  .cases h3
theorem JE {n:Nat}{l cs:List AC}{vs us:List Value}(hl:AB T n ρ m w l vs)(hc:AB T n ρ m w cs us)(off size:Nat)(h:cs.length=size):
  AB T n ρ m w (l.take off++cs++l.drop (off+size)) (BF vs off us):=by
 unfold BF;rw[hc.length,h];exact ((hl.take off).append hc).append (hl.drop _)
theorem ZC {vs:List Value}{k:Nat}(h:k < vs.length)(u:Value):BF vs k [u]=vs.set k u:=by
 unfold BF;rw[List.set_eq_take_append_cons_drop,if_pos h];simp
theorem AJ.appC {ok:Nat->Nat->Prop}:∀{ks ks':List Kd} {us us':List U} {vs vs':List Value},AJ ok w ks us vs->AJ ok w ks' us' vs'->AJ ok w (ks++ks') (us++us') (vs++vs')
 |[],_,_,_,_,_,⟨h1,h2⟩,h=>by subst h1;subst h2;exact h
 |_::_,_,_,_,_,_,⟨u,us',v,vs',h1,h2,h3,h4⟩,h=>by subst h1;subst h2;exact⟨u,_,v,_,rfl,rfl,h3,h4.appC h⟩
theorem ZD {ks lk:List Kd}{off:Nat}(h:off+lk.length<=ks.length):(LE ks off lk).length=ks.length:=by
 unfold LE;rw[wC,wC,Kd.joins_len _ _ (by simp;omega)];simp;omega
theorem AJ.put_l {ok:Nat->Nat->Prop}{ks lk:List Kd}{off:Nat}{us:List U}{vs:List Value}(h:off+lk.length<=ks.length)(hc:AJ ok w ks us vs):AJ ok w (LE ks off lk) us vs:=by
 have e1:us=us.take off++(us.drop off).take lk.length++us.drop (off+lk.length):=by
  rw[wZ,<-List.drop_drop,List.take_append_drop,List.take_append_drop]
 have e2:vs=vs.take off++(vs.drop off).take lk.length++vs.drop (off+lk.length):=by
  rw[wZ,<-List.drop_drop,List.take_append_drop,List.take_append_drop]
 rw[e1,e2];refine ((hc.takeC off).appC (AJ.join_l (by simp;omega) ((hc.dropC off).takeC lk.length))).appC (hc.dropC _)
theorem AJ.put_r {ok:Nat->Nat->Prop}{ks lk:List Kd}{off:Nat}{us cu:List U}{vs cv:List Value}(h:off+lk.length<=ks.length)(hc:AJ ok w ks us vs)(hd:AJ ok w lk cu cv):AJ ok w (LE ks off lk) (us.take off++cu++us.drop (off+cu.length)) (BF vs off cv):=by
 unfold BF;rw[hd.lenC.1,hd.lenC.2];exact ((hc.takeC off).appC (AJ.join_r (by simp;omega) hd)).appC (hc.dropC _)
theorem Ao.setC {ok:Nat->Nat->Prop}{ks ks':List Kd}(hk:∀us vs,AJ ok w ks us vs->AJ ok w ks' us vs){us':List U}{vs':List Value}(hn:AJ ok w ks' us' vs'):∀{l:List (List U)} {vss:List (List Value)} (j:Nat),Ao ok w ks l vss->Ao ok w ks' (l.set j us') (vss.set j vs')
 |[],_,j,h=>by rw[show _=[] from h];cases j<;>exact rfl
 |x::l,_,0,⟨vs,vss',e,h1,h2⟩=>by
  subst e;have key:∀{l:List (List U)} {vss:List (List Value)},Ao ok w ks l vss->Ao ok w ks' l vss:=by
   intro l;induction l with
   |nil=>intro _ h;exact h
   |cons a l ih=>rintro _ ⟨v,vs,e,h1,h2⟩;exact⟨v,vs,e,hk _ _ h1,ih h2⟩
  exact⟨vs',vss',rfl,hn,key h2⟩
 |x::l,_,j+1,⟨vs,vss',e,h1,h2⟩=>by
  subst e;exact⟨vs,vss'.set j vs',rfl,hk _ _ h1,Ao.setC hk hn j h2⟩
theorem Kq {k off:Nat}{cv:List Value}(ho:off+cv.length<=k)(rest:List Value):∀{vss:List (List Value)} {j:Nat} {vs:List Value},(∀v∈vss,v.length=k)->vss[j]? =some vs->
  BF (vss.flatten++rest) (j*k+off) cv=(vss.set j (BF vs off cv)).flatten++rest
 |[],_,_,_,h=>by simp at h
 |v::vss,0,vs,hl,h=>by
  simp at h;subst h;have:=hl v (by simp);unfold BF;simp only[Nat.zero_mul,v8,List.flatten_cons,wZ,List.set_cons_zero];rw[List.take_append_of_le_length (by omega),List.drop_append_of_le_length (by omega)]
 |v::vss,j+1,vs,hl,h=>by
  have h0:=hl v (by simp);have ih:=Kq ho rest (vss:=vss) (j:=j) (vs:=vs) (fun x hx=>hl x (by simp[hx])) (by simpa using h);simp only[List.flatten_cons,wZ,List.set_cons_succ];rw[<-ih];unfold BF;rw[show (j+1)*k+off=v.length+(j*k+off) by rw[wS,h0];omega,Nat.add_assoc,List.take_length_add_append,List.drop_length_add_append];simp only[wZ]
theorem Xh {n:Nat}(hm:AD T n ρ m w){n' id b x y:Nat}{ks ks':List Kd}{e:TypeId}{l':List (List U)}{all all':List Value}(hid:m.at id= .mrow x y ks e)(hr: ρ id=some b)
  (hb:w.heap[b]? =some (.cells all.toArray e (0,0))) (hlen:all'.length=all.length) (hk:ks'.length=ks.length) (hT:T n= .list l') (hy:T y= .int l'.length)
  (hv:∃vs us,all'=vs++us/\AU (AS T ρ m w) w ks' l' vs) (hn:n < n'):
  AE T n ρ m w ρ (m.set id (.mrow n y ks' e)) (w.setRow b all'.toArray)/\AD T n' ρ (m.set id (.mrow n y ks' e)) (w.setRow b all'.toArray):=by
 have hne:m.at id≠ .pad:=by rw[hid];exact fun h=>by cases h
 have hat:=DI m id (.mrow n y ks' e);have hset:(w.setRow b all'.toArray).heap[b]? =some (.cells all'.toArray e (0,0)):=setRow_heap w b all.toArray all'.toArray e (0,0) hb;have hs:AE T n ρ m w ρ (m.set id (.mrow n y ks' e)) (w.setRow b all'.toArray):={
  os:=rfl
  tape:=rfl
  output:=rfl
  size:=by simp
  mlen:=fun j h=>by rw[hat j hne];split<;>first|exact (fun h=>by cases h)|exact h
  rho:=fun j h=>by
   have hj:j≠id:=fun e=>by subst e;rw[hid] at h;cases h
   rw[hat j hne,if_neg hj];exact⟨rfl,h⟩
  untr:=fun j h ht=>by
   rw[hat j hne] at ht;split at ht
   .rename_i he;subst he;rw[hid];rfl
   .exact ht
  fresh:=fun j c h ht hr=>by
   rw[hat j hne] at ht;split at ht
   .rename_i he;subst he;exact absurd h hne
   .rw[h] at ht;cases ht
  old:=fun k hk hno=>Cp w b _ k (fun e=>hno id (by rw[hid];rfl) (by rw[e];exact hr))
  tok:=fun j x ks e' h=>by
   have hj:j≠id:=fun e=>by subst e;rw[hid] at h;cases h
   refine .inl ⟨by rw[hat j hne,if_neg hj];exact h,rfl,fun c hc=>Cp w b _ c (fun e=>?_)⟩;subst e;exact hj (hm.inj j id c (by rw[h];rfl) (by rw[hid];rfl) hc hr)
  row:=fun j x2 y2 ks2 e2 h=>by
   by_cases hj:j=id
   .subst hj;rw[hid] at h;cases h;refine .inr ⟨n,y,ks',by rw[hat j hne,if_pos rfl],hk,.inl ⟨rfl,rfl,fun c vs hc hv=>?_⟩⟩;rw[hr] at hc;cases hc;rw[hb] at hv;cases hv;exact⟨_,hset,by simpa using hlen⟩
   .refine .inr ⟨x2,y2,ks2,by rw[hat j hne,if_neg hj];exact h,rfl,.inl ⟨rfl,rfl,fun c vs hc hv=>⟨vs,?_,rfl⟩⟩⟩;rw[Cp w b _ c (fun e=>?_)]
    .exact hv
    .subst e;exact hj (hm.inj j id c (by rw[h];rfl) (by rw[hid];rfl) hc hr) }
 have hbk:=hm.blk id;rw[hid] at hbk;obtain⟨⟨q1,q2⟩,l0,q3,q4,⟨q5,q6⟩,q7⟩:=hbk;have hl0:l0.length=l'.length:=by rw[hy] at q4;have:=U.int.inj q4;omega
 refine⟨hs,⟨fun j=>?_,fun j j' c ht ht' h1 h2=>?_,fun b off h=>hm.fr b off (wI hs.size h)⟩⟩
 .by_cases hj:j=id
  .subst hj;rw[hat j hne,if_pos rfl];obtain⟨vs,us,e1,e2⟩:=hv;have hfr:∀off,T.fr b off:=by
    rcases q7 with⟨q7,_⟩|⟨b',_,_,q7,_,_,q8⟩
    .rw[hr] at q7;cases q7
    .rw[hr] at q7;cases q7;exact q8
   refine⟨⟨hn,vw q2 (by omega)⟩,l',hT,hy,⟨by rw[<-hl0];exact q5,fun h=>q6 (List.length_eq_zero_iff.1 (by rw[<-hk,h];rfl))⟩,.inr ⟨b,vs,us,hr,by rw[hset,e1],AU.mono (fun _ _ h=>hs.safe0 h) e2,hfr⟩⟩
  .by_cases ht:(m.at j).tracked=true
   .refine BB.step hs hm (by omega) (by rw[hat j hne,if_neg hj]) rfl (fun c hc=>Cp w b _ c (fun e=>?_));subst e;exact hj (hm.inj j id c ht (by rw[hid];rfl) hc hr)
   .rw[hat j hne,if_neg hj];cases hx:m.at j with
    |pad=>trivial
    |gone=>trivial
    |cells=>rw[hx] at ht;exact absurd rfl ht
    |lp=>rw[hx] at ht;exact absurd rfl ht
    |tok=>rw[hx] at ht;exact absurd rfl ht
    |mrow=>rw[hx] at ht;exact absurd rfl ht
    |mapb=>rw[hx] at ht;exact absurd rfl ht
 .have tr:∀k,(Mem.at (m.set id (.mrow n y ks' e)) k).tracked=true->(m.at k).tracked=true:=fun k hk=>by
   rw[hat k hne] at hk;split at hk
   .rename_i he;subst he;rw[hid];rfl
   .exact hk
  exact hm.inj j j' c (tr j ht) (tr j' ht') h1 h2
theorem AJ.ofC {n:Nat}{l:List AC}{vs:List Value}(ha:l.all AC.atom=true)(h:AB T n ρ m w l vs):
  AJ (AS T ρ m w) w (l.map fun c=>(BN c).1) (l.map fun c=>(BN c).2.eval T) vs:=by
 induction l generalizing vs with
 |nil=>exact⟨rfl,h⟩
 |cons c l ih=>
  obtain⟨u,us,rfl,h1,h2⟩:=h;simp only[List.all_cons,vo] at ha;exact⟨_,_,u,us,rfl,rfl,XW ha.1 h1,ih ha.2 h2⟩
theorem Ao.lens {ok:Nat->Nat->Prop}{ks:List Kd}:∀{l:List (List U)} {vss:List (List Value)},Ao ok w ks l vss->vss.length=l.length/\∀v∈vss,v.length=ks.length
 |[],_,h=>by rw[show _=[] from h];simp
 |_::_,_,⟨vs,vss',e,h1,h2⟩=>by
  subst e;obtain⟨k1,k2⟩:=h2.lens;refine⟨by simp[k1],fun v hv=>?_⟩;cases hv with
  |head=>exact h1.lenC.1
  |tail _ hv=>exact k2 v hv
theorem Ao.getC {ok:Nat->Nat->Prop}{ks:List Kd}:∀{l:List (List U)} {vss:List (List Value)} {j:Nat} {us:List U},Ao ok w ks l vss->l[j]? =some us->∃vs,vss[j]? =some vs/\AJ ok w ks us vs
 |[],_,_,_,_,hj=>by simp at hj
 |x::l,_,0,us,⟨vs,vss',e,h1,h2⟩,hj=>by
  subst e;simp at hj;subst hj;exact⟨vs,rfl,h1⟩
 |x::l,_,j+1,us,⟨vs,vss',e,h1,h2⟩,hj=>by
  subst e;obtain⟨v,h3,h4⟩:=Ao.getC h2 (show l[j]? =some us by simpa using hj);exact⟨v,by simpa using h3,h4⟩
theorem b9 {t:TypeId}{p c:AC}{v u:Value}(h:Uu P t p c m g=some r)(hnew:New T g.n r.us)(hm:AD T g.n ρ m w)(hp:AA T g.n ρ m w p v)(hc:AA T g.n ρ m w c u):
  ∃w',(Instr.storeAt t v u).run P w= .ok () w'/\AE T g.n ρ m w ρ r.m w'/\AD T (g.n+r.us.length) ρ r.m w'/\r.c= .any:=by
 unfold Uu at h;simp only[vq,vn] at h;obtain⟨i,hi,cs,hcs,h⟩:=h;split at h
 .rename_i hlen;have hlen':=hlen;cases p<;>simp only at h
  case ptr id off=>
   obtain⟨b,hr,rfl,_⟩:=hp;split at h
   .rename_i l e hid;obtain⟨vs,hb,hl⟩:=BB.get hm hid hr;split at h
    .rename_i hoff;cases h;obtain⟨us,e1,e2,e3,e4⟩:=CC hcs hc;have hst:=Kl (n':=g.n) hm hid hr hb (JE hl e2 off i.size hlen) (vr _);refine⟨_,?_,hst.1,hst.2,rfl⟩;simp only[Instr.storeAt,Instr.sureAddr,Sem.run_bind,Sem.run_pure,Result.andThen_ok];exact Fl hi b off e hb e1 (by rw[e2.length];exact hlen) (by rw[hl.length];exact hoff) e4
    .cases h
   .cases h
  case pix id base stride cnt x plus=>
   obtain⟨h0,b,j,hr,hx,hj0,hjc,rfl,_⟩:=hp;split at h
   .rename_i l e d hid;split at h
    .cases h
    .rename_i hst;simp only[vn] at h;obtain⟨⟨l',us'⟩,hsel,h⟩:=h;cases h;obtain⟨vs,hb,hl⟩:=BB.get hm hid hr;obtain⟨y,e1,e2,e3,_⟩:=WU hcs hc;have hh:=OF hm (n':=g.n+us'.length) (by omega) hx hst e2 hj0 hl cnt g.n l' us' hsel hnew (vr _);rw[if_pos (by omega)] at hh;have hpos:base+j.toNat*stride+plus < vs.length:=by
      have key:∀(J n0:Nat) (l':List AC) (us':List Ex),Fr x d base stride plus l J n0=some (l',us')->∀k,k < J->base+k*stride+plus < l.length:=by
       intro J;induction J with
       |zero=>intro _ _ _ _ k hk;omega
       |succ J ih=>
        intro n0 l' us' hs k hk;simp only[Fr,vq,vn] at hs;obtain⟨⟨l1,us1⟩,h1,old,h2,_⟩:=hs;by_cases hkJ:k=J
        .subst hkJ;exact (vu.1 h2).1
        .exact ih n0 l1 us1 h1 k (by omega)
      rw[hl.length];exact key cnt g.n l' us' hsel j.toNat (by omega)
     have hstp:=Kl (n':=g.n+us'.length) hm hid hr hb hh (by omega);refine⟨_,?_,hstp.1,hstp.2,rfl⟩;simp only[Instr.storeAt,Instr.sureAddr,Sem.run_bind,Sem.run_pure,Result.andThen_ok];have hsz:i.size=1:=by simpa using hlen.symm
     have:=Fl (P:=P) (w:=w) hi b (base+j.toNat*stride+plus) e (vs:=[y]) (v:=u) hb e1 (by simp[hsz]) (by omega) (by intro z hz;simp at hz;rw[hz];exact e3);rw[this,ZC hpos]
   .cases h
  case mp id y t' sz off=>
   obtain⟨⟨h0,h0',h0''⟩,j,L,b,ht,hy,⟨hj0,hjL⟩,rfl,hk⟩:=hp;split at h
   .rename_i x y' ks e hid;split at h
    .rename_i hcnd;obtain⟨⟨rfl,hsz⟩,hoff⟩:=hcnd;cases h;have hr:=hk x ks e hid;have hbk:=hm.blk id;rw[hid] at hbk;obtain⟨_,l,q3,q4,⟨q5,q6⟩,q7⟩:=hbk;have hL:L=l.length:=by rw[hy] at q4;exact U.int.inj q4
     have hjl:j.toNat < l.length:=by omega
     rcases q7 with⟨_,q7⟩|⟨b',vs0,us0,q7,hb,⟨vss,q8,q9⟩,_⟩
     .subst q7;simp at hjl
     rw[hr] at q7;cases q7;obtain⟨vals,e1,e2,e3,e4⟩:=CC hcs hc;obtain⟨vj,g1,g2⟩:=q9.getC (vt hjl);obtain⟨l1,l2⟩:=q9.lens;have hvl:vals.length=cs.length:=e2.length;have hcv:=AJ.ofC e3 e2;have hpl:off+(cs.map fun c=>(BN c).1).length<=ks.length:=by simp;omega
     have hfl:=Kq (k:=ks.length) (off:=off) (cv:=vals) (by omega) us0 l2 g1;have hTn:T g.n= .list (Dc l j.toNat off (cs.map fun c=>(BN c).2.eval T)):=by
      rw[hnew.head];simp[Ex.eval,YH,u0,u1,Rf.eval,q3,ht,U.toL,U.toI,List.map_map];rfl
     have hlen:j.toNat*ks.length+off+vals.length<=(vs0++us0).length:=by
      have:=q9.lenC;rw[<-q8] at this;have hm2:(j.toNat+1)*ks.length<=l.length*ks.length:=wO _ hjl;rw[wS,Nat.one_mul] at hm2;rw[wC];omega
     have hsp:(BF (vs0++us0) (j.toNat*ks.length+off) vals).length=(vs0++us0).length:=by
      unfold BF;simp only[wC,wb,List.length_drop] at hlen⊢;omega
     have hgetD:l.getD j.toNat []=l[j.toNat]:=by simp[List.getD,hjl]
     have hst:=Xh (n':=g.n+1) (ks':=LE ks off (cs.map fun c=>(BN c).1)) hm hid hr hb hsp (ZD hpl) hTn (by rw[hy,hL];simp[Dc])
      ⟨(vss.set j.toNat (BF vj off vals)).flatten,us0,by rw[q8];exact hfl,_,rfl,by
       unfold Dc;rw[hgetD];exact Ao.setC (fun _ _ h=>AJ.put_l hpl h) (AJ.put_r hpl g2 hcv) j.toNat q9⟩ (by omega)
     refine⟨_,?_,hst.1,hst.2,rfl⟩;simp only[Instr.storeAt,Instr.sureAddr,Sem.run_bind,Sem.run_pure,Result.andThen_ok];rw[<-hsz];exact Fl hi b (j.toNat*ks.length+off) e hb e1 (by rw[hvl];exact hlen') (by rw[<-hlen',<-hvl];exact hlen) e4
    .cases h
   .cases h
  all_goals cases h
 .cases h
theorem Fq {t:TypeId}{i:TypeInfo}{z:Value}(hi:P.info? t=some i)(hz:i.zero=some z):(zeroValue t).run P w= .ok z w:=by
 simp[zeroValue,typeInfo,hi,hz]
theorem LX (t:TypeId)(v:Value):(newVar t v).run P w= .ok ⟨w.heap.size,0,none⟩ (w.alloc (.cells v.cells t)):=by
 simp[newVar,newRow]
theorem Ws {l:List AC}{vs:List Value}(hm:AD T g.n ρ m w)(hl:AB T g.n ρ m w l vs)(t:TypeId){v:Value}(hv:v.cells=vs.toArray){run:Result Next}
  (hrun:run= .ok (.value (.pointer (some ⟨w.heap.size,0,none⟩))) (w.alloc (.cells v.cells t))):BC T g ρ m w run (M3 l t m):=by
 have h:=Oa hm hl t;rw[hv] at hrun;exact⟨_,_,_,.inl hrun,h.1,h.2.1.mono (by simp[M3]),h.2.2.up h.2.1 (by simp[M3])⟩
theorem Z6 {t:TypeId}{a:Act}{o:Oper}(h:Gy P t m=some r)(hm:AD T g.n ρ m w)(ho:o.op= .alloc t):BC T g ρ m w ((execOp a.eval o).run P w) r:=by
 unfold Gy at h;simp only[vq,vn] at h;obtain⟨i,hi,z,hz,l,hl,h⟩:=h;cases h;obtain⟨vs,h1,h2,_,_⟩:=CC hl (GJ (T:=T) (n:=g.n) (ρ := ρ) (m:=m) (w:=w) z);refine Ws hm h2 t h1 ?_;simp[execOp,ho,Instr.alloc,Fq hi hz,LX]
theorem gB {t:TypeId}{a:Act}{o:Oper}{c:AC}{x:Operand}(h:cm t c m=some r)(hm:AD T g.n ρ m w)(ho:o.op= .box t x)(hx:AA T g.n ρ m w c (a.eval x)):
  BC T g ρ m w ((execOp a.eval o).run P w) r:=by
 unfold cm at h;simp only[vq,vn] at h;obtain⟨l,hl,h⟩:=h;cases h;obtain⟨vs,h1,h2,_,_⟩:=CC hl hx;refine Ws hm h2 t h1 ?_;simp[execOp,ho,Instr.box,LX]
theorem SN (cells:Array Value)(off:Nat):∀(vs:List Value) (k:Nat),off+k+vs.length<=cells.size->
  (vs.zipIdx k).foldl (fun cs (p:Value × Nat)=>cs.setIfInBounds (off+p.2) p.1) cells=(BF cells.toList (off+k) vs).toArray
 |[],k,h=>by simp[BF]
 |v::vs,k,h=>by
  simp at h;simp only[List.zipIdx_cons,List.foldl_cons];have:=SN (cells.setIfInBounds (off+k) v) off vs (k+1) (by simp;omega);rw[this];simp only[Array.toList_setIfInBounds];rw[show off+(k+1)=off+k+1 by omega,Pg (by simp;omega)]
theorem VH (cells:Array Value)(off:Nat)(v:Value)(vs:List Value)(hv:v.cells=vs.toArray)(h:off+vs.length<=cells.size):
  v.cells.zipIdx.foldl (fun cs (c,j)=>cs.setIfInBounds (off+j) c) cells=(BF cells.toList off vs).toArray:=by
 rw[hv,<-Array.foldl_toList];have:=SN cells off vs 0 (by omega);simpa using this
theorem Vt {n:Nat}{place:Nat->Option (Nat × Nat)}:∀{parts:List (Nat × AC)} {vals:List (Nat × Value)} {l l':List AC} {vs:List Value},Lj place l parts=some l'->AB T n ρ m w l vs->
  vals.length=parts.length->(∀(k i:Nat) (c:AC) (j:Nat) (v:Value),parts[k]? =some (i,c)->vals[k]? =some (j,v)->i=j/\AA T n ρ m w c v)->
  ∃vs',Instr.fill place vs.toArray vals=some (vs':List Value).toArray/\AB T n ρ m w l' vs'
 |[],vals,l,l',vs,h,hl,hlen,_=>by
  simp only[Lj] at h;cases h;have:vals=[]:=by simpa using hlen
  subst this;exact⟨vs,rfl,hl⟩
 |(i,c)::parts,[],_,_,_,_,_,hlen,_=>by simp at hlen
 |(i,c)::parts,(j,v)::vals,l,l',vs,h,hl,hlen,hh=>by
  obtain⟨rfl,hc⟩:=hh 0 i c j v rfl rfl;simp only[Lj,vq,vn] at h;obtain⟨⟨off,size⟩,hp,cs,hcs,h⟩:=h;split at h
  .rename_i hsz;obtain⟨us,e1,e2,_,_⟩:=CC hcs hc;have hus:us.length=size:=by rw[e2.length];exact hsz.1
   obtain⟨vs',f1,f2⟩:=Vt (vals:=vals) h (JE hl e2 off size hsz.1) (by simpa using hlen) (fun k a b c d h1 h2=>hh (k+1) a b c d (by simpa using h1) (by simpa using h2));refine⟨vs',?_,f2⟩;simp only[Instr.fill,hp];rw[if_neg]
   .rw[VH vs.toArray off v us e1 (by simp;rw[hus,hl.length];exact hsz.2)];exact f1
   .have h3:=hl.length;have h4:=hsz.2;intro h5;simp only[e1,List.size_toArray,wU,decide_eq_true_eq] at h5;rcases h5 with h5|h5
    .exact h5 hus
    .omega
  .cases h
theorem Ry {t:TypeId}{a:Act}{o:Oper}{ev:Operand->AC}{parts:Array (Nat × Operand)}(h:P5 P t (parts.toList.map fun (i,x)=>(i,ev x)) m=some r)(hm:AD T g.n ρ m w)
  (ho:o.op= .build t parts) (hev:∀x,AA T g.n ρ m w (ev x) (a.eval x)):Aq T g ρ m w ((execOp a.eval o).run P w) r:=by
 unfold P5 at h;simp only[vq,vn] at h;obtain⟨i,hi,z,hz,l,hl,h⟩:=h;obtain⟨vs,h1,h2,_,_⟩:=CC hl (GJ (T:=T) (n:=g.n) (ρ := ρ) (m:=m) (w:=w) z);have main:∀place l',Lj place l (parts.toList.map fun (i,x)=>(i,ev x))=some l'->∃vs':List Value,Instr.fill place z.cells (parts.map fun (i,x)=>(i,a.eval x)).toList=some vs'.toArray/\AB T g.n ρ m w l' vs':=by
  intro place l' hf;rw[h1];refine Vt hf h2 (by simp) ?_;intro k i c j v q1 q2;simp only[wW,Array.toList_map,wK] at q1 q2;obtain⟨⟨i1,x1⟩,e1,e2⟩:=q1;obtain⟨⟨i2,x2⟩,e3,e4⟩:=q2;rw[e1] at e3;cases e3;cases e2;cases e4;exact⟨rfl,hev x1⟩
 have fin:∀vs' l',AB T g.n ρ m w l' vs'->P.built t (parts.map fun (i,x)=>(i,a.eval x)).toList=some (vs':List Value).toArray->r={ c:= .agg l',m }->Aq T g ρ m w ((execOp a.eval o).run P w) r:=by
  intro vs' l' hh hb hr;subst hr;refine Aq.same (v:= .agg vs'.toArray) ?_ hm rfl ⟨vs',rfl,hh⟩;simp only[execOp,ho,Sem.run_bind,run_build w t _ _ hb,Result.andThen_ok,Sem.run_pure]
 split at h
 .rename_i k e hu;simp only[vn] at h;obtain⟨ie,hie,l',hf,h⟩:=h;obtain⟨vs',e1,e2⟩:=main _ _ hf;exact fin vs' l' e2 (by simp only[Program.built,hi,hu,hz,hie,e1]) (by cases h;rfl)
 .rename_i fields hu;simp only[vn] at h;obtain⟨places,hpl,l',hf,h⟩:=h;obtain⟨vs',e1,e2⟩:=main _ _ hf;exact fin vs' l' e2 (by simp only[Program.built,hi,hu,hz,hpl,e1]) (by cases h;rfl)
 .cases h
end
section
variable {P:Program}{T:Tab}{ρ :Nat->Option Nat}{m:Mem}{w:World}{g:G}{r:R}
theorem BD {t:TypeId}{i:TypeInfo}(hi:P.info? t=some i)(w:World):(sizeOf t).run P w= .ok i.size w:=by
 simp[sizeOf,typeInfo,hi]
theorem Hn {s:TypeId}{fields:Array Field}{f:Nat}{fd:Field}{i:TypeInfo}(hu:P.underlying s=some (.struct fields))(hf:fields[f]? =some fd)(hi:P.info? fd.type=some i)
  (hz:i.size≠0) (b off:Nat):(Instr.fieldAt s (.pointer (some ⟨b,off,none⟩)) f).run P w= .ok (.pointer (some ⟨b,off+fd.offset,none⟩)) w:=by
 simp[Instr.fieldAt,run_underlying hu,hf,Instr.sureAddr,fieldPlace,BD hi,hz,Br]
theorem IN {s:TypeId}{f:Nat}{p:AC}{v:Value}(h:FE P s p f m=some r)(hp:AA T g.n ρ m w p v):
  ∃u,(Instr.fieldAt s v f).run P w= .ok u w/\r.m=m/\r.us=[]/\AA T g.n ρ m w r.c u:=by
 unfold FE at h;split at h
 .rename_i fields hu;simp only[vq,vn] at h;obtain⟨fd,hf,i,hi,h⟩:=h;split at h
  .cases h
  .rename_i hz;cases p<;>simp only at h
   case ptr id off=>
    cases h;obtain⟨b,h1,rfl,h3⟩:=hp;exact⟨_,Hn hu hf hi hz b off,rfl,rfl,b,h1,rfl,h3⟩
   case pix id base stride cnt x plus=>
    cases h;obtain⟨h0,b,j,h1,h2,h3,h4,rfl,h5⟩:=hp;exact⟨_,Hn hu hf hi hz b _,rfl,rfl,h0,b,j,h1,h2,h3,h4,by rw[Nat.add_assoc],h5⟩
   case rp x t off ks=>
    cases h;obtain⟨h0,j,b,o,us,h1,h2,h3,rfl,h5⟩:=hp;exact⟨_,Hn hu hf hi hz b _,rfl,rfl,h0,j,b,o,us,h1,h2,h3,by rw[Nat.add_assoc],h5⟩
   case mp id y t sz off=>
    cases h;obtain⟨h0,j,L,b,h1,h2,h3,rfl,h5⟩:=hp;exact⟨_,Hn hu hf hi hz b _,rfl,rfl,h0,j,L,b,h1,h2,h3,by rw[Nat.add_assoc],h5⟩
   all_goals cases h
 .cases h
theorem FZ {t:TypeId}{len:Nat}{e:TypeId}{i:TypeInfo}(hu:P.underlying t=some (.array len e))(hi:P.info? e=some i)(b off:Nat)(k:IntKind)(n:Int)(h0:0<=n)(h1:n < len):
  (Instr.indexAt t (.pointer (some ⟨b,off,none⟩)) (.int k n)).run P w= .ok (.pointer (some ⟨b,off+n.toNat*i.size,none⟩)) w:=by
 simp[Instr.indexAt,asIntOf,run_underlying hu,Instr.sureAddr,BD hi,h0,h1,Br]
theorem Ll {t:TypeId}{e:TypeId}{i:TypeInfo}(hu:P.underlying t=some (.slice e))(hi:P.info? e=some i)(b off len cap:Nat)(k:IntKind)(n:Int)(h0:0<=n)(h1:n < len):
  (Instr.indexAt t (.slice (some ⟨b,off,none⟩) len cap) (.int k n)).run P w= .ok (.pointer (some ⟨b,off+n.toNat*i.size,none⟩)) w:=by
 simp[Instr.indexAt,asIntOf,run_underlying hu,BD hi,h0,h1,Br]
theorem L1 {ix:AC}{x:Nat}{us':List Ex}{k:IntKind}{n:Int}(h:N6 g ix=some (x,us'))(hnew:New T g.n us')(hi:AA T g.n ρ m w ix (.int k n)):
  x < g.n+us'.length/\T x= .int n:=by
 cases ix<;>simp only[N6] at h<;>cases h
 case i=>
  obtain⟨h0,j,h1,h2,_⟩:=hi;cases h2;exact⟨by simp;omega,h1⟩
 case ci=>
  have e:Value.int k n=_:=hi;cases e;exact⟨by simp,hnew.head⟩
theorem ON {t e:TypeId}{i:TypeInfo}(hu:P.underlying t=some (.slice e))(hi':P.info? e=some i){p ix:AC}{v:Value}{k:IntKind}{n:Int}{rn:Rf}(hrn:rn.eval T= .int n)
  (h:CQ.aIndexSl i.size p ix rn m g=some r) (hnew:New T g.n r.us) (hps:∀q∈r.ps,q.holds T) (hp:AA T g.n ρ m w p v)
  (hix:AA T g.n ρ m w ix (.int k n)):∃y,(Instr.indexAt t v (.int k n)).run P w= .ok y w/\r.m=m/\AA T (g.n+r.us.length) ρ m w r.c y:=by
 unfold CQ.aIndexSl at h;simp only[vq,vn] at h;obtain⟨⟨x,us'⟩,hx,h⟩:=h;have sl:∀y ks,y < g.n->AM (AS T ρ m w) w (.list ks) (T y) v->i.size=ks.length->r={ c:= .rp y x 0 ks,m,us:=us',ps:=[⟨ "inl",RU,[rn,.e y]⟩] }->
   ∃z,(Instr.indexAt t v (.int k n)).run P w= .ok z w/\r.m=m/\AA T (g.n+r.us.length) ρ m w r.c z:=by
  intro y ks hy hro hsz hr;subst hr;have hx':=L1 hx hnew hix;have hin:=hps ⟨ "inl",RU,[rn,.e y]⟩ (by simp);obtain⟨l,hl,_,_,a,cap,rfl,_,h5⟩:=hro;simp only[Pr.holds,RU,u0,u1,wG,wa,hrn,eve,hl,U.toI,U.toL] at hin;obtain⟨b,o,rfl,h6⟩:=h5 (by omega);have hlt:n.toNat < l.length:=by omega
  refine⟨_,Ll hu hi' b o l.length cap k n hin.1 hin.2,rfl,⟨by simp only;omega,hx'.1⟩,n,b,o,l[n.toNat],hx'.2,hin.1,?_,?_,?_⟩
  .rw[hl];exact vt hlt
  .simp only[hsz,Nat.add_zero]
  .exact h6 n.toNat _ (vt hlt)
 cases p<;>simp only at h
 case ro y ks=>
  split at h
  .rename_i hsz;exact sl y ks hp.1 hp.2 hsz (by cases h;rfl)
  .cases h
 case vec id y ks=>
  split at h
  .rename_i hsz;exact sl y ks hp.1 hp.2.2.1 hsz (by cases h;rfl)
  .cases h
 case mr id y=>
  cases h;have hx':=L1 hx hnew hix;obtain⟨⟨h0,h0'⟩,L,a,cap,hy,⟨hL0,hL1⟩,rfl,⟨hcap,hb⟩,hl⟩:=hp;have hin:=hps ⟨ "in",pIn,[rn,.e y]⟩ (by simp);simp only[Pr.holds,pIn,u0,u1,wG,wa,hrn,eve,hy,U.toI] at hin;obtain⟨b,rfl⟩:=hb (by omega);refine⟨_,Ll hu hi' b 0 L.toNat cap k n hin.1 (by omega),rfl,⟨by simp only;omega,hx'.1,h0'⟩,n,L,b,hx'.2,hy,hin,by simp,fun x2 ks2 e2 hk=>?_⟩;rcases hl x2 ks2 e2 hk with⟨_,hl3⟩|⟨b',vs,l1,l2,_,_⟩
  .omega
  .cases l2;exact l1
 all_goals cases h
theorem IJ {t:TypeId}{p ix:AC}{v u:Value}(h:CQ P t p ix m g=some r)(hnew:New T g.n r.us)(hps:∀q∈r.ps,q.holds T)(hp:AA T g.n ρ m w p v)
  (hix:AA T g.n ρ m w ix u):∃y,(Instr.indexAt t v u).run P w= .ok y w/\r.m=m/\AA T (g.n+r.us.length) ρ m w r.c y:=by
 unfold CQ at h;simp only[vq,vn] at h;obtain⟨⟨k,lo,hi,rn⟩,hiv,h⟩:=h;obtain⟨n,rfl,hrn,hlo,hhi⟩:=BZ hiv hix;simp only at h;split at h
 .rename_i len e hu;simp only[vn] at h;obtain⟨i,hi',h⟩:=h;split at h
  .cases h
  .rename_i hz;split at h
   .rename_i hc;obtain rfl:n=lo:=by omega
    split at h
    .rename_i hr;cases p<;>simp only at h
     case ptr id off=>
      cases h;obtain⟨b,h1,rfl,h3⟩:=hp;exact⟨_,FZ hu hi' b off k n hr.1 hr.2,rfl,b,h1,rfl,h3⟩
     case pix id base stride cnt x plus=>
      cases h;obtain⟨h0,b,j,h1,h2,h3,h4,rfl,h5⟩:=hp;exact⟨_,FZ hu hi' b _ k n hr.1 hr.2,rfl,h0,b,j,h1,h2,h3,h4,by rw[Nat.add_assoc],h5⟩
     case rp x t off ks=>
      cases h;obtain⟨h0,j,b,o,us,h1,h2,h3,rfl,h5⟩:=hp;exact⟨_,FZ hu hi' b _ k n hr.1 hr.2,rfl,h0,j,b,o,us,h1,h2,h3,by rw[Nat.add_assoc],h5⟩
     case mp id y t sz off=>
      cases h;obtain⟨h0,j,L,b,h1,h2,h3,rfl,h5⟩:=hp;exact⟨_,FZ hu hi' b _ k n hr.1 hr.2,rfl,h0,j,L,b,h1,h2,h3,by rw[Nat.add_assoc],h5⟩
     all_goals cases h
    .cases h
   .cases p<;>simp only at h
    case ptr id off=>
     simp only[vn] at h;obtain⟨⟨x,us'⟩,hx,h⟩:=h;cases h;obtain⟨b,h1,rfl,h3⟩:=hp;have hx':=L1 hx hnew hix;have hr:0<=n/\n < (len:Int):=by
      by_cases hc:0<=lo/\hi < len
      .omega
      .have:=hps ⟨ "in",pIn,[rn,.c (.int len)]⟩ (by simp[hc]);simpa [Pr.holds,pIn,u0,u1,hrn,evc,U.toI] using this
     exact⟨_,FZ hu hi' b off k n hr.1 hr.2,rfl,hx'.1,b,n,h1,hx'.2,hr.1,hr.2,rfl,h3⟩
    all_goals cases h
 .rename_i e hu;simp only[vn] at h;obtain⟨i,hi',h⟩:=h;split at h
  .rename_i hc;obtain rfl:n=lo:=by omega
   split at h
   .rename_i id off len;split at h
    .rename_i hr;cases h;obtain⟨b,h1,rfl,h3⟩:=hp;exact⟨_,Ll hu hi' b off len len k n hr.1 hr.2,rfl,b,h1,rfl,h3⟩
    .cases h
   .exact ON hu hi' hrn h hnew hps hp hix
  .exact ON hu hi' hrn h hnew hps hp hix
 .cases h
theorem Om {n:Nat}{t:TypeId}{l:List AC}{vs:List Value}{off:Nat}{c:AC}(h:Eng.apart P t l off=some c)(hl:AB T n ρ m w l vs):
  ∃u,(part t vs.toArray off).run P w= .ok u w/\AA T n ρ m w c u:=by
 unfold Eng.apart at h;simp only[vq,vn] at h;obtain⟨⟨size,ag⟩,hs,h⟩:=h;unfold E9 at hs;cases hi:P.info? t with
 |none=>rw[hi] at hs;simp at hs
 |some i=>
  cases hu:P.underlying t with
  |none=>rw[hi,hu] at hs;simp at hs
  |some d=>
   rw[hi,hu] at hs;cases d<;>simp at hs<;>obtain⟨h1,h2⟩:=hs<;>subst h2<;>subst h1
   case struct fs=>
    simp at h;obtain⟨hlen,h⟩:=h;subst h;refine⟨.agg ((vs.drop off).take i.size).toArray,?_,_,rfl,(hl.drop off).take i.size⟩;simp[part,isAgg,run_underlying hu,BD hi,List.extract_eq_take_drop]
   case array k e=>
    simp at h;obtain⟨hlen,h⟩:=h;subst h;refine⟨.agg ((vs.drop off).take i.size).toArray,?_,_,rfl,(hl.drop off).take i.size⟩;simp[part,isAgg,run_underlying hu,BD hi,List.extract_eq_take_drop]
   all_goals
    simp at h;obtain⟨u,h1,h2⟩:=hl.get h;exact⟨u,by simp[part,isAgg,run_underlying hu,h1],h2⟩
theorem NJ {s:TypeId}{c:AC}{f:Nat}{v:Value}(h:T6 P s c f m=some r)(hc:AA T g.n ρ m w c v):
  ∃u,(Instr.field s v f).run P w= .ok u w/\r.m=m/\r.us=[]/\AA T g.n ρ m w r.c u:=by
 unfold T6 at h;split at h
 .rename_i fields l hu;simp only[vq,vn] at h;obtain⟨fd,hf,d,hd,h⟩:=h;cases h;obtain⟨vs,rfl,hl⟩:=hc;obtain⟨u,h1,h2⟩:=Om (P:=P) hd hl;exact⟨u,by simp[Instr.field,run_underlying hu,hf,asAgg,h1],rfl,rfl,h2⟩
 .cases h
theorem M7 {t:TypeId}{len:Nat}{e:TypeId}{i:TypeInfo}(hu:P.underlying t=some (.array len e))(hi:P.info? e=some i)(cs:Array Value)(k:IntKind)(n:Int)(h0:0<=n)(h1:n < len):
  (Instr.index t (.agg cs) (.int k n)).run P w=(part e cs (n.toNat*i.size)).run P w:=by
 simp[Instr.index,asIntOf,run_underlying hu,BD hi,h0,h1]
theorem Ms {t:TypeId}{x ix:AC}{v u:Value}(h:Um P t x ix m g=some r)(hnew:New T g.n r.us)(hps:∀q∈r.ps,q.holds T)(hx:AA T g.n ρ m w x v)
  (hix:AA T g.n ρ m w ix u):∃y,(Instr.index t v u).run P w= .ok y w/\r.m=m/\(AA T g.n ρ m w r.c y\/AA T (g.n+r.us.length) ρ m w r.c y):=by
 unfold Um at h;simp only[vq,vn] at h;obtain⟨⟨k,lo,hi,rn⟩,hiv,h⟩:=h;obtain⟨n,rfl,hrn,hlo,hhi⟩:=BZ hiv hix;simp only at h;split at h
 .rename_i len e l hu;simp only[vn] at h;obtain⟨i,hi',h⟩:=h;obtain⟨vs,rfl,hl⟩:=hx;split at h
  .rename_i hc;obtain rfl:n=lo:=by omega
   split at h
   .rename_i hr;simp only[vn] at h;obtain⟨d,hd,h⟩:=h;cases h;obtain⟨y,h1,h2⟩:=Om (P:=P) hd hl;exact⟨y,by rw[M7 hu hi' _ k n hr.1 hr.2];exact h1,rfl,.inl h2⟩
   .cases h
  .simp only[vn] at h;obtain⟨⟨size,ag⟩,hs,h⟩:=h;simp only at h;split at h
   .rename_i hsz;cases ix<;>simp only at h
    case i k' lo' hi'' xi=>
     simp only[CM] at hiv;cases hiv;obtain⟨hxi,n',hT,ee,_⟩:=hix;cases ee;have hrOf:r.ps=(if 0<=lo/\hi < len then [] else [⟨ "in",pIn,[.e xi,.c (.int len)]⟩])->0<=n/\n < (len:Int):=by
      intro hrps;by_cases hc:0<=lo/\hi < len
      .omega
      .have:=hps ⟨ "in",pIn,[.e xi,.c (.int len)]⟩ (by rw[hrps];simp[hc]);simpa [Pr.holds,pIn,u0,u1,evc,eve,U.toI,hT] using this
     split at h
     .rename_i hag;subst hag;simp only[vn] at h;obtain⟨css,hcss,⟨ls,us'⟩,hpl,h⟩:=h;cases h;have hr:=hrOf rfl;have hjn:n.toNat < len:=by omega
      have hlen:=Pb hcss hjn;rw[<-hl.length] at hlen;have hl2:=QX (n':=g.n+us'.length) hcss hpl hnew (vr _) hT hr.1 hjn hl hlen;have hty:Bw P e=true/\∃ie,P.info? e=some ie/\ie.size=size:=by
       unfold E9 at hs;unfold Bw;split at hs<;>cases hs<;>simp_all
      obtain⟨hty,ie,hie,hisz⟩:=hty;refine⟨.agg ((vs.drop (n.toNat*size)).take size).toArray,?_,rfl,.inr ⟨_,rfl,?_⟩⟩
      .rw[M7 hu hi' _ k n hr.1 hr.2,hsz];unfold Bw at hty;split at hty
       .rename_i fs hue;simp[part,isAgg,run_underlying hue,BD hie,hisz,List.extract_eq_take_drop]
       .rename_i a1 a2 hue;simp[part,isAgg,run_underlying hue,BD hie,hisz,List.extract_eq_take_drop]
       .cases hty
      .simpa using hl2
     .rename_i hag;simp only[vn] at h;obtain⟨cs,hcs,h⟩:=h;have hag':ag=false:=by simpa using hag
      subst hag';have hs1:=Jf hs rfl;subst hs1;have hrps:r.ps=if 0<=lo/\hi < len then [] else [⟨ "in",pIn,[.e xi,.c (.int len)]⟩]:=by
       unfold H5 at h;split at h
       .split at h
        .cases h
        .cases h;rfl
       .split at h
        .cases h;rfl
        .cases h
      have hr:=hrOf hrps;have hcj:=Li hcs n.toNat (by omega);simp only[Nat.mul_one,v8,Nat.add_zero] at hcj;have hex:∃c,l[n.toNat]? =some c:=by
       rw[<-hcj];exact⟨_,vt (by rw[(Dl _ _ _ hcs).1];simp;omega)⟩
      obtain⟨c,hc⟩:=hex;rw[hc] at hcj;have hap:Eng.apart P e l n.toNat=some c:=by
       unfold Eng.apart;simp[hs,hc]
      obtain⟨y,h1,h2⟩:=Om (P:=P) hap hl;refine⟨y,by rw[M7 hu hi' _ k n hr.1 hr.2,hsz,Nat.mul_one];exact h1,?_⟩;obtain⟨f1,_,f3⟩:=NQ h hnew hxi hT hr.1 hcj h2;exact⟨f1,.inr f3⟩
    all_goals cases h
   .cases h
 .rename_i y hu;cases h;obtain⟨hy,s,hs,rfl,hsz⟩:=hx;have h1:=hps ⟨ "ins",YC,[.e y,rn]⟩ (by simp);simp only[Pr.holds,YC,wG,wa,u0,u1,eve,hs,hrn,U.toS,U.toI] at h1;obtain⟨h2,h3⟩:=h1;have hlt:n.toNat < s.size:=by omega
  have hb:s[n.toNat]? =some (s[n.toNat]'hlt):=getElem?_pos s n.toNat hlt;refine⟨.int .u8 ((s[n.toNat]'hlt).toNat:Int),?_,rfl,.inr ⟨by simp,Jj s n.toNat,?_,?_,?_,?_⟩⟩
  .simp[Instr.index,asIntOf,run_underlying hu,if_pos h2,hb]
  .rw[hnew.head];simp only[Ex.eval,wG,wa,ek,u0,u1,eve,hs,hrn,U.toS,U.toI]
  .have e:Jj s n.toNat=((s[n.toNat]'hlt).toNat:Int):=by
    unfold Jj;have hl:n.toNat < s.data.toList.length:=by simpa using hlt
    rw[wL,vt hl];rfl
   rw[e]
  .unfold Jj;omega
  .unfold Jj;have:=(s.data.toList.getD n.toNat 0).toNat_lt;omega
 .cases h
theorem Ka {x:AC}{i:Nat}{v:Value}(h:Lv x i m=some r)(hx:AA T g.n ρ m w x v):
  ∃u,(Instr.extract v i).run P w= .ok u w/\r.m=m/\r.us=[]/\AA T g.n ρ m w r.c u:=by
 cases x<;>simp only[Lv] at h
 case tup l=>
  simp only[wK] at h;obtain⟨c,hc,h⟩:=h;cases h;obtain⟨vs,rfl,hl⟩:=hx;obtain⟨u,h1,h2⟩:=hl.get hc;exact⟨u,by simp[Instr.extract,h1],rfl,rfl,h2⟩
 all_goals cases h
theorem VS {op:UnOp}{x:AC}{v:Value}(h:aUn op x m g=some r)(hnew:New T g.n r.us)(hx:AA T g.n ρ m w x v):
  ∃u,(Op.unary op v).run P w= .ok u w/\r.m=m/\AA T (g.n+r.us.length) ρ m w r.c u:=by
 cases op<;>simp only[aUn] at h
 case not=>
  cases x<;>simp only at h<;>cases h
  case cb=>rw[show v=_ from hx];exact⟨_,rfl,rfl,rfl⟩
  case b=>
   obtain⟨h0,b,h1,rfl⟩:=hx;exact⟨_,rfl,rfl,by simp;omega,b,h1,rfl⟩
  case nb=>
   obtain⟨h0,b,h1,rfl⟩:=hx;exact⟨_,rfl,rfl,by simp;omega,b,h1,by simp⟩
 case neg=>
  simp only[vq,vn] at h;obtain⟨⟨k,lo,hi,rn⟩,hiv,h⟩:=h;obtain⟨n,rfl,hrn,hlo,hhi⟩:=BZ hiv hx;cases h;have hr:=IE (T:=T) k (lo:=0 - hi) (hi:=0 - lo) (n:=0 - n) (e:=⟨ "neg",Vc,[rn]⟩) (by simp[Ex.eval,Vc,u0,hrn,U.toI]) (by omega) (by omega);refine⟨.int k (k.wrap (0 - n)),by simp[Op.unary,Op.intArith],Hg,FV hnew hr.val hr.lo hr.hi (fun y hy=>?_)⟩;unfold rng at hy;split at hy<;>cases hy
 all_goals cases h
theorem XA {n:Nat}{c:AC}{k:IntKind}{lo hi:Int}{r:Rf}{v:Value}(h:CM c=some (k,lo,hi,r))(hh:AA T n ρ m w c v):∀y,Vx.rf r= .rf (.e y)->y < n:=by
 intro y hy;cases c<;>simp only[CM] at h<;>cases h
 .cases hy
 .cases hy;exact hh.1
theorem Kj {src dst:TypeId}{x:AC}{v:Value}(h:PJ P src dst x m g=some r)(hnew:New T g.n r.us)(hx:AA T g.n ρ m w x v):
  ∃u,(convert src dst v).run P w= .ok u w/\r.m=m/\AA T (g.n+r.us.length) ρ m w r.c u:=by
 unfold PJ at h;split at h
 .rename_i d k hs hd;simp only[vq,vn] at h;obtain⟨⟨k',lo,hi,rn⟩,hiv,h⟩:=h;obtain⟨n,rfl,hrn,hlo,hhi⟩:=BZ hiv hx;have hrun:(convert src dst (.int k' n)).run P w= .ok (.int k (k.wrap n)) w:=by
   simp only[convert,Sem.run_bind,run_underlying hs,run_underlying hd,Result.andThen_ok];cases d<;>rfl
  simp only at h;split at h
  .rename_i hr;rw[Eb k n (by omega) (by omega)] at hrun;cases h;exact⟨_,hrun,Hg,FV hnew hrn hlo hhi (XA hiv hx)⟩
  .cases h;have:=Dd k n;exact⟨_,hrun,Hg,FV hnew (by simp[Vx.eval,Ex.eval,He,oId,u0,hrn,U.toI]) this.1 this.2 (fun y hy=>by cases hy)⟩
 .cases h
theorem QG {c:AC}{k:Bool}{r:Rf}(h:G2 c=some (some k,r)):r= .c (.bool k):=by
 cases c<;>simp only[G2] at h<;>cases h;rfl
theorem Ld {c a b:AC}{vc va vb:Value}(h:S8 c a b m g=some r)(hnew:New T g.n r.us)(hm:AD T g.n ρ m w)(hc:AA T g.n ρ m w c vc)
  (ha:vc= .bool true->AA T g.n ρ m w a va) (hb:vc= .bool false->AA T g.n ρ m w b vb):
  ∃q,vc= .bool q/\r.m=m/\AA T (g.n+r.us.length) ρ m w r.c (if q then va else vb):=by
 unfold S8 at h;simp only[vq,vn] at h;obtain⟨⟨k,rq⟩,hbv,h⟩:=h;obtain⟨q,rfl,hrq,hk⟩:=DR hbv hc;refine⟨q,rfl,?_⟩;cases k with
 |some k=>
  have:=hk k rfl;subst this;cases q with
  |true=>simp only at h;cases h;exact⟨rfl,(ha rfl).up hm (by simp)⟩
  |false=>simp only at h;cases h;exact⟨rfl,(hb rfl).up hm (by simp)⟩
 |none=>
  simp only at h;split at h
  .rename_i ka ry kb rz hy hz;cases h;refine⟨N2,?_⟩;have va':q=true->∃y,va= .bool y/\ry.eval T= .bool y:=fun hq=>by
    obtain⟨y,e1,e2,_⟩:=DR hy (ha (by rw[hq]));exact⟨y,e1,e2⟩
   have vb':q=false->∃y,vb= .bool y/\rz.eval T= .bool y:=fun hq=>by
    obtain⟨y,e1,e2,_⟩:=DR hz (hb (by rw[hq]));exact⟨y,e1,e2⟩
   cases q with
   |true=>
    obtain⟨y,rfl,e2⟩:=va' rfl;refine JI hnew (fun _=>?_) (fun b hb=>by cases hb);split
    .rename_i hk;subst hk;have:=QG hy;subst this;cases e2;simp[Ex.eval,oOr,u0,u1,hrq,U.toB]
    .split
     .simp[Ex.eval,Mp,u0,u1,hrq,e2,U.toB]
     .simp[Ex.eval,Yu,u0,u1,u2,hrq,e2,U.toB]
   |false=>
    obtain⟨y,rfl,e2⟩:=vb' rfl;refine JI hnew (fun _=>?_) (fun b hb=>by cases hb);split
    .simp[Ex.eval,oOr,u0,u1,hrq,e2,U.toB]
    .split
     .rename_i hk;subst hk;have:=QG hz;subst this;cases e2;simp[Ex.eval,Mp,u0,u1,hrq,U.toB]
     .simp[Ex.eval,Yu,u0,u1,u2,hrq,e2,U.toB]
  .cases h
theorem Iu {big:Bool}{x y:AC}{v u:Value}(h:UW big x y m g=some r)(hnew:New T g.n r.us)(hx:AA T g.n ρ m w x v)(hy:AA T g.n ρ m w y u)(ts:Array TypeId)(t:TypeId):
  ∃z,(if big then Builtin.max_ ts t #[v,u] else Builtin.min_ ts t #[v,u]).run P w= .ok z w/\r.m=m/\AA T (g.n+r.us.length) ρ m w r.c z:=by
 unfold UW at h;simp only[vq,vn] at h;obtain⟨⟨k,l1,h1,r1⟩,hx1,⟨k',l2,h2,r2⟩,hy1,h⟩:=h;obtain⟨n1,rfl,e1,a1,b1⟩:=BZ hx1 hx;obtain⟨n2,rfl,e2,a2,b2⟩:=BZ hy1 hy;have ev:∀tag f,(ex2 tag f r1 r2).eval T= .int (f n1 n2):=fun tag f=>by simp[ex2,Ex.eval,o2,u0,u1,e1,e2,U.toI]
 simp only at h;split at h
 .rename_i hk;subst hk;cases big with
  |true=>
   simp only[if_true] at h⊢;cases h;refine⟨.int k (RF n1 n2),?_,Hg,FV hnew (ev _ _) (by simp[RF];omega) (by simp[RF];omega) (fun y hy=>by cases hy)⟩;rw[run_max_int2];simp only[RF];congr 2;split<;>omega
  |false=>
   simp only[if_false,wM] at h⊢;cases h;refine⟨.int k (RT n1 n2),?_,Hg,FV hnew (ev _ _) (by simp[RT];omega) (by simp[RT];omega) (fun y hy=>by cases hy)⟩;rw[run_min_int2];simp only[RT];congr 2;split<;>omega
 .cases h
theorem Mo {u:U}(h:u.toB=true):u= .bool true:=by
 cases u<;>simp[U.toB] at h;rw[h]
theorem MX {x:AC}{v:Value}{a:Act}{o:Oper}{y:Operand}(h:Ep x m=some r)(hps:∀q∈r.ps,q.holds T)(hm:AD T g.n ρ m w)(ho:o.op= .nilCheck y)
  (hv:a.eval y=v) (hx:AA T g.n ρ m w x v):Aq T g ρ m w ((execOp a.eval o).run P w) r:=by
 have ptr:∀b off,v= .pointer (some ⟨b,off,none⟩)->(execOp a.eval o).run P w= .ok (.value v) w:=by
  intro b off e;simp[execOp,ho,hv,e]
 unfold Ep at h;split at h
 .rename_i c id off;cases h;have hc:T c= .bool true:=Mo (hps ⟨ "t",pT,[.e c]⟩ (by simp));have:=hx.2 hc;obtain⟨b,h1,h2,h3⟩:=this;exact Aq.same (ptr _ _ h2) hm rfl ⟨b,h1,h2,h3⟩
 .rename_i c x t off ks;cases h;have hc:T c= .bool true:=Mo (hps ⟨ "t",pT,[.e c]⟩ (by simp));have:=hx.2 hc;obtain⟨h0,j,b,o',us,h1,h2,h3,h5,h6⟩:=this;exact Aq.same (ptr _ _ h5) hm rfl ⟨h0,j,b,o',us,h1,h2,h3,h5,h6⟩
 .rename_i c id y t sz off;cases h;have hc:T c= .bool true:=Mo (hps ⟨ "t",pT,[.e c]⟩ (by simp));have:=hx.2 hc;obtain⟨h0,j,L,b,h1,h2,h3,h5,h6⟩:=this;exact Aq.same (ptr _ _ h5) hm rfl ⟨h0,j,L,b,h1,h2,h3,h5,h6⟩
 .cases h;obtain⟨b,h1,h2,h3⟩:=hx;exact Aq.same (ptr _ _ h2) hm rfl ⟨b,h1,h2,h3⟩
 .cases h;obtain⟨h0,b,j,h1,h2,h3,h4,h5,h6⟩:=hx;exact Aq.same (ptr _ _ h5) hm rfl ⟨h0,b,j,h1,h2,h3,h4,h5,h6⟩
 .cases h;obtain⟨h0,j,b,o',us,h1,h2,h3,h5,h6⟩:=hx;exact Aq.same (ptr _ _ h5) hm rfl ⟨h0,j,b,o',us,h1,h2,h3,h5,h6⟩
 .cases h;obtain⟨h0,j,L,b,h1,h2,h3,h5,h6⟩:=hx;exact Aq.same (ptr _ _ h5) hm rfl ⟨h0,j,L,b,h1,h2,h3,h5,h6⟩
 .cases h;have hx':=hx;obtain⟨vs,us,h1,h2,h3⟩:=hx;refine Aq.same ?_ hm rfl hx';simp[execOp,ho,hv,h1]
 .cases h
end
inductive KE:List Ek->List Value->List Value->Bool->Prop where
 |nil:KE [] [] [] true
 |int {ks us vs r} (k:IntKind) (a b:Int):KE ks us vs r->KE (.int::ks) (.int k a::us) (.int k b::vs) ((a==b)&&r)
 |bool {ks us vs r} (a b:Bool):KE ks us vs r->KE (.bool::ks) (.bool a::us) (.bool b::vs) ((a==b)&&r)
 |str {ks us vs r} (a b:ByteArray):KE ks us vs r->KE (.str::ks) (.string a::us) (.string b::vs) (decide (a=b)&&r)
theorem G1 (a b:ByteArray):(a.toList==b.toList)=decide (a=b):=by
 by_cases h:a=b
 .subst h;simp
 .rw[decide_eq_false h,beq_eq_false_iff_ne];intro hl;refine h ?_;have:a.data.toList=b.data.toList:=by simpa [ByteArray.toList_eq] using hl
  cases a;cases b;simp at this;rw[this]
theorem KE.length {ks us vs r}(h:KE ks us vs r):us.length=ks.length/\vs.length=ks.length:=by
 induction h with
 |nil=>simp
 |int _ _ _ _ ih=>simp[ih]
 |bool _ _ _ ih=>simp[ih]
 |str _ _ _ ih=>simp[ih]
theorem KE.split:∀{k1 k2 us vs r},KE (k1++k2) us vs r->∃r1 r2,KE k1 (us.take k1.length) (vs.take k1.length) r1/\KE k2 (us.drop k1.length) (vs.drop k1.length) r2/\r=(r1&&r2)
 |[],k2,us,vs,r,h=>⟨true,r,.nil,h,by simp⟩
 |k::k1,k2,us,vs,r,h=>by
  cases h with
  |int kk a b h=>
   obtain⟨r1,r2,h1,h2,rfl⟩:=KE.split h;exact⟨(a==b)&&r1,r2,.int kk a b h1,h2,by rw[Bool.and_assoc]⟩
  |bool a b h=>
   obtain⟨r1,r2,h1,h2,rfl⟩:=KE.split h;exact⟨(a==b)&&r1,r2,.bool a b h1,h2,by rw[Bool.and_assoc]⟩
  |str a b h=>
   obtain⟨r1,r2,h1,h2,rfl⟩:=KE.split h;exact⟨decide (a=b)&&r1,r2,.str a b h1,h2,by rw[Bool.and_assoc]⟩
section
variable {P:Program}{T:Tab}{ρ :Nat->Option Nat}{m:Mem}{w:World}{g:G}{r:R}
def Al (P:Program)(t:TypeId)(us:List Value):Value:=
 match P.underlying t with
 |some (.struct _)|some (.array _ _)=> .agg us.toArray
 |_=>us.headD undef
theorem HM {t:TypeId}{ks:List Ek}{d:Nat}(hf:Bg P d t=some ks)(hs:P.cellsOf t=ks.length)(us:List Value)(off:Nat)(hl:off+ks.length<=us.length):
  (part t us.toArray off).run P w= .ok (Al P t ((us.drop off).take ks.length)) w:=by
 have size:(∃i,P.info? t=some i)->(sizeOf t).run P w= .ok ks.length w:=by
  rintro⟨i,hi⟩;rw[BD hi];simp[Program.cellsOf,hi] at hs;rw[hs]
 have info:∀dsc,P.underlying t=some dsc->∃i,P.info? t=some i:=by
  intro dsc hu;cases hi:P.info? t with
  |some i=>exact⟨i,rfl⟩
  |none=>simp[Program.underlying,hi] at hu
 cases d with
 |zero=>cases hf
 |succ d=>
  simp only[Bg] at hf;split at hf
  .rename_i hu;cases hf;have:off < us.length:=by simp at hl;omega
   have e:(us.drop off).take 1=[us[off]]:=by
    rw[List.drop_eq_getElem_cons this];rfl
   simp[part,isAgg,run_underlying hu,Al,hu,this,e]
  .rename_i k hu;cases hf;have:off < us.length:=by simp at hl;omega
   have e:(us.drop off).take 1=[us[off]]:=by
    rw[List.drop_eq_getElem_cons this];rfl
   simp[part,isAgg,run_underlying hu,Al,hu,this,e]
  .rename_i hu;cases hf;have:off < us.length:=by simp at hl;omega
   have e:(us.drop off).take 1=[us[off]]:=by
    rw[List.drop_eq_getElem_cons this];rfl
   simp[part,isAgg,run_underlying hu,Al,hu,this,e]
  .rename_i fs hu;simp[part,isAgg,run_underlying hu,Al,hu,size (info _ hu),List.extract_eq_take_drop]
  .rename_i n e hu;simp[part,isAgg,run_underlying hu,Al,hu,size (info _ hu),List.extract_eq_take_drop]
  .cases hf
theorem OB {d D:Nat}(ih:∀(t:TypeId) (ks:List Ek) (us vs:List Value) (q:Bool),Bg P d t=some ks->KE ks us vs q->(Op.equalIn D t (Al P t us) (Al P t vs)).run P w= .ok q w)
  (U V:List Value):∀(fs:List Field) (off:Nat) (ks:List Ek) (q:Bool),FD P (Bg P d) fs off=some ks->KE ks (U.drop off) (V.drop off) q->off+ks.length<=U.length->off+ks.length<=V.length->
  (Op.eqFields D U.toArray V.toArray fs).run P w= .ok q w
 |[],off,ks,q,h,hk,_,_=>by
  simp only[FD] at h;cases h;cases hu:U.drop off<;>cases hv:V.drop off<;>rw[hu,hv] at hk<;>cases hk;simp[Op.eqFields]
 |f::fs,off,ks,q,h,hk,hU,hV=>by
  simp only[FD,vq] at h;split at h
  .rename_i hc;simp only[vn] at h;obtain⟨k1,h1,h⟩:=h;split at h
   .rename_i hsz;simp only[vn] at h;obtain⟨k2,h2,h⟩:=h;cases h;simp only[wC] at hU hV;obtain⟨q1,q2,e1,e2,rfl⟩:=hk.split;rw[List.drop_drop,List.drop_drop] at e2;have hrest:=OB ih U V fs (off+k1.length) k2 q2 h2 e2 (by omega) (by omega);obtain⟨rfl,hn⟩:=hc;simp only[Op.eqFields,hn,ne_eq,not_false_eq_true,if_true,Sem.run_bind,HM h1 hsz U f.offset (by omega),HM h1 hsz V f.offset (by omega),Result.andThen_ok,ih f.type k1 _ _ q1 h1 e1];cases q1 with
    |true=>simpa using hrest
    |false=>simp
   .cases h
  .cases h
theorem Pt {d D:Nat}{e:TypeId}{k1:List Ek}(h1:Bg P d e=some k1)(hsz:P.cellsOf e=k1.length)
  (ih:∀(us vs:List Value) (q:Bool),KE k1 us vs q->(Op.equalIn D e (Al P e us) (Al P e vs)).run P w= .ok q w)
  (U V:List Value):∀(n s:Nat) (q:Bool),KE (List.replicate n k1).flatten (U.drop (s*k1.length)) (V.drop (s*k1.length)) q->(s+n)*k1.length<=U.length->(s+n)*k1.length<=V.length->
  (Op.eqItems D e (P.cellsOf e) U.toArray V.toArray (List.range' s n)).run P w= .ok q w
 |0,s,q,hk,_,_=>by
  simp only[List.replicate_zero,List.flatten_nil] at hk;cases hu:U.drop (s*k1.length)<;>cases hv:V.drop (s*k1.length)<;>rw[hu,hv] at hk<;>cases hk;simp[Op.eqItems]
 |n+1,s,q,hk,hU,hV=>by
  simp only[List.replicate_succ,List.flatten_cons] at hk;obtain⟨q1,q2,e1,e2,rfl⟩:=hk.split;rw[List.drop_drop,List.drop_drop,show s*k1.length+k1.length=(s+1)*k1.length by rw[wS,Nat.one_mul]] at e2;have b1:s*k1.length+k1.length<=U.length:=by
   have:(s+1)*k1.length<=(s+(n+1))*k1.length:=wO _ (by omega);rw[wS,Nat.one_mul] at this;omega
  have b2:s*k1.length+k1.length<=V.length:=by
   have:(s+1)*k1.length<=(s+(n+1))*k1.length:=wO _ (by omega);rw[wS,Nat.one_mul] at this;omega
  have hrest:=Pt h1 hsz ih U V n (s+1) q2 e2 (by rw[show s+1+n=s+(n+1) by omega];exact hU) (by rw[show s+1+n=s+(n+1) by omega];exact hV);simp only[List.range'_succ,Op.eqItems,Sem.run_bind,hsz,HM h1 hsz U (s*k1.length) b1,HM h1 hsz V (s*k1.length) b2,Result.andThen_ok,ih _ _ q1 e1];rw[hsz] at hrest;cases q1 with
  |true=>simpa using hrest
  |false=>simp
theorem IZ:∀(d D:Nat) (t:TypeId) (ks:List Ek) (us vs:List Value) (q:Bool),d<=D->Bg P d t=some ks->KE ks us vs q->
  (Op.equalIn D t (Al P t us) (Al P t vs)).run P w= .ok q w
 |0,_,_,_,_,_,_,_,h,_=>by cases h
 |d+1,0,_,_,_,_,_,hd,_,_=>by omega
 |d+1,D+1,t,ks,us,vs,q,hd,h,hk=>by
  simp only[Bg] at h;split at h
  .rename_i hu;cases h;cases hk with
   |bool a b hk=>
    cases hk;simp[Al,hu,run_equalIn_bool w D t a b hu]
  .rename_i k hu;cases h;cases hk with
   |int k' a b hk=>
    cases hk;simp only[Al,hu,List.headD_cons];rw[run_equalIn_int w D t k' k a b hu];simp
  .rename_i hu;cases h;cases hk with
   |str a b hk=>
    cases hk;simp only[Al,hu,List.headD_cons];rw[run_equalIn_string w D t a b hu];simp[G1]
  .rename_i fs hu;split at h
   .cases h
   .rename_i hst;have hlen:=hk.length;have hfo:P.fieldsOf t=fs:=by simp[Program.fieldsOf,hu]
    simp only[Al,hu];rw[run_equalIn_struct w D t us.toArray vs.toArray (by rw[hfo];exact hu) (by simpa using hst),hfo];exact OB (d:=d) (D:=D) (fun t ks us vs q h1 h2=>IZ d D t ks us vs q (by omega) h1 h2) us vs fs.toList 0 ks q h (by simpa using hk) (by omega) (by omega)
  .rename_i n e hu;simp only[vq,vn] at h;obtain⟨k1,h1,h⟩:=h;split at h
   .rename_i hsz;cases h;have hlen:=hk.length;have hi:∃i,P.info? e=some i:=by
     cases hi:P.info? e with
     |some i=>exact⟨i,rfl⟩
     |none=>
      cases d with
      |zero=>cases h1
      |succ d=>simp[Bg,Program.underlying,hi] at h1
    obtain⟨i,hi⟩:=hi;simp only[Al,hu];rw[run_equalIn_array w D us.toArray vs.toArray hu hi,List.range_eq_range'];refine Pt h1 hsz (fun us vs q h2=>IZ d D e k1 us vs q (by omega) h1 h2) us vs n 0 q (by simpa using hk) ?_ ?_
    .rw[hlen.1];simp
    .rw[hlen.2];simp
   .cases h
  .cases h
theorem HJ {n:Nat}{c:AC}{v:Value}{k:Option ByteArray}{r:Rf}(hc:PI c=some (k,r))(h:AA T n ρ m w c v):
  ∃i,v= .string i/\r.eval T= .str i/\∀b,k=some b->i=b:=by
 cases c<;>simp only[PI] at hc
 case s x=>
  cases hc;obtain⟨h0,i,h1,h2,_⟩:=h;exact⟨i,h2,h1,fun b hb=>by cases hb⟩
 case cv c=>
  cases c<;>simp only at hc
  case str s=>
   split at hc
   .cases hc;exact⟨s,h,rfl,fun b hb=>by cases hb;rfl⟩
   .cases hc
  all_goals cases hc
 all_goals cases hc
theorem UB:∀(l l':List U),l.length % 2=0->Ec (l++l')=(Ec l&&Ec l')
 |[],l',_=>by simp[Ec]
 |[_],_,h=>by simp at h
 |a::b::l,l',h=>by
  simp only[List.cons_append,Ec];rw[UB l l' (by simp at h;omega),Bool.and_assoc]
theorem UI {n:Nat}{c d:AC}{u v:Value}{k:Option Bool}{rs:List Rf}(h:ceq c d=some (k,rs))(hc:AA T n ρ m w c u)(hd:AA T n ρ m w d v):
  ∃b,((∃kk x y,u= .int kk x/\v= .int kk y/\b=(x==y))\/(∃x y,u= .bool x/\v= .bool y/\b=(x==y))\/(∃x y,u= .string x/\v= .string y/\b=decide (x=y)))/\(∀q,k=some q->b=q)/\(k=none->Ec (rs.map (Rf.eval T))=b/\rs.length % 2=0):=by
 unfold ceq at h;split at h
 .rename_i k1 l1 h1 n1 k2 l2 h2 n2 hx hy;split at h
  .rename_i hk;subst hk;obtain⟨x,rfl,e1,a1,b1⟩:=BZ hx hc;obtain⟨y,rfl,e2,a2,b2⟩:=BZ hy hd;refine⟨x==y,.inl ⟨_,_,_,rfl,rfl,rfl⟩,?_⟩;split at h
   .rename_i he;have:=AC.beq_eq _ _ he;subst this;rw[hx] at hy;cases hy;rw[e1] at e2;cases e2;cases h;exact⟨fun q hq=>(by cases hq;simp),fun h=>(by cases h)⟩
   .split at h
    .rename_i hr;cases h;refine⟨fun q hq=>?_,fun h=>by cases h⟩;cases hq;simp;omega
    .cases h;refine⟨fun q hq=>(by cases hq),fun _=>⟨?_,by simp⟩⟩;simp[Ec,U.eqv,e1,e2];rfl
  .cases h
 .split at h
  .rename_i x rx y ry hx hy;cases h;obtain⟨x',rfl,e1,q1⟩:=DR hx hc;obtain⟨y',rfl,e2,q2⟩:=DR hy hd;have:=q1 x rfl;have:=q2 y rfl
   subst_vars
   exact⟨_,.inr (.inl ⟨_,_,rfl,rfl,rfl⟩),fun q hq=>(by cases hq;rfl),fun h=>(by cases h)⟩
  .rename_i kx rx ky ry _ hx hy;obtain⟨x',rfl,e1,_⟩:=DR hx hc;obtain⟨y',rfl,e2,_⟩:=DR hy hd;refine⟨x'==y',.inr (.inl ⟨_,_,rfl,rfl,rfl⟩),?_⟩;split at h
   .rename_i he;have:=AC.beq_eq _ _ he;subst this;rw[hx] at hy;cases hy;rw[e1] at e2;cases e2;cases h;exact⟨fun q hq=>(by cases hq;simp),fun h=>(by cases h)⟩
   .cases h;exact⟨fun q hq=>(by cases hq),fun _=>⟨by simp[Ec,U.eqv,e1,e2],by simp⟩⟩
  .split at h
   .rename_i x rx y ry hx hy;cases h;obtain⟨x',rfl,e1,q1⟩:=HJ hx hc;obtain⟨y',rfl,e2,q2⟩:=HJ hy hd;have:=q1 x rfl;have:=q2 y rfl
    subst_vars
    exact⟨_,.inr (.inr ⟨_,_,rfl,rfl,rfl⟩),fun q hq=>(by cases hq;rfl),fun h=>(by cases h)⟩
   .rename_i kx rx ky ry _ hx hy;obtain⟨x',rfl,e1,_⟩:=HJ hx hc;obtain⟨y',rfl,e2,_⟩:=HJ hy hd;refine⟨decide (x'=y'),.inr (.inr ⟨_,_,rfl,rfl,rfl⟩),?_⟩;split at h
    .rename_i he;have:=AC.beq_eq _ _ he;subst this;rw[hx] at hy;cases hy;rw[e1] at e2;cases e2;cases h;exact⟨fun q hq=>(by cases hq;simp),fun h=>(by cases h)⟩
    .cases h;exact⟨fun q hq=>(by cases hq),fun _=>⟨by simp[Ec,U.eqv,e1,e2],by simp⟩⟩
   .cases h
theorem W2 {n:Nat}:∀{ks:List Ek} {l l':List AC} {xs ys:List Value} {k:Option Bool} {rs:List Rf},U1 l l'=some (k,rs)->Nl ks l=true->
  AB T n ρ m w l xs->AB T n ρ m w l' ys->∃b,KE ks xs ys b/\(∀q,k=some q->b=q)/\(k=none->Ec (rs.map (Rf.eval T))=b/\rs.length % 2=0)
 |ks,[],[],xs,ys,k,rs,h,hk,hx,hy=>by
  simp only[U1] at h;cases h;cases ks with
  |nil=>rw[show xs=[] from hx,show ys=[] from hy];exact⟨true,.nil,fun q hq=>(by cases hq;rfl),fun h=>(by cases h)⟩
  |cons=>cases hk
 |ks,[],_::_,_,_,_,_,h,_,_,_=>by cases h
 |ks,_::_,[],_,_,_,_,h,_,_,_=>by cases h
 |ks,c::l,d::l',xs,ys,k,rs,h,hk,⟨x,xs',ex,hc,hl⟩,⟨y,ys',ey,hd,hl'⟩=>by
  subst ex;subst ey;cases ks with
  |nil=>cases hk
  |cons kk ks=>
   simp only[Nl,vo] at hk;simp only[U1,vq,vn] at h;obtain⟨⟨k1,r1⟩,h1,⟨k2,r2⟩,h2,h⟩:=h;obtain⟨b1,e1,e2,e3⟩:=UI h1 hc hd;obtain⟨b2,f1,f2,f3⟩:=W2 h2 hk.2 hl hl';have ke:KE (kk::ks) (x::xs') (y::ys') (b1&&b2):=by
    have hk1:=hk.1;rcases e1 with⟨ik,p,q,rfl,rfl,rfl⟩|⟨p,q,rfl,rfl,rfl⟩|⟨p,q,rfl,rfl,rfl⟩<;>cases kk<;>simp only[ekOk,Option.isSome_iff_exists] at hk1
    case inl.int=>exact .int ik p q f1
    case inr.inl.bool=>exact .bool p q f1
    case inr.inr.str=>exact .str p q f1
    case inl.bool=>obtain⟨⟨z,z'⟩,hz⟩:=hk1;obtain⟨_,this,_⟩:=(DR hz hc);cases this
    case inr.inr.bool=>obtain⟨⟨z,z'⟩,hz⟩:=hk1;obtain⟨_,this,_⟩:=(DR hz hc);cases this
    case inl.str=>obtain⟨⟨z,z'⟩,hz⟩:=hk1;obtain⟨_,this,_⟩:=(HJ hz hc);cases this
    case inr.inl.str=>obtain⟨⟨z,z'⟩,hz⟩:=hk1;obtain⟨_,this,_⟩:=(HJ hz hc);cases this
    case inr.inl.int=>obtain⟨⟨z1,z2,z3,z4⟩,hz⟩:=hk1;obtain⟨_,this,_⟩:=(BZ hz hc);cases this
    case inr.inr.int=>obtain⟨⟨z1,z2,z3,z4⟩,hz⟩:=hk1;obtain⟨_,this,_⟩:=(BZ hz hc);cases this
   refine⟨_,ke,?_⟩;simp only at h;split at h
   .cases h;rw[e2 false rfl];exact⟨fun q hq=>(by cases hq;rfl),fun h=>(by cases h)⟩
   .cases h;rw[f2 false rfl];exact⟨fun q hq=>(by cases hq;simp),fun h=>(by cases h)⟩
   .cases h;rw[e2 true rfl,Bool.true_and];exact⟨f2,f3⟩
   .cases h;rw[f2 true rfl];exact⟨fun q hq=>(by cases hq),fun _=>by simpa using e3 rfl⟩
   .cases h;refine⟨fun q hq=>(by cases hq),fun _=>⟨?_,?_⟩⟩
    .rw[v7,UB _ _ (by simpa using (e3 rfl).2),(e3 rfl).1,(f3 rfl).1]
    .have:=(e3 rfl).2;have:=(f3 rfl).2;simp;omega
end
section
variable {P:Program}{T:Tab}{n n':Nat}{ρ ρ':Nat->Option Nat}{m m':Mem}{w w':World}{g:G}{r:R}
theorem AJ.len {ok:Nat->Nat->Prop}:∀{ks:List Kd} {us:List U} {vs:List Value},AJ ok w ks us vs->vs.length=ks.length/\us.length=ks.length
 |[],_,_,⟨h1,h2⟩=>by subst h1;subst h2;exact⟨rfl,rfl⟩
 |k::ks,_,_,⟨u,us',v,vs',h1,h2,_,h4⟩=>by subst h1;subst h2;have:=h4.len;simp[this]
theorem AJ.ones {ok:Nat->Nat->Prop}:∀{ks:List Kd} {us:List U} {vs:List Value},AJ ok w ks us vs->∀v∈vs,v.oneCell'=true
 |[],_,_,⟨h1,h2⟩=>by subst h2;simp
 |k::ks,_,_,⟨u,us',v,vs',h1,h2,h3,h4⟩=>by
  subst h2;intro x hx;cases hx with
  |head=>exact h3.one
  |tail _ hx=>exact h4.ones x hx
theorem AX.cells {ok:Nat->Nat->Prop}:∀{ks:List Kd} {b off:Nat} {us:List U},AX ok w ks b off us->∃vs,AJ ok w ks us vs/\∀j v,vs[j]? =some v->w.cell? ⟨b,off+j,none⟩=some v
 |[],_,_,us,h=>⟨[],⟨h,rfl⟩,fun j v hj=>by simp at hj⟩
 |k::ks,b,off,us,⟨u,us',e,⟨_,v,h2,h3⟩,h4⟩=>by
  obtain⟨vs,k1,k2⟩:=AX.cells h4;refine⟨v::vs,⟨u,us',v,vs,e,rfl,h3,k1⟩,fun j x hj=>?_⟩;cases j with
  |zero=>simp at hj;subst hj;exact h2
  |succ j=>
   have:=k2 j x (by simpa using hj);rwa [show off+1+j=off+(j+1) by omega] at this
theorem AJ.holds {ok ok':Nat->Nat->Prop}(hmono:∀b off,ok b off->ok' b off/\w'.cell? ⟨b,off,none⟩=w.cell? ⟨b,off,none⟩){b:Nat}:∀{ks:List Kd} {us:List U} {vs:List Value} {off:Nat},AJ ok w ks us vs->
  (∀p,p < ks.length->ok' b (off+p)/\w'.cell? ⟨b,off+p,none⟩=vs[p]?)->AX ok' w' ks b off us
 |[],_,_,_,⟨h1,_⟩,_=>h1
 |k::ks,_,_,off,⟨u,us',v,vs',h1,h2,h3,h4⟩,hb=>by
  have h0:=hb 0 (by simp);subst h2;refine⟨u,us',h1,⟨h0.1,v,by simpa using h0.2,AM.mono hmono k u v h3⟩,AJ.holds hmono h4 (fun p hp=>?_)⟩;have:=hb (p+1) (by simp;omega);rw[show off+1+p=off+(p+1) by omega];simpa using this
theorem Ao.len {ok:Nat->Nat->Prop}{ks:List Kd}:∀{l:List (List U)} {vss:List (List Value)},Ao ok w ks l vss->vss.flatten.length=l.length*ks.length/\vss.length=l.length
 |[],_,h=>by rw[show _=[] from h];simp
 |_::_,_,⟨vs,vss',e,h1,h2⟩=>by
  subst e;have:=h2.len;have:=h1.len;simp[*,wS];omega
theorem AU.len {ok:Nat->Nat->Prop}{ks:List Kd}{l:List (List U)}{vs:List Value}(h:AU ok w ks l vs):vs.length=l.length*ks.length:=by
 obtain⟨vss,rfl,h⟩:=h;exact h.len.1
theorem AU.nil (ok:Nat->Nat->Prop)(ks:List Kd):AU ok w ks [] []:=⟨[],rfl,rfl⟩
theorem Ao.ones {ok:Nat->Nat->Prop}{ks:List Kd}:∀{l:List (List U)} {vss:List (List Value)},Ao ok w ks l vss->∀v∈vss.flatten,v.oneCell'=true
 |[],_,h=>by rw[show _=[] from h];simp
 |_::_,_,⟨vs,vss',e,h1,h2⟩=>by
  subst e;intro x hx;simp only[List.flatten_cons,wc] at hx;rcases hx with hx|hx
  .exact h1.ones x hx
  .exact h2.ones x hx
theorem AU.ones {ok:Nat->Nat->Prop}{ks:List Kd}{l:List (List U)}{vs:List Value}(h:AU ok w ks l vs):∀v∈vs,v.oneCell'=true:=by
 obtain⟨vss,rfl,h⟩:=h;exact h.ones
theorem AU.of_holds {ok:Nat->Nat->Prop}{ks:List Kd}{b:Nat}:∀{l:List (List U)} {o:Nat},(∀i us,l[i]? =some us->AX ok w ks b (o+i*ks.length) us)->
  ∃vs,AU ok w ks l vs/\∀j v,vs[j]? =some v->w.cell? ⟨b,o+j,none⟩=some v
 |[],_,_=>⟨[],AU.nil _ _,fun j v h=>by simp at h⟩
 |us::l,o,h=>by
  obtain⟨vs,k1,k2⟩:=(h 0 us rfl).cells;obtain⟨_,⟨vss,rfl,h1⟩,h2⟩:=AU.of_holds (l:=l) (o:=o+ks.length) (fun i x hi=>by
   have:=h (i+1) x (by simpa using hi);rwa [show o+ks.length+i*ks.length=o+(i+1)*ks.length by rw[wS];omega])
  refine⟨vs++vss.flatten,⟨vs::vss,rfl,vs,vss,rfl,k1,h1⟩,fun j v hv=>?_⟩;have hl:=k1.len.1;by_cases hj:j < vs.length
  .rw[wE hj] at hv;simpa using k2 j v hv
  .rw[wF (by omega)] at hv;have:=h2 _ v hv;rwa [show o+ks.length+(j - vs.length)=o+j by omega] at this
theorem Ao.app {ok:Nat->Nat->Prop}{ks:List Kd}:∀{l l':List (List U)} {vss vss':List (List Value)},Ao ok w ks l vss->Ao ok w ks l' vss'->Ao ok w ks (l++l') (vss++vss')
 |[],_,_,_,h,h'=>by rw[show _=[] from h];exact h'
 |_::_,_,_,_,⟨vs,vss1,e,h1,h2⟩,h'=>by subst e;exact⟨vs,vss1++_,rfl,h1,h2.app h'⟩
theorem Ao.kinds {ok:Nat->Nat->Prop}{ks ks':List Kd}(h:∀us vs,AJ ok w ks us vs->AJ ok w ks' us vs):∀{l:List (List U)} {vss:List (List Value)},Ao ok w ks l vss->Ao ok w ks' l vss
 |[],_,hh=>hh
 |_::_,_,⟨vs,vss1,e,h1,h2⟩=>⟨vs,vss1,e,h _ _ h1,h2.kinds h⟩
theorem AU.app {ok:Nat->Nat->Prop}{ks ks':List Kd}{l l':List (List U)}{vs vs':List Value}(h:AU ok w ks l vs)(h':AU ok w ks' l' vs')(e:ks=[]->l=[])(hl:ks'≠[])(hlen:ks≠[]->ks.length=ks'.length):
  AU ok w (Fc ks ks') (l++l') (vs++vs'):=by
 cases ks with
 |nil=>
  have:=e rfl;subst this;have hv:vs=[]:=by
   have:=h.len;simpa using this
  subst hv;exact h'
 |cons k ks=>
  cases ks' with
  |nil=>exact absurd rfl hl
  |cons k' ks'=>
   have hll:=hlen (by simp);obtain⟨vss,rfl,h⟩:=h;obtain⟨vss',rfl,h'⟩:=h';exact⟨vss++vss',by simp,(h.kinds (fun _ _ h=>h.join_l hll)).app (h'.kinds (fun _ _ h=>h.join_r hll))⟩
theorem AU.holds {ok ok':Nat->Nat->Prop}{ks:List Kd}(hmono:∀b off,ok b off->ok' b off/\w'.cell? ⟨b,off,none⟩=w.cell? ⟨b,off,none⟩){b:Nat}:
  ∀{l:List (List U)} {vs:List Value} {o:Nat},AU ok w ks l vs->(∀p,p < l.length*ks.length->ok' b (o+p)/\w'.cell? ⟨b,o+p,none⟩=vs[p]?)->
  ∀i us,l[i]? =some us->AX ok' w' ks b (o+i*ks.length) us
 |[],_,_,_,_=>fun i us h=>by simp at h
 |x::l,_,o,⟨vss,e,vs,vss',e2,h1,h2⟩,hb=>by
  subst e;subst e2;have hl:=h1.len.1;have hlen:(x::l).length*ks.length=l.length*ks.length+ks.length:=by simp[wS]
  rw[hlen] at hb;intro i us hi;cases i with
  |zero=>
   simp at hi;subst hi;rw[Nat.zero_mul,Nat.add_zero];refine AJ.holds hmono h1 (fun p hp=>?_);have:=hb p (by omega);rw[List.flatten_cons,wE (by omega)] at this;exact this
  |succ i=>
   have:=AU.holds hmono (o:=o+ks.length) ⟨vss',rfl,h2⟩ (fun p hp=>by
    have:=hb (ks.length+p) (by omega);rw[List.flatten_cons,wF (by omega),show ks.length+p - vs.length=p by omega] at this;rwa [show o+ks.length+p=o+(ks.length+p) by omega]) i us (by simpa using hi)
   rwa [show o+(i+1)*ks.length=o+ks.length+i*ks.length by rw[wS];omega]
theorem Tq {x id b off:Nat}{ks:List Kd}{e:TypeId}(hb:b < w.heap.size)(hf:T.fr b off)(hid:m.at id= .tok x ks e)(hr: ρ id=some b)(hinj:∀id',(m.at id').tracked=true-> ρ id'=some b->id'=id)(ho:off < Bu T x ks):AS T ρ m w b off:=by
 refine⟨hb,hf,fun j=>?_⟩;cases hx:m.at j with
 |pad=>trivial
 |gone=>trivial
 |cells l e'=>
  intro he;have:=hinj j (by rw[hx];rfl) he;subst this;rw[hid] at hx;cases hx
 |lp y st=>
  intro he;have:=hinj j (by rw[hx];rfl) he;subst this;rw[hid] at hx;cases hx
 |mrow y z ks' e'=>
  intro he;have:=hinj j (by rw[hx];rfl) he;subst this;rw[hid] at hx;cases hx
 |mapb y kk ka vk va=>
  intro he;have:=hinj j (by rw[hx];rfl) he;subst this;rw[hid] at hx;cases hx
 |tok y ks' e'=>
  intro he;have:=hinj j (by rw[hx];rfl) he;subst this;rw[hid] at hx;cases hx;exact ho
theorem TV (hm:AD T n ρ m w)(hnn:n < n'){e:TypeId}{ks:List Kd}{l:List (List U)}{vs:List Value}(hne:ks≠[])(hv:AU (AS T ρ m w) w ks l vs)(hk:l.length<=AF)(hT:T n= .list l)
  {w1:World} (hd:w1=w\/w1=w.drew) {all:Array Value} {cap:Nat} (hall:∀p,p < l.length*ks.length->all[p]? =vs[p]?) (hcap:l.length<=cap) (hsz:cap*ks.length<=all.size):
  ∃ ρ', ρ' m.length=some w.heap.size/\AE T n ρ m w ρ' (m++[.tok n ks e]) (w1.alloc (.cells all e))/\AD T n' ρ' (m++[.tok n ks e]) (w1.alloc (.cells all e))/\
   AA T n' ρ' (m++[.tok n ks e]) (w1.alloc (.cells all e)) (.vec m.length n ks) (.slice (some ⟨w.heap.size,0,none⟩) l.length cap):=by
 have hheap:w1.heap=w.heap:=by rcases hd with rfl|rfl<;>rfl
 have hs0:=Gz (T:=T) hm (.cells all e) (.tok n ks e);have hs:AE T n ρ m w (B5 ρ m.length w.heap.size) (m++[.tok n ks e]) (w1.alloc (.cells all e)):=by
  rcases hd with rfl|rfl
  .exact hs0
  .exact⟨hs0.os,hs0.tape,hs0.output,hs0.size,hs0.mlen,hs0.rho,hs0.untr,hs0.fresh,hs0.old,hs0.tok,hs0.row⟩
 have hat:Mem.at (m++[.tok n ks e]) m.length= .tok n ks e:=by rw[AN,if_pos rfl]
 have hnew:(w1.alloc (.cells all e)).heap[w.heap.size]? =some (.cells all e (0,0)):=by
  rw[<-hheap];exact CX _ _
 have hinj:∀id id' b,(Mem.at (m++[.tok n ks e]) id).tracked=true->(Mem.at (m++[.tok n ks e]) id').tracked=true->B5 ρ m.length w.heap.size id=some b->B5 ρ m.length w.heap.size id'=some b->id=id':=by
  intro id id' b ht ht' hr hr';rw[AN] at ht ht';by_cases he:id=m.length
  .by_cases he':id'=m.length
   .omega
   .rw[if_neg he'] at ht';subst he;rw[Af] at hr;cases hr;rw[Ad _ _ _ he'] at hr';have:=hm.lt ht' hr';omega
  .rw[if_neg he] at ht;rw[Ad _ _ _ he] at hr;by_cases he':id'=m.length
   .subst he';rw[Af] at hr';cases hr';have:=hm.lt ht hr;omega
   .rw[if_neg he'] at ht';rw[Ad _ _ _ he'] at hr';exact hm.inj id id' b ht ht' hr hr'
 have hpr:Bu T n ks=l.length*ks.length:=by simp[Bu,hT,U.toL]
 have hkm:l.length*ks.length<=all.size:=wI (wO _ hcap) hsz;refine⟨_,Af _ _ _,hs,⟨fun id=>?_,hinj,fun b off h=>hm.fr b off (wI hs.size h)⟩,hnn,by rw[hat];exact (fun h=>by cases h),?_,fun ks' e' he'=>?_⟩
 .by_cases he:id=m.length
  .subst he;rw[hat];exact⟨hnn,_,hT,.inr ⟨w.heap.size,all,Af _ _ _,hnew,hkm,fun off=>hm.fr _ off (vr _)⟩⟩
  .by_cases ht:(m.at id).tracked=true
   .refine BB.step hs hm (by omega) (by rw[AN,if_neg he]) (Ad _ _ _ he) (fun b hb=>?_);have:=hm.lt ht hb;rw[At _ _ _ (by rw[hheap];exact this),hheap]
   .rw[AN,if_neg he];cases hx:m.at id with
    |pad=>trivial
    |gone=>trivial
    |cells=>rw[hx] at ht;exact absurd rfl ht
    |lp=>rw[hx] at ht;exact absurd rfl ht
    |tok=>rw[hx] at ht;exact absurd rfl ht
    |mrow=>rw[hx] at ht;exact absurd rfl ht
    |mapb=>rw[hx] at ht;exact absurd rfl ht
 .refine⟨l,hT,hk,fun h=>absurd h hne,some ⟨w.heap.size,0,none⟩,cap,rfl,hcap,fun _=>⟨w.heap.size,0,rfl,?_⟩⟩;refine hv.holds (o:=0) (fun b off ho=>hs.safe hm ho) (fun p hp=>⟨?_,?_⟩)
  .rw[v8];refine Tq (by simp[hheap]) (hm.fr _ _ (vr _)) hat (Af _ _ _) (fun id' ht' hr'=>hinj id' m.length _ ht' (by rw[hat];rfl) hr' (Af _ _ _)) (by rw[hpr];exact hp)
  .simp only[World.cell?,hnew,v8];exact hall p hp
 .rw[hat] at he';cases he';exact .inr ⟨w.heap.size,cap,all,Af _ _ _,by simp[hT,U.toL],hnew,hsz⟩
theorem Qt (hm:AD T n ρ m w)(hnn:n < n'){e:TypeId}{ks:List Kd}{l:List (List U)}{vs:List Value}(hne:ks≠[])(hv:AU (AS T ρ m w) w ks l vs)(hk:l.length<=AF)(hT:T n= .list l)
  {w1:World} (hd:w1=w\/w1=w.drew) {all:Array Value} {cap:Nat} (hall:∀p,p < l.length*ks.length->all[p]? =vs[p]?) (hcap:l.length<=cap) (hsz:cap*ks.length<=all.size):
  ∃ ρ',AE T n ρ m w ρ' (m++[.tok n ks e]) (w1.alloc (.cells all e))/\AD T n' ρ' (m++[.tok n ks e]) (w1.alloc (.cells all e))/\
   AA T n' ρ' (m++[.tok n ks e]) (w1.alloc (.cells all e)) (.vec m.length n ks) (.slice (some ⟨w.heap.size,0,none⟩) l.length cap):=
 let⟨ρ',_,h⟩:=TV hm hnn hne hv hk hT hd hall hcap hsz
 ⟨ρ',h⟩
end
end
end Go.Eng
end
