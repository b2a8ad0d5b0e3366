/-
  A part of the proof: the evaluator of code and its soundness.
-/
import Derived.Test.YtcinpabggaepfaaE0
import Derived.RangeFuncRecord
import Derived.OrdersIn
import Derived.LoopNIn
set_option linter.unusedVariables false
set_option linter.unusedSimpArgs false
noncomputable section
namespace Go.Eng
open Go Go.RowKit
structure Loc where
 tmps:Al
 mem:Mem
inductive XK where
 |normal
 |exit (id:Nat)
 |ret
 deriving DecidableEq
abbrev YF:=Nat→List AC→PC→Mem→G→Option (AC × Mem × G)
abbrev Ys:=Nat→Option YF
abbrev By:=Ys→FuncId→List AC→PC→Mem→G→Option (AC × Mem × G)
structure BS where
 k:XK
 pc:PC
 l:Loc
structure GE where
 j:Nat
 want:Bool
 p:Nat
 imp:List Nat
def Sz (imp:List Nat):AC→AC
 | .on c a=>if imp.contains c then a else .on c a
 | .gd c a=>if imp.contains c then a else .gd c a
 |a=>a
def Nz (imp:List Nat)(tmps:Al):Operand→AC
 | .tmp t=>Sz imp ((tmps.get t).getD .any)
 | .const v=>X7 v
 | .global _=> .any
 | .func f=> .fn (.func f) [] []
def EY:PC→Rf
 |none=> .c (.bool true)
 |some c=> .e c
def DJ (pc:PC)(x:Nat)(want:Bool):Ex:=
 match pc with
 |none=>if want then ⟨ "id",oId,[.e x]⟩ else ⟨ "not",SR,[.e x]⟩
 |some c=>⟨ "and",Oc,[.e c,if want then .e x else .n x]⟩
structure RS where
 tmps:Al
 mem:Mem
 g:G
 gl:List GE
def EC (pc:PC)(base:List Nat)(s:RS)(j:Nat)(want:Bool):AC→Option (Option (PC × List Nat) × RS)
 | .cb b=>if b=want then some (some (pc,base),s) else some (none,s)
 | .b x=>some (some (some s.g.n,s.g.n::base),{ s with g:=s.g.pushAll [DJ pc x want],gl:=⟨j,want,s.g.n,s.g.n::base⟩::s.gl })
 | .nb x=>some (some (some s.g.n,s.g.n::base),{ s with g:=s.g.pushAll [DJ pc x (!want)],gl:=⟨j,want,s.g.n,s.g.n::base⟩::s.gl })
 |_=>none
def EN (ops:Array Oper)(pc:PC)(s:RS)(o:Oper):Option (Option (PC × List Nat) × RS):=
 match o.guard with
 |none=>some (some (pc,[]),s)
 |some (j,want)=>
  match s.gl.filter (fun e=>Nat.beq e.j j&&(e.want==want)) with
  |e::es=>some (some (some e.p,e.imp++(es.map (·.imp)).flatten),s)
  |[]=>do
   let oj←ops[j]?
   let d←oj.dst
   let c←s.tmps.get d
   match c with
   | .tup []=>some (none,s)
   | .gd c a=>do
    let e←s.gl.find? (fun e=>Nat.beq e.p c)
    EC (some c) e.imp s j want a
   |a=>EC pc [] s j want a
def EJ:Op→Bool
 | .move _| .assign _| .pick .. | .build .. | .load .. | .nilCheck _| .binOp .. | .unOp .. | .convert .. | .makeFunc .. | .fieldAddr .. | .field .. | .indexAddr .. | .index .. | .extract .. =>true
 | .call { callee:= .builtin .len,.. }| .call { callee:= .builtin .min,.. }| .call { callee:= .builtin .max,.. }=>true
 |_=>false
def Blk.beq:Blk→Blk→Bool
 | .pad,.pad=>true
 | .gone,.gone=>true
 | .cells l e,.cells l' e'=>AC.beqL l l'&&Nat.beq e e'
 | .tok x ks e,.tok x' ks' e'=>Nat.beq x x'&&Kd.beqs ks ks'&&Nat.beq e e'
 | .lp x a,.lp x' a'=>Nat.beq x x'&&AC.beq a a'
 |_,_=>false
def LV:Mem→Mem→Bool
 |[],_=>true
 |b::m,b'::m'=>Blk.beq b b'&&LV m m'
 |_,_=>false
def LJ (ops:Array Oper)(gl:List GE)(c:Operand)(want:Bool):List Nat:=
 match c with
 | .tmp t=>(gl.filter fun e=>(e.want==want)&&(((ops[e.j]?).bind (·.dst))==some t)).map (·.p)
 |_=>[]
def D4 (n:Nat)(b:Rf):Blk→Blk→Blk × List Ex
 | .cells l e,.cells l' e'=>
  if l.length=l'.length∧e=e' then
   let (r,us):=MD (fun n=>mix n b) n l l'
   if r.all AC.atom then (.cells r e,us) else (.gone,us)
  else (.gone,[])
 | .tok x ks e,.tok x' ks' e'=>
  if Nat.beq x x'&&Kd.beqs ks ks'&&Nat.beq e e' then (.tok x ks e,[])
  else if e=e'∧ks.length=ks'.length then (.tok n (Kd.joins ks ks') e,[⟨ "if",oIf,[b,.e x,.e x']⟩]) else (.gone,[])
 | .tok x ks e,.pad=>(.tok n ks e,[⟨ "if",oIf,[b,.e x,.c (.list [])]⟩])
 | .pad,.tok x ks e=>(.tok n ks e,[⟨ "if",oIf,[b,.c (.list []),.e x]⟩])
 | .lp x a,.lp x' a'=>
  if Nat.beq x x' then
   let (c,us):=mix n b a a'
   (.lp x c,us)
  else (.gone,[])
 | .pad,.pad=>(.pad,[])
 |_,_=>(.gone,[])
def HV (b:Rf):Nat→Mem→Mem × List Ex
 |_,[]=>([],[])
 |n,y::m'=>
  let (z,us):=D4 n b .pad y
  let (r,us'):=HV b (n+us.length) m'
  (z::r,us++us')
def CN (b:Rf):Nat→Mem→Mem→Mem × List Ex
 |n,[],m'=>HV b n m'
 |n,x::m,m'=>
  let (z,us):=D4 n b x (m'.headD .pad)
  let (r,us'):=CN b (n+us.length) m m'.tail
  (z::r,us++us')
def KM (m:Mem)(id:Nat):Option AC:=match m.at id with| .tok z ks _=>some (.vec id z ks)|_=>none
def GZ (m m1 m2:Mem)(c d:AC):Option AC:=
 match c,d with
 | .vec id x ks,.vec id' x' ks'=>
  if Nat.beq id id' then
   match m1.at id,m2.at id with
   | .tok y ky _,.tok y' ky' _=>if Nat.beq x y&&Nat.beq x' y'&&Kd.beqs ks ky&&Kd.beqs ks' ky' then KM m id else none
   |_,_=>none
  else none
 | .vec id x ks,.cv .nilSlice=>
  match m1.at id,m2.at id with
  | .tok y ky _,.pad=>if Nat.beq x y&&Kd.beqs ks ky then KM m id else none
  |_,_=>none
 | .cv .nilSlice,.vec id x ks=>
  match m1.at id,m2.at id with
  | .pad,.tok y ky _=>if Nat.beq x y&&Kd.beqs ks ky then KM m id else none
  |_,_=>none
 |_,_=>none
def H5 (m m1 m2:Mem):List AC→List AC→List AC→List AC
 |c::l,d::l',a::r=>(GZ m m1 m2 c d).getD a::H5 m m1 m2 l l' r
 |_,_,r=>r
def XT (m m1 m2:Mem):Blk→Blk→Blk→Blk
 | .cells l _,.cells l' _,.cells r e=> .cells (H5 m m1 m2 l l' r) e
 |_,_,z=>z
def Py (m m1 m2:Mem):Mem→Mem→Mem→Mem
 |z::r,b1,b2=>XT m m1 m2 (b1.headD .pad) (b2.headD .pad) z::Py m m1 m2 r b1.tail b2.tail
 |[],_,_=>[]
def CL (b:Rf)(n:Nat)(m1 m2:Mem):Mem × List Ex:=
 let (r,us):=CN b n m1 m2
 (Py r m1 m2 r m1 m2,us)
def K3 (f:Nat→AC→AC→AC × List Ex)(n:Nat):Option AC→Option AC→Option AC × List Ex
 |some a,some b=>let (c,us):=f n a b;(some c,us)
 |_,_=>(none,[])
def EG (f:Nat→AC→AC→AC × List Ex):Nat→Tr→Tr→Tr × List Ex
 |n,.node v l r,.node v' l' r'=>
  let (c,us):=K3 f n v v'
  let (l2,us1):=EG f (n+us.length) l l'
  let (r2,us2):=EG f (n+us.length+us1.length) r r'
  (.node c l2 r2,us++(us1++us2))
 |_,_,_=>(.nil,[])
def Al.flat (s:Al):Tr:=if s.loc.isEmpty then s.t else .nil
def Ok (m m1 m2:Mem)(b:Rf)(n:Nat)(c d:AC):AC × List Ex:=
 match GZ m m1 m2 c d with
 |some a=>(a,[])
 |none=>K8 n b c d
def HQ (n:Nat)(b:Rf)(l1 l2:Loc):Loc × List Ex:=
 let (m,us):=CL b n l1.mem l2.mem
 let (t,us'):=EG (Ok m l1.mem l2.mem b) (n+us.length) l1.tmps.flat l2.tmps.flat
 (⟨⟨l1.tmps.n,[],t⟩,m⟩,us++us')
def Cr (g:G)(pc:PC)(x:Nat)(want:Bool):PC × G:=
 match pc,want with
 |none,true=>(some x,g)
 |pc,want=>(some g.n,g.pushAll [DJ pc x want])
def Io (one:AC→PC→Mem→G→Option (AC × Mem × G))(x:Nat):Nat→List AC→PC→Mem→G→Option (AC × Mem × G)
 |_,[],_,_,_=>none
 |_,[c],pc,m,g=>one c pc m g
 |j,.cv .nilFunc::cs,pc,m,g=>Io one x (j+1) cs pc m (g.needAll pc [⟨ "ne",pNe,[.e x,.c (.int j)]⟩])
 |j,c::cs,pc,m,g=>do
  let t:=g.n
  let g:=g.pushAll [⟨ "eq",oEq,[.e x,.c (.int j)]⟩]
  let (pa,g):=Cr g pc t true
  let (ca,ma,g) ←one c pa m g
  let (pb,g):=Cr g pc t false
  let (cb,mb,g) ←Io one x (j+1) cs pb m g
  let (m',us):=CL (.e t) g.n ma mb
  let (c',us'):=Gc (g.n+us.length) (.e t) ca cb
  some (c',m',g.pushAll (us++us'))
def D8 (call:By)(ys:Ys)(args:List AC)(f:AC)(pc:PC)(m:Mem)(g:G):Option (AC × Mem × G):=
 match f with
 | .fn (.func k) first cap=>call ys k (first++args++cap) pc m g
 | .yl id=>
  match m.at id with
  | .lp stamp _=>do
   let y←ys stamp
   y id args pc m g
  |_=>none
 |_=>none
def LT (call:By)(ys:Ys)(f:AC)(args:List AC)(pc:PC)(m:Mem)(g:G):Option (AC × Mem × G):=
 match f with
 | .sel x alts=>Io (D8 call ys args) x 0 alts pc m g
 |f=>D8 call ys args f pc m g
def Vw (pc:PC)(imp:List Nat)(c:AC):AC:=
 match pc,imp with
 |some p,_::_=> .gd p c
 |_,_=>c
def D7 (tmps:Al)(dst:Option Tmp)(c:AC):Al:=
 match dst with
 |some d=>tmps.set d c
 |none=>tmps
def V1:AC→AC
 | .on _ (.ptr i o)=> .ptr i o
 |a=>a
def Xm:AC→List Pr
 | .on c (.ptr _ _)=>[⟨ "t",pT,[.e c]⟩]
 |_=>[]
def Im:List AC→List Pr
 |[]=>[]
 |a::l=>Xm a++Im l
def DT (P:Program)(call:By)(ys:Ys)(ops:Array Oper)(pc:PC)(s:RS)(o:Oper):Option RS:=do
 let (run,s) ←EN ops pc s o
 if s.gl.any (fun e=>((ops[e.j]?).bind (·.dst))==o.dst) then none else
 let put (c:AC):Al:=D7 s.tmps o.dst c
 match run with
 |none=>some { s with tmps:=put (.tup []) }
 |some (pc',imp)=>
  let ev:=Nz imp s.tmps
  let wrap (c:AC):AC:=Vw pc' imp c
  match o.op with
  | .call { callee:= .value f,args,.. }=>do
   let (c,m,g) ←LT call ys (ev f) ((args.toList.map ev).map V1) pc' s.mem (s.g.needAll pc' (Im (args.toList.map ev)))
   match imp with
   |[]=>some { s with tmps:=put c,mem:=m,g }
   |_=>if LV s.mem m then some { s with tmps:=put (wrap c),mem:=s.mem++List.replicate (m.length - s.mem.length) .gone,g } else
    match pc' with
    |some p=>some { s with tmps:=put (wrap c),mem:=(CL (.e p) g.n m s.mem).1,g:=g.pushAll (CL (.e p) g.n m s.mem).2 }
    |none=>none
  | .pick c a b=>do
   let r←Vy (ev c) (Sz (LJ ops s.gl c true) (ev a)) (Sz (LJ ops s.gl c false) (ev b)) s.mem s.g
   some { s with tmps:=put (wrap r.c),g:=(s.g.pushAll r.us).needAll pc' r.ps }
  |op=>do
   let r←aOp P ev op s.mem s.g
   match imp with
   |[]=>some { s with tmps:=put r.c,mem:=r.m,g:=(s.g.pushAll r.us).needAll pc' r.ps }
   |_=>if EJ op then some { s with tmps:=put (wrap r.c),g:=(s.g.pushAll r.us).needAll pc' r.ps } else none
def Dd (P:Program)(call:By)(ys:Ys)(ops:Array Oper)(pc:PC):List Oper→RS→Option RS
 |[],s=>some s
 |o::l,s=>do
  let s←DT P call ys ops pc s o
  Dd P call ys ops pc l s
def EU (acc:List Nat):List Edge→Nat
 |[]=>0
 |e::es=>if Region.binds .any e then Nat.lor (Nat.lor (2 ^ e.on) ((acc[e.on]?).getD 0)) (EU acc es) else EU acc es
def A7:List Oper→List Nat→List Nat
 |[],acc=>acc
 |o::l,acc=>A7 l (acc++[EU acc o.after.toList])
structure DS where
 tmps:Al
 mem:Mem
 g:G
 gls:List (Nat × GE)
def Cq (ops:Array Oper)(o:Oper):List Tmp:=
 (o.op.operands.toList.filterMap fun x=>match x with| .tmp t=>some t|_=>none)++
  (match o.guard with|some (j,_)=>(match ops[j]? with|some oj=>oj.dst.toList|none=>[])|none=>[])
def Dt:List (Tmp × Nat)→Tmp→Option Nat
 |[],_=>none
 |(t',i)::r,t=>bif Nat.beq t' t then some i else Dt r t
def Cs:Nat→List Oper→List (Tmp × Nat)
 |_,[]=>[]
 |i,o::l=>match o.dst with|some t=>(t,i)::Cs (i+1) l|none=>Cs (i+1) l
def Ca (D:List (Tmp × Nat))(ok:Nat→Bool)(s:Al):List Tmp→List (Nat × AC)
 |[]=>[]
 |t::r=>match s.get t with
  |some c=>if (match Dt D t with|some i=>ok i|none=>true) then (t,c)::Ca D ok s r else Ca D ok s r
  |none=>Ca D ok s r
def HB (R:Nat)(gls:List (Nat × GE)):List GE:=(gls.filter fun p=>R.testBit p.1).map (·.2)
mutual
def AC.free:AC→Bool
 | .ptr .. | .pix .. | .vec .. | .yl _=>false
 | .on _ a| .gd _ a=>AC.free a
 | .fn _ f c=>AC.freeL f&&AC.freeL c
 | .agg l| .tup l| .sel _ l=>AC.freeL l
 |_=>true
def AC.freeL:List AC→Bool
 |[]=>true
 |a::l=>AC.free a&&AC.freeL l
end
def DS.masked (S:DS)(D:List (Tmp × Nat))(ok:Nat→Bool)(R:Nat)(C4:List Tmp):RS:=⟨⟨S.tmps.n,Ca D ok S.tmps C4,.nil⟩,S.mem,S.g,HB R S.gls⟩
def HX (s:RS)(n:Nat):List GE:=s.gl.take (s.gl.length - n)
def JP (tmps:Al):Option Tmp→AC
 |some d=>(tmps.get d).getD .any
 |none=> .any
def J9 (P:Program)(call:By)(ys:Ys)(ops:Array Oper)(D:List (Tmp × Nat))(pc:PC)(R j:Nat)(o:Oper)(S:DS):Option DS:=do
 let s'←DT P call ys ops pc (S.masked D R.testBit R (Cq ops o)) o
 let c:=JP s'.tmps o.dst
 if (HX s' (HB R S.gls).length).all (fun e=>R.testBit e.j)&&(EJ o.op||(LV S.mem s'.mem&&(Nat.beq s'.mem.length S.mem.length||AC.free c))) then
  some ⟨D7 S.tmps o.dst c,S.mem,s'.g,(HX s' (HB R S.gls).length).map (fun e=>(j,e))++S.gls⟩
 else none
def heads (P:Program)(call:By)(ys:Ys)(ops:Array Oper)(D:List (Tmp × Nat))(pc:PC):List Nat→List Oper→Nat→DS→Option DS
 |R::Rs,o::l,j,S=>do
  let S'←J9 P call ys ops D pc R j o S
  heads P call ys ops D pc Rs l (j+1) S'
 |_,[],_,S=>some S
 |[],_,_,_=>none
def ER:List Nat→Nat→Nat→Nat
 |[],_,h=>h
 |r::rs,j,h=>ER rs (j+1) (if Nat.beq (r+1) (2 ^ j) then h else j+1)
def Gz:List Nat→Nat→Bool
 |[],_=>true
 |r::rs,j=>Nat.blt r (2 ^ j)&&Gz rs (j+1)
def HT:List Tmp→Bool
 |[]=>true
 |t::l=> !l.contains t&&HT l
def V9 (P:Program)(call:By)(ys:Ys)(ops:Array Oper)(pc:PC)(l:Loc)(g:G):Option RS:=
 let Rs:=A7 ops.toList []
 let h:=ER Rs 0 0
 if Gz Rs 0&&HT (ops.toList.filterMap (·.dst)) then do
  let S←heads P call ys ops (Cs 0 ops.toList) pc Rs (ops.toList.take h) 0 ⟨l.tmps,l.mem,g,[]⟩
  Dd P call ys ops pc (ops.toList.drop h) ⟨S.tmps,S.mem,S.g,S.gls.map (·.2)⟩
 else none
mutual
def AC.nlt (n:Nat):AC→Bool
 | .on c a| .gd c a=>Nat.blt c n&&AC.nlt n a
 | .b x| .nb x| .i _ _ _ x| .v x| .s x| .ro x _| .vec _ x _=>Nat.blt x n
 | .pix _ _ _ _ x _=>Nat.blt x n
 | .rp x t _ _=>Nat.blt x n&&Nat.blt t n
 | .fn _ f c=>AC.nltL n f&&AC.nltL n c
 | .sel x l=>Nat.blt x n&&AC.nltL n l
 | .agg l| .tup l=>AC.nltL n l
 |_=>true
def AC.nltL (n:Nat):List AC→Bool
 |[]=>true
 |a::l=>AC.nlt n a&&AC.nltL n l
end
def AV (D:List (Tmp × Nat))(o:Oper):Nat:=
 match o.op with
 | .move x| .assign x=>if o.guard.isNone&&(match x with| .tmp t=>(Dt D t).isNone|_=>true) then 0 else 1
 | .extract x _=>if o.guard.isNone&&(match x with| .tmp t=>(Dt D t).isNone|_=>true) then 0 else 2
 | .nilCheck _| .fieldAddr .. | .indexAddr .. =>1
 | .alloc _=>if o.guard.isNone then 4 else 3
 |op=>if EJ op then 2 else 3
def Av:Nat→List Oper→List (Tmp × Nat)
 |_,[]=>[]
 |i,o::l=>match o.op,o.dst with
  | .alloc _,some t=>(t,i)::Av (i+1) l
  |_,_=>Av (i+1) l
def RO (cls:List Nat)(R i k:Nat):Nat→List Nat→Bool
 |_,[]=>true
 |j,c::r=>(Nat.ble i j||(if Nat.beq k 3 then R.testBit j||Nat.beq c 0 else if Nat.beq k 2 then R.testBit j||Nat.ble c 2 else true))&&RO cls R i k (j+1) r
def V5 (cls:List Nat):Nat→List Nat→List Nat→Bool
 |i,R::Rs,k::ks=>RO cls R i k 0 cls&&V5 cls (i+1) Rs ks
 |_,_,_=>true
def R6 (R:Nat):Nat→Nat→List Nat→Bool
 |0,_,_=>true
 |n+1,m,c::r=>(R.testBit m||Nat.beq c 0)&&R6 R n (m+1) r
 |_+1,_,[]=>true
def J1:Nat→List Nat→List Nat
 |_,[]=>[]
 |j,c::r=>bif Nat.beq c 4 then j::J1 (j+1) r else J1 (j+1) r
def V3 (cls als:List Nat):Nat→List Nat→List Nat→Bool
 |i,R::Rs,k::ks=>(Nat.beq k 0||Nat.beq k 4||als.all fun j=>Nat.ble i j|| !R.testBit j||R6 R j 0 cls)&&V3 cls als (i+1) Rs ks
 |_,_,_=>true
def Dq:Mem→Mem→Bool
 |[],_=>true
 | .tok x ks e::m,b::m'=>Blk.beq (.tok x ks e) b&&Dq m m'
 | .tok _ _ _::_,[]=>false
 |_::m,m'=>Dq m m'.tail
mutual
def AC.noVec:AC→Bool
 | .on _ a| .gd _ a=>AC.noVec a
 | .vec _ _ _=>false
 | .fn _ f c=>AC.noVecL f&&AC.noVecL c
 | .sel _ l=>AC.noVecL l
 | .agg l| .tup l=>AC.noVecL l
 |_=>true
def AC.noVecL:List AC→Bool
 |[]=>true
 |a::l=>AC.noVec a&&AC.noVecL l
end
def okG (RA:List Nat)(R j i:Nat):Bool:=R.testBit i||(RA.getD i 0).testBit j
def QW (md:Bool)(P:Program)(call:By)(ys:Ys)(ops:Array Oper)(D DA:List (Tmp × Nat))(RA:List Nat)(pc:PC)(R j:Nat)(o:Oper)(S:DS):Option DS:=do
 let s'←DT P call ys ops pc (S.masked D (okG RA R j) R (Cq ops o)) o
 let c:=JP s'.tmps o.dst
 let k:=AV DA o
 if (HX s' (HB R S.gls).length).all (fun e=>R.testBit e.j)&&((if Nat.ble 3 k then (md||Dq S.mem s'.mem) else if Nat.beq k 0 then AC.nlt s'.g.n c else true)&&(!md||Nat.ble 2 k||AC.noVec (JP (D7 S.tmps o.dst c) o.dst))&&(!Nat.beq k 4||(match o.dst with|some d=>Nat.blt d S.tmps.n|none=>false))) then
  some ⟨D7 S.tmps o.dst c,if Nat.ble 3 k then s'.mem else S.mem,s'.g,(HX s' (HB R S.gls).length).map (fun e=>(j,e))++S.gls⟩
 else none
def OE (md:Bool)(P:Program)(call:By)(ys:Ys)(ops:Array Oper)(D DA:List (Tmp × Nat))(RA:List Nat)(pc:PC):List Nat→List Oper→Nat→DS→Option DS
 |R::Rs,o::l,j,S=>do
  let S'←QW md P call ys ops D DA RA pc R j o S
  OE md P call ys ops D DA RA pc Rs l (j+1) S'
 |_,[],_,S=>some S
 |[],_,_,_=>none
def NS (md:Bool)(P:Program)(call:By)(ys:Ys)(ops:Array Oper)(pc:PC)(l:Loc)(g:G):Option RS:=
 let Rs:=A7 ops.toList []
 let D:=Cs 0 ops.toList
 let DA:=Av 0 ops.toList
 let cls:=ops.toList.map (AV DA)
 if (Gz Rs 0&&HT (ops.toList.filterMap (·.dst))&&V5 cls 0 Rs cls)&&V3 cls (J1 0 cls) 0 Rs cls then do
  let S←OE md P call ys ops D DA Rs pc Rs ops.toList 0 ⟨l.tmps,l.mem,g,[]⟩
  some ⟨S.tmps,S.mem,S.g,S.gls.map (·.2)⟩
 else none
def bm (P:Program)(call:By)(ys:Ys)(ops:Array Oper)(draw:Bool)(pc:PC)(l:Loc)(g:G):Option RS:=
 if draw then (match V9 P call ys ops pc l g with|some s=>some s|none=>match NS false P call ys ops pc l g with|some s=>some s|none=>NS true P call ys ops pc l g) else Dd P call ys ops pc ops.toList ⟨l.tmps,l.mem,g,[]⟩
def V6 (g:G)(sel:Rf)(pc:Option PC)(a b:BS):BS × G:=
 let (l,us):=HQ g.n sel a.l b.l
 let g:=g.pushAll us
 match pc with
 |some p=>(⟨a.k,p,l⟩,g)
 |none=>
  let g':=g.pushAll [⟨ "or",oOr,[EY a.pc,EY b.pc]⟩]
  (⟨a.k,some g.n,l⟩,g')
def In (k:XK):List BS→Option (BS × List BS)
 |[]=>none
 |o::os=>if o.k=k then some (o,os) else (In k os).map fun (p,r)=>(p,o::r)
def noK (k:XK)(outs:List BS):Bool:=outs.all fun o=> !decide (o.k=k)
def EH (sel:Option Rf)(norm:Option PC):List BS→List BS→G→List BS × G
 |[],bs,g=>(bs,g)
 |a::as,bs,g=>
  match In a.k bs with
  |none=>
   let (r,g):=EH sel norm as bs g
   (a::r,g)
  |some (b,bs)=>
   let (c,g):=V6 g (sel.getD (EY a.pc)) (if a.k= .normal then norm else none) a b
   let (r,g):=EH sel norm as bs g
   (c::r,g)
def QT:PC→PC→Bool
 |none,none=>true
 |some a,some b=>Nat.beq a b
 |_,_=>false
def RP (rec:Code→PC→Loc→G→Option (List BS × G))(x:Nat)(a b:Code)(pc:PC)(l:Loc)(g:G):Option (List BS × G):=if Nat.blt x g.n=false then none else do
 let (pa,g):=Cr g pc x true
 let (oa,g) ←rec a pa l g
 let (pb,g):=Cr g pc x false
 let (ob,g) ←rec b pb l g
 let whole:=(oa.any fun o=>decide (o.k= .normal)&&QT o.pc pa)&&(ob.any fun o=>decide (o.k= .normal)&&QT o.pc pb)&&oa.length=1&&ob.length=1
 some (EH (some (.e x)) (if whole then some pc else none) oa ob g)
def Vz (outs:List BS)(g:G)(next:PC→Loc→G→Option (List BS × G)):Option (List BS × G):=
 match In .normal outs with
 |none=>some (outs,g)
 |some (o,rest)=>do
  if noK .normal rest then
   let (outs',g) ←next o.pc o.l g
   some (EH none none rest outs' g)
  else none
inductive Sl where
 |tmp (t:Nat)
 |cell (id off:Nat)
 |tok (id:Nat)
 |st (id:Nat)
 deriving DecidableEq
structure Dm where
 pre:List (Sl × TypeId × List Kd):=[]
 slots:List (Sl × Kd):=[]
 vecs:List (Sl × Nat × Nat):=[]
 kills:List Nat:=[]
def RY (l:Loc):Sl→Option AC
 | .tmp t=>l.tmps.get t
 | .cell id off=>match l.mem.at id with
  | .cells c _=>c[off]?
  |_=>none
 | .tok id=>match l.mem.at id with
  | .tok x ks _=>some (.ro x ks)
  |_=>none
 | .st id=>match l.mem.at id with
  | .lp _ a=>some a
  |_=>none
def Od:Kd→Nat→AC
 | .int k lo hi,x=> .i k lo hi x
 |k,x=>Ku k x
def lY (l:Loc)(k:Kd)(x:Nat):Sl→Option Loc
 | .tmp t=>some { l with tmps:=l.tmps.fix t (some (Od k x)) }
 | .cell id off=>match l.mem.at id with
  | .cells c e=>if off < c.length then some { l with mem:=l.mem.set id (.cells (c.set off (Od k x)) e) } else none
  |_=>none
 | .tok id=>match l.mem.at id,k with
  | .tok _ ks e,.list ks'=>if ks.length=ks'.length then some { l with mem:=l.mem.set id (.tok x ks' e) } else none
  |_,_=>none
 | .st id=>match l.mem.at id with
  | .lp s _=>some { l with mem:=l.mem.set id (.lp s (Od k x)) }
  |_=>none
def eO (l:Loc):Nat→List (Sl × Kd)→Option Loc
 |_,[]=>some l
 |x,(s,k)::r=>do
  let l←lY l k x s
  eO l (x+1) r
def IU (l:Loc)(id x:Nat)(ks:List Kd):Sl→Option Loc
 | .tmp t=>some { l with tmps:=l.tmps.fix t (some (.vec id x ks)) }
 | .cell i off=>match l.mem.at i with
  | .cells c e=>if off < c.length then some { l with mem:=l.mem.set i (.cells (c.set off (.vec id x ks)) e) } else none
  |_=>none
 |_=>none
def bL (l:Loc)(nh:Nat)(slots:List (Sl × Kd)):List (Sl × Nat × Nat)→Option Loc
 |[]=>some l
 |(s,id,j)::r=>do
  let (sj,kj) ←slots[j]?
  match sj,kj with
  | .tok id',.list ks=>if id=id' then (IU l id (nh+j) ks s).bind fun l=>bL l nh slots r else none
  |_,_=>none
def fit (k:Kd)(c:AC):Option (Rf × List Pr):=
 match k,FW c with
 | .int k lo hi,some (.int k' lo' hi',r)=>if k=k' then some (r,if lo≤lo'∧hi'≤hi then [] else [⟨ "between " ++toString lo++ " " ++toString hi,J6 lo hi,[r]⟩]) else none
 |k,some (k',r)=>if Kd.beq (Kd.join k' k) k&& !k.isAny then some (r,[]) else none
 |_,_=>none
def fits (l:Loc):List (Sl × Kd)→Option (List Rf × List Pr)
 |[]=>some ([],[])
 |(s,k)::r=>do
  let c←RY l s
  let (x,ps) ←fit k c
  let (xs,ps') ←fits l r
  some (x::xs,ps++ps')
def Gt (l:Loc)(g:G):List (Sl × TypeId × List Kd)→Option (Loc × G)
 |[]=>some (l,g)
 |(s,e,ks)::r=>
  match RY l s with
  |some (.cv .nilSlice)=>
   if ks.isEmpty then none else (IU { l with mem:=l.mem++[.tok g.n ks e] } l.mem.length g.n ks s).bind fun l'=>Gt l' (g.pushAll [⟨ "id",oId,[.c (.list [])]⟩]) r
  |_=>none
def jF (tmps:Al):List Nat→Al
 |[]=>tmps
 |t::r=>jF (tmps.fix t none) r
def bD (p:Dm)(nh:Nat)(l:Loc):Option Loc:=do
 let l←eO l nh p.slots
 let l←bL l nh p.slots p.vecs
 some { l with tmps:=jF l.tmps p.kills }
mutual
def AC.lt (nh nm:Nat):AC→Bool
 | .any| .anyc| .cb _| .ci _ _| .cv _=>true
 | .on c a=>Nat.blt c nh&&AC.lt nh nm a
 | .gd c a=>Nat.blt c nh&&AC.lt nh nm a
 | .b x=>Nat.blt x nh
 | .nb x=>Nat.blt x nh
 | .i _ _ _ x=>Nat.blt x nh
 | .v x=>Nat.blt x nh
 | .s x=>Nat.blt x nh
 | .ro x _=>Nat.blt x nh
 | .ptr id _=>Nat.blt id nm
 | .pix id _ _ _ x _=>Nat.blt id nm&&Nat.blt x nh
 | .rp x t _ _=>Nat.blt x nh&&Nat.blt t nh
 | .vec id x _=>Nat.blt id nm&&Nat.blt x nh
 | .fn _ f c=>AC.ltL nh nm f&&AC.ltL nh nm c
 | .sel x l=>Nat.blt x nh&&AC.ltL nh nm l
 | .yl id=>Nat.blt id nm
 | .agg l=>AC.ltL nh nm l
 | .tup l=>AC.ltL nh nm l
def AC.ltL (nh nm:Nat):List AC→Bool
 |[]=>true
 |a::l=>AC.lt nh nm a&&AC.ltL nh nm l
end
def Xg (nh nm:Nat):Tr→Bool
 | .nil=>true
 | .node v l r=>(match v with|some c=>AC.lt nh nm c|none=>true)&&Xg nh nm l&&Xg nh nm r
def U.same:U→U→Bool
 | .int a,.int b=>decide (a=b)
 | .bool a,.bool b=>a==b
 | .str a,.str b=>decide (a=b)
 | .list [],.list []=>true
 | .val .nilFunc,.val .nilFunc=>true
 | .val .nilIface,.val .nilIface=>true
 | .val (.pointer none),.val (.pointer none)=>true
 | .val (.map none),.val (.map none)=>true
 |_,_=>false
def Rf.same:Rf→Rf→Bool
 | .c u,.c v=>U.same u v
 | .e x,.e y=>Nat.beq x y
 | .n x,.n y=>Nat.beq x y
 |_,_=>false
def LE (nh:Nat)(rs:List Rf)(x:Nat)(r:Rf):Bool:=
 Nat.ble nh x&&(match rs[x - nh]? with
  |some r'=>Rf.same r' r
  |none=>false)
def Il (nh:Nat)(rs:List Rf)(x:Nat):Option (Rf × List Pr)→Option (List Pr)
 |some (r,ps)=>if LE nh rs x r then some ps else none
 |none=>none
def eU (m:Mem)(id x:Nat)(mh:Mem)(xh:Nat):Bool:=
 match mh.at id,m.at id with
 | .tok y ky e,.tok y' ky' e'=>Nat.beq y xh&&Nat.beq y' x&&Nat.beq e e'&&Nat.beq ky.length ky'.length
 |_,_=>false
def fo (nh nm:Nat)(rs:List Rf)(mh m:Mem)(h c:AC):Option (List Pr):=
 match h with
 | .any=>some []
 | .i k lo hi x=>Il nh rs x (fit (.int k lo hi) c)
 | .b x=>Il nh rs x (fit .bool c)
 | .v x=>Il nh rs x (fit .val c)
 | .s x=>Il nh rs x (fit .str c)
 | .ro x ks=>Il nh rs x (fit (.list ks) c)
 | .vec id x ks=>
  match c with
  | .vec id' x' ks'=>if Nat.beq id id'&&Nat.blt id nm&&LE nh rs x (.e x')&&Kd.beq (Kd.join (.list ks') (.list ks)) (.list ks)&&eU m id x' mh x then some [] else none
  |_=>none
 |_=>none
def KK (nh nm:Nat)(rs:List Rf)(mh m:Mem)(h c:AC):Option (List Pr):=
 if AC.lt nh nm h&&AC.beq h c then some [] else fo nh nm rs mh m h c
def L6:Option (List Pr)→Option (List Pr)→Option (List Pr)
 |some a,some b=>some (a++b)
 |_,_=>none
def J0 (nh nm:Nat)(rs:List Rf)(mh m:Mem):List AC→List AC→Option (List Pr)
 |[],[]=>some []
 |h::l,c::l'=>L6 (KK nh nm rs mh m h c) (J0 nh nm rs mh m l l')
 |_,_=>none
def Gk:List (Nat × CP)→Nat→Option CP
 |[],_=>none
 |(s,S)::r,x=>if Nat.beq s x then some S else Gk r x
def lpLt (lps:List (Nat × CP))(nh nm s:Nat):Bool:=
 match Gk lps s with
 |some S=>S.tmps.loc.isEmpty&&Xg nh nm S.tmps.t
 |none=>false
def GG (lps:List (Nat × CP))(nh nm:Nat)(rs:List Rf)(mh m:Mem):Blk→Blk→Option (List Pr)
 | .pad,.pad=>some []
 | .gone,b=>(match b with| .pad=>none|_=>some [])
 | .cells l e,.cells l' e'=>if Nat.beq e e' then J0 nh nm rs mh m l l' else none
 | .tok x ks e,.tok x' ks' e'=>if Nat.beq e e'&&Nat.beq ks.length ks'.length&&((Nat.blt x nh&&Nat.beq x x'&&Kd.beqs ks ks')||LE nh rs x (.e x')) then some [] else none
 | .lp s st,.lp s' st'=>if Nat.beq s s'&&lpLt lps nh nm s then KK nh nm rs mh m st st' else none
 |_,_=>none
def J8 (lps:List (Nat × CP))(nh nm:Nat)(rs:List Rf)(mh m:Mem):Mem→Mem→Option (List Pr)
 |[],_=>some []
 |b::l,b'::l'=>L6 (GG lps nh nm rs mh m b b') (J8 lps nh nm rs mh m l l')
 |_,_=>none
def fY (nh nm:Nat)(rs:List Rf)(mh m:Mem):Option AC→Option AC→Option (List Pr)
 |none,_=>some []
 |some .any,_=>some []
 |some h,some c=>KK nh nm rs mh m h c
 |_,_=>none
def Jw (nh nm:Nat)(rs:List Rf)(mh m:Mem):Tr→Tr→Option (List Pr)
 | .nil,_=>some []
 | .node v l r,t=>L6 (fY nh nm rs mh m v t.val) (L6 (Jw nh nm rs mh m l t.lt) (Jw nh nm rs mh m r t.rt))
def Fv (lps:List (Nat × CP))(nh:Nat)(rs:List Rf)(hl l:Loc):Option (List Pr):=
 if hl.tmps.loc.isEmpty&&l.tmps.loc.isEmpty&&Nat.beq hl.tmps.n l.tmps.n then
  L6 (J8 lps nh hl.mem.length rs hl.mem l.mem hl.mem l.mem) (Jw nh hl.mem.length rs hl.mem l.mem hl.tmps.t l.tmps.t)
 else none
def Tab.upd (T:Tab)(x:Nat)(u:U):Tab:={ T with get:=fun y=>bif Nat.beq y x then u else T.get y }
def CC (T:Tab):List (Nat × Ex)→Tab
 |[]=>T
 |(x,e)::r=>let T':=CC T r;T'.upd x (e.eval T')
def Tab.upds (T:Tab):Nat→List U→Tab
 |_,[]=>T
 |x,u::us=>(T.upd x u).upds (x+1) us
def KV:List Nat→List U→Tab
 |x::xs,u::us=>(KV xs us).upd x u
 |_,_=>⟨fun _=>default,fun _ _=>True,fun _=>⟨default, #[],.skip,.skip,[]⟩,0⟩
def pcB (T:Tab):PC→Bool
 |none=>true
 |some c=>(T c).toB
structure BW where
 nh:Nat
 k:Nat
 eqs:List (Nat × Ex)
 pcn:PC
 nxt:List Rf
 obs:List Ob
 fv:List Nat
def BW.tab (D:BW)(us hs:List U):Tab:=CC ((KV D.fv us).upds D.nh hs) D.eqs
def BW.step (D:BW)(us hs:List U):Option (List U):=
 let T:=D.tab us hs
 bif pcB T D.pcn then some (D.nxt.map (Rf.eval T)) else none
def BW.ob (D:BW)(us hs:List U):Prop:=∀o∈D.obs,o.holds (D.tab us hs)
def GK {α:Type}(f:α→Option α):Nat→α→Option α
 |0,s=>some s
 |n+1,s=>(f s).bind (GK f n)
inductive Dv {α:Type} (f:α→Option α) (s:α):α→Prop where
 |zero:Dv f s s
 |succ {t u:α}:Dv f s t→f t=some u→Dv f s u
def Ends {α:Type}(f:α→Option α)(s:α):Prop:=∃n t,GK f n s=some t∧f t=none
open Classical in
def cX {α:Type}(f:α→Option α)(s:α):α:=if h:∃t,Dv f s t∧f t=none then Classical.choose h else s
def BW.res (D:BW)(j:Nat)(us:List U):U:=(cX (D.step (us.take D.fv.length)) (us.drop D.fv.length)).getD j default
def BW.owes (D:BW)(us:List U):Prop:=
 Ends (D.step (us.take D.fv.length)) (us.drop D.fv.length)∧∀hs,Dv (D.step (us.take D.fv.length)) (us.drop D.fv.length) hs→D.ob (us.take D.fv.length) hs
def Fc:List Rf→List Nat
 |[]=>[]
 | .c _::r=>Fc r
 | .e x::r=>x::Fc r
 | .n x::r=>x::Fc r
def ei (acc:List Nat):List Nat→List Nat
 |[]=>acc
 |x::r=>ei (if acc.contains x then acc else acc++[x]) r
def pcL:PC→List Nat|none=>[]|some c=>[c]
def QP (nh:Nat)(eqs:List (Nat × Ex))(pcn:PC)(nxt:List Rf)(obs:List Ob):List Nat:=
 ei [] ((((eqs.map fun p=>Fc p.2.args).flatten++pcL pcn++Fc nxt++(obs.map fun o=>pcL o.pc++Fc o.p.args).flatten)).filter fun x=>Nat.blt x nh)
def G9 (fv:List Nat)(nh top:Nat)(l:List Nat):Bool:=l.all fun x=>fv.contains x||(Nat.ble nh x&&Nat.blt x top)
def Dr (fv:List Nat)(nh lo:Nat):Nat→List (Nat × Ex)→Bool
 |top,[]=>Nat.beq top lo
 |top,(x,e)::r=>Nat.beq (x+1) top&&G9 fv nh x (Fc e.args)&&Dr fv nh lo x r
def BW.inScope (D:BW)(top:Nat):Bool:=
 Dr D.fv D.nh (D.nh+D.k) top D.eqs&&G9 D.fv D.nh top (pcL D.pcn)&&G9 D.fv D.nh top (Fc D.nxt)&&D.obs.all (fun o=>G9 D.fv D.nh top (pcL o.pc++Fc o.p.args))&&D.fv.all (fun x=>Nat.blt x D.nh)
def BW.tg (D:BW)(j:Nat):Tg:= .loop j D.nh D.k (D.eqs.map fun p=>(p.1,p.2.tag,p.2.args)) D.pcn D.nxt D.fv (D.obs.map fun o=>(o.pc,o.p.tag,o.p.args))
def BW.heads (D:BW)(inits:List Rf):List Ex:=(List.range D.k).map fun j=>⟨D.tg j,D.res j,D.fv.map .e++inits⟩
def Dm.full (p:Dm)(m0:Nat):Dm:=
 {p with
  slots:=p.slots++p.pre.zipIdx.map fun (x:(Sl × TypeId × List Kd) × Nat)=>(Sl.tok (m0+x.2),Kd.list x.1.2.2)
  vecs:=p.vecs++p.pre.zipIdx.map fun (x:(Sl × TypeId × List Kd) × Nat)=>(x.1.1,m0+x.2,p.slots.length+x.2) }
def Xz (rec:PC→Loc→G→Option (List BS × G))(p:Dm)(pc:PC)(l:Loc)(g:G):Option (List BS × G):=do
 let hl←bD p g.n l
 let (inits,_) ←fits l p.slots
 let ps0←Fv g.lps g.n inits hl l
 let (outs,g2) ←rec pc hl { n:=g.n+inits.length,eqs:=[],obs:=[],lps:=g.lps }
 match In .normal outs with
 |none=>none
 |some (o,rest)=>do
  let (nxt,_) ←fits o.l p.slots
  let ps1←Fv g.lps g.n nxt hl o.l
  let obs:=ps1.map (Ob.mk o.pc)++g2.obs
  let D:BW:={ nh:=g.n,k:=inits.length,eqs:=g2.eqs,pcn:=o.pc,nxt,obs,fv:=QP g.n g2.eqs o.pc nxt obs }
  if D.inScope g2.n&&Nat.beq nxt.length inits.length&&Nat.beq hl.mem.length l.mem.length&&noK .normal rest then
   some (rest,{ n:=g2.n,eqs:=g2.eqs++IN g.n (D.heads inits) g.eqs,obs:=⟨pc,⟨D.tg 0,D.owes,D.fv.map .e++inits⟩⟩::(ps0.map (Ob.mk pc)++g.obs),lps:=g2.lps })
  else none
def dm (rec:PC→Loc→G→Option (List BS × G))(p:Dm)(pc:PC)(l:Loc)(g:G):Option (List BS × G):=do
 if l.tmps.loc.isEmpty=false then none else
 let (l',g') ←Gt l g p.pre
 Xz rec (p.full l.mem.length) pc l' g'
def lF (a b:AC):Option Kd:=
 match FW a,FW b with
 |some (k,_),some (k',_)=>match Kd.join k k' with
  | .int k _ _=>some (.int k k.min k.max)
  | .any=>none
  |k=>some k
 |_,_=>none
def WR (f:Nat→Nat):Tr→Tr→List (Nat × AC × Option AC)
 | .nil,_=>[]
 | .node v l r,t=>
  (match v with
   |none|some .any=>[]
   |some a=>match t.val with
    |some b=>if AC.beq a b then [] else [(f 0,a,some b)]
    |none=>[(f 0,a,none)])++(WR (fun j=>f (2*j+1)) l t.lt++WR (fun j=>f (2*j+2)) r t.rt)
def Tw (id:Nat):Nat→List AC→List AC→List (Sl × AC × AC)
 |o,a::l,b::l'=>(if AC.beq a b then [] else [(Sl.cell id o,a,b)])++Tw id (o+1) l l'
 |_,_,_=>[]
def bn:Nat→Mem→Mem→List (Sl × AC × AC)
 |id,b::m,b'::m'=>(match b,b' with
   | .cells l _,.cells l' _=>Tw id 0 l l'
   | .tok x ks _,.tok x' ks' _=>if Nat.beq x x' then [] else [(Sl.tok id,.ro x ks,.ro x' ks')]
   | .lp _ a,.lp _ a'=>if AC.beq a a' then [] else [(Sl.st id,a,a')]
   |_,_=>[])++bn (id+1) m m'
 |_,_,_=>[]
def gZ (nm:Nat):AC→AC→Option Nat
 | .vec id _ _,.vec id' _ _=>if Nat.beq id id'&&Nat.blt id nm then some id else none
 |_,_=>none
def kW (m:Mem)(id:Nat):Option TypeId:=match m.at id with| .tok _ _ e=>some e|_=>none
def lQ (nm:Nat)(m':Mem)(p:Dm)(s:Sl)(a b:AC):Dm:=
 if p.slots.any (fun x=>decide (x.1=s))||p.pre.any (fun x=>decide (x.1=s)) then p else
 match gZ nm a b with
 |some _=>p
 |none=>match a,b with
  | .cv .nilSlice,.vec id _ ks=>if Nat.blt id nm then p else match kW m' id with
   |some e=>{ p with pre:=p.pre++[(s,e,ks)] }
   |none=>p
  |a,b=>match lF a b,s with
   |some k,_=>{ p with slots:=p.slots++[(s,k)] }
   |none,.tmp t=>{ p with kills:=p.kills++[t] }
   |none,_=>p
def fV (nm:Nat)(m':Mem):List (Sl × AC × AC)→Dm→Dm
 |[],p=>p
 |(s,a,b)::r,p=>fV nm m' r (lQ nm m' p s a b)
def kc (p:Dm)(id:Nat):Nat:=p.slots.findIdx fun x=>decide (x.1=Sl.tok id)
def bi (nm:Nat):List (Sl × AC × AC)→Dm→Dm
 |[],p=>p
 |(s,a,b)::r,p=>bi nm r (match gZ nm a b with
  |some id=>if p.vecs.any (fun x=>decide (x.1=s)) then p else { p with vecs:=p.vecs++[(s,id,kc p id)] }
  |none=>p)
def jA (d:List (Nat × AC × Option AC)):List (Sl × AC × AC):=d.filterMap fun x=>x.2.2.map fun b=>(Sl.tmp x.1,x.2.1,b)
def jj (d:List (Nat × AC × Option AC)):List Nat:=d.filterMap fun x=>match x.2.2 with|none=>some x.1|some _=>none
def P7 (p:Dm):Nat:=p.pre.length+p.slots.length+p.vecs.length+p.kills.length
def fU (rec:PC→Loc→G→Option (List BS × G))(pc:PC)(l:Loc)(g:G):Nat→Dm→Dm
 |0,p=>p
 |n+1,p=>
  match Gt l g p.pre with
  |none=>p
  |some (l',g')=>
   let q:=p.full l.mem.length
   match bD q g'.n l' with
   |none=>p
   |some hl=>match rec pc hl { n:=g'.n+q.slots.length,eqs:=[],obs:=[],lps:=g'.lps } with
    |none=>p
    |some (outs,_)=>match In .normal outs with
     |none=>p
     |some (o,_)=>
      let d:=WR (fun j=>j) hl.tmps.t o.l.tmps.t
      let ds:=jA d++bn 0 l.mem o.l.mem
      let p1:=fV l.mem.length o.l.mem ds p
      let p1:=bi l.mem.length ds p1
      let p1:={ p1 with kills:=p1.kills++(jj d).filter fun t=> !p1.kills.contains t }
      if Nat.beq (P7 p1) (P7 p) then p else fU rec pc l g n p1
def fi (rec:PC→Loc→G→Option (List BS × G))(p:Dm)(pc:PC)(l:Loc)(g:G):Option (List BS × G):=dm rec (if Nat.beq (P7 p) 0 then fU rec pc l g 6 p else p) pc l g
mutual
def DK:Code→List D5
 | .seq a b=>DK a++DK b
 | .cond _ a b=>DK a++DK b
 | .block id c=>(DK c).filter fun j=>match j with| .exit i=> !Nat.beq i id| .ret=>true
 | .loop c=>DK c
 | .scope c=>DK c
 | .exit id=>[.exit id]
 | .ret=>[.ret]
 | .rangeFunc _ _ a b=>DK a++DK b
 |_=>[]
end
def Mk:List D5→List D5
 |[]=>[]
 |j::r=>if (Mk r).contains j then Mk r else j::Mk r
def Jk (tmps:Al):List Tmp→List AC→Al
 |p::ps,a::as=>Jk (tmps.fix p (some a)) ps as
 |_,_=>tmps
def D5.xk:D5→XK| .ret=> .ret| .exit id=> .exit id
def Nb (js:List D5):XK→Option Nat
 | .normal=>some 0
 | .ret=>(js.findIdx? (· = .ret)).map (· +1)
 | .exit id=>(js.findIdx? (· = .exit id)).map (· +1)
def endRound (js:List D5)(id stamp:Nat)(o:BS)(_:G):Option (AC × Mem):=do
 let k←Nb js o.k
 match o.l.mem.at id with
 | .lp s (.ci .i64 (-1))=>if Nat.beq s stamp then some (.cb (Nat.beq k 0),o.l.mem.set id (.lp stamp (.ci .i64 k))) else none
 |_=>none
def DL (fin:BS→G→Option (AC × Mem)):List BS→G→Option (AC × Mem × G)
 |[],_=>none
 |[o],g=>do
  let (c,m) ←fin o g
  some (c,m,g)
 |o::os,g=>do
  let (c',m',g) ←DL fin os g
  let (c,m0) ←fin o g
  let (m,us):=CL (EY o.pc) g.n m0 m'
  let (c,us'):=Gc (g.n+us.length) (EY o.pc) c c'
  some (c,m,g.pushAll (us++us'))
def LC (rec:Code→PC→Loc→G→Option (List BS × G))(S:CP)(stamp:Nat):YF:=fun id args pc m g=>
 match m.at id with
 | .lp s st=>
  if Nat.beq s stamp=false∨args.length≠S.ps.size∨S.tmps.loc.isEmpty=false then none else do
  let g←(match st with
   | .ci .i64 0=>some g
   | .i .i64 _ _ x=>some (g.needAll pc [⟨ "ready",WB,[.e x]⟩])
   |_=>none)
  let (o1,g) ←rec S.assign pc ⟨Jk S.tmps S.ps.toList args,m⟩ g
  match o1 with
  |[o]=>do
   if o.k≠ .normal then none else
   if Blk.beq (o.l.mem.at id) (.lp s st) then do
    let (outs,g) ←rec S.body o.pc { o.l with mem:=o.l.mem.set id (.lp stamp (.ci .i64 (-1))) } g
    DL (endRound S.jumps id stamp) outs g
   else none
  |_=>none
 |_=>none
def Cx (x:Nat)(pc:PC)(l:Loc):Nat→List D5→G→List BS × G
 |_,[],g=>([],g)
 |k,j::js,g=>
  let g1:=g.pushAll [⟨ "eq",oEq,[.e x,.c (.int (k+1))]⟩]
  let (p,g2):=Cr g1 pc g.n true
  let (r,g3):=Cx x pc l (k+1) js g2
  (⟨j.xk,p,l⟩::r,g3)
structure Ht where
 keep:Nat
 plan:Nat→Option Dm
 nar:Nat→Option (Tmp × Int × Int)
def DI (h:Option (Tmp × Int × Int))(pc:PC)(t:Al)(g:G):Al × G:=
 match h with
 |none=>(t,g)
 |some (i,lo,hi)=>
  match t.get i with
  |some (.i k _ _ x)=>(t.set i (.i k lo hi x),g.needAll pc [⟨ "between " ++toString lo++ " " ++toString hi,J6 lo hi,[.e x]⟩])
  |_=>(t,g)
def Ys.add (ys:Ys)(stamp:Nat)(y:YF):Ys:=fun s=>if Nat.beq s stamp then some y else ys s
def Wu (rec:Code→PC→Loc→G→Option (List BS × G))(call:By)(ys:Ys)(f:Operand)(ps:Array Tmp)(assign body:Code)(pc:PC)(l:Loc)(g:G):Option (List BS × G):=
 if l.tmps.loc.isEmpty=false then none else
 match Nz [] l.tmps f with
 | .fn (.func k) first cap=>do
  let id:=l.mem.length
  let stamp:=g.n
  let S:CP:={ tmps:=l.tmps,ps,assign,body,jumps:=Mk (DK body) }
  let (_,m2,g2) ←call (ys.add stamp (LC rec S stamp)) k (first++[.yl id]++cap) pc (l.mem++[.lp stamp (.ci .i64 0)]) { g.pushAll [⟨ "id",oId,[.c (.int 0)]⟩] with lps:=(stamp,S)::g.lps }
  match m2.at id with
  | .lp s st=>
   if Nat.beq s stamp=false then none else
   let l2:Loc:=⟨l.tmps,m2.set id .gone⟩
   match st with
   | .ci .i64 0=>some ([⟨.normal,pc,l2⟩],g2)
   | .i .i64 0 _ x=>
    let g3:=g2.pushAll [⟨ "eq",oEq,[.e x,.c (.int 0)]⟩]
    let (p,g4):=Cr g3 pc g2.n true
    let (r,g5):=Cx x pc l2 0 S.jumps g4
    some (⟨.normal,p,l2⟩::r,g5)
   |_=>none
  |_=>none
 |_=>none
def Cf (P:Program)(call:By)(hint:Ht)(inR:Bool)(ys:Ys):Nat→Nat→Code→PC→Loc→G→Option (List BS × G)
 |0,_,_,_,_,_=>none
 |fuel+1,blk,c,pc,l,g=>
  match c with
  | .skip| .label _=>some ([⟨.normal,pc,l⟩],g)
  | .region id ops draw=>do
   let s←bm P call ys ops draw pc l g
   some ([⟨.normal,pc,⟨(DI (hint.nar id) pc s.tmps s.g).1.commit hint.keep,s.mem⟩⟩],(DI (hint.nar id) pc s.tmps s.g).2)
  | .seq a b=>do
   let (outs,g) ←Cf P call hint inR ys fuel blk a pc l g
   Vz outs g (Cf P call hint inR ys fuel blk b)
  | .cond c a b=>
   match Nz [] l.tmps c with
   | .cb t=>Cf P call hint inR ys fuel blk (if t then a else b) pc l g
   | .b x=>RP (Cf P call hint inR ys fuel blk) x a b pc l g
   | .nb x=>RP (Cf P call hint inR ys fuel blk) x b a pc l g
   |_=>none
  | .block id c=>do
    let (outs,g) ←Cf P call hint inR ys fuel id c pc l g
    match In (.exit id) outs with
    |none=>some (outs,g)
    |some (e,rest)=>
     if noK (.exit id) rest then
      some (EH none none [⟨.normal,e.pc,e.l⟩] rest g)
     else none
  | .loop c=>
   match hint.plan blk with
   |some p=>fi (Cf P call hint inR ys fuel blk c) p pc l g
   |none=>do
    let (outs,g) ←Cf P call hint inR ys fuel blk c pc l g
    Vz outs g (Cf P call hint inR ys fuel blk (.loop c))
  | .rangeFunc f ps assign body=>if inR then none else Wu (Cf P call hint true ys fuel blk) call ys f ps assign body pc l g
  | .scope c=>Cf P call hint inR ys fuel blk c pc l g
  | .exit id=>some ([⟨.exit id,pc,l⟩],g)
  | .ret=>some ([⟨.ret,pc,l⟩],g)
  |_=>none
def Jx (P:Program)(l:Loc)(g:G):ResultVar→Option (AC × List Ex)
 | .tmp t=>some ((l.tmps.get t).getD .any,[])
 | .cell a t=>(V2 P t ((l.tmps.get a).getD .any) l.mem g).bind fun r=>match r.ps,r.us with
  |[],[]=>some (r.c,[])
  |_,_=>none
def QD (P:Program)(fn:Func)(l:Loc)(g:G):Option AC:=do
 let rs←fn.results.toList.mapM (Jx P l g)
 match rs with
 |[(c,_)]=>some c
 |rs=>some (.tup (rs.map (·.1)))
def LH (P:Program)(fn:Func)(o:BS)(g:G):Option (AC × Mem):=
 if o.k= .ret∨o.k= .normal then (QD P fn o.l g).map fun c=>(c,o.l.mem) else none
def Ow:Nat→List AC→Tr→Tr
 |_,[],t=>t
 |i,c::r,t=>Ow (i+1) r (Tr.setF 16 t i (some c))
def Oz (n:Nat)(args:List AC):Al:=⟨n,[],Ow 0 args .nil⟩
def iB (P:Program)(call:By)(Ba:FuncId→Ht)(fuel:Nat):By:=fun ys f args pc m g=>do
 let fn←P.funcs[f]?
 let c←fn.body
 if fn.name== "runtime.NumGoroutine" ||Nat.blt fn.ntmps args.length then none else
 let (outs,g) ←Cf P call (Ba f) false ys fuel 0 c pc ⟨Oz fn.ntmps args,m⟩ g
 DL (LH P fn) outs g
def JW (P:Program)(ctx:FuncId→Option By)(Ba:FuncId→Ht)(fuel:Nat):Nat→By
 |0=>fun _ _ _ _ _ _=>none
 |d+1=>fun ys f=>match ctx f with
  |some c=>c ys f
  |none=>iB P (JW P ctx Ba fuel d) Ba fuel ys f
end Go.Eng
end
noncomputable section
namespace Go.Eng
open Go Go.RowKit
structure Aa (g g':G):Prop where
 n:g.n≤g'.n
 eqs:∀p∈g.eqs,p∈g'.eqs
 obs:∀o∈g.obs,o∈g'.obs
 lps:∀p∈g.lps,p∈g'.lps
theorem Aa.refl (g:G):Aa g g:=⟨Nat.le_refl _,fun _ h=>h,fun _ h=>h,fun _ h=>h⟩
theorem Aa.trans {a b c:G}(h:Aa a b)(k:Aa b c):Aa a c:=
 ⟨Nat.le_trans h.n k.n,fun x hx=>k.eqs x (h.eqs x hx),fun x hx=>k.obs x (h.obs x hx),fun x hx=>k.lps x (h.lps x hx)⟩
theorem Agr.of {T:Tab}{g g':G}(h:Agr T g')(k:Aa g g'):Agr T g:=⟨fun p hp=>h.eqs p (k.eqs p hp),fun p hp=>h.lps p (k.lps p hp)⟩
theorem BH.of {T:Tab}{g g':G}(h:BH T g')(k:Aa g g'):BH T g:=fun o ho=>h o (k.obs o ho)
theorem CF (g:G)(us:List Ex):(g.pushAll us).n=g.n+us.length:=by cases us<;>simp[G.pushAll]
theorem ZP (g:G)(us:List Ex):(g.pushAll us).obs=g.obs:=by cases us<;>rfl
theorem ZL (g:G)(us:List Ex):(g.pushAll us).lps=g.lps:=by cases us<;>rfl
theorem Aa.push (g:G)(us:List Ex):Aa g (g.pushAll us):=by
 refine⟨by rw[CF];omega,fun p hp=>?_,fun o ho=>by rw[ZP];exact ho,fun p hp=>by rw[ZL];exact hp⟩
 cases us with
 |nil=>exact hp
 |cons u us=>exact (IW _ _ _ _).2 (.inl hp)
theorem Agr.new {T:Tab}{g:G}{us:List Ex}(h:Agr T (g.pushAll us)):New T g.n us:=fun j u hj=>by
 cases us with
 |nil=>simp at hj
 |cons v us=>exact h.eqs (g.n+j,u) ((IW _ _ _ _).2 (.inr ⟨j,u,hj,rfl⟩))
theorem D1 (ps:List Pr)(g:G)(pc:PC):(g.needAll pc ps).n=g.n∧(g.needAll pc ps).eqs=g.eqs∧(g.needAll pc ps).lps=g.lps∧((g.needAll pc ps).obs=ps.map (Ob.mk pc)++g.obs):=by
 cases ps<;>exact⟨rfl,rfl,rfl,rfl⟩
theorem Aa.need (g:G)(pc:PC)(ps:List Pr):Aa g (g.needAll pc ps):=by
 obtain⟨h1,h2,h3,h4⟩:=D1 ps g pc
 exact⟨by omega,fun p hp=>by rw[h2];exact hp,fun o ho=>by rw[h4];exact List.mem_append_right _ ho,fun p hp=>by rw[h3];exact hp⟩
theorem Agr.need {T:Tab}{g:G}{pc:PC}{ps:List Pr}(h:Agr T (g.needAll pc ps)):Agr T g:=h.of (Aa.need g pc ps)
theorem BH.need {T:Tab}{g:G}{pc:PC}{ps:List Pr}(h:BH T (g.needAll pc ps))(hp:pcv T pc):∀p∈ps,p.holds T:=fun p hps=>by
 obtain⟨_,_,_,h4⟩:=D1 ps g pc
 exact h ⟨pc,p⟩ (by rw[h4];exact List.mem_append_left _ (List.mem_map.2 ⟨p,hps,rfl⟩)) hp
def CG (T:Tab)(g:G):PC→Prop
 |none=>True
 |some c=>c < g.n∧∃b,T c= .bool b
theorem CG.grow {T:Tab}{g g':G}{pc:PC}(h:CG T g pc)(k:Aa g g'):CG T g' pc:=by
 cases pc with
 |none=>trivial
 |some c=>exact⟨Nat.lt_of_lt_of_le h.1 k.n,h.2⟩
theorem Qp {T:Tab}{g:G}{pc:PC}{x:Nat}{bx want:Bool}(hk:CG T g pc)(hb:T x= .bool bx):∃b,(DJ pc x want).eval T= .bool b∧(b=true↔pcv T pc∧bx=want):=by
 cases pc with
 |none=>
  refine⟨if want then bx else !bx,?_,?_⟩
  ·cases want<;>simp[DJ,Ex.eval,oId,SR,u0,eve,hb,U.toB]
  ·cases want<;>cases bx<;>simp[pcv]
 |some c=>
  obtain⟨_,bc,hc⟩:=hk
  refine⟨bc&&(if want then bx else !bx),?_,?_⟩
  ·cases want<;>simp[DJ,Ex.eval,Oc,u0,u1,eve,evn,hb,hc,U.toB]
  ·cases want<;>cases bx<;>cases bc<;>simp[pcv,hc]
theorem Qn {T:Tab}{g:G}{pc:PC}{x:Nat}{want:Bool}(hk:CG T g pc)(hn:¬pcv T pc):∃b,(DJ pc x want).eval T= .bool b∧b=false:=by
 cases pc with
 |none=>exact absurd trivial hn
 |some c=>
  obtain⟨_,bc,hc⟩:=hk
  cases bc with
  |true=>exact absurd hc hn
  |false=>exact⟨false,by simp[DJ,Ex.eval,Oc,u0,eve,hc,U.toB],rfl⟩
theorem Ic (i j:Nat)(c:AC)(r:List (Nat × AC)):B6 ((i,c)::r) j=if i=j then some c else B6 r j:=by
 simp only[B6]
 by_cases h:i=j
 ·subst h;simp
 ·have:Nat.beq i j=false:=by
   cases hb:Nat.beq i j with
   |false=>rfl
   |true=>exact absurd (Nat.eq_of_beq_eq_true hb) h
  simp[this,h]
theorem Al.get_set (s:Al)(d i:Nat)(c:AC){e:AC}(h:(s.set d c).get i=some e):(i=d∧d < s.n∧e=c)∨((d=i→¬d < s.n)∧s.get i=some e):=by
 unfold Al.set at h
 cases hd:Nat.blt d s.n with
 |false=>
  rw[hd] at h
  refine .inr ⟨fun _ hlt=>?_,h⟩
  rw[←Nat.blt_eq] at hlt
  rw[hlt] at hd;cases hd
 |true=>
  rw[hd] at h
  have hlt:d < s.n:=by rwa [Nat.blt_eq] at hd
  simp only[cond_true,Al.get,Ic] at h
  by_cases e':d=i
  ·subst e'
   simp at h
   exact .inl ⟨rfl,hlt,h.symm⟩
  ·rw[if_neg e'] at h
   exact .inr ⟨fun h'=>absurd h' e',h⟩
theorem Al.set_n (s:Al)(d:Nat)(c:AC):(s.set d c).n=s.n:=by
 unfold Al.set
 cases Nat.blt d s.n<;>rfl
theorem Dp (i j:Nat):Nat.beq i j=true↔i=j:=⟨Nat.eq_of_beq_eq_true,fun h=>by subst h;simp⟩
theorem Tr.get_step (t:Tr)(i:Nat):t.get i=if i=0 then t.val else if i % 2=1 then t.lt.get (i / 2) else t.rt.get (i / 2 - 1):=by
 cases t with
 |nil=>simp[Tr.get,Tr.val,Tr.lt,Tr.rt]
 |node v l r=>
  simp only[Tr.get,Tr.val,Tr.lt,Tr.rt]
  by_cases h0:i=0
  ·subst h0;simp
  ·have e0:Nat.beq i 0=false:=by
    cases hb:Nat.beq i 0 with
    |false=>rfl
    |true=>exact absurd ((Dp _ _).1 hb) h0
   rw[e0,if_neg h0]
   by_cases h1:i % 2=1
   ·have e1:Nat.beq (i % 2) 1=true:=(Dp _ _).2 h1
    rw[e1,if_pos h1];rfl
   ·have e1:Nat.beq (i % 2) 1=false:=by
     cases hb:Nat.beq (i % 2) 1 with
     |false=>rfl
     |true=>exact absurd ((Dp _ _).1 hb) h1
    rw[e1,if_neg h1];rfl
theorem Tr.get_setF:∀(f:Nat) (t:Tr) (d i:Nat) (c:Option AC) (e:AC),(Tr.setF f t d c).get i=some e→(i=d∧c=some e)∨(i≠d∧t.get i=some e)
 |0,t,d,i,c,e,h=>by simp[Tr.setF,Tr.get] at h
 |f+1,t,d,i,c,e,h=>by
  rw[Tr.get_step t i]
  simp only[Tr.setF] at h
  by_cases h0:d=0
  ·subst h0
   rw[show Nat.beq 0 0=true from rfl] at h
   simp only[cond_true] at h
   rw[Tr.get_step] at h
   by_cases hi:i=0
   ·subst hi
    exact .inl ⟨rfl,by simpa [Tr.val] using h⟩
   ·rw[if_neg hi] at h⊢
    exact .inr ⟨hi,h⟩
  ·have e0:Nat.beq d 0=false:=by
    cases hb:Nat.beq d 0 with
    |false=>rfl
    |true=>exact absurd ((Dp _ _).1 hb) h0
   rw[e0] at h
   by_cases h1:d % 2=1
   ·have e1:Nat.beq (d % 2) 1=true:=(Dp _ _).2 h1
    rw[e1] at h
    simp only[cond_true,cond_false] at h
    rw[Tr.get_step] at h
    by_cases hi:i=0
    ·subst hi
     exact .inr ⟨fun h=>h0 h.symm,by rw[if_pos rfl] at h⊢;exact h⟩
    ·rw[if_neg hi] at h⊢
     by_cases hi1:i % 2=1
     ·rw[if_pos hi1] at h⊢
      rcases Tr.get_setF f _ _ _ _ _ h with⟨h2,h3⟩|⟨h2,h3⟩
      ·exact .inl ⟨by omega,h3⟩
      ·exact .inr ⟨fun he=>h2 (by omega),h3⟩
     ·rw[if_neg hi1] at h⊢
      exact .inr ⟨fun he=>hi1 (by omega),h⟩
   ·have e1:Nat.beq (d % 2) 1=false:=by
     cases hb:Nat.beq (d % 2) 1 with
     |false=>rfl
     |true=>exact absurd ((Dp _ _).1 hb) h1
    rw[e1] at h
    simp only[cond_false] at h
    rw[Tr.get_step] at h
    by_cases hi:i=0
    ·subst hi
     exact .inr ⟨fun h=>h0 h.symm,by rw[if_pos rfl] at h⊢;exact h⟩
    ·rw[if_neg hi] at h⊢
     by_cases hi1:i % 2=1
     ·rw[if_pos hi1] at h⊢
      exact .inr ⟨fun he=>h1 (by omega),h⟩
     ·rw[if_neg hi1] at h⊢
      rcases Tr.get_setF f _ _ _ _ _ h with⟨h2,h3⟩|⟨h2,h3⟩
      ·exact .inl ⟨by omega,h3⟩
      ·exact .inr ⟨fun he=>h2 (by omega),h3⟩
theorem Pb (keep:Nat):∀(l:List (Nat × AC)) (t:Tr) (i:Nat) (e:AC),(LS keep l t).get i=some e→B6 l i=some e∨(B6 l i=none∧t.get i=some e)
 |[],t,i,e,h=> .inr ⟨rfl,h⟩
 |(j,c)::r,t,i,e,h=>by
  rw[Ic]
  simp only[LS] at h
  have ih:=Pb keep r t i e
  split at h
  ·rcases Tr.get_setF _ _ _ _ _ _ h with⟨h1,h2⟩|⟨h1,h2⟩
   ·rw[if_pos h1.symm];exact .inl h2
   ·rw[if_neg (fun e=>h1 e.symm)];exact ih h2
  ·split at h
   ·rename_i hn
    by_cases hij:j=i
    ·subst hij
     rw[hn] at h;cases h
    ·rw[if_neg hij];exact ih h
   ·rcases Tr.get_setF _ _ _ _ _ _ h with⟨h1,h2⟩|⟨h1,h2⟩
    ·cases h2
    ·rw[if_neg (fun e=>h1 e.symm)];exact ih h2
theorem Al.get_commit (s:Al)(keep i:Nat){e:AC}(h:(s.commit keep).get i=some e):s.get i=some e:=by
 have h':(LS keep s.loc s.t).get i=some e:=h
 rcases Pb _ _ _ _ _ h' with h1|⟨h1,h2⟩
 ·simp[Al.get,h1]
 ·simp[Al.get,h1,h2]
theorem Al.get_fix (s:Al)(hl:s.loc=[])(d i:Nat)(c:Option AC){e:AC}(h:(s.fix d c).get i=some e):(i=d∧d < s.n∧c=some e)∨((d=i→¬d < s.n)∧s.get i=some e):=by
 unfold Al.fix at h
 cases hd:Nat.blt d s.n with
 |false=>
  rw[hd] at h
  refine .inr ⟨fun _ hlt=>?_,h⟩
  rw[←Nat.blt_eq] at hlt
  rw[hlt] at hd;cases hd
 |true=>
  rw[hd] at h
  have hlt:d < s.n:=by rwa [Nat.blt_eq] at hd
  simp only[cond_true,Al.get,hl,B6] at h⊢
  rcases Tr.get_setF _ _ _ _ _ _ h with⟨h1,h2⟩|⟨h1,h2⟩
  ·exact .inl ⟨h1,hlt,h2⟩
  ·exact .inr ⟨fun e=>absurd e.symm h1,h2⟩
theorem Al.fix_n (s:Al)(d:Nat)(c:Option AC):(s.fix d c).n=s.n:=by
 unfold Al.fix
 cases Nat.blt d s.n<;>rfl
theorem Al.fix_loc (s:Al)(d:Nat)(c:Option AC):(s.fix d c).loc=s.loc:=by
 unfold Al.fix
 cases Nat.blt d s.n<;>rfl
theorem Al.commit_n (s:Al)(keep:Nat):(s.commit keep).n=s.n:=rfl
section
variable {P:Program}{T:Tab}{n n':Nat}{ρ ρ':Nat→Option Nat}{m m':Mem}{w w':World}{a:Act}
def FY (B:Nat)(ρ :Nat→Option Nat)(m:Mem)(w:World)(ds:List Deferred):Prop:=
 B≤w.heap.size∧∃Ds:List Nat,ds=Ds.map (fun D=>{ target:= .collected D,args:= #[] })∧Ds.Nodup∧∀D∈Ds,B≤D∧w.heap[D]? =some (.deferred (some []))∧∀id,(m.at id).tracked=true→ ρ id≠some D
theorem FY.nil {B:Nat}(ρ :Nat→Option Nat)(m:Mem)(w:World)(hB:B≤w.heap.size):FY B ρ m w []:=⟨hB,[],rfl,List.nodup_nil,fun D h=>by simp at h⟩
theorem FY.on {B:Nat}{ds:List Deferred}(h:FY B ρ m w ds)(hs:AO T n ρ m w ρ' m' w'):FY B ρ' m' w' ds:=by
 obtain⟨h0,Ds,h1,h2,h3⟩:=h
 refine⟨Nat.le_trans h0 hs.size,Ds,h1,h2,fun D hD=>?_⟩
 obtain⟨k0,k1,k2⟩:=h3 D hD
 have hlt:=(Array.getElem?_eq_some_iff.1 k1).1
 refine⟨k0,by rw[hs.old D hlt k2];exact k1,fun id ht he=>?_⟩
 rcases hs.back ht he with q|⟨q1,q2⟩
 ·omega
 ·exact k2 id q1 q2
structure Rel (T:Tab) (n:Nat) (ρ :Nat→Option Nat) (l:Loc) (a:Act) (w:World):Prop where
 defers:FY T.base ρ l.mem w a.defers
 size:a.tmps.size=l.tmps.n
 tmps:∀i c,l.tmps.get i=some c→AB T n ρ l.mem w c (a.tmps.getD i undef)
 mem:AP T n ρ l.mem w
theorem Rel.at {l:Loc}(h:Rel T n ρ l a w)(t:Nat):AB T n ρ l.mem w ((l.tmps.get t).getD .any) (a.tmps.getD t undef):=by
 cases hc:l.tmps.get t with
 |none=>exact trivial
 |some c=>exact h.tmps t c hc
theorem Rel.on {tmps:Al}(h:Rel T n ρ ⟨tmps,m⟩ a w)(hs:AO T n ρ m w ρ' m' w')(hn:n≤n')(hm':AP T n' ρ' m' w'):Rel T n' ρ' ⟨tmps,m'⟩ a w':=
 ⟨h.defers.on hs,h.size,fun i c hc=>AB.mono hs h.mem hn c _ (h.tmps i c hc),hm'⟩
theorem Rel.put {tmps:Al}(h:Rel T n ρ ⟨tmps,m⟩ a w)(dst:Option Tmp){c:AC}{v:Value}(hc:AB T n ρ m w c v):
  Rel T n ρ ⟨D7 tmps dst c,m⟩ (a.put dst v) w:=by
 cases dst with
 |none=>exact h
 |some d=>
  have hsz:a.tmps.size=tmps.n:=h.size
  refine⟨h.defers,by simp[Act.put,D7,Al.set_n,hsz],fun i e he=>?_,h.mem⟩
  rcases Al.get_set _ _ _ _ he with⟨h1,h2,h3⟩|⟨h1,h2⟩
  ·subst h1;subst h3
   simp only[Act.put,Array.getD_eq_getD_getElem?,Array.getElem?_setIfInBounds,if_true]
   rw[if_pos (by omega)]
   exact hc
  ·have:=h.tmps i e h2
   simp only[Act.put,Array.getD_eq_getD_getElem?,Array.getElem?_setIfInBounds] at this⊢
   by_cases hd:d=i
   ·have:=h1 hd
    subst hd
    rw[if_pos rfl,if_neg (by omega)]
    have h3:=h.tmps d e h2
    rw[Array.getD_eq_getD_getElem?,Array.getElem?_eq_none (by omega)] at h3
    exact h3
   ·rw[if_neg hd]
    exact this
theorem Rel.less {l:Loc}{s:Al}(h:Rel T n ρ l a w)(hn:s.n=l.tmps.n)(hs:∀i c,s.get i=some c→l.tmps.get i=some c):Rel T n ρ ⟨s,l.mem⟩ a w:=
 ⟨h.defers,by rw[h.size];exact hn.symm,fun i c hc=>h.tmps i c (hs i c hc),h.mem⟩
theorem Sy {imp:List Nat}(himp:∀c∈imp,T c= .bool true){c:AC}{v:Value}(h:AB T n ρ m w c v):AB T n ρ m w (Sz imp c) v:=by
 cases c<;>try exact h
 case on c d=>
  simp only[Sz]
  split
  ·rename_i hc
   exact h.2 (himp c (by simpa using hc))
  ·exact h
 case gd c d=>
  simp only[Sz]
  split
  ·rename_i hc
   exact h.2.1 (himp c (by simpa using hc))
  ·exact h
theorem Ip {tmps:Al}(h:Rel T n ρ ⟨tmps,m⟩ a w){imp:List Nat}(himp:∀c∈imp,T c= .bool true)(x:Operand):AB T n ρ m w (Nz imp tmps x) (a.eval x):=by
 cases x with
 |tmp t=>exact Sy himp (h.at t)
 |const v=>exact Ox v
 |global g=>exact trivial
 |func f=>exact⟨[],[],rfl,rfl,rfl⟩
theorem AO.weaken {m2:Mem}(h:∀id,m2.at id=m.at id∨m2.at id= .gone):AO T n ρ m w ρ m2 w where
 os:=rfl
 tape:=rfl
 output:=rfl
 size:=Nat.le_refl _
 mlen:=fun id hp=>by
  rcases h id with e|e
  ·rw[e];exact hp
  ·rw[e];exact fun h=>by cases h
 rho:=fun id hp=>by
  refine⟨rfl,?_⟩
  rcases h id with e|e
  ·rw[e];exact hp
  ·rw[e];rfl
 untr:=fun id _ ht=>by
  rcases h id with e|e
  ·rw[←e];exact ht
  ·rw[e] at ht;cases ht
 fresh:=fun id b hp ht _=>by
  rcases h id with e|e
  ·rw[e,hp] at ht;cases ht
  ·rw[e] at ht;cases ht
 old:=fun _ _ _=>rfl
 tok:=fun id x ks e hx=>by
  rcases h id with e'|e'
  ·exact .inl ⟨by rw[e'];exact hx,rfl,fun _ _=>rfl⟩
  ·exact .inr ⟨fun _ _ _ _=>rfl,.inl e'⟩
theorem AP.weaken (hm:AP T n ρ m w){m2:Mem}(h:∀id,m2.at id=m.at id∨m2.at id= .gone):AP T n ρ m2 w where
 fr:=hm.fr
 blk:=fun id=>by
  rcases h id with e|e
  ·exact CO.step (AO.weaken h) hm (Nat.le_refl _) e rfl (fun _ _=>rfl)
  ·rw[e];trivial
 inj:=fun id id' b ht ht' h1 h2=>by
  refine hm.inj id id' b ?_ ?_ h1 h2
  ·rcases h id with e|e
   ·rw[←e];exact ht
   ·rw[e] at ht;cases ht
  ·rcases h id' with e|e
   ·rw[←e];exact ht'
   ·rw[e] at ht';cases ht'
structure Fr (T:Tab) (ops:Array Oper) (n:Nat) (a:Act) (e:GE):Prop where
 lt:e.p < n
 bool:∃b,T e.p= .bool b
 iff:T e.p= .bool true↔yielded ops a.tmps e.j=some e.want
 imp:T e.p= .bool true→∀c∈e.imp,T c= .bool true
 ne:e.imp≠[]
structure Cv (T:Tab) (ρ :Nat→Option Nat) (ops:Array Oper) (s:RS) (a:Act) (w:World):Prop where
 rel:Rel T s.g.n ρ ⟨s.tmps,s.mem⟩ a w
 ges:∀e∈s.gl,Fr T ops s.g.n a e
theorem Fr.up {ops:Array Oper}{e:GE}(h:Fr T ops n a e)(hn:n≤n'):Fr T ops n' a e:=⟨Nat.lt_of_lt_of_le h.lt hn,h.bool,h.iff,h.imp,h.ne⟩
theorem ak {ops:Array Oper}{pc0:PC}{base:List Nat}{s s':RS}{j:Nat}{want:Bool}{c:AC}{run:Option (PC × List Nat)}{v:Value}(h:EC pc0 base s j want c=some (run,s'))(hA:Agr T s'.g)(hk:CG T s.g pc0)
  (hi:Cv T ρ ops s a w) (hy:yielded ops a.tmps j=(match v with| .bool b=>some b|_=>none)) (hin:pcv T pc0→AB T s.g.n ρ s.mem w c v) (hout:¬pcv T pc0→v=undef) (hbase:pcv T pc0→∀c∈base,T c= .bool true):
  s'.tmps=s.tmps∧s'.mem=s.mem∧Aa s.g s'.g∧Cv T ρ ops s' a w∧(run=none→yielded ops a.tmps j≠some want)∧
   (∀pc' imp,run=some (pc',imp)→(yielded ops a.tmps j=some want↔pcv T pc')∧(pcv T pc'→∀c∈imp,T c= .bool true)∧CG T s'.g pc'∧((imp=[]∧pc'=pc0∧base=[])∨imp≠[]∧((∃p,pc'=some p)∨(pc'=pc0∧imp=base)))):=by
 have undefno:v=undef→yielded ops a.tmps j=none:=fun e=>by rw[hy,e];rfl
 have entry:∀(x:Nat) (pol:Bool),(pcv T pc0→x < s.g.n∧∃bx,T x= .bool bx∧v= .bool (if pol then bx else !bx))→
   (some (some (some s.g.n,s.g.n::base),{ s with g:=s.g.pushAll [DJ pc0 x (if pol then want else !want)],gl:=⟨j,want,s.g.n,s.g.n::base⟩::s.gl }):Option (Option (PC × List Nat) × RS))=some (run,s')→
   s'.tmps=s.tmps∧s'.mem=s.mem∧Aa s.g s'.g∧Cv T ρ ops s' a w∧(run=none→yielded ops a.tmps j≠some want)∧
   (∀pc' imp,run=some (pc',imp)→(yielded ops a.tmps j=some want↔pcv T pc')∧(pcv T pc'→∀c∈imp,T c= .bool true)∧CG T s'.g pc'∧((imp=[]∧pc'=pc0∧base=[])∨imp≠[]∧((∃p,pc'=some p)∨(pc'=pc0∧imp=base)))):=by
  intro x pol hx he
  cases he
  have hA1:Agr T (s.g.pushAll [DJ pc0 x (if pol then want else !want)]):=hA
  have hnew:T s.g.n=(DJ pc0 x (if pol then want else !want)).eval T:=hA1.new.head
  have hbool:∃b,T s.g.n= .bool b:=by
   rw[hnew]
   by_cases hp:pcv T pc0
   ·obtain⟨h1,bx,h2,h3⟩:=hx hp
    obtain⟨b,e,_⟩:=Qp (want:=if pol then want else !want) hk h2
    exact⟨b,e⟩
   ·obtain⟨b,e,_⟩:=Qn (x:=x) (want:=if pol then want else !want) hk hp
    exact⟨b,e⟩
  have key:T s.g.n= .bool true↔yielded ops a.tmps j=some want:=by
   rw[hnew]
   by_cases hp:pcv T pc0
   ·obtain⟨h1,bx,h2,h3⟩:=hx hp
    rw[hy,h3]
    obtain⟨b,e,this⟩:=Qp (want:=if pol then want else !want) hk h2
    rw[e]
    constructor
    ·intro he
     have:=(this.1 (by injection he)).2
     cases pol<;>simp at this⊢ <;>simp[this]
    ·intro he
     have hb:bx=(if pol then want else !want):=by cases pol<;>simp at he⊢ <;>simp[←he]
     rw[this.2 ⟨hp,hb⟩]
   ·rw[undefno (hout hp)]
    obtain⟨b,e,hb⟩:=Qn (x:=x) (want:=if pol then want else !want) hk hp
    rw[e,hb]
    constructor<;>intro he<;>cases he
  have himp:T s.g.n= .bool true→∀c∈s.g.n::base,T c= .bool true:=by
   intro ht c hc
   cases hc with
   |head=>exact ht
   |tail _ hc=>
    refine hbase ?_ c hc
    by_cases hp:pcv T pc0
    ·exact hp
    ·have:=key.1 ht
     rw[undefno (hout hp)] at this
     cases this
  have hge:Fr T ops (s.g.pushAll [DJ pc0 x (if pol then want else !want)]).n a ⟨j,want,s.g.n,s.g.n::base⟩:=⟨by rw[CF];simp,hbool,key,himp,fun h=>by cases h⟩
  refine⟨rfl,rfl,(show Aa s.g (s.g.pushAll [DJ pc0 x (if pol then want else !want)]) from Aa.push _ _),⟨?_,fun e he=>?_⟩,(fun h=>by cases h),fun pc' imp he=>?_⟩
  ·exact hi.rel.on (AO.refl _ _ _ _ _) (by rw[CF];omega) (hi.rel.mem.mono (by rw[CF];omega))
  ·cases he with
   |head=>exact hge
   |tail _ he=>exact (hi.ges e he).up (by rw[CF];omega)
  ·cases he
   exact⟨key.symm,himp,⟨by rw[CF];simp,hbool⟩,.inr ⟨(fun h=>by cases h),.inl ⟨_,rfl⟩⟩⟩
 cases c<;>simp only[EC] at h<;>try (cases h;done)
 case cb b=>
  split at h
  ·rename_i hb
   cases h
   refine⟨rfl,rfl,Aa.refl _,hi,(fun h=>by cases h),fun pc' imp he=>?_⟩
   cases he
   refine⟨?_,hbase,hk,?_⟩
   case refine_2=>
    cases base with
    |nil=>exact .inl ⟨rfl,rfl,rfl⟩
    |cons=>exact .inr ⟨(fun h=>by cases h),.inr ⟨rfl,rfl⟩⟩
   constructor
   ·intro hyy
    by_cases hp:pcv T pc0
    ·exact hp
    ·rw[undefno (hout hp)] at hyy;cases hyy
   ·intro hp
    have:=hin hp
    rw[hy,show v=_ from this,hb]
  ·rename_i hb
   cases h
   refine⟨rfl,rfl,Aa.refl _,hi,fun _ hyy=>?_,fun pc' imp he=>by cases he⟩
   by_cases hp:pcv T pc0
   ·have:=hin hp
    rw[hy,show v=_ from this] at hyy
    simp at hyy
    exact hb hyy
   ·rw[undefno (hout hp)] at hyy;cases hyy
 case b x=>exact entry x true (fun hp=>by obtain⟨h1,bx,h2,h3⟩:=hin hp;exact⟨h1,bx,h2,by simpa using h3⟩) (by simpa using h)
 case nb x=>exact entry x false (fun hp=>by obtain⟨h1,bx,h2,h3⟩:=hin hp;exact⟨h1,bx,h2,by simpa using h3⟩) (by simpa using h)
end
end Go.Eng
end
noncomputable section
namespace Go.Eng
open Go Go.RowKit
def fen (r:Option Nat):Fence:={ Fence.wide with round:=r }
theorem Pj {r:Option Nat}{k:Nat}{P:Program}{f:FuncId}{args:Array Value}{w:World}{R:Ending→World→Prop}(h:Calls P f args w R):CallsIn (fen r) k P f args w R:=
 (callsIn_wide (n:=k)).2 h
def Jr (P:Program)(fv:Value)(args:List Value)(w:World)(R:Ending→World→Prop):Prop:=
 (∃(k:FuncId) (first cap:List Value) (fn:Func),fv= .func (.func k) first.toArray cap.toArray∧P.funcs[k]? =some fn∧fn.body.isSome=true∧(fn.name== "runtime.NumGoroutine")=false∧Calls P k (first++args++cap).toArray w R)∨
 ∃(b:Nat) (q:Loop),fv= .func (.yield b) #[] #[]∧w.heap[b]? =some (.loop q)∧args.length=q.params.size∧
  ∀k,RoundIn Fence.wide k P b q.fn ((q.params.zip args.toArray).foldl (fun t (p,v)=>t.setIfInBounds p v) q.tmps) q.assign q.body w R
def Km (T:Tab)(g:G)(ρ :Nat→Option Nat)(m:Mem)(w:World)(c:AC)(m':Mem)(g':G):Ending→World→Prop:=
 fun e w'=>∃v ρ',e= .returned v∧AO T g.n ρ m w ρ' m' w'∧AP T g'.n ρ' m' w'∧AB T g'.n ρ' m' w' c v
def ij (P:Program)(T:Tab)(stamp:Nat)(y:YF):Prop:=
 ∀id args pc m g c m' g',y id args pc m g=some (c,m',g')→Aa g g'∧(Agr T g'→BH T g'→pcv T pc→CG T g pc→∀st,m.at id= .lp stamp st→∀ ρ w vs,AE T g.n ρ m w args vs→AP T g.n ρ m w→
  ∀b, ρ id=some b→Jr P (.func (.yield b) #[] #[]) vs w (Km T g ρ m w c m' g'))
def YsOK (P:Program)(T:Tab)(ys:Ys):Prop:=∀stamp y,ys stamp=some y→ij P T stamp y
def DQ (P:Program)(lp:Nat→CP)(ys:Ys):Prop:=∀T:Tab,T.lp=lp→YsOK P T ys
def Dj (P:Program)(T:Tab)(call:By):Prop:=
 ∀ys k args pc m g c m' g',DQ P T.lp ys→call ys k args pc m g=some (c,m',g')→Aa g g'∧(Agr T g'→BH T g'→pcv T pc→CG T g pc→∀ ρ w vs,AE T g.n ρ m w args vs→AP T g.n ρ m w→
  (∃fn,P.funcs[k]? =some fn∧fn.body.isSome=true∧(fn.name== "runtime.NumGoroutine")=false)∧
  Calls P k (vs:List Value).toArray w (Km T g ρ m w c m' g'))
section
variable {P:Program}{T:Tab}{n n':Nat}{ρ ρ':Nat→Option Nat}{m m':Mem}{w w':World}{a:Act}
theorem L4 {ops:Array Oper}{pc:PC}{s s':RS}{o:Oper}{run:Option (PC × List Nat)}(h:EN ops pc s o=some (run,s'))(hA:Agr T s'.g)(hpc:pcv T pc)(hk:CG T s.g pc)(hi:Cv T ρ ops s a w):
  s'.tmps=s.tmps∧s'.mem=s.mem∧Aa s.g s'.g∧Cv T ρ ops s' a w∧(run=none→Region.wanted o (yielded ops a.tmps)=false)∧
   (∀pc' imp,run=some (pc',imp)→(Region.wanted o (yielded ops a.tmps)=true↔pcv T pc')∧(pcv T pc'→∀c∈imp,T c= .bool true)∧CG T s'.g pc'∧
    (imp=[]→pcv T pc')∧(imp≠[]→(∃p,pc'=some p)∧∃q,o.guard=some q)):=by
 unfold EN at h
 cases hg:o.guard with
 |none=>
  rw[hg] at h
  cases h
  refine⟨rfl,rfl,Aa.refl _,hi,(fun h=>by cases h),fun pc' imp he=>?_⟩
  cases he
  exact⟨by simp[Region.wanted,hg,hpc],fun _ c hc=>(by cases hc),hk,fun _=>hpc,fun h=>absurd rfl h⟩
 |some jw=>
  obtain⟨j,want⟩:=jw
  have hwant:(Region.wanted o (yielded ops a.tmps)=true↔yielded ops a.tmps j=some want):=by simp[Region.wanted,hg]
  rw[hg] at h
  simp only at h
  split at h
  ·rename_i e es he
   cases h
   have hall:∀x∈e::es,x∈s.gl∧x.j=j∧x.want=want:=by
    intro x hx
    rw[←he] at hx
    obtain⟨h1,h2⟩:=List.mem_filter.1 hx
    simp only[Bool.and_eq_true] at h2
    exact⟨h1,Nat.eq_of_beq_eq_true h2.1,by simpa using h2.2⟩
   obtain⟨hmem,hj,hw⟩:=hall e (List.mem_cons_self ..)
   have hge:=hi.ges e hmem
   refine⟨rfl,rfl,Aa.refl _,hi,(fun h=>by cases h),fun pc' imp he=>?_⟩
   cases he
   refine⟨?_,?_,⟨hge.lt,hge.bool⟩,fun h=>?_,fun _=>⟨⟨_,rfl⟩,_,rfl⟩⟩
   ·rw[hwant,←hj,←hw]
    exact hge.iff.symm
   ·intro hp c hc
    rcases List.mem_append.1 hc with hc|hc
    ·exact hge.imp hp c hc
    ·obtain⟨l,hl,hc⟩:=List.mem_flatten.1 hc
     obtain⟨x,hx,rfl⟩:=List.mem_map.1 hl
     obtain⟨k1,k2,k3⟩:=hall x (List.mem_cons_of_mem _ hx)
     have hgx:=hi.ges x k1
     refine hgx.imp (hgx.iff.2 ?_) c hc
     rw[k2,k3,←hj,←hw]
     exact hge.iff.1 hp
   ·exact absurd (List.append_eq_nil_iff.1 h).1 hge.ne
  ·rename_i hnone
   simp only[Option.bind_eq_bind,Option.bind_eq_some_iff] at h
   obtain⟨oj,hoj,d,hd,c,hc,h⟩:=h
   have hv:=hi.rel.tmps d c hc
   have hy:yielded ops a.tmps j=(match a.tmps.getD d undef with| .bool b=>some b|_=>none):=by
    simp only[yielded,hoj,Option.bind_some,hd]
    rcases Nat.lt_or_ge d a.tmps.size with hlt|hlt
    ·have hget:a.tmps[d]? =some (a.tmps.getD d undef):=by simp[Array.getD_eq_getD_getElem?,hlt]
     rw[hget]
     generalize a.tmps.getD d undef=v
     cases v<;>rfl
    ·have hget:a.tmps[d]? =none:=Array.getElem?_eq_none hlt
     rw[Array.getD_eq_getD_getElem?,hget]
     rfl
   have fin:∀(pc0:PC) (base:List Nat) (c':AC),EC pc0 base s j want c'=some (run,s')→CG T s.g pc0→(pcv T pc0→AB T s.g.n ρ s.mem w c' (a.tmps.getD d undef))→(¬pcv T pc0→a.tmps.getD d undef=undef)→(pcv T pc0→∀c∈base,T c= .bool true)→
     ((pc0=pc∧base=[])∨(base≠[]∧∃p,pc0=some p))→
     s'.tmps=s.tmps∧s'.mem=s.mem∧Aa s.g s'.g∧Cv T ρ ops s' a w∧(run=none→Region.wanted o (yielded ops a.tmps)=false)∧
     (∀pc' imp,run=some (pc',imp)→(Region.wanted o (yielded ops a.tmps)=true↔pcv T pc')∧(pcv T pc'→∀c∈imp,T c= .bool true)∧CG T s'.g pc'∧
      (imp=[]→pcv T pc')∧(imp≠[]→(∃p,pc'=some p)∧∃q,(some (j,want):Option (Nat × Bool))=some q)):=by
    intro pc0 base c' h1 h2 h3 h4 h5 h6
    obtain⟨k1,k2,k3,k4,k5,k6⟩:=ak h1 hA h2 hi hy h3 h4 h5
    refine⟨k1,k2,k3,k4,fun hn=>?_,fun pc' imp he=>?_⟩
    ·have:=k5 hn
     cases hw:Region.wanted o (yielded ops a.tmps) with
     |false=>rfl
     |true=>exact absurd (hwant.1 hw) this
    ·obtain⟨q1,q2,q3,q4⟩:=k6 pc' imp he
     refine⟨hwant.trans q1,q2,q3,fun hemp=>?_,fun hne=>⟨?_,_,rfl⟩⟩
     ·rcases q4 with⟨_,e1,e2⟩|⟨hne,_⟩
      ·rcases h6 with⟨e3,_⟩|⟨e3,_⟩
       ·rw[e1,e3];exact hpc
       ·exact absurd e2 e3
      ·exact absurd hemp hne
     ·rcases q4 with⟨e1,_⟩|⟨_,q5|⟨q5,q6⟩⟩
      ·exact absurd e1 hne
      ·exact q5
      ·rcases h6 with⟨_,e4⟩|⟨_,e5⟩
       ·rw[q6,e4] at hne;exact absurd rfl hne
       ·rw[q5];exact e5
   split at h
   ·
    cases h
    obtain⟨vs,e1,e2⟩:=hv
    rw[show vs=[] from e2] at e1
    refine⟨rfl,rfl,Aa.refl _,hi,fun _=>?_,fun pc' imp he=>by cases he⟩
    cases hw:Region.wanted o (yielded ops a.tmps) with
    |false=>rfl
    |true=>
     have:=hwant.1 hw
     rw[hy,e1] at this
     cases this
   ·rename_i cc c'
    simp only[Option.bind_eq_some_iff] at h
    obtain⟨e,he,h⟩:=h
    have hmem:=List.mem_of_find?_eq_some he
    have hp0:=List.find?_some he
    have hp:e.p=cc:=Nat.eq_of_beq_eq_true hp0
    subst hp
    have hge:=hi.ges e hmem
    exact fin (some e.p) e.imp c' h ⟨hge.lt,hge.bool⟩ hv.2.1 hv.2.2 hge.imp (.inr ⟨hge.ne,_,rfl⟩)
   ·exact fin pc [] c h hk (fun _=>hv) (fun hn=>absurd hpc hn) (fun _ c hc=>by cases hc) (.inl ⟨rfl,rfl⟩)
theorem I3 {ops:Array Oper}{j:Nat}{dst:Option Tmp}(h:((ops[j]?).bind (·.dst))≠dst)(v:Value):yielded ops (a.put dst v).tmps j=yielded ops a.tmps j:=by
 cases dst with
 |none=>rfl
 |some d=>
  simp only[yielded,Act.put]
  cases hd:(ops[j]?).bind (·.dst) with
  |none=>rfl
  |some e=>
   have hne:d≠e:=fun he=>by rw[hd,he] at h;exact h rfl
   simp only[Option.bind_some,Array.getElem?_setIfInBounds,hne,if_false]
theorem OP:∀(x y:Blk),Blk.beq x y=true→x=y
 | .pad,y,h=>by cases y<;>simp_all [Blk.beq]
 | .gone,y,h=>by cases y<;>simp_all [Blk.beq]
 | .cells l e,y,h=>by
  cases y<;>simp[Blk.beq] at h
  rw[AC.beqL_eq l _ h.1,h.2]
 | .tok x ks e,y,h=>by
  cases y<;>simp[Blk.beq] at h
  rw[h.1.1,Kd.beqs_eq ks _ h.1.2,h.2]
 | .lp x a,y,h=>by
  cases y<;>simp[Blk.beq] at h
  rw[h.1,AC.beq_eq a _ h.2]
theorem La:∀{m m':Mem},LV m m'=true→m.length≤m'.length∧∀id,id < m.length→m'.at id=m.at id
 |[],_,_=>⟨Nat.zero_le _,fun id h=>by simp at h⟩
 |_::_,[],h=>by cases h
 |x::m,y::m',h=>by
  simp only[LV,Bool.and_eq_true] at h
  obtain⟨h1,h2⟩:=La h.2
  refine⟨by simp;omega,fun id hid=>?_⟩
  cases id with
  |zero=>simp[Mem.at,OP _ _ h.1]
  |succ id=>
   have:=h2 id (by simpa using hid)
   simpa [Mem.at] using this
theorem YR (m:Mem)(k:Nat)(id:Nat):Mem.at (m++List.replicate k .gone) id=if id < m.length then m.at id else if id < m.length+k then .gone else .pad:=by
 unfold Mem.at
 rw[List.getElem?_append]
 split
 ·rfl
 ·rename_i h
  by_cases hk:id < m.length+k
  ·rw[if_pos hk,List.getElem?_replicate,if_pos (by omega)];rfl
  ·rw[if_neg hk,List.getElem?_eq_none (by simp;omega)];rfl
theorem cJ {o:Oper}{f:Operand}{args:Array Operand}{ts:Array TypeId}{k:FuncId}{first cap:List Value}{fn:Func}(ho:o.op= .call { callee:= .value f,args,argTypes:=ts })
  (hf:a.eval f= .func (.func k) first.toArray cap.toArray) (h1:P.funcs[k]? =some fn) (h2:fn.body.isSome=true) (h3:(fn.name== "runtime.NumGoroutine")=false):
  (execOp a.eval o).run P w= .ok (.enter k (first++(args.toList.map a.eval)++cap).toArray) w:=by
 have hb:fn.body.isNone=false:=by cases hx:fn.body with|none=>rw[hx] at h2;cases h2|some=>rfl
 have arr:first.toArray++args.map a.eval++cap.toArray=(first++(args.toList.map a.eval)++cap).toArray:=by
  apply Array.ext'
  simp
 simp only[execOp,ho,resolve,hf,Deferred.ofValue,Sem.run_bind,Sem.run_pure,Result.andThen_ok,invoke,callFunc,run_program,h1,h3,hb,Bool.false_eq_true,if_false,arr]
theorem Cv.put {ops:Array Oper}{s:RS}(hi:Cv T ρ ops s a w){dst:Option Tmp}(hd:s.gl.any (fun e=>((ops[e.j]?).bind (·.dst))==dst)=false){g':G}(hg:Aa s.g g'){mem':Mem}
  (hs:AO T s.g.n ρ s.mem w ρ' mem' w') (hm':AP T g'.n ρ' mem' w') {c:AC} {v:Value} (hc:AB T g'.n ρ' mem' w' c v):
  Cv T ρ' ops { s with tmps:=D7 s.tmps dst c,mem:=mem',g:=g' } (a.put dst v) w':=by
 refine⟨(hi.rel.on hs hg.n hm').put dst hc,fun e he=>?_⟩
 have h1:=(hi.ges e he).up hg.n
 have hne:((ops[e.j]?).bind (·.dst))≠dst:=by
  intro h
  rw[List.any_eq_false] at hd
  exact hd e he (by simp[h])
 exact⟨h1.lt,h1.bool,by rw[I3 hne];exact h1.iff,h1.imp,h1.ne⟩
end
end Go.Eng
end
noncomputable section
namespace Go.Eng
open Go Go.RowKit
def sel {α:Type}(b:Bool)(x y:α):α:=match b with|true=>x|false=>y
inductive Dc (T:Tab) (n n':Nat) (w:World):Blk→Blk→Prop where
 |pad:Dc T n n' w .pad .pad
 |gone (s:Blk):Dc T n n' w s .gone
 |same (x:Nat) (ks:List Kd) (e:TypeId):Dc T n n' w (.tok x ks e) (.tok x ks e)
 |cells {l l':List AC} {e:TypeId} (h:∀ ρ m vs,AE T n ρ m w l vs→AE T n' ρ m w l' vs):Dc T n n' w (.cells l e) (.cells l' e)
 |tok {x k:Nat} {ks ks':List Kd} {e:TypeId} (h1:n≤k) (h2:k < n') (h4:T k=T x) (h5:ks'.length=ks.length):Dc T n n' w (.tok x ks e) (.tok k ks' e)
 |new {k:Nat} {ks:List Kd} {e:TypeId} (h1:n≤k) (h2:k < n') (h4:T k= .list []):Dc T n n' w .pad (.tok k ks e)
 |lp {s:Nat} {st st':AC} (h:∀ ρ m v,AB T n ρ m w st v→AB T n' ρ m w st' v):Dc T n n' w (.lp s st) (.lp s st')
section
variable {T:Tab}{ρ :Nat→Option Nat}{m:Mem}{w:World}{b:Bool}{sb:Rf}{n n':Nat}
theorem Jy (hsb:(sb.eval T).toB=b)(r r':Rf):(⟨ "if",oIf,[sb,r,r']⟩:Ex).eval T=sel b (r.eval T) (r'.eval T):=by
 cases b<;>simp[Ex.eval,oIf,u0,u1,u2,hsb,sel]
theorem jT (hsb:(sb.eval T).toB=b){k:Nat}{x y:Blk}(hnew:New T k (D4 k sb x y).2)(hk:n≤k)(hl:k+(D4 k sb x y).2.length≤n'):
  Dc T n n' w (sel b x y) (D4 k sb x y).1:=by
 cases x with
 |pad=>
  cases y with
  |pad=>cases b<;>exact .pad
  |gone=>exact .gone _
  |cells l e=>exact .gone _
  |lp=>exact .gone _
  |tok x' ks e'=>
   simp only[D4] at hnew hl⊢
   simp only[List.length_singleton] at hl
   have e:=hnew.head
   rw[Jy hsb] at e
   cases b with
   |true=>exact .new hk (by omega) e
   |false=>exact .tok hk (by omega) e rfl
 |gone=>cases y<;>exact .gone _
 |cells l e=>
  cases y with
  |pad=>exact .gone _
  |gone=>exact .gone _
  |tok=>exact .gone _
  |lp=>exact .gone _
  |cells l' e'=>
   simp only[D4] at hnew hl⊢
   split
   ·rename_i hle
    obtain⟨hll,rfl⟩:=hle
    simp only[hll,and_self,if_true] at hnew hl
    split
    ·rename_i hat
     simp only[hat,if_true] at hnew hl
     have key:∀ ρ m vs,(b=true→AE T n ρ m w l vs)→(b=false→AE T n ρ m w l' vs)→AE T n' ρ m w (MD (fun n=>mix n sb) k l l').1 vs:=fun ρ m vs k1 k2=>
      Ol (fun n0 c d v _ _ a1 a2 a3 a4=>LB hsb (by omega) a1 a2 a3 a4) hll hnew hl k1 k2
     cases b with
     |true=>exact .cells fun ρ m vs h=>key ρ m vs (fun _=>h) (fun h=>by cases h)
     |false=>exact .cells fun ρ m vs h=>key ρ m vs (fun h=>by cases h) (fun _=>h)
    ·exact .gone _
   ·exact .gone _
 |lp s st=>
  cases y with
  |pad=>exact .gone _
  |gone=>exact .gone _
  |cells=>exact .gone _
  |tok=>exact .gone _
  |lp s' st'=>
   simp only[D4] at hnew hl⊢
   split
   ·rename_i hb
    have e:=Nat.eq_of_beq_eq_true hb
    subst e
    simp only[hb,if_true] at hnew hl
    have key:∀ ρ m v,(b=true→AB T n ρ m w st v)→(b=false→AB T n ρ m w st' v)→AB T n' ρ m w (mix k sb st st').1 v:=fun ρ m v k1 k2=>LB hsb (by omega) hnew hl k1 k2
    cases b with
    |true=>exact .lp fun ρ m v h=>key ρ m v (fun _=>h) (fun h=>by cases h)
    |false=>exact .lp fun ρ m v h=>key ρ m v (fun h=>by cases h) (fun _=>h)
   ·exact .gone _
 |tok x ks e=>
  cases y with
  |gone=>exact .gone _
  |cells=>exact .gone _
  |lp=>exact .gone _
  |pad=>
   simp only[D4] at hnew hl⊢
   simp only[List.length_singleton] at hl
   have e:=hnew.head
   rw[Jy hsb] at e
   cases b with
   |false=>exact .new hk (by omega) e
   |true=>exact .tok hk (by omega) e rfl
  |tok x' ks' e'=>
   simp only[D4] at hnew hl⊢
   split
   ·rename_i hb
    simp only[Bool.and_eq_true] at hb
    have e1:=Nat.eq_of_beq_eq_true hb.1.1
    have e2:=Nat.eq_of_beq_eq_true hb.2
    have e3:=Kd.beqs_eq _ _ hb.1.2
    subst e1;subst e2;subst e3
    cases b<;>exact .same _ _ _
   ·rename_i hb
    simp only[hb] at hnew hl
    split
    ·rename_i hc
     obtain⟨rfl,hc⟩:=hc
     simp only[hc,and_self,if_true,Bool.false_eq_true,if_false] at hnew hl
     simp only[List.length_singleton] at hl
     have e:=hnew.head
     rw[Jy hsb] at e
     have hj:=Kd.joins_len ks ks' hc
     cases b with
     |true=>exact .tok hk (by omega) e hj
     |false=>exact .tok hk (by omega) e (by rw[hj,hc])
    ·exact .gone _
theorem lG (id:Nat):Mem.at [] id= .pad:=rfl
theorem Oo (x:Blk)(m:Mem):Mem.at (x::m) 0=x:=rfl
theorem IE (x:Blk)(m:Mem)(id:Nat):Mem.at (x::m) (id+1)=Mem.at m id:=by simp[Mem.at]
theorem Lr (m:Mem):m.headD .pad=m.at 0:=by cases m<;>rfl
theorem Sq (m:Mem)(id:Nat):Mem.at m.tail id=m.at (id+1):=by cases m with
 |nil=>rfl
 |cons x m=>exact (IE x m id).symm
theorem T8:∀(m2:Mem) (n0 id:Nat),∃k,n0≤k∧k+(D4 k sb .pad (m2.at id)).2.length≤n0+(HV sb n0 m2).2.length∧(HV sb n0 m2).1.at id=(D4 k sb .pad (m2.at id)).1∧
  ∀T,New T n0 (HV sb n0 m2).2→New T k (D4 k sb .pad (m2.at id)).2
 |[],n0,id=>⟨n0,Nat.le_refl _,Nat.le_refl _,rfl,fun _ h=>h⟩
 |y::m2,n0,0=>by
  refine⟨n0,Nat.le_refl _,?_,rfl,fun T h=>?_⟩
  ·simp only[HV,List.length_append,Oo];omega
  ·simp only[HV] at h;exact h.left
 |y::m2,n0,id+1=>by
  obtain⟨k,h1,h2,h3,h4⟩:=T8 m2 (n0+(D4 n0 sb .pad y).2.length) id
  refine⟨k,by omega,?_,?_,fun T h=>?_⟩
  ·simp only[HV,List.length_append,IE];omega
  ·simp only[HV,IE];exact h3
  ·simp only[HV] at h
   rw[IE]
   exact h4 T h.right
theorem Si:∀(m1 m2:Mem) (n0 id:Nat),∃k,n0≤k∧k+(D4 k sb (m1.at id) (m2.at id)).2.length≤n0+(CN sb n0 m1 m2).2.length∧(CN sb n0 m1 m2).1.at id=(D4 k sb (m1.at id) (m2.at id)).1∧
  ∀T,New T n0 (CN sb n0 m1 m2).2→New T k (D4 k sb (m1.at id) (m2.at id)).2
 |[],m2,n0,id=>T8 m2 n0 id
 |x::m1,m2,n0,0=>by
  refine⟨n0,Nat.le_refl _,?_,?_,fun T h=>?_⟩
  ·simp only[CN,List.length_append,Oo,Lr];omega
  ·simp only[CN,Oo,Lr]
  ·simp only[CN] at h;rw[Lr] at h;exact h.left
 |x::m1,m2,n0,id+1=>by
  obtain⟨k,h1,h2,h3,h4⟩:=Si m1 m2.tail (n0+(D4 n0 sb x (m2.headD .pad)).2.length) id
  rw[Sq] at h2 h3 h4
  refine⟨k,by omega,?_,?_,fun T h=>?_⟩
  ·simp only[CN,List.length_append,IE];omega
  ·simp only[CN,IE];exact h3
  ·simp only[CN] at h
   rw[IE]
   exact h4 T h.right
def DG (m:Mem)(ρ :Nat→Option Nat):Nat→Option Nat:=fun id=>match m.at id with| .pad=>none|_=> ρ id
theorem IA {id:Nat}(h:m.at id= .pad):DG m ρ id=none:=by simp[DG,h]
theorem Dh {id:Nat}(h:m.at id≠ .pad):DG m ρ id= ρ id:=by
 unfold DG
 split
 ·rename_i hp;exact absurd hp h
 ·rfl
theorem HS {m':Mem}(_hm:AP T n ρ m w)(h:∀id,Dc T n n' w (m.at id) (m'.at id)):AO T n ρ m w (DG m ρ) m' w where
 os:=rfl
 tape:=rfl
 output:=rfl
 size:=Nat.le_refl _
 mlen:=fun id hp=>by
  have:=h id
  generalize m.at id=s at this hp
  generalize m'.at id=z at this
  cases this<;>first|exact absurd rfl hp|(intro h;cases h)
 rho:=fun id hp=>by
  refine⟨Dh (CY hp),?_⟩
  have:=h id
  generalize m.at id=s at this hp
  generalize m'.at id=z at this
  cases this<;>first|rfl|cases hp
 untr:=fun id hp ht=>by
  have:=h id
  generalize m.at id=s at this hp
  generalize m'.at id=z at this ht
  cases this<;>first|rfl|exact absurd rfl hp|cases ht
 fresh:=fun id b hp _ hr=>by rw[IA hp] at hr;cases hr
 old:=fun _ _ _=>rfl
 tok:=fun id x ks e hx=>by
  have:=h id
  have hne:m.at id≠ .pad:=by rw[hx];exact fun h=>by cases h
  rw[hx] at this
  generalize hz:m'.at id=z at this
  cases this with
  |gone=>exact .inr ⟨fun _ _ _ _=>rfl,.inl rfl⟩
  |same=>exact .inl ⟨rfl,Dh hne,fun _ _=>rfl⟩
  |tok h1 h2 h4 h5=>
   rename_i k ks'
   refine .inr ⟨fun _ _ _ _=>rfl,.inr ⟨k,ks',e,rfl,h1,fun b' hb=> .inl ⟨by rw[←Dh (ρ := ρ) hne];exact hb,?_⟩⟩⟩
   simp only[Ci,h4,h5]
   exact Nat.le_refl _
theorem Q8 {m':Mem}(hm:AP T n ρ m w)(hn:n≤n')(h:∀id,Dc T n n' w (m.at id) (m'.at id)):AP T n' (DG m ρ) m' w where
 blk:=fun id=>by
  have hst:=HS hm h
  have hb:=hm.blk id
  have ht:=h id
  cases hs:m.at id with
  |pad=>
   rw[hs] at ht
   generalize hz:m'.at id=z at ht
   cases ht with
   |pad=>trivial
   |gone=>trivial
   |new h1 h2 h4=>exact⟨h2,_,h4,.inl ⟨IA hs,rfl⟩⟩
  |gone=>
   rw[hs] at ht
   generalize hz:m'.at id=z at ht
   cases ht
   trivial
  |cells l e=>
   have hne:m.at id≠ .pad:=by rw[hs];exact fun h=>by cases h
   rw[hs] at ht hb
   obtain⟨b,vs,h1,h2,h3⟩:=hb
   generalize hz:m'.at id=z at ht
   cases ht with
   |gone=>trivial
   |cells hc=>
    exact⟨b,vs,by rw[Dh hne];exact h1,h2,hc _ _ vs (AE.mono hst hm (Nat.le_refl _) _ vs h3)⟩
  |lp x st=>
   have hne:m.at id≠ .pad:=by rw[hs];exact fun h=>by cases h
   rw[hs] at ht hb
   obtain⟨b,q,h1,h2,h3,h4,h5,h9,h6,j,h7,h8⟩:=hb
   generalize hz:m'.at id=z at ht
   cases ht with
   |gone=>trivial
   |lp hc=>
    exact⟨b,q,by rw[Dh hne];exact h1,h2,h3,h4,h5,h9,fun i c hcc=>AB.mono hst hm hn _ _ (h6 i c hcc),j,hc _ _ _ (AB.mono hst hm (Nat.le_refl _) _ _ h7),h8⟩
  |tok x ks e=>
   have hne:m.at id≠ .pad:=by rw[hs];exact fun h=>by cases h
   rw[hs] at ht hb
   obtain⟨h0,r,h1,h2⟩:=hb
   generalize hz:m'.at id=z at ht
   cases ht with
   |gone=>trivial
   |same=>
    refine⟨Nat.lt_of_lt_of_le h0 hn,r,h1,?_⟩
    rw[Dh hne]
    exact h2
   |tok k1 k2 k4 k5=>
    refine⟨k2,r,by rw[k4,h1],?_⟩
    rw[Dh hne,k5]
    exact h2
 fr:=hm.fr
 inj:=fun id id' b ht ht' h1 h2=>by
  have hst:=HS hm h
  have old:∀id,(m'.at id).tracked=true→DG m ρ id=some b→(m.at id).tracked=true∧ ρ id=some b:=by
   intro id ht hr
   by_cases hp:m.at id= .pad
   ·rw[IA hp] at hr;cases hr
   ·exact⟨hst.untr id hp ht,by rw[←Dh (ρ := ρ) hp];exact hr⟩
  obtain⟨a1,a2⟩:=old id ht h1
  obtain⟨a3,a4⟩:=old id' ht' h2
  exact hm.inj id id' b a1 a3 a2 a4
end
end Go.Eng
end
noncomputable section
namespace Go.Eng
open Go Go.RowKit
theorem ew {kx ky:List Kd}(h:kx.length=ky.length):Kd.join (.list kx) (.list ky)= .list (Kd.joins kx ky):=by
 cases kx with
 |nil=>cases ky with
  |nil=>rfl
  |cons=>simp at h
 |cons a l=>cases ky with
  |nil=>simp at h
  |cons c l'=>
   simp only[Kd.join]
   rw[if_pos h]
section
variable {T:Tab}{ρ :Nat→Option Nat}{m m1 m2:Mem}{w:World}{b:Bool}{sb:Rf}{n n':Nat}
theorem ON (hsb:(sb.eval T).toB=b){n0:Nat}(hn0:n≤n0)(hnew:New T n0 (CN sb n0 m1 m2).2)(hl:n0+(CN sb n0 m1 m2).2.length≤n'):
  ∀id,Dc T n n' w ((sel b m1 m2).at id) ((CN sb n0 m1 m2).1.at id):=by
 intro id
 obtain⟨k,h1,h2,h3,h4⟩:=Si (sb:=sb) m1 m2 n0 id
 rw[h3]
 have e:(sel b m1 m2).at id=sel b (m1.at id) (m2.at id):=by cases b<;>rfl
 rw[e]
 exact jT hsb (h4 T hnew) (by omega) (by omega)
theorem OI (hsb:(sb.eval T).toB=b){n0 id z:Nat}{kz:List Kd}{e:TypeId}(hnew:New T n0 (CN sb n0 m1 m2).2)(hl:n0+(CN sb n0 m1 m2).2.length≤n')(hz:(CN sb n0 m1 m2).1.at id= .tok z kz e):
  (∀x kx y ky e1 e2,m1.at id= .tok x kx e1→m2.at id= .tok y ky e2→e1=e∧e2=e∧((z=x∧z=y∧kz=kx∧kz=ky)∨(z < n'∧T z=sel b (T x) (T y)∧kx.length=ky.length∧kz=Kd.joins kx ky)))∧
  (∀x kx e1,m1.at id= .tok x kx e1→m2.at id= .pad→e1=e∧kz=kx∧z < n'∧T z=sel b (T x) (.list []))∧
  (∀y ky e2,m1.at id= .pad→m2.at id= .tok y ky e2→e2=e∧kz=ky∧z < n'∧T z=sel b (.list []) (T y)):=by
 obtain⟨k,h1,h2,h3,h4⟩:=Si (sb:=sb) m1 m2 n0 id
 rw[h3] at hz
 have hnk:=h4 T hnew
 refine⟨fun x kx y ky e1 e2 a1 a2=>?_,fun x kx e1 a1 a2=>?_,fun y ky e2 a1 a2=>?_⟩
 ·rw[a1,a2] at hz hnk h2
  simp only[D4] at hz hnk h2
  split at hz
  ·rename_i hb
   simp only[Bool.and_eq_true] at hb
   have i1:=Nat.eq_of_beq_eq_true hb.1.1
   have i2:=Nat.eq_of_beq_eq_true hb.2
   have i3:=Kd.beqs_eq _ _ hb.1.2
   injection hz with j1 j2 j3
   exact⟨j3,by rw[←i2];exact j3,.inl ⟨j1.symm,by rw[←i1];exact j1.symm,j2.symm,by rw[←i3];exact j2.symm⟩⟩
  ·rename_i hb
   simp only[hb] at hnk h2
   split at hz
   ·rename_i hc
    obtain⟨rfl,hc⟩:=hc
    simp only[hc,and_self,if_true,Bool.false_eq_true,if_false] at hnk h2
    simp only[List.length_singleton] at h2
    injection hz with j1 j2 j3
    refine⟨j3,j3,.inr ⟨by omega,?_,hc,j2.symm⟩⟩
    rw[←j1,hnk.head,Jy hsb]
    rfl
   ·cases hz
 ·rw[a1,a2] at hz hnk h2
  simp only[D4] at hz hnk h2
  simp only[List.length_singleton] at h2
  injection hz with j1 j2 j3
  refine⟨j3,j2.symm,by omega,?_⟩
  rw[←j1,hnk.head,Jy hsb]
  rfl
 ·rw[a1,a2] at hz hnk h2
  simp only[D4] at hz hnk h2
  simp only[List.length_singleton] at h2
  injection hz with j1 j2 j3
  refine⟨j3,j2.symm,by omega,?_⟩
  rw[←j1,hnk.head,Jy hsb]
  rfl
theorem Ix {id x z:Nat}{kx kz:List Kd}{e:TypeId}{v:Value}(hst:AO T n ρ m1 w (DG m1 ρ) m w)(h:AB T n ρ m1 w (.vec id x kx) v)(ht:m1.at id= .tok x kx e)(hz:m.at id= .tok z kz e)(hzn:z < n')(hTz:T z=T x)
  (hlen:kz.length=kx.length) (hk:∀ok:Nat→Nat→Prop,Ak ok w (.list kx) (T x) v→Ak ok w (.list kz) (T x) v):AB T n' (DG m1 ρ) m w (.vec id z kz) v:=by
 obtain⟨h2,h3,h4,h5⟩:=h
 refine⟨hzn,by rw[hz];exact (fun h=>by cases h),?_,fun ks' e' he=>?_⟩
 ·rw[hTz]
  exact hk _ (Ak.mono (fun _ _ hs=>hst.safe0 hs) _ _ v h4)
 ·rw[hz] at he
  injection he with _ he1 he2
  subst he1;subst he2
  rcases h5 kx e ht with⟨l1,l2⟩|⟨bb,cap,vs,l1,l2,l3,l4⟩
  ·exact .inl ⟨by rw[Dh h3];exact l1,l2⟩
  ·exact .inr ⟨bb,cap,vs,by rw[Dh h3];exact l1,by rw[hTz];exact l2,l3,by rw[hlen];exact l4⟩
theorem Tb (hsb:(sb.eval T).toB=b)(hm:AP T n ρ (sel b m1 m2) w){n0:Nat}(hn0:n≤n0)(hnew:New T n0 (CN sb n0 m1 m2).2)(hl:n0+(CN sb n0 m1 m2).2.length≤n'){c d a:AC}{v:Value}
  (ha:GZ (CN sb n0 m1 m2).1 m1 m2 c d=some a)
  (h1:AB T n ρ (sel b m1 m2) w (sel b c d) v):AB T n' (DG (sel b m1 m2) ρ) (CN sb n0 m1 m2).1 w a v:=by
 have hst:=HS hm (ON (n:=n) hsb hn0 hnew hl)
 have hto:∀{id:Nat} {a:AC},KM (CN sb n0 m1 m2).1 id=some a→∃z ks e,(CN sb n0 m1 m2).1.at id= .tok z ks e∧a= .vec id z ks:=by
  intro id a h
  unfold KM at h
  split at h
  ·rename_i z ks e hz;cases h;exact⟨z,ks,e,hz,rfl⟩
  ·cases h
 unfold GZ at ha
 simp only at ha
 split at ha
 ·rename_i id x kx id' x' kx'
  split at ha
  ·rename_i hid
   have:=Nat.eq_of_beq_eq_true hid
   subst this
   split at ha
   ·rename_i y ky e y' ky' e' hy hy'
    split at ha
    ·rename_i hxy
     simp only[Bool.and_eq_true] at hxy
     have i1:=Nat.eq_of_beq_eq_true hxy.1.1.1
     have i2:=Nat.eq_of_beq_eq_true hxy.1.1.2
     have i3:=Kd.beqs_eq _ _ hxy.1.2
     have i4:=Kd.beqs_eq _ _ hxy.2
     subst i1;subst i2;subst i3;subst i4
     obtain⟨z,kz,e2,hz,rfl⟩:=hto ha
     obtain⟨j1,j2,j3⟩:=(OI hsb hnew hl hz).1 x kx x' kx' e e' hy hy'
     subst j1;subst j2
     rcases j3 with⟨q1,q2,q3,q4⟩|⟨q1,q2,q3,q4⟩
     ·cases b with
      |true=>
       have hx:x < n:=h1.1
       exact Ix hst h1 hy hz (by rw[q1];omega) (by rw[q1]) (by rw[q3]) fun ok h=>by rw[q3];exact h
      |false=>
       have hx:x' < n:=h1.1
       exact Ix hst h1 hy' hz (by rw[q2];omega) (by rw[q2]) (by rw[q4]) fun ok h=>by rw[q4];exact h
     ·have hjl:=Kd.joins_len kx kx' q3
      have hjj:=ew q3
      cases b with
      |true=>exact Ix hst h1 hy hz q1 q2 (by rw[q4,hjl]) fun ok h=>by rw[q4,←hjj];exact Kd.join_l _ _ _ _ h
      |false=>exact Ix hst h1 hy' hz q1 q2 (by rw[q4,hjl,q3]) fun ok h=>by rw[q4,←hjj];exact Kd.join_r _ _ _ _ h
    ·cases ha
   ·cases ha
  ·cases ha
 ·rename_i id x kx
  split at ha
  ·rename_i y ky e hy hy'
   split at ha
   ·rename_i hxy
    simp only[Bool.and_eq_true] at hxy
    have i1:=Nat.eq_of_beq_eq_true hxy.1
    have i3:=Kd.beqs_eq _ _ hxy.2
    subst i1;subst i3
    obtain⟨z,kz,e2,hz,rfl⟩:=hto ha
    obtain⟨j1,q0,q1,q2⟩:=(OI hsb hnew hl hz).2.1 x kx e hy hy'
    subst j1;subst q0
    cases b with
    |true=>exact Ix hst h1 hy hz q1 q2 rfl fun ok h=>h
    |false=>
     have hv:v= .slice none 0 0:=h1
     subst hv
     refine⟨q1,by rw[hz];exact (fun h=>by cases h),by rw[q2];exact E3 _ _,fun ks' e' _=> .inl ⟨IA hy',rfl⟩⟩
   ·cases ha
  ·cases ha
 ·rename_i id x kx
  split at ha
  ·rename_i y ky e hy hy'
   split at ha
   ·rename_i hxy
    simp only[Bool.and_eq_true] at hxy
    have i1:=Nat.eq_of_beq_eq_true hxy.1
    have i3:=Kd.beqs_eq _ _ hxy.2
    subst i1;subst i3
    obtain⟨z,kz,e2,hz,rfl⟩:=hto ha
    obtain⟨j1,q0,q1,q2⟩:=(OI hsb hnew hl hz).2.2 x kx e hy hy'
    subst j1;subst q0
    cases b with
    |false=>exact Ix hst h1 hy' hz q1 q2 rfl fun ok h=>h
    |true=>
     have hv:v= .slice none 0 0:=h1
     subst hv
     refine⟨q1,by rw[hz];exact (fun h=>by cases h),by rw[q2];exact E3 _ _,fun ks' e' _=> .inl ⟨IA hy,rfl⟩⟩
   ·cases ha
  ·cases ha
 ·cases ha
theorem SP {m:Mem}:∀(r b1 b2:Mem) (id:Nat),(Py m m1 m2 r b1 b2).at id=XT m m1 m2 (b1.at id) (b2.at id) (r.at id)
 |[],b1,b2,id=>by
  show Blk.pad=_
  simp only[lG]
  cases b1.at id<;>cases b2.at id<;>rfl
 |z::r,b1,b2,0=>by simp only[Py,Oo,Lr]
 |z::r,b1,b2,id+1=>by
  simp only[Py,IE]
  rw[SP r b1.tail b2.tail id,Sq,Sq]
theorem Li {m:Mem}(x y z:Blk):XT m m1 m2 x y z=z∨∃l e1 l' e2 r e,x= .cells l e1∧y= .cells l' e2∧z= .cells r e∧XT m m1 m2 x y z= .cells (H5 m m1 m2 l l' r) e:=by
 cases x<;>cases y<;>cases z<;>first|exact .inl rfl|exact .inr ⟨_,_,_,_,_,_,rfl,rfl,rfl,rfl⟩
theorem Ro {k:Nat}{m m':Mem}(h:∀id,m'.at id=m.at id∨∃l l' e,m.at id= .cells l e∧m'.at id= .cells l' e):AO T k ρ m w ρ m' w where
 os:=rfl
 tape:=rfl
 output:=rfl
 size:=Nat.le_refl _
 mlen:=fun id hp=>by
  rcases h id with e|⟨l,l',e,h1,h2⟩
  ·rw[e];exact hp
  ·rw[h2];exact fun h=>by cases h
 rho:=fun id hp=>by
  refine⟨rfl,?_⟩
  rcases h id with e|⟨l,l',e,h1,h2⟩
  ·rw[e];exact hp
  ·rw[h2];rfl
 untr:=fun id hp ht=>by
  rcases h id with e|⟨l,l',e,h1,h2⟩
  ·rw[←e];exact ht
  ·rw[h1];rfl
 fresh:=fun id b hp ht hr=>by
  rcases h id with e|⟨l,l',e,h1,h2⟩
  ·rw[e,hp] at ht;cases ht
  ·rw[hp] at h1;cases h1
 old:=fun _ _ _=>rfl
 tok:=fun id x ks e hx=>by
  rcases h id with e1|⟨l,l',e2,h1,h2⟩
  ·exact .inl ⟨by rw[e1];exact hx,rfl,fun _ _=>rfl⟩
  ·rw[hx] at h1;cases h1
theorem fG {k:Nat}{m m':Mem}(hm:AP T k ρ m w)(h:∀id,m'.at id=m.at id∨∃l l' e,m.at id= .cells l e∧m'.at id= .cells l' e∧∀vs b, ρ id=some b→w.heap[b]? =some (.cells (vs:List Value).toArray e (0,0))→AE T k ρ m w l vs→AE T k ρ m w l' vs):AP T k ρ m' w:=by
 have hst:AO T k ρ m w ρ m' w:=Ro fun id=>by
  rcases h id with e|⟨l,l',e,h1,h2,_⟩
  ·exact .inl e
  ·exact .inr ⟨l,l',e,h1,h2⟩
 refine⟨fun id=>?_,fun id id' b h1 h2=>?_,hm.fr⟩
 ·have hb:=hm.blk id
  rcases h id with e|⟨l,l',e,h1,h2,h3⟩
  ·rw[e]
   cases hs:m.at id with
   |pad=>trivial
   |gone=>trivial
   |cells l e=>
    rw[hs] at hb
    obtain⟨b,vs,q1,q2,q3⟩:=hb
    exact⟨b,vs,q1,q2,AE.mono hst hm (Nat.le_refl _) _ vs q3⟩
   |tok x ks e=>rw[hs] at hb;exact hb
   |lp x st=>
    rw[hs] at hb
    obtain⟨b,q,h1,h2,h3,h4,h5,h9,h6,j,h7,h8⟩:=hb
    exact⟨b,q,h1,h2,h3,h4,h5,h9,fun i c hcc=>AB.mono hst hm (Nat.le_refl _) _ _ (h6 i c hcc),j,AB.mono hst hm (Nat.le_refl _) _ _ h7,h8⟩
  ·rw[h1] at hb
   obtain⟨b,vs,q1,q2,q3⟩:=hb
   rw[h2]
   exact⟨b,vs,q1,q2,AE.mono hst hm (Nat.le_refl _) _ vs (h3 vs b q1 q2 q3)⟩
 ·have tr:∀id,(m'.at id).tracked=(m.at id).tracked:=fun id=>by
   rcases h id with e|⟨l,l',e,h1,h2,_⟩
   ·rw[e]
   ·rw[h1,h2];rfl
  rw[tr] at h1 h2
  exact hm.inj id id' b h1 h2
theorem PP {m:Mem}{k1 k2:Nat}{ρ1 ρ2:Nat→Option Nat}{ms:Mem}(hr:∀c d a v,GZ m m1 m2 c d=some a→AB T k1 ρ1 ms w (sel b c d) v→AB T k2 ρ2 m w a v):
  ∀(l l' r:List AC) (vs:List Value),AE T k1 ρ1 ms w (sel b l l') vs→AE T k2 ρ2 m w r vs→AE T k2 ρ2 m w (H5 m m1 m2 l l' r) vs
 |c::l,d::l',a::r,vs,h1,h2=>by
  obtain⟨u,us,e,h3,h4⟩:=h2
  have h1':∃u us,vs=u::us∧AB T k1 ρ1 ms w (sel b c d) u∧AE T k1 ρ1 ms w (sel b l l') us:=by cases b<;>exact h1
  obtain⟨u',us',e',h5,h6⟩:=h1'
  rw[e] at e'
  injection e' with e1 e2
  subst e1;subst e2
  refine⟨u,us,e,?_,PP hr l l' r us h6 h4⟩
  cases hx:GZ m m1 m2 c d with
  |none=>exact h3
  |some z=>exact hr c d z u hx h5
 |[],_,r,vs,_,h2=>by simpa [H5] using h2
 |_::_,[],r,vs,_,h2=>by simpa [H5] using h2
 |_::_,_::_,[],vs,_,h2=>by simpa [H5] using h2
theorem LF (hsb:(sb.eval T).toB=b)(hm:AP T n ρ (sel b m1 m2) w){n0:Nat}(hn0:n≤n0)(hnew:New T n0 (CL sb n0 m1 m2).2)(hl:n0+(CL sb n0 m1 m2).2.length≤n'):
  AP T n' (DG (sel b m1 m2) ρ) (CL sb n0 m1 m2).1 w∧AO T n ρ (sel b m1 m2) w (DG (sel b m1 m2) ρ) (CL sb n0 m1 m2).1 w∧AO T n' (DG (sel b m1 m2) ρ) (CN sb n0 m1 m2).1 w (DG (sel b m1 m2) ρ) (CL sb n0 m1 m2).1 w∧AP T n' (DG (sel b m1 m2) ρ) (CN sb n0 m1 m2).1 w:=by
 have hnew0:New T n0 (CN sb n0 m1 m2).2:=hnew
 have hl0:n0+(CN sb n0 m1 m2).2.length≤n':=hl
 have ht:=ON (n:=n) (n':=n') (w:=w) hsb hn0 hnew0 hl0
 have hmem:=Q8 hm (by omega) ht
 have hst:=HS hm ht
 have hat:∀id,(CL sb n0 m1 m2).1.at id=XT (CN sb n0 m1 m2).1 m1 m2 (m1.at id) (m2.at id) ((CN sb n0 m1 m2).1.at id):=fun id=>SP _ _ _ id
 have hstep:AO T n' (DG (sel b m1 m2) ρ) (CN sb n0 m1 m2).1 w (DG (sel b m1 m2) ρ) (CL sb n0 m1 m2).1 w:=Ro fun id=>by
  rw[hat]
  rcases Li (m:=(CN sb n0 m1 m2).1) (m1:=m1) (m2:=m2) (m1.at id) (m2.at id) ((CN sb n0 m1 m2).1.at id) with e|⟨l,e1,l',e2,r,e,_,_,h3,h4⟩
  ·exact .inl e
  ·exact .inr ⟨r,_,e,h3,h4⟩
 refine⟨fG hmem fun id=>?_,hst.trans hm (by omega) hstep,hstep,hmem⟩
 rw[hat]
 rcases Li (m:=(CN sb n0 m1 m2).1) (m1:=m1) (m2:=m2) (m1.at id) (m2.at id) ((CN sb n0 m1 m2).1.at id) with e|⟨l,e1,l',e2,r,e,h1,h2,h3,h4⟩
 ·exact .inl e
 ·refine .inr ⟨r,_,e,h3,h4,fun vs bb q1 q2 q3=>?_⟩
  have hb:=hm.blk id
  have hsel:(sel b m1 m2).at id= .cells (sel b l l') (sel b e1 e2):=by cases b with|true=>exact h1|false=>exact h2
  rw[hsel] at hb
  obtain⟨b0,vs0,p1,p2,p3⟩:=hb
  have hne:(sel b m1 m2).at id≠ .pad:=by rw[hsel];exact fun h=>by cases h
  rw[Dh hne,p1] at q1
  cases q1
  rw[p2] at q2
  injection q2 with q2
  injection q2 with q2
  have q2':vs0=vs:=by simpa using q2
  subst q2'
  exact PP (b:=b) (fun c d a v hc hv=>Tb hsb hm hn0 hnew0 hl0 hc hv) l l' r _ p3 q3
theorem du {m:Mem}{r b1 b2:Mem}(c d:AC):GZ (Py m m1 m2 r b1 b2) m1 m2 c d=GZ r m1 m2 c d:=by
 have ht:∀id,KM (Py m m1 m2 r b1 b2) id=KM r id:=fun id=>by
  unfold KM
  rw[SP]
  rcases Li (m:=m) (m1:=m1) (m2:=m2) (b1.at id) (b2.at id) (r.at id) with e|⟨l,e1,l',e2,q,e,_,_,h3,h4⟩
  ·rw[e]
  ·rw[h4,h3]
 unfold GZ
 simp only[ht]
theorem gI (hsb:(sb.eval T).toB=b)(hm:AP T n ρ (sel b m1 m2) w){n0:Nat}(hn0:n≤n0)(hnew:New T n0 (CL sb n0 m1 m2).2)(hl:n0+(CL sb n0 m1 m2).2.length≤n'){c d:AC}{v:Value}{k:Nat}
  (hk:n≤k)
  (hnew':New T k (Ok (CL sb n0 m1 m2).1 m1 m2 sb k c d).2)
  (hl':k+(Ok (CL sb n0 m1 m2).1 m1 m2 sb k c d).2.length≤n')
  (h1:AB T n ρ (sel b m1 m2) w (sel b c d) v):AB T n' (DG (sel b m1 m2) ρ) (CL sb n0 m1 m2).1 w (Ok (CL sb n0 m1 m2).1 m1 m2 sb k c d).1 v:=by
 obtain⟨_,hst,hst2,hm2⟩:=LF hsb hm hn0 hnew hl
 have hrl:GZ (CL sb n0 m1 m2).1 m1 m2 c d=GZ (CN sb n0 m1 m2).1 m1 m2 c d:=du c d
 unfold Ok at hnew' hl'⊢
 rw[hrl] at hnew' hl'⊢
 split
 ·rename_i a ha
  exact AB.mono hst2 hm2 (Nat.le_refl _) _ _ (Tb hsb hm hn0 hnew hl ha h1)
 ·rename_i hr
  rw[hr] at hnew' hl'
  simp only at hnew' hl'
  have h2:=AB.mono hst hm (Nat.le_refl _) _ _ h1
  refine Sa (n:=n) hsb (by omega) hnew' hl' (fun hb=>?_) (fun hb=>?_)
  ·subst hb;exact h2
  ·subst hb;exact h2
theorem Tr.get_node (v:Option AC)(l r:Tr)(i:Nat):(Tr.node v l r).get i=if i=0 then v else if i % 2=1 then l.get (i / 2) else r.get (i / 2 - 1):=by
 rw[Tr.get_step];rfl
theorem QE {f:Nat→AC→AC→AC × List Ex}:∀(t1 t2:Tr) (n0:Nat),New T n0 (EG f n0 t1 t2).2→n0+(EG f n0 t1 t2).2.length≤n'→∀(i:Nat) (c:AC),(EG f n0 t1 t2).1.get i=some c→
  ∃k c1 c2,n0≤k∧t1.get i=some c1∧t2.get i=some c2∧c=(f k c1 c2).1∧New T k (f k c1 c2).2∧k+(f k c1 c2).2.length≤n'
 | .nil,t2,n0,_,_,i,c,h=>by simp[EG,Tr.get] at h
 | .node v l r,.nil,n0,_,_,i,c,h=>by simp[EG,Tr.get] at h
 | .node v l r,.node v' l' r',n0,hnew,hl,i,c,h=>by
  rw[Tr.get_node,Tr.get_node]
  have e:EG f n0 (.node v l r) (.node v' l' r')=(.node (K3 f n0 v v').1 (EG f (n0+(K3 f n0 v v').2.length) l l').1 (EG f (n0+(K3 f n0 v v').2.length+(EG f (n0+(K3 f n0 v v').2.length) l l').2.length) r r').1,(K3 f n0 v v').2++((EG f (n0+(K3 f n0 v v').2.length) l l').2++(EG f (n0+(K3 f n0 v v').2.length+(EG f (n0+(K3 f n0 v v').2.length) l l').2.length) r r').2)):=rfl
  rw[e] at hnew hl h
  simp only[List.length_append] at hl
  rw[Tr.get_node] at h
  by_cases h0:i=0
  ·rw[if_pos h0] at h⊢
   rw[if_pos h0]
   cases v with
   |none=>cases v'<;>cases h
   |some a=>
    cases v' with
    |none=>cases h
    |some a'=>
     cases h
     refine⟨n0,a,a',Nat.le_refl _,rfl,rfl,rfl,hnew.left,?_⟩
     simp only[K3] at hl
     omega
  ·rw[if_neg h0] at h⊢
   rw[if_neg h0]
   by_cases h1:i % 2=1
   ·rw[if_pos h1] at h⊢
    rw[if_pos h1]
    obtain⟨k,c1,c2,q1,q2⟩:=QE l l' _ hnew.right.left (by omega) _ c h
    exact⟨k,c1,c2,by omega,q2⟩
   ·rw[if_neg h1] at h⊢
    rw[if_neg h1]
    obtain⟨k,c1,c2,q1,q2⟩:=QE r r' _ hnew.right.right (by omega) _ c h
    exact⟨k,c1,c2,by omega,q2⟩
theorem Al.get_flat {s:Al}{i:Nat}{c:AC}(h:s.flat.get i=some c):s.get i=some c:=by
 unfold Al.flat at h
 split at h
 ·rename_i hl
  have:s.loc=[]:=by simpa using hl
  simp[Al.get,this,B6,h]
 ·cases h
theorem UO (hsb:(sb.eval T).toB=b){l1 l2:Loc}(hll:l1.tmps.n=l2.tmps.n){n0:Nat}(hn0:n≤n0)(hnew:New T n0 (HQ n0 sb l1 l2).2)(hl:n0+(HQ n0 sb l1 l2).2.length≤n'){a:Act}(h:Rel T n ρ (sel b l1 l2) a w):
  ∃ ρ',AO T n ρ (sel b l1 l2).mem w ρ' (HQ n0 sb l1 l2).1.mem w∧Rel T n' ρ' (HQ n0 sb l1 l2).1 a w:=by
 have em:(sel b l1 l2).mem=sel b l1.mem l2.mem:=by cases b<;>rfl
 have et:(sel b l1 l2).tmps=sel b l1.tmps l2.tmps:=by cases b<;>rfl
 have hm:=h.mem
 rw[em] at hm
 simp only[HQ,List.length_append] at hnew hl⊢
 obtain⟨hmem,hst,-,-⟩:=LF (n':=n') hsb hm hn0 hnew.left (by omega)
 rw[em]
 have hd:=h.defers
 rw[em] at hd
 refine⟨_,hst,hd.on hst,?_,?_,hmem⟩
 ·rw[h.size,et]
  cases b<;>simp[sel,hll]
 ·intro i c hc
  have hc':(EG (Ok (CL sb n0 l1.mem l2.mem).1 l1.mem l2.mem sb) (n0+(CL sb n0 l1.mem l2.mem).2.length) l1.tmps.flat l2.tmps.flat).1.get i=some c:=by
   simpa [Al.get,B6] using hc
  obtain⟨k,c1,c2,q1,q2,q3,q4,q5,q6⟩:=QE (n':=n') _ _ _ hnew.right (by omega) i c hc'
  subst q4
  have hh:AB T n ρ (sel b l1.mem l2.mem) w (sel b c1 c2) (a.tmps.getD i undef):=by
   rw[←em]
   refine h.tmps i _ ?_
   rw[et]
   cases b
   ·exact Al.get_flat q3
   ·exact Al.get_flat q2
  exact gI hsb hm hn0 hnew.left (by omega) (by omega) q5 q6 hh
end
end Go.Eng
end
noncomputable section
namespace Go.Eng
open Go Go.RowKit
section
variable {P:Program}{T:Tab}{call:By}{r:Option Nat}{k:Nat}
def Ga (P:Program)(r:Option Nat)(k:Nat)(ops:Array Oper)(o:Oper)(a:Act)(w:World)(K:Act→World→Prop)(Q:Exit→Act→World→Prop):Prop:=
 if Region.wanted o (yielded ops a.tmps) then o.wpIn (fen r) k P a w K Q else K (a.put o.dst undef) w
theorem Ov {o:Oper}{a:Act}{w:World}{K:Act→World→Prop}{Q:Exit→Act→World→Prop}(ho:∀c,o.op≠ .defer c)(h:o.uponIn (fen r) k P a K Q ((execOp a.eval o).run P w)):o.wpIn (fen r) k P a w K Q:=by
 refine⟨fun _ _=>trivial,?_⟩
 rw[Oper.semAt_eq _ _ _ ho]
 exact h
theorem TE {o:Oper}{a:Act}{w:World}{g:G}{ρ :Nat→Option Nat}{m:Mem}{r':R}{K:Act→World→Prop}{Q:Exit→Act→World→Prop}(ho:∀c,o.op≠ .defer c)(h:B4 T g ρ m w ((execOp a.eval o).run P w) r')
  (hK:∀v w' ρ',AO T g.n ρ m w ρ' r'.m w'→AP T (g.n+r'.us.length) ρ' r'.m w'→AB T (g.n+r'.us.length) ρ' r'.m w' r'.c v→K (a.put o.dst v) w'):o.wpIn (fen r) k P a w K Q:=by
 refine Ov ho ?_
 obtain⟨v,w', ρ',h1|⟨h1,rfl⟩,h2,h3,h4⟩:=h
 ·rw[h1];exact hK v w' ρ' h2 h3 h4
 ·rw[h1];exact hK _ w' ρ' h2 h3 h4
theorem fT {o:Oper}{a:Act}{w:World}{f:Operand}{args:Array Operand}{ts:Array TypeId}{b:Nat}{q:Loop}(ho:o.op= .call { callee:= .value f,args,argTypes:=ts })
  (hf:a.eval f= .func (.yield b) #[] #[]) (hb:w.heap[b]? =some (.loop q)) (hl:(args.toList.map a.eval).length=q.params.size):
  (execOp a.eval o).run P w= .ok (.round b q.fn ((q.params.zip (args.toList.map a.eval).toArray).foldl (fun t (p,v)=>t.setIfInBounds p v) q.tmps) q.assign q.body) w:=by
 have arr:args.map a.eval=(args.toList.map a.eval).toArray:=by rw[←Array.toList_map,Array.toArray_toList]
 have hl2:(args.map a.eval).size=q.params.size:=by simpa using hl
 have hy:=run_yield (P:=P) (args:=args.map a.eval) hb hl2
 simp only[execOp,ho,resolve,hf,Deferred.ofValue,Sem.run_bind,Sem.run_pure,Result.andThen_ok,invoke]
 rw[←arr]
 simpa using hy
theorem db {o:Oper}{a:Act}{w:World}{f:Operand}{args:Array Operand}{ts:Array TypeId}{R:Ending→World→Prop}{K:Act→World→Prop}{Q:Exit→Act→World→Prop}(ho:o.op= .call { callee:= .value f,args,argTypes:=ts })
  (h:Jr P (a.eval f) (args.toList.map a.eval) w R) (hR:∀e w',R e w'→∃v,e= .returned v∧K (a.put o.dst v) w'):o.wpIn (fen r) k P a w K Q:=by
 refine Ov (fun c hc=>by rw[ho] at hc;cases hc) ?_
 rcases h with⟨j,first,cap,fn,h1,h2,h3,h4,h5⟩|⟨b,q,h1,h2,h3,h4⟩
 ·rw[cJ ho h1 h2 h3 h4,Oper.uponIn_enter]
  refine⟨fun h=>(by cases h),Pj (h5.mono fun e w' hh=>?_)⟩
  obtain⟨v,rfl,hK⟩:=hR e w' hh
  exact hK
 ·rw[fT ho h1 h2 h3,Oper.uponIn_round]
  refine⟨fun h=>(by cases h),RoundIn.mono (h4 (k - 1)) fun e w' hh=>?_⟩
  obtain⟨v,rfl,hK⟩:=hR e w' hh
  exact hK
theorem RF {ev:Operand→AC}{op:Op}{m:Mem}{g:G}{r:R}(hf:EJ op=true)(h:aOp P ev op m g=some r){ρ :Nat→Option Nat}{w:World}{a:Act}(hnew:New T g.n r.us)(hps:∀q∈r.ps,q.holds T)(hm:AP T g.n ρ m w)
  (hev:∀x,AB T g.n ρ m w (ev x) (a.eval x)):r.m=m:=by
 cases op<;>simp only[aOp] at h<;>simp only[EJ] at hf<;>try (cases hf;done)
 case move x=>cases h;rfl
 case assign x=>cases h;rfl
 case pick c x y=>exact (QG h hnew hm (hev c) (fun _=>hev x) (fun _=>hev y)).elim fun _ h=>h.2.1
 case build t parts=>
  unfold Qi at h
  simp only[Option.bind_eq_bind,Option.bind_eq_some_iff] at h
  obtain⟨i,_,z,_,l,_,h⟩:=h
  split at h
  ·simp only[Option.bind_eq_some_iff] at h
   obtain⟨_,_,l',_,h⟩:=h
   cases h;rfl
  ·simp only[Option.bind_eq_some_iff] at h
   obtain⟨_,_,l',_,h⟩:=h
   cases h;rfl
  ·cases h
 case load t x=>obtain⟨u,h1,h2,h3⟩:=P8 h hnew hm (hev x);exact h2
 case nilCheck x=>
  unfold Fg at h
  split at h<;>cases h<;>rfl
 case binOp op t x y yt=>obtain⟨z,h1,h2,h3⟩:=bJ h hnew hps (hev x) (hev y) x y;exact h2
 case unOp op t x=>obtain⟨z,h1,h2,h3⟩:=eT (P:=P) (w:=w) h hnew (hev x);exact h2
 case convert s d x=>obtain⟨z,h1,h2,h3⟩:=PX h hnew (hev x);exact h2
 case makeFunc fn first cap=>cases h;rfl
 case fieldAddr t x f=>obtain⟨z,h1,h2,h3,h4⟩:=Mv h (hev x);exact h2
 case field t x f=>obtain⟨z,h1,h2,h3,h4⟩:=Us h (hev x);exact h2
 case indexAddr t x i=>obtain⟨z,h1,h2,h3⟩:=M1 h hnew hps (hev x) (hev i);exact h2
 case index t x i=>obtain⟨z,h1,h2,h3⟩:=Uf h hnew hps (hev x) (hev i);exact h2
 case extract x i=>obtain⟨z,h1,h2,h3,h4⟩:=PS (P:=P) h (hev x);exact h2
 case call c=>
  obtain⟨callee,args,ts⟩:=c
  cases callee with
  |value f=>cases h
  |invoke x n=>cases h
  |builtin b=>
   obtain⟨args⟩:=args
   simp only at h
   unfold MS at h
   cases b<;>simp only at hf<;>try (cases hf;done)
   all_goals
    split at h<;>(try (rename_i heq _;cases heq))<;>try (cases h;done)
   ·rename_i x harg
    cases args with
    |nil=>cases harg
    |cons x1 rest=>
     cases rest with
     |cons=>cases harg
     |nil=>
      simp at harg
      subst harg
      simp only[Option.bind_eq_bind,Option.bind_eq_some_iff] at h
      obtain⟨t,ht,h⟩:=h
      obtain⟨z,h1,h2,h3⟩:=bS h hnew (hev x1) ts ht 0
      exact h2
   all_goals
    rename_i x y harg
    cases args with
    |nil=>cases harg
    |cons x1 rest=>
     cases rest with
     |nil=>cases harg
     |cons x2 rest=>
      cases rest with
      |cons=>cases harg
      |nil=>
       simp at harg
       obtain⟨rfl,rfl⟩:=harg
       obtain⟨z,h1,h2,h3⟩:=SQ (P:=P) h hnew (hev x1) (hev x2) ts 0
       exact h2
end
end Go.Eng
end
noncomputable section
namespace Go.Eng
open Go Go.RowKit
section
variable {P:Program}{T:Tab}{call:By}{ys:Ys}{r:Option Nat}{kk:Nat}
theorem M0 {pc0:PC}{base:List Nat}{s s':RS}{j:Nat}{want:Bool}{c:AC}{run:Option (PC × List Nat)}(h:EC pc0 base s j want c=some (run,s')):Aa s.g s'.g∧s'.tmps=s.tmps∧s'.mem=s.mem:=by
 cases c<;>simp only[EC] at h<;>try (cases h;done)
 case cb b=>split at h<;>cases h<;>exact⟨Aa.refl _,rfl,rfl⟩
 case b x=>cases h;exact⟨Aa.push s.g [DJ pc0 x want],rfl,rfl⟩
 case nb x=>cases h;exact⟨Aa.push s.g [DJ pc0 x (!want)],rfl,rfl⟩
theorem IP {ops:Array Oper}{pc:PC}{s s':RS}{o:Oper}{run:Option (PC × List Nat)}(h:EN ops pc s o=some (run,s')):Aa s.g s'.g∧s'.tmps=s.tmps∧s'.mem=s.mem:=by
 unfold EN at h
 split at h
 ·cases h;exact⟨Aa.refl _,rfl,rfl⟩
 ·split at h
  ·cases h;exact⟨Aa.refl _,rfl,rfl⟩
  ·simp only[Option.bind_eq_bind,Option.bind_eq_some_iff] at h
   obtain⟨_,_,_,_,c,_,h⟩:=h
   split at h
   ·cases h;exact⟨Aa.refl _,rfl,rfl⟩
   ·simp only[Option.bind_eq_some_iff] at h
    obtain⟨e,_,h⟩:=h
    exact M0 h
   ·exact M0 h
theorem Qg {ops:Array Oper}{n:Nat}{a:Act}{gl:List GE}(hg:∀e∈gl,Fr T ops n a e){c:Operand}{want:Bool}(hc:a.eval c= .bool want)(hsz:∀t,c= .tmp t→t < a.tmps.size):∀x∈LJ ops gl c want,T x= .bool true:=by
 intro x hx
 cases c with
 |tmp t=>
  simp only[LJ,List.mem_map,List.mem_filter,Bool.and_eq_true] at hx
  obtain⟨e,⟨he,hw,hd⟩,rfl⟩:=hx
  have hw':e.want=want:=by simpa using hw
  have hd':(ops[e.j]?).bind (·.dst)=some t:=by simpa using hd
  refine (hg e he).iff.2 ?_
  have ht:=hsz t rfl
  have hget:a.tmps[t]? =some (.bool want):=by
   have:a.tmps.getD t undef= .bool want:=hc
   simp[Array.getD_eq_getD_getElem?,ht] at this
   simp[ht,this]
  simp only[yielded,hd',Option.bind_some,hget,hw']
 |_=>simp[LJ] at hx
theorem NM (pc:PC)(c:AC):Vw pc [] c=c:=by cases pc<;>rfl
theorem YK {p:Nat}{imp:List Nat}(h:imp≠[])(c:AC):Vw (some p) imp c= .gd p c:=by cases imp<;>first|exact absurd rfl h|rfl
theorem Jr.mono {fv:Value}{args:List Value}{w:World}{R R':Ending→World→Prop}(h:Jr P fv args w R)(hr:∀e w',R e w'→R' e w'):Jr P fv args w R':=by
 rcases h with⟨k,first,cap,fn,h1,h2,h3,h4,h5⟩|⟨b,q,h1,h2,h3,h4⟩
 ·exact .inl ⟨k,first,cap,fn,h1,h2,h3,h4,h5.mono hr⟩
 ·exact .inr ⟨b,q,h1,h2,h3,fun k=>(h4 k).mono hr⟩
def V7 (P:Program)(T:Tab)(args:List AC)(one:AC→PC→Mem→G→Option (AC × Mem × G))(H:G→(Nat→Option Nat)→Mem→World→AC→Value→Prop):Prop:=
 ∀f pc m g c m' g',one f pc m g=some (c,m',g')→Aa g g'∧(Agr T g'→BH T g'→pcv T pc→CG T g pc→∀ ρ w fv vs,H g ρ m w f fv→AE T g.n ρ m w args vs→AP T g.n ρ m w→Jr P fv vs w (Km T g ρ m w c m' g'))
theorem I4 (hcall:Dj P T call)(hys:DQ P T.lp ys)(args:List AC):V7 P T args (D8 call ys args) (fun g ρ m w f fv=>AB T g.n ρ m w f fv):=by
 intro f pc m g c m' g' h
 unfold D8 at h
 split at h
 ·rename_i k first cap
  obtain⟨gr,hs⟩:=hcall ys k _ pc m g c m' g' hys h
  refine⟨gr,fun hA hob hpc hk ρ w fv vs hf hargs hm=>?_⟩
  obtain⟨v1,us,e1,e2,e3⟩:=hf
  obtain⟨⟨fn,q1,q2,q3⟩,hc⟩:=hs hA hob hpc hk ρ w (v1++vs++us) ((e2.append hargs).append e3) hm
  exact .inl ⟨k,v1,us,fn,e1,q1,q2,q3,hc⟩
 ·rename_i id
  split at h
  ·rename_i stamp st hid
   simp only[Option.bind_eq_bind,Option.bind_eq_some_iff] at h
   obtain⟨y,hy,h⟩:=h
   obtain⟨gr,hs⟩:=hys T rfl stamp y hy id args pc m g c m' g' h
   refine⟨gr,fun hA hob hpc hk ρ w fv vs hf hargs hm=>?_⟩
   obtain⟨b,e1,e2,_⟩:=hf
   rw[e2]
   exact hs hA hob hpc hk st hid ρ w vs hargs hm b e1
  ·cases h
 ·cases h
def Cg (g:G):PC→Prop
 |none=>True
 |some c=>c < g.n
theorem Cg.grow {g g':G}{pc:PC}(h:Cg g pc)(k:Aa g g'):Cg g' pc:=by
 cases pc with
 |none=>trivial
 |some c=>exact Nat.lt_of_lt_of_le h k.n
theorem CG.lt {g:G}{pc:PC}(h:CG T g pc):Cg g pc:=by
 cases pc with
 |none=>trivial
 |some c=>exact h.1
theorem Cg.ok {g:G}{pc:PC}(h:Cg g pc)(hp:pcv T pc):CG T g pc:=by
 cases pc with
 |none=>trivial
 |some c=>exact⟨h,true,hp⟩
theorem HM {c:Nat}:pcv T (some c)↔(T c).toB=true:=⟨fun h=>by rw[show T c= .bool true from h];rfl,Qs⟩
theorem EQ {g g':G}{pc p:PC}{x:Nat}{want:Bool}(h:Cr g pc x want=(p,g')):Aa g g'∧(Agr T g'→Cg g pc→x < g.n→Cg g' p∧(pcv T p↔pcv T pc∧(T x).toB=want)):=by
 have push:∀{p g'},(some g.n,g.pushAll [DJ pc x want])=(p,g')→Aa g g'∧(Agr T g'→Cg g pc→x < g.n→Cg g' p∧(pcv T p↔pcv T pc∧(T x).toB=want)):=by
  intro p g' h
  cases h
  refine⟨Aa.push _ _,fun hA hp hx=>⟨by show _ < _;rw[CF];exact Nat.lt_succ_self _,?_⟩⟩
  have hnew:=hA.new.head
  rw[HM,hnew]
  cases pc with
  |none=>
   simp only[pcv,true_and]
   cases want<;>simp[DJ,Ex.eval,oId,SR,u0,eve,U.toB]
  |some c=>
   rw[HM]
   cases want<;>simp[DJ,Ex.eval,Oc,u0,u1,eve,evn,U.toB]
 unfold Cr at h
 split at h
 ·cases h
  refine⟨Aa.refl _,fun hA _ hx=>⟨hx,?_⟩⟩
  simp only[pcv,true_and]
  exact⟨fun h=>by rw[h];rfl,Qs⟩
 ·exact push h
theorem Kj {b:Bool}{sb:Rf}(hsb:(sb.eval T).toB=b){n n0 n':Nat}{ρ :Nat→Option Nat}{w:World}{m1 m2:Mem}(hm:AP T n ρ (sel b m1 m2) w){c d:AC}{v:Value}(hn:n≤n0)
  (hnew:New T n0 ((CL sb n0 m1 m2).2++(Gc (n0+(CL sb n0 m1 m2).2.length) sb c d).2))
  (hl:n0+((CL sb n0 m1 m2).2.length+(Gc (n0+(CL sb n0 m1 m2).2.length) sb c d).2.length)≤n')
  (h:AB T n ρ (sel b m1 m2) w (sel b c d) v):
  ∃ ρ',AO T n ρ (sel b m1 m2) w ρ' (CL sb n0 m1 m2).1 w∧AP T n' ρ' (CL sb n0 m1 m2).1 w∧AB T n' ρ' (CL sb n0 m1 m2).1 w (Gc (n0+(CL sb n0 m1 m2).2.length) sb c d).1 v:=by
 obtain⟨hmem,hst,-,-⟩:=LF (n':=n') hsb hm hn hnew.left (by omega)
 have h2:=AB.mono hst hm (Nat.le_refl _) _ _ h
 refine⟨_,hst,hmem,jU (n:=n) hsb (by omega) hnew.right (by omega) (fun hb=>?_) (fun hb=>?_)⟩
 ·subst hb;exact h2
 ·subst hb;exact h2
theorem Sx {args:List AC}{one:AC→PC→Mem→G→Option (AC × Mem × G)}(hone:V7 P T args one (fun g ρ m w f fv=>AB T g.n ρ m w f fv)){x:Nat}{ix:Int}(hix:T x= .int ix)(h0:0≤ix):
  ∀(alts:List AC) (j:Nat),V7 P T args (fun _ pc m g=>Io one x j alts pc m g) (fun g ρ m w _ fv=>j≤ix.toNat∧A6 T g.n ρ m w alts (ix.toNat - j) fv)
 |[],j=>fun f pc m g c m' g' h=>by simp[Io] at h
 |[c0],j=>by
  intro f pc m g c m' g' h
  have h':one c0 pc m g=some (c,m',g'):=by cases c0<;>first|exact h|(rename_i cc;cases cc<;>exact h)
  obtain⟨gr,hs⟩:=hone c0 pc m g c m' g' h'
  refine⟨gr,fun hA hob hpc hk ρ w fv vs ⟨hj,hf⟩ hargs hm=>hs hA hob hpc hk ρ w fv vs ?_ hargs hm⟩
  cases hd:ix.toNat - j with
  |zero=>rw[hd] at hf;exact hf
  |succ d=>rw[hd] at hf;exact hf.elim
 |c0::c1::cs,j=>by
  intro f pc m g c m' g' h
  by_cases hnil:c0= .cv .nilFunc
  ·subst hnil
   simp only[Io] at h
   obtain⟨gr,hs⟩:=Sx hone hix h0 (c1::cs) (j+1) f pc m _ c m' g' h
   refine⟨(Aa.need _ _ _).trans gr,fun hA hob hpc hk ρ w fv vs ⟨hj,hf⟩ hargs hm=>?_⟩
   have hne:=BH.need (hob.of gr) hpc ⟨ "ne",pNe,[.e x,.c (.int j)]⟩ (by simp)
   simp only[Pr.holds,pNe,List.map_cons,List.map_nil,u0,u1,eve,evc,hix,U.toI] at hne
   obtain⟨e1,e2,e3,e4⟩:=D1 [⟨ "ne",pNe,[.e x,.c (.int j)]⟩] g pc
   have hd:ix.toNat - j=(ix.toNat - (j+1))+1:=by omega
   rw[hd] at hf
   have:=hs hA hob hpc (hk.grow (Aa.need _ _ _)) ρ w fv vs ⟨by omega,by rw[e1];exact hf⟩ (by rw[e1];exact hargs) (by rw[e1];exact hm)
   refine this.mono fun e w' ⟨v, ρ',q1,q2,q3,q4⟩=>⟨v, ρ',q1,by rw[e1] at q2;exact q2,q3,q4⟩
  ·have hun:Io one x j (c0::c1::cs) pc m g=(do
     let t:=g.n
     let g:=g.pushAll [⟨ "eq",oEq,[.e x,.c (.int j)]⟩]
     let (pa,g):=Cr g pc t true
     let (ca,ma,g) ←one c0 pa m g
     let (pb,g):=Cr g pc t false
     let (cb,mb,g) ←Io one x (j+1) (c1::cs) pb m g
     let (m',us):=CL (.e t) g.n ma mb
     let (c',us'):=Gc (g.n+us.length) (.e t) ca cb
     some (c',m',g.pushAll (us++us'))):=by
    cases c0<;>first|rfl|(rename_i cc;cases cc<;>first|rfl|exact absurd rfl hnil)
   simp only[hun] at h
   generalize hg0:g.pushAll [⟨ "eq",oEq,[.e x,.c (.int j)]⟩]=g0 at h
   have gr0:Aa g g0:=by rw[←hg0];exact Aa.push _ _
   have hn0:g0.n=g.n+1:=by rw[←hg0,CF];rfl
   generalize hba:Cr g0 pc g.n true=ba at h
   obtain⟨pa,g1⟩:=ba
   simp only[Option.bind_eq_bind,Option.bind_eq_some_iff] at h
   obtain⟨⟨ca,ma,g2⟩,h1,h⟩:=h
   simp only at h
   generalize hbb:Cr g2 pc g.n false=bb at h
   obtain⟨pb,g3⟩:=bb
   simp only[Option.bind_eq_some_iff] at h
   obtain⟨⟨cb,mb,g4⟩,h2,h⟩:=h
   cases h
   obtain⟨gr1,k1⟩:=EQ (T:=T) hba
   obtain⟨gr2,k2⟩:=hone c0 pa m g1 ca ma g2 h1
   obtain⟨gr3,k3⟩:=EQ (T:=T) hbb
   obtain⟨gr4,k4⟩:=Sx hone hix h0 (c1::cs) (j+1) f pb m g3 cb mb g4 h2
   have gr5:Aa g4 (g4.pushAll ((CL (.e g.n) g4.n ma mb).2++(Gc (g4.n+(CL (.e g.n) g4.n ma mb).2.length) (.e g.n) ca cb).2)):=Aa.push _ _
   refine⟨((((gr0.trans gr1).trans gr2).trans gr3).trans gr4).trans gr5,fun hA hob hpc hk ρ w fv vs ⟨hj,hf⟩ hargs hm=>?_⟩
   have hA4:=hA.of gr5
   have hA3:=hA4.of gr4
   have hA2:=hA3.of gr3
   have hA1:=hA2.of gr2
   have hA0:=hA1.of gr1
   have hT:T g.n= .bool (decide (ix=j)):=by
    have:Agr T (g.pushAll [⟨ "eq",oEq,[.e x,.c (.int j)]⟩]):=by rw[hg0];exact hA0
    rw[this.new.head]
    simp[Ex.eval,oEq,u0,u1,eve,evc,hix,U.toI]
   obtain⟨a1,a2⟩:=k1 hA1 (hk.lt.grow gr0) (by omega)
   obtain⟨a3,a4⟩:=k3 hA3 (hk.lt.grow ((gr0.trans gr1).trans gr2)) (by have:=gr1.n;have:=gr2.n;omega)
   have hnew:=hA.new
   have hlen:(g4.pushAll ((CL (.e g.n) g4.n ma mb).2++(Gc (g4.n+(CL (.e g.n) g4.n ma mb).2.length) (.e g.n) ca cb).2)).n=g4.n+((CL (.e g.n) g4.n ma mb).2.length+(Gc (g4.n+(CL (.e g.n) g4.n ma mb).2.length) (.e g.n) ca cb).2.length):=by
    rw[CF,List.length_append]
   by_cases hc:ix=j
   ·have hpa:pcv T pa:=a2.2 ⟨hpc,by rw[hT];simp[hc,U.toB]⟩
    have hd:ix.toNat - j=0:=by omega
    rw[hd] at hf
    have up1:=(gr0.trans gr1).n
    have:=k2 hA2 (hob.of ((gr3.trans gr4).trans gr5)) hpa (a1.ok hpa) ρ w fv vs (AB.up hm up1 hf) (hargs.up hm up1) (hm.mono up1)
    refine this.mono fun e w' ⟨v, ρ',q1,q2,q3,q4⟩=>?_
    obtain⟨ρ2,s1,s2,s3⟩:=Kj (n:=g2.n) (b:=true) (m1:=ma) (m2:=mb) (c:=ca) (d:=cb) (v:=v) (by simp[eve,hT,hc,U.toB]) q3 (gr3.trans gr4).n hnew (Nat.le_of_eq hlen.symm) q4
    exact⟨v, ρ2,q1,(q2.down up1).trans hm ((gr0.trans gr1).trans gr2).n s1,s2,s3⟩
   ·have hpb:pcv T pb:=a4.2 ⟨hpc,by rw[hT];simp[hc,U.toB]⟩
    have hd:ix.toNat - j=(ix.toNat - (j+1))+1:=by omega
    rw[hd] at hf
    have up3:=(((gr0.trans gr1).trans gr2).trans gr3).n
    have hfA:A6 T g.n ρ m w (c1::cs) (ix.toNat - (j+1)) fv:=hf
    have:=k4 hA4 (hob.of gr5) hpb (a3.ok hpb) ρ w fv vs ⟨by omega,A6.mono0 (AO.refl _ _ _ _ _) up3 _ _ _ hfA⟩ (hargs.up hm up3) (hm.mono up3)
    refine this.mono fun e w' ⟨v, ρ',q1,q2,q3,q4⟩=>?_
    obtain⟨ρ2,s1,s2,s3⟩:=Kj (n:=g4.n) (b:=false) (m1:=ma) (m2:=mb) (c:=ca) (d:=cb) (v:=v) (by simp[eve,hT,hc,U.toB]) q3 (Nat.le_refl _) hnew (Nat.le_of_eq hlen.symm) q4
    exact⟨v, ρ2,q1,(q2.down up3).trans hm ((((gr0.trans gr1).trans gr2).trans gr3).trans gr4).n s1,s2,s3⟩
theorem cG (hcall:Dj P T call)(hys:DQ P T.lp ys)(args:List AC):V7 P T args (fun f pc m g=>LT call ys f args pc m g) (fun g ρ m w f fv=>AB T g.n ρ m w f fv):=by
 intro f pc m g c m' g' h
 by_cases hs:∃x alts,f= .sel x alts
 ·obtain⟨x,alts,rfl⟩:=hs
  simp only[LT] at h
  by_cases hx:∃ix,T x= .int ix∧0≤ix
  ·obtain⟨ix,h1,h2⟩:=hx
   obtain⟨gr,k⟩:=Sx (I4 hcall hys args) h1 h2 alts 0 .any pc m g c m' g' h
   refine⟨gr,fun hA hob hpc hk ρ w fv vs ⟨_,j,e1,_,e3⟩ hargs hm=>k hA hob hpc hk ρ w fv vs ⟨Nat.zero_le _,?_⟩ hargs hm⟩
   rw[h1] at e1
   cases e1
   exact e3
  ·
   refine⟨?_,fun hA hob hpc hk ρ w fv vs ⟨_,j,e1,e2,e3⟩ hargs hm=>absurd ⟨j,e1,e2⟩ hx⟩
   have grow:∀(alts:List AC) (j:Nat) (pc:PC) (m:Mem) (g:G) (c:AC) (m':Mem) (g':G),Io (D8 call ys args) x j alts pc m g=some (c,m',g')→Aa g g':=by
    intro alts
    induction alts with
    |nil=>intro j pc m g c m' g' h;simp[Io] at h
    |cons c0 alts ih=>
     intro j pc m g c m' g' h
     cases alts with
     |nil=>
      have h':D8 call ys args c0 pc m g=some (c,m',g'):=by cases c0<;>first|exact h|(rename_i cc;cases cc<;>exact h)
      exact (I4 hcall hys args c0 pc m g c m' g' h').1
     |cons c1 cs=>
      by_cases hnil:c0= .cv .nilFunc
      ·subst hnil
       simp only[Io] at h
       exact (Aa.need _ _ _).trans (ih (j+1) pc m _ c m' g' h)
      ·have hun:Io (D8 call ys args) x j (c0::c1::cs) pc m g=(do
         let t:=g.n
         let g:=g.pushAll [⟨ "eq",oEq,[.e x,.c (.int j)]⟩]
         let (pa,g):=Cr g pc t true
         let (ca,ma,g) ←D8 call ys args c0 pa m g
         let (pb,g):=Cr g pc t false
         let (cb,mb,g) ←Io (D8 call ys args) x (j+1) (c1::cs) pb m g
         let (m',us):=CL (.e t) g.n ma mb
         let (c',us'):=Gc (g.n+us.length) (.e t) ca cb
         some (c',m',g.pushAll (us++us'))):=by
        cases c0<;>first|rfl|(rename_i cc;cases cc<;>first|rfl|exact absurd rfl hnil)
       simp only[hun] at h
       generalize hba:Cr (g.pushAll [⟨ "eq",oEq,[.e x,.c (.int j)]⟩]) pc g.n true=ba at h
       obtain⟨pa,g1⟩:=ba
       simp only[Option.bind_eq_bind,Option.bind_eq_some_iff] at h
       obtain⟨⟨ca,ma,g2⟩,h1,h⟩:=h
       simp only at h
       generalize hbb:Cr g2 pc g.n false=bb at h
       obtain⟨pb,g3⟩:=bb
       simp only[Option.bind_eq_some_iff] at h
       obtain⟨⟨cb,mb,g4⟩,h2,h⟩:=h
       cases h
       exact ((((Aa.push _ _).trans (EQ (T:=T) hba).1).trans (I4 hcall hys args c0 pa m g1 ca ma g2 h1).1).trans (EQ (T:=T) hbb).1).trans ((ih (j+1) pb m g3 cb mb g4 h2).trans (Aa.push _ _))
   exact grow alts 0 pc m g c m' g' h
 ·have:LT call ys f args pc m g=D8 call ys args f pc m g:=by
   unfold LT
   split
   ·exact absurd ⟨_,_,rfl⟩ hs
   ·rfl
  simp only[this] at h
  exact I4 hcall hys args f pc m g c m' g' h
theorem iD {n:Nat}{ρ :Nat→Option Nat}{m:Mem}{w:World}{a:AC}{v:Value}(hq:∀q∈Xm a,q.holds T)(h:AB T n ρ m w a v):AB T n ρ m w (V1 a) v:=by
 unfold V1
 split
 ·rename_i c i o
  have:=hq ⟨ "t",pT,[.e c]⟩ (by simp[Xm])
  simp only[Pr.holds,pT,List.map_cons,List.map_nil,u0,eve] at this
  exact h.2 (HM.2 this)
 ·exact h
theorem T3 {n:Nat}{ρ :Nat→Option Nat}{m:Mem}{w:World}:∀{l:List AC} {vs:List Value},(∀q∈Im l,q.holds T)→AE T n ρ m w l vs→AE T n ρ m w (l.map V1) vs
 |[],_,_,h=>h
 |a::l,_,hq,⟨u,us,e,h1,h2⟩=>⟨u,us,e,iD (fun q hx=>hq q (by simp[Im,hx])) h1,T3 (fun q hx=>hq q (by simp[Im,hx])) h2⟩
theorem Ea (hcall:Dj P T call)(hys:DQ P T.lp ys){ops:Array Oper}{pc:PC}{s s':RS}{o:Oper}(h:DT P call ys ops pc s o=some s'):
  Aa s.g s'.g∧(Agr T s'.g→BH T s'.g→pcv T pc→CG T s.g pc→∀ ρ a w K Q,Cv T ρ ops s a w→
   (∀ ρ' v w',Cv T ρ' ops s' (a.put o.dst v) w'→AO T s.g.n ρ s.mem w ρ' s'.mem w'→K (a.put o.dst v) w')→Ga P r kk ops o a w K Q):=by
 unfold DT at h
 simp only[Option.bind_eq_bind,Option.bind_eq_some_iff] at h
 obtain⟨⟨run,s1⟩,hg,h⟩:=h
 obtain⟨gg1,gg2,gg3⟩:=IP hg
 simp only at h
 split at h
 ·cases h
 rename_i hdst
 have hd:s1.gl.any (fun e=>((ops[e.j]?).bind (·.dst))==o.dst)=false:=by simpa using hdst
 split at h
 ·
  cases h
  refine⟨gg1,fun hA _ hpc hk ρ a w K Q hi hK=>?_⟩
  obtain⟨e1,e2,_,hi1,e3,_⟩:=L4 hg hA hpc hk hi
  unfold Ga
  rw[e3 rfl]
  simp only[Bool.false_eq_true,if_false]
  have:=hi1.put hd (Aa.refl _) (AO.refl T s1.g.n ρ s1.mem w) hi1.rel.mem (c:= .tup []) (v:=undef) ⟨[],rfl,rfl⟩
  exact hK ρ _ w this (by rw[show s1.mem=s.mem from e2];exact AO.refl _ _ _ _ _)
 ·rename_i pc' imp
  have main:∀(g2:G) (c:AC) (mem2:Mem),Aa s1.g g2→s'={ s1 with tmps:=D7 s1.tmps o.dst (Vw pc' imp c),mem:=mem2,g:=g2 }→
    (imp≠[]→∀p,pc'=some p→(T p).toB=false→Agr T g2→∀ ρ w,AP T s1.g.n ρ s1.mem w→∃ ρ',AO T s1.g.n ρ s1.mem w ρ' mem2 w∧AP T g2.n ρ' mem2 w)→
    (∀ ρ a w,Cv T ρ ops s1 a w→(∀c∈imp,T c= .bool true)→Agr T g2→BH T g2→pcv T pc'→CG T s1.g pc'→∀K Q,(∀v ρ' w',AO T s1.g.n ρ s1.mem w ρ' mem2 w'→AP T g2.n ρ' mem2 w'→AB T g2.n ρ' mem2 w' c v→K (a.put o.dst v) w')→o.wpIn (fen r) kk P a w K Q)→
    Aa s.g s'.g∧(Agr T s'.g→BH T s'.g→pcv T pc→CG T s.g pc→∀ ρ a w K Q,Cv T ρ ops s a w→
     (∀ ρ' v w',Cv T ρ' ops s' (a.put o.dst v) w'→AO T s.g.n ρ s.mem w ρ' s'.mem w'→K (a.put o.dst v) w')→Ga P r kk ops o a w K Q):=by
   intro g2 c mem2 gr hs' hgone hrun
   subst hs'
   refine⟨gg1.trans gr,fun hA hob hpc hk ρ a w K Q hi hK=>?_⟩
   have hA2:Agr T g2:=hA
   obtain⟨e1,e2,_,hi1,_,e4⟩:=L4 hg (hA2.of gr) hpc hk hi
   obtain⟨f1,f2,f3,f4,f5⟩:=e4 pc' imp rfl
   have step:∀{ρ' w'},AO T s1.g.n ρ s1.mem w ρ' mem2 w'→AO T s.g.n ρ s.mem w ρ' mem2 w':=fun hs=>by
    rw[←show s1.mem=s.mem from e2];exact hs.down gg1.n
   unfold Ga
   by_cases hp:pcv T pc'
   ·rw[f1.2 hp]
    simp only[if_true]
    refine hrun ρ a w hi1 (f2 hp) hA2 hob hp f3 K Q (fun v ρ' w' k1 k2 k3=>?_)
    refine hK ρ' _ w' (hi1.put hd gr k1 k2 ?_) (step k1)
    by_cases hemp:imp=[]
    ·subst hemp;rw[NM];exact k3
    ·obtain⟨⟨p,rfl⟩,_⟩:=f5 hemp
     rw[YK hemp]
     exact⟨Nat.lt_of_lt_of_le f3.1 gr.n,fun _=>k3,fun hn=>absurd hp hn⟩
   ·have hw:Region.wanted o (yielded ops a.tmps)=false:=by
     cases hw:Region.wanted o (yielded ops a.tmps) with
     |false=>rfl
     |true=>exact absurd (f1.1 hw) hp
    rw[hw]
    simp only[Bool.false_eq_true,if_false]
    have hemp:imp≠[]:=fun h=>hp (f4 h)
    obtain⟨⟨p,rfl⟩,_⟩:=f5 hemp
    have hpf:(T p).toB=false:=by
     cases hb:(T p).toB with
     |false=>rfl
     |true=>exact absurd (HM.2 hb) hp
    obtain⟨ρ',hst,hmk⟩:=hgone hemp p rfl hpf hA2 ρ w hi1.rel.mem
    refine hK ρ' _ w (hi1.put hd gr hst hmk (v:=undef) ?_) (step hst)
    rw[YK hemp]
    exact⟨Nat.lt_of_lt_of_le f3.1 gr.n,fun h=>absurd h hp,fun _=>rfl⟩
  have weak:∀{mem2:Mem} {g2:G},Aa s1.g g2→(∀id,mem2.at id=s1.mem.at id∨mem2.at id= .gone)→(imp≠[]→∀p,pc'=some p→(T p).toB=false→Agr T g2→∀ ρ w,AP T s1.g.n ρ s1.mem w→∃ ρ',AO T s1.g.n ρ s1.mem w ρ' mem2 w∧AP T g2.n ρ' mem2 w):=
   fun gr hw _ _ _ _ _ ρ w hm=>⟨ρ,AO.weaken hw,(hm.mono gr.n).weaken hw⟩
  have evald:∀(us:List Ex) (ps:List Pr),Aa s1.g ((s1.g.pushAll us).needAll pc' ps)∧(Agr T ((s1.g.pushAll us).needAll pc' ps)→New T s1.g.n us)∧
    (BH T ((s1.g.pushAll us).needAll pc' ps)→pcv T pc'→∀q∈ps,q.holds T)∧((s1.g.pushAll us).needAll pc' ps).n=s1.g.n+us.length:=by
   intro us ps
   obtain⟨q1,_⟩:=D1 ps (s1.g.pushAll us) pc'
   exact⟨(Aa.push _ _).trans (Aa.need _ _ _),fun hA=>hA.need.new,fun hob hp=>BH.need hob hp,by rw[q1,CF]⟩
  split at h
  ·
   rename_i f args ts ho
   simp only[Option.bind_eq_some_iff] at h
   obtain⟨⟨c,m2,g2⟩,hc,h⟩:=h
   obtain⟨gr0,hsound⟩:=cG hcall hys _ _ pc' s1.mem _ c m2 g2 hc
   have grn:Aa s1.g (s1.g.needAll pc' (Im (args.toList.map (Nz imp s1.tmps)))):=Aa.need _ _ _
   have gr:Aa s1.g g2:=grn.trans gr0
   have en:(s1.g.needAll pc' (Im (args.toList.map (Nz imp s1.tmps)))).n=s1.g.n:=(D1 _ s1.g pc').1
   have run:∀ ρ a w,Cv T ρ ops s1 a w→(∀c∈imp,T c= .bool true)→Agr T g2→BH T g2→pcv T pc'→CG T s1.g pc'→∀K Q,(∀v ρ' w',AO T s1.g.n ρ s1.mem w ρ' m2 w'→AP T g2.n ρ' m2 w'→AB T g2.n ρ' m2 w' c v→K (a.put o.dst v) w')→o.wpIn (fen r) kk P a w K Q:=by
    intro ρ a w hi1 himp hA2 hob2 hp hk2 K Q hK
    have hev:=Ip hi1.rel himp
    have hargs:=AE.of_map hev args.toList
    have hst:=T3 (BH.need (hob2.of gr0) hp) hargs
    refine db ho (hsound hA2 hob2 hp (hk2.grow grn) ρ w _ _ (by show AB T _ ρ s1.mem w _ _;rw[en];exact hev f) (by rw[en];exact hst) (by rw[en];exact hi1.rel.mem)) fun e w' hh=>?_
    obtain⟨v, ρ',rfl,k1,k2,k3⟩:=hh
    rw[en] at k1
    exact⟨v,rfl,hK v ρ' w' k1 k2 k3⟩
   split at h
   ·
    cases h
    exact main g2 c m2 gr (by rw[NM]) (fun h=>absurd rfl h) run
   ·
    split at h
    ·rename_i hkept
     cases h
     obtain⟨hlen,hat⟩:=La hkept
     have hmem2:∀id,Mem.at (s1.mem++List.replicate (m2.length - s1.mem.length) .gone) id=m2.at id∨Mem.at (s1.mem++List.replicate (m2.length - s1.mem.length) .gone) id= .gone:=by
      intro id
      rw[YR]
      split
      ·rename_i hid;exact .inl (hat id hid).symm
      ·split
       ·exact .inr rfl
       ·exact .inl (Mem.at_ge (by omega)).symm
     refine main g2 c _ gr rfl (weak gr fun id=>?_) (fun ρ a w hi1 himp hA2 hob2 hp hk2 K Q hK=>?_)
     ·rw[YR]
      split
      ·exact .inl rfl
      ·split
       ·exact .inr rfl
       ·exact .inl (Mem.at_ge (by omega)).symm
     ·refine run ρ a w hi1 himp hA2 hob2 hp hk2 K Q (fun v ρ' w' k1 k2 k3=>?_)
      have hst:AO T g2.n ρ' m2 w' ρ' (s1.mem++List.replicate (m2.length - s1.mem.length) .gone) w':=AO.weaken hmem2
      exact hK v ρ' w' (k1.trans hi1.rel.mem gr.n hst) (k2.weaken hmem2) (AB.mono hst k2 (Nat.le_refl _) c v k3)
    ·
     split at h
     ·rename_i p
      cases h
      have gr2:Aa g2 (g2.pushAll (CL (.e p) g2.n m2 s1.mem).2):=Aa.push _ _
      have hlen:(g2.pushAll (CL (.e p) g2.n m2 s1.mem).2).n=g2.n+(CL (.e p) g2.n m2 s1.mem).2.length:=by rw[CF]
      refine main _ c _ (gr.trans gr2) rfl (fun _ q hq hf hA ρ w hm=>?_) (fun ρ a w hi1 himp hA2 hob2 hp hk2 K Q hK=>?_)
      ·cases hq
       have hm':AP T s1.g.n ρ (sel false m2 s1.mem) w:=hm
       obtain⟨q1,q2,-,-⟩:=LF (T:=T) (n:=s1.g.n) (n':=(g2.pushAll (CL (.e p) g2.n m2 s1.mem).2).n) (w:=w) (m1:=m2) (m2:=s1.mem) (b:=false) (sb:= .e p) (by show (T p).toB=false;exact hf) hm' gr.n hA.new (Nat.le_of_eq hlen.symm)
       exact⟨_,q2,q1⟩
      ·refine run ρ a w hi1 himp (hA2.of gr2) (hob2.of gr2) hp hk2 K Q (fun v ρ' w' k1 k2 k3=>?_)
       have k2':AP T g2.n ρ' (sel true m2 s1.mem) w':=k2
       obtain⟨q1,q2,-,-⟩:=LF (T:=T) (n:=g2.n) (n':=(g2.pushAll (CL (.e p) g2.n m2 s1.mem).2).n) (w:=w') (m1:=m2) (m2:=s1.mem) (b:=true) (sb:= .e p) (by show (T p).toB=true;exact HM.1 hp) k2' (Nat.le_refl _) hA2.new (Nat.le_of_eq hlen.symm)
       have hst':AO T g2.n ρ' m2 w' _ _ w':=q2
       exact hK v _ w' (k1.trans hi1.rel.mem gr.n hst') q1 (AB.mono hst' k2 gr2.n c v k3)
     ·cases h
  ·
   rename_i c x y ho
   simp only[Option.bind_eq_some_iff] at h
   obtain⟨rr,hr,h⟩:=h
   cases h
   obtain⟨gr,ga,gp,gn⟩:=evald rr.us rr.ps
   refine main _ rr.c s1.mem gr rfl (weak gr fun id=> .inl rfl) (fun ρ a w hi1 himp hA2 hob2 hp hk2 K Q hK=>?_)
   have hev:=Ip hi1.rel himp
   have size:∀b,a.eval c= .bool b→∀t,c= .tmp t→t < a.tmps.size:=by
    intro b hb t ht
    subst ht
    rcases Nat.lt_or_ge t a.tmps.size with h|h
    ·exact h
    ·have:a.tmps.getD t undef= .bool b:=hb
     rw[Array.getD_eq_getD_getElem?,Array.getElem?_eq_none h] at this
     cases this
   obtain⟨q,e1,e2,e3⟩:=QG (ρ := ρ) (w:=w) hr (ga hA2) hi1.rel.mem (hev c)
    (fun hb=>Sy (Qg hi1.ges hb (size _ hb)) (hev x)) (fun hb=>Sy (Qg hi1.ges hb (size _ hb)) (hev y))
   have hrun:(execOp a.eval o).run P w= .ok (.value (if q then a.eval x else a.eval y)) w:=by simp[execOp,ho,e1,asBool]
   refine Ov (fun c hc=>by rw[ho] at hc;cases hc) ?_
   rw[hrun]
   refine hK _ ρ w (AO.refl _ _ _ _ _) (hi1.rel.mem.mono gr.n) ?_
   rw[gn]
   exact e3
  ·
   rename_i hne1 hne2
   simp only[Option.bind_eq_some_iff] at h
   obtain⟨rr,hr,h⟩:=h
   obtain⟨gr,ga,gp,gn⟩:=evald rr.us rr.ps
   split at h
   ·
    cases h
    refine main _ rr.c rr.m gr (by rw[NM]) (fun h=>absurd rfl h) (fun ρ a w hi1 himp hA2 hob2 hp hk2 K Q hK=>?_)
    refine TE (fun c hc=>by rw[hc] at hr;cases hr) (gC hr (ga hA2) (gp hob2 hp) hi1.rel.mem (Ip hi1.rel himp)) (fun v w' ρ' k1 k2 k3=>?_)
    rw[←gn] at k2 k3
    exact hK v ρ' w' k1 k2 k3
   ·split at h
    ·rename_i hfree
     cases h
     refine main _ rr.c s1.mem gr rfl (weak gr fun id=> .inl rfl) (fun ρ a w hi1 himp hA2 hob2 hp hk2 K Q hK=>?_)
     have hev:=Ip hi1.rel himp
     have hmm:=RF hfree hr (ga hA2) (gp hob2 hp) hi1.rel.mem hev
     refine TE (fun c hc=>by rw[hc] at hr;cases hr) (gC hr (ga hA2) (gp hob2 hp) hi1.rel.mem hev) (fun v w' ρ' k1 k2 k3=>?_)
     rw[←gn] at k2 k3
     rw[hmm] at k1 k2 k3
     exact hK v ρ' w' k1 k2 k3
    ·cases h
theorem Ki (hcall:Dj P T call)(hys:DQ P T.lp ys){ops:Array Oper}{pc:PC}:∀{l:List Oper} {s s':RS},Dd P call ys ops pc l s=some s'→
  Aa s.g s'.g∧(Agr T s'.g→BH T s'.g→pcv T pc→CG T s.g pc→∀(k:Nat) ρ a w Q,(∀j,l[j]? =ops[k+j]?)→Cv T ρ ops s a w→
   (∀ ρ' a' w',Cv T ρ' ops s' a' w'→AO T s.g.n ρ s.mem w ρ' s'.mem w'→Q .normal a' w')→wpOpsIn (fen r) kk P ops Q (List.range' k l.length) a w)
 |[],s,s',h=>by
  simp only[Dd] at h
  cases h
  exact⟨Aa.refl _,fun _ _ _ _ k ρ a w Q _ hi hK=>hK ρ a w hi (AO.refl _ _ _ _ _)⟩
 |o::l,s,s',h=>by
  simp only[Dd,Option.bind_eq_bind,Option.bind_eq_some_iff] at h
  obtain⟨s1,h1,h2⟩:=h
  obtain⟨g1,k1⟩:=Ea (r:=r) (kk:=kk) hcall hys h1
  obtain⟨g2,k2⟩:=Ki hcall hys h2
  refine⟨g1.trans g2,fun hA hob hpc hk k ρ a w Q hl hi hK=>?_⟩
  have ho:ops[k]? =some o:=by simpa using (hl 0).symm
  have:=k1 (hA.of g2) (hob.of g2) hpc hk ρ a w (wpOpsIn (fen r) kk P ops Q (List.range' (k+1) l.length)) Q hi (fun ρ' v' w' hi' hs=>by
   refine k2 hA hob hpc (hk.grow g1) (k+1) ρ' _ w' Q (fun j=>by have:=hl (j+1);simpa [Nat.add_assoc,Nat.add_comm 1 j] using this) hi' (fun ρ2 a2 w2 hi2 hs2=>?_)
   exact hK ρ2 a2 w2 hi2 (hs.trans hi.rel.mem g1.n hs2))
  simp only[List.length_cons,List.range'_succ,wpOpsIn,ho]
  unfold Ga at this
  split
  ·rename_i hw
   rw[if_pos hw] at this
   exact this
  ·rename_i hw
   rw[if_neg hw] at this
   exact⟨fun _ _=>trivial,this⟩
end
end Go.Eng
end
noncomputable section
namespace Go.Eng
open Go Go.RowKit
def LI (ops:Array Oper)(listed:Array Bool):Prop:=
 ∀j o,ops[j]? =some o→listed.getD j false=true→∀e∈o.after,Region.binds .any e=true→listed.getD e.on false=true
theorem Jz {listed:Array Bool}{acc:List Nat}(hacc:∀(j r:Nat),acc[j]? =some r→listed.getD j false=true→∀i,r.testBit i=true→listed.getD i false=true):
  ∀(es:List Edge),(∀e∈es,Region.binds .any e=true→listed.getD e.on false=true)→∀i,(EU acc es).testBit i=true→listed.getD i false=true
 |[],_,i,h=>by simp[EU] at h
 |e::es,hes,i,h=>by
  simp only[EU] at h
  split at h
  ·rename_i hb
   have he:=hes e (List.mem_cons_self ..) hb
   simp only[show∀x y,Nat.lor x y=x ||| y from fun _ _=>rfl,Nat.testBit_or,Bool.or_eq_true] at h
   rcases h with (h|h)|h
   ·rw[Nat.testBit_two_pow] at h
    have:e.on=i:=by simpa using h
    rw[←this];exact he
   ·cases hr:acc[e.on]? with
    |none=>rw[hr] at h;simp at h
    |some r=>rw[hr] at h;exact hacc e.on r hr he i h
   ·exact Jz hacc es (fun e he=>hes e (List.mem_cons_of_mem _ he)) i h
  ·exact Jz hacc es (fun e he=>hes e (List.mem_cons_of_mem _ he)) i h
theorem Ld {listed:Array Bool}:∀(l:List Oper) (pre:List Oper) (acc:List Nat),acc.length=pre.length→
  (∀j o,(pre++l)[j]? =some o→listed.getD j false=true→∀e∈o.after,Region.binds .any e=true→listed.getD e.on false=true)→
  (∀(j r:Nat) (o:Oper),acc[j]? =some r→(pre++l)[j]? =some o→(∀e∈o.after,Region.binds .any e=true→listed.getD e.on false=true)→∀i,r.testBit i=true→listed.getD i false=true)→
  (A7 l acc).length=(pre++l).length∧∀(j r:Nat) (o:Oper),(A7 l acc)[j]? =some r→(pre++l)[j]? =some o→(∀e∈o.after,Region.binds .any e=true→listed.getD e.on false=true)→∀i,r.testBit i=true→listed.getD i false=true
 |[],pre,acc,hlen,_,h=>⟨by simp[A7,hlen],h⟩
 |o::l,pre,acc,hlen,hc,h=>by
  simp only[A7]
  have e:pre++o::l=(pre++[o])++l:=by simp
  rw[e]
  refine Ld l (pre++[o]) _ (by simp[hlen]) (by rw[←e];exact hc) ?_
  intro j r o' hr ho'
  rw[List.getElem?_append] at hr
  split at hr
  ·rename_i hj
   exact h j r o' hr (by rw[e];exact ho')
  ·rename_i hj
   have hj2:j=acc.length:=by
    rcases Nat.lt_or_ge (j - acc.length) 1 with h1|h1
    ·omega
    ·rw[List.getElem?_eq_none (by simpa using h1)] at hr;cases hr
   subst hj2
   simp at hr
   subst hr
   have hoo:o'=o:=by
    rw[hlen] at ho'
    simp at ho'
    exact ho'.symm
   subst hoo
   intro hes
   refine Jz (fun j r hr hj=>?_) _ (fun e he=>hes e (by simpa using he))
   obtain⟨o2,ho2⟩:∃o2,(pre++o'::l)[j]? =some o2:=by
    have:j < acc.length:=(List.getElem?_eq_some_iff.1 hr).1
    exact⟨_,List.getElem?_eq_getElem (by simp;omega)⟩
   exact h j r o2 hr ho2 (hc j o2 ho2 hj)
theorem Dg {ops:Array Oper}{listed:Array Bool}(hc:LI ops listed){j r:Nat}{o:Oper}(hr:(A7 ops.toList [])[j]? =some r)(ho:ops[j]? =some o)
  (he:∀e∈o.after,Region.binds .any e=true→listed.getD e.on false=true):∀i,r.testBit i=true→listed.getD i false=true:=
 (Ld (listed:=listed) ops.toList [] [] rfl (fun j o ho=>hc j o (by simpa using ho)) (fun j r o hr=>by simp at hr)).2 j r o hr (by simpa using ho) he
theorem DM (ops:Array Oper):(A7 ops.toList []).length=ops.size:=by
 have:=(Ld (listed:= #[]) ops.toList [] [] rfl (fun j o _ h=>by simp at h) (fun j r o hr=>by simp at hr)).1
 simpa using this
theorem Eg:∀(Rs:List Nat) (k:Nat),Gz Rs k=true→∀(j r:Nat),Rs[j]? =some r→∀i,r.testBit i=true→i < k+j
 |[],_,_,j,r,hr=>by simp at hr
 |r0::Rs,k,h,j,r,hr=>by
  simp only[Gz,Bool.and_eq_true] at h
  intro i hi
  cases j with
  |zero=>
   simp at hr;subst hr
   have h1:r0 < 2 ^ k:=by have:=h.1;rw[Nat.blt_eq] at this;exact this
   rcases Nat.lt_or_ge i k with hlt|hge
   ·omega
   ·have:=Nat.testBit_lt_two_pow (x:=r0) (i:=i) (Nat.lt_of_lt_of_le h1 (Nat.pow_le_pow_right (by decide) hge))
    rw[this] at hi;cases hi
  |succ j=>
   have:=Eg Rs (k+1) h.2 j r (by simpa using hr) i hi
   omega
theorem J4:∀(Rs:List Nat) (k h:Nat),h≤k→ER Rs k h≤k+Rs.length∧h≤ER Rs k h∧∀(j r:Nat),Rs[j]? =some r→ER Rs k h≤k+j→∀i,i < k+j→r.testBit i=true
 |[],k,h,hk=>⟨by simpa [ER] using hk,Nat.le_refl _,fun j r hr=>by simp at hr⟩
 |r0::Rs,k,h,hk=>by
  simp only[ER]
  by_cases hb:Nat.beq (r0+1) (2 ^ k)=true
  ·rw[if_pos hb]
   obtain⟨h1,h2,h3⟩:=J4 Rs (k+1) h (by omega)
   refine⟨by simp;omega,h2,fun j r hr hj i hi=>?_⟩
   cases j with
   |zero=>
    simp at hr;subst hr
    have hr0:r0=2 ^ k - 1:=by have:=Nat.eq_of_beq_eq_true hb;omega
    rw[hr0,Nat.testBit_two_pow_sub_one]
    simpa using hi
   |succ j=>exact h3 j r (by simpa using hr) (by omega) i (by omega)
  ·rw[if_neg hb]
   obtain⟨h1,h2,h3⟩:=J4 Rs (k+1) (k+1) (by omega)
   refine⟨by simp;omega,by omega,fun j r hr hj i hi=>?_⟩
   cases j with
   |zero=>omega
   |succ j=>exact h3 j r (by simpa using hr) (by omega) i (by omega)
theorem OY:∀{l:List Tmp},HT l=true→l.Nodup
 |[],_=>List.nodup_nil
 |t::l,h=>by
  simp only[HT,Bool.and_eq_true] at h
  refine List.nodup_cons.2 ⟨fun hm=>?_,OY h.2⟩
  have:=h.1
  simp[hm] at this
theorem Db {ops:Array Oper}(h:HT (ops.toList.filterMap (·.dst))=true){i j:Nat}{oi oj:Oper}{d:Tmp}(hi:ops[i]? =some oi)(hj:ops[j]? =some oj)(hdi:oi.dst=some d)(hdj:oj.dst=some d):i=j:=by
 have key:∀(l:List Oper) (i j:Nat) (oi oj:Oper),(l.filterMap (·.dst)).Nodup→l[i]? =some oi→l[j]? =some oj→oi.dst=some d→oj.dst=some d→i=j:=by
  intro l
  induction l with
  |nil=>intro i j oi oj _ hi;simp at hi
  |cons o l ih=>
   intro i j oi oj hn hi hj hdi hdj
   cases i with
   |zero=>
    cases j with
    |zero=>rfl
    |succ j=>
     simp at hi hj
     subst hi
     rw[List.filterMap_cons_some hdi] at hn
     exact absurd (List.mem_filterMap.2 ⟨oj,List.mem_iff_getElem?.2 ⟨j,hj⟩,hdj⟩) (List.nodup_cons.1 hn).1
   |succ i=>
    cases j with
    |zero=>
     simp at hi hj
     subst hj
     rw[List.filterMap_cons_some hdj] at hn
     exact absurd (List.mem_filterMap.2 ⟨oi,List.mem_iff_getElem?.2 ⟨i,hi⟩,hdi⟩) (List.nodup_cons.1 hn).1
    |succ j=>
     simp at hi hj
     have hn2:(l.filterMap (·.dst)).Nodup:=by
      cases hd:o.dst with
      |none=>rw[List.filterMap_cons_none hd] at hn;exact hn
      |some t=>rw[List.filterMap_cons_some hd] at hn;exact (List.nodup_cons.1 hn).2
     rw[ih i j oi oj hn2 hi hj hdi hdj]
 exact key ops.toList i j oi oj (OY h) (by simpa using hi) (by simpa using hj) hdi hdj
theorem PH:∀(l:List Oper) (k:Nat) (t:Tmp) (i:Nat) (o:Oper),(∀(i j:Nat) (oi oj:Oper),l[i]? =some oi→l[j]? =some oj→oi.dst=some t→oj.dst=some t→i=j)→l[i]? =some o→o.dst=some t→Dt (Cs k l) t=some (k+i)
 |[],_,_,i,o,_,ho,_=>by simp at ho
 |o0::l,k,t,i,o,hinj,ho,hd=>by
  by_cases h0:o0.dst=some t
  ·have:i=0:=hinj i 0 o o0 ho (by simp) hd h0
   subst this
   simp[Cs,h0,Dt]
  ·cases i with
   |zero=>simp at ho;subst ho;exact absurd hd h0
   |succ i=>
    have ih:=PH l (k+1) t i o (fun i j oi oj h1 h2 h3 h4=>by have:=hinj (i+1) (j+1) oi oj (by simpa using h1) (by simpa using h2) h3 h4;omega) (by simpa using ho) hd
    rw[show k+(i+1)=k+1+i by omega,←ih]
    cases hx:o0.dst with
    |none=>simp[Cs,hx]
    |some t'=>
     have hne:Nat.beq t' t=false:=by
      cases hb:Nat.beq t' t with
      |false=>rfl
      |true=>exact absurd (by rw[hx,Nat.eq_of_beq_eq_true hb]) h0
     simp[Cs,hx,Dt,hne]
theorem IR (D:List (Tmp × Nat))(ok:Nat→Bool)(s:Al):∀(l:List Tmp) (t:Tmp) (c:AC),B6 (Ca D ok s l) t=some c→s.get t=some c∧∀i,Dt D t=some i→ok i=true
 |[],t,c,h=>by simp[Ca,B6] at h
 |t0::r,t,c,h=>by
  simp only[Ca] at h
  cases hc0:s.get t0 with
  |none=>rw[hc0] at h;exact IR D ok s r t c h
  |some c0=>
   rw[hc0] at h
   have key:(B6 ((t0,c0)::Ca D ok s r) t=some c∧∀i,Dt D t0=some i→ok i=true)∨B6 (Ca D ok s r) t=some c:=by
    simp only at h
    cases hm:Dt D t0 with
    |none=>rw[hm] at h;exact .inl ⟨by simpa using h,fun i hi=>by cases hi⟩
    |some i=>
     rw[hm] at h
     simp only at h
     split at h
     ·rename_i hb;exact .inl ⟨h,fun i hi=>by cases hi;exact hb⟩
     ·exact .inr h
   rcases key with⟨h1,h2⟩|h1
   ·rw[Ic] at h1
    split at h1
    ·rename_i e
     subst e
     cases h1
     exact⟨hc0,h2⟩
    ·exact IR D ok s r t c h1
   ·exact IR D ok s r t c h1
theorem Qy {S:DS}{ops:Array Oper}(hn:HT (ops.toList.filterMap (·.dst))=true){ok:Nat→Bool}{R:Nat}{C4:List Tmp}{t:Tmp}{c:AC}(h:(S.masked (Cs 0 ops.toList) ok R C4).tmps.get t=some c):
  S.tmps.get t=some c∧∀(i:Nat) (o:Oper),ops[i]? =some o→o.dst=some t→ok i=true:=by
 have h':B6 (Ca (Cs 0 ops.toList) ok S.tmps C4) t=some c:=by
  simp only[DS.masked,Al.get] at h
  cases hx:B6 (Ca (Cs 0 ops.toList) ok S.tmps C4) t with
  |none=>rw[hx] at h;simp[Tr.get] at h
  |some d=>rw[hx] at h;exact h
 obtain⟨h1,h2⟩:=IR _ _ _ _ _ _ h'
 refine⟨h1,fun i o ho hd=>h2 i ?_⟩
 have:=PH ops.toList 0 t i o (fun i j oi oj a b c d=>Db hn (by simpa using a) (by simpa using b) c d) (by simpa using ho) hd
 simpa using this
section
variable {P:Program}{T:Tab}{n n':Nat}{ρ ρ':Nat→Option Nat}{m m':Mem}{w w':World}
structure L3 (ρ :Nat→Option Nat) (m:Mem) (ρ':Nat→Option Nat) (m':Mem):Prop where
 at':∀id,m.at id≠ .pad→m'.at id=m.at id
 rho:∀id,m.at id≠ .pad→ ρ' id= ρ id
theorem L3.safe (h:L3 ρ m ρ' m'){b off:Nat}(hs:BN T ρ' m' w b off):BN T ρ m w b off:=by
 refine⟨hs.1,hs.2.1,fun id=>?_⟩
 by_cases hp:m.at id= .pad
 ·rw[hp];trivial
 ·have:=hs.2.2 id
  rw[h.at' id hp,h.rho id hp] at this
  exact this
mutual
theorem AB.back (h:L3 ρ m ρ' m'):∀(c:AC) (v0 v:Value) (w0:World),AB T n ρ m w0 c v0→AB T n' ρ' m' w c v→AB T n ρ m w c v
 | .any,_,_,_,_,_=>trivial
 | .anyc,_,_,_,_,hh=>hh
 | .on _ a,v0,v,w0,h0,hh=>⟨h0.1,fun hc=>AB.back h a v0 v w0 (h0.2 hc) (hh.2 hc)⟩
 | .gd _ a,v0,v,w0,h0,hh=>⟨h0.1,fun hc=>AB.back h a v0 v w0 (h0.2.1 hc) (hh.2.1 hc),hh.2.2⟩
 | .cb _,_,_,_,_,hh=>hh
 | .b _,_,_,_,h0,hh=>⟨h0.1,hh.2⟩
 | .nb _,_,_,_,h0,hh=>⟨h0.1,hh.2⟩
 | .ci _ _,_,_,_,_,hh=>hh
 | .i _ _ _ _,_,_,_,h0,hh=>⟨h0.1,hh.2⟩
 | .cv _,_,_,_,_,hh=>hh
 | .v _,_,_,_,h0,hh=>⟨h0.1,hh.2⟩
 | .s _,_,_,_,h0,hh=>⟨h0.1,hh.2⟩
 | .ptr id off,v0,v,w0,⟨b0,_,_,h3⟩,⟨b,k1,k2,_⟩=>⟨b,by rw[←h.rho id (CY h3)];exact k1,k2,h3⟩
 | .pix id base stride cnt x plus,v0,v,w0,⟨h0,b0,j0,_,_,_,_,_,h3⟩,⟨_,b,j,k1,k2,k3,k4,k5,_⟩=>⟨h0,b,j,by rw[←h.rho id (CY h3)];exact k1,k2,k3,k4,k5,h3⟩
 | .ro x ks,v0,v,w0,h0,⟨_,k1⟩=>⟨h0.1,Ak.mono (fun _ _ hs=>⟨h.safe hs,rfl⟩) (.list ks) (T x) v k1⟩
 | .rp x t off ks,v0,v,w0,h0,⟨_,j,b,o,us,k2,k3,k4,k5,k6⟩=>⟨h0.1,j,b,o,us,k2,k3,k4,k5,Aq.mono (fun _ _ hs=>⟨h.safe hs,rfl⟩) _ _ _ _ k6⟩
 | .vec id x ks,v0,v,w0,⟨h1,h2,_,_⟩,⟨_,_,k3,k4⟩=>⟨h1,h2,Ak.mono (fun _ _ hs=>⟨h.safe hs,rfl⟩) (.list ks) (T x) v k3,fun ks' e he=>by
   have:=k4 ks' e (by rw[h.at' id h2];exact he)
   unfold SA at this⊢
   rw[h.rho id h2] at this
   exact this⟩
 | .fn f first cap,v0,v,w0,⟨vs0,us0,_,a1,a2⟩,⟨vs,us,k1,k2,k3⟩=>⟨vs,us,k1,AE.back h first vs0 vs w0 a1 k2,AE.back h cap us0 us w0 a2 k3⟩
 | .sel x alts,v0,v,w0,⟨h0,j0,a1,_,a3⟩,⟨_,j,k1,k2,k3⟩=>⟨h0,j,k1,k2,by
   have e:j0=j:=by rw[a1] at k1;injection k1
   subst e
   exact A6.back h alts j0.toNat v0 v w0 a3 k3⟩
 | .yl id,v0,v,w0,⟨b0,_,_,h3⟩,⟨b,k1,k2,_⟩=>⟨b,by rw[←h.rho id (CY h3)];exact k1,k2,h3⟩
 | .agg l,v0,v,w0,⟨vs0,_,a1⟩,⟨vs,k1,k2⟩=>⟨vs,k1,AE.back h l vs0 vs w0 a1 k2⟩
 | .tup l,v0,v,w0,⟨vs0,_,a1⟩,⟨vs,k1,k2⟩=>⟨vs,k1,AE.back h l vs0 vs w0 a1 k2⟩
theorem AE.back (h:L3 ρ m ρ' m'):∀(l:List AC) (vs0 vs:List Value) (w0:World),AE T n ρ m w0 l vs0→AE T n' ρ' m' w l vs→AE T n ρ m w l vs
 |[],_,_,_,_,hh=>hh
 |c::l,vs0,vs,w0,⟨u0,us0,_,a1,a2⟩,⟨u,us,k1,k2,k3⟩=>⟨u,us,k1,AB.back h c u0 u w0 a1 k2,AE.back h l us0 us w0 a2 k3⟩
theorem A6.back (h:L3 ρ m ρ' m'):∀(l:List AC) (j:Nat) (v0 v:Value) (w0:World),A6 T n ρ m w0 l j v0→A6 T n' ρ' m' w l j v→A6 T n ρ m w l j v
 |[],_,_,_,_,h0,_=>h0.elim
 |c::_,0,v0,v,w0,h0,hh=>AB.back h c v0 v w0 h0 hh
 |_::l,j+1,v0,v,w0,h0,hh=>A6.back h l j v0 v w0 h0 hh
end
mutual
theorem AB.backF (h:L3 ρ m ρ' m'):∀(c:AC) (v:Value),(AC.free c=true∨∀id,m'.at id≠ .pad→m.at id≠ .pad)→AB T n ρ' m' w c v→AB T n ρ m w c v
 | .any,_,_,_=>trivial
 | .anyc,_,_,hh=>hh
 | .on _ a,v,hf,hh=>⟨hh.1,fun hc=>AB.backF h a v (hf.imp (fun q=>by simpa [AC.free] using q) id) (hh.2 hc)⟩
 | .gd _ a,v,hf,hh=>⟨hh.1,fun hc=>AB.backF h a v (hf.imp (fun q=>by simpa [AC.free] using q) id) (hh.2.1 hc),hh.2.2⟩
 | .cb _,_,_,hh=>hh
 | .b _,_,_,hh=>hh
 | .nb _,_,_,hh=>hh
 | .ci _ _,_,_,hh=>hh
 | .i _ _ _ _,_,_,hh=>hh
 | .cv _,_,_,hh=>hh
 | .v _,_,_,hh=>hh
 | .s _,_,_,hh=>hh
 | .ptr id off,v,hf,⟨b,k1,k2,k3⟩=>by
  have hp:=hf.resolve_left (by simp[AC.free]) id (CY k3)
  exact⟨b,by rw[←h.rho id hp];exact k1,k2,by rw[←h.at' id hp];exact k3⟩
 | .pix id base stride cnt x plus,v,hf,⟨h0,b,j,k1,k2,k3,k4,k5,k6⟩=>by
  have hp:=hf.resolve_left (by simp[AC.free]) id (CY k6)
  exact⟨h0,b,j,by rw[←h.rho id hp];exact k1,k2,k3,k4,k5,by rw[←h.at' id hp];exact k6⟩
 | .ro x ks,v,_,⟨h0,k1⟩=>⟨h0,Ak.mono (fun _ _ hs=>⟨h.safe hs,rfl⟩) (.list ks) (T x) v k1⟩
 | .rp x t off ks,v,_,⟨h0,j,b,o,us,k2,k3,k4,k5,k6⟩=>⟨h0,j,b,o,us,k2,k3,k4,k5,Aq.mono (fun _ _ hs=>⟨h.safe hs,rfl⟩) _ _ _ _ k6⟩
 | .vec id x ks,v,hf,⟨k1,k2,k3,k4⟩=>by
  have hp:=hf.resolve_left (by simp[AC.free]) id k2
  refine⟨k1,hp,Ak.mono (fun _ _ hs=>⟨h.safe hs,rfl⟩) (.list ks) (T x) v k3,fun ks' e he=>?_⟩
  have:=k4 ks' e (by rw[h.at' id hp];exact he)
  unfold SA at this⊢
  rw[h.rho id hp] at this
  exact this
 | .fn f first cap,v,hf,⟨vs,us,k1,k2,k3⟩=>⟨vs,us,k1,AE.backF h first vs (hf.imp (fun hh=>by simp only[AC.free,Bool.and_eq_true] at hh;exact hh.1) (fun hh=>hh)) k2,
   AE.backF h cap us (hf.imp (fun hh=>by simp only[AC.free,Bool.and_eq_true] at hh;exact hh.2) (fun hh=>hh)) k3⟩
 | .sel x alts,v,hf,⟨h0,j,k1,k2,k3⟩=>⟨h0,j,k1,k2,A6.backF h alts j.toNat v (hf.imp (fun hh=>by simpa [AC.free] using hh) (fun hh=>hh)) k3⟩
 | .yl id,v,hf,⟨b,k1,k2,k3⟩=>by
  have hp:=hf.resolve_left (by simp[AC.free]) id (CY k3)
  exact⟨b,by rw[←h.rho id hp];exact k1,k2,by rw[←h.at' id hp];exact k3⟩
 | .agg l,v,hf,⟨vs,k1,k2⟩=>⟨vs,k1,AE.backF h l vs (hf.imp (fun hh=>by simpa [AC.free] using hh) (fun hh=>hh)) k2⟩
 | .tup l,v,hf,⟨vs,k1,k2⟩=>⟨vs,k1,AE.backF h l vs (hf.imp (fun hh=>by simpa [AC.free] using hh) (fun hh=>hh)) k2⟩
theorem AE.backF (h:L3 ρ m ρ' m'):∀(l:List AC) (vs:List Value),(AC.freeL l=true∨∀id,m'.at id≠ .pad→m.at id≠ .pad)→AE T n ρ' m' w l vs→AE T n ρ m w l vs
 |[],_,_,hh=>hh
 |c::l,vs,hf,⟨u,us,k1,k2,k3⟩=>⟨u,us,k1,AB.backF h c u (hf.imp (fun hh=>by simp only[AC.freeL,Bool.and_eq_true] at hh;exact hh.1) (fun hh=>hh)) k2,
   AE.backF h l us (hf.imp (fun hh=>by simp only[AC.freeL,Bool.and_eq_true] at hh;exact hh.2) (fun hh=>hh)) k3⟩
theorem A6.backF (h:L3 ρ m ρ' m'):∀(l:List AC) (j:Nat) (v:Value),(AC.freeL l=true∨∀id,m'.at id≠ .pad→m.at id≠ .pad)→A6 T n ρ' m' w l j v→A6 T n ρ m w l j v
 |[],_,_,_,hh=>hh.elim
 |c::_,0,v,hf,hh=>AB.backF h c v (hf.imp (fun hh=>by simp only[AC.freeL,Bool.and_eq_true] at hh;exact hh.1) (fun hh=>hh)) hh
 |_::l,j+1,v,hf,hh=>A6.backF h l j v (hf.imp (fun hh=>by simp only[AC.freeL,Bool.and_eq_true] at hh;exact hh.2) (fun hh=>hh)) hh
end
theorem AP.tok_lt (hm:AP T n ρ m w){id x:Nat}{ks:List Kd}{e:TypeId}(hx:m.at id= .tok x ks e):x < n:=by
 have:=hm.blk id
 rw[hx] at this
 exact this.1
theorem AO.same (hs:AO T n ρ m w ρ' m' w')(hm:AP T n ρ m w)(hk:∀id,m.at id≠ .pad→m'.at id=m.at id):L3 ρ m ρ' m' where
 at':=hk
 rho:=fun id hp=>by
  cases hx:m.at id with
  |pad=>exact absurd hx hp
  |gone=>exact (hs.rho id (by rw[hx];rfl)).1
  |cells l e=>exact (hs.rho id (by rw[hx];rfl)).1
  |lp x st=>exact (hs.rho id (by rw[hx];rfl)).1
  |tok x ks e=>
   rcases hs.tok id x ks e hx with⟨_,h2,_⟩|⟨_,h2|⟨x',ks',e',h2,h3,_⟩⟩
   ·exact h2
   ·rw[hk id hp,hx] at h2;cases h2
   ·rw[hk id hp,hx] at h2
    injection h2 with h4 h5
    have:=hm.tok_lt hx
    omega
theorem AO.forget (hs:AO T n ρ m w ρ' m' w')(hm:AP T n ρ m w)(hm':AP T n' ρ' m' w')(hk:∀id,m.at id≠ .pad→m'.at id=m.at id):AO T n ρ m w ρ m w'∧AP T n ρ m w':=by
 have hsm:=hs.same hm hk
 refine⟨⟨hs.os,hs.tape,hs.output,hs.size,fun _ h=>h,fun _ h=>⟨rfl,h⟩,fun _ _ h=>h,fun id b hp ht _=>?_,hs.old,fun id x ks e hx=>?_⟩,⟨fun id=>?_,hm.inj,fun b off hb=>hm.fr b off (Nat.le_trans hs.size hb)⟩⟩
 ·rw[hp] at ht;cases ht
 ·refine .inl ⟨hx,rfl,fun b hb=>?_⟩
  have hp:m.at id≠ .pad:=by rw[hx];exact fun h=>by cases h
  rcases hs.tok id x ks e hx with⟨_,_,h3⟩|⟨_,h2|⟨x',ks',e',h2,h3,_⟩⟩
  ·exact h3 b hb
  ·rw[hk id hp,hx] at h2;cases h2
  ·rw[hk id hp,hx] at h2
   injection h2 with h4 h5
   have:=hm.tok_lt hx
   omega
 ·have h0:=hm.blk id
  by_cases hp:m.at id= .pad
  ·rw[hp];trivial
  ·have h1:=hm'.blk id
   rw[hk id hp] at h1
   cases hx:m.at id with
   |pad=>trivial
   |gone=>trivial
   |cells l e=>
    rw[hx] at h0 h1
    obtain⟨b0,vs0,_,_,a3⟩:=h0
    obtain⟨b,vs,k1,k2,k3⟩:=h1
    exact⟨b,vs,by rw[←hsm.rho id hp];exact k1,k2,AE.back hsm l vs0 vs w a3 k3⟩
   |tok x ks e=>
    rw[hx] at h0 h1
    obtain⟨a0,_⟩:=h0
    obtain⟨_,l,k1,k2⟩:=h1
    rw[hsm.rho id hp] at k2
    exact⟨a0,l,k1,k2⟩
   |lp x st=>
    rw[hx] at h0 h1
    obtain⟨b0,q0,_,_,_,_,_,_,a7,j0,a8,_⟩:=h0
    obtain⟨b,q,k1,k2,k3,k4,k5,k6,k7,j,k8,k9⟩:=h1
    exact⟨b,q,by rw[←hsm.rho id hp];exact k1,k2,k3,k4,k5,k6,fun i c hc=>AB.back hsm c _ _ w (a7 i c hc) (k7 i c hc),j,AB.back hsm st _ _ w a8 k8,k9⟩
end
end Go.Eng
end
noncomputable section
namespace Go.Eng
open Go Go.RowKit
section
variable {P:Program}{T:Tab}{call:By}{ys:Ys}{r:Option Nat}{kk:Nat}{ops:Array Oper}{pc:PC}
theorem If (tmps:Al)(dst:Option Tmp)(c:AC):(D7 tmps dst c).n=tmps.n:=by cases dst<;>simp[D7,Al.set_n]
theorem Al.get_set_ne (s:Al){d t:Nat}(c:AC)(h:d≠t):(s.set d c).get t=s.get t:=by
 unfold Al.set
 cases hd:Nat.blt d s.n with
 |false=>rfl
 |true=>simp only[cond_true,Al.get,Ic,if_neg h]
theorem O1 (tmps:Al){dst:Option Tmp}{t:Nat}(c:AC)(h:dst≠some t):(D7 tmps dst c).get t=tmps.get t:=by
 cases dst with
 |none=>rfl
 |some d=>exact Al.get_set_ne _ _ (fun e=>h (by rw[e]))
theorem Mm {s s':RS}{o:Oper}(h:DT P call ys ops pc s o=some s')(hf:EJ o.op=true){ρ :Nat→Option Nat}{a:Act}{w:World}(hA:Agr T s'.g)(hob:BH T s'.g)(hpc:pcv T pc)(hk:CG T s.g pc)(hi:Cv T ρ ops s a w):s'.mem=s.mem:=by
 unfold DT at h
 simp only[Option.bind_eq_bind,Option.bind_eq_some_iff] at h
 obtain⟨⟨run,s1⟩,hg,h⟩:=h
 obtain⟨gg1,gg2,gg3⟩:=IP hg
 simp only at h
 split at h
 ·cases h
 split at h
 ·cases h;exact gg3
 ·rename_i pc' imp
  split at h
  ·rename_i f args ts ho
   rw[ho] at hf;cases hf
  ·simp only[Option.bind_eq_some_iff] at h
   obtain⟨rr,hr,h⟩:=h
   cases h;exact gg3
  ·simp only[Option.bind_eq_some_iff] at h
   obtain⟨rr,hr,h⟩:=h
   split at h
   ·cases h
    have hA1:Agr T ((s1.g.pushAll rr.us).needAll pc' rr.ps):=hA
    obtain⟨e1,e2,_,hi1,_,e4⟩:=L4 hg (hA1.of ((Aa.push _ _).trans (Aa.need _ _ _))) hpc hk hi
    obtain⟨f1,f2,f3,f4,f5⟩:=e4 pc' [] rfl
    have:=RF hf hr hA1.need.new (BH.need hob (f4 rfl)) hi1.rel.mem (Ip hi1.rel (fun c hc=>by cases hc))
    exact this.trans gg3
   ·first
    |(simp only[hf,if_true] at h;cases h;exact gg3)
    |(split at h<;>cases h<;>exact gg3)
theorem JY {R j:Nat}{o:Oper}{S S':DS}{D:List (Tmp × Nat)}(h:J9 P call ys ops D pc R j o S=some S'):
  ∃s' c,DT P call ys ops pc (S.masked D R.testBit R (Cq ops o)) o=some s'∧S'=⟨D7 S.tmps o.dst c,S.mem,s'.g,(HX s' (HB R S.gls).length).map (fun e=>(j,e))++S.gls⟩∧
   (∀d,o.dst=some d→c=(s'.tmps.get d).getD .any)∧(EJ o.op=true∨(∀id,S.mem.at id≠ .pad→s'.mem.at id=S.mem.at id)∧(AC.free c=true∨∀id,s'.mem.at id≠ .pad→S.mem.at id≠ .pad))∧
   ∀e∈HX s' (HB R S.gls).length,e∈s'.gl∧R.testBit e.j=true:=by
 unfold J9 at h
 simp only[Option.bind_eq_bind,Option.bind_eq_some_iff] at h
 obtain⟨s',hs,h⟩:=h
 split at h
 ·rename_i hc
  rw[Bool.and_eq_true,Bool.or_eq_true,Bool.and_eq_true,Bool.or_eq_true] at hc
  obtain⟨h1,h2⟩:=hc
  cases h
  refine⟨s',_,hs,rfl,fun d hd=>by rw[hd];rfl,?_,fun e he=>⟨List.mem_of_mem_take he,List.all_eq_true.1 h1 e he⟩⟩
  rcases h2 with h2|⟨h2,h3⟩
  ·exact .inl h2
  ·obtain⟨k1,k2⟩:=La h2
   have hlt:∀id,S.mem.at id≠ .pad→id < S.mem.length:=fun id hp=>by
    rcases Nat.lt_or_ge id S.mem.length with h|h
    ·exact h
    ·exact absurd (Mem.at_ge h) hp
   refine .inr ⟨fun id hp=>k2 id (hlt id hp),?_⟩
   rcases h3 with h3|h3
   ·refine .inr fun id hp=>?_
    have hl:=Nat.eq_of_beq_eq_true h3
    rcases Nat.lt_or_ge id s'.mem.length with h|h
    ·rw[←k2 id (by omega)];exact hp
    ·exact absurd (Mem.at_ge h) hp
   ·exact .inl h3
 ·cases h
structure Es (P:Program) (T:Tab) (call:By) (ys:Ys) (ops:Array Oper) (pc:PC) (h:Nat) (S:Nat→DS):Prop where
 le:h≤ops.size
 step:∀j o,j < h→ops[j]? =some o→∃R,(A7 ops.toList [])[j]? =some R∧J9 P call ys ops (Cs 0 ops.toList) pc R j o (S j)=some (S (j+1))
 masks:Gz (A7 ops.toList []) 0=true
 nodup:HT (ops.toList.filterMap (·.dst))=true
 tail:∀j r,(A7 ops.toList [])[j]? =some r→h≤j→∀i,i < j→r.testBit i=true
 call:Dj P T call
 ys:DQ P T.lp ys
 gl0:(S 0).gls=[]
theorem Es.op {h:Nat}{S:Nat→DS}(H:Es P T call ys ops pc h S){j:Nat}(hj:j < h):∃o,ops[j]? =some o:=
 ⟨_,Array.getElem?_eq_getElem (Nat.lt_of_lt_of_le hj H.le)⟩
structure lV (S S':DS):Prop where
 grow:Aa S.g S'.g
 mem:S'.mem=S.mem
 len:S'.tmps.n=S.tmps.n
 gls:∀p∈S.gls,p∈S'.gls
theorem Es.later {h:Nat}{S:Nat→DS}(H:Es P T call ys ops pc h S)(i:Nat):∀k,i+k≤h→lV (S i) (S (i+k))∧
  ∀t,(∀j o,i≤j→j < i+k→ops[j]? =some o→o.dst≠some t)→(S (i+k)).tmps.get t=(S i).tmps.get t
 |0,_=>⟨⟨Aa.refl _,rfl,rfl,fun _ h=>h⟩,fun _ _=>rfl⟩
 |k+1,hk=>by
  obtain⟨h1,h2⟩:=H.later i k (by omega)
  obtain⟨o,ho⟩:=H.op (j:=i+k) (by omega)
  obtain⟨R,hR,hs⟩:=H.step (i+k) o (by omega) ho
  obtain⟨s',c,a1,a2,a3,a45,a6⟩:=JY hs
  obtain⟨b1,_⟩:=Ea (r:=none) (kk:=0) H.call H.ys a1
  have e:S (i+(k+1))=S (i+k+1):=rfl
  refine⟨⟨?_,?_,?_,?_⟩,fun t ht=>?_⟩
  ·rw[e,a2];exact h1.grow.trans b1
  ·rw[e,a2];exact h1.mem
  ·rw[e,a2]
   simp only
   rw[←h1.len,If]
  ·intro p hp
   rw[e,a2]
   exact List.mem_append_right _ (h1.gls p hp)
  ·rw[e,a2]
   simp only
   rw[←h2 t (fun j o h1 h2=>ht j o h1 (by omega))]
   exact O1 _ _ (ht (i+k) o (by omega) (by omega) ho)
theorem Es.gls {h:Nat}{S:Nat→DS}(H:Es P T call ys ops pc h S):∀k,k≤h→∀p∈(S k).gls,p.1 < k∧p∈(S (p.1+1)).gls
 |0,_,p,hp=>by rw[H.gl0] at hp;cases hp
 |k+1,hk,p,hp=>by
  obtain⟨o,ho⟩:=H.op (j:=k) (by omega)
  obtain⟨R,hR,hs⟩:=H.step k o (by omega) ho
  obtain⟨s',c,a1,a2,a3,a45,a6⟩:=JY hs
  have hp0:=hp
  rw[a2] at hp
  rcases List.mem_append.1 hp with h1|h1
  ·obtain⟨e,he,rfl⟩:=List.mem_map.1 h1
   exact⟨Nat.lt_succ_self _,hp0⟩
  ·obtain⟨q1,q2⟩:=H.gls k (by omega) p h1
   exact⟨by omega,q2⟩
structure KC (T:Tab) (ops:Array Oper) (h:Nat) (S:Nat→DS) (listed:Array Bool) (ρ :Nat→Option Nat) (a:Act) (w:World):Prop where
 size:listed.size=ops.size
 closed:LI ops listed
 only:∀i,listed.getD i false=true→i < h
 defers:FY T.base ρ (S 0).mem w a.defers
 asize:a.tmps.size=(S 0).tmps.n
 mem:AP T (S 0).g.n ρ (S 0).mem w
 init:∀t c,(S 0).tmps.get t=some c→(∀i o,ops[i]? =some o→o.dst=some t→listed.getD i false=false)→AB T (S 0).g.n ρ (S 0).mem w c (a.tmps.getD t undef)
 facts:∀i o d c,listed.getD i false=true→ops[i]? =some o→o.dst=some d→(S (i+1)).tmps.get d=some c→AB T (S (i+1)).g.n ρ (S 0).mem w c (a.tmps.getD d undef)
 gfacts:∀p∈(S h).gls,listed.getD p.1 false=true→Fr T ops (S (p.1+1)).g.n a p.2∧listed.getD p.2.j false=true
variable {h:Nat}{S:Nat→DS}{listed:Array Bool}{ρ :Nat→Option Nat}{a:Act}{w:World}
theorem KC.val (H:Es P T call ys ops pc h S)(I:KC T ops h S listed ρ a w){k:Nat}(hk:k≤h){t:Nat}{c:AC}(hc:(S k).tmps.get t=some c)
  (hl:∀i o,ops[i]? =some o→o.dst=some t→listed.getD i false=true∧i < k∨listed.getD i false=false∧k≤i):AB T (S k).g.n ρ (S 0).mem w c (a.tmps.getD t undef):=by
 by_cases hex:∃i o,ops[i]? =some o∧o.dst=some t∧i < k
 ·obtain⟨i,o,ho,hd,hik⟩:=hex
  rcases hl i o ho hd with⟨h1,_⟩|⟨_,h2⟩
  ·obtain⟨l1,l2⟩:=H.later (i+1) (k - (i+1)) (by omega)
   rw[show i+1+(k - (i+1))=k by omega] at l1 l2
   have:=l2 t (fun j o' hj1 hj2 ho' hd'=>by
    have:=Db H.nodup ho ho' hd hd'
    omega)
   rw[this] at hc
   exact (I.facts i o t c h1 ho hd hc).up0 l1.grow.n
  ·omega
 ·obtain⟨l1,l2⟩:=H.later 0 k (by omega)
  rw[Nat.zero_add] at l1 l2
  have:=l2 t (fun j o' hj1 hj2 ho' hd'=>hex ⟨j,o',ho',hd',by omega⟩)
  rw[this] at hc
  refine (I.init t c hc fun i o ho hd=>?_).up0 l1.grow.n
  rcases hl i o ho hd with⟨_,h2⟩|⟨h1,_⟩
  ·exact absurd ⟨i,o,ho,hd,h2⟩ hex
  ·exact h1
theorem KC.masked {C4:List Tmp}(H:Es P T call ys ops pc h S)(I:KC T ops h S listed ρ a w){j R:Nat}(hj:j < h)(hR:(A7 ops.toList [])[j]? =some R)(hlR:∀i,R.testBit i=true→listed.getD i false=true):
  Cv T ρ ops ((S j).masked (Cs 0 ops.toList) R.testBit R C4) a w:=by
 obtain⟨l1,_⟩:=H.later 0 j (by omega)
 rw[Nat.zero_add] at l1
 have hlt:=Eg _ 0 H.masks j R hR
 refine⟨⟨(by simp only[DS.masked];rw[l1.mem];exact I.defers),?_,fun t c hc=>?_,?_⟩,fun e he=>?_⟩
 ·simp only[DS.masked]
  rw[I.asize,l1.len]
 ·obtain⟨h1,h2⟩:=Qy (R:=R) H.nodup hc
  simp only[DS.masked]
  rw[l1.mem]
  refine I.val H (by omega) h1 fun i o ho hd=> .inl ?_
  have hb:=h2 i o ho hd
  exact⟨hlR i hb,by have:=hlt i hb;omega⟩
 ·simp only[DS.masked]
  rw[l1.mem]
  exact I.mem.mono l1.grow.n
 ·simp only[DS.masked,HB,List.mem_map,List.mem_filter] at he
  obtain⟨p,⟨hp,hb⟩,rfl⟩:=he
  have hlp:=hlR p.1 hb
  have hpj:p.1 < j:=by have:=hlt p.1 hb;omega
  obtain⟨l2,_⟩:=H.later j (h - j) (by omega)
  rw[show j+(h - j)=h by omega] at l2
  obtain⟨l3,_⟩:=H.later (p.1+1) (j - (p.1+1)) (by omega)
  rw[show p.1+1+(j - (p.1+1))=j by omega] at l3
  exact (I.gfacts p (l2.gls p hp) hlp).1.up l3.grow.n
theorem BY (listed:Array Bool)(i j:Nat)(hi:i < listed.size):(listed.setIfInBounds i true).getD j false=if j=i then true else listed.getD j false:=by
 by_cases hij:j=i
 ·subst hij
  simp[Array.getD_eq_getD_getElem?,Array.getElem?_setIfInBounds,hi]
 ·rw[if_neg hij]
  simp only[Array.getD_eq_getD_getElem?,Array.getElem?_setIfInBounds]
  rw[if_neg (fun e=>hij e.symm)]
theorem EP {dst:Option Tmp}{t:Nat}(h:dst≠some t)(v:Value):(a.put dst v).tmps.getD t undef=a.tmps.getD t undef:=by
 cases dst with
 |none=>rfl
 |some d=>
  simp only[Act.put,Array.getD_eq_getD_getElem?,Array.getElem?_setIfInBounds]
  rw[if_neg (fun e=>h (by rw[e]))]
theorem KC.comes (H:Es P T call ys ops pc h S)(hA:Agr T (S h).g)(hob:BH T (S h).g)(hpc:pcv T pc)(hpk:CG T (S 0).g pc)(I:KC T ops h S listed ρ a w){i:Nat}{o:Oper}(hi:i < h)(ho:ops[i]? =some o)
  (hun:listed.getD i false=false) (hready:∀e∈o.after,Region.binds .any e=true→listed.getD e.on false=true) {K:Act→World→Prop} {Q:Exit→Act→World→Prop}
  (hK:∀v w',KC T ops h S (listed.setIfInBounds i true) ρ (a.put o.dst v) w'→AO T (S 0).g.n ρ (S 0).mem w ρ (S 0).mem w'→K (a.put o.dst v) w'):Ga P r kk ops o a w K Q:=by
 obtain⟨R,hR,hs⟩:=H.step i o hi ho
 obtain⟨s',c,a1,a2,a3,a45,a6⟩:=JY hs
 obtain⟨b1,b2⟩:=Ea (r:=r) (kk:=kk) H.call H.ys a1
 have hlR:=Dg I.closed hR ho hready
 have hlt:=Eg _ 0 H.masks i R hR
 obtain⟨l1,_⟩:=H.later 0 i (by omega)
 rw[Nat.zero_add] at l1
 obtain⟨l2,_⟩:=H.later (i+1) (h - (i+1)) (by omega)
 rw[show i+1+(h - (i+1))=h by omega] at l2
 have hg:(S (i+1)).g=s'.g:=by rw[a2]
 have hA1:Agr T s'.g:=by rw[←hg];exact hA.of l2.grow
 have hob1:BH T s'.g:=by rw[←hg];exact hob.of l2.grow
 have hm0:(S i).mem=(S 0).mem:=l1.mem
 have hisz:i < listed.size:=by rw[I.size];exact (Array.getElem?_eq_some_iff.1 ho).1
 have hmask:=I.masked (C4:=Cq ops o) H hi hR hlR
 have hmem2:s'.mem=(S i).mem∨¬EJ o.op=true:=by
  by_cases hf:EJ o.op=true
  ·exact .inl (Mm a1 hf hA1 hob1 hpc (hpk.grow l1.grow) hmask)
  ·exact .inr hf
 have a4:∀id,(S i).mem.at id≠ .pad→s'.mem.at id=(S i).mem.at id:=by
  rcases a45 with hf|h
  ·rcases hmem2 with h|h
   ·intro id _;rw[h]
   ·exact absurd hf h
  ·exact h.1
 have a5:AC.free c=true∨∀id,s'.mem.at id≠ .pad→(S i).mem.at id≠ .pad:=by
  rcases a45 with hf|h
  ·rcases hmem2 with h|h
   ·exact .inr fun id hp=>by rw[←h];exact hp
   ·exact absurd hf h
  ·exact h.2
 refine b2 hA1 hob1 hpc (hpk.grow l1.grow) ρ a w K Q hmask fun ρ' v w' r1 r2=>?_
 have r2':AO T (S i).g.n ρ (S i).mem w ρ' s'.mem w':=r2
 have hmi:AP T (S i).g.n ρ (S i).mem w:=by rw[hm0];exact I.mem.mono l1.grow.n
 obtain⟨f1,f2⟩:=r2'.forget hmi r1.rel.mem a4
 have hsm:=r2'.same hmi a4
 have st:AO T (S 0).g.n ρ (S 0).mem w ρ (S 0).mem w':=by rw[←hm0];exact f1.down l1.grow.n
 have stn:∀n,AO T n ρ (S 0).mem w ρ (S 0).mem w':=fun n=>⟨st.os,st.tape,st.output,st.size,st.mlen,st.rho,st.untr,st.fresh,st.old,fun id x ks e hx=>by
  rcases st.tok id x ks e hx with h1|⟨_,h2|⟨x',ks',e',h2,h3,_⟩⟩
  ·exact .inl h1
  ·rw[hx] at h2;cases h2
  ·rw[hx] at h2
   injection h2 with h4 h5
   have:=I.mem.tok_lt hx
   omega⟩
 have hmem':AP T (S 0).g.n ρ (S 0).mem w':=by
  exact (AO.forget (m':=s'.mem) (n':=s'.g.n) (by rw[←hm0];exact r2'.down l1.grow.n) I.mem r1.rel.mem (by rw[←hm0];exact a4)).2
 refine hK v w' ⟨by simp[I.size],?_,?_,?_,?_,hmem',?_,?_,?_⟩ st
 ·
  intro j oj hoj hlj e he hb
  rw[BY _ _ _ hisz] at hlj⊢
  split
  ·rfl
  ·split at hlj
   ·rename_i hji
    subst hji
    rw[ho] at hoj;cases hoj
    exact hready e he hb
   ·exact I.closed j oj hoj hlj e he hb
 ·intro j hj
  rw[BY _ _ _ hisz] at hj
  split at hj
  ·rename_i hji;rw[hji];exact hi
  ·exact I.only j hj
 ·have:=I.defers.on st
  cases o.dst<;>exact this
 ·have:=r1.rel.size
  rw[←I.asize]
  cases o.dst<;>simp[Act.put]
 ·
  intro t c0 hc hno
  have hne:o.dst≠some t:=fun hd=>by
   have:=hno i o ho hd
   rw[BY _ _ _ hisz,if_pos rfl] at this
   cases this
  rw[EP hne]
  refine AB.mono0 (stn _) (Nat.le_refl _) _ _ (I.init t c0 hc fun j oj hoj hd=>?_)
  have:=hno j oj hoj hd
  rw[BY _ _ _ hisz] at this
  split at this
  ·cases this
  ·exact this
 ·
  intro j oj d c0 hlj hoj hd hc
  rw[BY _ _ _ hisz] at hlj
  split at hlj
  ·rename_i hji
   subst hji
   rw[ho] at hoj;cases hoj
   rw[a2] at hc
   simp only[hd,D7] at hc
   rcases Al.get_set _ _ _ _ hc with⟨_,_,hcc⟩|⟨hdn,hold⟩
   ·have hval:=r1.rel.at d
    simp only at hval
    have hc2:c=(s'.tmps.get d).getD .any:=a3 d hd
    rw[←hc2] at hval
    rw[hg,hcc,←hm0]
    exact AB.backF hsm _ _ a5 hval
   ·
    have hn:=hdn rfl
    have hnn:¬d < a.tmps.size:=by rw[I.asize,←l1.len];exact hn
    have hv:=I.val H (by omega) hold fun i' o' ho' hd'=>by
     have:=Db H.nodup ho ho' hd hd'
     subst this
     exact .inr ⟨hun,Nat.le_refl _⟩
    have hput:(a.put o.dst v).tmps.getD d undef=a.tmps.getD d undef:=by
     rw[hd]
     simp only[Act.put,Array.getD_eq_getD_getElem?,Array.getElem?_setIfInBounds,if_true,if_neg hnn]
     rw[Array.getElem?_eq_none (Nat.le_of_not_lt hnn)]
    rw[hput,hg]
    exact AB.mono0 (stn _) b1.n _ _ hv
  ·rename_i hji
   have hne:o.dst≠some d:=fun hd'=>hji (Db H.nodup hoj ho hd hd')
   rw[EP hne]
   exact AB.mono0 (stn _) (Nat.le_refl _) _ _ (I.facts j oj d c0 hlj hoj hd hc)
 ·
  intro p hp hlp
  rw[BY _ _ _ hisz] at hlp
  split at hlp
  ·rename_i hpi
   obtain⟨_,q2⟩:=H.gls h (Nat.le_refl _) p hp
   rw[hpi,a2] at q2
   rcases List.mem_append.1 q2 with h1|h1
   ·obtain⟨e,he,rfl⟩:=List.mem_map.1 h1
    obtain⟨u1,u2⟩:=a6 e he
    refine⟨?_,?_⟩
    ·rw[hg]
     exact r1.ges e u1
    ·rw[BY _ _ _ hisz]
     split
     ·rfl
     ·exact hlR e.j u2
   ·have:=(H.gls i (by omega) p h1).1
    omega
  ·rename_i hpi
   obtain⟨q1,q2⟩:=I.gfacts p hp hlp
   have hji:p.2.j≠i:=fun e=>by rw[e,hun] at q2;cases q2
   refine⟨⟨q1.lt,q1.bool,?_,q1.imp,q1.ne⟩,by rw[BY _ _ _ hisz,if_neg hji];exact q2⟩
   have hy:yielded ops (a.put o.dst v).tmps p.2.j=yielded ops a.tmps p.2.j:=by
    cases hd:o.dst with
    |none=>rfl
    |some d=>
     refine I3 ?_ v
     intro he
     cases hop:ops[p.2.j]? with
     |none=>rw[hop] at he;cases he
     |some op=>
      rw[hop] at he
      exact hji (Db H.nodup hop ho he hd)
   rw[hy]
   exact q1.iff
end
end Go.Eng
end
noncomputable section
namespace Go.Eng
open Go Go.RowKit
section
variable {P:Program}{T:Tab}{call:By}{ys:Ys}{r:Option Nat}{kk:Nat}{ops:Array Oper}{pc:PC}
theorem My {acc:List Nat}:∀(es:List Edge),∀e∈es,Region.binds .any e=true→(EU acc es).testBit e.on=true
 |[],e,he,_=>by cases he
 |e0::es,e,he,hb=>by
  simp only[EU]
  cases he with
  |head=>
   rw[if_pos hb]
   simp only[show∀x y,Nat.lor x y=x ||| y from fun _ _=>rfl,Nat.testBit_or,Nat.testBit_two_pow]
   simp
  |tail _ he=>
   have:=My (acc:=acc) es e he hb
   split
   ·simp only[show∀x y,Nat.lor x y=x ||| y from fun _ _=>rfl,Nat.testBit_or,this,Bool.or_true]
   ·exact this
theorem PG:∀(l:List Oper) (pre:List Oper) (acc:List Nat),acc.length=pre.length→
  (∀(j r:Nat) (o:Oper),acc[j]? =some r→(pre++l)[j]? =some o→∀e∈o.after,Region.binds .any e=true→r.testBit e.on=true)→
  ∀(j r:Nat) (o:Oper),(A7 l acc)[j]? =some r→(pre++l)[j]? =some o→∀e∈o.after,Region.binds .any e=true→r.testBit e.on=true
 |[],pre,acc,_,h=>h
 |o::l,pre,acc,hlen,h=>by
  simp only[A7]
  have e:pre++o::l=(pre++[o])++l:=by simp
  rw[e]
  refine PG l (pre++[o]) _ (by simp[hlen]) ?_
  intro j r o' hr ho'
  rw[List.getElem?_append] at hr
  split at hr
  ·exact h j r o' hr (by rw[e];exact ho')
  ·rename_i hj
   have hj2:j=acc.length:=by
    rcases Nat.lt_or_ge (j - acc.length) 1 with h1|h1
    ·omega
    ·rw[List.getElem?_eq_none (by simpa using h1)] at hr;cases hr
   subst hj2
   simp at hr
   subst hr
   have hoo:o'=o:=by
    rw[hlen] at ho'
    simp at ho'
    exact ho'.symm
   subst hoo
   exact fun e he hb=>My _ e (by simpa using he) hb
theorem SB (hm:Gz (A7 ops.toList []) 0=true){k:Nat}{o:Oper}(ho:ops[k]? =some o){e:Edge}(he:e∈o.after)(hb:Region.binds .any e=true):e.on < k:=by
 have hk:k < (A7 ops.toList []).length:=by rw[DM];exact (Array.getElem?_eq_some_iff.1 ho).1
 have h1:=PG ops.toList [] [] rfl (fun j r o hr=>by simp at hr) k _ o (List.getElem?_eq_getElem hk) (by simpa using ho) e he hb
 have:=Eg _ 0 hm k _ (List.getElem?_eq_getElem hk) e.on h1
 omega
theorem K5 {i:Nat}{o:Oper}(ho:ops[i]? =some o){a:Act}{w:World}{K:Act→World→Prop}{Q:Exit→Act→World→Prop}(h:Ga P r kk ops o a w K Q):wpOpIn (fen r) kk P ops Q i K a w:=by
 unfold Ga at h
 unfold wpOpIn
 simp only[ho]
 split
 ·rename_i hw;rw[if_pos hw] at h;exact h
 ·rename_i hw;rw[if_neg hw] at h;exact⟨fun _ _=>trivial,h⟩
theorem bO (hcall:Dj P T call)(hys:DQ P T.lp ys)(hm:Gz (A7 ops.toList []) 0=true){h:Nat}(htail:∀j r,(A7 ops.toList [])[j]? =some r→h≤j→∀i,i < j→r.testBit i=true):
  ∀{l:List Oper} {s s':RS},Dd P call ys ops pc l s=some s'→Agr T s'.g→BH T s'.g→pcv T pc→CG T s.g pc→
   ∀(k:Nat) (listed:Array Bool) ρ a w Q,h≤k→k+l.length=ops.size→(∀j,l[j]? =ops[k+j]?)→listed.size=ops.size→(∀j,listed.getD j false=true↔j < k)→LI ops listed→Cv T ρ ops s a w→
   (∀ ρ' a' w',Cv T ρ' ops s' a' w'→AO T s.g.n ρ s.mem w ρ' s'.mem w'→Q .normal a' w')→wpAnyIn (fen r) kk P .any ops Q l.length listed a w
 |[],s,s',hs,_,_,_,_,k,listed, ρ,a,w,Q,hk,hlen,hl,hsz,hlist,_,hi,hK=>by
  simp only[Dd] at hs
  cases hs
  refine wpAnyIn_done ?_ (hK ρ a w hi (AO.refl _ _ _ _ _)) _
  refine List.eq_nil_iff_forall_not_mem.2 fun i hi=>?_
  obtain⟨h1,o,ho,_⟩:=mem_ready.1 hi
  have:i < ops.size:=(Array.getElem?_eq_some_iff.1 ho).1
  have h2:=(hlist i).2 (by simp at hlen;omega)
  rw[Array.getD_eq_getD_getElem?] at h1 h2
  have hlt:i < listed.size:=by omega
  rw[Array.getElem?_eq_getElem hlt] at h1 h2
  simp only[Option.getD_some] at h1 h2
  rw[h1] at h2;cases h2
 |o::l,s,s',hs,hA,hob,hpc,hpk,k,listed, ρ,a,w,Q,hk,hlen,hl,hsz,hlist,hcl,hi,hK=>by
  simp only[Dd,Option.bind_eq_bind,Option.bind_eq_some_iff] at hs
  obtain⟨s1,h1,h2⟩:=hs
  obtain⟨g1,k1⟩:=Ea (r:=r) (kk:=kk) hcall hys h1
  have g2:=(Ki (r:=r) (kk:=kk) hcall hys h2).1
  have ho:ops[k]? =some o:=by simpa using (hl 0).symm
  have hksz:k < listed.size:=by simp at hlen;omega
  have toF:∀i,listed.getD i true=false→listed.getD i false=false:=fun i h=>by
   rw[Array.getD_eq_getD_getElem?] at h⊢
   cases hx:listed[i]? with
   |none=>rfl
   |some b=>rw[hx] at h;exact h
  have only:∀i,i∈Region.ready .any ops listed→i=k:=fun i hir=>by
   obtain⟨q1,oi,q2,q3⟩:=mem_ready.1 hir
   have hge:k≤i:=by
    rcases Nat.lt_or_ge i k with h|h
    ·have:=(hlist i).2 h;rw[toF i q1] at this;cases this
    ·exact h
   have hisz:i < (A7 ops.toList []).length:=by rw[DM];exact (Array.getElem?_eq_some_iff.1 q2).1
   rcases Nat.lt_or_ge k i with h|h
   ·have hb:=htail i _ (List.getElem?_eq_getElem hisz) (by omega) k h
    have:=Dg hcl (List.getElem?_eq_getElem hisz) q2 q3 k hb
    have:=(hlist k).1 this
    omega
   ·omega
  have kready:k∈Region.ready .any ops listed→wpOpIn (fen r) kk P ops Q k (wpAnyIn (fen r) kk P .any ops Q l.length (listed.setIfInBounds k true)) a w:=fun hkr=>by
   obtain⟨_,ok,q2,q3⟩:=mem_ready.1 hkr
   rw[ho] at q2;cases q2
   refine K5 ho ?_
   refine k1 (hA.of g2) (hob.of g2) hpc hpk ρ a w _ Q hi fun ρ' v w' r1 r2=>?_
   refine bO hcall hys hm htail h2 hA hob hpc (hpk.grow g1) (k+1) _ ρ' _ w' Q (by omega) (by simp at hlen;omega) (fun j=>by have:=hl (j+1);simpa [Nat.add_assoc,Nat.add_comm 1 j] using this) (by simpa using hsz) (fun j=>?_) ?_ r1 fun ρ2 a2 w2 hi2 hs2=>?_
   ·rw[BY _ _ _ hksz]
    split
    ·rename_i e;subst e;simp
    ·rename_i e;rw[hlist j];omega
   ·intro j oj hoj hlj e he hb
    rw[BY _ _ _ hksz] at hlj⊢
    split
    ·rfl
    ·split at hlj
     ·rename_i e2
      rw[e2,ho] at hoj;cases hoj
      exact q3 e he hb
     ·exact hcl j oj hoj hlj e he hb
   ·exact hK ρ2 a2 w2 hi2 (r2.trans hi.rel.mem g1.n hs2)
  refine⟨fun hnil=>?_,fun i hir=>by have:=only i hir;subst this;exact kready hir⟩
  exfalso
  have:k∈Region.ready .any ops listed:=by
   refine mem_ready.2 ⟨?_,o,ho,fun e he hb=>?_⟩
   ·have h0:¬listed.getD k false=true:=fun h=>by have:=(hlist k).1 h;omega
    rw[Array.getD_eq_getD_getElem?,Array.getElem?_eq_getElem hksz] at h0⊢
    simpa using h0
   ·exact (hlist e.on).2 (SB hm ho he hb)
  rw[hnil] at this;cases this
def Di (listed:Array Bool):Nat:=listed.toList.countP (fun b=> !b)
theorem Rc:∀(l:List Bool) (i:Nat),l[i]? =some false→(l.set i true).countP (fun b=> !b)+1=l.countP (fun b=> !b)
 |[],i,h=>by simp at h
 |b::l,0,h=>by simp at h;subst h;simp
 |b::l,i+1,h=>by
  have:=Rc l i (by simpa using h)
  simp only[List.set_cons_succ,List.countP_cons]
  omega
theorem IS {listed:Array Bool}{i:Nat}(hi:i < listed.size)(h:listed.getD i false=false):Di (listed.setIfInBounds i true)+1=Di listed:=by
 unfold Di
 rw[Array.toList_setIfInBounds]
 refine Rc _ i ?_
 rw[Array.getD_eq_getD_getElem?,Array.getElem?_eq_getElem hi] at h
 simp at h
 simp[hi,h]
theorem KD:∀(l:List Bool) (h:Nat),h≤l.length→(∀j,(l[j]?).getD false=true↔j < h)→l.countP (fun b=> !b)=l.length - h
 |[],h,_,_=>by simp
 |b::l,0,_,hl=>by
  have hb:b=false:=by
   have:=hl 0
   simpa using this
  subst hb
  have:=KD l 0 (Nat.zero_le _) (fun j=>by simpa using hl (j+1))
  simp[this]
 |b::l,h+1,hle,hl=>by
  have hb:b=true:=by
   have:=(hl 0).2 (Nat.succ_pos _)
   simpa using this
  subst hb
  have:=KD l h (by simpa using hle) (fun j=>by have:=hl (j+1);simpa using this)
  simp[this]
theorem Iu {listed:Array Bool}{h:Nat}(hle:h≤listed.size)(hl:∀j,listed.getD j false=true↔j < h):Di listed=listed.size - h:=by
 unfold Di
 rw[KD listed.toList h (by simpa using hle) (fun j=>by rw[←hl j,Array.getD_eq_getD_getElem?];simp)]
 simp
theorem KC.full {h:Nat}{S:Nat→DS}(H:Es P T call ys ops pc h S){listed:Array Bool}{ρ :Nat→Option Nat}{a:Act}{w:World}(I:KC T ops h S listed ρ a w)(hl:∀j,j < h→listed.getD j false=true):
  Cv T ρ ops ⟨(S h).tmps,(S h).mem,(S h).g,(S h).gls.map (·.2)⟩ a w:=by
 obtain⟨l1,_⟩:=H.later 0 h (by omega)
 rw[Nat.zero_add] at l1
 refine⟨⟨(by simp only;rw[l1.mem];exact I.defers),by rw[I.asize,l1.len],fun t c hc=>?_,?_⟩,fun e he=>?_⟩
 ·simp only
  rw[l1.mem]
  refine I.val H (Nat.le_refl _) hc fun i o ho hd=>?_
  rcases Nat.lt_or_ge i h with hi|hi
  ·exact .inl ⟨hl i hi,hi⟩
  ·refine .inr ⟨?_,hi⟩
   cases hx:listed.getD i false with
   |false=>rfl
   |true=>have:=I.only i hx;omega
 ·simp only
  rw[l1.mem]
  exact I.mem.mono l1.grow.n
 ·obtain⟨p,hp,rfl⟩:=List.mem_map.1 he
  have hlt:=(H.gls h (Nat.le_refl _) p hp).1
  obtain⟨l3,_⟩:=H.later (p.1+1) (h - (p.1+1)) (by omega)
  rw[show p.1+1+(h - (p.1+1))=h by omega] at l3
  exact (I.gfacts p hp (hl p.1 hlt)).1.up l3.grow.n
theorem jg {h:Nat}{S:Nat→DS}(H:Es P T call ys ops pc h S)(hA:Agr T (S h).g)(hob:BH T (S h).g)(hpc:pcv T pc)(hpk:CG T (S 0).g pc){Q:Exit→Act→World→Prop}{ρ :Nat→Option Nat}{w0:World}(hm0:AP T (S 0).g.n ρ (S 0).mem w0)
  (hK:∀(listed:Array Bool) a w,listed.size=ops.size→(∀j,listed.getD j false=true↔j < h)→LI ops listed→Cv T ρ ops ⟨(S h).tmps,(S h).mem,(S h).g,(S h).gls.map (·.2)⟩ a w→
   AO T (S 0).g.n ρ (S 0).mem w0 ρ (S 0).mem w→wpAnyIn (fen r) kk P .any ops Q (ops.size - h) listed a w):
  ∀(fuel:Nat) (listed:Array Bool) (a:Act) (w:World),KC T ops h S listed ρ a w→AO T (S 0).g.n ρ (S 0).mem w0 ρ (S 0).mem w→Di listed=fuel→wpAnyIn (fen r) kk P .any ops Q fuel listed a w:=by
 intro fuel
 induction fuel with
 |zero=>
  intro listed a w I st hu
  by_cases hall:∀j,j < h→listed.getD j false=true
  ·have hiff:∀j,listed.getD j false=true↔j < h:=fun j=>⟨I.only j,hall j⟩
   have hc:=Iu (by rw[I.size];exact H.le) hiff
   rw[hu,I.size] at hc
   have:=hK listed a w I.size hiff I.closed (I.full H hall) st
   rw[←hc] at this
   exact this
  ·exfalso
   simp only[Classical.not_forall] at hall
   obtain⟨j,hj,hlj⟩:=hall
   have:=IS (listed:=listed) (i:=j) (by rw[I.size];exact Nat.lt_of_lt_of_le hj H.le) (by simpa using hlj)
   omega
 |succ fuel ih=>
  intro listed a w I st hu
  by_cases hall:∀j,j < h→listed.getD j false=true
  ·have hiff:∀j,listed.getD j false=true↔j < h:=fun j=>⟨I.only j,hall j⟩
   have hc:=Iu (by rw[I.size];exact H.le) hiff
   rw[hu,I.size] at hc
   have:=hK listed a w I.size hiff I.closed (I.full H hall) st
   rw[←hc] at this
   exact this
  ·simp only[Classical.not_forall] at hall
   obtain⟨j,hj,hlj⟩:=hall
   have hmin:∃j,j < h∧listed.getD j false=false∧∀i,i < j→listed.getD i false=true:=by
    have key:∀n,(∃j,j < n∧j < h∧listed.getD j false=false)→∃j,j < h∧listed.getD j false=false∧∀i,i < j→listed.getD i false=true:=by
     intro n
     induction n with
     |zero=>rintro⟨j,h1,_⟩;omega
     |succ n ihn=>
      rintro⟨j,h1,h2,h3⟩
      by_cases hx:∃j,j < n∧j < h∧listed.getD j false=false
      ·exact ihn hx
      ·have hjn:j=n:=by
        rcases Nat.lt_or_ge j n with h|h
        ·exact absurd ⟨j,h,h2,h3⟩ hx
        ·omega
       subst hjn
       refine⟨j,h2,h3,fun i hi=>?_⟩
       cases hli:listed.getD i false with
       |true=>rfl
       |false=>exact absurd ⟨i,hi,by omega,hli⟩ hx
    exact key (j+1) ⟨j,Nat.lt_succ_self _,hj,by simpa using hlj⟩
   obtain⟨j0,h0,hl0,hbelow⟩:=hmin
   have toF:∀i,listed.getD i true=false→listed.getD i false=false:=fun i h=>by
    rw[Array.getD_eq_getD_getElem?] at h⊢
    cases hx:listed[i]? with
    |none=>rfl
    |some b=>rw[hx] at h;exact h
   have hr0:j0∈Region.ready .any ops listed:=by
    obtain⟨o,ho⟩:=H.op h0
    refine mem_ready.2 ⟨?_,o,ho,fun e he hb=>hbelow e.on (SB H.masks ho he hb)⟩
    have hlt:j0 < listed.size:=by rw[I.size];exact Nat.lt_of_lt_of_le h0 H.le
    rw[Array.getD_eq_getD_getElem?,Array.getElem?_eq_getElem hlt] at hl0⊢
    simpa using hl0
   refine⟨(fun hnil=>by rw[hnil] at hr0;cases hr0),fun i hir=>?_⟩
   obtain⟨q1,o,q2,q3⟩:=mem_ready.1 hir
   have hiN:i < ops.size:=(Array.getElem?_eq_some_iff.1 q2).1
   have hih:i < h:=by
    rcases Nat.lt_or_ge i h with hh|hh
    ·exact hh
    ·have hisz:i < (A7 ops.toList []).length:=by rw[DM];exact hiN
     have hb:=H.tail i _ (List.getElem?_eq_getElem hisz) hh j0 (by omega)
     have:=Dg I.closed (List.getElem?_eq_getElem hisz) q2 q3 j0 hb
     rw[hl0] at this;cases this
   refine K5 q2 (I.comes H hA hob hpc hpk hih q2 (toF i q1) q3 fun v w' I' st'=>?_)
   refine ih _ _ w' I' (st.trans hm0 (Nat.le_refl _) st') ?_
   have:=IS (listed:=listed) (i:=i) (by rw[I.size];exact hiN) (toF i q1)
   omega
end
end Go.Eng
end
noncomputable section
namespace Go.Eng
open Go Go.RowKit
section
variable {P:Program}{T:Tab}{call:By}{ys:Ys}{r:Option Nat}{kk:Nat}{ops:Array Oper}{pc:PC}
theorem Te {ops:Array Oper}{pc:PC}{s s':RS}{o:Oper}(h:DT P call ys ops pc s o=some s'):s'.tmps.n=s.tmps.n:=by
 unfold DT at h
 simp only[Option.bind_eq_bind,Option.bind_eq_some_iff] at h
 obtain⟨⟨run,s1⟩,hg,h⟩:=h
 obtain⟨_,gg2,_⟩:=IP hg
 rw[←gg2]
 simp only at h
 split at h
 ·cases h
 split at h
 ·cases h;exact If ..
 ·split at h
  ·simp only[Option.bind_eq_some_iff] at h
   obtain⟨⟨c,m,g⟩,_,h⟩:=h
   simp only at h
   split at h
   ·cases h;exact If ..
   ·split at h
    ·cases h;exact If ..
    ·split at h
     ·cases h;exact If ..
     ·cases h
  ·simp only[Option.bind_eq_some_iff] at h
   obtain⟨r,_,h⟩:=h
   cases h;exact If ..
  ·simp only[Option.bind_eq_some_iff] at h
   obtain⟨r,_,h⟩:=h
   split at h
   ·cases h;exact If ..
   ·split at h
    ·cases h;exact If ..
    ·cases h
theorem PE {D:List (Tmp × Nat)}:∀{l:List Oper} {Rs:List Nat} {j0:Nat} {S0 Sh:DS},heads P call ys ops D pc Rs l j0 S0=some Sh→
  ∃S:Nat→DS,S j0=S0∧S (j0+l.length)=Sh∧∀i o,l[i]? =some o→∃R,Rs[i]? =some R∧J9 P call ys ops D pc R (j0+i) o (S (j0+i))=some (S (j0+i+1))
 |[],Rs,j0,S0,Sh,h=>by
  have h':some S0=some Sh:=by cases Rs<;>exact h
  cases h'
  exact⟨fun _=>S0,rfl,rfl,fun i o ho=>by simp at ho⟩
 |o::l,[],j0,S0,Sh,h=>by simp[heads] at h
 |o::l,R::Rs,j0,S0,Sh,h=>by
  simp only[heads,Option.bind_eq_bind,Option.bind_eq_some_iff] at h
  obtain⟨S1,h1,h2⟩:=h
  obtain⟨S,q1,q2,q3⟩:=PE h2
  refine⟨fun k=>if k=j0 then S0 else S k,by simp,?_,fun i o' ho'=>?_⟩
  ·simp only[List.length_cons]
   rw[if_neg (by omega),←q2]
   congr 1;omega
  ·cases i with
   |zero=>
    simp at ho'
    subst ho'
    refine⟨R,rfl,?_⟩
    simp only[Nat.add_zero,if_true]
    rw[if_neg (by omega),q1]
    exact h1
   |succ i=>
    obtain⟨R',hR',this⟩:=q3 i o' (by simpa using ho')
    refine⟨R',by simpa using hR',?_⟩
    simp only
    rw[if_neg (by omega),if_neg (by omega),show j0+(i+1)=j0+1+i by omega]
    exact this
theorem AO.drawn (T:Tab)(n:Nat)(ρ :Nat→Option Nat)(m:Mem)(w:World)(d:Nat):AO T n ρ m w ρ m { w with drawn:=d } where
 os:=rfl
 tape:=rfl
 output:=rfl
 size:=Nat.le_refl _
 mlen:=fun _ h=>h
 rho:=fun _ h=>⟨rfl,h⟩
 untr:=fun _ _ h=>h
 fresh:=fun id b h ht _=>by rw[h] at ht;cases ht
 old:=fun _ _ _=>rfl
 tok:=fun _ _ _ _ h=> .inl ⟨h,rfl,fun _ _=>rfl⟩
theorem AP.drawn {n:Nat}{ρ :Nat→Option Nat}{m:Mem}{w:World}(hm:AP T n ρ m w)(d:Nat):AP T n ρ m { w with drawn:=d }:=
 ⟨fun id=>CO.step (AO.drawn T n ρ m w d) hm (Nat.le_refl _) rfl rfl (fun _ _=>rfl),hm.inj,hm.fr⟩
theorem gv (hm:P.follows .mixedOrders=true)(hcall:Dj P T call)(hys:DQ P T.lp ys){l:Loc}{g:G}{s':RS}(h:V9 P call ys ops pc l g=some s'):
  Aa g s'.g∧s'.tmps.n=l.tmps.n∧(Agr T s'.g→BH T s'.g→pcv T pc→CG T g pc→∀id ρ a w Q,Rel T g.n ρ l a w→
   (∀ ρ' a' w',Cv T ρ' ops s' a' w'→AO T g.n ρ l.mem w ρ' s'.mem w'→Q .normal a' w')→(Code.region id ops true).wpIn (fen r) kk P Q a w):=by
 unfold V9 at h
 simp only at h
 split at h
 ·rename_i hc
  rw[Bool.and_eq_true] at hc
  obtain⟨hmask,hnod⟩:=hc
  simp only[Option.bind_eq_bind,Option.bind_eq_some_iff] at h
  obtain⟨Sh,hh,ht⟩:=h
  obtain⟨t1,_,t3⟩:=J4 (A7 ops.toList []) 0 0 (Nat.le_refl _)
  rw[Nat.zero_add,DM] at t1
  generalize hdef:ER (A7 ops.toList []) 0 0=hd at*
  obtain⟨S,q1,q2,q3⟩:=PE hh
  have hlen:(ops.toList.take hd).length=hd:=by simp;omega
  rw[Nat.zero_add,hlen] at q2
  have H:Es P T call ys ops pc hd S:=by
   refine⟨t1,fun j o hj ho=>?_,hmask,hnod,fun j r hr hj i hi=>t3 j r hr (by omega) i (by omega),hcall,hys,by rw[q1]⟩
   obtain⟨R,hR,this⟩:=q3 j o (by rw[List.getElem?_take,if_pos hj];simpa using ho)
   rw[Nat.zero_add] at this
   exact⟨R,hR,this⟩
  obtain⟨l1,_⟩:=H.later 0 hd (by omega)
  rw[Nat.zero_add] at l1
  have g0:(S 0).g=g:=by rw[q1]
  have m0:(S 0).mem=l.mem:=by rw[q1]
  have tm0:(S 0).tmps=l.tmps:=by rw[q1]
  subst q2
  obtain⟨g2,k2⟩:=Ki (r:=r) (kk:=kk) hcall hys ht
  refine⟨?_,?_,fun hA hob hpc hpk id ρ a w Q hR hK=>?_⟩
  ·rw[←g0];exact l1.grow.trans g2
  ·have:=(show s'.tmps.n=(S hd).tmps.n from by
    have key:∀{l:List Oper} {s s':RS},Dd P call ys ops pc l s=some s'→s'.tmps.n=s.tmps.n:=by
     intro l
     induction l with
     |nil=>intro s s' h;simp only[Dd] at h;cases h;rfl
     |cons o l ih=>
      intro s s' h
      simp only[Dd,Option.bind_eq_bind,Option.bind_eq_some_iff] at h
      obtain⟨s1,h1,h2⟩:=h
      rw[ih h2]
      exact Te h1
    exact key ht)
   rw[this,l1.len,tm0]
  ·have hAh:Agr T (S hd).g:=hA.of g2
   have hobh:BH T (S hd).g:=hob.of g2
   refine wpIn_region_any hm ?_
   have hst:=AO.drawn T (S 0).g.n ρ (S 0).mem w (w.drawn+1)
   have hm0:AP T (S 0).g.n ρ (S 0).mem { w with drawn:=w.drawn+1 }:=by rw[g0,m0];exact hR.mem.drawn _
   have hun:∀j,(Array.replicate ops.size false).getD j false=false:=fun j=>by
    rw[Array.getD_eq_getD_getElem?,Array.getElem?_replicate]
    split<;>rfl
   have I0:KC T ops hd S (Array.replicate ops.size false) ρ a { w with drawn:=w.drawn+1 }:=by
    refine⟨by simp,fun j o _ hj=>?_,fun i hi=>?_,(by rw[m0];exact hR.defers.on (AO.drawn T g.n ρ l.mem w (w.drawn+1))),by rw[tm0];exact hR.size,hm0,fun t c hc _=>?_,fun i o d c hi=>?_,fun p _ hp=>?_⟩
    ·rw[hun] at hj;cases hj
    ·rw[hun] at hi;cases hi
    ·rw[tm0] at hc
     have:=hR.tmps t c hc
     rw[g0,m0]
     exact AB.mono0 (by rw[←g0,←m0];exact hst) (Nat.le_refl _) _ _ this
    ·rw[hun] at hi;cases hi
    ·rw[hun] at hp;cases hp
   have hcount:Di (Array.replicate ops.size false)=ops.size:=by simp[Di,List.countP_replicate]
   refine jg H hAh hobh hpc (by rw[g0];exact hpk) hm0 (fun listed a' w' e1 e2 e3 e4 e5=>?_) ops.size _ a _ I0 (AO.refl _ _ _ _ _) hcount
   have hdl:(ops.toList.drop hd).length=ops.size - hd:=by simp
   have:=bO (r:=r) (kk:=kk) hcall hys hmask (fun j r hr hj i hi=>t3 j r hr (by omega) i (by omega)) ht hA hob hpc ((by rw[g0];exact hpk:CG T (S 0).g pc).grow l1.grow) hd listed ρ a' w' Q (Nat.le_refl _) (by rw[hdl];omega)
    (fun j=>by simp) e1 e2 e3 e4 (fun ρ2 a2 w2 hi2 hs2=>?_)
   ·rw[hdl] at this;exact this
   ·refine hK ρ2 a2 w2 hi2 ?_
    rw[←g0,←m0]
    have s1:AO T (S 0).g.n ρ (S 0).mem w ρ (S 0).mem w':=hst.trans (by rw[g0,m0];exact hR.mem) (Nat.le_refl _) e5
    have s2:AO T (S hd).g.n ρ (S 0).mem w' ρ2 s'.mem w2:=by rw[←l1.mem];exact hs2
    exact s1.trans (by rw[g0,m0];exact hR.mem) l1.grow.n s2
 ·cases h
end
end Go.Eng
end
noncomputable section
namespace Go.Eng
open Go Go.RowKit
structure It (T1 T2:Tab) (ρ :Nat→Option Nat) (m1 m2:Mem) (w:World) (nh nm:Nat):Prop where
 eq:∀x,x < nh→T2 x=T1 x
 safe:∀b off,BN T1 ρ m1 w b off→BN T2 ρ m2 w b off
 ptr:∀id,id < nm→(m1.at id).ptrOk=true→(m2.at id).ptrOk=true
 vec:∀id,id < nm→m1.at id≠ .pad→m2.at id≠ .pad∧∀x ks e,m2.at id= .tok x ks e→x < nh→∃ks1,m1.at id= .tok x ks1 e∧ks1.length=ks.length
theorem CX {a b:Nat}(h:Nat.blt a b=true):a < b:=by rwa [Nat.blt_eq] at h
section
variable {T1 T2:Tab}{ρ :Nat→Option Nat}{m1 m2:Mem}{w:World}{nh nm n1 n2:Nat}
theorem It.kd (M:It T1 T2 ρ m1 m2 w nh nm){k:Kd}{u:U}{v:Value}(h:Ak (BN T1 ρ m1 w) w k u v):Ak (BN T2 ρ m2 w) w k u v:=
 Ak.mono (fun b off hs=>⟨M.safe b off hs,rfl⟩) k u v h
mutual
theorem AB.move (M:It T1 T2 ρ m1 m2 w nh nm)(hn:nh≤n2):∀(c:AC) (v:Value),AC.lt nh nm c=true→AB T1 n1 ρ m1 w c v→AB T2 n2 ρ m2 w c v
 | .any,_,_,_=>trivial
 | .anyc,_,_,h=>h
 | .on c a,v,hl,h=>by
  simp only[AC.lt,Bool.and_eq_true] at hl
  have hc:=CX hl.1
  refine⟨Nat.lt_of_lt_of_le hc hn,fun ht=>AB.move M hn a v hl.2 (h.2 ?_)⟩
  rw[M.eq c hc] at ht;exact ht
 | .gd c a,v,hl,h=>by
  simp only[AC.lt,Bool.and_eq_true] at hl
  have hc:=CX hl.1
  refine⟨Nat.lt_of_lt_of_le hc hn,fun ht=>AB.move M hn a v hl.2 (h.2.1 ?_),fun ht=>h.2.2 ?_⟩
  ·rw[M.eq c hc] at ht;exact ht
  ·rw[M.eq c hc] at ht;exact ht
 | .cb _,_,_,h=>h
 | .b x,v,hl,h=>by
  have hx:=CX hl
  obtain⟨_,b,h1,h2⟩:=h
  exact⟨Nat.lt_of_lt_of_le hx hn,b,by rw[M.eq x hx];exact h1,h2⟩
 | .nb x,v,hl,h=>by
  have hx:=CX hl
  obtain⟨_,b,h1,h2⟩:=h
  exact⟨Nat.lt_of_lt_of_le hx hn,b,by rw[M.eq x hx];exact h1,h2⟩
 | .ci _ _,_,_,h=>h
 | .i k lo hi x,v,hl,h=>by
  have hx:=CX hl
  obtain⟨_,b,h1,h2⟩:=h
  exact⟨Nat.lt_of_lt_of_le hx hn,b,by rw[M.eq x hx];exact h1,h2⟩
 | .cv _,_,_,h=>h
 | .v x,v,hl,h=>by
  have hx:=CX hl
  exact⟨Nat.lt_of_lt_of_le hx hn,by rw[M.eq x hx];exact h.2.1,h.2.2⟩
 | .s x,v,hl,h=>by
  have hx:=CX hl
  obtain⟨_,b,h1,h2⟩:=h
  exact⟨Nat.lt_of_lt_of_le hx hn,b,by rw[M.eq x hx];exact h1,h2⟩
 | .ptr id off,v,hl,h=>by
  obtain⟨b,h1,h2,h3⟩:=h
  exact⟨b,h1,h2,M.ptr id (CX hl) h3⟩
 | .pix id base stride cnt x plus,v,hl,h=>by
  simp only[AC.lt,Bool.and_eq_true] at hl
  have hx:=CX hl.2
  obtain⟨_,b,j,h1,h2,h3,h4,h5,h6⟩:=h
  exact⟨Nat.lt_of_lt_of_le hx hn,b,j,h1,by rw[M.eq x hx];exact h2,h3,h4,h5,M.ptr id (CX hl.1) h6⟩
 | .ro x ks,v,hl,h=>by
  have hx:=CX hl
  exact⟨Nat.lt_of_lt_of_le hx hn,by rw[M.eq x hx];exact M.kd h.2⟩
 | .rp x t off ks,v,hl,h=>by
  simp only[AC.lt,Bool.and_eq_true] at hl
  have hx:=CX hl.1
  have ht:=CX hl.2
  obtain⟨_,j,b,o,us,h1,h2,h3,h4,h5⟩:=h
  refine⟨⟨Nat.lt_of_lt_of_le hx hn,Nat.lt_of_lt_of_le ht hn⟩,j,b,o,us,by rw[M.eq t ht];exact h1,h2,by rw[M.eq x hx];exact h3,h4,?_⟩
  exact Aq.mono (fun b off hs=>⟨M.safe b off hs,rfl⟩) _ _ _ _ h5
 | .vec id x ks,v,hl,h=>by
  simp only[AC.lt,Bool.and_eq_true] at hl
  have hx:=CX hl.2
  obtain⟨_,h2,h3,h4⟩:=h
  obtain⟨k1,k2⟩:=M.vec id (CX hl.1) h2
  refine⟨Nat.lt_of_lt_of_le hx hn,k1,by rw[M.eq x hx];exact M.kd h3,fun ks' e he=>?_⟩
  obtain⟨ks1,q1,q2⟩:=k2 x ks' e he hx
  rcases h4 ks1 e q1 with⟨l1,l2⟩|⟨b,cap,vs,l1,l2,l3,l4⟩
  ·exact .inl ⟨l1,l2⟩
  ·exact .inr ⟨b,cap,vs,l1,by rw[M.eq x hx];exact l2,l3,by rw[←q2];exact l4⟩
 | .fn f first cap,v,hl,h=>by
  simp only[AC.lt,Bool.and_eq_true] at hl
  obtain⟨vs,us,h1,h2,h3⟩:=h
  exact⟨vs,us,h1,AE.move M hn first vs hl.1 h2,AE.move M hn cap us hl.2 h3⟩
 | .sel x alts,v,hl,h=>by
  simp only[AC.lt,Bool.and_eq_true] at hl
  have hx:=CX hl.1
  obtain⟨_,j,h1,h2,h3⟩:=h
  exact⟨Nat.lt_of_lt_of_le hx hn,j,by rw[M.eq x hx];exact h1,h2,A6.move M hn alts j.toNat v hl.2 h3⟩
 | .yl id,v,hl,h=>by
  obtain⟨b,h1,h2,h3⟩:=h
  exact⟨b,h1,h2,M.ptr id (CX hl) h3⟩
 | .agg l,v,hl,h=>by
  obtain⟨vs,h1,h2⟩:=h
  exact⟨vs,h1,AE.move M hn l vs (by simpa [AC.lt] using hl) h2⟩
 | .tup l,v,hl,h=>by
  obtain⟨vs,h1,h2⟩:=h
  exact⟨vs,h1,AE.move M hn l vs (by simpa [AC.lt] using hl) h2⟩
theorem AE.move (M:It T1 T2 ρ m1 m2 w nh nm)(hn:nh≤n2):∀(l:List AC) (vs:List Value),AC.ltL nh nm l=true→AE T1 n1 ρ m1 w l vs→AE T2 n2 ρ m2 w l vs
 |[],_,_,h=>h
 |c::l,vs,hl,h=>by
  simp only[AC.ltL,Bool.and_eq_true] at hl
  obtain⟨u,us,h1,h2,h3⟩:=h
  exact⟨u,us,h1,AB.move M hn c u hl.1 h2,AE.move M hn l us hl.2 h3⟩
theorem A6.move (M:It T1 T2 ρ m1 m2 w nh nm)(hn:nh≤n2):∀(l:List AC) (j:Nat) (v:Value),AC.ltL nh nm l=true→A6 T1 n1 ρ m1 w l j v→A6 T2 n2 ρ m2 w l j v
 |[],_,_,_,h=>h.elim
 |c::_,0,v,hl,h=>by
  simp only[AC.ltL,Bool.and_eq_true] at hl
  exact AB.move M hn c v hl.1 h
 |_::l,j+1,v,hl,h=>by
  simp only[AC.ltL,Bool.and_eq_true] at hl
  exact A6.move M hn l j v hl.2 h
end
structure FZ (T1 T2:Tab) (n:Nat):Prop where
 eq:∀x,x < n→T2 x=T1 x
 fr:T2.fr=T1.fr
 lp:T2.lp=T1.lp
theorem FZ.safe {n:Nat}(S:FZ T1 T2 n)(hm:AP T1 n ρ m1 w){b off:Nat}(h:BN T1 ρ m1 w b off):BN T2 ρ m1 w b off:=by
 refine⟨h.1,by rw[S.fr];exact h.2.1,fun id=>?_⟩
 have:=h.2.2 id
 cases hx:m1.at id with
 |pad=>trivial
 |gone=>trivial
 |cells l e=>rw[hx] at this;exact this
 |lp s st=>rw[hx] at this;exact this
 |tok x ks e=>
  rw[hx] at this
  intro hr
  have:=this hr
  unfold Ci at this⊢
  rw[S.eq x (hm.tok_lt hx)]
  exact this
section
variable {n:Nat}(S:FZ T1 T2 n)(hs:∀b off,BN T1 ρ m1 w b off→BN T2 ρ m1 w b off)
mutual
theorem AB.tab (S:FZ T1 T2 n)(hs:∀b off,BN T1 ρ m1 w b off→BN T2 ρ m1 w b off):∀(c:AC) (v:Value),AB T1 n ρ m1 w c v→AB T2 n ρ m1 w c v
 | .any,_,_=>trivial
 | .anyc,_,h=>h
 | .on c a,v,h=>⟨h.1,fun ht=>AB.tab S hs a v (h.2 (by rw[S.eq c h.1] at ht;exact ht))⟩
 | .gd c a,v,h=>⟨h.1,fun ht=>AB.tab S hs a v (h.2.1 (by rw[S.eq c h.1] at ht;exact ht)),fun ht=>h.2.2 (by rw[S.eq c h.1] at ht;exact ht)⟩
 | .cb _,_,h=>h
 | .b x,v,⟨h0,b,h1,h2⟩=>⟨h0,b,by rw[S.eq x h0];exact h1,h2⟩
 | .nb x,v,⟨h0,b,h1,h2⟩=>⟨h0,b,by rw[S.eq x h0];exact h1,h2⟩
 | .ci _ _,_,h=>h
 | .i k lo hi x,v,⟨h0,b,h1,h2⟩=>⟨h0,b,by rw[S.eq x h0];exact h1,h2⟩
 | .cv _,_,h=>h
 | .v x,v,⟨h0,h1,h2⟩=>⟨h0,by rw[S.eq x h0];exact h1,h2⟩
 | .s x,v,⟨h0,b,h1,h2⟩=>⟨h0,b,by rw[S.eq x h0];exact h1,h2⟩
 | .ptr _ _,_,h=>h
 | .pix id base stride cnt x plus,v,⟨h0,b,j,h1,h2,h3⟩=>⟨h0,b,j,h1,by rw[S.eq x h0];exact h2,h3⟩
 | .ro x ks,v,⟨h0,h1⟩=>⟨h0,by rw[S.eq x h0];exact Ak.mono (fun b off h=>⟨hs b off h,rfl⟩) _ _ _ h1⟩
 | .rp x t off ks,v,⟨h0,j,b,o,us,h1,h2,h3,h4,h5⟩=>⟨h0,j,b,o,us,by rw[S.eq t h0.2];exact h1,h2,by rw[S.eq x h0.1];exact h3,h4,Aq.mono (fun b off h=>⟨hs b off h,rfl⟩) _ _ _ _ h5⟩
 | .vec id x ks,v,⟨h0,h1,h2,h3⟩=>⟨h0,h1,by rw[S.eq x h0];exact Ak.mono (fun b off h=>⟨hs b off h,rfl⟩) _ _ _ h2,fun ks' e he=>by
   have:=h3 ks' e he
   unfold SA at this⊢
   rw[S.eq x h0]
   exact this⟩
 | .fn f first cap,v,⟨vs,us,h1,h2,h3⟩=>⟨vs,us,h1,AE.tab S hs first vs h2,AE.tab S hs cap us h3⟩
 | .sel x alts,v,⟨h0,j,h1,h2,h3⟩=>⟨h0,j,by rw[S.eq x h0];exact h1,h2,A6.tab S hs alts j.toNat v h3⟩
 | .yl _,_,h=>h
 | .agg l,v,⟨vs,h1,h2⟩=>⟨vs,h1,AE.tab S hs l vs h2⟩
 | .tup l,v,⟨vs,h1,h2⟩=>⟨vs,h1,AE.tab S hs l vs h2⟩
theorem AE.tab (S:FZ T1 T2 n)(hs:∀b off,BN T1 ρ m1 w b off→BN T2 ρ m1 w b off):∀(l:List AC) (vs:List Value),AE T1 n ρ m1 w l vs→AE T2 n ρ m1 w l vs
 |[],_,h=>h
 |c::l,vs,⟨u,us,h1,h2,h3⟩=>⟨u,us,h1,AB.tab S hs c u h2,AE.tab S hs l us h3⟩
theorem A6.tab (S:FZ T1 T2 n)(hs:∀b off,BN T1 ρ m1 w b off→BN T2 ρ m1 w b off):∀(l:List AC) (j:Nat) (v:Value),A6 T1 n ρ m1 w l j v→A6 T2 n ρ m1 w l j v
 |[],_,_,h=>h.elim
 |c::_,0,v,h=>AB.tab S hs c v h
 |_::l,j+1,v,h=>A6.tab S hs l j v h
end
end
theorem AP.tab {n:Nat}(S:FZ T1 T2 n)(hm:AP T1 n ρ m1 w):AP T2 n ρ m1 w:=by
 have hs:∀b off,BN T1 ρ m1 w b off→BN T2 ρ m1 w b off:=fun b off h=>S.safe hm h
 refine⟨fun id=>?_,hm.inj,fun b off h=>by rw[S.fr];exact hm.fr b off h⟩
 have:=hm.blk id
 cases hx:m1.at id with
 |pad=>trivial
 |gone=>trivial
 |cells l e=>
  rw[hx] at this
  obtain⟨b,vs,h1,h2,h3⟩:=this
  exact⟨b,vs,h1,h2,AE.tab S hs l vs h3⟩
 |tok x ks e=>
  rw[hx] at this
  obtain⟨h0,l,h1,h2⟩:=this
  refine⟨h0,l,by rw[S.eq x h0];exact h1,?_⟩
  rw[S.fr]
  exact h2
 |lp s st=>
  rw[hx] at this
  obtain⟨b,q,h1,h2,h3,h4,h5,h6,h7,j,h8,h9⟩:=this
  refine⟨b,q,h1,h2,?_⟩
  rw[S.lp]
  exact⟨h3,h4,h5,h6,fun i c hc=>AB.tab S hs c _ (h7 i c hc),j,AB.tab S hs st _ h8,h9⟩
theorem FZ.symm {n:Nat}(S:FZ T1 T2 n):FZ T2 T1 n:=⟨fun x hx=>(S.eq x hx).symm,S.fr.symm,S.lp.symm⟩
theorem AO.tab {n:Nat}{ρ':Nat→Option Nat}{m':Mem}{w':World}(S:FZ T1 T2 n)(hm:AP T1 n ρ m1 w)(hs:AO T1 n ρ m1 w ρ' m' w')(hnew:∀id x' ks' e',m'.at id= .tok x' ks' e'→T2 x'=T1 x'):AO T2 n ρ m1 w ρ' m' w':=
 {hs with
  tok:=fun id x ks e hx=>by
   have hxn:=hm.tok_lt hx
   rcases hs.tok id x ks e hx with h|⟨h1,h2⟩
   ·exact .inl h
   ·refine .inr ⟨fun b hb off ho=>h1 b hb off (by unfold Ci at ho⊢;rw[S.eq x hxn] at ho;exact ho),?_⟩
    rcases h2 with h2|⟨x',ks',e',h2,h3,h4⟩
    ·exact .inl h2
    ·refine .inr ⟨x',ks',e',h2,h3,fun b' hb'=>?_⟩
     rcases h4 b' hb' with⟨k1,k2⟩|k1
     ·refine .inl ⟨k1,?_⟩
      unfold Ci at k2⊢
      rw[S.eq x hxn,hnew id x' ks' e' h2]
      exact k2
     ·exact .inr k1 }
end
end Go.Eng
end
noncomputable section
namespace Go.Eng
open Go Go.RowKit
theorem fJ {T:Tab}{n:Nat}{ρ :Nat→Option Nat}{m:Mem}{w:World}{k:Kd}{c:AC}{v:Value}{r:Rf}{ps:List Pr}(h:fit k c=some (r,ps))(hc:AB T n ρ m w c v)(hp:∀p∈ps,p.holds T):
  Ak (BN T ρ m w) w k (r.eval T) v:=by
 unfold fit at h
 cases hs:FW c with
 |none=>rw[hs] at h;cases k<;>cases h
 |some kr=>
  obtain⟨k1,r1⟩:=kr
  rw[hs] at h
  have base:=IH hs hc
  have join:(if Kd.beq (Kd.join k1 k) k&& !k.isAny then some (r1,([]:List Pr)) else none)=some (r,ps)→Ak (BN T ρ m w) w k (r.eval T) v:=by
   intro h
   split at h
   ·rename_i hb
    cases h
    rw[Bool.and_eq_true] at hb
    have:=Kd.join_l k1 k _ v base
    rw[Kd.beq_eq _ _ hb.1] at this
    exact this
   ·cases h
  cases k with
  |int k0 lo hi=>
   cases k1 with
   |int k' lo' hi'=>
    simp only at h
    split at h
    ·rename_i hk
     subst hk
     obtain⟨i,h1,h2,h3,h4⟩:=base
     injection h with h
     injection h with e1 e2
     subst e1;subst e2
     refine⟨i,h1,h2,?_⟩
     split at hp
     ·rename_i hb;exact⟨by omega,by omega⟩
     ·have:=hp _ (List.mem_singleton.2 rfl)
      simp only[Pr.holds,J6,List.map_cons,List.map_nil,u0,h1,U.toI] at this
      exact this
    ·cases h
   |_=>exact join h
  |_=>exact join h
theorem U.same_eq {u v:U}(h:U.same u v=true):u=v:=by
 unfold U.same at h
 split at h<;>first|rfl|(cases h;done)|(simp at h;rw[h])
theorem Rf.same_eq {r s:Rf}(h:Rf.same r s=true):r=s:=by
 cases r<;>cases s<;>simp only[Rf.same] at h<;>first|(cases h;done)|(rw[U.same_eq h])|(rw[Nat.eq_of_beq_eq_true h])
theorem Fj {a b:Option (List Pr)}{ps:List Pr}(h:L6 a b=some ps):∃x y,a=some x∧b=some y∧ps=x++y:=by
 cases a<;>cases b<;>simp only[L6] at h<;>first|(cases h;done)|(cases h;exact⟨_,_,rfl,rfl,rfl⟩)
inductive KR (T1 T2:Tab) (nh:Nat):Blk→Blk→Prop where
 |pad (b:Blk):KR T1 T2 nh .pad b
 |gone {b:Blk} (h:b≠ .pad):KR T1 T2 nh .gone b
 |cells (l l':List AC) (e:TypeId):KR T1 T2 nh (.cells l e) (.cells l' e)
 |same (x:Nat) (ks:List Kd) (e:TypeId) (h:x < nh):KR T1 T2 nh (.tok x ks e) (.tok x ks e)
 |tok {x x':Nat} {ks ks':List Kd} {e:TypeId} (h1:nh≤x) (h2:T2 x=T1 x') (h3:ks.length=ks'.length):KR T1 T2 nh (.tok x ks e) (.tok x' ks' e)
 |lp (s:Nat) (st st':AC):KR T1 T2 nh (.lp s st) (.lp s st')
section
variable {T1 T2:Tab}{ρ :Nat→Option Nat}{w:World}{nh nm n1 n2:Nat}{rs:List Rf}{mh m:Mem}
theorem Pi {x:Nat}{r:Rf}(h:LE nh rs x r=true):nh≤x∧rs[x - nh]? =some r:=by
 unfold LE at h
 rw[Bool.and_eq_true] at h
 refine⟨Nat.le_of_ble_eq_true h.1,?_⟩
 have h2:=h.2
 split at h2
 ·rename_i r' hr;rw[hr,Rf.same_eq h2]
 ·cases h2
def Fb (T1 T2:Tab)(nh n2:Nat)(rs:List Rf):Prop:=∀j r,rs[j]? =some r→nh+j < n2∧T2 (nh+j)=r.eval T1
theorem Fb.at {x:Nat}{r:Rf}(H:Fb T1 T2 nh n2 rs)(h:LE nh rs x r=true):x < n2∧T2 x=r.eval T1:=by
 obtain⟨h1,h2⟩:=Pi h
 have:=H _ _ h2
 rw[show nh+(x - nh)=x by omega] at this
 exact this
theorem OV {lps:List (Nat × CP)}{nm:Nat}{mh0 m0:Mem}{b b':Blk}{ps:List Pr}(h:GG lps nh nm rs mh0 m0 b b'=some ps)(H:Fb T1 T2 nh n2 rs):KR T1 T2 nh b b'∧(b= .pad→b'= .pad):=by
 cases b with
 |pad=>cases b'<;>simp only[GG] at h<;>first|(cases h;done)|exact⟨.pad _,fun _=>rfl⟩
 |gone=>cases b'<;>simp only[GG] at h<;>first|(cases h;done)|exact⟨.gone (fun h=>by cases h),fun h=>by cases h⟩
 |cells l e=>
  cases b'<;>simp only[GG] at h<;>try (cases h;done)
  split at h
  ·rename_i he
   rw[Nat.eq_of_beq_eq_true he]
   exact⟨.cells _ _ _,fun h=>by cases h⟩
  ·cases h
 |tok x ks e=>
  cases b'<;>simp only[GG] at h<;>try (cases h;done)
  rename_i x' ks' e'
  split at h
  ·rename_i hc
   simp only[Bool.and_eq_true,Bool.or_eq_true] at hc
   obtain⟨⟨h1,h2⟩,h3⟩:=hc
   have e1:=Nat.eq_of_beq_eq_true h1
   have e2:=Nat.eq_of_beq_eq_true h2
   subst e1
   refine⟨?_,fun h=>by cases h⟩
   rcases h3 with⟨⟨h3,h4⟩,h5⟩|h3
   ·rw[←Nat.eq_of_beq_eq_true h4,←Kd.beqs_eq _ _ h5]
    exact .same _ _ _ (CX h3)
   ·obtain⟨_,q⟩:=H.at h3
    exact .tok (Pi h3).1 (by rw[q];rfl) e2
  ·cases h
 |lp s st=>
  cases b'<;>simp only[GG] at h<;>try (cases h;done)
  split at h
  ·rename_i hc
   simp only[Bool.and_eq_true] at hc
   rw[Nat.eq_of_beq_eq_true hc.1]
   exact⟨.lp _ _ _,fun h=>by cases h⟩
  ·cases h
theorem Nx {lps:List (Nat × CP)}{nm:Nat}{mh0 m0:Mem}:∀{l l':Mem} {ps:List Pr},J8 lps nh nm rs mh0 m0 l l'=some ps→l.length≤l'.length∧∀id,id < l.length→∃qs,GG lps nh nm rs mh0 m0 (l.at id) (l'.at id)=some qs∧∀q∈qs,q∈ps
 |[],_,ps,h=>⟨Nat.zero_le _,fun id hid=>by simp at hid⟩
 |_::_,[],ps,h=>by simp[J8] at h
 |b::l,b'::l',ps,h=>by
  simp only[J8] at h
  obtain⟨x,y,h1,h2,rfl⟩:=Fj h
  obtain⟨k1,k2⟩:=Nx h2
  refine⟨by simp;omega,fun id hid=>?_⟩
  cases id with
  |zero=>exact⟨x,by simpa [Mem.at] using h1,fun q hq=>List.mem_append_left _ hq⟩
  |succ id=>
   obtain⟨qs,q1,q2⟩:=k2 id (by simpa using hid)
   exact⟨qs,by simpa [Mem.at] using q1,fun q hq=>List.mem_append_right _ (q2 q hq)⟩
def Du (T1 T2:Tab)(nh:Nat)(mh m:Mem):Prop:=∀id,KR T1 T2 nh (mh.at id) (m.at id)
theorem Mr {lps:List (Nat × CP)}{nm:Nat}{mh0 m0:Mem}{ps:List Pr}(h:J8 lps nh nm rs mh0 m0 mh m=some ps)(H:Fb T1 T2 nh n2 rs):Du T1 T2 nh mh m∧∀id,id < mh.length→mh.at id= .pad→m.at id= .pad:=by
 obtain⟨h1,h2⟩:=Nx h
 refine⟨fun id=>?_,fun id hid hp=>?_⟩
 ·rcases Nat.lt_or_ge id mh.length with hid|hid
  ·obtain⟨qs,q1,_⟩:=h2 id hid
   exact (OV q1 H).1
  ·rw[Mem.at_ge hid];exact .pad _
 ·obtain⟨qs,q1,_⟩:=h2 id hid
  exact (OV (T1:=T1) (T2:=T2) q1 H).2 hp
theorem Du.tracked (S:Du T1 T2 nh mh m){id:Nat}(h:(mh.at id).tracked=true):(m.at id).tracked=true:=by
 have:=S id
 generalize mh.at id=a at this h
 generalize m.at id=b at this
 cases this<;>first|rfl|(cases h;done)
theorem Du.safe (S:Du T1 T2 nh mh m)(heq:∀x,x < nh→T2 x=T1 x)(hfr:T2.fr=T1.fr){b off:Nat}(h:BN T1 ρ m w b off):BN T2 ρ mh w b off:=by
 refine⟨h.1,by rw[hfr];exact h.2.1,fun id=>?_⟩
 have h2:=h.2.2 id
 have:=S id
 generalize mh.at id=a at this⊢
 generalize m.at id=b at this h2
 cases this with
 |pad=>trivial
 |gone=>trivial
 |cells=>exact h2
 |lp=>exact h2
 |same x ks e hx=>
  intro hr
  have:=h2 hr
  unfold Ci at this⊢
  rw[heq x hx];exact this
 |tok h1 h3 h4=>
  intro hr
  have:=h2 hr
  unfold Ci at this⊢
  rw[h3,h4];exact this
theorem Du.move (S:Du T1 T2 nh mh m)(hp:∀id,id < mh.length→mh.at id= .pad→m.at id= .pad)(heq:∀x,x < nh→T2 x=T1 x)(hfr:T2.fr=T1.fr):It T1 T2 ρ m mh w nh mh.length where
 eq:=heq
 safe:=fun b off h=>S.safe heq hfr h
 ptr:=fun id hid h=>by
  have hne:mh.at id≠ .pad:=fun e=>by rw[hp id hid e] at h;cases h
  have:=S id
  generalize mh.at id=a at this hne⊢
  generalize m.at id=b at this h
  cases this<;>first|rfl|(exact absurd rfl hne)|(cases h;done)
 vec:=fun id hid h=>by
  refine⟨fun e=>h (hp id hid e),fun x ks e hx hlt=>?_⟩
  have:=S id
  rw[hx] at this
  generalize m.at id=b at this
  cases this with
  |same=>exact⟨_,rfl,rfl⟩
  |tok h1=>omega
theorem KU {h c:AC}{ps:List Pr}(hm:KK nh mh.length rs mh m h c=some ps)(M:It T1 T2 ρ m mh w nh mh.length)(hn:nh≤n2)(H:Fb T1 T2 nh n2 rs)(S:Du T1 T2 nh mh m)(hps:∀p∈ps,p.holds T1){v:Value}
  (hv:AB T1 n1 ρ m w c v):AB T2 n2 ρ mh w h v:=by
 unfold KK at hm
 split at hm
 ·rename_i hc
  rw[Bool.and_eq_true] at hc
  have e:=AC.beq_eq _ _ hc.2
  subst e
  exact AB.move M hn h v hc.1 hv
 ·have put:∀{k:Kd} {x:Nat},Il nh rs x (fit k c)=some ps→x < n2∧Ak (BN T2 ρ mh w) w k (T2 x) v:=by
   intro k x hp
   unfold Il at hp
   split at hp
   ·rename_i r qs hf
    split at hp
    ·rename_i hh
     cases hp
     obtain⟨k1,k2⟩:=H.at hh
     exact⟨k1,by rw[k2];exact M.kd (fJ hf hv hps)⟩
    ·cases hp
   ·cases hp
  unfold fo at hm
  cases h with
  |any=>trivial
  |i k lo hi x=>exact put hm
  |b x=>exact put hm
  |v x=>exact put hm
  |s x=>exact put hm
  |ro x ks=>exact put hm
  |vec id x ks=>
   cases c with
   |vec id' x' ks'=>
    simp only at hm
    split at hm
    ·rename_i hc
     simp only[Bool.and_eq_true] at hc
     obtain⟨⟨⟨⟨c1,c2⟩,c3⟩,c4⟩,c5⟩:=hc
     have e1:=Nat.eq_of_beq_eq_true c1
     subst e1
     obtain⟨k1,k2⟩:=H.at c3
     have k2':T2 x=T1 x':=by rw[k2];rfl
     obtain⟨_,h2,h3,h4⟩:=hv
     unfold eU at c5
     split at c5
     ·rename_i y ky e y' ky' e' hmh hmm
      simp only[Bool.and_eq_true] at c5
      obtain⟨⟨⟨d1,d2⟩,d3⟩,d4⟩:=c5
      have f1:=Nat.eq_of_beq_eq_true d1
      have f2:=Nat.eq_of_beq_eq_true d2
      have f3:=Nat.eq_of_beq_eq_true d3
      have f4:=Nat.eq_of_beq_eq_true d4
      subst f1;subst f2;subst f3
      refine⟨k1,by rw[hmh];exact (fun h=>by cases h),?_,fun ks'' e'' he=>?_⟩
      ·rw[k2']
       have:=Kd.join_l (.list ks') (.list ks) _ v (M.kd h3)
       rw[Kd.beq_eq _ _ c4] at this
       exact this
      ·rw[hmh] at he
       injection he with _ g1 g2
       subst g1;subst g2
       rcases h4 ky' e hmm with⟨l1,l2⟩|⟨b,cap,vs,l1,l2,l3,l4⟩
       ·exact .inl ⟨l1,l2⟩
       ·exact .inr ⟨b,cap,vs,l1,by rw[k2'];exact l2,l3,by rw[f4];exact l4⟩
     ·cases c5
    ·cases hm
   |_=>cases hm
  |_=>cases hm
theorem M9 (M:It T1 T2 ρ m mh w nh mh.length)(hn:nh≤n2)(H:Fb T1 T2 nh n2 rs)(S:Du T1 T2 nh mh m):∀{l l':List AC} {ps:List Pr},J0 nh mh.length rs mh m l l'=some ps→(∀p∈ps,p.holds T1)→
  ∀vs,AE T1 n1 ρ m w l' vs→AE T2 n2 ρ mh w l vs
 |[],[],ps,_,_,vs,h=>h
 |[],_::_,ps,h,_,_,_=>by simp[J0] at h
 |_::_,[],ps,h,_,_,_=>by simp[J0] at h
 |a::l,c::l',ps,h,hps,vs,⟨u,us,h1,h2,h3⟩=>by
  simp only[J0] at h
  obtain⟨x,y,k1,k2,rfl⟩:=Fj h
  exact⟨u,us,h1,KU k1 M hn H S (fun p hp=>hps p (List.mem_append_left _ hp)) h2,M9 M hn H S k2 (fun p hp=>hps p (List.mem_append_right _ hp)) us h3⟩
theorem Kx:∀{t t':Tr} {ps:List Pr},Jw nh nm rs mh m t t'=some ps→∀(i:Nat) (h:AC),t.get i=some h→h= .any∨∃c qs,t'.get i=some c∧KK nh nm rs mh m h c=some qs∧∀q∈qs,q∈ps
 | .nil,t',ps,_,i,h,hi=>by simp[Tr.get] at hi
 | .node v l r,t',ps,hm,i,h,hi=>by
  simp only[Jw] at hm
  obtain⟨x,y,h1,h2,rfl⟩:=Fj hm
  obtain⟨y1,y2,h3,h4,rfl⟩:=Fj h2
  rw[Tr.get_step] at hi
  rw[Tr.get_step t']
  by_cases h0:i=0
  ·rw[if_pos h0] at hi⊢
   simp only[Tr.val] at hi
   subst hi
   unfold fY at h1
   split at h1
   ·rename_i heq;cases heq
   ·rename_i heq;cases heq;exact .inl rfl
   ·rename_i h' c _ heq hc
    cases heq
    exact .inr ⟨c,x,hc,h1,fun q hq=>List.mem_append_left _ hq⟩
   ·cases h1
  ·rw[if_neg h0] at hi⊢
   by_cases h5:i % 2=1
   ·rw[if_pos h5] at hi⊢
    rcases Kx h3 (i / 2) h hi with k|⟨c,qs,k1,k2,k3⟩
    ·exact .inl k
    ·exact .inr ⟨c,qs,k1,k2,fun q hq=>List.mem_append_right _ (List.mem_append_left _ (k3 q hq))⟩
   ·rw[if_neg h5] at hi⊢
    rcases Kx h4 (i / 2 - 1) h hi with k|⟨c,qs,k1,k2,k3⟩
    ·exact .inl k
    ·exact .inr ⟨c,qs,k1,k2,fun q hq=>List.mem_append_right _ (List.mem_append_right _ (k3 q hq))⟩
theorem Pz:∀{t:Tr},Xg nh nm t=true→∀(i:Nat) (c:AC),t.get i=some c→AC.lt nh nm c=true
 | .nil,_,i,c,hi=>by simp[Tr.get] at hi
 | .node v l r,h,i,c,hi=>by
  simp only[Xg,Bool.and_eq_true] at h
  rw[Tr.get_step] at hi
  by_cases h0:i=0
  ·rw[if_pos h0] at hi
   simp only[Tr.val] at hi
   subst hi
   exact h.1.1
  ·rw[if_neg h0] at hi
   by_cases h5:i % 2=1
   ·rw[if_pos h5] at hi;exact Pz h.1.2 _ _ hi
   ·rw[if_neg h5] at hi;exact Pz h.2 _ _ hi
theorem Q4:∀{lps:List (Nat × CP)} {s:Nat} {S:CP},Gk lps s=some S→(s,S)∈lps
 |[],_,_,h=>by simp[Gk] at h
 |(s',S')::r,s,S,h=>by
  simp only[Gk] at h
  split at h
  ·rename_i hb
   cases h
   rw[Nat.eq_of_beq_eq_true hb]
   exact List.mem_cons_self ..
  ·exact List.mem_cons_of_mem _ (Q4 h)
theorem JB {lps:List (Nat × CP)}{hl l:Loc}{ps:List Pr}(h:Fv lps nh rs hl l=some ps)(hlps:∀p∈lps,T1.lp p.1=p.2)(hfr:T2.fr=T1.fr)(hlp:T2.lp=T1.lp)(hbase:T2.base=T1.base)
  (heq:∀x,x < nh→T2 x=T1 x) (hn:nh≤n2) (H:Fb T1 T2 nh n2 rs) (hps:∀p∈ps,p.holds T1) {a:Act} (hR:Rel T1 n1 ρ l a w):
  Rel T2 n2 ρ hl a w∧Du T1 T2 nh hl.mem l.mem∧∀id,id < hl.mem.length→hl.mem.at id= .pad→l.mem.at id= .pad:=by
 unfold Fv at h
 split at h
 ·rename_i hc
  simp only[Bool.and_eq_true] at hc
  obtain⟨⟨c1,c2⟩,c3⟩:=hc
  obtain⟨p1,p2,h1,h2,rfl⟩:=Fj h
  obtain⟨S,hpad⟩:=Mr (T1:=T1) (T2:=T2) h1 H
  have M:It T1 T2 ρ l.mem hl.mem w nh hl.mem.length:=S.move hpad heq hfr
  obtain⟨hlen,hat⟩:=Nx h1
  have hp1:∀p∈p1,p.holds T1:=fun p hp=>hps p (List.mem_append_left _ hp)
  have hp2:∀p∈p2,p.holds T1:=fun p hp=>hps p (List.mem_append_right _ hp)
  refine⟨⟨?_,?_,fun i c hi=>?_,⟨fun id=>?_,fun id id' b t1 t2=>hR.mem.inj id id' b (S.tracked t1) (S.tracked t2),fun b off hb=>by rw[hfr];exact hR.mem.fr b off hb⟩⟩,S,hpad⟩
  ·obtain⟨d0,Ds,d1,d2,d3⟩:=hR.defers
   rw[hbase]
   refine⟨d0,Ds,d1,d2,fun D hD=>?_⟩
   obtain⟨e1,e2,e3⟩:=d3 D hD
   exact⟨e1,e2,fun id ht=>e3 id (S.tracked ht)⟩
  ·rw[hR.size]
   exact (Nat.eq_of_beq_eq_true c3).symm
  ·have g1:hl.tmps.t.get i=some c:=by
    have:hl.tmps.loc=[]:=List.isEmpty_iff.1 c1
    simpa [Al.get,this,B6] using hi
   rcases Kx h2 i c g1 with rfl|⟨c',qs,k1,k2,k3⟩
   ·trivial
   ·have g2:l.tmps.get i=some c':=by
     have:l.tmps.loc=[]:=List.isEmpty_iff.1 c2
     simpa [Al.get,this,B6] using k1
    exact KU k2 M hn H S (fun p hp=>hp2 p (k3 p hp)) (hR.tmps i c' g2)
  ·rcases Nat.lt_or_ge id hl.mem.length with hid|hid
   ·obtain⟨qs,q1,q2⟩:=hat id hid
    have hb:=hR.mem.blk id
    have hq:∀p∈qs,p.holds T1:=fun p hp=>hp1 p (q2 p hp)
    generalize hl.mem.at id=b at q1⊢
    generalize l.mem.at id=b' at q1 hb
    cases b with
    |pad=>trivial
    |gone=>trivial
    |cells x e=>
     cases b'<;>simp only[GG] at q1<;>try (cases q1;done)
     split at q1
     ·rename_i he
      obtain⟨bb,vs,y1,y2,y3⟩:=hb
      rw[Nat.eq_of_beq_eq_true he]
      exact⟨bb,vs,y1,y2,M9 M hn H S q1 hq vs y3⟩
     ·cases q1
    |tok x ks e=>
     cases b'<;>simp only[GG] at q1<;>try (cases q1;done)
     rename_i x' ks' e'
     split at q1
     ·rename_i hc
      simp only[Bool.and_eq_true,Bool.or_eq_true] at hc
      obtain⟨⟨i1,i2⟩,i3⟩:=hc
      have e1:=Nat.eq_of_beq_eq_true i1
      have e2:=Nat.eq_of_beq_eq_true i2
      subst e1
      obtain⟨y0,ll,y1,y2⟩:=hb
      have key:x < n2∧T2 x=T1 x':=by
       rcases i3 with⟨⟨i3,i4⟩,_⟩|i3
       ·rw[←Nat.eq_of_beq_eq_true i4]
        exact⟨Nat.lt_of_lt_of_le (CX i3) hn,heq x (CX i3)⟩
       ·obtain⟨z1,z2⟩:=H.at i3
        exact⟨z1,by rw[z2];rfl⟩
      refine⟨key.1,ll,by rw[key.2];exact y1,?_⟩
      rw[hfr,e2]
      exact y2
     ·cases q1
    |lp s st=>
     cases b'<;>simp only[GG] at q1<;>try (cases q1;done)
     rename_i s' st'
     split at q1
     ·rename_i hc
      simp only[Bool.and_eq_true] at hc
      have e1:=Nat.eq_of_beq_eq_true hc.1
      subst e1
      obtain⟨bb,q,y1,y2,y3,y4,y5,y6,y7,j,y8,y9⟩:=hb
      have hlt:=hc.2
      unfold lpLt at hlt
      split at hlt
      ·rename_i S0 hS
       have hT:=hlps _ (Q4 hS)
       simp only at hT
       rw[Bool.and_eq_true] at hlt
       have hloc:S0.tmps.loc=[]:=List.isEmpty_iff.1 hlt.1
       refine⟨bb,q,y1,y2,?_⟩
       rw[hlp]
       refine⟨y3,y4,y5,y6,fun i c hi=>?_,j,KU q1 M hn H S hq y8,y9⟩
       have hg:S0.tmps.t.get i=some c:=by
        rw[hT] at hi
        simpa [Al.get,hloc,B6] using hi
       exact AB.move M hn c _ (Pz hlt.2 i c hg) (y7 i c hi)
      ·cases hlt
     ·cases q1
   ·rw[Mem.at_ge hid];trivial
 ·cases h
theorem AO.matched {n:Nat}{ρ0:Nat→Option Nat}{m0:Mem}{w0:World}(S:Du T1 T2 nh mh m)(heq:∀x,x < nh→T2 x=T1 x)(hn:n≤nh)(hm0:AP T1 n ρ0 m0 w0)(hne:∀id,m0.at id≠ .pad→mh.at id≠ .pad)
  (h:AO T1 n ρ0 m0 w0 ρ m w):AO T2 n ρ0 m0 w0 ρ mh w where
 os:=h.os
 tape:=h.tape
 output:=h.output
 size:=h.size
 mlen:=hne
 rho:=fun id hp=>by
  obtain⟨h1,h2⟩:=h.rho id hp
  refine⟨h1,?_⟩
  have h3:=hne id (CY hp)
  have:=S id
  generalize mh.at id=a at this h3⊢
  generalize m.at id=b at this h2
  cases this<;>first|rfl|(exact absurd rfl h3)|(cases h2;done)
 untr:=fun id hp ht=>h.untr id hp (S.tracked ht)
 fresh:=fun id b hp ht hr=>h.fresh id b hp (S.tracked ht) hr
 old:=h.old
 tok:=fun id x ks e hx=>by
  have hxn:=hm0.tok_lt hx
  have h3:=hne id (by rw[hx];exact fun h=>by cases h)
  have hs:=S id
  rcases h.tok id x ks e hx with⟨k1,k2,k3⟩|⟨k1,k2⟩
  ·rw[k1] at hs
   generalize hmh:mh.at id=a at hs h3
   cases hs with
   |pad=>exact absurd rfl h3
   |gone=>exact .inr ⟨fun b hb off _=>CU (k3 b hb) off,.inl rfl⟩
   |same=>exact .inl ⟨rfl,k2,k3⟩
   |tok g1 g2 g3=>
    refine .inr ⟨fun b hb off _=>CU (k3 b hb) off,.inr ⟨_,_,_,rfl,Nat.le_trans hn g1,fun b' hb'=> .inl ⟨by rw[←k2];exact hb',?_⟩⟩⟩
    unfold Ci
    rw[g2,g3,heq x (by omega)]
    exact Nat.le_refl _
  ·refine .inr ⟨fun b hb off ho=>k1 b hb off (by unfold Ci at ho⊢;rw[heq x (by omega)] at ho;exact ho),?_⟩
   rcases k2 with k2|⟨x',ks',e',k2,k3,k4⟩
   ·rw[k2] at hs
    generalize hmh:mh.at id=a at hs h3
    cases hs with
    |pad=>exact absurd rfl h3
    |gone=>exact .inl rfl
   ·rw[k2] at hs
    generalize hmh:mh.at id=a at hs h3
    cases hs with
    |pad=>exact absurd rfl h3
    |gone=>exact .inl rfl
    |same _ _ _ hlt=>
     refine .inr ⟨_,_,_,rfl,k3,fun b' hb'=>?_⟩
     rcases k4 b' hb' with⟨j1,j2⟩|j1
     ·refine .inl ⟨j1,?_⟩
      unfold Ci at j2⊢
      rw[heq x (by omega),heq x' hlt]
      exact j2
     ·exact .inr j1
    |tok g1 g2 g3=>
     refine .inr ⟨_,_,_,rfl,Nat.le_trans hn g1,fun b' hb'=>?_⟩
     rcases k4 b' hb' with⟨j1,j2⟩|j1
     ·refine .inl ⟨j1,?_⟩
      unfold Ci at j2⊢
      rw[g2,g3,heq x (by omega)]
      exact j2
     ·exact .inr j1
end
end Go.Eng
end
noncomputable section
namespace Go.Eng
open Go Go.RowKit
def XK.ex:XK→Exit
 | .normal=> .normal
 | .exit id=> .exit id
 | .ret=> .ret
theorem Js {T:Tab}(pc:PC):((EY pc).eval T).toB=true↔pcv T pc:=by
 cases pc with
 |none=>exact⟨fun _=>trivial,fun _=>rfl⟩
 |some c=>exact HM.symm
def Mi (T:Tab)(a b:BS):Prop:=¬(pcv T a.pc∧pcv T b.pc)
structure DU (T:Tab) (g:G) (N:Nat) (outs:List BS):Prop where
 each:∀o∈outs,Cg g o.pc∧o.l.tmps.n=N
 apart:outs.Pairwise (Mi T)
def Sn (T:Tab)(n0:Nat)(ρ :Nat→Option Nat)(m:Mem)(w:World)(n:Nat)(outs:List BS)(Q:Exit→Act→World→Prop):Prop:=
 ∀o∈outs,pcv T o.pc→∀ ρ' a' w',AO T n0 ρ m w ρ' o.l.mem w'→Rel T n ρ' o.l a' w'→Q o.k.ex a' w'
section
variable {T:Tab}{g g':G}{N n0 n:Nat}{ρ :Nat→Option Nat}{m:Mem}{w:World}{Q:Exit→Act→World→Prop}
theorem Mi.symm {a b:BS}(h:Mi T a b):Mi T b a:=fun⟨h1,h2⟩=>h ⟨h2,h1⟩
theorem DU.grow {outs:List BS}(h:DU T g N outs)(k:Aa g g'):DU T g' N outs:=⟨fun o ho=>⟨(h.each o ho).1.grow k,(h.each o ho).2⟩,h.apart⟩
theorem DU.perm {l l':List BS}(h:DU T g N l)(p:l.Perm l'):DU T g N l':=
 ⟨fun o ho=>h.each o (p.mem_iff.2 ho),(p.pairwise_iff (fun h=>Mi.symm h)).1 h.apart⟩
theorem Rel.up {l:Loc}{a:Act}{n':Nat}(h:Rel T n ρ l a w)(hn:n≤n'):Rel T n' ρ l a w:=
 ⟨h.defers,h.size,fun i c hc=>(h.tmps i c hc).up0 hn,h.mem.mono hn⟩
theorem JM {k:XK}:∀{l:List BS} {p:BS} {r:List BS},In k l=some (p,r)→p.k=k∧l.Perm (p::r)
 |[],_,_,h=>by cases h
 |o::os,p,r,h=>by
  simp only[In] at h
  split at h
  ·rename_i hk;cases h;exact⟨hk,List.Perm.refl _⟩
  ·cases hp:In k os with
   |none=>rw[hp] at h;cases h
   |some q=>
    obtain⟨p',r'⟩:=q
    rw[hp] at h
    cases h
    obtain⟨h1,h2⟩:=JM hp
    exact⟨h1,(h2.cons o).trans (List.Perm.swap _ _ _)⟩
theorem Nf {k:XK}:∀{l:List BS},In k l=none→∀o∈l,o.k≠k
 |[],_,o,h=>by cases h
 |o::os,h,o',ho=>by
  simp only[In] at h
  split at h
  ·cases h
  ·rename_i hk
   cases hp:In k os with
   |none=>
    cases ho with
    |head=>exact hk
    |tail _ ho=>exact Nf hp o' ho
   |some q=>rw[hp] at h;cases h
theorem Yd {k:XK}{l:List BS}(h:noK k l=true):∀o∈l,o.k≠k:=fun o ho he=>by
 have:=List.all_eq_true.1 h o ho
 simp[he] at this
theorem i7 {s:Rf}{p:Option PC}{a b c:BS}(h:V6 g s p a b=(c,g')):Aa g g'∧(Agr T g'→Cg g a.pc→Cg g b.pc→a.l.tmps.n=N→b.l.tmps.n=N→
  (∀q,p=some q→Cg g q∧(pcv T q↔pcv T a.pc∨pcv T b.pc))→
  c.k=a.k∧c.l.tmps.n=N∧Cg g' c.pc∧(pcv T c.pc↔pcv T a.pc∨pcv T b.pc)∧
  ∀bs,(s.eval T).toB=bs→∀ ρ act w,Rel T g.n ρ (sel bs a.l b.l) act w→∃ ρ',AO T g.n ρ (sel bs a.l b.l).mem w ρ' c.l.mem w∧Rel T g'.n ρ' c.l act w):=by
 unfold V6 at h
 simp only at h
 have g1:Aa g (g.pushAll (HQ g.n s a.l b.l).2):=Aa.push _ _
 split at h
 ·rename_i q
  cases h
  refine⟨g1,fun hA ha hb la lb hp=>?_⟩
  obtain⟨p1,p2⟩:=hp q rfl
  refine⟨rfl,la,p1.grow g1,p2,fun bs hbs ρ act w hr=>?_⟩
  exact UO hbs (by rw[la,lb]) (Nat.le_refl _) hA.new (by rw[CF];exact Nat.le_refl _) hr
 ·cases h
  have g2:Aa (g.pushAll (HQ g.n s a.l b.l).2) ((g.pushAll (HQ g.n s a.l b.l).2).pushAll [⟨ "or",oOr,[EY a.pc,EY b.pc]⟩]):=Aa.push _ _
  refine⟨g1.trans g2,fun hA ha hb la lb hp=>?_⟩
  have hA1:=hA.of g2
  have hnew:=hA.new.head
  refine⟨rfl,la,(by show _ < _;rw[CF (G.pushAll _ _) [_]];exact Nat.lt_succ_self _),?_,fun bs hbs ρ act w hr=>?_⟩
  ·rw[HM,hnew,←Js (T:=T) a.pc,←Js (T:=T) b.pc]
   simp[Ex.eval,oOr,u0,u1,U.toB]
  ·obtain⟨ρ',h1,h2⟩:=UO hbs (by rw[la,lb]) (Nat.le_refl _) hA1.new (n':=(g.pushAll (HQ g.n s a.l b.l).2).n) (by rw[CF];exact Nat.le_refl _) hr
   exact⟨ρ',h1,h2.up g2.n⟩
theorem IV {s:Option Rf}{norm:Option PC}:∀{as bs r:List BS} {g g':G},EH s norm as bs g=(r,g')→Aa g g'∧(Agr T g'→DU T g N (as++bs)→
  (∀q,s=some q→(∀a∈as,pcv T a.pc→(q.eval T).toB=true)∧(∀b∈bs,pcv T b.pc→(q.eval T).toB=false))→
  (∀q,norm=some q→Cg g q∧∀a∈as,∀b∈bs,a.k= .normal→b.k= .normal→(pcv T q↔pcv T a.pc∨pcv T b.pc))→
  DU T g' N r∧(∀o∈r,pcv T o.pc→∃o0∈as++bs,pcv T o0.pc)∧
  ∀n0 ρ m w Q,n0≤g.n→AP T n0 ρ m w→Sn T n0 ρ m w g'.n r Q→Sn T n0 ρ m w g.n (as++bs) Q)
 |[],bs,r,g,g',h=>by
  simp only[EH] at h
  cases h
  exact⟨Aa.refl _,fun _ hg _ _=>⟨hg,fun o ho hp=>⟨o,ho,hp⟩,fun _ _ _ _ _ _ _ h=>h⟩⟩
 |a::as,bs,r,g,g',h=>by
  simp only[EH] at h
  split at h
  ·rename_i hpop
   cases hj:EH s norm as bs g with
   |mk r1 g1=>
    rw[hj] at h
    cases h
    obtain⟨g1,k1⟩:=IV (as:=as) hj
    refine⟨g1,fun hA hg hs hn=>?_⟩
    have hgt:DU T g N (as++bs):=⟨fun o ho=>hg.each o (List.mem_cons_of_mem _ ho),(List.pairwise_cons.1 hg.apart).2⟩
    obtain⟨q1,q2,q3⟩:=k1 hA hgt (fun q hq=>⟨fun a ha=>(hs q hq).1 a (List.mem_cons_of_mem _ ha),(hs q hq).2⟩) (fun q hq=>⟨(hn q hq).1,fun a ha=>(hn q hq).2 a (List.mem_cons_of_mem _ ha)⟩)
    have hapart:=(List.pairwise_cons.1 hg.apart).1
    have ha:=hg.each a (List.mem_cons_self ..)
    refine⟨⟨?_,?_⟩,?_,?_⟩
    ·intro o ho
     cases ho with
     |head=>exact⟨ha.1.grow g1,ha.2⟩
     |tail _ ho=>exact q1.each o ho
    ·refine List.pairwise_cons.2 ⟨fun o ho hc=>?_,q1.apart⟩
     obtain⟨o0,h0,h1⟩:=q2 o ho hc.2
     exact hapart o0 h0 ⟨hc.1,h1⟩
    ·intro o ho hp
     cases ho with
     |head=>exact⟨a,List.mem_cons_self ..,hp⟩
     |tail _ ho=>
      obtain⟨o0,h0,h1⟩:=q2 o ho hp
      exact⟨o0,List.mem_cons_of_mem _ h0,h1⟩
    ·intro n0 ρ m w Q hn0 hm hO o ho hp
     cases ho with
     |head=>exact fun ρ' a' w' hst hr=>hO a (List.mem_cons_self ..) hp ρ' a' w' hst (hr.up g1.n)
     |tail _ ho=>exact q3 n0 ρ m w Q hn0 hm (fun o ho=>hO o (List.mem_cons_of_mem _ ho)) o ho hp
  ·rename_i b bs' hpop
   obtain⟨hbk,hperm⟩:=JM hpop
   cases hj2:V6 g (s.getD (EY a.pc)) (if a.k= .normal then norm else none) a b with
   |mk c gm=>
    rw[hj2] at h
    simp only at h
    cases hj:EH s norm as bs' gm with
    |mk r1 g1=>
     rw[hj] at h
     cases h
     obtain⟨gr1,k1⟩:=i7 (T:=T) (N:=N) hj2
     obtain⟨gr2,k2⟩:=IV (as:=as) hj
     refine⟨gr1.trans gr2,fun hA hg hs hn=>?_⟩
     have hp:(a::as++bs).Perm (a::b::(as++bs')):=by
      refine List.Perm.cons a ?_
      exact (List.Perm.append_left as hperm).trans List.perm_middle
     have hg2:=hg.perm hp
     have hA1:=hA.of gr2
     have hbm:b∈bs:=hperm.mem_iff.2 (List.mem_cons_self ..)
     have hbs:∀o∈bs',o∈bs:=fun o ho=>hperm.mem_iff.2 (List.mem_cons_of_mem _ ho)
     have ha:=hg2.each a (List.mem_cons_self ..)
     have hb:=hg2.each b (List.mem_cons_of_mem _ (List.mem_cons_self ..))
     have pw:=List.pairwise_cons.1 hg2.apart
     have pw2:=List.pairwise_cons.1 pw.2
     have hgt:DU T gm N (as++bs'):=DU.grow ⟨fun o ho=>hg2.each o (List.mem_cons_of_mem _ (List.mem_cons_of_mem _ ho)),pw2.2⟩ gr1
     obtain⟨c1,c2,c3,c4,c5⟩:=k1 hA1 ha.1 hb.1 ha.2 hb.2 (fun q hq=>by
      split at hq
      ·rename_i hk
       obtain⟨z1,z2⟩:=hn q hq
       exact⟨z1,z2 a (List.mem_cons_self ..) b hbm hk (by rw[hbk,hk])⟩
      ·cases hq)
     obtain⟨q1,q2,q3⟩:=k2 hA hgt (fun q hq=>⟨fun a ha=>(hs q hq).1 a (List.mem_cons_of_mem _ ha),fun b hb=>(hs q hq).2 b (hbs b hb)⟩)
      (fun q hq=>⟨(hn q hq).1.grow gr1,fun a ha b hb=>(hn q hq).2 a (List.mem_cons_of_mem _ ha) b (hbs b hb)⟩)
     have hmem:∀o,o∈(as++bs')→o∈(a::as++bs):=fun o ho=>hp.mem_iff.2 (List.mem_cons_of_mem _ (List.mem_cons_of_mem _ ho))
     have hsa:pcv T a.pc→((s.getD (EY a.pc)).eval T).toB=true:=fun hp=>by
      cases s with
      |none=>exact (Js a.pc).2 hp
      |some q=>exact (hs q rfl).1 a (List.mem_cons_self ..) hp
     have hsb:pcv T b.pc→((s.getD (EY a.pc)).eval T).toB=false:=fun hp=>by
      cases s with
      |none=>
       simp only[Option.getD_none]
       cases hq:((EY a.pc).eval T).toB with
       |false=>rfl
       |true=>exact absurd ⟨(Js a.pc).1 hq,hp⟩ (pw.1 b (List.mem_cons_self ..))
      |some q=>exact (hs q rfl).2 b hbm hp
     refine⟨⟨?_,?_⟩,?_,?_⟩
     ·intro o ho
      cases ho with
      |head=>exact⟨c3.grow gr2,c2⟩
      |tail _ ho=>exact q1.each o ho
     ·refine List.pairwise_cons.2 ⟨fun o ho hc=>?_,q1.apart⟩
      obtain⟨o0,h0,h1⟩:=q2 o ho hc.2
      rcases c4.1 hc.1 with h2|h2
      ·exact pw.1 o0 (List.mem_cons_of_mem _ h0) ⟨h2,h1⟩
      ·exact pw2.1 o0 h0 ⟨h2,h1⟩
     ·intro o ho hp
      cases ho with
      |head=>
       rcases c4.1 hp with h2|h2
       ·exact⟨a,List.mem_cons_self ..,h2⟩
       ·exact⟨b,List.mem_append_right _ hbm,h2⟩
      |tail _ ho=>
       obtain⟨o0,h0,h1⟩:=q2 o ho hp
       exact⟨o0,hmem o0 h0,h1⟩
     ·intro n0 ρ m w Q hn0 hm hO o ho hpo ρ' a' w' hst hr
      have ho2:=hp.mem_iff.1 ho
      have merged:sel ((s.getD (EY a.pc)).eval T).toB a.l b.l=o.l→pcv T c.pc→o.k=a.k→Q o.k.ex a' w':=fun e hc hk=>by
       obtain⟨ρ2,s1,s2⟩:=c5 _ rfl ρ' a' w' (by rw[e];exact hr)
       rw[e] at s1
       rw[hk,←c1]
       exact hO c (List.mem_cons_self ..) hc ρ2 a' w' (hst.trans hm hn0 s1) (s2.up gr2.n)
      cases ho2 with
      |head=>exact merged (by rw[hsa hpo];rfl) (c4.2 (.inl hpo)) rfl
      |tail _ ho2=>
       cases ho2 with
       |head=>exact merged (by rw[hsb hpo];rfl) (c4.2 (.inr hpo)) hbk
       |tail _ ho2=>exact q3 n0 ρ m w Q (Nat.le_trans hn0 gr1.n) hm (fun o ho=>hO o (List.mem_cons_of_mem _ ho)) o ho2 hpo ρ' a' w' hst (hr.up gr1.n)
end
end Go.Eng
end
noncomputable section
namespace Go.Eng
open Go Go.RowKit
def Cy (T:Tab)(K:(Exit→Act→World→Prop)→Act→World→Prop)(r:PC→Loc→G→Option (List BS × G)):Prop:=
 ∀pc l g outs g',r pc l g=some (outs,g')→Aa g g'∧(Agr T g'→Cg g pc→DU T g' l.tmps.n outs∧(∀o∈outs,pcv T o.pc→pcv T pc)∧
  (BH T g'→pcv T pc→∀ ρ a w Q,Rel T g.n ρ l a w→Sn T g.n ρ l.mem w g'.n outs Q→K Q a w))
section
variable {P:Program}{T:Tab}{K1 K2:(Exit→Act→World→Prop)→Act→World→Prop}{r1 r2:PC→Loc→G→Option (List BS × G)}
theorem Cy.mono (h:Cy T K1 r1)(hk:∀Q a w,K1 Q a w→K2 Q a w):Cy T K2 r1:=by
 intro pc l g outs g' hr
 obtain⟨h1,h2⟩:=h pc l g outs g' hr
 refine⟨h1,fun hA hp=>?_⟩
 obtain⟨h3,h4,h5⟩:=h2 hA hp
 exact⟨h3,h4,fun ho hpc ρ a w Q hR hO=>hk Q a w (h5 ho hpc ρ a w Q hR hO)⟩
theorem Sj {k:XK}(h:k≠ .normal){F:Act→World→Prop}{Q:Exit→Act→World→Prop}{a:Act}{w:World}(hq:Q k.ex a w):Exit.then F Q k.ex a w:=by
 cases k with
 |normal=>exact absurd rfl h
 |exit id=>exact hq
 |ret=>exact hq
theorem W0 (h1:Cy T K1 r1)(h2:Cy T K2 r2):Cy T (fun Q=>K1 (Exit.then (K2 Q) Q)) (fun pc l g=>do let (outs,g) ←r1 pc l g;Vz outs g r2):=by
 intro pc l g outs' g' hr
 simp only[Option.bind_eq_bind,Option.bind_eq_some_iff] at hr
 obtain⟨⟨outs,g1⟩,hr1,hr⟩:=hr
 obtain⟨gr1,k1⟩:=h1 pc l g outs g1 hr1
 simp only at hr
 unfold Vz at hr
 split at hr
 ·rename_i hpop
  cases hr
  refine⟨gr1,fun hA hp=>?_⟩
  obtain⟨q1,q2,q3⟩:=k1 hA hp
  refine⟨q1,q2,fun ho hpc ρ a w Q hR hO=>q3 ho hpc ρ a w _ hR fun o ho hp ρ' a' w' hs hr=>?_⟩
  exact Sj (Nf hpop o ho) (hO o ho hp ρ' a' w' hs hr)
 ·rename_i o rest hpop
  split at hr
  ·rename_i hno
   simp only[Option.bind_eq_bind,Option.bind_eq_some_iff] at hr
   obtain⟨⟨outs2,g2⟩,hr2,hr⟩:=hr
   simp only[Option.some.injEq] at hr
   obtain⟨hok,hperm⟩:=JM hpop
   obtain⟨gr2,k2⟩:=h2 o.pc o.l g1 outs2 g2 hr2
   obtain⟨gr3,k3⟩:=IV (T:=T) (N:=l.tmps.n) hr
   refine⟨(gr1.trans gr2).trans gr3,fun hA hp=>?_⟩
   have hA2:=hA.of gr3
   have hA1:=hA2.of gr2
   obtain⟨q1,q2,q3⟩:=k1 hA1 hp
   have q1':=q1.perm hperm
   have ho:=q1'.each o (List.mem_cons_self ..)
   obtain⟨s1,s2,s3⟩:=k2 hA2 ho.1
   rw[ho.2] at s1
   have pw:=List.pairwise_cons.1 q1'.apart
   have hgood:DU T g2 l.tmps.n (rest++outs2):=by
    refine⟨fun x hx=>?_,List.pairwise_append.2 ⟨pw.2,s1.apart,fun x hx y hy hc=>pw.1 x hx ⟨s2 y hy hc.2,hc.1⟩⟩⟩
    rcases List.mem_append.1 hx with hx|hx
    ·have:=q1'.each x (List.mem_cons_of_mem _ hx)
     exact⟨this.1.grow gr2,this.2⟩
    ·exact s1.each x hx
   obtain⟨t1,t2,t3⟩:=k3 hA hgood (fun q hq=>by cases hq) (fun q hq=>by cases hq)
   refine⟨t1,fun x hx hpx=>?_,fun hob hpc ρ a w Q hR hO=>?_⟩
   ·obtain⟨x0,h0,h1⟩:=t2 x hx hpx
    rcases List.mem_append.1 h0 with h0|h0
    ·exact q2 x0 (hperm.mem_iff.2 (List.mem_cons_of_mem _ h0)) h1
    ·exact q2 o (hperm.mem_iff.2 (List.mem_cons_self ..)) (s2 x0 h0 h1)
   ·have hO2:=t3 g.n ρ l.mem w Q (gr1.trans gr2).n hR.mem hO
    refine q3 ((hob.of gr3).of gr2) hpc ρ a w _ hR fun x hx hpx ρ' a' w' hs hr=>?_
    have hx2:=hperm.mem_iff.1 hx
    cases hx2 with
    |head=>
     rw[hok]
     refine s3 (hob.of gr3) hpx ρ' a' w' Q hr fun y hy hpy ρ2 a2 w2 hs2 hr2=>?_
     exact hO2 y (List.mem_append_right _ hy) hpy ρ2 a2 w2 (hs.trans hR.mem gr1.n hs2) hr2
    |tail _ hx2=>
     exact Sj (Yd hno x hx2) (hO2 x (List.mem_append_left _ hx2) hpx ρ' a' w' hs (hr.up gr2.n))
  ·cases hr
theorem gH:∀{a b:PC},QT a b=true→a=b
 |none,none,_=>rfl
 |some a,some b,h=>by rw[Nat.eq_of_beq_eq_true h]
 |none,some _,h=>by cases h
 |some _,none,h=>by cases h
theorem gq {rec:Code→PC→Loc→G→Option (List BS × G)}{x:Nat}{ca cb:Code}(ha:Cy T K1 (rec ca))(hb:Cy T K2 (rec cb)):
  Cy T (fun Q a w=>((T x).toB=true→K1 Q a w)∧((T x).toB=false→K2 Q a w)) (RP rec x ca cb):=by
 intro pc l g outs g' hr
 unfold RP at hr
 split at hr
 ·cases hr
 rename_i hx0
 have hx:x < g.n:=by rw[Bool.not_eq_false,Nat.blt_eq] at hx0;exact hx0
 cases hb1:Cr g pc x true with
 |mk pa g1=>
  simp only[hb1,Option.bind_eq_bind,Option.bind_eq_some_iff] at hr
  obtain⟨⟨oa,g2⟩,hra,hr⟩:=hr
  simp only at hr
  cases hb2:Cr g2 pc x false with
  |mk pb g3=>
   simp only[hb2,Option.bind_eq_some_iff] at hr
   obtain⟨⟨ob,g4⟩,hrb,hr⟩:=hr
   simp only[Option.some.injEq] at hr
   obtain⟨gr1,b1⟩:=EQ (T:=T) hb1
   obtain⟨gr2,b2⟩:=ha pa l g1 oa g2 hra
   obtain⟨gr3,b3⟩:=EQ (T:=T) hb2
   obtain⟨gr4,b4⟩:=hb pb l g3 ob g4 hrb
   obtain⟨gr5,b5⟩:=IV (T:=T) (N:=l.tmps.n) hr
   have gr12:=gr1.trans gr2
   have gr123:=gr12.trans gr3
   refine⟨(gr123.trans gr4).trans gr5,fun hA hp=>?_⟩
   have hA4:=hA.of gr5
   have hA3:=hA4.of gr4
   have hA2:=hA3.of gr3
   have hA1:=hA2.of gr2
   obtain⟨p1,p2⟩:=b1 hA1 hp hx
   obtain⟨p3,p4⟩:=b3 hA3 (hp.grow gr12) (Nat.lt_of_lt_of_le hx gr12.n)
   obtain⟨q1,q2,q3⟩:=b2 hA2 p1
   obtain⟨q4,q5,q6⟩:=b4 hA4 p3
   have hgood:DU T g4 l.tmps.n (oa++ob):=by
    refine⟨fun y hy=>?_,List.pairwise_append.2 ⟨q1.apart,q4.apart,fun y hy z hz hc=>?_⟩⟩
    ·rcases List.mem_append.1 hy with hy|hy
     ·exact⟨((q1.each y hy).1.grow gr3).grow gr4,(q1.each y hy).2⟩
     ·exact q4.each y hy
    ·have e1:=(p2.1 (q2 y hy hc.1)).2
     have e2:=(p4.1 (q5 z hz hc.2)).2
     rw[e1] at e2;cases e2
   obtain⟨t1,t2,t3⟩:=b5 hA hgood
    (fun q hq=>by
     cases hq
     exact⟨fun a ha hpa=>(p2.1 (q2 a ha hpa)).2,fun b hb hpb=>(p4.1 (q5 b hb hpb)).2⟩)
    (fun q hq=>by
     split at hq
     ·rename_i hwh
      cases hq
      refine⟨hp.grow (gr123.trans gr4),fun a ha b hb _ _=>?_⟩
      simp only[Bool.and_eq_true,decide_eq_true_eq] at hwh
      obtain⟨⟨⟨w1,w2⟩,w3⟩,w4⟩:=hwh
      have one:∀{o:BS} {l:List BS} {p:PC},l.length=1→(l.any fun o=>decide (o.k= .normal)&&QT o.pc p)=true→o∈l→o.pc=p:=by
       intro o l p h1 h2 h3
       cases l with
       |nil=>cases h3
       |cons z l=>
        have:l=[]:=List.eq_nil_of_length_eq_zero (by simpa using h1)
        subst this
        simp at h2 h3
        subst h3
        exact gH h2.2
      rw[one w3 w1 ha,one w4 w2 hb,p2,p4]
      cases (T x).toB<;>simp
     ·cases hq)
   refine⟨t1,fun y hy hpy=>?_,fun hob hpc ρ a w Q hR hO=>?_⟩
   ·obtain⟨y0,h0,h1⟩:=t2 y hy hpy
    rcases List.mem_append.1 h0 with h0|h0
    ·exact (p2.1 (q2 y0 h0 h1)).1
    ·exact (p4.1 (q5 y0 h0 h1)).1
   ·have hO2:=t3 g.n ρ l.mem w Q (gr123.trans gr4).n hR.mem hO
    have hob4:=hob.of gr5
    refine⟨fun hxt=>?_,fun hxf=>?_⟩
    ·refine q3 (hob4.of (gr3.trans gr4)) (p2.2 ⟨hpc,hxt⟩) ρ a w Q (hR.up gr1.n) fun y hy hpy ρ' a' w' hs hr=>?_
     exact hO2 y (List.mem_append_left _ hy) hpy ρ' a' w' (hs.down gr1.n) (hr.up (gr3.trans gr4).n)
    ·refine q6 hob4 (p4.2 ⟨hpc,hxf⟩) ρ a w Q (hR.up gr123.n) fun y hy hpy ρ' a' w' hs hr=>?_
     exact hO2 y (List.mem_append_right _ hy) hpy ρ' a' w' (hs.down gr123.n) hr
end
end Go.Eng
end
