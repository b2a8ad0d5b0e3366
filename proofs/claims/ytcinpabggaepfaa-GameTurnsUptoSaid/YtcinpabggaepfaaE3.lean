/-
  A part of the proof: the evaluator of code and its soundness.
-/
import Derived.Test.YtcinpabggaepfaaE2
set_option linter.unusedVariables false
set_option linter.unusedSimpArgs false
section
namespace Go.Eng
open Go
inductive Ty where
 |i|b|l|r (c:Nat)
 deriving DecidableEq
def I (T:Tab)(x:Nat):Int:=(T.get x).toI
def B (T:Tab)(x:Nat):Bool:=(T.get x).toB
def L (T:Tab)(x:Nat):List (List U):=(T.get x).toL
def iR (T:Tab)(r:Rf):Int:=(r.eval T).toI
def bR (T:Tab)(r:Rf):Bool:=(r.eval T).toB
def lR (T:Tab)(r:Rf):List (List U):=(r.eval T).toL
def uR (T:Tab):Ty→Rf→U
 | .i,r=> .int (iR T r)
 | .b,r=> .bool (bR T r)
 | .l,r=> .list (lR T r)
 | .r _,r=>r.eval T
theorem iR_c {T:Tab}{n:Int}:iR T (.c (.int n))=n:=Eq.trans rfl rfl
theorem iR_e {T:Tab}{x:Nat}:iR T (.e x)=I T x:=Eq.trans rfl rfl
theorem bR_c {T:Tab}{n:Bool}:bR T (.c (.bool n))=n:=Eq.trans rfl rfl
theorem bR_e {T:Tab}{x:Nat}:bR T (.e x)=B T x:=Eq.trans rfl rfl
theorem bR_n {T:Tab}{x:Nat}:bR T (.n x)= !B T x:=Eq.trans rfl rfl
theorem lR_c {T:Tab}:lR T (.c (.list []))=[]:=Eq.trans rfl rfl
theorem lR_e {T:Tab}{x:Nat}:lR T (.e x)=L T x:=Eq.trans rfl rfl
def pickI (T:Tab):List Rf→Int→Int
 |[],_=>0
 |a::l,n=>if n≤0 then iR T a else pickI T l (n - 1)
def pickB (T:Tab):List Rf→Int→Prop
 |[],_=>False
 |a::l,n=>(n≤0∧bR T a=true)∨(¬n≤0∧pickB T l (n - 1))
def cellI (l:List (List U))(i c:Nat):Int:=((l.getD i []).getD c default).toI
def cellB (l:List (List U))(i c:Nat):Bool:=((l.getD i []).getD c default).toB
def cellL (l:List (List U))(i c:Nat):List (List U):=((l.getD i []).getD c default).toL
inductive Op2 where
 |add|sub|mul|div|mod|tdiv|tmod|min|max
def Op2.f:Op2→Int→Int→Int
 | .add=>addI| .sub=>subI| .mul=>mulI| .div=>divI| .mod=>modI| .tdiv=>tdivI| .tmod=>tmodI| .min=>minI| .max=>maxI
inductive Opn where
 |id (t:Ty)|not|and|or|lt|le|eq|ne
 |eqs (ts:List Ty)|nes (ts:List Ty)|eqb|neb
 |ite (t:Ty)|ifb
 |o2 (o:Op2)|w2 (k:IntKind) (o:Op2)|w1 (k:IntKind)|neg|bits (o:BinOp) (k:IntKind)
 |len|app|get (t:Ty) (c:Nat)|pick (t:Ty)|row (k s:Nat) (ts:List Ty)
 |outI (tg:String) (f:List U→Int)|outB (tg:String) (f:List U→Bool)|outL (tg:String) (f:List U→List (List U))|res (t:Ty) (D:LoopD) (j:Nat)
def outUI (f:List U→Int)(us:List U):U:= .int (f us)
def outUB (f:List U→Bool)(us:List U):U:= .bool (f us)
def outUL (f:List U→List (List U))(us:List U):U:= .list (f us)
noncomputable def opF:Opn→List U→U
 | .id _=>oId| .not=>oNot| .and=>oAnd| .or=>oOr| .lt=>oLt| .le=>oLe| .eq=>oEq| .ne=>oNe
 | .eqs _=>oEqs| .nes _=>oNes| .eqb=>oEqb| .neb=>oNeb
 | .ite _=>oIf| .ifb=>oIfB
 | .o2 o=>Go.Eng.o2 o.f| .w2 k o=>oWrap k (Go.Eng.o2 o.f)| .w1 k=>oWrap k oId| .neg=>oNeg| .bits o k=>Go.Eng.o2 (bitsI o k)
 | .len=>oLen| .app=>oApp| .get _ c=>oGet c| .pick _=>oPick| .row k s _=>oRow k s
 | .outI _ f=>outUI f| .outB _ f=>outUB f| .outL _ f=>outUL f| .res _ D j=>D.res j
structure En where
 x:Nat
 op:Opn
 rs:List Rf
noncomputable def En.be (e:En):Nat × (List U→U) × List Rf:=(e.x,opF e.op,e.rs)
def eqsP (T:Tab):List Ty→List Rf→Prop
 | .i::ts,a::b::r=>iR T a=iR T b∧eqsP T ts r
 | .b::ts,a::b::r=>(bR T a=true↔bR T b=true)∧eqsP T ts r
 |_,_=>True
def op2P (o:Op2)(c a b:Int):Prop:=match o with
 | .add=>c=a+b| .sub=>c=a - b| .mul=>c=a*b| .div=>c=a / b| .mod=>c=a % b
 | .tdiv=>c=if 0≤a then a / b else -(-a / b)
 | .tmod=>c=if 0≤a then a % b else -(-a % b)
 | .min=>c=if a≤b then a else b
 | .max=>c=if a≤b then b else a
def w2P (k:IntKind)(o:Op2)(c a b:Int):Prop:=match k,o with
 | .i64,.add=> -9223372036854775808≤a+b→a+b≤9223372036854775807→c=a+b
 | .i64,.sub=> -9223372036854775808≤a - b→a - b≤9223372036854775807→c=a - b
 | .i64,.mul=> -9223372036854775808≤a*b→a*b≤9223372036854775807→c=a*b
 |k,o=>c=k.wrap (o.f a b)
def fact (T:Tab)(e:En):Prop:=
 match e with
 |⟨x,.id .i,[a]⟩=>I T x=iR T a
 |⟨x,.id .b,[a]⟩=>(B T x=true↔bR T a=true)
 |⟨x,.id .l,[a]⟩=>L T x=lR T a
 |⟨x,.not,[a]⟩=>(B T x=true↔¬bR T a=true)
 |⟨x,.and,[a,b]⟩=>(B T x=true↔(bR T a=true∧bR T b=true))
 |⟨x,.or,[a,b]⟩=>(B T x=true↔(bR T a=true∨bR T b=true))
 |⟨x,.lt,[a,b]⟩=>(B T x=true↔iR T a < iR T b)
 |⟨x,.le,[a,b]⟩=>(B T x=true↔iR T a≤iR T b)
 |⟨x,.eq,[a,b]⟩=>(B T x=true↔iR T a=iR T b)
 |⟨x,.ne,[a,b]⟩=>(B T x=true↔¬iR T a=iR T b)
 |⟨x,.eqs ts,r⟩=>(B T x=true↔eqsP T ts r)
 |⟨x,.nes ts,r⟩=>(B T x=true↔¬eqsP T ts r)
 |⟨x,.eqb,[a,b]⟩=>(B T x=true↔(bR T a=true↔bR T b=true))
 |⟨x,.neb,[a,b]⟩=>(B T x=true↔¬(bR T a=true↔bR T b=true))
 |⟨x,.ite .i,[a,b,c]⟩=>I T x=if bR T a=true then iR T b else iR T c
 |⟨x,.ite .b,[a,b,c]⟩=>(B T x=true↔((bR T a=true∧bR T b=true)∨(¬bR T a=true∧bR T c=true)))
 |⟨x,.ite .l,[a,b,c]⟩=>L T x=if bR T a=true then lR T b else lR T c
 |⟨x,.ifb,[a,b,c]⟩=>(B T x=true↔((bR T a=true∧bR T b=true)∨(¬bR T a=true∧bR T c=true)))
 |⟨x,.o2 o,[a,b]⟩=>op2P o (I T x) (iR T a) (iR T b)
 |⟨x,.w2 k o,[a,b]⟩=>w2P k o (I T x) (iR T a) (iR T b)
 |⟨x,.w1 k,[a]⟩=>I T x=k.wrap (iR T a)
 |⟨x,.neg,[a]⟩=>I T x= -iR T a
 |⟨x,.bits o k,[a,b]⟩=>I T x=bitsI o k (iR T a) (iR T b)
 |⟨x,.len,[a]⟩=>I T x=(lR T a).length
 |⟨x,.app,[a,b]⟩=>L T x=lR T a++lR T b
 |⟨x,.get .i c,[a,b]⟩=>I T x=cellI (lR T a) (iR T b).toNat c
 |⟨x,.get .b c,[a,b]⟩=>B T x=cellB (lR T a) (iR T b).toNat c
 |⟨x,.get .l c,[a,b]⟩=>L T x=cellL (lR T a) (iR T b).toNat c
 |⟨x,.pick .i,a::r⟩=>I T x=pickI T r (iR T a)
 |⟨x,.pick .b,a::r⟩=>(B T x=true↔pickB T r (iR T a))
 |⟨x,.row k s ts,r⟩=>L T x=chunk s k (List.zipWith (uR T) ts r)
 |⟨x,.outI _ f,r⟩=>I T x=f (r.map (Rf.eval T))
 |⟨x,.outB _ f,r⟩=>B T x=f (r.map (Rf.eval T))
 |⟨x,.outL _ f,r⟩=>L T x=f (r.map (Rf.eval T))
 |_=>True
def eqTy:Ty→Bool| .i=>true| .b=>true|_=>false
abbrev TEnv:=List (Nat × Ty)
def isTy:Ty→Ty→Bool| .i,.i=>true| .b,.b=>true| .l,.l=>true| .r c,.r d=>Nat.beq c d|_,_=>false
def hasTy:TEnv→Nat→Ty→Bool
 |[],_,_=>false
 |(y,t)::r,x,u=>if Nat.beq y x&&isTy t u then true else hasTy r x u
def tyR (env:TEnv)(t:Ty):Rf→Bool
 | .c (.int _)=>isTy t .i
 | .c (.bool _)=>isTy t .b
 | .c (.list _)=>isTy t .l
 | .c _=>false
 | .n _=>isTy t .b
 | .e x=>hasTy env x t
def tysR (env:TEnv):List Ty→List Rf→Bool
 |[],[]=>true
 |t::ts,r::rs=>tyR env t r&&tysR env ts rs
 |_,_=>false
def pairTys:List Ty→List Ty
 |[]=>[]
 |t::ts=>t::t::pairTys ts
def uV (T:Tab)(t:Ty)(x:Nat):U:=uR T t (.e x)
def RowI (T:Tab)(x c:Nat):Prop:=∀i:Nat,∃n,((L T x).getD i []).getD c default= .int n
def Sty (T:Tab)(x:Nat):Ty→Prop
 | .r c=>RowI T x c
 |t=>T.get x=uV T t x
def Strong (T:Tab):TEnv→Prop
 |[]=>True
 |(x,t)::r=>Sty T x t∧Strong T r
theorem Sty.get {T:Tab}{x:Nat}:∀{t:Ty},Sty T x t→T.get x=uV T t x
 | .i,h=>h
 | .b,h=>h
 | .l,h=>h
 | .r _,_=>rfl
def tyOf (env:TEnv)(e:En):Option (Option Ty):=
 match e.op,e.rs with
 | .id t,[a]=>some (if tyR env t a then some t else none)
 | .ite t,[_,b,c]=>some (if tyR env t b&&tyR env t c then some t else none)
 | .eqs ts,r=>if tysR env (pairTys ts) r&&ts.all eqTy then some (some .b) else none
 | .nes ts,r=>if tysR env (pairTys ts) r&&ts.all eqTy then some (some .b) else none
 | .row _ _ ts,r=>if tysR env ts r then some (some .l) else none
 | .not,_| .and,_| .or,_| .lt,_| .le,_| .eq,_| .ne,_| .ifb,_| .eqb,_| .neb,_=>some (some .b)
 | .o2 _,_| .w2 _ _,_| .w1 _,_| .neg,_| .bits _ _,_| .len,_=>some (some .i)
 | .app,_=>some (some .l)
 | .pick .i,_::r=>some (if r.all (tyR env .i) then some .i else none)
 | .pick .i,[]=>some none
 | .outI _ _,_=>some (some .i)
 | .outB _ _,_=>some (some .b)
 | .outL _ _,_=>some (some .l)
 | .get .i c,[.e x,_]=>some (if hasTy env x (.r c) then some .i else none)
 | .get _ _,_| .pick _,_| .res _ _ _,_=>some none
 |_,_=>none
def noR:Ty→Bool| .r _=>false|_=>true
def chk:TEnv→List En→Option TEnv
 |env,[]=>some env
 |env,e::r=>match tyOf env e with
  |none=>none
  |some none=>chk env r
  |some (some t)=>if noR t then chk ((e.x,t)::env) r else none
section
variable {T:Tab}
theorem isTy_eq {t u:Ty}(h:isTy t u=true):t=u:=by cases t<;>cases u<;>first|rfl|(cases h;done)|(rw[Nat.eq_of_beq_eq_true h])
theorem hasTy_ok:∀{env:TEnv} {x:Nat} {t:Ty},Strong T env→hasTy env x t=true→T.get x=uV T t x
 |[],_,_,_,h=>by cases h
 |(y,u)::r,x,t,hs,h=>by
  simp only[hasTy] at h
  split at h
  ·rename_i hb
   rw[Bool.and_eq_true] at hb
   have e:=Nat.eq_of_beq_eq_true hb.1
   subst e
   rw[←isTy_eq hb.2];exact hs.1.get
  ·exact hasTy_ok hs.2 h
theorem hasRow:∀{env:TEnv} {x c:Nat},Strong T env→hasTy env x (.r c)=true→RowI T x c
 |[],_,_,_,h=>by cases h
 |(y,u)::r,x,c,hs,h=>by
  simp only[hasTy] at h
  split at h
  ·rename_i hb
   rw[Bool.and_eq_true] at hb
   have e:=Nat.eq_of_beq_eq_true hb.1
   subst e
   have e2:=isTy_eq hb.2
   subst e2
   exact hs.1
  ·exact hasRow hs.2 h
theorem tyR_ok {env:TEnv}{t:Ty}{r:Rf}(hs:Strong T env)(h:tyR env t r=true):r.eval T=uR T t r:=by
 cases r with
 |c u=>cases u<;>simp only[tyR] at h<;>first|(have e:=isTy_eq h;subst e;rfl)|cases h
 |e x=>exact hasTy_ok hs h
 |n x=>have e:=isTy_eq h;subst e;rfl
theorem tysR_ok {env:TEnv}(hs:Strong T env):∀{ts:List Ty} {rs:List Rf},tysR env ts rs=true→rs.map (Rf.eval T)=List.zipWith (uR T) ts rs
 |[],[],_=>rfl
 |t::ts,r::rs,h=>by
  simp only[tysR,Bool.and_eq_true] at h
  simp only[List.map_cons,List.zipWith_cons_cons]
  rw[tyR_ok hs h.1,tysR_ok hs h.2]
 |[],_::_,h=>by cases h
 |_::_,[],h=>by cases h
theorem tysR_len {env:TEnv}:∀{ts:List Ty} {rs:List Rf},tysR env ts rs=true→rs.length=ts.length
 |[],[],_=>rfl
 |_::_,_::_,h=>by
  simp only[tysR,Bool.and_eq_true] at h
  simp[tysR_len h.2]
 |[],_::_,h=>by cases h
 |_::_,[],h=>by cases h
theorem eqvs_ok:∀{ts:List Ty} {rs:List Rf},rs.length=(pairTys ts).length→ts.all eqTy=true→(eqvs (List.zipWith (uR T) (pairTys ts) rs)=true↔eqsP T ts rs)
 |[],[],_,_=>by simp[eqvs,pairTys,eqsP]
 |t::ts,a::b::r,hl,hn=>by
  simp only[List.all_cons,Bool.and_eq_true] at hn
  have ih:=eqvs_ok (ts:=ts) (rs:=r) (by simpa [pairTys] using hl) hn.2
  simp only[pairTys,List.zipWith_cons_cons,eqvs,Bool.and_eq_true]
  rw[ih]
  cases t with
  |i=>simp[uR,U.eqv,eqsP]
  |b=>
   simp only[uR,U.eqv,eqsP]
   cases bR T a<;>cases bR T b<;>simp
  |l=>exact absurd hn.1 (by simp[eqTy])
  |r c=>exact absurd hn.1 (by simp[eqTy])
 |[],_::_,hl,_=>by simp[pairTys] at hl
 |_::_,[],hl,_=>by simp[pairTys] at hl
 |_::_,[_],hl,_=>by simp[pairTys] at hl
theorem eqs_fact {env:TEnv}(hs:Strong T env){ts:List Ty}{rs:List Rf}{c:Bool}(h:(tysR env (pairTys ts) rs&&ts.all eqTy)=true):eqvs (rs.map (Rf.eval T))=true↔eqsP T ts rs:=by
 rw[Bool.and_eq_true] at h
 rw[tysR_ok hs h.1]
 exact eqvs_ok (tysR_len h.1) h.2
theorem pickI_get:∀(l:List Rf) (n:Int),((l.map (Rf.eval T)).getD n.toNat default).toI=pickI T l n
 |[],n=>by simp[pickI];rfl
 |a::l,n=>by
  simp only[pickI]
  split
  ·rename_i h
   have:n.toNat=0:=by omega
   simp[this,iR]
  ·rename_i h
   have e:n.toNat=(n - 1).toNat+1:=by omega
   rw[e,←pickI_get l (n - 1)]
   simp
theorem pickB_get:∀(l:List Rf) (n:Int),((l.map (Rf.eval T)).getD n.toNat default).toB=true↔pickB T l n
 |[],n=>by simp[pickB];rfl
 |a::l,n=>by
  simp only[pickB]
  by_cases h:n≤0
  ·have:n.toNat=0:=by omega
   simp[this,h,bR]
  ·have e:n.toNat=(n - 1).toNat+1:=by omega
   rw[e,←pickB_get l (n - 1)]
   simp[h]
theorem vB {x:Nat}{v:Bool}(h:T.get x= .bool v):B T x=v:=by unfold B;rw[h];rfl
theorem vI {x:Nat}{v:Int}(h:T.get x= .int v):I T x=v:=by unfold I;rw[h];rfl
theorem vL {x:Nat}{v:List (List U)}(h:T.get x= .list v):L T x=v:=by unfold L;rw[h];rfl
theorem sB {x:Nat}{v:Bool}(h:T.get x= .bool v):T.get x=uV T .b x:=by rw[h];show _=U.bool (T.get x).toB;rw[h];rfl
theorem sI {x:Nat}{v:Int}(h:T.get x= .int v):T.get x=uV T .i x:=by rw[h];show _=U.int (T.get x).toI;rw[h];rfl
theorem sL {x:Nat}{v:List (List U)}(h:T.get x= .list v):T.get x=uV T .l x:=by rw[h];show _=U.list (T.get x).toL;rw[h];rfl
theorem op2_ok (o:Op2)(a b:Int):op2P o (o.f a b) a b:=by
 cases o<;>simp only[op2P,Op2.f]<;>first|rfl|exact tdiv_eq_if a b|exact tmod_eq_if a b|exact Int.min_def a b|exact Int.max_def a b
theorem w2_ok (k:IntKind)(o:Op2)(a b:Int):w2P k o (k.wrap (o.f a b)) a b:=by
 cases k<;>cases o<;>simp only[w2P,Op2.f]<;>exact fun h1 h2=>wrap_id .i64 _ h1 h2
theorem fact_ok {env:TEnv}(hs:Strong T env):∀(e:En) {o:Option Ty},tyOf env e=some o→T.get e.x=opF e.op (e.rs.map (Rf.eval T))→fact T e:=by
 intro e o ht h
 unfold fact
 split<;>(try simp only at ht h)
 ·exact congrArg U.toI h
 ·exact Bool.eq_iff_iff.1 (congrArg U.toB h)
 ·exact congrArg U.toL h
 ·have:=vB h;rw[this];simp[u0,bR]
 ·have:=vB h;rw[this];simp[u0,u1,bR]
 ·have:=vB h;rw[this];simp[u0,u1,bR]
 ·have:=vB h;rw[this];simp[u0,u1,iR]
 ·have:=vB h;rw[this];simp[u0,u1,iR]
 ·have:=vB h;rw[this];simp[u0,u1,iR]
 ·have:=vB h;rw[this];simp[u0,u1,iR]
 ·rename_i x ts r
  simp only[tyOf] at ht
  split at ht
  ·rename_i hc
   rw[vB h];exact eqs_fact (c:=true) hs hc
  ·cases ht
 ·rename_i x ts r
  simp only[tyOf] at ht
  split at ht
  ·rename_i hc
   rw[vB h,←eqs_fact (c:=true) hs hc];simp
  ·cases ht
 ·have:=vB h;rw[this];simp only[u0,u1,bR,List.map_cons,List.map_nil,List.getD_cons_zero,List.getD_cons_succ];rename_i a b;cases (a.eval T).toB<;>cases (b.eval T).toB<;>simp
 ·have:=vB h;rw[this];simp only[u0,u1,bR,List.map_cons,List.map_nil,List.getD_cons_zero,List.getD_cons_succ];rename_i a b;cases (a.eval T).toB<;>cases (b.eval T).toB<;>simp
 ·rename_i x a b c
  have h1:=congrArg U.toI h
  show (T.get x).toI=_
  rw[h1]
  show (bif (a.eval T).toB then b.eval T else c.eval T).toI=_
  unfold bR iR
  cases (a.eval T).toB<;>rfl
 ·rename_i x a b c
  have h1:=congrArg U.toB h
  show ((T.get x).toB=true↔_)
  rw[h1]
  show ((bif (a.eval T).toB then b.eval T else c.eval T).toB=true↔_)
  unfold bR
  cases (a.eval T).toB<;>simp
 ·rename_i x a b c
  have h1:=congrArg U.toL h
  show (T.get x).toL=_
  rw[h1]
  show (bif (a.eval T).toB then b.eval T else c.eval T).toL=_
  unfold bR lR
  cases (a.eval T).toB<;>rfl
 ·rename_i x a b c
  rw[vB h]
  show ((bif (a.eval T).toB then (b.eval T).toB else (c.eval T).toB)=true↔_)
  unfold bR
  cases (a.eval T).toB<;>simp
 ·rw[vI h];exact op2_ok _ _ _
 ·rw[vI h];exact w2_ok _ _ _ _
 ·rw[vI h];rfl
 ·rw[vI h];show 0 - _=_;rw[Int.zero_sub];rfl
 ·rw[vI h];rfl
 ·rw[vI h];rfl
 ·rw[vL h];rfl
 ·exact congrArg U.toI h
 ·exact congrArg U.toB h
 ·exact congrArg U.toL h
 ·exact (congrArg U.toI h).trans (pickI_get _ _)
 ·have h1:=congrArg U.toB h
  refine Iff.trans (b:=((_:U).toB=true)) (by rw[show B T _=_ from h1];exact Iff.rfl) (pickB_get _ _)
 ·rename_i x k s ts r
  simp only[tyOf] at ht
  split at ht
  ·rename_i hc
   rw[vL h,tysR_ok hs hc]
  ·cases ht
 ·exact congrArg U.toI h
 ·exact congrArg U.toB h
 ·exact congrArg U.toL h
 ·trivial
theorem pick_int {env:TEnv}(hs:Strong T env):∀{r:List Rf} (n:Nat),r.all (tyR env .i)=true→∃v,(r.map (Rf.eval T)).getD n default= .int v
 |[],n,_=>⟨0,by simp;rfl⟩
 |a::r,n,h=>by
  simp only[List.all_cons,Bool.and_eq_true] at h
  cases n with
  |zero=>exact⟨iR T a,by simpa [uR] using tyR_ok hs h.1⟩
  |succ n=>simpa using pick_int hs (r:=r) n h.2
theorem ty_ok {env:TEnv}(hs:Strong T env):∀(e:En) {t:Ty},tyOf env e=some (some t)→T.get e.x=opF e.op (e.rs.map (Rf.eval T))→T.get e.x=uV T t e.x:=by
 intro e t ht h
 unfold tyOf at ht
 split at ht
 ·rename_i a e1 e2
  split at ht
  ·rename_i hc
   cases ht
   rw[e1,e2] at h
   have h2:T.get e.x=a.eval T:=h
   rw[tyR_ok hs hc] at h2
   cases t
   ·exact sI h2
   ·exact sB h2
   ·exact sL h2
   ·rfl
  ·cases ht
 ·rename_i a b c e1 e2
  split at ht
  ·rename_i hc
   cases ht
   rw[Bool.and_eq_true] at hc
   rw[e1,e2] at h
   have h2:T.get e.x=bif (a.eval T).toB then b.eval T else c.eval T:=h
   rw[tyR_ok hs hc.1,tyR_ok hs hc.2] at h2
   cases t<;>cases hb:(a.eval T).toB<;>rw[hb] at h2<;>first|exact sI h2|exact sB h2|exact sL h2|rfl
  ·cases ht
 all_goals first
  |(rename_i c x a e1 e2;split at ht<;>cases ht;rename_i hc;rw[e1,e2] at h;obtain⟨n,hn⟩:=hasRow hs hc (a.eval T).toI.toNat;exact sI (h.trans hn))
  |(rename_i a r e1 e2;split at ht<;>cases ht;rename_i hc;rw[e1,e2] at h;obtain⟨v,hv⟩:=pick_int hs (a.eval T).toI.toNat hc;exact sI (h.trans hv))
  |(rename_i e1;split at ht<;>cases ht;rw[e1] at h;first|exact sI h|exact sB h|exact sL h)
  |(rename_i e1;cases ht;rw[e1] at h;first|exact sI h|exact sB h|exact sL h)
  |(cases ht)
  |skip
def Facts (T:Tab):List En→Prop
 |[]=>True
 |e::r=>fact T e∧Facts T r
theorem Facts.left:∀{a b:List En},Facts T (a++b)→Facts T a
 |[],_,_=>trivial
 |_::_,_,h=>⟨h.1,Facts.left h.2⟩
theorem Facts.right:∀{a b:List En},Facts T (a++b)→Facts T b
 |[],_,h=>h
 |_::_,_,h=>Facts.right h.2
end
abbrev BE:=Nat × (List U→U) × List Rf
abbrev BO:=PC × (List U→Prop) × List Rf
abbrev BP:=(List U→Prop) × List Rf
def bareE (l:List (Nat × Ex)):List BE:=l.map fun p=>(p.1,p.2.f,p.2.args)
def bareO (l:List Ob):List BO:=l.map fun o=>(o.pc,o.p.f,o.p.args)
def bareP (l:List Pr):List BP:=l.map fun p=>(p.f,p.args)
def AllB (T:Tab):List BE→Prop
 |[]=>True
 |(x,f,rs)::r=>T x=f (rs.map (Rf.eval T))∧AllB T r
def AllO (T:Tab):List BO→Prop
 |[]=>True
 |(pc,f,rs)::r=>(pcv T pc→f (rs.map (Rf.eval T)))∧AllO T r
def AllP (T:Tab):List BP→Prop
 |[]=>True
 |(f,rs)::r=>f (rs.map (Rf.eval T))∧AllP T r
section
variable {T:Tab}
theorem allB_of:∀{l:List (Nat × Ex)},(∀p∈l,T p.1=p.2.eval T)→AllB T (bareE l)
 |[],_=>trivial
 |p::_,h=>⟨h p (List.mem_cons_self ..),allB_of fun q hq=>h q (List.mem_cons_of_mem _ hq)⟩
theorem allB_mem:∀{l:List (Nat × Ex)},AllB T (bareE l)→∀p∈l,T p.1=p.2.eval T
 |[],_,p,hp=>by cases hp
 |e::r,h,p,hp=>by
  cases hp with
  |head=>exact h.1
  |tail _ hp=>exact allB_mem (l:=r) h.2 p hp
theorem AllB.left:∀{a b:List BE},AllB T (a++b)→AllB T a
 |[],_,_=>trivial
 |_::_,_,h=>⟨h.1,AllB.left h.2⟩
theorem AllB.right:∀{a b:List BE},AllB T (a++b)→AllB T b
 |[],_,h=>h
 |_::_,_,h=>AllB.right h.2
theorem allO_to:∀{l:List Ob},AllO T (bareO l)→∀o∈l,o.holds T
 |[],_,o,ho=>by cases ho
 |o'::_,h,o,ho=>by
  cases ho with
  |head=>exact h.1
  |tail _ ho=>exact allO_to h.2 o ho
theorem allP_to:∀{l:List Pr},AllP T (bareP l)→∀o∈l,o.holds T
 |[],_,o,ho=>by cases ho
 |o'::_,h,o,ho=>by
  cases ho with
  |head=>exact h.1
  |tail _ ho=>exact allP_to h.2 o ho
theorem sty_of {x:Nat}:∀(t:Ty),T.get x=uV T t x→(∀c,t≠ .r c)→Sty T x t
 | .i,h,_=>h
 | .b,h,_=>h
 | .l,h,_=>h
 | .r c,_,h=>absurd rfl (h c)
theorem chk_ok:∀{l:List En} {env env':TEnv},Strong T env→chk env l=some env'→AllB T (l.map En.be)→Facts T l∧Strong T env'
 |[],env,env',hs,h,_=>by
  simp only[chk] at h;cases h;exact⟨trivial,hs⟩
 |e::r,env,env',hs,h,hb=>by
  simp only[chk] at h
  split at h
  ·cases h
  ·rename_i ht
   obtain⟨h1,h2⟩:=chk_ok hs h hb.2
   exact⟨⟨fact_ok hs e ht hb.1,h1⟩,h2⟩
  ·rename_i t ht
   split at h
   ·rename_i hn
    obtain⟨h1,h2⟩:=chk_ok (env:=(e.x,t)::env) ⟨sty_of t (ty_ok hs e ht hb.1) (fun c hc=>by rw[hc] at hn;cases hn),hs⟩ h hb.2
    exact⟨⟨fact_ok hs e ht hb.1,h1⟩,h2⟩
   ·cases h
def chkE (env:TEnv)(l:List En):TEnv:=(chk env l).getD []
theorem chkE_ok {l:List En}{env:TEnv}(hs:Strong T env)(hc:(chk env l).isSome=true)(hb:AllB T (l.map En.be)):Facts T l∧Strong T (chkE env l):=by
 obtain⟨env',h⟩:=Option.isSome_iff_exists.1 hc
 have:=chk_ok hs h hb
 unfold chkE
 rw[h];exact this
def chkO (env:TEnv)(l:List En)(tys:List Ty)(rs:List Rf):Bool:=match chk env l with
 |some env'=>tysR env' tys rs
 |none=>false
theorem chkO_ok {l:List En}{env:TEnv}{tys:List Ty}{rs:List Rf}(hs:Strong T env)(hc:chkO env l tys rs=true)(hb:AllB T (l.map En.be)):Facts T l∧rs.map (Rf.eval T)=List.zipWith (uR T) tys rs:=by
 unfold chkO at hc
 split at hc
 ·rename_i env' h
  obtain⟨h1,h2⟩:=chk_ok hs h hb
  exact⟨h1,tysR_ok h2 hc⟩
 ·cases hc
theorem Strong.append:∀{a b:TEnv},Strong T a→Strong T b→Strong T (a++b)
 |[],_,_,h=>h
 |_::_,_,h,h'=>⟨h.1,Strong.append h.2 h'⟩
def tyKd:Kd→Option Ty
 | .int _ _ _=>some .i
 | .bool=>some .b
 | .list _=>some .l
 |_=>none
def rowsOf (x:Nat):Nat→List Kd→TEnv
 |_,[]=>[]
 |c,.int _ _ _::es=>(x,.r c)::rowsOf x (c+1) es
 |c,_::es=>rowsOf x (c+1) es
def envOf:Nat→List Kd→TEnv
 |_,[]=>[]
 |x,.list es::ks=>(x,.l)::(rowsOf x 0 es++envOf (x+1) ks)
 |x,k::ks=>match tyKd k with
  |some t=>(x,t)::envOf (x+1) ks
  |none=>envOf (x+1) ks
def Bnd (T:Tab):Nat→List Kd→Prop
 |_,[]=>True
 |x,.int _ lo hi::ks=>(lo≤I T x∧I T x≤hi)∧Bnd T (x+1) ks
 |x,.list es::ks=>((L T x).length≤140737488355328∧∀(i:Nat) (us:List U),(L T x)[i]? =some us→KdsU maxRow es us)∧Bnd T (x+1) ks
 |x,_::ks=>Bnd T (x+1) ks
theorem Strong.append0:∀{a b:TEnv},Strong T a→Strong T b→Strong T (a++b)
 |[],_,_,h=>h
 |_::_,_,h,h'=>⟨h.1,Strong.append0 h.2 h'⟩
theorem kdsU_get:∀{es:List Kd} {us:List U} {c:Nat} {k:Kd},KdsU maxRow es us→es[c]? =some k→∃u,us[c]? =some u∧KdU maxRow k u
 |[],_,_,_,_,h=>by simp at h
 |e::es,us,c,k,⟨u,us',e1,h1,h2⟩,h=>by
  subst e1
  cases c with
  |zero=>simp at h;subst h;exact⟨u,rfl,h1⟩
  |succ c=>simpa using kdsU_get h2 (by simpa using h)
theorem rowI_of {x c:Nat}{es:List Kd}{kk:IntKind}{lo hi:Int}(h:∀(i:Nat) (us:List U),(L T x)[i]? =some us→KdsU maxRow es us)(hc:es[c]? =some (.int kk lo hi)):RowI T x c:=fun i=>by
 rcases Nat.lt_or_ge i (L T x).length with hi|hi
 ·obtain⟨u,h1,⟨n,e,_⟩⟩:=kdsU_get (h i _ (List.getElem?_eq_getElem hi)) hc
  refine⟨n,?_⟩
  simp only[List.getD,List.getElem?_eq_getElem hi,Option.getD_some,h1]
  exact e
 ·exact⟨0,by simp only[List.getD,List.getElem?_eq_none hi,Option.getD_none];simp;rfl⟩
theorem rows_ok {x:Nat}{all:List Kd}(h:∀(i:Nat) (us:List U),(L T x)[i]? =some us→KdsU maxRow all us):∀(es:List Kd) (c:Nat),(∀j k,es[j]? =some k→all[c+j]? =some k)→Strong T (rowsOf x c es)
 |[],_,_=>trivial
 |e::es,c,ha=>by
  have ih:=rows_ok h es (c+1) fun j k hj=>by
   have:=ha (j+1) k (by simpa using hj)
   rw[show c+(j+1)=c+1+j by omega] at this
   exact this
  cases e with
  |int kk lo hi=>exact⟨rowI_of h (ha 0 _ rfl),ih⟩
  |_=>exact ih
theorem inp_ok:∀{ks:List Kd} {us:List U} {x:Nat},KdsU maxRow ks us→(∀j u,us[j]? =some u→T (x+j)=u)→Strong T (envOf x ks)∧Bnd T x ks
 |[],us,x,_,_=>⟨trivial,trivial⟩
 |k::ks,us,x,⟨u,us',e,h1,h2⟩,hT=>by
  subst e
  have ih:=inp_ok (x:=x+1) h2 fun j v hj=>by
   have:=hT (j+1) v (by simpa using hj)
   rw[show x+(j+1)=x+1+j by omega] at this
   exact this
  have h0:T.get x=u:=hT 0 u rfl
  cases k with
  |int kk lo hi=>
   obtain⟨n,e1,e2⟩:=h1
   rw[e1] at h0
   refine⟨⟨sI h0,ih.1⟩,?_,ih.2⟩
   rw[vI h0];exact e2
  |bool=>
   obtain⟨n,e1⟩:=h1
   rw[e1] at h0
   exact⟨⟨sB h0,ih.1⟩,ih.2⟩
  |str=>exact ih
  |val=>exact ih
  |any=>exact ih
  |list es=>
   obtain⟨n,e1,e2,e3⟩:=h1
   rw[e1] at h0
   have e3':∀(i:Nat) (us:List U),(L T x)[i]? =some us→KdsU maxRow es us:=by rw[vL h0];exact e3
   refine⟨⟨sL h0,(rows_ok e3' es 0 (fun j k hj=>by rw[Nat.zero_add];exact hj)).append0 ih.1⟩,?_,ih.2⟩
   exact⟨by rw[vL h0];exact e2,e3'⟩
end
inductive PO where
 |nez|t|inr|inl|btw (lo hi:Int)|fits (b:Nat)|ready|ne|pre (tg:String) (p:List U→Prop)|owes (D:LoopD)
structure ObE where
 pc:PC
 po:PO
 rs:List Rf
noncomputable def poF:PO→List U→Prop
 | .nez=>pNeZ| .t=>pT| .inr=>pIn| .inl=>pInL| .btw lo hi=>pBetween lo hi| .fits b=>pFits b| .ready=>pZero| .ne=>pNe| .pre _ p=>p| .owes D=>D.owes
noncomputable def ObE.be (o:ObE):PC × (List U→Prop) × List Rf:=(o.pc,poF o.po,o.rs)
def pcP (T:Tab):PC→Prop
 |none=>True
 |some c=>B T c=true
def goalP (T:Tab)(o:ObE):Prop:=
 match o with
 |⟨pc,.nez,[a]⟩=>pcP T pc→¬iR T a=0
 |⟨pc,.t,[a]⟩=>pcP T pc→bR T a=true
 |⟨pc,.inr,[a,b]⟩=>pcP T pc→(0≤iR T a∧iR T a < iR T b)
 |⟨pc,.inl,[a,b]⟩=>pcP T pc→(0≤iR T a∧iR T a < (lR T b).length)
 |⟨pc,.btw lo hi,[a]⟩=>pcP T pc→(lo≤iR T a∧iR T a≤hi)
 |⟨pc,.fits b,[a,c]⟩=>pcP T pc→((lR T a).length+(lR T c).length)*b≤140737488355328
 |⟨pc,.ready,[a]⟩=>pcP T pc→iR T a=0
 |⟨pc,.ne,[a,b]⟩=>pcP T pc→¬iR T a=iR T b
 |⟨pc,.pre _ p,rs⟩=>pcP T pc→p (rs.map (Rf.eval T))
 |⟨pc,.owes D,rs⟩=>pcP T pc→D.owes (rs.map (Rf.eval T))
 |_=>False
def AllG (T:Tab):List ObE→Prop
 |[]=>True
 |o::r=>goalP T o∧AllG T r
section
variable {T:Tab}
theorem pcP_of {pc:PC}(h:pcv T pc):pcP T pc:=by
 cases pc with
 |none=>trivial
 |some c=>show (T.get c).toB=true;rw[show T.get c= .bool true from h];rfl
theorem pcP_to {pc:PC}(h:pcP T pc):pcv T pc:=by
 cases pc with
 |none=>trivial
 |some c=>exact pcv_toB.2 h
theorem goalP_ok:∀{o:ObE},goalP T o→(pcv T o.pc→poF o.po (o.rs.map (Rf.eval T))):=by
 intro o h hp
 have hp':=pcP_of hp
 unfold goalP at h
 split at h<;>first|exact h hp'|exact h.elim
theorem allG_ok:∀{l:List ObE},AllG T l→AllO T (l.map ObE.be)
 |[],_=>trivial
 |_::_,h=>⟨goalP_ok h.1,allG_ok h.2⟩
end
def Tmpl.sees (t:Tmpl)(rs:List Rf)(r:Option (AC × Mem × G)):Option (List BE × List BO × List BP):=
 match r with
 |some (c0,m0,g0)=>match tmplOk t rs c0 m0 g0 with
  |some ps=>some (bareE g0.eqs.reverse,bareO g0.obs,bareP ps)
  |none=>none
 |none=>none
theorem inputs_kds:∀{ks:List Kd} {us:List U},us.length=ks.length→Inputs ks us→KdsU maxRow ks us
 |[],[],_,_=>rfl
 |k::ks,u::us,hl,h=>⟨u,us,rfl,h 0 k u rfl rfl,inputs_kds (by simpa using hl) fun j k' u' h1 h2=>h (j+1) k' u' (by simpa using h1) (by simpa using h2)⟩
 |[],_::_,hl,_=>by simp at hl
 |_::_,[],hl,_=>by simp at hl
noncomputable def Tmpl.run (P:Program)(l:List (FuncId × Tmpl))(hints:FuncId→Hint)(fuel depth:Nat)(f:FuncId)(t:Tmpl):Option (AC × Mem × G):=
 aCalls P (ctxOf l) hints fuel depth (fun _=>none) f t.args none t.m { n:=t.n,eqs:=[],obs:=[] }
def padFree (t:Tmpl):Bool:=(List.range t.m.length).all fun id=>match t.m'.at id with| .pad=>false|_=>true
theorem tmpl_sees {P:Program}{f:FuncId}{t:Tmpl}(hm:P.follows .mixedOrders=true){l:List (FuncId × Tmpl)}(hl:∀p∈l,TmplOK P p.1 p.2){hints:FuncId→Hint}{fuel depth:Nat}{rs:List Rf}{es:List En}{os:List ObE}
  (hrun:t.sees rs (t.run P l hints fuel depth f)=some (es.map En.be,os.map ObE.be,[])) (hne:padFree t=true)
  (hplain:∀(T:Tab) (us:List U),(∀p∈t.pre,p.2 us)→(∀j u,us[j]? =some u→T j=u)→us.length=t.n→Strong T (envOf 0 t.ks)→Bnd T 0 t.ks→AllB T (es.map En.be)→AllG T os∧rs.map (Rf.eval T)=t.outs.map fun o=>o.2 us):TmplOK P f t:=by
 unfold Tmpl.sees at hrun
 split at hrun
 ·rename_i c0 m0 g0 hr
  split at hrun
  ·rename_i ps hok
   injection hrun with hrun
   injection hrun with e1 hrun
   injection hrun with e2 e3
   refine tmpl_ok hm (ctxOf_ok hl) hr hok (fun id hid e=>?_) fun T us hul hin hpre hlow heqs=>?_
   ·have:=List.all_eq_true.1 hne id (List.mem_range.2 hid)
    rw[e] at this;cases this
   ·have hb:AllB T (bareE g0.eqs.reverse):=allB_of fun p hp=>heqs p (List.mem_reverse.1 hp)
    rw[e1] at hb
    obtain⟨i1,i2⟩:=inp_ok (x:=0) (inputs_kds hul hin) fun j u hj=>by rw[Nat.zero_add];exact hlow j u hj
    obtain⟨h1,h3⟩:=hplain T us hpre hlow hul i1 i2 hb
    have h2:=allG_ok h1
    rw[←e2] at h2
    exact⟨allO_to h2,allP_to (by rw[e3];trivial),h3⟩
  ·cases hrun
 ·cases hrun
theorem lc {α:Type}{a b:α}{l m:List α}(h:a=b)(h':l=m):a::l=b::m:=by rw[h,h']
def aI (us:List U)(j:Nat):Int:=(us.getD j default).toI
def aB (us:List U)(j:Nat):Bool:=(us.getD j default).toB
def aL (us:List U)(j:Nat):List (List U):=(us.getD j default).toL
theorem inI {T:Tab}{us:List U}{j n:Nat}(h:∀j u,us[j]? =some u→T j=u)(hl:us.length=n)(hj:j < n):aI us j=I T j:=by
 have:=h j us[j] (List.getElem?_eq_getElem (by omega))
 unfold aI I
 rw[show T.get j=us[j] from this]
 simp[List.getD,List.getElem?_eq_getElem (show j < us.length by omega)]
theorem inB {T:Tab}{us:List U}{j n:Nat}(h:∀j u,us[j]? =some u→T j=u)(hl:us.length=n)(hj:j < n):aB us j=B T j:=by
 have:=h j us[j] (List.getElem?_eq_getElem (by omega))
 unfold aB B
 rw[show T.get j=us[j] from this]
 simp[List.getD,List.getElem?_eq_getElem (show j < us.length by omega)]
theorem inL {T:Tab}{us:List U}{j n:Nat}(h:∀j u,us[j]? =some u→T j=u)(hl:us.length=n)(hj:j < n):aL us j=L T j:=by
 have:=h j us[j] (List.getElem?_eq_getElem (by omega))
 unfold aL L
 rw[show T.get j=us[j] from this]
 simp[List.getD,List.getElem?_eq_getElem (show j < us.length by omega)]
theorem iff_eq {a b:Bool}(h:a=true↔b=true):a=b:=Bool.eq_iff_iff.2 h
end Go.Eng
end
section
namespace Go.Eng
open Go
theorem inScope_parts {D:LoopD}{top:Nat}(h:D.inScope top=true):scopedE D.fv D.nh (D.nh+D.k) top D.eqs=true∧scopedL D.fv D.nh top (pcL D.pcn)=true∧∀x∈D.fv,x < D.nh:=by
 simp only[LoopD.inScope,Bool.and_eq_true] at h
 obtain⟨⟨⟨⟨s1,s2⟩,_⟩,_⟩,s5⟩:=h
 exact⟨s1,s2,fun x hx=>blt_lt (List.all_eq_true.1 s5 x hx)⟩
theorem loop_facts {D:LoopD}{T:Tab}{top:Nat}{inits:List U}(hsc:D.inScope top=true)(hk:inits.length=D.k)(hnl:D.nxt.length=D.k)(hH:∀j,j < D.k→T (D.nh+j)=D.res j (D.fv.map T.get++inits))(hE:∀p∈D.eqs,T p.1=p.2.eval T)
  (Inv:List U→Prop) (μ:List U→Nat) (h0:Inv inits)
  (hstep:∀(T':Tab) (s:List U),s.length=D.k→(∀x∈D.fv,T' x=T x)→(∀j u,s[j]? =some u→T' (D.nh+j)=u)→AllB T' (bareE D.eqs.reverse)→Inv s→AllO T' (bareO D.obs)∧(pcv T' D.pcn→Inv (D.nxt.map (Rf.eval T'))∧μ (D.nxt.map (Rf.eval T')) < μ s)):
  D.owes (D.fv.map T.get++inits)∧(∃t,Inv t∧t.length=D.k∧∀j u,t[j]? =some u→T (D.nh+j)=u)∧¬pcv T D.pcn:=by
 obtain⟨sc1,sc2,hfv⟩:=inScope_parts hsc
 have hlo:D.nh≤D.nh+D.k:=Nat.le_add_right _ _
 generalize hus:D.fv.map T.get=us at*
 have hfl:us.length=D.fv.length:=by rw[←hus];simp
 have e1:(us++inits).take D.fv.length=us:=by rw[←hfl];simp
 have e2:(us++inits).drop D.fv.length=inits:=by rw[←hfl];simp
 have key:∀s:List U,s.length=D.k→Inv s→AllO (D.tab us s) (bareO D.obs)∧(pcv (D.tab us s) D.pcn→Inv (D.nxt.map (Rf.eval (D.tab us s)))∧μ (D.nxt.map (Rf.eval (D.tab us s))) < μ s):=fun s hs hi=>by
  refine hstep (D.tab us s) s hs (fun x hx=>?_) (fun j u hj=>?_) (allB_of fun p hp=>?_) hi
  ·have:=hfv x hx
   unfold LoopD.tab
   rw[(solve_out sc1).2.2 x (.inl (by omega)),upds_lt _ _ _ _ this,←hus]
   exact tabOf_get D.fv x hx
  ·have hjl:=(List.getElem?_eq_some_iff.1 hj).1
   unfold LoopD.tab
   rw[(solve_out sc1).2.2 _ (.inl (by omega))]
   exact upds_get _ _ _ _ _ hj
  ·exact solve_eqs hfv hlo sc1 p (List.mem_reverse.1 hp)
 have stepE:∀s,D.step us s=(bif pcB (D.tab us s) D.pcn then some (D.nxt.map (Rf.eval (D.tab us s))) else none):=fun s=>rfl
 have go:∀(n:Nat) (s:List U),μ s≤n→s.length=D.k→Inv s→∃m t,iter (D.step us) m s=some t∧D.step us t=none∧Inv t∧t.length=D.k:=by
  intro n
  induction n with
  |zero=>
   intro s hm hs hi
   cases hp:pcB (D.tab us s) D.pcn with
   |true=>have:=((key s hs hi).2 (pcB_iff.1 hp)).2;omega
   |false=>exact⟨0,s,rfl,by rw[stepE,hp];rfl,hi,hs⟩
  |succ n ih=>
   intro s hm hs hi
   cases hp:pcB (D.tab us s) D.pcn with
   |true=>
    obtain⟨k1,k2⟩:=(key s hs hi).2 (pcB_iff.1 hp)
    obtain⟨m,t,q1,q2,q3,q4⟩:=ih (D.nxt.map (Rf.eval (D.tab us s))) (by omega) (by simp[hnl]) k1
    refine⟨m+1,t,?_,q2,q3,q4⟩
    simp only[iter,stepE,hp,cond_true,Option.bind_some]
    exact q1
   |false=>exact⟨0,s,rfl,by rw[stepE,hp];rfl,hi,hs⟩
 obtain⟨m,t,q1,q2,q3,q4⟩:=go (μ inits) inits (Nat.le_refl _) hk h0
 have hreach:∀s,Reach (D.step us) inits s→Inv s∧s.length=D.k:=by
  intro s hr
  induction hr with
  |zero=>exact⟨h0,hk⟩
  |succ hr hst ih=>
   rename_i s1 s2
   rw[stepE] at hst
   cases hp:pcB (D.tab us s1) D.pcn with
   |true=>
    rw[hp] at hst
    cases hst
    exact⟨((key s1 ih.2 ih.1).2 (pcB_iff.1 hp)).1,by simp[hnl]⟩
   |false=>rw[hp] at hst;cases hst
 have hlast:=last_eq q1 q2
 have hT:∀j u,t[j]? =some u→T (D.nh+j)=u:=fun j u hj=>by
  have hjl:=(List.getElem?_eq_some_iff.1 hj).1
  rw[hH j (by omega)]
  unfold LoopD.res
  rw[e1,e2,hlast]
  simp[List.getD,hj]
 refine⟨⟨by rw[e1,e2];exact⟨m,t,q1,q2⟩,fun s hr=>?_⟩,⟨t,q3,q4,hT⟩,fun hp=>?_⟩
 ·rw[e1,e2] at hr
  rw[e1]
  obtain⟨i1,i2⟩:=hreach s hr
  exact allO_to (key s i2 i1).1
 ·have hag:∀x,x∈D.fv∨(D.nh≤x∧x < top)→T x=D.tab us t x:=fun x hx=>by
   have:=solve_agree (T1:=T) (T2:=(tabOf D.fv us).upds D.nh t) hfv hlo (fun y hy=>?_) sc1 x hx
   ·rw[solve_uniq hE] at this
    exact this
   ·rcases hy with hy|hy
    ·rw[upds_lt _ _ _ _ (hfv y hy),←hus]
     exact (tabOf_get D.fv y hy).symm
    ·have hj:y - D.nh < t.length:=by omega
     have h1:=upds_get t (tabOf D.fv us) D.nh (y - D.nh) t[y - D.nh] (List.getElem?_eq_getElem hj)
     have h2:=hT (y - D.nh) t[y - D.nh] (List.getElem?_eq_getElem hj)
     rw[show D.nh+(y - D.nh)=y by omega] at h1 h2
     rw[h1,h2]
  have:pcB (D.tab us t) D.pcn=true:=by
   cases hc:D.pcn with
   |none=>rfl
   |some c=>
    rw[hc] at hp sc2
    have hcs:=scopedL_mem sc2 c (by simp[pcL])
    rw[pcB_iff]
    show D.tab us t c= .bool true
    rw[←hag c hcs]
    exact hp
  rw[stepE,this] at q2
  cases q2
theorem andNot_one (v:BitVec 64):(v &&& ~~~(1#64))=(v >>> 1) <<< 1:=by
 ext i hi
 simp only[BitVec.getElem_and,BitVec.getElem_not,BitVec.getElem_shiftLeft,BitVec.getElem_ushiftRight,BitVec.getElem_one]
 by_cases h:i=0
 ·subst h;simp
 ·simp[h]
  rw[show 1+(i - 1)=i by omega]
  simp[BitVec.getLsbD_eq_getElem hi]
theorem andNot1 {x:Int}(h1: -9223372036854775808≤x)(h2:x≤9223372036854775807):bitsI .andNot .i64 x 1=x - x % 2:=by
 have e1:(BitVec.ofInt IntKind.i64.bits x &&& ~~~(BitVec.ofInt IntKind.i64.bits 1)).toNat=(x % 18446744073709551616).toNat / 2*2:=by
  show (BitVec.ofInt 64 x &&& ~~~(1#64)).toNat=_
  rw[andNot_one]
  simp only[BitVec.toNat_shiftLeft,BitVec.toNat_ushiftRight,BitVec.toNat_ofInt,Nat.shiftLeft_eq,Nat.shiftRight_eq_div_pow]
  have e:((2 ^ 64:Nat):Int)=18446744073709551616:=rfl
  rw[e,Nat.pow_one]
  omega
 unfold bitsI
 simp only[e1]
 generalize hv:(x % 18446744073709551616).toNat / 2*2=v
 have hv':(v:Int)=x % 18446744073709551616 / 2*2:=by omega
 clear e1 hv
 simp[IntKind.wrap,IntKind.signed,IntKind.bits]
 split<;>omega
def op2Tag:Op2→String
 | .add=> "add" | .sub=> "sub" | .mul=> "mul" | .div=> "div" | .mod=> "mod" | .tdiv=> "tdiv" | .tmod=> "tmod" | .min=> "min" | .max=> "max"
def bitsTag:BinOp→String
 | .and=> "and" | .or=> "or" | .xor=> "xor" |_=> "andNot"
def opTag:Opn→Tg
 | .id _=> "id" | .not=> "not" | .and=> "and" | .or=> "or" | .lt=> "lt" | .le=> "le" | .eq=> "eq" | .ne=> "ne"
 | .eqs _=> "eqs" | .nes _=> "nes" | .eqb=> "eqb" | .neb=> "neb" | .ite _=> "if" | .ifb=> "ifb"
 | .o2 o=>op2Tag o| .w2 k o=>kindTag k++ " " ++op2Tag o| .w1 k=>kindTag k++ " id" | .neg=> "neg" | .bits o k=>kindTag k++ " " ++bitsTag o
 | .len=> "len" | .app=> "app" | .get _ c=> "get " ++toString c| .pick _=> "pick" | .row _ s _=> "row " ++toString s
 | .outI tg _=>tg| .outB tg _=>tg| .outL tg _=>tg| .res _ D j=>D.tg j
def poTag:PO→Tg
 | .nez=> "nez" | .t=> "t" | .inr=> "in" | .inl=> "inl" | .btw lo hi=> "between " ++toString lo++ " " ++toString hi| .fits b=> "fits " ++toString b| .ready=> "ready" | .ne=> "ne" | .pre tg _=>tg| .owes D=>D.tg 0
noncomputable def En.ex (e:En):Nat × Ex:=(e.x,⟨opTag e.op,opF e.op,e.rs⟩)
noncomputable def ObE.ob (o:ObE):Ob:=⟨o.pc,⟨poTag o.po,poF o.po,o.rs⟩⟩
noncomputable def mkD (nh k:Nat)(bes:List En)(pcn:Nat)(nxt:List Rf)(bos:List ObE)(fv:List Nat):LoopD:=
 {nh,k,eqs:=(bes.map En.ex).reverse,pcn:=some pcn,nxt,obs:=bos.map ObE.ob,fv }
def hds:Nat→List Ty→TEnv
 |_,[]=>[]
 |x,t::ts=>(x,t)::hds (x+1) ts
def hdU (T:Tab):Nat→List Ty→List U
 |_,[]=>[]
 |x,t::ts=>uV T t x::hdU T (x+1) ts
def uOf:Ty→U→U
 | .i,u=> .int u.toI
 | .b,u=> .bool u.toB
 | .l,u=> .list u.toL
 | .r _,u=>u
def TyU:List Ty→List U→Prop
 |[],[]=>True
 |t::ts,u::us=>(u=uOf t u∧noR t=true)∧TyU ts us
 |_,_=>False
def inFv (fv:List Nat)(env:TEnv):TEnv:=env.filter fun p=>fv.contains p.1
section
variable {T:Tab}
theorem tyU_zip:∀{ts:List Ty} {rs:List Rf},ts.all noR=true→ts.length=rs.length→TyU ts (List.zipWith (uR T) ts rs)
 |[],[],_,_=>trivial
 |t::ts,r::rs,h0,h=>by
  simp only[List.all_cons,Bool.and_eq_true] at h0
  exact⟨⟨by cases t<;>rfl,h0.1⟩,tyU_zip h0.2 (by simpa using h)⟩
 |[],_::_,_,h=>by simp at h
 |_::_,[],_,h=>by simp at h
theorem hds_ok:∀{ts:List Ty} {us:List U} {x:Nat},TyU ts us→(∀j u,us[j]? =some u→T (x+j)=u)→Strong T (hds x ts)∧hdU T x ts=us
 |[],[],_,_,_=>⟨trivial,rfl⟩
 |t::ts,u::us,x,h,hT=>by
  obtain⟨h1,h2⟩:=hds_ok (x:=x+1) h.2 fun j v hj=>by
   have:=hT (j+1) v (by simpa using hj)
   rw[show x+(j+1)=x+1+j by omega] at this
   exact this
  have h0:T.get x=u:=hT 0 u rfl
  have e:u=uV T t x:=by
   have:=h.1.1
   cases t<;>(simp only[uV,uR,iR,bR,lR,Rf.eval];rw[show T x=u from h0];try exact this)
  exact⟨⟨sty_of t (h0.trans e) (fun c hc=>by have:=h.1.2;rw[hc] at this;cases this),h1⟩,by simp only[hdU];rw[h2,←e]⟩
 |[],_::_,_,h,_=>h.elim
 |_::_,[],_,h,_=>h.elim
theorem strong_inFv {T2:Tab}{fv:List Nat}(hfv:∀x∈fv,T2.get x=T.get x):∀{env:TEnv},Strong T env→Strong T2 (inFv fv env)
 |[],_=>trivial
 |(x,t)::r,h=>by
  unfold inFv
  rw[List.filter_cons]
  split
  ·rename_i hc
   have e:=hfv x (List.contains_iff_mem.1 hc)
   refine⟨?_,strong_inFv hfv h.2⟩
   cases t with
   |r c=>
    have h1:RowI T x c:=h.1
    intro i
    obtain⟨n,hn⟩:=h1 i
    exact⟨n,by unfold L at hn⊢;rw[e];exact hn⟩
   |_=>
    have h1:=Sty.get h.1
    show T2.get x=_
    rw[e,h1]
    simp only[uV,uR,iR,bR,lR,Rf.eval];rw[show T2 x=T x from e]
  ·exact strong_inFv hfv h.2
theorem bareE_mk (bes:List En):bareE (((bes.map En.ex).reverse).reverse)=bes.map En.be:=by
 rw[List.reverse_reverse];unfold bareE;rw[List.map_map];rfl
theorem bareO_mk (bos:List ObE):bareO (bos.map ObE.ob)=bos.map ObE.be:=by
 unfold bareO;rw[List.map_map];rfl
noncomputable def headsB (D:LoopD)(args:List Rf):Nat→Nat→List BE
 |_,0=>[]
 |j,k+1=>(D.nh+j,D.res j,args)::headsB D args (j+1) k
theorem headsB_get {D:LoopD}{args:List Rf}:∀{k j0:Nat},AllB T (headsB D args j0 k)→∀j,j < k→T (D.nh+(j0+j))=D.res (j0+j) (args.map (Rf.eval T))
 |0,_,_,j,hj=>by omega
 |k+1,j0,h,j,hj=>by
  cases j with
  |zero=>exact h.1
  |succ j=>
   have:=headsB_get h.2 j (by omega)
   rw[show j0+1+j=j0+(j+1) by omega] at this
   exact this
theorem loop_ok {env:TEnv}{nh k pcn top:Nat}{bes:List En}{bos:List ObE}{nxt inits:List Rf}{fv:List Nat}{tys:List Ty}(hsc:(mkD nh k bes pcn nxt bos fv).inScope top=true)(hn:inits.length=k)(hn2:nxt.length=k)(hn3:tys.length=k)(hnr:tys.all noR=true)
  (hS:Strong T env) (hini:tysR env tys inits=true) (hchk:chkO (hds nh tys++inFv fv env) bes tys nxt=true)
  (hB:AllB T (bes.map En.be)) (hH:AllB T (headsB (mkD nh k bes pcn nxt bos fv) (fv.map Rf.e++inits) 0 k))
  (Inv:List U→Prop) (μ:List U→Nat) (h0:Inv (List.zipWith (uR T) tys inits))
  (hstep:∀T2:Tab,(∀x∈fv,T2.get x=T.get x)→Facts T2 bes→Inv (hdU T2 nh tys)→
   AllG T2 bos∧(B T2 pcn=true→Inv (List.zipWith (uR T2) tys nxt)∧μ (List.zipWith (uR T2) tys nxt) < μ (hdU T2 nh tys))):
  (mkD nh k bes pcn nxt bos fv).owes ((fv.map Rf.e++inits).map (Rf.eval T))∧Strong T (hds nh tys)∧Inv (hdU T nh tys)∧¬B T pcn=true:=by
 have hI:inits.map (Rf.eval T)=List.zipWith (uR T) tys inits:=tysR_ok hS hini
 have hA:(fv.map Rf.e++inits).map (Rf.eval T)=fv.map T.get++List.zipWith (uR T) tys inits:=by
  rw[List.map_append,hI,List.map_map];rfl
 have hH':=fun j (hj:j < k)=>headsB_get hH j hj
 simp only[Nat.zero_add] at hH'
 rw[hA] at hH'
 rw[hA]
 have key:=loop_facts (D:=mkD nh k bes pcn nxt bos fv) (T:=T) (top:=top) (inits:=List.zipWith (uR T) tys inits) hsc (by simp[hn,hn3];rfl) hn2 (fun j hj=>hH' j hj)
  (fun p hp=>allB_mem (l:=((mkD nh k bes pcn nxt bos fv).eqs).reverse) (by rw[show (mkD nh k bes pcn nxt bos fv).eqs=(bes.map En.ex).reverse from rfl,bareE_mk];exact hB) p (List.mem_reverse.2 hp))
  (fun s=>TyU tys s∧Inv s) μ ⟨tyU_zip hnr (by omega),h0⟩ (fun T2 s hs hfv hhd hb hi=>by
   obtain⟨i1,i2⟩:=hi
   obtain⟨s1,s2⟩:=hds_ok i1 hhd
   rw[show (mkD nh k bes pcn nxt bos fv).eqs=(bes.map En.ex).reverse from rfl,bareE_mk] at hb
   obtain⟨f1,f2⟩:=chkO_ok (s1.append (strong_inFv hfv hS)) hchk hb
   obtain⟨g1,g2⟩:=hstep T2 hfv f1 (by rw[show hdU T2 nh tys=s from s2];exact i2)
   refine⟨by rw[show (mkD nh k bes pcn nxt bos fv).obs=bos.map ObE.ob from rfl,bareO_mk];exact allG_ok g1,fun hp=>?_⟩
   obtain⟨g3,g4⟩:=g2 (pcP_of (pc:=some pcn) hp)
   show (TyU tys (nxt.map (Rf.eval T2))∧Inv (nxt.map (Rf.eval T2)))∧μ (nxt.map (Rf.eval T2)) < μ s
   rw[f2]
   rw[show hdU T2 nh tys=s from s2] at g4
   exact⟨⟨tyU_zip hnr (by omega),g3⟩,g4⟩)
 obtain⟨q1,⟨t,⟨q2,q3⟩,q4,q5⟩,q6⟩:=key
 obtain⟨s1,s2⟩:=hds_ok q2 q5
 exact⟨q1,s1,by rw[show hdU T nh tys=t from s2];exact q3,fun h=>q6 (pcP_to (pc:=some pcn) h)⟩
end
end Go.Eng
namespace Go.Eng
open Go
noncomputable def headsE (D:LoopD)(rs:List Rf):Nat→Nat→List Ty→List En
 |_,_,[]=>[]
 |j,x,t::ts=>⟨x,.res t D j,rs⟩::headsE D rs (j+1) (x+1) ts
noncomputable def hdsE (D:LoopD)(tys:List Ty)(rs:List Rf):List En:=headsE D rs 0 D.nh tys
theorem headsE_ok {T:Tab}{D:LoopD}{rs:List Rf}:∀{tys:List Ty} {j:Nat},AllB T ((headsE D rs j (D.nh+j) tys).map En.be)→AllB T (headsB D rs j tys.length)
 |[],_,_=>trivial
 |_::_,_,h=>⟨h.1,headsE_ok h.2⟩
theorem heads_ok {T:Tab}{D:LoopD}{rs:List Rf}{tys:List Ty}(h:AllB T ((hdsE D tys rs).map En.be)):AllB T (headsB D rs 0 tys.length):=headsE_ok (j:=0) h
theorem fvI {T T2:Tab}{x:Nat}(h:T2.get x=T.get x):I T2 x=I T x:=by unfold I;rw[h]
theorem fvB {T T2:Tab}{x:Nat}(h:T2.get x=T.get x):B T2 x=B T x:=by unfold B;rw[h]
theorem fvL {T T2:Tab}{x:Nat}(h:T2.get x=T.get x):L T2 x=L T x:=by unfold L;rw[h]
abbrev k64:Kd:= .int .i64 IntKind.i64.min IntKind.i64.max
abbrev aI64 (x:Nat):AC:= .i .i64 IntKind.i64.min IntKind.i64.max x
end Go.Eng
end
section
namespace Go.Eng
open Go Go.RowKit
mutual
theorem KdU.up {B:Nat}(hB:B≤maxRow):∀{k:Kd} {u:U},KdU B k u→KdU maxRow k u
 | .int _ _ _,_,h=>h
 | .bool,_,h=>h
 | .str,_,⟨s,e,_⟩=>⟨s,e,.inr rfl⟩
 | .val,_,_=>trivial
 | .any,_,_=>trivial
 | .list _,_,⟨l,e,h1,h2⟩=>⟨l,e,Nat.le_trans h1 hB,fun i us hi=>KdsU.up hB (h2 i us hi)⟩
theorem KdsU.up {B:Nat}(hB:B≤maxRow):∀{ks:List Kd} {us:List U},KdsU B ks us→KdsU maxRow ks us
 |[],_,h=>h
 |_::_,_,⟨u,us',e,h1,h2⟩=>⟨u,us',e,KdU.up hB h1,KdsU.up hB h2⟩
end
def BndL (B:Nat)(T:Tab):Nat→List Kd→Prop
 |_,[]=>True
 |x,.list _::ks=>(L T x).length≤B∧BndL B T (x+1) ks
 |x,_::ks=>BndL B T (x+1) ks
theorem bndL_ok {B:Nat}{T:Tab}:∀{ks:List Kd} {us:List U} {x:Nat},KdsU B ks us→(∀j u,us[j]? =some u→T (x+j)=u)→BndL B T x ks
 |[],us,x,_,_=>trivial
 |k::ks,us,x,⟨u,us',e,h1,h2⟩,hT=>by
  subst e
  have ih:=bndL_ok (x:=x+1) h2 fun j v hj=>by
   have:=hT (j+1) v (by simpa using hj)
   rw[show x+(j+1)=x+1+j by omega] at this
   exact this
  have h0:T.get x=u:=hT 0 u rfl
  cases k with
  |list es=>
   obtain⟨n,e1,e2,_⟩:=h1
   rw[e1] at h0
   exact⟨by rw[vL h0];exact e2,ih⟩
  |_=>exact ih
def seesL (n:Nat)(r:Option (AC × Mem × G)):Option (Nat × List BE × List BO):=
 match r with
 |some (.b x,_,g)=>if runOk n g then some (x,bareE g.eqs.reverse,bareO g.obs) else none
 |_=>none
noncomputable def lawRun (P:Program)(l:List (FuncId × Tmpl))(hints:FuncId→Hint)(fuel depth:Nat)(f:FuncId)(as:List AC)(n:Nat):Option (AC × Mem × G):=
 aCalls P (ctxOf l) hints fuel depth (fun _=>none) f as none [] { n,eqs:=[],obs:=[] }
theorem law_sees {P:Program}{w:World}{B:Nat}{H:Type}{enc:TypeId × Value→H}{sp:Nat→Bool}{held:Bool}{base:Nat}(hB:B≤maxRow)(hm:P.follows .mixedOrders=true){l:List (FuncId × Tmpl)}(hl:∀p∈l,TmplOK P p.1 p.2){hints:FuncId→Hint}{fuel depth dd:Nat}{f:FuncId}{ts:List TypeId}{as:List AC}{ks:List Kd}{x:Nat}{es:List En}{os:List ObE}
  (hargs:argsAC P dd ts 0=some (as,ks)) (hrun:seesL ks.length (lawRun P l hints fuel depth f as ks.length)=some (x,es.map En.be,os.map ObE.be))
  (hplain:∀T:Tab,Strong T (envOf 0 ks)→Bnd T 0 ks→BndL B T 0 ks→AllB T (es.map En.be)→AllG T os∧Go.Eng.B T x=true)
  {vs:List Value} {ds:List (DataW H)} {ps:List MemPlace} (ht:DataW.TrodAll enc P w 0 sp held ts vs ds ps) (hv:∀(j:Nat) t v,ts[j]? =some t→vs[j]? =some v→Value.okWide P w .any base t v) (hs:∀d∈ds,Short B d):
  Calls P f (vs:List Value).toArray w fun e W'=>e= .returned (.bool true)∧Below w.heap.size w W':=by
 unfold seesL at hrun
 split at hrun
 ·rename_i x0 m' g' hr
  split at hrun
  ·rename_i hchk
   injection hrun with hrun
   injection hrun with e0 hrun
   injection hrun with e1 e2
   refine law_of hB hm hl hargs hr hchk (fun T us hk hlen hT heqs=>?_) ht hv hs
   have hb:AllB T (bareE g'.eqs.reverse):=allB_of fun p hp=>heqs p (List.mem_reverse.1 hp)
   rw[e1] at hb
   have hT0:∀j u,us[j]? =some u→T (0+j)=u:=fun j u hj=>by rw[Nat.zero_add];exact hT j u hj
   obtain⟨i1,i2⟩:=inp_ok (x:=0) (KdsU.up hB hk) hT0
   obtain⟨h1,h2⟩:=hplain T i1 i2 (bndL_ok hk hT0) hb
   have h3:=allG_ok h1
   rw[←e2] at h3
   refine⟨allO_to h3,?_⟩
   rw[e0]
   exact pcP_to (pc:=some x) h2
  ·cases hrun
 ·cases hrun
end Go.Eng
end
section
namespace Go.Eng
open Go
abbrev Knw:=List (Nat × Ty × Rf)
def look:Knw→Nat→Ty→Option Rf
 |[],_,_=>none
 |(y,t,r)::l,x,u=>bif Nat.beq y x&&isTy t u then some r else look l x u
def negR:Rf→Rf
 | .e x=> .n x
 | .n x=> .e x
 | .c (.bool b)=> .c (.bool !b)
 |r=>r
def negOk:Rf→Bool
 | .e _| .n _| .c (.bool _)=>true
 |_=>false
def sR (K:Knw):Ty→Rf→Rf
 |t,.e x=>(look K x t).getD (.e x)
 | .b,.n x=>match look K x .b with
  |some r=>bif negOk r then negR r else .n x
  |none=> .n x
 |_,r=>r
def kOk1 (T:Tab):Nat × Ty × Rf→Prop
 |(x,.i,r)=>I T x=iR T r
 |(x,.b,r)=>B T x=bR T r
 |(x,.l,r)=>L T x=lR T r
 |_=>True
def KOk (T:Tab):Knw→Prop
 |[]=>True
 |p::l=>kOk1 T p∧KOk T l
def rfEq:Rf→Rf→Bool
 | .e x,.e y=>Nat.beq x y
 | .n x,.n y=>Nat.beq x y
 | .c (.int a),.c (.int b)=>decide (a=b)
 | .c (.bool a),.c (.bool b)=>a==b
 |_,_=>false
def pairK:Ty→Rf→Rf→Option Bool
 | .i,.c (.int m),.c (.int n)=>some (decide (m=n))
 | .b,.c (.bool m),.c (.bool n)=>some (m==n)
 | .i,a,b=>bif rfEq a b then some true else none
 | .b,a,b=>bif rfEq a b then some true else none
 |_,_,_=>none
def sEqs (K:Knw):List Ty→List Rf→Option (List Ty × List Rf)
 |t::ts,a::b::r=>bif eqTy t then (match pairK t (sR K t a) (sR K t b) with
  |some true=>sEqs K ts r
  |some false=>none
  |none=>(sEqs K ts r).map fun p=>(t::p.1,sR K t a::sR K t b::p.2)) else some (t::ts,a::b::r)
 |ts,r=>some (ts,r)
def op2C:Op2→Int→Int→Int
 | .add,a,b=>a+b| .sub,a,b=>a - b| .mul,a,b=>a*b| .div,a,b=>a / b| .mod,a,b=>a % b
 | .tdiv,a,b=>if 0≤a then a / b else -(-a / b)
 | .tmod,a,b=>if 0≤a then a % b else -(-a % b)
 | .min,a,b=>if a≤b then a else b
 | .max,a,b=>if a≤b then b else a
inductive SE where
 |k (t:Ty) (r:Rf)
 |q (op:Opn) (rs:List Rf)
def cmpE (op:Opn)(f:Int→Int→Bool)(refl:Bool)(a b:Rf):SE:=
 match a,b with
 | .c (.int m),.c (.int n)=> .k .b (.c (.bool (f m n)))
 |a,b=>bif rfEq a b then .k .b (.c (.bool refl)) else .q op [a,b]
def andE (a b:Rf):SE:=
 match a,b with
 | .c (.bool false),_=> .k .b (.c (.bool false))
 |_,.c (.bool false)=> .k .b (.c (.bool false))
 | .c (.bool true),r=> .k .b r
 |r,.c (.bool true)=> .k .b r
 |a,b=>bif rfEq a b then .k .b a else .q .and [a,b]
def orE (a b:Rf):SE:=
 match a,b with
 | .c (.bool true),_=> .k .b (.c (.bool true))
 |_,.c (.bool true)=> .k .b (.c (.bool true))
 | .c (.bool false),r=> .k .b r
 |r,.c (.bool false)=> .k .b r
 |a,b=>bif rfEq a b then .k .b a else .q .or [a,b]
def iteBE (op:Opn)(c a b:Rf):SE:=
 match c,a,b with
 | .c (.bool true),a,_=> .k .b a
 | .c (.bool false),_,b=> .k .b b
 |c,.c (.bool true),b=>orE c b
 |c,.c (.bool false),b=>bif negOk c then andE (negR c) b else .q op [c,a,b]
 |c,a,.c (.bool false)=>andE c a
 |c,a,.c (.bool true)=>bif negOk c then orE (negR c) a else .q op [c,a,b]
 |c,a,b=>bif rfEq a b then .k .b a else .q op [c,a,b]
def eqbE (a b:Rf):SE:=
 match a with
 | .c (.bool k)=>bif k then .k .b b else bif negOk b then .k .b (negR b) else .q .eqb [.c (.bool k),b]
 |a=>match b with
  | .c (.bool k)=>bif k then .k .b a else bif negOk a then .k .b (negR a) else .q .eqb [a,.c (.bool k)]
  |b=>bif rfEq a b then .k .b (.c (.bool true)) else .q .eqb [a,b]
def nebE (a b:Rf):SE:=
 match a with
 | .c (.bool k)=>bif k then (bif negOk b then .k .b (negR b) else .q .neb [.c (.bool k),b]) else .k .b b
 |a=>match b with
  | .c (.bool k)=>bif k then (bif negOk a then .k .b (negR a) else .q .neb [a,.c (.bool k)]) else .k .b a
  |b=>bif rfEq a b then .k .b (.c (.bool false)) else .q .neb [a,b]
def pickE (K:Knw)(t:Ty):List Rf→Int→Option Rf
 |[],_=>none
 |a::l,n=>if n≤0 then some (sR K t a) else pickE K t l (n - 1)
def sEn (K:Knw)(op:Opn)(rs:List Rf):SE:=
 match op,rs with
 | .id t,[a]=> .k t (sR K t a)
 | .not,[a]=>let r:=sR K .b a;bif negOk r then .k .b (negR r) else .q .not [r]
 | .and,[a,b]=>andE (sR K .b a) (sR K .b b)
 | .or,[a,b]=>orE (sR K .b a) (sR K .b b)
 | .lt,[a,b]=>cmpE .lt (fun m n=>decide (m < n)) false (sR K .i a) (sR K .i b)
 | .le,[a,b]=>cmpE .le (fun m n=>decide (m≤n)) true (sR K .i a) (sR K .i b)
 | .eq,[a,b]=>cmpE .eq (fun m n=>decide (m=n)) true (sR K .i a) (sR K .i b)
 | .ne,[a,b]=>cmpE .ne (fun m n=> !decide (m=n)) false (sR K .i a) (sR K .i b)
 | .eqs ts,r=>match sEqs K ts r with
  |none=> .k .b (.c (.bool false))
  |some ([],[])=> .k .b (.c (.bool true))
  |some (ts,r)=> .q (.eqs ts) r
 | .nes ts,r=>match sEqs K ts r with
  |none=> .k .b (.c (.bool true))
  |some ([],[])=> .k .b (.c (.bool false))
  |some (ts,r)=> .q (.nes ts) r
 | .eqb,[a,b]=>eqbE (sR K .b a) (sR K .b b)
 | .neb,[a,b]=>nebE (sR K .b a) (sR K .b b)
 | .ite .i,[c,a,b]=>match sR K .b c,sR K .i a,sR K .i b with
  | .c (.bool true),a,_=> .k .i a
  | .c (.bool false),_,b=> .k .i b
  |c,a,b=>bif rfEq a b then .k .i a else .q (.ite .i) [c,a,b]
 | .ite .l,[c,a,b]=>match sR K .b c,sR K .l a,sR K .l b with
  | .c (.bool true),a,_=> .k .l a
  | .c (.bool false),_,b=> .k .l b
  |c,a,b=>bif rfEq a b then .k .l a else .q (.ite .l) [c,a,b]
 | .ite .b,[c,a,b]=>iteBE (.ite .b) (sR K .b c) (sR K .b a) (sR K .b b)
 | .ifb,[c,a,b]=>iteBE .ifb (sR K .b c) (sR K .b a) (sR K .b b)
 | .o2 o,[a,b]=>match sR K .i a,sR K .i b with
  | .c (.int m),.c (.int n)=> .k .i (.c (.int (op2C o m n)))
  |a,b=> .q (.o2 o) [a,b]
 | .w2 .i64 o,[a,b]=>match o,sR K .i a,sR K .i b with
  | .add,.c (.int m),.c (.int n)=>bif decide (-9223372036854775808≤m+n)&&decide (m+n≤9223372036854775807) then .k .i (.c (.int (m+n))) else .q (.w2 .i64 .add) [.c (.int m),.c (.int n)]
  | .sub,.c (.int m),.c (.int n)=>bif decide (-9223372036854775808≤m - n)&&decide (m - n≤9223372036854775807) then .k .i (.c (.int (m - n))) else .q (.w2 .i64 .sub) [.c (.int m),.c (.int n)]
  |o,a,b=> .q (.w2 .i64 o) [a,b]
 | .neg,[a]=>match sR K .i a with
  | .c (.int m)=> .k .i (.c (.int (-m)))
  |a=> .q .neg [a]
 | .len,[a]=>match sR K .l a with
  | .c (.list [])=> .k .i (.c (.int 0))
  |a=> .q .len [a]
 | .app,[a,b]=>match sR K .l a,sR K .l b with
  | .c (.list []),b=> .k .l b
  |a,.c (.list [])=> .k .l a
  |a,b=> .q .app [a,b]
 | .get .i c,[a,b]=> .q (.get .i c) [sR K .l a,sR K .i b]
 | .get .b c,[a,b]=> .q (.get .b c) [sR K .l a,sR K .i b]
 | .get .l c,[a,b]=> .q (.get .l c) [sR K .l a,sR K .i b]
 | .pick .i,a::r=>match sR K .i a with
  | .c (.int n)=>match pickE K .i r n with
   |some x=> .k .i x
   |none=> .k .i (.c (.int 0))
  |a=> .q (.pick .i) (a::r.map (sR K .i))
 | .pick .b,a::r=>match sR K .i a with
  | .c (.int n)=>match pickE K .b r n with
   |some x=> .k .b x
   |none=> .k .b (.c (.bool false))
  |a=> .q (.pick .b) (a::r.map (sR K .b))
 |op,rs=> .q op rs
def red:Knw→List En→Knw × List En
 |K,[]=>(K,[])
 |K,e::es=>bif K.any (fun p=>Nat.beq p.1 e.x) then red K es else
  match sEn K e.op e.rs with
  | .k t r=>red ((e.x,t,r)::K) es
  | .q op rs=>let p:=red K es;(p.1,⟨e.x,op,rs⟩::p.2)
section
variable {T:Tab}
theorem look_ok:∀{K:Knw} {x:Nat} {t:Ty} {r:Rf},KOk T K→look K x t=some r→kOk1 T (x,t,r)
 |[],_,_,_,_,h=>by cases h
 |(y,u,r0)::l,x,t,r,hk,h=>by
  simp only[look] at h
  cases hb:(Nat.beq y x&&isTy u t) with
  |true=>
   rw[hb] at h
   rw[Bool.and_eq_true] at hb
   have e:=Nat.eq_of_beq_eq_true hb.1
   have e2:=isTy_eq hb.2
   subst e;subst e2
   cases h
   exact hk.1
  |false=>rw[hb] at h;exact look_ok hk.2 h
theorem negR_ok {r:Rf}(h:negOk r=true):bR T (negR r)= !bR T r:=by
 cases r with
 |e x=>rfl
 |n x=>simp[negR,bR,Rf.eval,U.toB]
 |c u=>cases u<;>first|rfl|cases h
theorem sRi {K:Knw}(hk:KOk T K)(r:Rf):iR T (sR K .i r)=iR T r:=by
 cases r with
 |c u=>rfl
 |n x=>rfl
 |e x=>
  simp only[sR]
  cases h:look K x .i with
  |none=>rfl
  |some r=>exact (look_ok hk h).symm
theorem sRl {K:Knw}(hk:KOk T K)(r:Rf):lR T (sR K .l r)=lR T r:=by
 cases r with
 |c u=>rfl
 |n x=>rfl
 |e x=>
  simp only[sR]
  cases h:look K x .l with
  |none=>rfl
  |some r=>exact (look_ok hk h).symm
theorem sRb {K:Knw}(hk:KOk T K)(r:Rf):bR T (sR K .b r)=bR T r:=by
 cases r with
 |c u=>rfl
 |e x=>
  simp only[sR]
  cases h:look K x .b with
  |none=>rfl
  |some r=>exact (look_ok hk h).symm
 |n x=>
  simp only[sR]
  cases h:look K x .b with
  |none=>rfl
  |some r=>
   simp only
   cases hn:negOk r with
   |false=>rfl
   |true=>
    have h1:B T x=bR T r:=look_ok hk h
    simp only[cond_true]
    rw[negR_ok hn,←h1];rfl
theorem rfEq_i {a b:Rf}(h:rfEq a b=true):iR T a=iR T b∧bR T a=bR T b∧lR T a=lR T b:=by
 unfold rfEq at h
 split at h<;>first
  |(have e:=Nat.eq_of_beq_eq_true h;subst e;exact⟨rfl,rfl,rfl⟩)
  |(have e:=of_decide_eq_true h;subst e;exact⟨rfl,rfl,rfl⟩)
  |(have e:=eq_of_beq h;subst e;exact⟨rfl,rfl,rfl⟩)
  |cases h
def SEok (T:Tab)(x:Nat):SE→Prop
 | .k t r=>kOk1 T (x,t,r)
 | .q op rs=>fact T ⟨x,op,rs⟩
theorem kB {x:Nat}{r:Rf}(h:B T x=true↔bR T r=true):SEok T x (.k .b r):=Bool.eq_iff_iff.2 h
theorem andE_ok {x:Nat}{a b:Rf}(h:B T x=true↔(bR T a=true∧bR T b=true)):SEok T x (andE a b):=by
 unfold andE
 split
 ·refine kB ?_;rw[h,bR_c];simp
 ·refine kB ?_;rw[h,bR_c];simp
 ·refine kB ?_;rw[h,bR_c];simp
 ·refine kB ?_;rw[h,bR_c];simp
 ·cases he:rfEq a b with
  |true=>refine kB ?_;rw[h,←(rfEq_i he).2.1];simp
  |false=>exact h
theorem orE_ok {x:Nat}{a b:Rf}(h:B T x=true↔(bR T a=true∨bR T b=true)):SEok T x (orE a b):=by
 unfold orE
 split
 ·refine kB ?_;rw[h,bR_c];simp
 ·refine kB ?_;rw[h,bR_c];simp
 ·refine kB ?_;rw[h,bR_c];simp
 ·refine kB ?_;rw[h,bR_c];simp
 ·cases he:rfEq a b with
  |true=>refine kB ?_;rw[h,←(rfEq_i he).2.1];simp
  |false=>exact h
theorem iteBE_ok {x:Nat}{op:Opn}{c a b:Rf}(hop:fact T ⟨x,op,[c,a,b]⟩)(h:B T x=true↔((bR T c=true∧bR T a=true)∨(¬bR T c=true∧bR T b=true))):SEok T x (iteBE op c a b):=by
 unfold iteBE
 split
 ·refine kB ?_;rw[h,bR_c];simp
 ·refine kB ?_;rw[h,bR_c];simp
 ·refine orE_ok ?_;rw[h,bR_c];cases bR T c<;>simp
 ·cases hn:negOk c with
  |true=>refine andE_ok ?_;rw[h,bR_c,negR_ok hn];cases bR T c<;>simp
  |false=>exact hop
 ·refine andE_ok ?_;rw[h,bR_c];cases bR T c<;>simp
 ·cases hn:negOk c with
  |true=>refine orE_ok ?_;rw[h,bR_c,negR_ok hn];cases bR T c<;>simp
  |false=>exact hop
 ·cases he:rfEq a b with
  |true=>refine kB ?_;rw[h,←(rfEq_i he).2.1];cases bR T c<;>simp
  |false=>exact hop
theorem eqbE_ok {x:Nat}{a b:Rf}(h:B T x=true↔(bR T a=true↔bR T b=true)):SEok T x (eqbE a b):=by
 unfold eqbE
 split
 ·rename_i k
  cases k with
  |true=>refine kB ?_;rw[h,bR_c];simp
  |false=>
   show SEok T x (bif negOk b then _ else _)
   cases hn:negOk b with
   |true=>refine kB ?_;rw[h,bR_c,negR_ok hn];cases bR T b<;>simp
   |false=>exact h
 ·rename_i hne
  clear hne
  split
  ·rename_i k
   cases k with
   |true=>refine kB ?_;rw[h,bR_c];simp
   |false=>
    show SEok T x (bif negOk a then _ else _)
    cases hn:negOk a with
    |true=>refine kB ?_;rw[h,bR_c,negR_ok hn];cases bR T a<;>simp
    |false=>exact h
  ·cases he:rfEq a b with
   |true=>refine kB ?_;rw[h,bR_c,←(rfEq_i he).2.1];simp
   |false=>exact h
theorem nebE_ok {x:Nat}{a b:Rf}(h:B T x=true↔¬(bR T a=true↔bR T b=true)):SEok T x (nebE a b):=by
 unfold nebE
 split
 ·rename_i k
  cases k with
  |false=>refine kB ?_;rw[h,bR_c];simp
  |true=>
   show SEok T x (bif negOk b then _ else _)
   cases hn:negOk b with
   |true=>refine kB ?_;rw[h,bR_c,negR_ok hn];cases bR T b<;>simp
   |false=>exact h
 ·rename_i hne
  clear hne
  split
  ·rename_i k
   cases k with
   |false=>refine kB ?_;rw[h,bR_c];simp
   |true=>
    show SEok T x (bif negOk a then _ else _)
    cases hn:negOk a with
    |true=>refine kB ?_;rw[h,bR_c,negR_ok hn];cases bR T a<;>simp
    |false=>exact h
  ·cases he:rfEq a b with
   |true=>refine kB ?_;rw[h,bR_c,←(rfEq_i he).2.1];simp
   |false=>exact h
def cmpP (T:Tab):Ty→Rf→Rf→Prop
 | .i,a,b=>iR T a=iR T b
 | .b,a,b=>bR T a=true↔bR T b=true
 |_,_,_=>False
theorem pairK_ok {t:Ty}{a b:Rf}{k:Bool}(h:pairK t a b=some k):cmpP T t a b↔k=true:=by
 unfold pairK at h
 split at h
 ·injection h with h;rw[←h];show _=_↔_;rw[iR_c,iR_c];simp
 ·injection h with h;rw[←h];rename_i m n;show (_↔_)↔_;rw[bR_c,bR_c];cases m<;>cases n<;>simp
 ·cases he:rfEq a b with
  |true=>rw[he] at h;cases h;have:=(rfEq_i (T:=T) he).1;simp[cmpP,this]
  |false=>rw[he] at h;cases h
 ·cases he:rfEq a b with
  |true=>rw[he] at h;cases h;have:=(rfEq_i (T:=T) he).2.1;simp[cmpP,this]
  |false=>rw[he] at h;cases h
 ·cases h
theorem cmpP_s {K:Knw}(hk:KOk T K){t:Ty}{a b:Rf}:cmpP T t (sR K t a) (sR K t b)↔cmpP T t a b:=by
 cases t with
 |i=>simp only[cmpP,sRi hk]
 |b=>simp only[cmpP,sRb hk]
 |l=>exact Iff.rfl
 |r c=>exact Iff.rfl
theorem eqsP_cons {t:Ty}{ts:List Ty}{a b:Rf}{r:List Rf}(ht:eqTy t=true):eqsP T (t::ts) (a::b::r)↔(cmpP T t a b∧eqsP T ts r):=by
 cases t with
 |i=>exact Iff.rfl
 |b=>exact Iff.rfl
 |l=>cases ht
 |r c=>cases ht
theorem sEqs_ok {K:Knw}(hk:KOk T K):∀{ts:List Ty} {rs:List Rf},(match sEqs K ts rs with|none=>¬eqsP T ts rs|some (ts',rs')=>(eqsP T ts rs↔eqsP T ts' rs'))
 |[],_=>by simp[sEqs]
 |_::_,[]=>by simp[sEqs]
 |_::_,[_]=>by simp[sEqs]
 |t::ts,a::b::r=>by
  have ih:=sEqs_ok hk (ts:=ts) (rs:=r)
  by_cases ht:eqTy t=true
  ·rw[eqsP_cons ht,←cmpP_s hk]
   simp only[sEqs,ht,cond_true]
   cases hp:pairK t (sR K t a) (sR K t b) with
   |none=>
    simp only
    cases hs:sEqs K ts r with
    |none=>rw[hs] at ih;simp only[Option.map_none];exact fun h=>ih h.2
    |some p=>
     obtain⟨ts',rs'⟩:=p
     rw[hs] at ih
     simp only[Option.map_some]
     rw[eqsP_cons ht]
     exact and_congr_right fun _=>ih
   |some k=>
    have hc:=pairK_ok (T:=T) hp
    cases k with
    |true=>
     simp only
     have hc':=hc.2 rfl
     cases hs:sEqs K ts r with
     |none=>rw[hs] at ih;exact fun h=>ih h.2
     |some p=>
      obtain⟨ts',rs'⟩:=p
      rw[hs] at ih
      simp only[hc',true_and]
      exact ih
    |false=>
     simp only
     exact fun h=>absurd (hc.1 h.1) (by simp)
  ·have ht':eqTy t=false:=by simpa using ht
   simp only[sEqs,ht',cond_false]
theorem pickE_i {K:Knw}(hk:KOk T K):∀{l:List Rf} {n:Int},pickI T l n=match pickE K .i l n with|some r=>iR T r|none=>0
 |[],_=>rfl
 |a::l,n=>by
  simp only[pickI,pickE]
  split
  ·simp only[sRi hk]
  ·exact pickE_i hk
theorem pickE_b {K:Knw}(hk:KOk T K):∀{l:List Rf} {n:Int},pickB T l n↔match pickE K .b l n with|some r=>bR T r=true|none=>False
 |[],_=>Iff.rfl
 |a::l,n=>by
  simp only[pickB]
  by_cases h:n≤0
  ·have e:pickE K .b (a::l) n=some (sR K .b a):=by simp only[pickE,if_pos h]
   rw[e]
   simp only[sRb hk]
   simp[h]
  ·have e:pickE K .b (a::l) n=pickE K .b l (n - 1):=by simp only[pickE,if_neg h]
   rw[e,←pickE_b hk]
   simp[h]
theorem pickI_s {K:Knw}(hk:KOk T K):∀{l:List Rf} {n:Int},pickI T (l.map (sR K .i)) n=pickI T l n
 |[],_=>rfl
 |a::l,n=>by simp only[List.map_cons,pickI,sRi hk,pickI_s hk]
theorem pickB_s {K:Knw}(hk:KOk T K):∀{l:List Rf} {n:Int},pickB T (l.map (sR K .b)) n↔pickB T l n
 |[],_=>Iff.rfl
 |a::l,n=>by simp only[List.map_cons,pickB,sRb hk,pickB_s hk]
theorem cmpE_ok {x:Nat}{op:Opn}{f:Int→Int→Bool}{P:Int→Int→Prop}{refl:Bool}{a b:Rf}(hf:∀m n,f m n=true↔P m n)(hr:∀m,P m m↔refl=true)(hop:fact T ⟨x,op,[a,b]⟩)(h:B T x=true↔P (iR T a) (iR T b)):SEok T x (cmpE op f refl a b):=by
 unfold cmpE
 split
 ·refine kB ?_;rw[h,iR_c,iR_c,bR_c,hf]
 ·cases he:rfEq a b with
  |true=>refine kB ?_;rw[h,(rfEq_i he).1,bR_c,hr]
  |false=>exact hop
theorem sEn_ok {K:Knw}(hk:KOk T K){x:Nat}{op:Opn}{rs:List Rf}(h:fact T ⟨x,op,rs⟩):SEok T x (sEn K op rs):=by
 unfold sEn
 split
 ·
  rename_i t a
  cases t with
  |i=>show I T x=_;rw[sRi hk];exact h
  |b=>refine kB ?_;rw[sRb hk];exact h
  |l=>show L T x=_;rw[sRl hk];exact h
  |r c=>exact trivial
 ·
  rename_i a
  have h':B T x=true↔¬bR T a=true:=h
  simp only
  cases hn:negOk (sR K .b a) with
  |true=>refine kB ?_;rw[negR_ok hn,sRb hk,h'];simp
  |false=>show B T x=true↔_;rw[sRb hk];exact h
 ·refine andE_ok ?_;rw[sRb hk,sRb hk];exact h
 ·refine orE_ok ?_;rw[sRb hk,sRb hk];exact h
 ·refine cmpE_ok (P:=fun m n=>m < n) (by simp) (by simp) (show B T x=true↔_ by rw[sRi hk,sRi hk];exact h) ?_;rw[sRi hk,sRi hk];exact h
 ·refine cmpE_ok (P:=fun m n=>m≤n) (by simp) (by simp) (show B T x=true↔_ by rw[sRi hk,sRi hk];exact h) ?_;rw[sRi hk,sRi hk];exact h
 ·refine cmpE_ok (P:=fun m n=>m=n) (by simp) (by simp) (show B T x=true↔_ by rw[sRi hk,sRi hk];exact h) ?_;rw[sRi hk,sRi hk];exact h
 ·refine cmpE_ok (P:=fun m n=>¬m=n) (by simp) (by simp) (show B T x=true↔_ by rw[sRi hk,sRi hk];exact h) ?_;rw[sRi hk,sRi hk];exact h
 ·
  rename_i ts
  have h':B T x=true↔eqsP T ts rs:=h
  have:=sEqs_ok hk (ts:=ts) (rs:=rs)
  split<;>rename_i he<;>rw[he] at this
  ·refine kB ?_;rw[h',bR_c];simp[this]
  ·refine kB ?_;rw[h',bR_c];simp only[this];simp[eqsP]
  ·show B T x=true↔_;rw[h'];exact this
 ·
  rename_i ts
  have h':B T x=true↔¬eqsP T ts rs:=h
  have:=sEqs_ok hk (ts:=ts) (rs:=rs)
  split<;>rename_i he<;>rw[he] at this
  ·refine kB ?_;rw[h',bR_c];simp[this]
  ·refine kB ?_;rw[h',bR_c];simp only[this];simp[eqsP]
  ·show B T x=true↔_;rw[h'];exact not_congr this
 ·refine eqbE_ok ?_;rw[sRb hk,sRb hk];exact h
 ·refine nebE_ok ?_;rw[sRb hk,sRb hk];exact h
 ·
  rename_i c a b
  have h':I T x=if bR T c=true then iR T a else iR T b:=h
  rw[←sRb hk,←sRi hk a,←sRi hk b] at h'
  split
  ·rename_i e;rw[e,bR_c,if_pos rfl] at h';exact h'
  ·rename_i e;rw[e,bR_c,if_neg (by decide)] at h';exact h'
  ·cases he:rfEq (sR K .i a) (sR K .i b) with
   |true=>show I T x=_;rw[h',(rfEq_i (T:=T) he).1];simp
   |false=>exact h'
 ·
  rename_i c a b
  have h':L T x=if bR T c=true then lR T a else lR T b:=h
  rw[←sRb hk,←sRl hk a,←sRl hk b] at h'
  split
  ·rename_i e;rw[e,bR_c,if_pos rfl] at h';exact h'
  ·rename_i e;rw[e,bR_c,if_neg (by decide)] at h';exact h'
  ·cases he:rfEq (sR K .l a) (sR K .l b) with
   |true=>show L T x=_;rw[h',(rfEq_i (T:=T) he).2.2];simp
   |false=>exact h'
 ·refine iteBE_ok (show B T x=true↔_ by rw[sRb hk,sRb hk,sRb hk];exact h) ?_;rw[sRb hk,sRb hk,sRb hk];exact h
 ·refine iteBE_ok (show B T x=true↔_ by rw[sRb hk,sRb hk,sRb hk];exact h) ?_;rw[sRb hk,sRb hk,sRb hk];exact h
 ·
  rename_i o a b
  have h':op2P o (I T x) (iR T a) (iR T b):=h
  rw[←sRi hk a,←sRi hk b] at h'
  split
  ·rename_i e1 e2
   rw[e1,e2,iR_c,iR_c] at h'
   show I T x=_
   rw[iR_c]
   cases o<;>exact h'
  ·exact h'
 ·
  rename_i o a b
  have h':w2P .i64 o (I T x) (iR T a) (iR T b):=h
  rw[←sRi hk a,←sRi hk b] at h'
  split
  ·rename_i m n e1 e2
   rw[e1,e2] at h'
   cases hc:(decide (-9223372036854775808≤m+n)&&decide (m+n≤9223372036854775807)) with
   |true=>
    rw[Bool.and_eq_true,decide_eq_true_eq,decide_eq_true_eq] at hc
    show I T x=_
    rw[iR_c]
    exact h' hc.1 hc.2
   |false=>exact h'
  ·rename_i m n e1 e2
   rw[e1,e2] at h'
   cases hc:(decide (-9223372036854775808≤m - n)&&decide (m - n≤9223372036854775807)) with
   |true=>
    rw[Bool.and_eq_true,decide_eq_true_eq,decide_eq_true_eq] at hc
    show I T x=_
    rw[iR_c]
    exact h' hc.1 hc.2
   |false=>exact h'
  ·exact h'
 ·
  rename_i a
  have h':I T x= -iR T a:=h
  rw[←sRi hk a] at h'
  split
  ·rename_i e;rw[e,iR_c] at h';exact h'
  ·exact h'
 ·
  rename_i a
  have h':I T x=(lR T a).length:=h
  rw[←sRl hk a] at h'
  split
  ·rename_i e;rw[e,lR_c] at h';exact h'
  ·exact h'
 ·
  rename_i a b
  have h':L T x=lR T a++lR T b:=h
  rw[←sRl hk a,←sRl hk b] at h'
  split
  ·rename_i e;rw[e,lR_c] at h';exact h'
  ·rename_i e _;rw[e,lR_c,List.append_nil] at h';exact h'
  ·exact h'
 ·rename_i c a b
  show I T x=cellI _ _ _
  rw[sRl hk,sRi hk];exact h
 ·rename_i c a b
  show B T x=cellB _ _ _
  rw[sRl hk,sRi hk];exact h
 ·rename_i c a b
  show L T x=cellL _ _ _
  rw[sRl hk,sRi hk];exact h
 ·
  rename_i a r
  have h':I T x=pickI T r (iR T a):=h
  rw[←sRi hk a] at h'
  split
  ·rename_i n e
   rw[e,iR_c,pickE_i hk] at h'
   split<;>rename_i e2<;>rw[e2] at h'<;>exact h'
  ·show I T x=pickI T _ _
   rw[pickI_s hk];exact h'
 ·rename_i a r
  have h':B T x=true↔pickB T r (iR T a):=h
  rw[←sRi hk a] at h'
  split
  ·rename_i n e
   rw[e,iR_c,pickE_b hk] at h'
   split<;>rename_i e2<;>rw[e2] at h'
   ·exact kB h'
   ·refine kB ?_;rw[h',bR_c];simp
  ·show B T x=true↔pickB T _ _
   rw[pickB_s hk];exact h'
 ·exact h
theorem red_ok:∀{es:List En} {K:Knw},KOk T K→Facts T es→KOk T (red K es).1∧Facts T (red K es).2
 |[],_,hk,_=>⟨hk,trivial⟩
 |e::es,K,hk,h=>by
  simp only[red]
  cases ha:K.any (fun p=>Nat.beq p.1 e.x) with
  |true=>exact red_ok hk h.2
  |false=>
   have h1:=sEn_ok hk (x:=e.x) (op:=e.op) (rs:=e.rs) h.1
   simp only[cond_false]
   cases hs:sEn K e.op e.rs with
   |k t r=>rw[hs] at h1;exact red_ok (K:=(e.x,t,r)::K) ⟨h1,hk⟩ h.2
   |q op rs=>
    rw[hs] at h1
    have ih:=red_ok hk h.2
    exact⟨ih.1,h1,ih.2⟩
end
end Go.Eng
namespace Go.Eng
open Go
def rfRefs:List Rf→List Nat
 |[]=>[]
 | .e x::r=>x::rfRefs r
 | .n x::r=>x::rfRefs r
 | .c _::r=>rfRefs r
def coneE:List En→List Nat→List En→List En
 |[],_,acc=>acc
 |e::r,need,acc=>bif need.any (Nat.beq e.x) then coneE r (rfRefs e.rs++need) (e::acc) else coneE r need acc
def redo (K:Knw)(es:List En)(outs:List (Nat × Ty)):List Rf × List En:=
 let p:=red K es
 let os:=outs.map fun o=>sR p.1 o.2 (.e o.1)
 (os,coneE p.2.reverse (rfRefs os) [])
def OutOk (T:Tab):List (Nat × Ty)→List Rf→Prop
 |(x,t)::l,r::rs=>kOk1 T (x,t,r)∧OutOk T l rs
 |_,_=>True
section
variable {T:Tab}
theorem facts_mem:∀{l:List En},Facts T l↔∀e∈l,fact T e
 |[]=>⟨fun _ _ h=>(by cases h),fun _=>trivial⟩
 |e::l=>by
  rw[List.forall_mem_cons,←facts_mem (l:=l)];exact Iff.rfl
theorem coneE_ok:∀{l:List En} {need:List Nat} {acc:List En},(∀e∈l,fact T e)→(∀e∈acc,fact T e)→∀e∈coneE l need acc,fact T e
 |[],_,_,_,h=>h
 |e::l,need,acc,h1,h2=>by
  simp only[coneE]
  rw[List.forall_mem_cons] at h1
  cases need.any (Nat.beq e.x) with
  |true=>exact coneE_ok h1.2 (List.forall_mem_cons.2 ⟨h1.1,h2⟩)
  |false=>exact coneE_ok h1.2 h2
theorem outOk_s {K:Knw}(hk:KOk T K):∀{outs:List (Nat × Ty)},OutOk T outs (outs.map fun o=>sR K o.2 (.e o.1))
 |[]=>trivial
 |(x,t)::l=>by
  refine⟨?_,outOk_s hk⟩
  cases t with
  |i=>exact (sRi hk (.e x)).symm
  |b=>exact (sRb hk (.e x)).symm
  |l=>exact (sRl hk (.e x)).symm
  |r c=>exact trivial
theorem redo_to {K:Knw}{es es':List En}{outs:List (Nat × Ty)}{os:List Rf}(hk:KOk T K)(h:Facts T es)(hr:redo K es outs=(os,es')):OutOk T outs os∧Facts T es':=by
 have h1:=red_ok hk h
 unfold redo at hr
 injection hr with h2 h3
 subst h2;subst h3
 exact⟨outOk_s h1.1,facts_mem.2 (coneE_ok (fun e he=>facts_mem.1 h1.2 e (List.mem_reverse.1 he)) (fun e he=>by cases he))⟩
end
end Go.Eng
end
section
namespace Go.Eng
def hoopsS (c:Int):Int:=if c=2 then 6 else 12
def liftaS (c:Int):Int:=if c=1 then 7 else 0
def liftbS (c:Int):Int:=if c=1 then 10 else 0
def peelsS (c:Int):Bool:= !decide (c=3)
def bisqS (c:Int):Bool:= !decide (c=1)&& !decide (c=3)
def partS (c:Int):Bool:=decide (c=3)
def halvesS (c h0 h1:Int):Bool:=decide (0≤h0)&&decide (h0≤40)&&decide (0≤h1)&&decide (h1≤40)&&(bisqS c||(decide (h0=0)&&decide (h1=0)))
structure Gm where
 code:Int
 phase:Int
 side:Int
 ball:Int
 taken:Int
 p0:Int
 p1:Int
 p2:Int
 p3:Int
 n0:Bool
 n1:Bool
 n2:Bool
 n3:Bool
 d0:Bool
 d1:Bool
 d2:Bool
 d3:Bool
 h0:Int
 h1:Int
 l0:Bool
 l1:Bool
 half:Bool
 turns:Int
 began:Int
 lastb:Int
 winner:Int
def ballS (hoops p:Int)(n d:Bool):Bool:=
 (decide (p=13)&& !n&& !d)||(!decide (p=13)&&decide (0≤p)&&decide (p≤hoops)&&(n||(decide (p=0)&& !d)))
def numbersS (g:Gm):Bool:=
 decide (0≤g.code)&&decide (g.code≤3)&&decide (0≤g.phase)&&decide (g.phase≤4)&&decide (0≤g.side)&&decide (g.side≤1)&&decide (0≤g.turns)&&decide (g.turns≤1073741824)&&halvesS g.code g.h0 g.h1&&
  ballS (hoopsS g.code) g.p0 g.n0 g.d0&&ballS (hoopsS g.code) g.p1 g.n1 g.d1&&ballS (hoopsS g.code) g.p2 g.n2 g.d2&&ballS (hoopsS g.code) g.p3 g.n3 g.d3&&(decide (g.code=1)||(!g.l0&& !g.l1))
end Go.Eng
namespace Go.Eng
def wonaS (g:Gm):Bool:=decide (g.p0=13)&&decide (g.p2=13)
def wonbS (g:Gm):Bool:=decide (g.p1=13)&&decide (g.p3=13)
def turnS (g:Gm):Bool:=decide (g.phase=1)||decide (g.phase=2)||decide (g.phase=3)
def bit (b:Bool):Int:=if b=true then 1 else 0
def comeS (n n':Bool)(p p':Int):Int:=bit (n||decide (p=13))+bit (n'||decide (p'=13))
def firstS (t:Int):Int:=if t≤4 then t else 4
def oneB (b:Int)(x y z u:Bool):Bool:=(decide (b=0)&&x)||(decide (b=1)&&y)||(decide (b=2)&&z)||(decide (b=3)&&u)
def oneI (b x y z u:Int):Int:=if b=0 then x else if b=1 then y else if b=2 then z else u
def inS (g:Gm)(b:Int):Bool:=oneB b g.n0 g.n1 g.n2 g.n3
def deadS (g:Gm)(b:Int):Bool:=oneB b g.d0 g.d1 g.d2 g.d3
def pointsS (g:Gm)(b:Int):Int:=oneI b g.p0 g.p1 g.p2 g.p3
def restsS (g:Gm):Bool:=
 decide (g.ball= -1)&&decide (g.taken= -1)&& !g.d0&& !g.d1&& !g.d2&& !g.d3&& !g.half&&decide (g.began=0)&&
  (decide (g.lastb= -1)||(decide (g.phase=0)&&bisqS g.code&&decide (4≤g.turns)&&inS g g.lastb&& !decide (g.lastb % 2=g.side)))
def turnsS (g:Gm):Bool:=
 inS g g.ball&&decide (g.ball % 2=g.side)&& !deadS g g.ball&&decide (0≤g.began)&&decide (g.began≤pointsS g g.ball)&&decide (g.lastb= -1)&&(!g.half||bisqS g.code)&&
  ((decide (g.phase=2)&&inS g g.taken&& !decide (g.taken=g.ball)&& !deadS g g.taken)||(!decide (g.phase=2)&&decide (g.taken= -1)))
def casesS (g:Gm):Bool:=
 decide (comeS g.n0 g.n2 g.p0 g.p2=(firstS g.turns+1) / 2)&&decide (comeS g.n1 g.n3 g.p1 g.p3=firstS g.turns / 2)&& !(wonaS g&&wonbS g)&&
  ((wonaS g&&decide (g.phase=4)&&decide (g.winner=0))||(wonbS g&&decide (g.phase=4)&&decide (g.winner=1))||(!wonaS g&& !wonbS g&& !decide (g.phase=4)&&decide (g.winner= -1)))
def sidesS (g:Gm):Bool:=
 (bisqS g.code&&decide (4≤g.turns))||((!turnS g||decide (g.side=(g.turns+1) % 2))&&(!decide (g.phase=0)||decide (g.side=g.turns % 2)))
def legalS (g:Gm):Bool:=numbersS g&&casesS g&&sidesS g&&((turnS g&&turnsS g)||(!turnS g&&restsS g))
end Go.Eng
namespace Go.Eng
theorem numbersS_le {g:Gm}(h:numbersS g=true):0≤g.code∧g.code≤3∧0≤g.phase∧g.phase≤4∧0≤g.side∧g.side≤1∧0≤g.turns∧g.turns≤1073741824:=by
 simp only[numbersS,Bool.and_eq_true,decide_eq_true_eq] at h
 simp only[h,and_self]
end Go.Eng
namespace Go.Eng
def mvU (k b:Int)(l:Bool):List U:=[.int k,.int b,.bool l,.list []]
def liftS (g:Gm)(s:Int):Bool:=(decide (s=0)&&g.l0)||(decide (s=1)&&g.l1)
def halfS (g:Gm)(s:Int):Int:=if s=0 then g.h0 else g.h1
def mayS (g:Gm)(b:Int):Bool:=(decide (g.turns < 4)&& !inS g b&& !decide (pointsS g b=13))||(decide (4≤g.turns)&&inS g b)
def chooseS (g:Gm)(b:Int):List (List U):=
 if mayS g b=true then (if inS g b=true∧liftS g g.side=true then [mvU 1 b false,mvU 1 b true] else [mvU 1 b false]) else []
def passS (g:Gm):List (List U):=if 4≤g.turns then [mvU 3 0 false] else []
def bisquesS (g:Gm):List (List U):=if¬g.lastb= -1∧2≤halfS g (g.lastb % 2) then [mvU 4 g.lastb false] else []
def halvesMS (g:Gm):List (List U):=if¬g.lastb= -1∧1≤halfS g (g.lastb % 2) then [mvU 5 g.lastb false] else []
def movesS (g:Gm):List (List U):=
 if turnS g=true then [mvU 2 0 false,mvU 3 0 false] else if g.phase=4 then [] else
 chooseS g g.side++chooseS g (g.side+2)++passS g++bisquesS g++halvesMS g
theorem legalS_facts {g:Gm}(h:legalS g=true):numbersS g=true∧(g.lastb= -1∨(0≤g.lastb∧g.lastb≤3))∧(turnS g=true→0≤g.ball∧g.ball≤3)∧(g.phase=2→0≤g.taken∧g.taken≤3)∧(turnS g=false→g.ball= -1):=by
 simp only[legalS,restsS,turnsS,inS,oneB,turnS,Bool.and_eq_true,Bool.or_eq_true,Bool.not_eq_true',decide_eq_true_eq,decide_eq_false_iff_not] at h⊢
 grind
end Go.Eng
namespace Go.Eng
def okEv (g:Gm)(n i k b:Int):Prop:=1≤k∧k≤5∧(k=5→¬i+1 < n)∧(¬k=5→inS g b=true∧¬(k=1∧b=g.ball))
def okEvs (g:Gm)(l:List (List U))(i:Int):Prop:=∀j:Nat,(j:Int) < i→okEv g l.length j (cellI l j 0) (cellI l j 1)
instance (g:Gm)(n i k b:Int):Decidable (okEv g n i k b):=by unfold okEv;infer_instance
def eventsS (g:Gm)(l:List (List U)):Bool:=(List.range l.length).all fun j=>decide (okEv g l.length j (cellI l j 0) (cellI l j 1))
theorem eventsS_iff {g:Gm}{l:List (List U)}:eventsS g l=true↔okEvs g l l.length:=by
 simp only[eventsS,okEvs,List.all_eq_true,List.mem_range,decide_eq_true_eq,Int.ofNat_lt]
end Go.Eng
namespace Go.Eng
def followS (t:Int):Int:=if t=1073741824 then 1073741823 else t+1
def gainS (g:Gm):Bool:= !decide (g.ball= -1)&&((decide (0 < liftaS g.code)&&decide (g.began < liftaS g.code)&&decide (liftaS g.code≤pointsS g g.ball))||(decide (0 < liftbS g.code)&&decide (g.began < liftbS g.code)&&decide (liftbS g.code≤pointsS g g.ball)))
def lastS (g:Gm):Int:=if g.ball= -1 then -1 else if bisqS g.code=true∧inS g g.ball=true∧4≤g.turns then g.ball else -1
def endS (g:Gm):Gm:=
 {g with phase:=0,side:=1 - g.side,ball:= -1,taken:= -1,d0:=false,d1:=false,d2:=false,d3:=false,l0:=g.l0||(gainS g&&decide (g.side=1)),l1:=g.l1||(gainS g&&decide (g.side=0)),half:=false,began:=0,lastb:=lastS g }
def beginS (g:Gm)(b:Int):Gm:=
 {g with phase:=1,side:=b % 2,ball:=b,taken:= -1,n0:=g.n0||decide (b=0),n1:=g.n1||decide (b=1),n2:=g.n2||decide (b=2),n3:=g.n3||decide (b=3),d0:=false,d1:=false,d2:=false,d3:=false,half:=false,turns:=followS g.turns,began:=pointsS g b,lastb:= -1 }
structure St where
 over:Bool
 run:Bool
 roquet:Int
 gone:Bool
 p0:Int
 p1:Int
 p2:Int
 p3:Int
 n0:Bool
 n1:Bool
 n2:Bool
 n3:Bool
 d0:Bool
 d1:Bool
 d2:Bool
 d3:Bool
def croqS (g:Gm):Int:=if g.phase=2 then g.taken else -1
def nothingS (g:Gm)(b:Int):Bool:=g.half&&decide (b % 2=g.side)
def sPts (s:St)(b:Int):Int:=oneI b s.p0 s.p1 s.p2 s.p3
def sIn (s:St)(b:Int):Bool:=oneB b s.n0 s.n1 s.n2 s.n3
def sDead (s:St)(b:Int):Bool:=oneB b s.d0 s.d1 s.d2 s.d3
def sWon (s:St):Bool:=(decide (s.p0=13)&&decide (s.p2=13))||(decide (s.p1=13)&&decide (s.p3=13))
def actS (s:St)(b:Int):Bool:=sIn s b&& !sWon s
def hitS (g:Gm)(s:St)(k b:Int):Bool:=actS s b&&decide (k=1)&&decide (s.roquet= -1)&& !s.gone&&sIn s g.ball&& !sDead s b
def ownS (g:Gm)(s:St)(k b:Int):Bool:=actS s b&&decide (k=2)&& !decide (sPts s b=hoopsS g.code)&& !nothingS g b&&decide (b=g.ball)&&decide (s.roquet= -1)
def peelS (g:Gm)(s:St)(k b:Int):Bool:=actS s b&&decide (k=2)&& !decide (sPts s b=hoopsS g.code)&& !nothingS g b&& !decide (b=g.ball)&&peelsS g.code
def other (b:Int):Int:=if b=0 then 2 else if b=1 then 3 else if b=2 then 0 else 1
def pegS (g:Gm)(s:St)(k b:Int):Bool:=
 actS s b&&decide (k=3)&&decide (sPts s b=hoopsS g.code)&& !nothingS g b&& !(partS g.code&& !decide (sPts s (other b)=hoopsS g.code)&& !decide (sPts s (other b)=13))&& !(decide (b=g.ball)&& !decide (s.roquet= -1))&& !(!decide (b=g.ball)&& !decide (sPts s g.ball=hoopsS g.code))
def offS (g:Gm)(s:St)(k b:Int):Bool:=actS s b&&decide (k=4)&& !decide (croqS g= -1)&&(decide (b=croqS g)||(decide (b=g.ball)&&decide (s.roquet= -1)&& !s.run))
def stepS (g:Gm)(s:St)(k b:Int):St:=
 {over:=s.over||offS g s k b
  run:=s.run||ownS g s k b||(pegS g s k b&&decide (b=s.roquet))
  roquet:=if hitS g s k b=true then b else if pegS g s k b=true∧b=s.roquet then -1 else s.roquet
  gone:=s.gone||(pegS g s k b&&decide (b=s.roquet))
  p0:=if b=0 then (if ownS g s k b=true∨peelS g s k b=true then s.p0+1 else if pegS g s k b=true then 13 else s.p0) else s.p0
  p1:=if b=1 then (if ownS g s k b=true∨peelS g s k b=true then s.p1+1 else if pegS g s k b=true then 13 else s.p1) else s.p1
  p2:=if b=2 then (if ownS g s k b=true∨peelS g s k b=true then s.p2+1 else if pegS g s k b=true then 13 else s.p2) else s.p2
  p3:=if b=3 then (if ownS g s k b=true∨peelS g s k b=true then s.p3+1 else if pegS g s k b=true then 13 else s.p3) else s.p3
  n0:=s.n0&& !(pegS g s k b&&decide (b=0))
  n1:=s.n1&& !(pegS g s k b&&decide (b=1))
  n2:=s.n2&& !(pegS g s k b&&decide (b=2))
  n3:=s.n3&& !(pegS g s k b&&decide (b=3))
  d0:=s.d0&& !ownS g s k b&& !(pegS g s k b&&decide (b=0))
  d1:=s.d1&& !ownS g s k b&& !(pegS g s k b&&decide (b=1))
  d2:=s.d2&& !ownS g s k b&& !(pegS g s k b&&decide (b=2))
  d3:=s.d3&& !ownS g s k b&& !(pegS g s k b&&decide (b=3)) }
def startS (g:Gm):St:=
 {over:=false,run:=false,roquet:= -1,gone:=false,p0:=g.p0,p1:=g.p1,p2:=g.p2,p3:=g.p3,n0:=g.n0,n1:=g.n1,n2:=g.n2,n3:=g.n3,
  d0:=g.d0||decide (croqS g=0),d1:=g.d1||decide (croqS g=1),d2:=g.d2||decide (croqS g=2),d3:=g.d3||decide (croqS g=3) }
def iterS (g:Gm)(l:List (List U)):Nat→St
 |0=>startS g
 |n+1=>stepS g (iterS g l n) (cellI l n 0) (cellI l n 1)
def putS (g:Gm)(s:St):Gm:={ g with p0:=s.p0,p1:=s.p1,p2:=s.p2,p3:=s.p3,n0:=s.n0,n1:=s.n1,n2:=s.n2,n3:=s.n3,d0:=s.d0,d1:=s.d1,d2:=s.d2,d3:=s.d3 }
def finS (g:Gm)(s:St):Gm:=
 if sWon s=true then { putS g s with phase:=4,winner:=if s.p0=13∧s.p2=13 then 0 else 1,ball:= -1,taken:= -1,d0:=false,d1:=false,d2:=false,d3:=false,half:=false,began:=0,lastb:= -1 }
 else if s.over=true∨¬sIn s g.ball=true then endS (putS g s)
 else if¬s.roquet= -1 then { putS g s with taken:=s.roquet,phase:=2 }
 else if¬s.run=true∧croqS g= -1 then endS (putS g s)
 else { putS g s with taken:= -1,phase:=3 }
def faultS (l:List (List U)):Bool:=decide (0 < l.length)&&decide (cellI l (l.length - 1) 0=5)
def strokeS (g:Gm)(l:List (List U)):Gm:=if faultS l=true then endS g else finS g (iterS g l l.length)
end Go.Eng
namespace Go.Eng
def gAt (k:Nat)(us:List U):Gm:=
 ⟨aI us k,aI us (k+1),aI us (k+2),aI us (k+3),aI us (k+4),aI us (k+5),aI us (k+6),aI us (k+7),aI us (k+8),aB us (k+9),aB us (k+10),aB us (k+11),aB us (k+12),aB us (k+13),aB us (k+14),aB us (k+15),aB us (k+16),aI us (k+17),aI us (k+18),aB us (k+19),aB us (k+20),aB us (k+21),aI us (k+22),aI us (k+23),aI us (k+24),aI us (k+25)⟩
theorem gAt_eq {k:Nat}{us:List U}{c0 c1 c2 c3 c4 c5 c6 c7 c8:Int}{c9 c10 c11 c12 c13 c14 c15 c16:Bool}{c17 c18:Int}{c19 c20 c21:Bool}{c22 c23 c24 c25:Int}
  (h0:aI us k=c0) (h1:aI us (k+1)=c1) (h2:aI us (k+2)=c2) (h3:aI us (k+3)=c3) (h4:aI us (k+4)=c4) (h5:aI us (k+5)=c5) (h6:aI us (k+6)=c6) (h7:aI us (k+7)=c7) (h8:aI us (k+8)=c8)
  (h9:aB us (k+9)=c9) (h10:aB us (k+10)=c10) (h11:aB us (k+11)=c11) (h12:aB us (k+12)=c12) (h13:aB us (k+13)=c13) (h14:aB us (k+14)=c14) (h15:aB us (k+15)=c15) (h16:aB us (k+16)=c16)
  (h17:aI us (k+17)=c17) (h18:aI us (k+18)=c18) (h19:aB us (k+19)=c19) (h20:aB us (k+20)=c20) (h21:aB us (k+21)=c21) (h22:aI us (k+22)=c22) (h23:aI us (k+23)=c23) (h24:aI us (k+24)=c24) (h25:aI us (k+25)=c25):
  gAt k us=⟨c0,c1,c2,c3,c4,c5,c6,c7,c8,c9,c10,c11,c12,c13,c14,c15,c16,c17,c18,c19,c20,c21,c22,c23,c24,c25⟩:=by
 unfold gAt;rw[h0,h1,h2,h3,h4,h5,h6,h7,h8,h9,h10,h11,h12,h13,h14,h15,h16,h17,h18,h19,h20,h21,h22,h23,h24,h25]
end Go.Eng
namespace Go.Eng
theorem legalS_pts {g:Gm}(h:legalS g=true):(0≤g.p0∧g.p0≤13)∧(0≤g.p1∧g.p1≤13)∧(0≤g.p2∧g.p2≤13)∧(0≤g.p3∧g.p3≤13):=by
 have h:=(legalS_facts h).1
 have hh:hoopsS g.code≤12:=by unfold hoopsS;split<;>omega
 simp only[numbersS,ballS,Bool.and_eq_true,Bool.or_eq_true,Bool.not_eq_true',decide_eq_true_eq,decide_eq_false_iff_not] at h
 grind
end Go.Eng
namespace Go.Eng
def liftOff (g:Gm):Gm:={ g with l0:=g.l0&& !decide (g.side=0),l1:=g.l1&& !decide (g.side=1) }
def spend (n:Int)(g:Gm):Gm:={ g with h0:=if g.side=0 then g.h0 - n else g.h0,h1:=if g.side=1 then g.h1 - n else g.h1 }
def passedS (g:Gm):Gm:={ g with turns:=if g.phase=0 then followS g.turns else g.turns }
def playS (g:Gm)(k b:Int)(l:List (List U)):Gm:=
 if k=1 then liftOff (beginS g b) else if k=2 then strokeS g l else if k=3 then endS (passedS g) else if k=4 then spend 2 (beginS g b) else { spend 1 (beginS g b) with half:=true }
def allowS (g:Gm)(k b:Int)(f:Bool):Bool:=(movesS g).any fun u=>decide ((u.getD 0 default).toI=k)&&decide ((u.getD 1 default).toI=b)&&((u.getD 2 default).toB==f)
def zeroS:Gm:=⟨0,0,0,0,0,0,0,0,0,false,false,false,false,false,false,false,false,0,0,false,false,false,0,0,0,0⟩
def errS (g:Gm)(k b:Int)(f:Bool)(l:List (List U)):Int:=
 if legalS g=false then 2 else if allowS g k b f=false then 10 else if 24 < l.length then 6 else if (¬k=2∧0 < l.length)∨eventsS g l=false then 21 else 0
def resS (g:Gm)(k b:Int)(f:Bool)(l:List (List U)):Gm:=if errS g k b f l=0 then playS g k b l else zeroS
end Go.Eng
namespace Go.Eng
theorem legalS_began {g:Gm}(h:legalS g=true):0≤g.began:=by
 simp only[legalS,restsS,turnsS,Bool.and_eq_true,Bool.or_eq_true,Bool.not_eq_true',decide_eq_true_eq,decide_eq_false_iff_not] at h
 grind
end Go.Eng
namespace Go.Eng
theorem gm_congr {acode bcode:Int}{aphase bphase:Int}{aside bside:Int}{aball bball:Int}{ataken btaken:Int}{ap0 bp0:Int}{ap1 bp1:Int}{ap2 bp2:Int}{ap3 bp3:Int}{an0 bn0:Bool}{an1 bn1:Bool}{an2 bn2:Bool}{an3 bn3:Bool}{ad0 bd0:Bool}{ad1 bd1:Bool}{ad2 bd2:Bool}{ad3 bd3:Bool}{ah0 bh0:Int}{ah1 bh1:Int}{al0 bl0:Bool}{al1 bl1:Bool}{ahalf bhalf:Bool}{aturns bturns:Int}{abegan bbegan:Int}{alastb blastb:Int}{awinner bwinner:Int}
  (hcode:acode=bcode) (hphase:aphase=bphase) (hside:aside=bside) (hball:aball=bball) (htaken:ataken=btaken) (hp0:ap0=bp0) (hp1:ap1=bp1) (hp2:ap2=bp2) (hp3:ap3=bp3) (hn0:an0=bn0) (hn1:an1=bn1) (hn2:an2=bn2) (hn3:an3=bn3) (hd0:ad0=bd0) (hd1:ad1=bd1) (hd2:ad2=bd2) (hd3:ad3=bd3) (hh0:ah0=bh0) (hh1:ah1=bh1) (hl0:al0=bl0) (hl1:al1=bl1) (hhalf:ahalf=bhalf) (hturns:aturns=bturns) (hbegan:abegan=bbegan) (hlastb:alastb=blastb) (hwinner:awinner=bwinner):
  Gm.mk acode aphase aside aball ataken ap0 ap1 ap2 ap3 an0 an1 an2 an3 ad0 ad1 ad2 ad3 ah0 ah1 al0 al1 ahalf aturns abegan alastb awinner=Gm.mk bcode bphase bside bball btaken bp0 bp1 bp2 bp3 bn0 bn1 bn2 bn3 bd0 bd1 bd2 bd3 bh0 bh1 bl0 bl1 bhalf bturns bbegan blastb bwinner:=by
 subst hcode hphase hside hball htaken hp0 hp1 hp2 hp3 hn0 hn1 hn2 hn3 hd0 hd1 hd2 hd3 hh0 hh1 hl0 hl1 hhalf hturns hbegan hlastb hwinner;rfl
end Go.Eng
end
section
namespace Go.Eng
open Go
theorem Facts.cut {T:Tab}{a b:List En}(h:Facts T (a++b)):Facts T a∧Facts T b:=⟨h.left,h.right⟩
theorem redo_outs {T:Tab}{K:Knw}{es:List En}{outs:List (Nat × Ty)}{os:List Rf}(hk:KOk T K)(h:Facts T es)(hr:(redo K es outs).1=os):OutOk T outs os:=
 (redo_to (es':=(redo K es outs).2) hk h (by rw[←hr])).1
theorem zN:(∀(T:Tab) (x:Nat),bR T (.n x)= !B T x)∧(∀b:Bool,((!b)=true)=(b=false))∧(∀b:Bool,(¬b=true)=(b=false)):=
 ⟨fun T x=>bR_n,fun b=>Bool.not_eq_true' b,fun b=>Bool.not_eq_true b⟩
theorem zC:(∀(T:Tab) (b:Bool),bR T (.c (.bool b))=b)∧((false=true)=False)∧(∀{α:Sort 1} (a:α),(a=a)=True)∧(∀p:Prop,(p∧True)=p)∧(∀p:Prop,(p∧False)=False)∧(∀p:Prop,(p∨False)=p)∧(∀p:Prop,(False∨p)=p)∧(∀p:Prop,(True∧p)=p)∧(∀p:Prop,(False∧p)=False):=
 ⟨fun T b=>bR_c,Bool.false_eq_true,fun a=>eq_self a,and_true,and_false,or_false,false_or,true_and,false_and⟩
theorem zB:(∀a b:Bool,((a&&b)=true)=(a=true∧b=true))∧(∀a b:Bool,((a||b)=true)=(a=true∨b=true))∧(∀b:Bool,(¬b=true)=(b=false))∧(∀b:Bool,((!b)=true)=(b=false))∧(∀a b:Bool,((!a)=b)=(a= !b))∧((!true)=false)∧((!false)=true)∧(∀(p:Prop) [Decidable p],(decide p=true)=p)∧(∀(p:Prop) [Decidable p],(decide p=false)=¬p):=
 ⟨fun a b=>Bool.and_eq_true a b,fun a b=>Bool.or_eq_true a b,fun b=>Bool.not_eq_true b,fun b=>Bool.not_eq_true' b,fun a b=>propext Bool.not_eq_eq_eq_not,Bool.not_true,Bool.not_false,fun p=>decide_eq_true_eq,fun p=>propext decide_eq_false_iff_not⟩
end Go.Eng
namespace Go.Eng
open Go
theorem gAt_in {T:Tab}{us:List U}{k n:Nat}(h:∀j u,us[j]? =some u→T j=u)(hl:us.length=n)(hk:k+26≤n):
  gAt k us=Gm.mk (I T k) (I T (k+1)) (I T (k+2)) (I T (k+3)) (I T (k+4)) (I T (k+5)) (I T (k+6)) (I T (k+7)) (I T (k+8)) (B T (k+9)) (B T (k+10)) (B T (k+11)) (B T (k+12)) (B T (k+13)) (B T (k+14)) (B T (k+15)) (B T (k+16)) (I T (k+17)) (I T (k+18)) (B T (k+19)) (B T (k+20)) (B T (k+21)) (I T (k+22)) (I T (k+23)) (I T (k+24)) (I T (k+25)):=
 gAt_eq (inI h hl (by omega)) (inI h hl (by omega)) (inI h hl (by omega)) (inI h hl (by omega)) (inI h hl (by omega)) (inI h hl (by omega)) (inI h hl (by omega)) (inI h hl (by omega)) (inI h hl (by omega))
  (inB h hl (by omega)) (inB h hl (by omega)) (inB h hl (by omega)) (inB h hl (by omega)) (inB h hl (by omega)) (inB h hl (by omega)) (inB h hl (by omega)) (inB h hl (by omega))
  (inI h hl (by omega)) (inI h hl (by omega)) (inB h hl (by omega)) (inB h hl (by omega)) (inB h hl (by omega)) (inI h hl (by omega)) (inI h hl (by omega)) (inI h hl (by omega)) (inI h hl (by omega))
theorem gm_lc {g:Gm}{c0 c1 c2 c3 c4 c5 c6 c7 c8:Int}{c9 c10 c11 c12 c13 c14 c15 c16:Bool}{c17 c18:Int}{c19 c20 c21:Bool}{c22 c23 c24 c25:Int}{l l':List U}
  (h:Gm.mk c0 c1 c2 c3 c4 c5 c6 c7 c8 c9 c10 c11 c12 c13 c14 c15 c16 c17 c18 c19 c20 c21 c22 c23 c24 c25=g) (hl:l=l'):
  U.int c0:: .int c1:: .int c2:: .int c3:: .int c4:: .int c5:: .int c6:: .int c7:: .int c8:: .bool c9:: .bool c10:: .bool c11:: .bool c12:: .bool c13:: .bool c14:: .bool c15:: .bool c16:: .int c17:: .int c18:: .bool c19:: .bool c20:: .bool c21:: .int c22:: .int c23:: .int c24:: .int c25::l=
  U.int g.code:: .int g.phase:: .int g.side:: .int g.ball:: .int g.taken:: .int g.p0:: .int g.p1:: .int g.p2:: .int g.p3:: .bool g.n0:: .bool g.n1:: .bool g.n2:: .bool g.n3:: .bool g.d0:: .bool g.d1:: .bool g.d2:: .bool g.d3:: .int g.h0:: .int g.h1:: .bool g.l0:: .bool g.l1:: .bool g.half:: .int g.turns:: .int g.began:: .int g.lastb:: .int g.winner::l':=by
 subst h;subst hl;rfl
end Go.Eng
namespace Go.Eng
open Go
theorem zR:(∀(T:Tab) (x:Nat),iR T (.e x)=I T x)∧(∀(T:Tab) (n:Int),iR T (.c (.int n))=n):=
 ⟨fun T x=>iR_e,fun T n=>iR_c⟩
theorem zL:(∀(T:Tab) (x:Nat),lR T (.e x)=L T x)∧(∀T:Tab,lR T (.c (.list []))=[]):=
 ⟨fun T x=>lR_e,fun T=>lR_c⟩
theorem zW:(∀(f:Ty→Rf→U) (a:Ty) (b:Rf) (l:List Ty) (r:List Rf),List.zipWith f (a::l) (b::r)=f a b::List.zipWith f l r)∧(∀(f:Ty→Rf→U) (r:List Rf),List.zipWith f [] r=[])∧(∀(a:U) (l:List U) (n:Nat),List.take (n+1) (a::l)=a::List.take n l)∧(∀l:List U,List.take 0 l=[])∧(∀(a:U) (l:List U) (n:Nat),List.drop (n+1) (a::l)=List.drop n l)∧(∀l:List U,List.drop 0 l=l):=
 ⟨fun _ _ _ _ _=>rfl,fun _ _=>rfl,fun _ _ _=>rfl,fun _=>rfl,fun _ _ _=>rfl,fun _=>rfl⟩
theorem n_app {T:Tab}{x:Nat}{a b:List (List U)}{m n k:Nat}(h:L T x=a++b)(ha:a.length≤m)(hb:b.length≤n)(hk:m+n≤k):(L T x).length≤k:=by
 rw[h,List.length_append];omega
theorem n_ite {T:Tab}{x k:Nat}{p:Prop} [Decidable p] {a b:List (List U)}(h:L T x=if p then a else b)(ha:a.length≤k)(hb:b.length≤k):(L T x).length≤k:=by
 rw[h];split
 ·exact ha
 ·exact hb
theorem gm_outs {T:Tab}{a0 a1 a2 a3 a4 a5 a6 a7 a8 a9 a10 a11 a12 a13 a14 a15 a16 a17 a18 a19 a20 a21 a22 a23 a24 a25:Nat}{r0 r1 r2 r3 r4 r5 r6 r7 r8 r9 r10 r11 r12 r13 r14 r15 r16 r17 r18 r19 r20 r21 r22 r23 r24 r25:Rf}
  (h:OutOk T [(a0,.i),(a1,.i),(a2,.i),(a3,.i),(a4,.i),(a5,.i),(a6,.i),(a7,.i),(a8,.i),(a9,.b),(a10,.b),(a11,.b),(a12,.b),(a13,.b),(a14,.b),(a15,.b),(a16,.b),(a17,.i),(a18,.i),(a19,.b),(a20,.b),(a21,.b),(a22,.i),(a23,.i),(a24,.i),(a25,.i)] [r0,r1,r2,r3,r4,r5,r6,r7,r8,r9,r10,r11,r12,r13,r14,r15,r16,r17,r18,r19,r20,r21,r22,r23,r24,r25]):
  Gm.mk (I T a0) (I T a1) (I T a2) (I T a3) (I T a4) (I T a5) (I T a6) (I T a7) (I T a8) (B T a9) (B T a10) (B T a11) (B T a12) (B T a13) (B T a14) (B T a15) (B T a16) (I T a17) (I T a18) (B T a19) (B T a20) (B T a21) (I T a22) (I T a23) (I T a24) (I T a25)=Gm.mk (iR T r0) (iR T r1) (iR T r2) (iR T r3) (iR T r4) (iR T r5) (iR T r6) (iR T r7) (iR T r8) (bR T r9) (bR T r10) (bR T r11) (bR T r12) (bR T r13) (bR T r14) (bR T r15) (bR T r16) (iR T r17) (iR T r18) (bR T r19) (bR T r20) (bR T r21) (iR T r22) (iR T r23) (iR T r24) (iR T r25):=
 gm_congr h.1 h.2.1 h.2.2.1 h.2.2.2.1 h.2.2.2.2.1 h.2.2.2.2.2.1 h.2.2.2.2.2.2.1 h.2.2.2.2.2.2.2.1 h.2.2.2.2.2.2.2.2.1 h.2.2.2.2.2.2.2.2.2.1 h.2.2.2.2.2.2.2.2.2.2.1 h.2.2.2.2.2.2.2.2.2.2.2.1 h.2.2.2.2.2.2.2.2.2.2.2.2.1 h.2.2.2.2.2.2.2.2.2.2.2.2.2.1 h.2.2.2.2.2.2.2.2.2.2.2.2.2.2.1 h.2.2.2.2.2.2.2.2.2.2.2.2.2.2.2.1 h.2.2.2.2.2.2.2.2.2.2.2.2.2.2.2.2.1 h.2.2.2.2.2.2.2.2.2.2.2.2.2.2.2.2.2.1 h.2.2.2.2.2.2.2.2.2.2.2.2.2.2.2.2.2.2.1 h.2.2.2.2.2.2.2.2.2.2.2.2.2.2.2.2.2.2.2.1 h.2.2.2.2.2.2.2.2.2.2.2.2.2.2.2.2.2.2.2.2.1 h.2.2.2.2.2.2.2.2.2.2.2.2.2.2.2.2.2.2.2.2.2.1 h.2.2.2.2.2.2.2.2.2.2.2.2.2.2.2.2.2.2.2.2.2.2.1 h.2.2.2.2.2.2.2.2.2.2.2.2.2.2.2.2.2.2.2.2.2.2.2.1 h.2.2.2.2.2.2.2.2.2.2.2.2.2.2.2.2.2.2.2.2.2.2.2.2.1 h.2.2.2.2.2.2.2.2.2.2.2.2.2.2.2.2.2.2.2.2.2.2.2.2.2.1
end Go.Eng
namespace Go.Eng
theorem zT:(∀h:Decidable True,@decide True h=true)∧(∀h:Decidable False,@decide False h=false)∧(∀b:Bool,(true&&b)=b)∧(∀b:Bool,(b&&true)=b)∧(∀b:Bool,(false&&b)=false)∧(∀b:Bool,(b&&false)=false)∧(∀b:Bool,(b||false)=b)∧(∀b:Bool,(false||b)=b)∧((!false)=true)∧((!true)=false)∧(∀p:Prop,(p∨False)=p)∧(∀p:Prop,(False∨p)=p)∧(∀p:Prop,(p∧True)=p)∧(∀p:Prop,(True∧p)=p)∧((false=true)=False)∧(∀p:Prop,(False∧p)=False)∧(∀p:Prop,(p∧False)=False):=
 ⟨fun h=>decide_true h,fun h=>decide_false h,Bool.true_and,Bool.and_true,Bool.false_and,Bool.and_false,Bool.or_false,Bool.false_or,Bool.not_false,Bool.not_true,or_false,false_or,and_true,true_and,Bool.false_eq_true,false_and,and_false⟩
end Go.Eng
end
section
namespace Go.Eng
def ball1 (h p:Int)(n d:Bool)(p0:Int)(n0:Bool):Prop:=
 p0≤p∧((p=13∧n=false∧d=false)∨(¬p=13∧0≤p∧p≤h∧(n=true∨(p=0∧d=false))))∧((n=true∨p=13)↔(n0=true∨p0=13))∧(p0=13→p=13)
structure OkSt (g:Gm) (s:St):Prop where
 b0:ball1 (hoopsS g.code) s.p0 s.n0 s.d0 g.p0 g.n0
 b1:ball1 (hoopsS g.code) s.p1 s.n1 s.d1 g.p1 g.n1
 b2:ball1 (hoopsS g.code) s.p2 s.n2 s.d2 g.p2 g.n2
 b3:ball1 (hoopsS g.code) s.p3 s.n3 s.d3 g.p3 g.n3
 won:¬((s.p0=13∧s.p2=13)∧(s.p1=13∧s.p3=13))
 roq:s.roquet= -1∨(0≤s.roquet∧s.roquet≤3∧sIn s s.roquet=true∧¬sDead s s.roquet=true∧¬s.roquet=g.ball)
 alive:¬sDead s g.ball=true
 half:g.half=true→(g.side=0→s.p0=g.p0∧s.p2=g.p2)∧(g.side=1→s.p1=g.p1∧s.p3=g.p3)
end Go.Eng
end
section
namespace Go.Eng
set_option maxHeartbeats 1000000
structure Base (g:Gm):Prop where
 code:0≤g.code∧g.code≤3
 side:0≤g.side∧g.side≤1
 turns:0≤g.turns∧g.turns≤1073741824
 halves:halvesS g.code g.h0 g.h1=true
 b0:ballS (hoopsS g.code) g.p0 g.n0 g.d0=true
 b1:ballS (hoopsS g.code) g.p1 g.n1 g.d1=true
 b2:ballS (hoopsS g.code) g.p2 g.n2 g.d2=true
 b3:ballS (hoopsS g.code) g.p3 g.n3 g.d3=true
 lift:g.code=1∨(g.l0=false∧g.l1=false)
 ca:comeS g.n0 g.n2 g.p0 g.p2=(firstS g.turns+1) / 2
 cb:comeS g.n1 g.n3 g.p1 g.p3=firstS g.turns / 2
structure Open (g:Gm):Prop where
 a:¬(g.p0=13∧g.p2=13)
 b:¬(g.p1=13∧g.p3=13)
 win:g.winner= -1
theorem legal_base {g:Gm}(h:legalS g=true):Base g:=by
 simp only[legalS,numbersS,casesS,Bool.and_eq_true,Bool.or_eq_true,Bool.not_eq_true',decide_eq_true_eq] at h
 obtain⟨⟨⟨⟨⟨⟨⟨⟨⟨⟨⟨⟨⟨⟨⟨⟨h1,h2⟩,h3⟩,h4⟩,h5⟩,h6⟩,h7⟩,h8⟩,h9⟩,h10⟩,h11⟩,h12⟩,h13⟩,h14⟩,⟨⟨⟨c1,c2⟩,c3⟩,c4⟩⟩,s⟩,t⟩:=h
 exact⟨⟨h1,h2⟩,⟨h5,h6⟩,⟨h7,h8⟩,h9,h10,h11,h12,h13,h14,c1,c2⟩
theorem legal_open {g:Gm}(h:legalS g=true)(hp:¬g.phase=4):Open g:=by
 simp only[legalS,casesS,wonaS,wonbS,Bool.and_eq_true,Bool.or_eq_true,Bool.not_eq_true',decide_eq_true_eq,Bool.and_eq_false_iff,decide_eq_false_iff_not] at h
 constructor<;>grind
theorem legal_phase {g:Gm}(h:legalS g=true):0≤g.phase∧g.phase≤4:=by
 have:=numbersS_le (legalS_facts h).1;omega
theorem legal_side {g:Gm}(h:legalS g=true):sidesS g=true:=by
 simp only[legalS,Bool.and_eq_true] at h;exact h.1.2
theorem legal_turn {g:Gm}(h:legalS g=true)(ht:turnS g=true):turnsS g=true:=by
 simp only[legalS,Bool.and_eq_true,Bool.or_eq_true,Bool.not_eq_true'] at h;grind
theorem legal_rest {g:Gm}(h:legalS g=true)(ht:turnS g=false):restsS g=true:=by
 simp only[legalS,Bool.and_eq_true,Bool.or_eq_true,Bool.not_eq_true'] at h;grind
theorem turn_facts {g:Gm}(h:legalS g=true)(ht:turnS g=true):Open g∧((bisqS g.code=true∧4≤g.turns)∨g.side=(g.turns+1) % 2)∧(0≤g.ball∧g.ball≤3∧g.ball % 2=g.side)∧inS g g.ball=true∧deadS g g.ball=false∧0≤g.began∧g.began≤pointsS g g.ball∧g.lastb= -1∧(g.half=true→bisqS g.code=true)∧(g.phase=2→inS g g.taken=true∧¬g.taken=g.ball∧deadS g g.taken=false)∧(¬g.phase=2→g.taken= -1):=by
 have hp:¬g.phase=4:=by intro e;simp[turnS,e] at ht
 have h1:=legal_turn h ht
 have h2:=legal_side h
 have h3:=(legalS_facts h).2.2.1 ht
 simp only[turnsS,Bool.and_eq_true,Bool.or_eq_true,Bool.not_eq_true',decide_eq_true_eq,decide_eq_false_iff_not] at h1
 simp only[sidesS,ht,Bool.and_eq_true,Bool.or_eq_true,Bool.not_eq_true',decide_eq_true_eq,decide_eq_false_iff_not] at h2
 refine⟨legal_open h hp,?_,?_,?_,?_,?_,?_,?_,?_,?_,?_⟩<;>grind
end Go.Eng
end
section
namespace Go.Eng
set_option maxHeartbeats 1000000
end Go.Eng
end
section
namespace Go.Eng
set_option maxHeartbeats 1000000
theorem any_cells {l:List (List U)}{k b:Int}{f:Bool}:(l.any fun u=>decide ((u.getD 0 default).toI=k)&&decide ((u.getD 1 default).toI=b)&&((u.getD 2 default).toB==f))=true↔
  ∃j:Nat,j < l.length∧cellI l j 0=k∧cellI l j 1=b∧cellB l j 2=f:=by
 simp only[List.any_eq_true,Bool.and_eq_true,decide_eq_true_eq,beq_iff_eq]
 constructor
 ·rintro⟨u,hu,h⟩
  obtain⟨j,hj,rfl⟩:=List.mem_iff_getElem.1 hu
  refine⟨j,hj,?_⟩
  have e:l.getD j []=l[j]:=by simp[List.getD,List.getElem?_eq_getElem hj]
  unfold cellI cellB
  rw[e];exact⟨h.1.1,h.1.2,h.2⟩
 ·rintro⟨j,hj,h1,h2,h3⟩
  refine⟨l[j],List.getElem_mem hj,?_⟩
  have e:l.getD j []=l[j]:=by simp[List.getD,List.getElem?_eq_getElem hj]
  unfold cellI cellB at*
  rw[e] at h1 h2 h3
  exact⟨⟨h1,h2⟩,h3⟩
theorem allow_iff {g:Gm}{k b:Int}{f:Bool}:allowS g k b f=true↔∃j:Nat,j < (movesS g).length∧cellI (movesS g) j 0=k∧cellI (movesS g) j 1=b∧cellB (movesS g) j 2=f:=any_cells
theorem choose_len (g:Gm)(b:Int):(chooseS g b).length≤2:=by
 unfold chooseS;split<;>(try split)<;>simp
theorem moves_len (g:Gm):(movesS g).length≤7:=by
 have h1:=choose_len g g.side
 have h2:=choose_len g (g.side+2)
 have h3:(passS g).length≤1:=by unfold passS;split<;>simp
 have h4:(bisquesS g).length≤1:=by unfold bisquesS;split<;>simp
 have h5:(halvesMS g).length≤1:=by unfold halvesMS;split<;>simp
 unfold movesS
 split
 ·simp
 ·split
  ·simp
  ·simp only[List.length_append];omega
def isMv (k b:Int)(f:Bool)(u:List U):Bool:=decide ((u.getD 0 default).toI=k)&&decide ((u.getD 1 default).toI=b)&&((u.getD 2 default).toB==f)
theorem isMv_mv {k b k' b':Int}{f f':Bool}:isMv k b f (mvU k' b' f')=true↔(k'=k∧b'=b∧f'=f):=by
 simp[isMv,mvU,U.toI,U.toB,and_assoc]
theorem any_choose {g:Gm}{c k b:Int}{f:Bool}:(chooseS g c).any (isMv k b f)=true↔(k=1∧b=c∧mayS g c=true∧(f=true→inS g c=true∧liftS g g.side=true)):=by
 unfold chooseS
 by_cases h:mayS g c=true
 ·rw[if_pos h]
  by_cases h2:inS g c=true∧liftS g g.side=true
  ·rw[if_pos h2]
   simp only[List.any_cons,List.any_nil,Bool.or_false,Bool.or_eq_true,isMv_mv]
   cases f<;>grind (splits:=40)
  ·rw[if_neg h2]
   simp only[List.any_cons,List.any_nil,Bool.or_false,isMv_mv]
   cases f<;>grind (splits:=40)
 ·rw[if_neg h]
  simp[h]
theorem rest_phase {g:Gm}(h:legalS g=true)(ht:turnS g=false)(hp:¬g.phase=4):g.phase=0:=by
 have h1:=legal_phase h
 simp only[turnS,Bool.or_eq_false_iff,decide_eq_false_iff_not] at ht
 omega
theorem rest_facts {g:Gm}(h:legalS g=true)(ht:turnS g=false):g.ball= -1∧g.taken= -1∧g.d0=false∧g.d1=false∧g.d2=false∧g.d3=false∧g.half=false∧g.began=0∧(g.lastb= -1∨(g.phase=0∧bisqS g.code=true∧4≤g.turns∧inS g g.lastb=true∧¬g.lastb % 2=g.side)):=by
 have:=legal_rest h ht
 simp only[restsS,Bool.and_eq_true,Bool.or_eq_true,Bool.not_eq_true',decide_eq_true_eq,decide_eq_false_iff_not,and_assoc] at this
 obtain⟨h1,h2,h3,h4,h5,h6,h7,h8,h9⟩:=this
 exact⟨h1,h2,h3,h4,h5,h6,h7,h8,h9⟩
theorem allow_cases {g:Gm}(h:legalS g=true){k b:Int}{f:Bool}:allowS g k b f=true↔
  ((k=2∧b=0∧f=false∧turnS g=true)∨(k=3∧b=0∧f=false∧(turnS g=true∨(turnS g=false∧g.phase=0∧4≤g.turns)))∨
   (k=1∧turnS g=false∧g.phase=0∧(b=g.side∨b=g.side+2)∧mayS g b=true∧(f=true→inS g b=true∧liftS g g.side=true))∨
   (k=4∧f=false∧turnS g=false∧g.phase=0∧b=g.lastb∧¬g.lastb= -1∧2≤halfS g (g.lastb % 2))∨
   (k=5∧f=false∧turnS g=false∧g.phase=0∧b=g.lastb∧¬g.lastb= -1∧1≤halfS g (g.lastb % 2))):=by
 show (movesS g).any (isMv k b f)=true↔_
 unfold movesS
 cases ht:turnS g with
 |true=>
  simp only[if_true,List.any_cons,List.any_nil,Bool.or_false,Bool.or_eq_true,isMv_mv]
  grind
 |false=>
  simp only[Bool.false_eq_true,if_false]
  by_cases hp:g.phase=4
  ·rw[if_pos hp]
   simp[hp]
  ·rw[if_neg hp]
   have h0:=rest_phase h ht hp
   simp only[List.any_append,Bool.or_eq_true,any_choose]
   have e1:(passS g).any (isMv k b f)=true↔(4≤g.turns∧k=3∧b=0∧f=false):=by
    unfold passS;split
    ·simp only[List.any_cons,List.any_nil,Bool.or_false,isMv_mv];grind
    ·simp;grind
   have e2:(bisquesS g).any (isMv k b f)=true↔((¬g.lastb= -1∧2≤halfS g (g.lastb % 2))∧k=4∧b=g.lastb∧f=false):=by
    unfold bisquesS;split
    ·simp only[List.any_cons,List.any_nil,Bool.or_false,isMv_mv];grind
    ·simp;grind
   have e3:(halvesMS g).any (isMv k b f)=true↔((¬g.lastb= -1∧1≤halfS g (g.lastb % 2))∧k=5∧b=g.lastb∧f=false):=by
    unfold halvesMS;split
    ·simp only[List.any_cons,List.any_nil,Bool.or_false,isMv_mv];grind
    ·simp;grind
   rw[e1,e2,e3]
   clear e1 e2 e3
   grind (splits:=60)
theorem in_points {g:Gm}(h:legalS g=true):(g.n0=true→¬g.p0=13)∧(g.n1=true→¬g.p1=13)∧(g.n2=true→¬g.p2=13)∧(g.n3=true→¬g.p3=13):=by
 obtain⟨-,-,-,-,h5,h6,h7,h8,-,-,-⟩:=legal_base h
 simp only[ballS,Bool.and_eq_true,Bool.or_eq_true,Bool.not_eq_true',decide_eq_true_eq,decide_eq_false_iff_not] at h5 h6 h7 h8
 refine⟨?_,?_,?_,?_⟩<;>grind
theorem allow_ball {g:Gm}(h:legalS g=true){k b:Int}{f:Bool}(ha:allowS g k b f=true):1≤k∧k≤5∧(¬k=2→¬k=3→0≤b∧b≤3)∧(k=2→turnS g=true):=by
 have hs:=(legal_base h).side
 have hl:=(legalS_facts h).2.1
 have:=(allow_cases h).1 ha
 grind
end Go.Eng
end
section
namespace Go.Eng
set_option maxHeartbeats 1000000
end Go.Eng
namespace Go.Eng
theorem legal_last {g:Gm}(h:legalS g=true):g.lastb= -1∨(0≤g.lastb∧g.lastb≤3∧4≤g.turns∧g.phase=0):=by
 have h1:=(legalS_facts h).2.1
 cases ht:turnS g with
 |true=>exact .inl (turn_facts h ht).2.2.2.2.2.2.2.1
 |false=>
  obtain⟨-,-,-,-,-,-,-,-,hr⟩:=rest_facts h ht
  rcases hr with hr|⟨h0,-,h4,-⟩
  ·exact .inl hr
  ·rcases h1 with h1|h1
   ·exact .inl h1
   ·exact .inr ⟨h1.1,h1.2,h4,h0⟩
theorem legal_br {g:Gm}(h:legalS g=true):(g.ball= -1∨(0≤g.ball∧g.ball≤3))∧0≤g.side∧g.side≤1∧0≤g.began:=by
 have h2:=legalS_began h;have h3:=legalS_facts h;have h4:=(legal_base h).side
 refine⟨?_,h4.1,h4.2,h2⟩
 cases hb:turnS g with
 |true=>exact .inr (h3.2.2.1 hb)
 |false=>exact .inl (h3.2.2.2.2 hb)
theorem legal_halves {g:Gm}(h:legalS g=true):(0≤g.h0∧g.h0≤40)∧(0≤g.h1∧g.h1≤40):=by
 have h:=(legal_base h).halves
 simp only[halvesS,Bool.and_eq_true,decide_eq_true_eq] at h;omega
end Go.Eng
end
