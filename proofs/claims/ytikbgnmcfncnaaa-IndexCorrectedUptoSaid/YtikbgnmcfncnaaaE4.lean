/-
  A part of the proof: the evaluator of code and its soundness.
-/
import Derived.Test.YtikbgnmcfncnaaaE3
import Derived.Carry
import Derived.ChangeSame
import Derived.Maps.RangeRun
import Derived.LoopNIn
import Derived.Test.YtikbgnmcfncnaaaE2
import Derived.WalkSpells
import Derived.Lib.SliceRun
set_option linter.unusedVariables false
set_option linter.unusedSimpArgs false
noncomputable section
namespace Go.Eng
section
open Go Go.RowKit
def Mr:List (FuncId × Bf)->FuncId->Option CM
 |[],_=>none
 |(f,t)::r,k=>if Nat.beq f k then some (eE t) else Mr r k
theorem Nx {P:Program}:∀{l:List (FuncId × Bf)},(∀p∈l,Bl P p.1 p.2)->∀f c,Mr l f=some c->∀T,∀an k args ae m g b ag ao,k=f->ES P T.lp an->c an k args ae m g=some (b,ag,ao)->Bo g ao/\(Agr T ao->CB T ao->pcv T ae->Ch T g ae->∀ W w Y,BR T g.n W m w args Y->BX T g.n W m w->
  (∃aA,P.funcs[k]? =some aA/\aA.body.isSome=true/\(aA.name== "runtime.NumGoroutine")=false)/\Calls P k (Y:List Value).toArray w (H3 T g W m w b ag ao))
 |[],_,f,c,h=>by simp[Mr] at h
 |(f0,t)::r,hl,f,c,h=>by
  simp only[Mr] at h;split at h
  .rename_i s;cases h;have e:=yI s;subst e;intro T an k args ae m g b ag ao y _ q;subst y;exact pl (hl (k,t) (AN ..)) T an args ae m g b ag ao q
  .exact Nx (fun p C=>hl p (AK _ C)) f c h
section
variable {P:Program}{w:World}{B:Nat}
theorem xI {H:Type}{enc:TypeId × Value->H}{sp:Nat->Bool}{bc:Bool}{base:Nat}(hB:B<=BT)(hm:P.follows .mixedOrders=true){l:List (FuncId × Bf)}(hl:∀p∈l,Bl P p.1 p.2){Bp:FuncId->EM}{aK am dd:Nat}{f:FuncId}{au:List TypeId}{aU:List AC}{ks:List Kd}{c:AC}{ag:Mem}{ao:G}
  (bi:MC P dd au 0=some (aU,ks)) (b1:GN P (Mr l) Bp aK am Ys.none f aU none [] { n:=ks.length,eqs:=[],obs:=[] }=some (c,ag,ao)) (E:Oq ks.length ao=true)
  (b0:∀(T:Tab) (us:List U),Bb B ks us->us.length=ks.length->(∀j u,us[j]? =some u->T j=u)->(∀p∈ao.eqs,T p.1=p.2.eval T)->CB T ao/\xp T c)
  {Y:List Value} {ds:List (DataW H)} {ps:List MemPlace} (ht:DataW.TrodAll enc P w 0 sp bc au Y ds ps) (hv:∀(j:Nat) t v,au[j]? =some t->Y[j]? =some v->Value.okWide P w .any base t v) (aa:∀d∈ds,Et B d):
  Calls P f (Y:List Value).toArray w fun e W'=>e= .returned (.bool true)/\Below w.heap.size w W':=by
 obtain⟨us,u1,u2,u3⟩:=iu hB au bi ht hv aa;unfold Oq at E;rw[AB] at E;generalize Z:Ci (cY ao.lps us) ao.eqs=T;obtain⟨aB,aJ,r3⟩:=Gi ao.eqs (cY ao.lps us);rw[Z] at aB aJ r3;have a6:∀j u,us[j]? =some u->T (0+j)=u:=fun j u N=>by
  have ch:=(AG.1 N).1;rw[AM,<-Z,(DZ E.1).2.2 j (.inl (by omega))];show us.getD j default=u;simp[List.getD,N]
 have hA:Agr T ao:=by
  refine⟨fun p hp=>?_,fun p hp=>?_⟩
  .rw[<-Z];exact GT (fv:=[]) (nh:=0) (fun x hx=>by cases hx) (Ak _) E.1 p hp
  .rw[aJ];show (Hg ao.lps p.1).getD QA=p.2;rw[SX E.2 p hp];rfl
 obtain⟨p1,X⟩:=b0 T us u1 u2 (fun j u N=>by have:=a6 j u N;rw[AM] at this;exact this) hA.eqs;have b2:∀b off,b < w.heap.size->Bt T (fun _=>none) [] w b off:=fun b off hb=>⟨hb,by rw[aB];trivial,fun id=>trivial⟩;have bx:BX T ks.length (fun _=>none) [] w:=⟨fun id=>trivial,(fun id ci b h=>by cases h),fun b off _=>by rw[aB];trivial⟩;obtain⟨_,b3⟩:=Ht (Bp:=Bp) (aK:=aK) hm (Nx hl) am T Ys.none f aU none [] _ c ag ao (fun T' _ s y hy=>by cases hy) b1;obtain⟨_,hc⟩:=b3 hA p1 trivial trivial (fun _=>none) w Y (u3 T _ b2 a6 ks.length (by omega)) bx;refine hc.mono fun e W' ⟨v, ad,e1,q,e3,K⟩=>?_;refine⟨?_,q.os,q.tape,q.output,q.size,fun k hk=>q.old k hk (fun id h=>by cases h)⟩;rw[e1];congr 1;cases c with
 |cb b=>rw[show b=true from X] at K;exact K
 |b x=>
  obtain⟨_,b,O,C⟩:=K;rw[show T x=_ from X] at O;cases O;exact C
 |nb x=>
  obtain⟨_,b,O,C⟩:=K;rw[show T x=_ from X] at O;cases O;exact C
 |_=>exact X.elim
end
theorem Rb {H:Type}{enc:TypeId × Value->H}{P:Program}(K:laidOutB P=true){k y:World}(E:Below k.heap.size k y){N:Nat->Bool}:∀{au:List TypeId} {Y:List Value} {s:List (DataW H)} {ps:List MemPlace},
  (∀t∈au,P.readableRec t=true/\t < P.types.size)->DataW.TrodAll enc P k 0 (fun _=>true) true au Y s ps->(∀x∈ps,x.block < k.heap.size)->(∀x∈ps,N x.block=true)->DataW.TrodAll enc P y 0 N true au Y s ps
 |[],[],[],_,_,h,_,_=>h
 |t::au,v::Y,d::s,ps,ht,⟨p,q,O,C,e⟩,hlt,aa=>by
  subst e;obtain⟨aB,aJ⟩:=ht t (AN ..);exact⟨p,q,WideElems.Trod_stays K aB aJ O (fun x b=>E.same (hlt x (AU _ b))) (fun x b=>aa x (AU _ b)),
   Rb K E (fun t h=>ht t (AK _ h)) C (fun x b=>hlt x (AO _ b)) (fun x b=>aa x (AO _ b)),rfl⟩
 |[],_::_,_,_,_,h,_,_=>h.elim
 |[],[],_::_,_,_,h,_,_=>h.elim
 |_::_,[],_,_,_,h,_,_=>h.elim
 |_::_,_::_,[],_,_,h,_,_=>h.elim
end
section
open Go Go.RowKit Go.ChangeShapes Go.WideShapes
theorem tL {H:Type}{enc:TypeId × Value->H}{P:Program}{f:Func}{s:ChangeSpec}{apart bc bm bb:Bool}{E K:World}{args:Array Value}{k y:List (DataW H)}{ag:List MemPlace}{tb:TypeId}
  (hl:laidOutB P=true) (bx:∀t∈f.params.toList,P.readableRec t=true/\t < P.types.size) (a4:f.resultTypes= #[tb]) (a5:P.underlying tb=some .bool) (a8:s.vars=[])
  (Z:s.fn H (k++y)={ results:=[.lit (.bool true)],args:=k })
  (X:DataW.Whole enc P f.params.toList s.vars apart E args.toList k y ag) (Y:Below E.heap.size E K):s.post enc P f apart bc bm bb E args (.bool true) K:=by
 have ad:∀p∈ag,p.block < E.heap.size:=X.lt;have bl:=X;obtain⟨p,q,hA,N,rfl,hz,hn⟩:=X;have hq:q=[]:=by
  rw[a8] at N;cases y with
  |nil=>exact N
  |cons=>exact N.elim
 subst hq;have bs:∀x∈p++[],(fun b=>decide (b < E.heap.size)) x.block=true:=fun x h=>by simpa using ad x h
 have ao:∀e:Nat->Bool,(∀x∈p++[],e x.block=true)->DataW.TrodAll enc P K 0 e true f.params.toList args.toList (s.fn H (k++y)).args p:=fun e b0=>by
  rw[Z];exact Rb hl Y bx hA (fun x h=>ad x (by simp[h])) (fun x h=>b0 x (by simp[h]))
 have a6:∀e:Nat->Bool,DataW.TrodVars enc P K e s.vars (s.fn H (k++y)).vars []:=fun e=>by rw[Z,a8];rfl
 have hr:∀(b:Nat) (e:Nat->Bool) (hd:Bool),DataW.TrodAll enc P K b e hd f.resultTypes.toList ((Value.bool true).resultList f.resultTypes.size) (s.fn H (k++y)).results []:=fun b e hd=>by
  rw[Z,a4];exact⟨[],[],⟨1,by simp[DataW.trod,a5,Value.cells]⟩,rfl,rfl⟩
 refine⟨k,y,p++[],[],p,[],bl,hr _ _ _,ao _ bs,a6 _,World.keptBut_mono (fun x h=>⟨h,.inr (by simpa using h)⟩) (Y.frame (· ∈p++[])),fun _=>?_⟩;refine⟨fun j t r O C=>?_,_,_,([]++p)++[],⟨[]++p,[],trodAll_append (ao _ (fun _ _=>rfl)) (hr _ _ _),a6 _,rfl,?_,?_⟩,?_⟩
 .exact ok_one a4 (by rfl) (by simp[Value.okWide,a5,Cell.okWide,Cell.ok]) j t r O C
 .intro b off hp;rw[Y.frozen (ad _ (by simpa using hp))];exact hz b off (by simpa using hp)
 .grind
 .grind
end
section
open Go
inductive Ty where
 |i|b|l|r (c:Nat)|s
 deriving DecidableEq
def I (T:Tab)(x:Nat):Int:=(T.get x).toI
def B (T:Tab)(x:Nat):Bool:=(T.get x).toB
def L (T:Tab)(x:Nat):List (List U):=(T.get x).toL
def S (T:Tab)(x:Nat):ByteArray:=(T.get x).toS
def iR (T:Tab)(r:Rf):Int:=(r.eval T).toI
def bR (T:Tab)(r:Rf):Bool:=(r.eval T).toB
def lR (T:Tab)(r:Rf):List (List U):=(r.eval T).toL
def stR (T:Tab)(r:Rf):ByteArray:=(r.eval T).toS
def uR (T:Tab):Ty->Rf->U
 | .i,r=> .int (iR T r)
 | .b,r=> .bool (bR T r)
 | .l,r=> .list (lR T r)
 | .r _,r=>r.eval T
 | .s,r=> .str (stR T r)
variable{T:Tab}{x:Nat}
theorem iR_c {n:Int}:iR T (.c (.int n))=n:=Eq.trans rfl rfl
theorem iR_e :iR T (.e x)=I T x:=Eq.trans rfl rfl
theorem bR_c {n:Bool}:bR T (.c (.bool n))=n:=Eq.trans rfl rfl
theorem BZ :bR T (.e x)=B T x:=Eq.trans rfl rfl
theorem bR_n :bR T (.n x)= !B T x:=Eq.trans rfl rfl
theorem lR_c :lR T (.c (.list []))=[]:=Eq.trans rfl rfl
theorem lR_e :lR T (.e x)=L T x:=Eq.trans rfl rfl
theorem xd {s:ByteArray}:stR T (.c (.str s))=s:=Eq.trans rfl rfl
theorem xj :stR T (.e x)=S T x:=Eq.trans rfl rfl
def TQ (T:Tab):List Rf->Int->Int
 |[],_=>0
 |a::l,n=>if n<=0 then iR T a else TQ T l (n - 1)
def Sz (T:Tab):List Rf->Int->Prop
 |[],_=>False
 |a::l,n=>(n<=0/\bR T a=true)\/(¬n<=0/\Sz T l (n - 1))
def BU (l:List (List U))(i c:Nat):Int:=((l.getD i []).getD c default).toI
def DW (l:List (List U))(i c:Nat):Bool:=((l.getD i []).getD c default).toB
def Bq (l:List (List U))(i c:Nat):ByteArray:=((l.getD i []).getD c default).toS
def EB (G c:Nat)(l:List (List U))(z:U)(k:List U):U:=bif decide (Bz G l k < l.length) then (l.getD (Bz G l k) []).getD (G+c) default else z
def xr (l:List (List U))(i c:Nat):List (List U):=((l.getD i []).getD c default).toL
inductive Op2 where
 |add|sub|mul|div|mod|tdiv|tmod|min|max
def Op2.f:Op2->Int->Int->Int
 | .add=>rE| .sub=>tQ| .mul=>tB| .div=>t8| .mod=>aq| .tdiv=>Ww| .tmod=>jg| .min=>XD| .max=>XT
inductive Opn where
 |id (t:Ty)|not|and|or|lt|le|eq|ne
 |eqs (ts:List Ty)|nes (ts:List Ty)|eqb|neb
 |ite (t:Ty)|ifb
 |o2 (o:Op2)|w2 (k:IntKind) (o:Op2)|wx (k:IntKind) (o:Op2)|w1 (k:IntKind)|wneg (k:IntKind)|neg|bits (o:BinOp) (k:IntKind)
 |take|drop|sub|slen|sat
 |len|app|get (t:Ty) (c:Nat)|mget (t:Ty) (nk c:Nat) (ts:List Ty)|mhas (nk:Nat) (ts:List Ty)|mset (nk:Nat) (ts:List Ty)|pick (t:Ty)|row (k s:Nat) (ts:List Ty)|rset (c:Nat) (ts:List Ty)|rep (ts:List Ty)
 |outI (tg:String) (f:List U->Int)|outB (tg:String) (f:List U->Bool)|outL (tg:String) (f:List U->List (List U))|outS (tg:String) (f:List U->ByteArray)|res (t:Ty) (D:Bs) (j:Nat)
def tyC:Ty->Nat| .i=>0| .b=>1| .s=>2| .l=>3| .r _=>4
def CW (f:List U->Int)(us:List U):U:= .int (f us)
def Jx (f:List U->Bool)(us:List U):U:= .bool (f us)
def D1 (f:List U->List (List U))(us:List U):U:= .list (f us)
def lE (f:List U->ByteArray)(us:List U):U:= .str (f us)
def opF:Opn->List U->U
 | .id _=>oId| .not=>XL| .and=>R9| .or=>oOr| .lt=>oLt| .le=>oLe| .eq=>oEq| .ne=>oNe
 | .eqs _=>lC| .nes _=>j7| .eqb=>qY| .neb=>tz
 | .ite _=>oIf| .ifb=>kE
 | .o2 o=>Go.Eng.o2 o.f| .w2 k o=>LM k (Go.Eng.o2 o.f)| .wx k o=>LM k (Go.Eng.o2 o.f)| .w1 k=>LM k oId| .wneg k=>LM k au| .neg=>au| .bits o k=>Go.Eng.o2 (El o k)
 | .take=>P0| .drop=>lO| .sub=>rU| .slen=>js| .sat=>tx
 | .len=>SQ| .app=>UT| .get t c=>TR (tyC t) c| .mget t G c _=>qE (tyC t) G c| .mhas G _=>lN G| .mset G _=>kX G| .pick _=>V4| .row k s _=>aH k s| .rset c _=>jS c| .rep _=>so
 | .outI _ f=>CW f| .outB _ f=>Jx f| .outL _ f=>D1 f| .outS _ f=>lE f| .res _ D j=>D.res j
structure En where
 x:Nat
 op:Opn
 rs:List Rf
def En.be (e:En):Nat × (List U->U) × List Rf:=(e.x,opF e.op,e.rs)
def Dw (T:Tab):List Ty->List Rf->Prop
 | .i::au,a::b::r=>iR T a=iR T b/\Dw T au r
 | .b::au,a::b::r=>(bR T a=true↔bR T b=true)/\Dw T au r
 | .s::au,a::b::r=>stR T a=stR T b/\Dw T au r
 |_,_=>True
def EK (o:Op2)(c a b:Int):Prop:=match o with
 | .add=>c=a+b| .sub=>c=a - b| .mul=>c=a*b| .div=>c=a / b| .mod=>c=a % b
 | .tdiv=>c=if 0<=a then a / b else -(-a / b)
 | .tmod=>c=if 0<=a then a % b else -(-a % b)
 | .min=>c=if a<=b then a else b
 | .max=>c=if a<=b then b else a
def w2P (k:IntKind)(o:Op2)(c a b:Int):Prop:=match k,o with
 | .i64,.add=> -9223372036854775808<=a+b->a+b<=9223372036854775807->c=a+b
 | .i64,.sub=> -9223372036854775808<=a - b->a - b<=9223372036854775807->c=a - b
 | .i64,.mul=> -9223372036854775808<=a*b->a*b<=9223372036854775807->c=a*b
 |k,o=>c=k.wrap (o.f a b)
def wnP (k:IntKind)(c a:Int):Prop:=match k with
 | .i64=>(-9223372036854775807<=a->a<=9223372036854775808->c= -a)/\(a= -9223372036854775808->c=a)
 |k=>c=k.wrap (0 - a)
def BS (T:Tab)(e:En):Prop:=
 match e with
 |⟨x,.id .i,[a]⟩=>I T x=iR T a
 |⟨x,.id .b,[a]⟩=>(B T x=true↔bR T a=true)
 |⟨x,.id .l,[a]⟩=>L T x=lR T a
 |⟨x,.id .s,[a]⟩=>S T x=stR T a
 |⟨x,.not,[a]⟩=>(B T x=true↔¬bR T a=true)
 |⟨x,.and,[a,b]⟩=>(B T x=true↔(bR T a=true/\bR T b=true))
 |⟨x,.or,[a,b]⟩=>(B T x=true↔(bR T a=true\/bR T b=true))
 |⟨x,.lt,[a,b]⟩=>(B T x=true↔iR T a < iR T b)
 |⟨x,.le,[a,b]⟩=>(B T x=true↔iR T a<=iR T b)
 |⟨x,.eq,[a,b]⟩=>(B T x=true↔iR T a=iR T b)
 |⟨x,.ne,[a,b]⟩=>(B T x=true↔¬iR T a=iR T b)
 |⟨x,.eqs au,r⟩=>(B T x=true↔Dw T au r)
 |⟨x,.nes au,r⟩=>(B T x=true↔¬Dw T au r)
 |⟨x,.eqb,[a,b]⟩=>(B T x=true↔(bR T a=true↔bR T b=true))
 |⟨x,.neb,[a,b]⟩=>(B T x=true↔¬(bR T a=true↔bR T b=true))
 |⟨x,.ite .i,[a,b,c]⟩=>I T x=if bR T a=true then iR T b else iR T c
 |⟨x,.ite .b,[a,b,c]⟩=>(B T x=true↔((bR T a=true/\bR T b=true)\/(¬bR T a=true/\bR T c=true)))
 |⟨x,.ite .l,[a,b,c]⟩=>L T x=if bR T a=true then lR T b else lR T c
 |⟨x,.ite .s,[a,b,c]⟩=>S T x=if bR T a=true then stR T b else stR T c
 |⟨x,.ifb,[a,b,c]⟩=>(B T x=true↔((bR T a=true/\bR T b=true)\/(¬bR T a=true/\bR T c=true)))
 |⟨x,.o2 o,[a,b]⟩=>EK o (I T x) (iR T a) (iR T b)
 |⟨x,.w2 k o,[a,b]⟩=>w2P k o (I T x) (iR T a) (iR T b)
 |⟨x,.wx k o,[a,b]⟩=>I T x=k.wrap (o.f (iR T a) (iR T b))
 |⟨x,.w1 k,[a]⟩=>I T x=k.wrap (iR T a)
 |⟨x,.wneg k,[a]⟩=>wnP k (I T x) (iR T a)
 |⟨x,.neg,[a]⟩=>I T x= -iR T a
 |⟨x,.bits o k,[a,b]⟩=>I T x=El o k (iR T a) (iR T b)
 |⟨x,.len,[a]⟩=>I T x=(lR T a).length
 |⟨x,.app,[a,b]⟩=>L T x=lR T a++lR T b
 |⟨x,.take,[a,b]⟩=>L T x=(lR T a).take (iR T b).toNat
 |⟨x,.drop,[a,b]⟩=>L T x=(lR T a).drop (iR T b).toNat
 |⟨x,.sub,[a,b,c]⟩=>L T x=((lR T a).take (iR T c).toNat).drop (iR T b).toNat
 |⟨x,.slen,[a]⟩=>I T x=(stR T a).size
 |⟨x,.sat,[a,b]⟩=>I T x=C4 (stR T a) (iR T b).toNat
 |⟨x,.get .i c,[a,b]⟩=>I T x=BU (lR T a) (iR T b).toNat c
 |⟨x,.get .b c,[a,b]⟩=>B T x=DW (lR T a) (iR T b).toNat c
 |⟨x,.get .l c,[a,b]⟩=>L T x=xr (lR T a) (iR T b).toNat c
 |⟨x,.get .s c,[a,b]⟩=>S T x=Bq (lR T a) (iR T b).toNat c
 |⟨x,.mget .i G c au,a::z::r⟩=>I T x=(EB G c (lR T a) (z.eval T) (List.zipWith (uR T) au r)).toI
 |⟨x,.mget .b G c au,a::z::r⟩=>B T x=(EB G c (lR T a) (z.eval T) (List.zipWith (uR T) au r)).toB
 |⟨x,.mget .s G c au,a::z::r⟩=>S T x=(EB G c (lR T a) (z.eval T) (List.zipWith (uR T) au r)).toS
 |⟨x,.mhas G au,a::r⟩=>(B T x=true↔Bz G (lR T a) (List.zipWith (uR T) au r) < (lR T a).length)
 |⟨x,.mset G au,a::r⟩=>L T x=Cb G (lR T a) ((List.zipWith (uR T) au r).take G) ((List.zipWith (uR T) au r).drop G)
 |⟨x,.pick .i,a::r⟩=>I T x=TQ T r (iR T a)
 |⟨x,.pick .b,a::r⟩=>(B T x=true↔Sz T r (iR T a))
 |⟨x,.row k s au,r⟩=>L T x=Cp s k (List.zipWith (uR T) au r)
 |⟨x,.rset c au,a::b::r⟩=>L T x=E7 (lR T a) (iR T b).toNat c (List.zipWith (uR T) au r)
 |⟨x,.rep au,a::r⟩=>L T x=List.replicate (iR T a).toNat (List.zipWith (uR T) au r)
 |⟨x,.outI _ f,r⟩=>I T x=f (r.map (Rf.eval T))
 |⟨x,.outB _ f,r⟩=>B T x=f (r.map (Rf.eval T))
 |⟨x,.outL _ f,r⟩=>L T x=f (r.map (Rf.eval T))
 |⟨x,.outS _ f,r⟩=>S T x=f (r.map (Rf.eval T))
 |_=>True
def XX:Ty->Bool| .i=>true| .b=>true| .s=>true|_=>false
abbrev DB:=List (Nat × Ty)
def PR:Ty->Ty->Bool| .i,.i=>true| .b,.b=>true| .l,.l=>true| .r c,.r d=>Nat.beq c d| .s,.s=>true|_,_=>false
def Z1:DB->Nat->Ty->Bool
 |[],_,_=>false
 |(y,t)::r,x,u=>if Nat.beq y x&&PR t u then true else Z1 r x u
def tyR (ai:DB)(t:Ty):Rf->Bool
 | .c (.int _)=>PR t .i
 | .c (.bool _)=>PR t .b
 | .c (.list _)=>PR t .l
 | .c (.str _)=>PR t .s
 | .c _=>false
 | .n _=>PR t .b
 | .e x=>Z1 ai x t
def Hc (ai:DB):List Ty->List Rf->Bool
 |[],[]=>true
 |t::au,r::ah=>tyR ai t r&&Hc ai au ah
 |_,_=>false
def FO:List Ty->List Ty
 |[]=>[]
 |t::au=>t::t::FO au
def uV (T:Tab)(t:Ty)(x:Nat):U:=uR T t (.e x)
def mR (T:Tab)(x c:Nat):Prop:=∀i:Nat,∃n,((L T x).getD i []).getD c default= .int n
def Sty (T:Tab)(x:Nat):Ty->Prop
 | .r c=>mR T x c
 |t=>T.get x=uV T t x
def Ba (T:Tab):DB->Prop
 |[]=>True
 |(x,t)::r=>Sty T x t/\Ba T r
theorem Sty.get :∀{t:Ty},Sty T x t->T.get x=uV T t x
 | .i,h=>h
 | .b,h=>h
 | .l,h=>h
 | .r _,_=>rfl
 | .s,h=>h
def noR:Ty->Bool| .r _=>false|_=>true
def IQ (ai:DB)(e:En):Option (Option Ty):=
 match e.op,e.rs with
 | .id t,[a]=>some (if tyR ai t a then some t else none)
 | .ite t,[_,b,c]=>some (if tyR ai t b&&tyR ai t c then some t else none)
 | .eqs au,r=>if Hc ai (FO au) r&&au.all XX then some (some .b) else none
 | .nes au,r=>if Hc ai (FO au) r&&au.all XX then some (some .b) else none
 | .row _ _ au,r=>if Hc ai au r then some (some .l) else none
 | .rset _ au,_::_::r=>if Hc ai au r then some (some .l) else none
 | .rep au,_::r=>if Hc ai au r then some (some .l) else none
 | .mset _ au,_::r=>if Hc ai au r then some (some .l) else none
 | .not,_| .and,_| .or,_| .lt,_| .le,_| .eq,_| .ne,_| .ifb,_| .eqb,_| .neb,_=>some (some .b)
 | .mhas _ au,_::r=>if Hc ai au r then some (some .b) else none
 | .o2 _,_| .w2 _ _,_| .wx _ _,_| .w1 _,_| .wneg _,_| .neg,_| .bits _ _,_| .len,_| .slen,_| .sat,_=>some (some .i)
 | .app,_| .take,_| .drop,_| .sub,_=>some (some .l)
 | .pick .i,_::r=>some (if r.all (tyR ai .i) then some .i else none)
 | .pick .i,[]=>some none
 | .pick .b,_::b::r=>some (if (b::r).all (tyR ai .b) then some .b else none)
 | .outI _ _,_=>some (some .i)
 | .outB _ _,_=>some (some .b)
 | .outL _ _,_=>some (some .l)
 | .outS _ _,_=>some (some .s)
 | .get t _,_=>some (if noR t then some t else none)
 | .mget t _ _ au,_::_::r=>if Hc ai au r then some (if noR t then some t else none) else none
 | .pick _,_| .res _ _ _,_=>some none
 |_,_=>none
def Wj (e:En):DB:=
 match e.op with
 | .row _ s au=>if au.all (PR .i) then (List.range s).map fun c=>(e.x,.r c) else []
 |_=>[]
def chk:DB->List En->Option DB
 |ai,[]=>some ai
 |ai,e::r=>match IQ ai e with
  |none=>none
  |some none=>chk ai r
  |some (some t)=>if noR t then chk (Wj e++(e.x,t)::ai) r else none
section
variable {T:Tab}
variable{t u:Ty}{ai:DB}{r:List Rf}{x:Nat}{v:Bool}
theorem TO (h:PR t u=true):t=u:=by cases t<;>cases u<;>first|rfl|(cases h;done)|(rw[yI h])
theorem Kb:∀{ai:DB} {x:Nat} {t:Ty},Ba T ai->Z1 ai x t=true->T.get x=uV T t x
 |[],_,_,_,h=>by cases h
 |(y,u)::r,x,t,aa,h=>by
  simp only[Z1] at h;split at h
  .rename_i b;rw[AB] at b;have e:=yI b.1;subst e;rw[<-TO b.2];exact aa.1.get
  .exact Kb aa.2 h
theorem Lt {r:Rf}(aa:Ba T ai)(h:tyR ai t r=true):r.eval T=uR T t r:=by
 cases r with
 |c u=>cases u<;>simp only[tyR] at h<;>first|(have e:=TO h;subst e;rfl)|cases h
 |e x=>exact Kb aa h
 |n x=>have e:=TO h;subst e;rfl
theorem DK {ai:DB}(aa:Ba T ai):∀{au:List Ty} {ah:List Rf},Hc ai au ah=true->ah.map (Rf.eval T)=List.zipWith (uR T) au ah
 |[],[],_=>rfl
 |t::au,r::ah,h=>by
  simp only[Hc,AB] at h;simp only[AT,List.zipWith_cons_cons];rw[Lt aa h.1,DK aa h.2]
 |[],_::_,h=>by cases h
 |_::_,[],h=>by cases h
theorem bS {ai:DB}:∀{au:List Ty} {ah:List Rf},Hc ai au ah=true->ah.length=au.length
 |[],[],_=>rfl
 |_::_,_::_,h=>by
  simp only[Hc,AB] at h;simp[bS h.2]
 |[],_::_,h=>by cases h
 |_::_,[],h=>by cases h
theorem iQ:∀{au:List Ty} {ah:List Rf},ah.length=(FO au).length->au.all XX=true->(HI (List.zipWith (uR T) (FO au) ah)=true↔Dw T au ah)
 |[],[],_,_=>by simp[HI,FO,Dw]
 |t::au,a::b::r,hl,hn=>by
  simp only[List.all_cons,AB] at hn;have e:=iQ (au:=au) (ah:=r) (by simpa [FO] using hl) hn.2;simp only[FO,List.zipWith_cons_cons,HI,AB];rw[e];cases t with
  |i=>simp[uR,U.eqv,Dw]
  |b=>
   simp only[uR,U.eqv,Dw];cases bR T a<;>cases bR T b<;>simp
  |l=>exact absurd hn.1 (by simp[XX])
  |r c=>exact absurd hn.1 (by simp[XX])
  |s=>simp[uR,U.eqv,Dw]
 |[],_::_,hl,_=>by simp[FO] at hl
 |_::_,[],hl,_=>by simp[FO] at hl
 |_::_,[_],hl,_=>by simp[FO] at hl
theorem cZ (aa:Ba T ai){au:List Ty}{ah:List Rf}{c:Bool}(h:(Hc ai (FO au) ah&&au.all XX)=true):HI (ah.map (Rf.eval T))=true↔Dw T au ah:=by
 rw[AB] at h;rw[DK aa h.1];exact iQ (bS h.1) h.2
theorem qH (l:List U):(IK l).toI=0:=by
 unfold IK;split<;>rfl
theorem nj (l:List U):(IK l).toB=false:=by
 unfold IK;split<;>rfl
theorem YA {d:U}(hd:d.toI=0):∀(l:List Rf) (n:Int),((l.map (Rf.eval T)).getD n.toNat d).toI=TQ T l n
 |[],n=>by simp[TQ,hd]
 |a::l,n=>by
  simp only[TQ];split
  .rename_i h;have:n.toNat=0:=by omega
   simp[this,iR]
  .rename_i h;have e:n.toNat=(n - 1).toNat+1:=by omega
   rw[e,<-YA hd l (n - 1)];simp
theorem YW {d:U}(hd:d.toB=false):∀(l:List Rf) (n:Int),((l.map (Rf.eval T)).getD n.toNat d).toB=true↔Sz T l n
 |[],n=>by simp[Sz,hd]
 |a::l,n=>by
  simp only[Sz];by_cases h:n<=0
  .have:n.toNat=0:=by omega
   simp[this,h,bR]
  .have e:n.toNat=(n - 1).toNat+1:=by omega
   rw[e,<-YW hd l (n - 1)];simp[h]
theorem vB (h:T.get x= .bool v):B T x=v:=by unfold B;rw[h];rfl
theorem vI {v:Int}(h:T.get x= .int v):I T x=v:=by unfold I;rw[h];rfl
theorem vL {v:List (List U)}(h:T.get x= .list v):L T x=v:=by unfold L;rw[h];rfl
theorem sB (h:T.get x= .bool v):T.get x=uV T .b x:=by rw[h];show _=U.bool (T.get x).toB;rw[h];rfl
theorem sI {v:Int}(h:T.get x= .int v):T.get x=uV T .i x:=by rw[h];show _=U.int (T.get x).toI;rw[h];rfl
theorem vS {v:ByteArray}(h:T.get x= .str v):S T x=v:=by unfold S;rw[h];rfl
theorem sS {v:ByteArray}(h:T.get x= .str v):T.get x=uV T .s x:=by rw[h];show _=U.str (T.get x).toS;rw[h];rfl
theorem sL {v:List (List U)}(h:T.get x= .list v):T.get x=uV T .l x:=by rw[h];show _=U.list (T.get x).toL;rw[h];rfl
theorem xP (o:Op2)(a b:Int):EK o (o.f a b) a b:=by
 cases o<;>simp only[EK,Op2.f]<;>first|rfl|exact tdiv_eq_if a b|exact tmod_eq_if a b|exact Int.min_def a b|exact Int.max_def a b
theorem yB (k:IntKind)(o:Op2)(a b:Int):w2P k o (k.wrap (o.f a b)) a b:=by
 cases k<;>cases o<;>simp only[w2P,Op2.f]<;>exact fun O C=>GO .i64 _ O C
theorem xy (k:IntKind)(a:Int):wnP k (k.wrap (0 - a)) a:=by
 cases k<;>simp only[wnP];refine⟨fun O C=>?_,fun h=>by subst h;decide⟩;rw[GO .i64 _ (by show (-9223372036854775808:Int)<=_;omega) (by show _<=(9223372036854775807:Int);omega)];omega
theorem gw (aa:Ba T ai):∀(e:En) {o:Option Ty},IQ ai e=some o->T.get e.x=opF e.op (e.rs.map (Rf.eval T))->BS T e:=by
 intro e o q h;unfold BS;split<;>(try simp only at q h)
 .exact BI U.toI h
 .exact Bool.eq_iff_iff.1 (BI U.toB h)
 .exact BI U.toL h
 .exact BI U.toS h
 .have:=vB h;rw[this];simp[u0,bR]
 .have:=vB h;rw[this];simp[u0,u1,bR]
 .have:=vB h;rw[this];simp[u0,u1,bR]
 .have:=vB h;rw[this];simp[u0,u1,iR]
 .have:=vB h;rw[this];simp[u0,u1,iR]
 .have:=vB h;rw[this];simp[u0,u1,iR]
 .have:=vB h;rw[this];simp[u0,u1,iR]
 .rename_i x au r;simp only[IQ] at q;split at q
  .rename_i y;rw[vB h];exact cZ (c:=true) aa y
  .cases q
 .rename_i x au r;simp only[IQ] at q;split at q
  .rename_i y;rw[vB h,<-cZ (c:=true) aa y];simp
  .cases q
 .have:=vB h;rw[this];simp only[u0,u1,bR,AT,An,List.getD_cons_zero,List.getD_cons_succ];rename_i a b;cases (a.eval T).toB<;>cases (b.eval T).toB<;>simp
 .have:=vB h;rw[this];simp only[u0,u1,bR,AT,An,List.getD_cons_zero,List.getD_cons_succ];rename_i a b;cases (a.eval T).toB<;>cases (b.eval T).toB<;>simp
 .rename_i x a b c;have O:=BI U.toI h;show (T.get x).toI=_;rw[O];show (bif (a.eval T).toB then b.eval T else c.eval T).toI=_;unfold bR iR;grind
 .rename_i x a b c;have O:=BI U.toB h;show ((T.get x).toB=true↔_);rw[O];show ((bif (a.eval T).toB then b.eval T else c.eval T).toB=true↔_);unfold bR;grind
 .rename_i x a b c;have O:=BI U.toL h;show (T.get x).toL=_;rw[O];show (bif (a.eval T).toB then b.eval T else c.eval T).toL=_;unfold bR lR;grind
 .rename_i x a b c;have O:=BI U.toS h;show (T.get x).toS=_;rw[O];show (bif (a.eval T).toB then b.eval T else c.eval T).toS=_;unfold bR stR;grind
 .rename_i x a b c;rw[vB h];show ((bif (a.eval T).toB then (b.eval T).toB else (c.eval T).toB)=true↔_);unfold bR;grind
 .rw[vI h];exact xP _ _ _
 .rw[vI h];exact yB _ _ _ _
 .rw[vI h];rfl
 .rw[vI h];rfl
 .rw[vI h];exact xy _ _
 .rw[vI h];show 0 - _=_;rw[Int.zero_sub];rfl
 .rw[vI h];rfl
 .rw[vI h];rfl
 .rw[vL h];rfl
 .rw[vL h];rfl
 .rw[vL h];rfl
 .rw[vL h];rfl
 .rw[vI h];rfl
 .rw[vI h];rfl
 .exact (BI U.toI h).trans rfl
 .exact (BI U.toB h).trans rfl
 .exact (BI U.toL h).trans rfl
 .exact (BI U.toS h).trans rfl
 .simp only[IQ] at q;split at q
  .rename_i y;rw[<-DK aa y];exact (BI U.toI h).trans rfl
  .cases q
 .simp only[IQ] at q;split at q
  .rename_i y;rw[<-DK aa y];exact (BI U.toB h).trans rfl
  .cases q
 .simp only[IQ] at q;split at q
  .rename_i y;rw[<-DK aa y];exact (BI U.toS h).trans rfl
  .cases q
 .simp only[IQ] at q;split at q
  .rename_i y;rw[<-DK aa y,vB h];exact decide_eq_true_iff
  .cases q
 .rename_i x G au a r;simp only[IQ] at q;split at q
  .rename_i y;rw[<-DK aa y];exact vL h
  .cases q
 .exact (BI U.toI h).trans (YA (qH _) _ _)
 .have O:=BI U.toB h;refine Iff.trans (b:=((_:U).toB=true)) (by rw[show B T _=_ from O];exact Iff.rfl) (YW (nj _) _ _)
 .rename_i x k s au r;simp only[IQ] at q;split at q
  .rename_i y;rw[vL h,DK aa y]
  .cases q
 .rename_i x c au a b r;simp only[IQ] at q;split at q
  .rename_i y;rw[<-DK aa y];exact vL h
  .cases q
 .rename_i x au a r;simp only[IQ] at q;split at q
  .rename_i y;rw[<-DK aa y];exact vL h
  .cases q
 .exact BI U.toI h
 .exact BI U.toB h
 .exact BI U.toL h
 .exact BI U.toS h
 .trivial
theorem X3 {ai:DB}(aa:Ba T ai):∀{r:List Rf} (n:Nat),r.all (tyR ai .i)=true->∃v,(r.map (Rf.eval T)).getD n (.int 0)= .int v
 |[],n,_=>⟨0,by simp⟩
 |a::r,n,h=>by
  simp only[List.all_cons,AB] at h;cases n with
  |zero=>exact⟨iR T a,by simpa [uR] using Lt aa h.1⟩
  |succ n=>simpa using X3 aa (r:=r) n h.2
theorem WO {ai:DB}(aa:Ba T ai):∀{r:List Rf} (n:Nat),r.all (tyR ai .b)=true->∃v,(r.map (Rf.eval T)).getD n (.bool false)= .bool v
 |[],n,_=>⟨false,by simp⟩
 |a::r,n,h=>by
  simp only[List.all_cons,AB] at h;cases n with
  |zero=>exact⟨bR T a,by simpa [uR] using Lt aa h.1⟩
  |succ n=>simpa using WO aa (r:=r) n h.2
theorem tu (aa:Ba T ai)(n:Nat)(h:r.all (tyR ai .i)=true):∃v,(r.map (Rf.eval T)).getD n (IK (r.map (Rf.eval T)))= .int v:=by
 have e:IK (r.map (Rf.eval T))= .int 0:=by
  cases r with
  |nil=>rfl
  |cons a r=>
   simp only[List.all_cons,AB] at h;have O:a.eval T= .int (iR T a):=by simpa [uR] using Lt aa h.1
   rw[AT,O];rfl
 rw[e];exact X3 aa n h
theorem oI (aa:Ba T ai){b:Rf}(n:Nat)(h:(b::r).all (tyR ai .b)=true):∃v,((b::r).map (Rf.eval T)).getD n (IK ((b::r).map (Rf.eval T)))= .bool v:=by
 have e:IK ((b::r).map (Rf.eval T))= .bool false:=by
  have k:=h;simp only[List.all_cons,AB] at k;have O:b.eval T= .bool (bR T b):=by simpa [uR] using Lt aa k.1
  rw[AT,O];rfl
 rw[e];exact WO aa n h
theorem pW (h:(some (if noR t=true then some t else none):Option (Option Ty))=some (some u)):t=u:=by
 grind
theorem xz {c:Prop} [Decidable c] (h:(if c then some (if noR t=true then some t else none) else none:Option (Option Ty))=some (some u)):(some (if noR t=true then some t else none):Option (Option Ty))=some (some u):=by
 grind
theorem mq {v:U}(e:(some (if noR t=true then some t else none):Option (Option Ty))=some (some t))(h:T.get x=coC (tyC t) v):T.get x=uV T t x:=by
 cases t with
 |i=>exact sI h
 |b=>exact sB h
 |l=>exact sL h
 |s=>exact sS h
 |r c=>cases e
theorem xf (aa:Ba T ai):∀(e:En) {t:Ty},IQ ai e=some (some t)->T.get e.x=opF e.op (e.rs.map (Rf.eval T))->T.get e.x=uV T t e.x:=by
 intro e t k h;unfold IQ at k;split at k
 .rename_i a q s;split at k
  .rename_i y;cases k;rw[q,s] at h;have C:T.get e.x=a.eval T:=h;rw[Lt aa y] at C;cases t
   .exact sI C
   .exact sB C
   .exact sL C
   .rfl
   .exact sS C
  .cases k
 .rename_i a b c q s;split at k
  .rename_i y;cases k;rw[AB] at y;rw[q,s] at h;have C:T.get e.x=bif (a.eval T).toB then b.eval T else c.eval T:=h
   rw[Lt aa y.1,Lt aa y.2] at C;cases t<;>cases O:(a.eval T).toB<;>rw[O] at C<;>first|exact sI C|exact sB C|exact sL C|exact sS C|rfl
  .cases k
 all_goals first
  |(rename_i u c q;have H:=pW k;rw[q] at h;subst H;exact mq k h)
  |(rename_i u G c au a N r q s;have K:=xz k;have H:=pW K;rw[q] at h;subst H;exact mq K h)
  |(rename_i a N r q s;split at k<;>cases k;rename_i y;rw[q,s] at h;obtain⟨v,E⟩:=oI aa (a.eval T).toI.toNat y;exact sB (h.trans E))
  |(rename_i a r q s;split at k<;>cases k;rename_i y;rw[q,s] at h;obtain⟨v,E⟩:=tu aa (a.eval T).toI.toNat y;exact sI (h.trans E))
  |(rename_i q s;split at k<;>cases k;rw[q,s] at h;first|exact sL h|exact sB h)
  |(rename_i q;split at k<;>cases k;rw[q] at h;first|exact sI h|exact sB h|exact sL h)
  |(rename_i q;cases k;rw[q] at h;first|exact sI h|exact sB h|exact sL h|exact sS h)
  |(cases k)
  |skip
def BV (T:Tab):List En->Prop
 |[]=>True
 |e::r=>BS T e/\BV T r
theorem BV.left:∀{a b:List En},BV T (a++b)->BV T a
 |[],_,_=>trivial
 |_::_,_,h=>⟨h.1,BV.left h.2⟩
theorem BV.right:∀{a b:List En},BV T (a++b)->BV T b
 |[],_,h=>h
 |_::_,_,h=>BV.right h.2
end
abbrev BE:=Nat × (List U->U) × List Rf
abbrev BO:=PC × (List U->Prop) × List Rf
abbrev BP:=(List U->Prop) × List Rf
def Gf (l:List (Nat × Ex)):List BE:=l.map fun p=>(p.1,p.2.f,p.2.args)
def Lc (l:List Ob):List BO:=l.map fun o=>(o.pc,o.p.f,o.p.args)
def ju (l:List Pr):List BP:=l.map fun p=>(p.f,p.args)
def Bi (T:Tab):List BE->Prop
 |[]=>True
 |(x,f,ah)::r=>T x=f (ah.map (Rf.eval T))/\Bi T r
def Ux (T:Tab):List BO->Prop
 |[]=>True
 |(ae,f,ah)::r=>(pcv T ae->f (ah.map (Rf.eval T)))/\Ux T r
def AllP (T:Tab):List BP->Prop
 |[]=>True
 |(f,ah)::r=>f (ah.map (Rf.eval T))/\AllP T r
section
variable {T:Tab}
theorem NA:∀{l:List (Nat × Ex)},(∀p∈l,T p.1=p.2.eval T)->Bi T (Gf l)
 |[],_=>trivial
 |p::_,h=>⟨h p (AN ..),NA fun q b=>h q (AK _ b)⟩
theorem Uf:∀{l:List (Nat × Ex)},Bi T (Gf l)->∀p∈l,T p.1=p.2.eval T
 |[],_,p,b=>by cases b
 |e::r,h,p,b=>by
  cases b with
  |head=>exact h.1
  |tail _ b=>exact Uf (l:=r) h.2 p b
theorem Bi.left:∀{a b:List BE},Bi T (a++b)->Bi T a
 |[],_,_=>trivial
 |_::_,_,h=>⟨h.1,Bi.left h.2⟩
theorem Bi.right:∀{a b:List BE},Bi T (a++b)->Bi T b
 |[],_,h=>h
 |_::_,_,h=>Bi.right h.2
theorem Jb:∀{l:List Ob},Ux T (Lc l)->∀o∈l,o.holds T
 |[],_,o,b=>by cases b
 |o'::_,h,o,b=>by
  cases b with
  |head=>exact h.1
  |tail _ b=>exact Jb h.2 o b
theorem TK:∀{l:List Pr},AllP T (ju l)->∀o∈l,o.holds T
 |[],_,o,b=>by cases b
 |o'::_,h,o,b=>by
  cases b with
  |head=>exact h.1
  |tail _ b=>exact TK h.2 o b
variable{x:Nat}{ai:DB}{l:List En}
theorem oM :∀(t:Ty),T.get x=uV T t x->(∀c,t≠ .r c)->Sty T x t
 | .i,h,_=>h
 | .b,h,_=>h
 | .l,h,_=>h
 | .r c,_,h=>absurd rfl (h c)
 | .s,h,_=>h
theorem Ba.append:∀{a b:DB},Ba T a->Ba T b->Ba T (a++b)
 |[],_,_,h=>h
 |_::_,_,h,h'=>⟨h.1,Ba.append h.2 h'⟩
theorem X0 {s:Nat}:∀{k:Nat} {l:List U} {u:List U},u∈Cp s k l->∀v∈u,v∈l
 |0,_,_,h=>by simp[Cp] at h
 |k+1,l,u,h=>by
  simp only[Cp,List.mem_cons] at h;intro v b;rcases h with rfl|h
  .exact List.mem_of_mem_take b
  .exact List.mem_of_mem_drop (X0 h v b)
theorem iZ:∀{au:List Ty} {r:List Rf},au.all (PR .i)=true->∀v∈List.zipWith (uR T) au r,∃n,v= .int n
 |[],_,_,v,h=>by simp at h
 |_::_,[],_,v,h=>by simp at h
 |t::au,a::r,ht,v,h=>by
  simp only[List.all_cons,AB] at ht;simp only[List.zipWith_cons_cons,List.mem_cons] at h;rcases h with rfl|h
  .have e:=TO ht.1;subst e;exact⟨_,rfl⟩
  .exact iZ ht.2 v h
theorem nU (aa:Ba T ai)(e:En){o:Option Ty}(y:IQ ai e=some o)(h:T.get e.x=opF e.op (e.rs.map (Rf.eval T))):Ba T (Wj e):=by
 obtain⟨x,op,ah⟩:=e;unfold Wj;simp only;split
 .rename_i k s au;split
  .rename_i ab;simp only[IQ] at y;split at y
   .rename_i b;have K:L T x=Cp s k (List.zipWith (uR T) au ah):=by rw[<-DK aa b];exact vL h
    have X:∀c,mR T x c:=fun c i=>by
     rw[K];have E:∀u:List U,(∀v∈u,∃n,v= .int n)->∃n,u.getD c default= .int n:=fun u N=>by
      rcases AQ c u.length with b|b
      .rw[AY,AF b];exact N _ (yM b)
      .rw[AY,Ai b];exact⟨0,rfl⟩
     rcases AQ i (Cp s k (List.zipWith (uR T) au ah)).length with q|q
     .rw[AY (l:=Cp s k (List.zipWith (uR T) au ah)),AF q];exact E _ fun v C=>iZ ab v (X0 (yM q) v C)
     .rw[AY (l:=Cp s k (List.zipWith (uR T) au ah)),Ai q];exact E _ fun v C=>by simp at C
    have H:∀l:List Nat,Ba T (l.map fun c=>(x,Ty.r c)):=by
     intro l;induction l with
     |nil=>trivial
     |cons a l O=>exact⟨X a,O⟩
    exact H _
   .cases y
  .trivial
 .trivial
theorem Wd:∀{l:List En} {ai k:DB},Ba T ai->chk ai l=some k->Bi T (l.map En.be)->BV T l/\Ba T k
 |[],ai,k,aa,h,_=>by
  simp only[chk] at h;cases h;exact⟨trivial,aa⟩
 |e::r,ai,k,aa,h,hb=>by
  simp only[chk] at h;split at h
  .cases h
  .rename_i b;obtain⟨O,C⟩:=Wd aa h hb.2;exact⟨⟨gw aa e b hb.1,O⟩,C⟩
  .rename_i t b;split at h
   .rename_i q;obtain⟨O,C⟩:=Wd (ai:=Wj e++(e.x,t)::ai) ((nU aa e b hb.1).append ⟨oM t (xf aa e b hb.1) (fun c s=>by rw[s] at q;cases q),aa⟩) h hb.2;exact⟨⟨gw aa e b hb.1,O⟩,C⟩
   .cases h
def Bh (ai:DB)(l:List En):DB:=(chk ai l).getD []
theorem Be (aa:Ba T ai)(e:(chk ai l).isSome=true)(b:Bi T (l.map En.be)):BV T l/\Ba T (Bh ai l):=by
 obtain⟨k,h⟩:=Option.isSome_iff_exists.1 e;have:=Wd aa h b;unfold Bh;rw[h];exact this
def qu (ai:DB)(l:List En)(A:List Ty)(ah:List Rf):Bool:=match chk ai l with
 |some b=>Hc b A ah
 |none=>false
theorem B8 {A:List Ty}{ah:List Rf}(aa:Ba T ai)(b:qu ai l A ah=true)(e:Bi T (l.map En.be)):BV T l/\ah.map (Rf.eval T)=List.zipWith (uR T) A ah:=by
 unfold qu at b;split at b
 .rename_i k h;obtain⟨O,C⟩:=Wd aa h e;exact⟨O,DK C b⟩
 .cases b
def tyKd:Kd->Option Ty
 | .int _ _ _=>some .i
 | .bool=>some .b
 | .list _=>some .l
 | .str=>some .s
 |_=>none
def Vv (x:Nat):Nat->List Kd->DB
 |_,[]=>[]
 |c,.int _ _ _::ay=>(x,.r c)::Vv x (c+1) ay
 |c,_::ay=>Vv x (c+1) ay
def CA:Nat->List Kd->DB
 |_,[]=>[]
 |x,.list ay::ks=>(x,.l)::(Vv x 0 ay++CA (x+1) ks)
 |x,k::ks=>match tyKd k with
  |some t=>(x,t)::CA (x+1) ks
  |none=>CA (x+1) ks
def Bnd (T:Tab):Nat->List Kd->Prop
 |_,[]=>True
 |x,.int _ ar ab::ks=>(ar<=I T x/\I T x<=ab)/\Bnd T (x+1) ks
 |x,.list ay::ks=>((L T x).length<=140737488355328/\∀(i:Nat) (us:List U),(L T x)[i]? =some us->Bb BT ay us)/\Bnd T (x+1) ks
 |x,.str::ks=>(S T x).size<=140737488355328/\Bnd T (x+1) ks
 |x,_::ks=>Bnd T (x+1) ks
theorem Ba.append0:∀{a b:DB},Ba T a->Ba T b->Ba T (a++b)
 |[],_,_,h=>h
 |_::_,_,h,h'=>⟨h.1,Ba.append0 h.2 h'⟩
theorem dl:∀{ay:List Kd} {us:List U} {c:Nat} {k:Kd},Bb BT ay us->ay[c]? =some k->∃u,us[c]? =some u/\KdU BT k u
 |[],_,_,_,_,h=>by simp at h
 |e::ay,us,c,k,⟨u,us',e1,O,C⟩,h=>by
  subst e1;cases c with
  |zero=>simp at h;subst h;exact⟨u,rfl,O⟩
  |succ c=>simpa using dl C (by simpa using h)
theorem uh {c:Nat}{ay:List Kd}{al:IntKind}{ar ab:Int}(h:∀(i:Nat) (us:List U),(L T x)[i]? =some us->Bb BT ay us)(b:ay[c]? =some (.int al ar ab)):mR T x c:=fun i=>by
 rcases AQ i (L T x).length with ab|ab
 .obtain⟨u,O,⟨n,e,_⟩⟩:=dl (h i _ (AF ab)) b;refine⟨n,?_⟩;simp only[List.getD,AF ab,Option.getD_some,O];exact e
 .exact⟨0,by simp only[List.getD,Ai ab,Option.getD_none];simp;rfl⟩
theorem iM {x:Nat}{H:List Kd}(h:∀(i:Nat) (us:List U),(L T x)[i]? =some us->Bb BT H us):∀(ay:List Kd) (c:Nat),(∀j k,ay[j]? =some k->H[c+j]? =some k)->Ba T (Vv x c ay)
 |[],_,_=>trivial
 |e::ay,c,ha=>by
  have b:=iM h ay (c+1) fun j k q=>by
   have:=ha (j+1) k (by simpa using q);rw[show c+(j+1)=c+1+j by omega] at this;exact this
  cases e with
  |int al ar ab=>exact⟨uh h (ha 0 _ rfl),b⟩
  |_=>exact b
theorem SU:∀{ks:List Kd} {us:List U} {x:Nat},Bb BT ks us->(∀j u,us[j]? =some u->T (x+j)=u)->Ba T (CA x ks)/\Bnd T x ks
 |[],us,x,_,_=>⟨trivial,trivial⟩
 |k::ks,us,x,⟨u,us',e,O,C⟩,hT=>by
  subst e;have h:=SU (x:=x+1) C fun j v y=>by
   have:=hT (j+1) v (by simpa using y);rw[show x+(j+1)=x+1+j by omega] at this;exact this
  have b:T.get x=u:=hT 0 u rfl;cases k with
  |int al ar ab=>
   obtain⟨n,q,s⟩:=O;rw[q] at b;refine⟨⟨sI b,h.1⟩,?_,h.2⟩;rw[vI b];exact s
  |bool=>
   obtain⟨n,q⟩:=O;rw[q] at b;exact⟨⟨sB b,h.1⟩,h.2⟩
  |str=>
   obtain⟨n,q,s⟩:=O;rw[q] at b;exact⟨⟨sS b,h.1⟩,by rw[vS b];exact s,h.2⟩
  |val=>exact h
  |any=>exact h
  |list ay=>
   obtain⟨n,q,s,H⟩:=O;rw[q] at b;have E:∀(i:Nat) (us:List U),(L T x)[i]? =some us->Bb BT ay us:=by rw[vL b];exact H
   refine⟨⟨sL b,(iM E ay 0 (fun j k y=>by rw[AM];exact y)).append0 h.1⟩,?_,h.2⟩;exact⟨by rw[vL b];exact s,E⟩
end
inductive PO where
 |take|sub|nez|t|inr|inl|ins|btw (lo hi:Int)|fits (b:Nat)|ready|ne|pre (tg:String) (p:List U->Prop)|owes (D:Bs)
structure ObE where
 pc:PC
 po:PO
 rs:List Rf
def poF:PO->List U->Prop
 | .take=>ML| .sub=>sT| .nez=>UU| .t=>pT| .inr=>pIn| .inl=>XA| .ins=>kN| .btw ar ab=>FH ar ab| .fits b=>Io b| .ready=>xg| .ne=>pNe| .pre _ p=>p| .owes D=>D.owes
def ObE.be (o:ObE):PC × (List U->Prop) × List Rf:=(o.pc,poF o.po,o.rs)
def pcP (T:Tab):PC->Prop
 |none=>True
 |some c=>B T c=true
def jJ (T:Tab)(o:ObE):Prop:=
 match o with
 |⟨ae,.take,[a,b]⟩=>pcP T ae->(0<=iR T b/\iR T b<=(lR T a).length)
 |⟨ae,.sub,[a,b,c]⟩=>pcP T ae->(0<=iR T b/\iR T b<=iR T c/\iR T c<=(lR T a).length)
 |⟨ae,.nez,[a]⟩=>pcP T ae->¬iR T a=0
 |⟨ae,.t,[a]⟩=>pcP T ae->bR T a=true
 |⟨ae,.inr,[a,b]⟩=>pcP T ae->(0<=iR T a/\iR T a < iR T b)
 |⟨ae,.inl,[a,b]⟩=>pcP T ae->(0<=iR T a/\iR T a < (lR T b).length)
 |⟨ae,.ins,[a,b]⟩=>pcP T ae->(0<=iR T b/\iR T b < (stR T a).size)
 |⟨ae,.btw ar ab,[a]⟩=>pcP T ae->(ar<=iR T a/\iR T a<=ab)
 |⟨ae,.fits b,[a,c]⟩=>pcP T ae->((lR T a).length+(lR T c).length)*b<=140737488355328
 |⟨ae,.ready,[a]⟩=>pcP T ae->iR T a=0
 |⟨ae,.ne,[a,b]⟩=>pcP T ae->¬iR T a=iR T b
 |⟨ae,.pre _ p,ah⟩=>pcP T ae->p (ah.map (Rf.eval T))
 |⟨ae,.owes D,ah⟩=>pcP T ae->D.owes (ah.map (Rf.eval T))
 |_=>False
def J6 (T:Tab):List ObE->Prop
 |[]=>True
 |o::r=>jJ T o/\J6 T r
section
variable {T:Tab}
theorem dB {ae:PC}(h:pcv T ae):pcP T ae:=by
 cases ae with
 |none=>trivial
 |some c=>show (T.get c).toB=true;rw[show T.get c= .bool true from h];rfl
theorem dw {ae:PC}(h:pcP T ae):pcv T ae:=by
 cases ae with
 |none=>trivial
 |some c=>exact IB.2 h
theorem sJ:∀{o:ObE},jJ T o->(pcv T o.pc->poF o.po (o.rs.map (Rf.eval T))):=by
 intro o h b;have e:=dB b;unfold jJ at h;split at h<;>first|exact h e|exact h.elim
theorem JY:∀{l:List ObE},J6 T l->Ux T (l.map ObE.be)
 |[],_=>trivial
 |_::_,h=>⟨sJ h.1,JY h.2⟩
end
def Bf.sees (t:Bf)(ah:List Rf)(r:Option (AC × Mem × G)):Option (List BE × List BO × List BP):=
 match r with
 |some (aO,aP,g0)=>match dh t ah aO aP g0 with
  |some ps=>some (Gf g0.eqs.reverse,Lc g0.obs,ju ps)
  |none=>none
 |none=>none
theorem Mm:∀{ks:List Kd} {us:List U},us.length=ks.length->Py ks us->Bb BT ks us
 |[],[],_,_=>rfl
 |k::ks,u::us,hl,h=>⟨u,us,rfl,h 0 k u rfl rfl,Mm (by simpa using hl) fun j b e O C=>h (j+1) b e (by simpa using O) (by simpa using C)⟩
 |[],_::_,hl,_=>by simp at hl
 |_::_,[],hl,_=>by simp at hl
def Bf.run (P:Program)(l:List (FuncId × Bf))(Bp:FuncId->EM)(aK am:Nat)(f:FuncId)(t:Bf):Option (AC × Mem × G):=
 GN P (Mr l) Bp aK am Ys.none f t.args none t.m { n:=t.n,eqs:=[],obs:=[] }
def M9 (t:Bf):Bool:=(List.range t.m.length).all fun id=>match t.m'.at id with| .pad=>false|_=>true
variable{P:Program}{t:Bf}{ah:List Rf}{ay:List En}{os:List ObE}{l:List (FuncId × Bf)}{aK am j:Nat}{T:Tab}
theorem RG {f:FuncId}{E:CM}(X:∀T,Dj P T E)
  (b:t.sees ah (E Ys.none f t.args none t.m { n:=t.n,eqs:=[],obs:=[] })=some (ay.map En.be,os.map ObE.be,[])) (ao:M9 t=true)
  (a4:∀(T:Tab) (us:List U),(∀p∈t.pre,p.2 us)->(∀j u,us[j]? =some u->T j=u)->us.length=t.n->Ba T (CA 0 t.ks)->Bnd T 0 t.ks->Bi T (ay.map En.be)->J6 T os/\ah.map (Rf.eval T)=t.outs.map fun o=>o.2 us):Bl P f t:=by
 unfold Bf.sees at b;split at b
 .rename_i aO aP K hr;split at b
  .rename_i ps a0;injection b with b
   injection b with s b
   injection b with y H
   refine iY X hr a0 (fun id Z e=>?_) fun T us q ad a5 k Y=>?_
   .have:=Ae.1 ao id (List.mem_range.2 Z);grind
   .have h:Bi T (Gf K.eqs.reverse):=NA fun p hp=>Y p (List.mem_reverse.1 hp);rw[s] at h;obtain⟨i1,i2⟩:=SU (x:=0) (Mm q ad) fun j u hj=>by rw[AM];exact k j u hj
    obtain⟨O,N⟩:=a4 T us a5 k q i1 i2 h;have C:=JY O;rw[<-y] at C;exact⟨Jb C,TK (by rw[H];trivial),N⟩
  .cases b
 .cases b
theorem B7 {f:FuncId}(e:P.follows .mixedOrders=true)(b:∀p∈l,Bl P p.1 p.2){Bp:FuncId->EM}
  (q:t.sees ah (t.run P l Bp aK am f)=some (ay.map En.be,os.map ObE.be,[])) (h:M9 t=true)
  (k:∀(T:Tab) (us:List U),(∀p∈t.pre,p.2 us)->(∀j u,us[j]? =some u->T j=u)->us.length=t.n->Ba T (CA 0 t.ks)->Bnd T 0 t.ks->Bi T (ay.map En.be)->J6 T os/\ah.map (Rf.eval T)=t.outs.map fun o=>o.2 us):Bl P f t:=
 RG (fun T=>Ht e (Nx b) am T) q h k
def Bf.runB (P:Program)(l:List (FuncId × Bf))(Bp:FuncId->EM)(aK am:Nat)(f:FuncId)(t:Bf):Option (AC × Mem × G):=
 jf P (GN P (Mr l) Bp aK am) Bp aK Ys.none f t.args none t.m { n:=t.n,eqs:=[],obs:=[] }
theorem ja {f:FuncId}(b:P.follows .mixedOrders=true)(e:∀p∈l,Bl P p.1 p.2){Bp:FuncId->EM}
  (q:t.sees ah (t.runB P l Bp aK am f)=some (ay.map En.be,os.map ObE.be,[])) (h:M9 t=true)
  (k:∀(T:Tab) (us:List U),(∀p∈t.pre,p.2 us)->(∀j u,us[j]? =some u->T j=u)->us.length=t.n->Ba T (CA 0 t.ks)->Bnd T 0 t.ks->Bi T (ay.map En.be)->J6 T os/\ah.map (Rf.eval T)=t.outs.map fun o=>o.2 us):Bl P f t:=
 RG (ge b fun T=>Ht b (Nx e) am T) q h k
theorem lc {aW:Type}{a b:aW}{l m:List aW}(h:a=b)(e:l=m):a::l=b::m:=by rw[h,e]
def aI (us:List U)(j:Nat):Int:=(us.getD j default).toI
def aB (us:List U)(j:Nat):Bool:=(us.getD j default).toB
def aL (us:List U)(j:Nat):List (List U):=(us.getD j default).toL
def aS (us:List U)(j:Nat):ByteArray:=(us.getD j default).toS
theorem inI {us:List U}{n:Nat}(h:∀j u,us[j]? =some u->T j=u)(e:us.length=n)(b:j < n):aI us j=I T j:=by
 have:=h j us[j] (AF (by omega));unfold aI I;grind
theorem inB {us:List U}{n:Nat}(h:∀j u,us[j]? =some u->T j=u)(e:us.length=n)(b:j < n):aB us j=B T j:=by
 have:=h j us[j] (AF (by omega));unfold aB B;grind
theorem inL {us:List U}{n:Nat}(h:∀j u,us[j]? =some u->T j=u)(e:us.length=n)(b:j < n):aL us j=L T j:=by
 have:=h j us[j] (AF (by omega));unfold aL L;grind
theorem inS {us:List U}{n:Nat}(h:∀j u,us[j]? =some u->T j=u)(e:us.length=n)(b:j < n):aS us j=S T j:=by
 have:=h j us[j] (AF (by omega));unfold aS S;grind
end
section
open Go
variable{D:Bs}{R:Nat}
theorem ZM (h:D.inScope R=true):Dc D.fv D.nh (D.nh+D.k) R D.eqs=true/\H4 D.fv D.nh R (pcL D.pcn)=true/\∀x∈D.fv,x < D.nh:=by
 simp only[Bs.inScope,AB] at h;obtain⟨⟨⟨⟨aF,e⟩,_⟩,_⟩,k⟩:=h;exact⟨aF,e,fun x b=>CU (Ae.1 k x b)⟩
theorem Wl {T:Tab}{H:List U}(b9:D.inScope R=true)(hk:H.length=D.k)(bs:D.nxt.length=D.k)(hH:∀j,j < D.k->T (D.nh+j)=D.res j (D.fv.map T.get++H))(hE:∀p∈D.eqs,T p.1=p.2.eval T)
  (e:List U->Prop) (K:List U->Nat) (h0:e H)
  (ca:∀(k:Tab) (s:List U),s.length=D.k->(∀x∈D.fv,k x=T x)->(∀j u,s[j]? =some u->k (D.nh+j)=u)->Bi k (Gf D.eqs.reverse)->e s->Ux k (Lc D.obs)/\(pcv k D.pcn->e (D.nxt.map (Rf.eval k))/\K (D.nxt.map (Rf.eval k)) < K s)):
  D.owes (D.fv.map T.get++H)/\(∃t,e t/\t.length=D.k/\∀j u,t[j]? =some u->T (D.nh+j)=u)/\¬pcv T D.pcn:=by
 obtain⟨a5,bt,ag⟩:=ZM b9;have bo:D.nh<=D.nh+D.k:=Nat.le_add_right _ _;generalize a8:D.fv.map T.get=us at*;have bl:us.length=D.fv.length:=by rw[<-a8];simp
 have e1:(us++H).take D.fv.length=us:=by rw[<-bl];simp
 have e2:(us++H).drop D.fv.length=H:=by rw[<-bl];simp
 have a1:∀s:List U,s.length=D.k->e s->Ux (D.tab us s) (Lc D.obs)/\(pcv (D.tab us s) D.pcn->e (D.nxt.map (Rf.eval (D.tab us s)))/\K (D.nxt.map (Rf.eval (D.tab us s))) < K s):=fun s aa ab=>by
  refine ca (D.tab us s) s aa (fun x hx=>?_) (fun j u h=>?_) (NA fun p b=>?_) ab
  .have:=ag x hx;unfold Bs.tab;rw[(DZ a5).2.2 x (.inl (by omega)),IL _ _ _ _ this,<-a8];exact Of D.fv x hx
  .have b5:=(AG.1 h).1;unfold Bs.tab;rw[(DZ a5).2.2 _ (.inl (by omega))];exact HT _ _ _ _ _ h
  .exact GT ag bo a5 p (List.mem_reverse.1 b)
 have Z:∀s,D.step us s=(bif pcB (D.tab us s) D.pcn then some (D.nxt.map (Rf.eval (D.tab us s))) else none):=fun s=>rfl;have go:∀(n:Nat) (s:List U),K s<=n->s.length=D.k->e s->∃m t,Hp (D.step us) m s=some t/\D.step us t=none/\e t/\t.length=D.k:=by
  intro n;induction n with
  |zero=>
   intro s hm aa ab;cases b:pcB (D.tab us s) D.pcn with
   |true=>have:=((a1 s aa ab).2 (ND.1 b)).2;omega
   |false=>exact⟨0,s,rfl,by rw[Z,b];rfl,ab,aa⟩
  |succ n ih=>
   intro s hm aa ab;cases b:pcB (D.tab us s) D.pcn with
   |true=>
    obtain⟨k1,E⟩:=(a1 s aa ab).2 (ND.1 b);obtain⟨m,t,q1,q,q3,q4⟩:=ih (D.nxt.map (Rf.eval (D.tab us s))) (by omega) (by simp[bs]) k1;refine⟨m+1,t,?_,q,q3,q4⟩;simp only[Hp,Z,b,cond_true,Ag];exact q1
   |false=>exact⟨0,s,rfl,by rw[Z,b];rfl,ab,aa⟩
 obtain⟨m,t,q1,q,q3,q4⟩:=go (K H) H (AE _) hk h0;have b8:∀s,FZ (D.step us) H s->e s/\s.length=D.k:=by
  intro s N;induction N with
  |zero=>exact⟨h0,hk⟩
  |succ N X ih=>
   rename_i aF s2;rw[Z] at X;cases b:pcB (D.tab us aF) D.pcn with
   |true=>
    rw[b] at X;cases X;exact⟨((a1 aF ih.2 ih.1).2 (ND.1 b)).1,by simp[bs]⟩
   |false=>rw[b] at X;cases X
 have b6:=iF q1 q;have hT:∀j u,t[j]? =some u->T (D.nh+j)=u:=fun j u h=>by
  have b5:=(AG.1 h).1;rw[hH j (by omega)];unfold Bs.res;rw[e1,e2,b6];simp[List.getD,h]
 refine⟨⟨by rw[e1,e2];exact⟨m,t,q1,q⟩,fun s N=>?_⟩,⟨t,q3,q4,hT⟩,fun b=>?_⟩
 .rw[e1,e2] at N;rw[e1];obtain⟨i1,i2⟩:=b8 s N;exact Jb (a1 s i2 i1).1
 .have b2:∀x,x∈D.fv\/(D.nh<=x/\x < R)->T x=D.tab us t x:=fun x hx=>by
   have:=PL (az:=T) (J:=(OR D.fv us).upds D.nh t) ag bo (fun y Y=>?_) a5 x hx
   .rw[QZ hE] at this;exact this
   .rcases Y with Y|Y
    .rw[IL _ _ _ _ (ag y Y),<-a8];exact (Of D.fv y Y).symm
    .have h:y - D.nh < t.length:=by omega
     have O:=HT t (OR D.fv us) D.nh (y - D.nh) t[y - D.nh] (AF h);have C:=hT (y - D.nh) t[y - D.nh] (AF h);rw[show D.nh+(y - D.nh)=y by omega] at O C;rw[O,C]
  have:pcB (D.tab us t) D.pcn=true:=by
   cases hc:D.pcn with
   |none=>rfl
   |some c=>
    rw[hc] at b bt;have b4:=Ft bt c (by simp[pcL]);rw[ND];show D.tab us t c= .bool true;rw[<-b2 c b4];exact b
  rw[Z,this] at q;cases q
def eX:Op2->String
 | .add=> "add" | .sub=> "sub" | .mul=> "mul" | .div=> "div" | .mod=> "mod" | .tdiv=> "tdiv" | .tmod=> "tmod" | .min=> "min" | .max=> "max"
def vw:BinOp->String
 | .and=> "and" | .or=> "or" | .xor=> "xor" |_=> "andNot"
def xu:Opn->Tg
 | .take=> "take" | .drop=> "drop" | .sub=> "cut" | .slen=> "slen" | .sat=> "sat"
 | .id _=> "id" | .not=> "not" | .and=> "and" | .or=> "or" | .lt=> "lt" | .le=> "le" | .eq=> "eq" | .ne=> "ne"
 | .eqs _=> "eqs" | .nes _=> "nes" | .eqb=> "eqb" | .neb=> "neb" | .ite _=> "if" | .ifb=> "ifb"
 | .o2 o=>eX o| .w2 k o=>FR k++ " " ++eX o| .wx k o=>FR k++ " " ++eX o| .w1 k=>FR k++ " id" | .wneg k=>FR k++ " neg" | .neg=> "neg" | .bits o k=>FR k++ " " ++vw o
 | .len=> "len" | .app=> "app" | .get t c=>W8 (tyC t)++toString c| .mget t G c _=> "m" ++W8 (tyC t)++toString G++ " " ++toString c| .mhas G _=> "mhas " ++toString G| .mset G _=> "mset " ++toString G| .pick _=> "pick" | .row _ s _=> "row " ++toString s| .rset c _=> "rset " ++toString c| .rep _=> "rep"
 | .outI tg _=>tg| .outB tg _=>tg| .outL tg _=>tg| .outS tg _=>tg| .res _ D j=>D.tg j
def xk:PO->Tg
 | .take=> "take" | .sub=> "cut" | .nez=> "nez" | .t=> "t" | .inr=> "in" | .inl=> "inl" | .ins=> "ins" | .btw ar ab=> "between " ++toString ar++ " " ++toString ab| .fits b=> "fits " ++toString b| .ready=> "ready" | .ne=> "ne" | .pre tg _=>tg| .owes D=>D.tg 0
def En.ex (e:En):Nat × Ex:=(e.x,⟨xu e.op,opF e.op,e.rs⟩)
def ObE.ob (o:ObE):Ob:=⟨o.pc,⟨xk o.po,poF o.po,o.rs⟩⟩
def mkD (nh k:Nat)(b:List En)(pcn:Nat)(nxt:List Rf)(K:List ObE)(fv:List Nat):Bs:=
 {nh,k,eqs:=(b.map En.ex).reverse,pcn:=some pcn,nxt,obs:=K.map ObE.ob,fv }
def hds:Nat->List Ty->DB
 |_,[]=>[]
 |x,t::au=>(x,t)::hds (x+1) au
def hdU (T:Tab):Nat->List Ty->List U
 |_,[]=>[]
 |x,t::au=>uV T t x::hdU T (x+1) au
def uOf:Ty->U->U
 | .i,u=> .int u.toI
 | .b,u=> .bool u.toB
 | .l,u=> .list u.toL
 | .r _,u=>u
 | .s,u=> .str u.toS
def TyU:List Ty->List U->Prop
 |[],[]=>True
 |t::au,u::us=>(u=uOf t u/\noR t=true)/\TyU au us
 |_,_=>False
def GC (fv:List Nat)(ai:DB):DB:=ai.filter fun p=>fv.contains p.1
section
variable {T:Tab}
theorem Pb:∀{au:List Ty} {ah:List Rf},au.all noR=true->au.length=ah.length->TyU au (List.zipWith (uR T) au ah)
 |[],[],_,_=>trivial
 |t::au,r::ah,h0,h=>by
  simp only[List.all_cons,AB] at h0;exact⟨⟨by cases t<;>rfl,h0.1⟩,Pb h0.2 (by simpa using h)⟩
 |[],_::_,_,h=>by simp at h
 |_::_,[],_,h=>by simp at h
theorem SR:∀{au:List Ty} {us:List U} {x:Nat},TyU au us->(∀j u,us[j]? =some u->T (x+j)=u)->Ba T (hds x au)/\hdU T x au=us
 |[],[],_,_,_=>⟨trivial,rfl⟩
 |t::au,u::us,x,h,hT=>by
  obtain⟨O,C⟩:=SR (x:=x+1) h.2 fun j v q=>by
   have:=hT (j+1) v (by simpa using q);rw[show x+(j+1)=x+1+j by omega] at this;exact this
  have b:T.get x=u:=hT 0 u rfl;have e:u=uV T t x:=by
   have:=h.1.1;cases t<;>(simp only[uV,uR,iR,bR,lR,stR,Rf.eval];rw[show T x=u from b];try exact this)
  exact⟨⟨oM t (b.trans e) (fun c k=>by have:=h.1.2;rw[k] at this;cases this),O⟩,by simp only[hdU];rw[C,<-e]⟩
 |[],_::_,_,h,_=>h.elim
 |_::_,[],_,h,_=>h.elim
theorem EO {J:Tab}{fv:List Nat}(b:∀x∈fv,J.get x=T.get x):∀{ai:DB},Ba T ai->Ba J (GC fv ai)
 |[],_=>trivial
 |(x,t)::r,h=>by
  unfold GC;rw[List.filter_cons];split
  .rename_i q;have e:=b x (List.contains_iff_mem.1 q);refine⟨?_,EO b h.2⟩;cases t with
   |r c=>
    have O:mR T x c:=h.1;intro i;obtain⟨n,k⟩:=O i;exact⟨n,by unfold L at k⊢;rw[e];exact k⟩
   |_=>
    have O:=Sty.get h.1;show J.get x=_;rw[e,O];simp only[uV,uR,iR,bR,lR,stR,Rf.eval];rw[show J x=T x from e]
  .exact EO b h.2
theorem P8 (b:List En):Gf (((b.map En.ex).reverse).reverse)=b.map En.be:=by
 rw[List.reverse_reverse];unfold Gf;rw[List.map_map];rfl
theorem dE (K:List ObE):Lc (K.map ObE.ob)=K.map ObE.be:=by
 unfold Lc;rw[List.map_map];rfl
def Pq (D:Bs)(args:List Rf):Nat->Nat->List BE
 |_,0=>[]
 |j,k+1=>(D.nh+j,D.res j,args)::Pq D args (j+1) k
theorem QD {D:Bs}{args:List Rf}:∀{k U:Nat},Bi T (Pq D args U k)->∀j,j < k->T (D.nh+(U+j))=D.res (U+j) (args.map (Rf.eval T))
 |0,_,_,j,hj=>by omega
 |k+1,U,h,j,hj=>by
  cases j with
  |zero=>exact h.1
  |succ j=>
   have:=QD h.2 j (by omega);rw[show U+1+j=U+(j+1) by omega] at this;exact this
theorem CK {ai:DB}{nh k pcn R:Nat}{b:List En}{K:List ObE}{nxt H:List Rf}{fv:List Nat}{A:List Ty}(bs:(mkD nh k b pcn nxt K fv).inScope R=true)(hn:H.length=k)(bm:nxt.length=k)(bo:A.length=k)(ag:A.all noR=true)
  (Y:Ba T ai) (bi:Hc ai A H=true) (bb:qu (hds nh A++GC fv ai) b A nxt=true)
  (hB:Bi T (b.map En.be)) (hH:Bi T (Pq (mkD nh k b pcn nxt K fv) (fv.map Rf.e++H) 0 k))
  (e:List U->Prop) (q:List U->Nat) (h0:e (List.zipWith (uR T) A H))
  (bt:∀J:Tab,(∀x∈fv,J.get x=T.get x)->BV J b->e (hdU J nh A)->
   J6 J K/\(B J pcn=true->e (List.zipWith (uR J) A nxt)/\q (List.zipWith (uR J) A nxt) < q (hdU J nh A))):
  (mkD nh k b pcn nxt K fv).owes ((fv.map Rf.e++H).map (Rf.eval T))/\Ba T (hds nh A)/\e (hdU T nh A)/\¬B T pcn=true:=by
 have hI:H.map (Rf.eval T)=List.zipWith (uR T) A H:=DK Y bi;have X:(fv.map Rf.e++H).map (Rf.eval T)=fv.map T.get++List.zipWith (uR T) A H:=by
  rw[AL,hI,List.map_map];rfl
 have C:=fun j (E:j < k)=>QD hH j E;simp only[AM] at C;rw[X] at C;rw[X];have b1:=Wl (D:=mkD nh k b pcn nxt K fv) (T:=T) (R:=R) (H:=List.zipWith (uR T) A H) bs (by simp[hn,bo];rfl) bm (fun j E=>C j E)
  (fun p N=>Uf (l:=((mkD nh k b pcn nxt K fv).eqs).reverse) (by rw[show (mkD nh k b pcn nxt K fv).eqs=(b.map En.ex).reverse from rfl,P8];exact hB) p (List.mem_reverse.2 N))
  (fun s=>TyU A s/\e s) q ⟨Pb ag (by omega),h0⟩ (fun J s aa ad bc Z ab=>by
   obtain⟨i1,i2⟩:=ab;obtain⟨aF,y⟩:=SR i1 bc;rw[show (mkD nh k b pcn nxt K fv).eqs=(b.map En.ex).reverse from rfl,P8] at Z;obtain⟨f1,f2⟩:=B8 (aF.append (EO ad Y)) bb Z;obtain⟨g1,aw⟩:=bt J ad f1 (by rw[show hdU J nh A=s from y];exact i2);refine⟨by rw[show (mkD nh k b pcn nxt K fv).obs=K.map ObE.ob from rfl,dE];exact JY g1,fun N=>?_⟩;obtain⟨g3,O⟩:=aw (dB (ae:=some pcn) N);show (TyU A (nxt.map (Rf.eval J))/\e (nxt.map (Rf.eval J)))/\q (nxt.map (Rf.eval J)) < q s;rw[f2];rw[show hdU J nh A=s from y] at O;exact⟨⟨Pb ag (by omega),g3⟩,O⟩)
 obtain⟨q1,⟨t,⟨q2,q3⟩,q4,q5⟩,q6⟩:=b1;obtain⟨aF,y⟩:=SR q2 q5;exact⟨q1,aF,by rw[show hdU T nh A=t from y];exact q3,fun h=>q6 (dw (ae:=some pcn) h)⟩
end
open Go
variable{T J:Tab}{A:List Ty}{x:Nat}
theorem NT {ai:DB}{nh k pcn R:Nat}{b:List En}{K:List ObE}{nxt H:List Rf}{fv:List Nat}(bm:(mkD nh k b pcn nxt K fv).inScope R=true)(hn:H.length=k)(bi:nxt.length=k)(bl:A.length=k)(ag:A.all noR=true)
  (Y:Ba T ai) (bb:Hc ai A H=true)
  (hB:Bi T (b.map En.be)) (hH:Bi T (Pq (mkD nh k b pcn nxt K fv) (fv.map Rf.e++H) 0 k))
  (e:List U->Prop) (q:List U->Nat) (h0:e (List.zipWith (uR T) A H))
  (bo:∀J:Tab,(∀x∈fv,J.get x=T.get x)->Ba J (hds nh A++GC fv ai)->Bi J (b.map En.be)->e (hdU J nh A)->
   nxt.map (Rf.eval J)=List.zipWith (uR J) A nxt/\J6 J K/\(B J pcn=true->e (List.zipWith (uR J) A nxt)/\q (List.zipWith (uR J) A nxt) < q (hdU J nh A))):
  (mkD nh k b pcn nxt K fv).owes ((fv.map Rf.e++H).map (Rf.eval T))/\Ba T (hds nh A)/\e (hdU T nh A)/\¬B T pcn=true:=by
 have hI:H.map (Rf.eval T)=List.zipWith (uR T) A H:=DK Y bb;have X:(fv.map Rf.e++H).map (Rf.eval T)=fv.map T.get++List.zipWith (uR T) A H:=by
  rw[AL,hI,List.map_map];rfl
 have C:=fun j (E:j < k)=>QD hH j E;simp only[AM] at C;rw[X] at C;rw[X];have bx:=Wl (D:=mkD nh k b pcn nxt K fv) (T:=T) (R:=R) (H:=List.zipWith (uR T) A H) bm (by simp[hn,bl];rfl) bi (fun j E=>C j E)
  (fun p N=>Uf (l:=((mkD nh k b pcn nxt K fv).eqs).reverse) (by rw[show (mkD nh k b pcn nxt K fv).eqs=(b.map En.ex).reverse from rfl,P8];exact hB) p (List.mem_reverse.2 N))
  (fun s=>TyU A s/\e s) q ⟨Pb ag (by omega),h0⟩ (fun J s aa ad ba Z ab=>by
   obtain⟨i1,i2⟩:=ab;obtain⟨aF,y⟩:=SR i1 ba;rw[show (mkD nh k b pcn nxt K fv).eqs=(b.map En.ex).reverse from rfl,P8] at Z;obtain⟨f2,g1,aw⟩:=bo J ad (aF.append (EO ad Y)) Z (by rw[show hdU J nh A=s from y];exact i2);refine⟨by rw[show (mkD nh k b pcn nxt K fv).obs=K.map ObE.ob from rfl,dE];exact JY g1,fun N=>?_⟩;obtain⟨g3,O⟩:=aw (dB (ae:=some pcn) N);show (TyU A (nxt.map (Rf.eval J))/\e (nxt.map (Rf.eval J)))/\q (nxt.map (Rf.eval J)) < q s;rw[f2];rw[show hdU J nh A=s from y] at O;exact⟨⟨Pb ag (by omega),g3⟩,O⟩)
 obtain⟨q1,⟨t,⟨q2,q3⟩,q4,q5⟩,q6⟩:=bx;obtain⟨aF,y⟩:=SR q2 q5;exact⟨q1,aF,by rw[show hdU T nh A=t from y];exact q3,fun h=>q6 (dw (ae:=some pcn) h)⟩
def bD (D:Bs)(ah:List Rf):Nat->Nat->List Ty->List En
 |_,_,[]=>[]
 |j,x,t::au=>⟨x,.res t D j,ah⟩::bD D ah (j+1) (x+1) au
def B5 (D:Bs)(A:List Ty)(ah:List Rf):List En:=bD D ah 0 D.nh A
theorem YM {T:Tab}{D:Bs}{ah:List Rf}:∀{A:List Ty} {j:Nat},Bi T ((bD D ah j (D.nh+j) A).map En.be)->Bi T (Pq D ah j A.length)
 |[],_,_=>trivial
 |_::_,_,h=>⟨h.1,YM h.2⟩
theorem B6 {D:Bs}{ah:List Rf}(h:Bi T ((B5 D A ah).map En.be)):Bi T (Pq D ah 0 A.length):=YM (j:=0) h
theorem fvI (h:J.get x=T.get x):I J x=I T x:=by unfold I;rw[h]
theorem fvB (h:J.get x=T.get x):B J x=B T x:=by unfold B;rw[h]
theorem fvL (h:J.get x=T.get x):L J x=L T x:=by unfold L;rw[h]
theorem fvS (h:J.get x=T.get x):S J x=S T x:=by unfold S;rw[h]
abbrev k64:Kd:= .int .i64 IntKind.i64.min IntKind.i64.max
abbrev Cy (x:Nat):AC:= .i .i64 IntKind.i64.min IntKind.i64.max x
end
section
open Go Go.RowKit
mutual
theorem KdU.up {B:Nat}(b:B<=BT):∀{k:Kd} {u:U},KdU B k u->KdU BT k u
 | .int _ _ _,_,h=>h
 | .bool,_,h=>h
 | .str,_,⟨s,e,h⟩=>⟨s,e,AV h b⟩
 | .val,_,_=>trivial
 | .any,_,_=>trivial
 | .list _,_,⟨l,e,O,C⟩=>⟨l,e,AV O b,fun i us ab=>Bb.up b (C i us ab)⟩
theorem Bb.up {B:Nat}(b:B<=BT):∀{ks:List Kd} {us:List U},Bb B ks us->Bb BT ks us
 |[],_,h=>h
 |_::_,_,⟨u,us',e,O,C⟩=>⟨u,us',e,KdU.up b O,Bb.up b C⟩
end
def cd (B:Nat)(T:Tab):Nat->List Kd->Prop
 |_,[]=>True
 |x,.list _::ks=>(L T x).length<=B/\cd B T (x+1) ks
 |x,_::ks=>cd B T (x+1) ks
theorem iV {B:Nat}{T:Tab}:∀{ks:List Kd} {us:List U} {x:Nat},Bb B ks us->(∀j u,us[j]? =some u->T (x+j)=u)->cd B T x ks
 |[],us,x,_,_=>trivial
 |k::ks,us,x,⟨u,us',e,O,C⟩,hT=>by
  subst e;have h:=iV (x:=x+1) C fun j v y=>by
   have:=hT (j+1) v (by simpa using y);rw[show x+(j+1)=x+1+j by omega] at this;exact this
  have b:T.get x=u:=hT 0 u rfl;cases k with
  |list ay=>
   obtain⟨n,q,s,_⟩:=O;rw[q] at b;exact⟨by rw[vL b];exact s,h⟩
  |_=>exact h
def ko (n:Nat)(r:Option (AC × Mem × G)):Option (Nat × List BE × List BO):=
 match r with
 |some (.b x,_,g)=>if Oq n g then some (x,Gf g.eqs.reverse,Lc g.obs) else none
 |_=>none
def pQ (P:Program)(l:List (FuncId × Bf))(Bp:FuncId->EM)(aK am:Nat)(f:FuncId)(aU:List AC)(n:Nat):Option (AC × Mem × G):=
 GN P (Mr l) Bp aK am Ys.none f aU none [] { n,eqs:=[],obs:=[] }
theorem qn {P:Program}{w:World}{B:Nat}{H:Type}{enc:TypeId × Value->H}{sp:Nat->Bool}{bc:Bool}{base:Nat}(q:B<=BT)(hm:P.follows .mixedOrders=true){l:List (FuncId × Bf)}(hl:∀p∈l,Bl P p.1 p.2){Bp:FuncId->EM}{aK am N:Nat}{f:FuncId}{au:List TypeId}{aU:List AC}{ks:List Kd}{x:Nat}{ay:List En}{os:List ObE}
  (a1:MC P N au 0=some (aU,ks)) (b:ko ks.length (pQ P l Bp aK am f aU ks.length)=some (x,ay.map En.be,os.map ObE.be))
  (bi:∀T:Tab,Ba T (CA 0 ks)->Bnd T 0 ks->cd B T 0 ks->Bi T (ay.map En.be)->J6 T os/\Go.Eng.B T x=true)
  {Y:List Value} {h:List (DataW H)} {ps:List MemPlace} (ht:DataW.TrodAll enc P w 0 sp bc au Y h ps) (hv:∀(j:Nat) t v,au[j]? =some t->Y[j]? =some v->Value.okWide P w .any base t v) (aa:∀d∈h,Et B d):
  Calls P f (Y:List Value).toArray w fun e K=>e= .returned (.bool true)/\Below w.heap.size w K:=by
 unfold ko at b;split at b
 .rename_i x0 ag ao hr;split at b
  .rename_i a4;injection b with b
   injection b with X b
   injection b with Z e2
   refine xI q hm hl a1 hr a4 (fun T us E b0 hT a5=>?_) ht hv aa;have y:Bi T (Gf ao.eqs.reverse):=NA fun p hp=>a5 p (List.mem_reverse.1 hp);rw[Z] at y;have s:∀j u,us[j]? =some u->T (0+j)=u:=fun j u hj=>by rw[AM];exact hT j u hj
   obtain⟨i1,i2⟩:=SU (x:=0) (Bb.up q E) s;obtain⟨O,C⟩:=bi T i1 i2 (iV E s) y;have k:=JY O;rw[<-e2] at k;refine⟨Jb k,?_⟩;rw[X];exact dw (ae:=some x) C
  .cases b
 .cases b
end
section
open Go
abbrev Knw:=List (Nat × Ty × Rf)
def look:Knw->Nat->Ty->Option Rf
 |[],_,_=>none
 |(y,t,r)::l,x,u=>bif Nat.beq y x&&PR t u then some r else look l x u
inductive SE where
 |k (t:Ty) (r:Rf)
 |q (op:Opn) (rs:List Rf)
open Go
end
section
open Go
theorem BV.cut {T:Tab}{a b:List En}(h:BV T (a++b)):BV T a/\BV T b:=⟨h.left,h.right⟩
theorem zN:(∀(T:Tab) (x:Nat),bR T (.n x)= !B T x)/\(∀b:Bool,((!b)=true)=(b=false))/\(∀b:Bool,(¬b=true)=(b=false)):=
 ⟨fun T x=>bR_n,fun b=>Bool.not_eq_true' b,fun b=>Bool.not_eq_true b⟩
theorem zC:(∀(T:Tab) (b:Bool),bR T (.c (.bool b))=b)/\((false=true)=False)/\(∀{aW:Sort 1} (a:aW),(a=a)=True)/\(∀p:Prop,(p/\True)=p)/\(∀p:Prop,(p/\False)=False)/\(∀p:Prop,(p\/False)=p)/\(∀p:Prop,(False\/p)=p)/\(∀p:Prop,(True/\p)=p)/\(∀p:Prop,(False/\p)=False):=
 ⟨fun T b=>bR_c,AZ,fun a=>eq_self a,and_true,and_false,or_false,false_or,true_and,false_and⟩
open Go
open Go
theorem zR:(∀(T:Tab) (x:Nat),iR T (.e x)=I T x)/\(∀(T:Tab) (n:Int),iR T (.c (.int n))=n):=
 ⟨fun T x=>iR_e,fun T n=>iR_c⟩
theorem zL:(∀(T:Tab) (x:Nat),lR T (.e x)=L T x)/\(∀T:Tab,lR T (.c (.list []))=[]):=
 ⟨fun T x=>lR_e,fun T=>lR_c⟩
theorem zS:(∀(T:Tab) (x:Nat),stR T (.e x)=S T x)/\(∀(T:Tab) (s:ByteArray),stR T (.c (.str s))=s):=
 ⟨fun T x=>xj,fun T s=>xd⟩
theorem zW:(∀(f:Ty->Rf->U) (a:Ty) (b:Rf) (l:List Ty) (r:List Rf),List.zipWith f (a::l) (b::r)=f a b::List.zipWith f l r)/\(∀(f:Ty->Rf->U) (r:List Rf),List.zipWith f [] r=[])/\(∀(a:U) (l:List U) (n:Nat),List.take (n+1) (a::l)=a::List.take n l)/\(∀l:List U,List.take 0 l=[])/\(∀(a:U) (l:List U) (n:Nat),List.drop (n+1) (a::l)=List.drop n l)/\(∀l:List U,List.drop 0 l=l):=
 ⟨fun _ _ _ _ _=>rfl,fun _ _=>rfl,fun _ _ _=>rfl,fun _=>rfl,fun _ _ _=>rfl,fun _=>rfl⟩
end
section
def GF:List Int:=[10,9,8,7,6,6,5,5,4,4,3,3,3,2,2,2,1,1,1,1]
def IE:List Int->Int->Int
 |[],_=>0
 |a::l,n=>if n<=0 then a else IE l (n - 1)
def CJ (a b:Int)(e:Bool):Int:=
 if e=true then (if a < b then 20 - IE GF (min ((b - a) / 100) 19) else IE GF (min ((a - b) / 100) 19)) else 10
def Dp (g:Int):Int:=if g<=0 then 2000 - 40*g else 2000 - 50*g
def B9 (x b:Int):Int:=min (max (x+b) (-10000)) 10000
def VP (x:Int):Nat->Int->Int
 |0,g=>g
 |n+1,g=>if Dp (g - 1)<=x then VP x n (g - 1) else g
def upN (x:Int):Nat->Int->Int
 |0,g=>g
 |n+1,g=>if x<=Dp (g+1) then upN x n (g+1) else g
def Cg (x g:Int):Int:=VP x (g+12).toNat g
def upG (x g:Int):Int:=upN x (48 - g).toNat g
def Cz (x g:Int):Int:=upG x (Cg x g)
variable{x g:Int}
theorem Sc (h: -12 < g)(C:Dp (g - 1)<=x):Cg x g=Cg x (g - 1):=by
 unfold Cg;rw[show (g+12).toNat=(g - 1+12).toNat+1 by omega];show (if _ then _ else _)=_;rw[BH C]
theorem Sg (h:¬(-12 < g/\Dp (g - 1)<=x)):Cg x g=g:=by
 unfold Cg;cases e:(g+12).toNat with
 |zero=>rfl
 |succ n=>
  show (if _ then _ else _)=_;rw[BG fun a=>h ⟨by omega,a⟩]
theorem XH (h:g < 48)(C:x<=Dp (g+1)):upG x g=upG x (g+1):=by
 unfold upG;rw[show (48 - g).toNat=(48 - (g+1)).toNat+1 by omega];show (if _ then _ else _)=_;rw[BH C]
theorem XW (h:¬(g < 48/\x<=Dp (g+1))):upG x g=g:=by
 unfold upG;cases e:(48 - g).toNat with
 |zero=>rfl
 |succ n=>
  show (if _ then _ else _)=_;rw[BG fun a=>h ⟨by omega,a⟩]
theorem vf (n:Nat):∀g:Int,g+12=n-> -12<=VP x n g/\VP x n g<=g:=by
 induction n with
 |zero=>exact fun g h=>⟨by show -12<=g;omega,Aw _⟩
 |succ n b=>
  intro g h;unfold VP;split
  .have:=b (g - 1) (by omega);omega
  .omega
theorem yF (n:Nat):∀g:Int,48 - g=n->g<=upN x n g/\upN x n g<=48:=by
 induction n with
 |zero=>exact fun g h=>⟨Aw _,by show g<=48;omega⟩
 |succ n b=>
  intro g h;unfold upN;split
  .have:=b (g+1) (by omega);omega
  .omega
theorem uG (h: -12<=g)(C:g<=48): -12<=Cz x g/\Cz x g<=48:=by
 have a:=vf (x:=x) (g+12).toNat g (by omega);have b:=yF (x:=x) (48 - Cg x g).toNat (Cg x g) (by unfold Cg;omega);show -12<=upN _ _ _/\upN _ _ _<=48;unfold Cg at*;omega
theorem sO (x b:Int): -10000<=B9 x b/\B9 x b<=10000:=by unfold B9;omega
end
section
open Go Go.RowKit
variable{T:Tab}{W:Nat->Option Nat}{w ac:World}
theorem BY.below {n:Nat}(h:Below w.heap.size w ac):BY T n W [] w W [] ac where
 os:=h.os
 tape:=h.tape
 output:=h.output
 size:=h.size
 mlen:=fun _ h=>h
 rho:=fun id h=>by simp[Mem.at,Blk.ptrOk] at h
 untr:=fun _ _ h=>h
 fresh:=fun id b _ h _=>by simp[Mem.at,Blk.tracked] at h
 old:=fun k q _=>h.block k q
 tok:=fun id x ks e h=>by simp[Mem.at] at h
 row:=fun id x y ks e h=>by simp[Mem.at] at h
theorem BX.below {n ap:Nat}{ad:Nat->Option Nat}(k:BX T n W [] w)(h:Below w.heap.size w ac):BX T ap ad [] ac where
 blk:=fun id=>by simp[Mem.at,Cj]
 inj:=fun id q b h=>by simp[Mem.at,Blk.tracked] at h
 fr:=fun b off e=>k.fr b off (AV h.size e)
theorem WF {P:Program}{f:FuncId}{t:Bf}(H:t.blks=[])(O:t.m'=[])(N:∃aA,P.funcs[f]? =some aA/\aA.body.isSome=true/\(aA.name== "runtime.NumGoroutine")=false)
  (h:∀(T:Tab) (us:List U),us.length=t.n->(∀j u,(t.us us)[j]? =some u->T j=u)->(∀p∈t.pre,p.2 us)->∀ W w Y,BR T t.n W [] w t.args Y->
   Calls P f (Y:List Value).toArray w fun e ac=>∃v,e= .returned v/\Below w.heap.size w ac/\BQ T (t.n+t.outs.length) W [] ac t.c v) (Z:t.row=none:=by rfl):Bl P f t:=by
 refine⟨fun _=>⟨⟨0,[],.nil⟩, #[],.skip,.skip,[]⟩,fun T us _ K E X W w Y q k=>⟨N,?_⟩⟩;have C:t.m=[]:=by unfold Bf.m;rw[Z,H];rfl
 rw[C] at q k⊢;rw[O];exact (h T us K E X W w Y q).mono fun e ac ⟨v,s,b,y⟩=>⟨v, W,s,BY.below b,k.below b,y⟩
end
section
open Go Go.RowKit
open Go.ChangeMaps (setBlock)
section
variable {P:Program}{T:Tab}{n:Nat}{W :Nat->Option Nat}{m:Mem}{w ac:World}{a:Act}{l:Loc}{r:Option Nat}{al:Nat}
theorem BY.off {k ap:Nat}{ad:Nat->Option Nat}{ag:Mem}(aa:BY T ap W m w ad ag ac)(s:k < w.heap.size)(e:∀id,(m.at id).tracked=true-> W id≠some k):∀id,(ag.at id).tracked=true-> ad id≠some k:=fun id q b=>by
 rcases aa.back q b with h|⟨O,C⟩
 .omega
 .exact e id O C
theorem FK.put {B D:Nat}{o:Obj}{b:List Deferred}(h:FK B W m w b)(N:∀x,w.heap[D]? ≠some (.deferred x)):FK B W m (w.putObj D o) b:=by
 obtain⟨y,s,O,C,H⟩:=h;refine⟨by rw[World.putObj_size];exact y,s,O,C,fun q K=>?_⟩;obtain⟨X,k,E⟩:=H q K;exact⟨X,by rw[World.putObj_heap_other (fun e=>by subst e;exact N _ k)];exact k,E⟩
variable{o:Oper}{d:Tmp}{v:Value}{i:Nat}{Q:Exit->Act->World->Prop}{x:Operand}
theorem EE (h:d < a.tmps.size):(a.put (some d) v).eval (.tmp d)=v:=by
 simp[Act.put,Act.eval,AJ,h]
theorem EQ {i:Tmp}(h:i≠d):(a.put (some d) v).eval (.tmp i)=a.eval (.tmp i):=by
 simp[Act.put,Act.eval,AJ,Array.getElem?_setIfInBounds_ne (Ne.symm h)]
theorem DU {d:Option Tmp}:(a.put d v).tmps.size=a.tmps.size:=by cases d<;>simp[Act.put]
theorem Rel.putNone (h:Rel T n W l a w)(hd:l.tmps.get d=none)(v:Value):Rel T n W l (a.put (some d) v) w:=by
 refine⟨h.defers,by rw[DU];exact h.size,fun i c b=>?_,h.mem⟩;have k:i≠d:=fun e=>by subst e;rw[hd] at b;cases b
 have:(a.put (some d) v).tmps.getD i undef=a.tmps.getD i undef:=EQ k;rw[this];exact h.tmps i c b
theorem C0 {Z:Array Oper}{b:List Nat}(k:Z[i]? =some o)(e:o.guard=none)(h:o.wpIn (fen r) al P a w (wpOpsIn (fen r) al P Z Q b) Q):
  wpOpsIn (fen r) al P Z Q (i::b) a w:=by
 simp only[wpOpsIn,k];rw[BH (by simp[Region.wanted,e])];exact h
theorem E9 {K:Act->World->Prop}(e:∀c,o.op≠ .defer c)(h:(execOp a.eval o).run P w= .ok (.value v) ac)(b:K (a.put o.dst v) ac):o.wpIn (fen r) al P a w K Q:=
 Kh e (by rw[h];exact b)
theorem UY (b:o.op= .move x):(execOp a.eval o).run P w= .ok (.value (a.eval x)) w:=by
 simp[execOp,b]
theorem O5 {Y:Array Value}(b:o.op= .extract x i)(e:a.eval x= .tuple Y)(ab:Y[i]? =some v):(execOp a.eval o).run P w= .ok (.value v) w:=by
 simp[execOp,b,e,Instr.extract,ab]
theorem og {t:TypeId}(b:o.op= .range t x)(h:(Instr.range t (a.eval x)).run P w= .ok v ac):(execOp a.eval o).run P w= .ok (.value v) ac:=by
 simp[execOp,b,h]
theorem cW (b:o.op= .next x false)(h:(Instr.next (a.eval x) false o.type).run P w= .ok v ac):(execOp a.eval o).run P w= .ok (.value v) ac:=by
 simp[execOp,b,h]
theorem pr (b:o.op= .entry x)(h:(Instr.entry (a.eval x)).run P w= .ok v ac):(execOp a.eval o).run P w= .ok (.value v) ac:=by
 simp[execOp,b,h]
theorem Ej.drew (T:Tab)(n:Nat)(W :Nat->Option Nat)(m:Mem)(B:Nat)(w:World)(e:BX T n W m w):Ej T n W m B w w.drew:=
 ⟨rfl,rfl,rfl,rfl,fun _ _=>rfl,fun c v b=>BQ.mono (BY.drawn T n W m w (w.drawn+1)) e (AE _) c v b,fun b=>b.drawn (w.drawn+1)⟩
end
structure RgP where
 di:Tmp
 dn:Tmp
 db:Tmp
 de:Tmp
 dv:Tmp
 bid:Nat
 bi:Nat
 i2:Nat
 i3:Nat
 o1:Oper
 o2:Oper
 o3:Oper
 o4:Oper
 l3:List Oper
 rest:Code
def RgP.ops3 (p:RgP):Array Oper:=(p.o3::p.o4::p.l3).toArray
def RgP.body (p:RgP):Code:= .seq (.region p.i2 [p.o1,p.o2].toArray false) (.seq (.cond (.tmp p.db) .skip (.exit p.bid)) (.block p.bi (.seq (.region p.i3 p.ops3 false) p.rest)))
structure RgP.Ok (p:RgP):Prop where
 o1:p.o1.op= .next (.tmp p.di) false/\p.o1.dst=some p.dn/\p.o1.guard=none
 o2:p.o2.op= .extract (.tmp p.dn) 0/\p.o2.dst=some p.db/\p.o2.guard=none
 o3:p.o3.op= .entry (.tmp p.di)/\p.o3.dst=some p.de/\p.o3.guard=none
 o4:p.o4.op= .extract (.tmp p.de) 1/\p.o4.dst=some p.dv/\p.o4.guard=none
def RgP.free (p:RgP)(t:Bn):Bool:=[p.dn,p.db,p.de,p.dv].all fun d=>(t.get d).isNone&&Nat.blt d t.n&& !Nat.beq p.di d
theorem gY {p:RgP}{t:Bn}(h:p.free t=true):∀d∈[p.dn,p.db,p.de,p.dv],t.get d=none/\d < t.n/\p.di≠d:=fun d hd=>by
 have:=Ae.1 h d hd;rw[AB,AB] at this;exact⟨by simpa using this.1.1,by simpa using this.1.2,fun e=>by have C:=this.2;rw[(E5 _ _).2 e] at C;cases C⟩
section
variable {P:Program}{T:Tab}{n:Nat}{W :Nat->Option Nat}{w ac:World}{a:Act}{l:Loc}{al:Nat}
theorem vy {p:RgP}(b:p.Ok){I aI k:Nat}{E:Array Nat}{ay:Array MapEntry}{Q:Exit->Act->World->Prop}
  (hf:p.free l.tmps=true) (Y:Rel T n W l a w) (K:a.eval (.tmp p.di)= .pointer (some ⟨aI,0,none⟩))
  (hr:w.heap[aI]? =some (.mapIter (some I) k E k)) (hb:w.heap[I]? =some (.map ay k)) (a4:∀x∈ay.toList,x.born < k)
  (hK:(leftOf ay E).size=0->∀q,Rel T n W l q w->q.eval (.tmp p.db)= .bool false->Q .normal q w)
  (hE:∀e∈(leftOf ay E).toList,∀aN,(aN=w\/aN=w.drew)->∀q,(∀N,Rel T n W l a N->Rel T n W l q N)->q.eval (.tmp p.db)= .bool true->q.eval (.tmp p.di)= .pointer (some ⟨aI,0,none⟩)->
   Q .normal q (setBlock aN aI (.mapIter (some I) k (E.push e.born) k))):
  (Code.region p.i2 [p.o1,p.o2].toArray false).wpIn (fen none) al P Q a w:=by
 have X:=gY hf;have s:=X p.dn (by simp);have y:=X p.db (by simp);have H:a.tmps.size=l.tmps.n:=Y.size;refine wpIn_region ?_;show wpOpsIn (fen none) al P [p.o1,p.o2].toArray Q [0,1] a w;refine C0 (o:=p.o1) rfl b.o1.2.2 ?_;rcases run_next_at (P:=P) w p.o1.type aI I k k E ay k hr hb a4 (AE _) with⟨Z,O⟩|⟨e,he,aN,a6,O⟩
 .refine E9 (by rw[b.o1.1];exact fun c h=>by cases h) (cW b.o1.1 (by rw[K];exact O)) ?_;rw[b.o1.2.1];refine C0 (o:=p.o2) rfl b.o2.2.2 ?_;refine E9 (by rw[b.o2.1];exact fun c h=>by cases h) (O5 b.o2.1 (EE (by rw[H];exact s.2.1)) (v:= .bool false) rfl) ?_;rw[b.o2.2.1];exact hK Z _ ((Y.putNone s.1 _).putNone y.1 _) (EE (by rw[DU,H];exact y.2.1))
 .refine E9 (by rw[b.o1.1];exact fun c h=>by cases h) (cW b.o1.1 (by rw[K];exact O)) ?_;rw[b.o1.2.1];refine C0 (o:=p.o2) rfl b.o2.2.2 ?_;refine E9 (by rw[b.o2.1];exact fun c h=>by cases h) (O5 b.o2.1 (EE (by rw[H];exact s.2.1)) (v:= .bool true) rfl) ?_;rw[b.o2.2.1];refine hE e he aN a6 _ (fun N C=>(C.putNone s.1 _).putNone y.1 _) (EE (by rw[DU,H];exact y.2.1)) ?_;rw[EQ y.2.2,EQ s.2.2];exact K
def Wt:Kd->Bool| .int .. =>true| .bool=>true| .str=>true|_=>false
variable{ay:List MapEntry}{v:Value}{base:Nat}{M:List Nat}
theorem sa {ok N:Nat->Nat->Prop}{w ac:World}{k:Kd}{u:U}(h:Wt k=true)(b:Bk ok w k u v):Bk N ac k u v:=by
 cases k<;>first|exact b|cases h
def Pu:List Kd->Nat->List AC
 |[],_=>[]
 |k::ks,n=>MD k n::Pu ks (n+1)
def Sw (ks:List Kd)(aT:Bool)(n:Nat):AC:=if aT then .agg (Pu ks n) else (Pu ks n).headD .any
theorem VK {m:Mem}{ok:Nat->Nat->Prop}{aH:World}:∀{ks:List Kd} {us:List U} {Y:List Value} {n0:Nat},ks.all Wt=true->Bg ok aH ks us Y->(∀j u,us[j]? =some u->T (n0+j)=u)->n0+ks.length<=n->BR T n W m w (Pu ks n0) Y
 |[],_,_,_,_,h,_,_=>h.2
 |k::ks,_,_,n0,hk,⟨u,us',v,vs',e1,e2,O,C⟩,hT,hn=>by
  subst e1 e2;simp only[List.all_cons,AB] at hk;simp only[Ad] at hn;refine⟨v,vs',rfl,GQ (by omega) ?_,VK hk.2 C (fun j e b=>?_) (by omega)⟩
  .rw[show T n0=u from hT 0 u rfl];exact sa hk.1 O
  .rw[show n0+1+j=n0+(j+1) by omega];exact hT (j+1) e (by simpa using b)
theorem qz {m:Mem}{ok:Nat->Nat->Prop}{aH:World}{ks:List Kd}{aT:Bool}{us:List U}{n0:Nat}(s:ks.all Wt=true)(h:DL ok aH ks aT us v)(q:∀j u,us[j]? =some u->T (n0+j)=u)(y:n0+ks.length<=n):
  BQ T n W m w (Sw ks aT n0) v:=by
 obtain⟨Y,O,C⟩:=h;have b:=VK (n:=n) (W := W) (m:=m) (w:=w) s O q y;unfold Sw;cases aT with
 |true=>
  simp only[if_true] at C⊢;exact⟨Y,C,b⟩
 |false=>
  simp only[AZ,if_false] at C⊢;subst C;cases E:Pu ks n0 with
  |nil=>trivial
  |cons c aC=>
   rw[E] at b;obtain⟨u,H,e,k,_⟩:=b;cases e;exact k
theorem qV (b:∀(i:Nat) (e:MapEntry),ay[i]? =some e->e.born=base+i):(ay.map (·.born)).Nodup:=by
 refine BJ.2 fun i j ab h k=>?_;simp only[List.length_map] at ab h;simp only[List.getElem_map];rw[b i _ (AF ab),b j _ (AF h)];omega
theorem tY (b:∀(i:Nat) (e:MapEntry),ay[i]? =some e->e.born=base+i){e:MapEntry}(h:e∈(leftOf ay.toArray (M.map (base+ ·)).toArray).toList):
  ∃i,ay[i]? =some e/\i ∉ M/\e.born=base+i:=by
 simp only[leftOf,Array.toList_filter,List.mem_filter] at h;obtain⟨O,C⟩:=h;obtain⟨i,ab⟩:=Ac.1 O;grind
theorem oz (k:∀(i:Nat) (e:MapEntry),ay[i]? =some e->e.born=base+i)(h:(leftOf ay.toArray (M.map (base+ ·)).toArray).size=0){i:Nat}(ab:i < ay.length):i∈M:=by
 have b:leftOf ay.toArray (M.map (base+ ·)).toArray= #[]:=Array.eq_empty_of_size_eq_zero h;unfold leftOf at b;rw[Array.filter_eq_empty_iff] at b;have O:=b ay[i] (by simp);rw[k i _ (AF ab)] at O;simp at O;exact O
end
theorem Nw:∀(n:Nat) (M:List Nat),M.Nodup->(∀j∈M,j < n)->M.length<=n
 |0,M,_,h=>by
  cases M with
  |nil=>exact AE _
  |cons a l=>exact absurd (h a (AN ..)) (by omega)
 |n+1,M,hn,h=>by
  have O:=Nw n (M.erase n) (hn.erase n) (fun j b=>by
   have:=(hn.mem_erase_iff).1 b;have:=h j this.2;omega)
  rw[List.length_erase] at O;split at O<;>omega
structure eS (P:Program) (call:CM) (hint:EM) (ys:Ys) (fuel:Nat) (p:RgP) (pc:PC) (n1:Nat) (hd:Loc) (idr:Nat) (vk:List Kd) (va:Bool) (s1:RS) (pc2:PC) (l2:Loc) (g2:G) (z:Rf) (ps:List Pr) (fv:List Nat):Prop where
 di:hd.tmps.get p.di=some (.ptr idr 0)
 gone:hd.mem.at idr= .gone
 free:p.free hd.tmps=true
 flat:vk.all Wt=true
 steps:Ee P call ys p.ops3 pc p.l3 ⟨hd.tmps.set p.dv (Sw vk va (n1+1)),hd.mem,⟨n1+1+vk.length,[],[],[]⟩,[]⟩=some s1
 code:C1 P call hint false ys fuel p.bi p.rest pc ⟨s1.tmps.commit hint.keep,s1.mem⟩ s1.g=some ([⟨.normal,pc2,l2⟩],g2)
 mat:Fk [] n1 [z] hd l2=some ps
 scope:Dc fv n1 (n1+1+vk.length) g2.n g2.eqs=true
 fvs:fv.all (fun x=>Nat.blt x n1)=true
 lps:g2.lps=[]
section
variable {P:Program}{call:CM}{ax:EM}{an:Ys}{aK:Nat}{p:RgP}{ae:PC}{av:Nat}{hd:Loc}{aE:Nat}{aM:List Kd}{aT:Bool}{aF:RS}{aD:PC}{aj:Loc}{aw:G}{z:Rf}{ps:List Pr}{fv:List Nat}{al:Nat}
theorem nq (hm:P.follows .mixedOrders=true)(d3:∀T,Dj P T call)(ey:∀lp,ES P lp an)(hp:p.Ok)
  (E:eS P call ax an aK p ae av hd aE aM aT aF aD aj aw z ps fv) {T:Tab} (eo:pcv T ae) (eq:∀c,ae=some c->c < av)
  {l:List (List U)} {ay:List MapEntry} {base I aI K:Nat} (d9:ay.length=l.length) (b3:∀(i:Nat) (e:MapEntry),ay[i]? =some e->e.born=base+i)
  (hw:∀(i:Nat) us e,l[i]? =some us->ay[i]? =some e->∃u1 u2 ok aH,us=u1++u2/\u1.length=K/\DL ok aH aM aT u2 e.val)
  {F:List U->List (List U)}
  (hC:∀(T':Tab) (M:List Nat) (i:Nat) (us:List U) (s:List (List U)),Do T T' av->M.Nodup->(∀j∈M,j < l.length)->i ∉ M->l[i]? =some us->s=(M.map fun j=>l.getD j []).flatMap F->T' av= .list s->
   (∀j u,(us.drop K)[j]? =some u->T' (av+1+j)=u)->(∀q∈aw.eqs,T' q.1=q.2.eval T')->(∀q∈aw.obs,q.holds T')/\(pcv T' aD->(∀q∈ps,q.holds T')/\z.eval T'= .list (s++F us)))
  {n0:Nat} {aX:Nat->Option Nat} {aP:Mem} {aH:World} (gs:BX T n0 aX aP aH) (g1:n0<=av) (hh:aH.heap.size<=aI)
  {Q:Exit->Act->World->Prop}
  (hQ:∀(M:List Nat) (s:List (List U)) Z a1 aN,M.Perm (List.range l.length)->s=(M.map fun j=>l.getD j []).flatMap F->Rel (T.upd av (.list s)) (av+1) Z hd a1 aN->BY (T.upd av (.list s)) n0 aX aP aH Z hd.mem aN->Q .normal a1 aN):
  ∀(k:Nat) (M:List Nat) (s:List (List U)) Z a1 aN,l.length - M.length<=k->M.Nodup->(∀j∈M,j < l.length)->s=(M.map fun j=>l.getD j []).flatMap F->
   Rel (T.upd av (.list s)) (av+1) Z hd a1 aN->BY (T.upd av (.list s)) n0 aX aP aH Z hd.mem aN-> Z aE=some aI->
   aN.heap[aI]? =some (.mapIter (some I) (base+ay.length) (M.map (base+ ·)).toArray (base+ay.length))->aN.heap[I]? =some (.map ay.toArray (base+ay.length))->
   (∀id,(hd.mem.at id).tracked=true-> Z id≠some aI)->(∀id,(hd.mem.at id).tracked=true-> Z id≠some I)->
   Code.roundsIn (fen none) al P p.body (Exit.inBlock p.bid Q) (k+1) a1 aN:=by
 have e0:∀u,Do T (T.upd av u) av:=fun u=>⟨fun x N=>D7 _ _ (by omega),rfl,rfl⟩;intro k;induction k using Nat.strongRecOn with
 |_ k ih=>?_
 intro M s Z a1 aN hL cx cv cy hR b8 d6 bo bl g3 g4;rw[roundsIn_succ];have f8:a1.eval (.tmp p.di)= .pointer (some ⟨aI,0,none⟩):=by
  obtain⟨b,O,C,_⟩:=hR.tmps _ _ E.di;rw[d6] at O;cases O;exact C
 refine wpIn_seq (vy hp E.free hR f8 bo bl (fun x N=>?_) (fun h0 a' b0 hb=>?_) fun e he a4 eu a' b0 hb ga=>?_)
 .obtain⟨i,ab⟩:=Ac.1 N;have C:=(AG.1 ab).1;rw[b3 i x ab];have:i < ay.length:=C;omega
 .
  refine wpIn_seq (wpIn_cond_false hb (wpIn_exit ?_));show Exit.inBlock p.bid Q (.exit p.bid) a' aN;simp only[Exit.inBlock,if_true];refine hQ M s Z a' aN ?_ cy b0 b8;refine (List.perm_ext_iff_of_nodup cx List.nodup_range).2 fun x=>⟨fun N=>List.mem_range.2 (cv x N),fun N=>oz b3 h0 (by rw[d9];exact List.mem_range.1 N)⟩
 .obtain⟨i,ab,em,f5⟩:=tY b3 he;have d7:i < l.length:=by rw[<-d9];exact (AG.1 ab).1
  have el:(M++[i]).Nodup:=by
   rw[List.nodup_append];exact⟨cx,by simp,fun x N y hy=>by simp at hy;subst hy;exact fun e=>em (e▸N)⟩
  have ee:∀j∈M++[i],j < l.length:=fun j hj=>by
   rcases Ap.1 hj with h|h
   .exact cv j h
   .simp at h;subst h;exact d7
  have f7:=Nw l.length _ el ee;simp only[AP,Ad,As] at f7;obtain⟨k',rfl⟩:∃k',k=k'+1:=⟨k - 1,by omega⟩;have f6:I < aN.heap.size:=(AI.1 bl).1;have es:aI < aN.heap.size:=(AI.1 bo).1;have g2:I≠aI:=fun e=>by rw[e,bo] at bl;cases bl
  obtain⟨us,c1⟩:∃us,l[i]? =some us:=⟨_,AF d7⟩;obtain⟨u1,u2,ok,wv,hv,hu,et⟩:=hw i us e c1 ab;have gd:us.drop K=u2:=by rw[hv,<-hu];simp
  have hN:u2.length=aM.length:=by obtain⟨Y,O,_⟩:=et;have:=O.len;omega
  have d2:(T.upd av (.list s)) av= .list s:=Fo _ _ _;have a6:Do T (T.upd av (.list s)) av:=e0 _;have dv:(T.upd av (.list s)).base=T.base:=rfl;generalize T.upd av (.list s)=az at hR b8 b0 d2 a6 dv;obtain⟨c9,db,dd⟩:=OS u2 az (av+1);obtain⟨aS,de,di⟩:=Gi aw.eqs (az.upds (av+1) u2);have cs:∀q∈aw.eqs,(Ci (az.upds (av+1) u2) aw.eqs) q.1=q.2.eval (Ci (az.upds (av+1) u2) aw.eqs):=GT (fun x N=>by have:=Ae.1 E.fvs x N;simpa using this) (by omega) E.scope;have ba:∀x,x < av+1->(Ci (az.upds (av+1) u2) aw.eqs) x=az x:=fun x N=>by
   rw[(DZ (T:=az.upds (av+1) u2) E.scope).2.2 x (.inl (by omega))];exact IL _ _ _ _ N
  have cj:∀j u,u2[j]? =some u->(Ci (az.upds (av+1) u2) aw.eqs) (av+1+j)=u:=fun j u hj=>by
   have hK:=(AG.1 hj).1;rw[(DZ (T:=az.upds (av+1) u2) E.scope).2.2 _ (.inl (by omega))];exact HT _ _ _ _ _ hj
  have bt:=aS.trans c9;have bx:=de.trans db;have cc:=di.trans dd;clear c9 db dd aS de di;generalize Ci (az.upds (av+1) u2) aw.eqs=J at cs ba cj bt bx cc;have ch:Do az J (av+1):=⟨ba,bt,bx⟩;have bi:Do T J av:=⟨fun x N=>(ba x (by omega)).trans (a6.eq x N),bt.trans a6.fr,bx.trans a6.lp⟩;have fn:J.base=T.base:=cc.trans dv;obtain⟨g7,g0⟩:=hC J M i us s bi cx cv em c1 cy ((ba av (by omega)).trans d2) (by rw[gd];exact cj) cs;have c0:pcv J ae:=by
   cases b6:ae with
   |none=>trivial
   |some c=>
    show J c= .bool true;rw[bi.eq c (eq c b6)];rw[b6] at eo;exact eo
  have ds:Agr J aw:=⟨cs,fun q hq=>by rw[E.lps] at hq;cases hq⟩;have d0:CB J aw:=fun o ho=>g7 o ho;have ej:BX J (av+1) Z hd.mem aN:=hR.mem.tab ch;have b1:=b0 aN hR;have b2:Rel J (av+1) Z hd a' aN:=⟨by rw[cc];exact b1.defers,b1.size,fun i c hc=>BQ.tab ch.eq (fun b off h=>ch.safe b1.mem h) _ _ (b1.tmps i c hc),ej⟩;have bb:a4.heap=aN.heap:=by rcases eu with rfl|rfl<;>rfl
  have fd:Ej J (av+1) Z hd.mem aH.heap.size aN a4:=by
   rcases eu with rfl|rfl
   .exact Ej.refl _ _ _ _ _ _
   .exact Ej.drew _ _ _ _ _ _ ej
  have bc:Ej J (av+1) Z hd.mem aH.heap.size aN (a4.putObj aI (.mapIter (some I) (base+ay.length) ((M.map (base+ ·)).toArray.push e.born) (base+ay.length))):=
   fd.trans (Ej.put ⟨_,by rw[bb];exact bo,rfl⟩ hh (fun _ _ _ h=>by cases h))
  have c2:(a4.putObj aI (.mapIter (some I) (base+ay.length) ((M.map (base+ ·)).toArray.push e.born) (base+ay.length))).heap[aI]? =some (.mapIter (some I) (base+ay.length) ((M.map (base+ ·)).toArray.push e.born) (base+ay.length)):=
   World.putObj_heap_same (by rw[bb];exact es)
  have c3:(a4.putObj aI (.mapIter (some I) (base+ay.length) ((M.map (base+ ·)).toArray.push e.born) (base+ay.length))).heap[I]? =some (.map ay.toArray (base+ay.length)):=by
   rw[World.putObj_heap_other g2,bb];exact bl
  have ce:Rel J (av+1) Z hd a' (a4.putObj aI (.mapIter (some I) (base+ay.length) ((M.map (base+ ·)).toArray.push e.born) (base+ay.length))):=by
   refine⟨FK.put ?_ (fun x N=>?_),b2.size,fun i c hc=>bc.holds _ _ (b2.tmps i c hc),bc.mem b2.mem⟩
   .obtain⟨e3,Ds,e4,e5,e6⟩:=b2.defers;exact⟨by rw[bb];exact e3,Ds,e4,e5,fun D hD=>by rw[bb];exact e6 D hD⟩
   .rw[bb,bo] at N;cases N
  show (Code.seq _ _).wpIn (fen none) al P _ a' (a4.putObj aI _);generalize hO:a4.putObj aI (.mapIter (some I) (base+ay.length) ((M.map (base+ ·)).toArray.push e.born) (base+ay.length))=wn at bc c2 c3 ce⊢;have c4:wn.heap.size=aN.heap.size:=bc.size;refine wpIn_seq (wpIn_cond_true hb (wpIn_skip ?_));show (Code.block _ _).wpIn (fen none) al P _ a' wn;refine wpIn_block (wpIn_seq (wpIn_region ?_));have hk:List.range p.ops3.size=0::1::List.range' 2 p.l3.length:=by
   simp[RgP.ops3,List.range_eq_range',List.range'_succ]
  rw[hk];have fr:=gY E.free;have f3:=fr p.de (by simp);have hH:=fr p.dv (by simp);have hs:a'.tmps.size=hd.tmps.n:=ce.size;refine C0 (o:=p.o3) (by simp[RgP.ops3]) hp.o3.2.2 ?_;refine E9 (by rw[hp.o3.1];exact fun c h=>by cases h) (pr hp.o3.1 (by
   rw[ga];exact run_entry_at wn aI I (base+ay.length) (M.map (base+ ·)).toArray ay.toArray (base+ay.length) e c2 c3 (by simpa using List.mem_of_getElem? ab) (by simpa using qV b3))) ?_
  rw[hp.o3.2.1];refine C0 (o:=p.o4) (by simp[RgP.ops3]) hp.o4.2.2 ?_;refine E9 (by rw[hp.o4.1];exact fun c h=>by cases h) (O5 hp.o4.1 (EE (by rw[hs];exact f3.2.1)) (v:=e.val) rfl) ?_;rw[hp.o4.2.1];have hx:BQ J (av+1+aM.length) Z hd.mem wn (Sw aM aT (av+1)) e.val:=qz E.flat et cj (AE _);have hf:Rel J (av+1+aM.length) Z ⟨hd.tmps.set p.dv (Sw aM aT (av+1)),hd.mem⟩ ((a'.put (some p.de) (.tuple #[e.key,e.val])).put (some p.dv) e.val) wn:=
   Rel.put (tmps:=hd.tmps) (m:=hd.mem) ((ce.putNone f3.1 _).up (Nat.le_add_right _ _)) (some p.dv) hx
  obtain⟨dm,hB⟩:=L4 (T:=J) (r:=none) (al:=al) (d3 J) (ey J.lp) E.steps;obtain⟨dn,hA⟩:=((MR hm d3 ax aK false an J none al p.bi p.rest (fun _=>rfl) (ey _)).mono fun _ _ _ h=>TD h) ae _ aF.g _ aw E.code;have er:∀g:G,av<=g.n->EA g ae:=fun g hg=>by
   cases b6:ae with
   |none=>trivial
   |some c=>exact AH (eq c b6) hg
  have gm:av<=aF.g.n:=AV (by show av<=av+1+aM.length;omega) dm.n;have hM:av+1+aM.length<=aF.g.n:=dm.n;obtain⟨hI,_,hF⟩:=hA ds (er _ gm);refine hB (ds.of dn) (d0.of dn) c0 ((er ⟨av+1+aM.length,[],[],[]⟩ (by show av<=av+1+aM.length;omega)).ok c0) 2 Z _ wn _ (fun j=>by simp[RgP.ops3,Nat.add_comm 2 j]) ⟨hf,fun e he=>by cases he⟩ fun aV c7 w2 gn bs=>?_;show p.rest.wpIn (fen none) al P _ c7 w2;refine hF d0 c0 aV c7 w2 _ (Rel.less (l:=⟨aF.tmps,aF.mem⟩) gn.rel (Bn.commit_n _ _) fun i c hc=>Bn.get_commit _ _ _ hc) fun o ho g8 c6 c8 w3 b9 hl=>?_;simp only[Al] at ho;subst ho;show Code.roundsIn (fen none) al P p.body (Exit.inBlock p.bid Q) (k'+1) c8 w3;obtain⟨ha,hz⟩:=g0 g8;have cf:=e0 (.list (s++F us));have f2:(T.upd av (.list (s++F us))) av= .list (s++F us):=Fo _ _ _;have fs:(T.upd av (.list (s++F us))).base=T.base:=rfl;have d4:∀x,x < av->(T.upd av (.list (s++F us))) x=J x:=fun x N=>(cf.eq x N).trans (bi.eq x N).symm;have H:Gc J (T.upd av (.list (s++F us))) av (av+1) [z]:=fun j aI hj=>by
   cases j with
   |zero=>simp at hj;subst hj;exact⟨by omega,f2.trans hz.symm⟩
   |succ j=>simp at hj
  obtain⟨z1,z2,_⟩:=IZ (az:=J) (J:=T.upd av (.list (s++F us))) E.mat (fun q hq=>by cases hq) (cf.fr.trans bi.fr.symm) (cf.lp.trans bi.lp.symm) (fs.trans fn.symm) d4 (Nat.le_succ av) H ha hl;have ei:BX az n0 aX aP aH:=gs.tab ⟨fun x N=>a6.eq x (by omega),a6.fr,a6.lp⟩;have d1:Do az J n0:=⟨fun x N=>ba x (by omega),bt,bx⟩;have b4:BX J n0 aX aP aH:=ei.tab d1;have hn:BY J n0 aX aP aH Z hd.mem wn:=(BY.tab d1 ei b8 (fun id L X e' N=>ba _ (hR.mem.tok_lt N))).after b4 bc;have hr:BY J n0 aX aP aH c6 aj.mem w3:=(hn.trans b4 (by show n0<=av+1+aM.length;omega) bs).trans b4 (by omega) b9;have off:∀k0,k0 < aN.heap.size->(∀id,(hd.mem.at id).tracked=true-> Z id≠some k0)->w3.heap[k0]? =wn.heap[k0]? /\∀id,(hd.mem.at id).tracked=true-> c6 id≠some k0:=fun k0 cu en=>by
   have O:=bs.old k0 (by rw[c4];exact cu) en;have C:=bs.off (by rw[c4];exact cu) en;have d8:k0 < w2.heap.size:=AH (by rw[c4];exact cu) bs.size;have h3:=b9.old k0 d8 C;have h4:=b9.off d8 C;exact⟨h3.trans O,fun id ht=>h4 id (z2.tracked ht)⟩
  obtain⟨hi,g5⟩:=off aI es g3;obtain⟨f4,g6⟩:=off I f6 g4;have d5:=bs.rho aE (by show (hd.mem.at aE).ptrOk=true;rw[E.gone];rfl);have gp:=b9.rho aE d5.2;refine ih k' (by omega) (M++[i]) (s++F us) c6 c8 w3 (by simp only[AP,Ad,As];omega) el ee ?_ z1 (BY.matched z2 d4 g1 b4 b8.mlen hr) (gp.1.trans (d5.1.trans d6)) ?_ (f4.trans c3) g5 g6
  .rw[cy];simp[c1]
  .rw[hi,c2];simp[f5]
end
section
variable {P:Program}{T:Tab}{n:Nat}{W :Nat->Option Nat}{m:Mem}{w ac:World}{a:Act}{l:Loc}
theorem kQ (q:BX T n W m w)(o:Obj):BY T n W m w (DX W m.length w.heap.size) (m++[.gone]) (w.alloc o)/\BX T n (DX W m.length w.heap.size) (m++[.gone]) (w.alloc o):=by
 have aa:=Jm q o .gone;refine⟨aa,⟨fun id=>?_,fun id K b e s E H=>?_,fun b off h=>q.fr b off (AV aa.size h)⟩⟩
 .by_cases k:id=m.length
  .subst k;rw[Bj,BH rfl];exact trivial
  .by_cases e:(m.at id).tracked=true
   .exact Cj.step aa q (AE _) (by rw[Bj,BG k]) (CC _ _ _ k) (fun b N=>CZ w _ b (q.lt e N))
   .rw[Bj,BG k];cases y:m.at id with
    |pad=>trivial
    |gone=>trivial
    |cells=>rw[y] at e;exact absurd rfl e
    |lp=>rw[y] at e;exact absurd rfl e
    |tok=>rw[y] at e;exact absurd rfl e
    |mrow=>rw[y] at e;exact absurd rfl e
    |mapb=>rw[y] at e;exact absurd rfl e
 .rw[Bj] at e s;by_cases k:id=m.length
  .rw[BH k] at e;cases e
  .by_cases C:K=m.length
   .rw[BH C] at s;cases s
   .rw[BG k] at e;rw[BG C] at s;rw[CC _ _ _ k] at E;rw[CC _ _ _ C] at H;exact q.inj id K b e s E H
theorem Rel.tabB {J:Tab}(e:Rel T n W l a w)(S:Do T J n)(k:J.base=T.base):Rel J n W l a w:=
 ⟨by rw[k];exact e.defers,e.size,fun i c q=>BQ.tab S.eq (fun b off h=>S.safe e.mem h) _ _ (e.tmps i c q),e.mem.tab S⟩
end
def Wv (af:Loc)(av:Nat)(q h b k:Tmp)(keep:Nat)(ks:List Kd)(e:TypeId):Option (Nat × Nat × List Kd × Bool × List Kd × Bool × Loc):=
 if af.tmps.loc.isEmpty&&(af.tmps.get h).isNone&&(af.tmps.get b).isNone&&Nat.blt h af.tmps.n&&Nat.blt b af.tmps.n then
  match af.tmps.get q with
  |some (.mv idm)=>match af.mem.at idm with
   | .mapb x al ka aM aT=>
    match ((af.tmps.set b (.ptr af.mem.length 0)).commit keep).get k with
    |some (.cv .nilSlice)=>(If ⟨(af.tmps.set b (.ptr af.mem.length 0)).commit keep,((af.mem.set idm Blk.gone)++[Blk.gone])++[Blk.tok av ks e]⟩ ((af.mem.set idm Blk.gone)++[Blk.gone]).length av ks (.tmp k)).map fun hd=>(idm,x,al,ka,aM,aT,hd)
    |_=>none
   |_=>none
  |_=>none
 else none
section
variable {P:Program}{call:CM}{ax:EM}{an:Ys}{aK:Nat}{p:RgP}{ae:PC}{av:Nat}{hd af:Loc}{aM:List Kd}{aT:Bool}{aF:RS}{aD:PC}{aj:Loc}{aw:G}{z:Rf}{ps:List Pr}{fv:List Nat}{al:Nat}
theorem qo (hm:P.follows .mixedOrders=true)(dj:∀T,Dj P T call)(ev:∀lp,ES P lp an)(hp:p.Ok)
  {tm dm N:Tmp} {keep:Nat} {ks:List Kd} {e:TypeId} {b x:Nat} {b0:List Kd} {ka:Bool} (H:Wv af av tm dm p.di N keep ks e=some (b,x,b0,ka,aM,aT,hd))
  (E:eS P call ax an aK p ae av hd af.mem.length aM aT aF aD aj aw z ps fv)
  {i1:Nat} {q1 q2:Oper} {mt kt et:TypeId} (bb:q1.op= .move (.tmp tm)/\q1.dst=some dm/\q1.guard=none) (bc:q2.op= .range mt (.tmp dm)/\q2.dst=some p.di/\q2.guard=none) (d7:P.underlying mt=some (.map kt et))
  {T:Tab} (ej:pcv T ae) (el:∀c,ae=some c->c < av)
  {F:List U->List (List U)}
  (ce:∀(X:Tab) (M:List Nat) (i:Nat) (us:List U) (N:List (List U)),Do T X av->(T x).toL.length<=BT->M.Nodup->(∀j∈M,j < (T x).toL.length)->i ∉ M->(T x).toL[i]? =some us->N=(M.map fun j=>(T x).toL.getD j []).flatMap F->X av= .list N->
   (∀j u,(us.drop b0.length)[j]? =some u->X (av+1+j)=u)->(∀q∈aw.eqs,X q.1=q.2.eval X)->(∀q∈aw.obs,q.holds X)/\(pcv X aD->(∀q∈ps,q.holds X)/\z.eval X= .list (N++F us)))
  {W :Nat->Option Nat} {a:Act} {w:World} (hR:Rel T av W af a w)
  {Q:Exit->Act->World->Prop}
  (hQ:∀(M:List Nat) (N:List (List U)) ρ1 a1 aN,M.Perm (List.range (T x).toL.length)->N=(M.map fun j=>(T x).toL.getD j []).flatMap F->Rel (T.upd av (.list N)) (av+1) ρ1 hd a1 aN->BY (T.upd av (.list N)) av W af.mem w ρ1 hd.mem aN->Q .normal a1 aN):
  (Code.seq (.region i1 [q1,q2].toArray false) (.block p.bid (.loop p.body))).wpIn (fen none) al P Q a w:=by
 unfold Wv at H;split at H
 .rename_i hc;simp only[AB] at hc;obtain⟨⟨⟨⟨aS,c2⟩,c3⟩,c4⟩,c5⟩:=hc;split at H
  .rename_i e9 d4;split at H
   .rename_i L fn fd fs fr bo;split at H
    .rename_i d8;simp only[AX] at H;obtain⟨e6,es,H⟩:=H;cases H;have dn:af.tmps.get dm=none:=by simpa using c2
     have e7:af.tmps.get p.di=none:=by simpa using c3
     have ds:dm < af.tmps.n:=by simpa using c4
     have e8:p.di < af.tmps.n:=by simpa using c5
     obtain⟨I,b3,b5,_⟩:=hR.tmps _ _ d4;have b6:=hR.mem.blk b;rw[bo] at b6;obtain⟨hx,lr,b',ay,a5,dd,b4,bt,d2,d5,dv,base,dk,di⟩:=b6;rw[b3] at b4;cases b4;subst dk;have db:(T x).toL=lr:=by rw[dd];rfl
     rw[db] at ce hQ;have de:I < w.heap.size:=(AI.1 bt).1;have er:a.tmps.size=af.tmps.n:=hR.size;refine wpIn_seq (wpIn_region ?_);show wpOpsIn (fen none) al P [q1,q2].toArray _ [0,1] a w;refine C0 (o:=q1) rfl bb.2.2 (E9 (by rw[bb.1];exact fun c h=>by cases h) (UY bb.1) ?_);rw[bb.2.1];refine C0 (o:=q2) rfl bc.2.2 (E9 (by rw[bc.1];exact fun c h=>by cases h) (og bc.1 (by
      rw[EE (by rw[er];exact ds),show a.eval (.tmp tm)= .map (some I) from b5];exact run_range_map w mt kt et I ay.toArray (base+ay.length) d7 bt)) ?_)
     rw[bc.2.1];rw[show a.eval (.tmp tm)= .map (some I) from b5];show (Code.block p.bid (.loop p.body)).wpIn (fen none) al P Q _ (w.alloc (.mapIter (some I) (base+ay.length) #[] (base+ay.length)));have c8:Do T (T.upd av (.list [])) av:=⟨fun x hx=>D7 _ _ (by omega),rfl,rfl⟩;have c9:(T.upd av (.list [])) av= .list []:=Fo _ _ _;have a6:Rel (T.upd av (.list [])) av W af a w:=hR.tabB c8 rfl;have b9:af.mem.at b≠ .pad:=by rw[bo];exact fun h=>by cases h
     have cb:∀id,Dx (T.upd av (.list [])) av av w (af.mem.at id) (Mem.at (af.mem.set b Blk.gone) id):=fun id=>by
      rw[Hw _ _ _ _ b9];split
      .exact .gone _
      .exact Dx.refl (AE _) _
     have en:=HD a6.mem cb;have d6:=QJ a6.mem (AE _) cb;obtain⟨eo,b8⟩:=kQ d6 (.mapIter (some I) (base+ay.length) #[] (base+ay.length));have ba:(af.mem.set b Blk.gone).length=af.mem.length:=Au;have bx:=en.trans a6.mem (AE _) eo;rw[ba] at bx b8;have c0:Rel (T.upd av (.list [])) av (DX (DJ af.mem W) af.mem.length w.heap.size) ⟨af.tmps,(af.mem.set b Blk.gone)++[Blk.gone]⟩ a (w.alloc (.mapIter (some I) (base+ay.length) #[] (base+ay.length))):=
      Rel.on (tmps:=af.tmps) (m:=af.mem) a6 bx (AE _) b8
     have b7:(DX (DJ af.mem W) af.mem.length w.heap.size) af.mem.length=some w.heap.size:=CF _ _ _;have em:BQ (T.upd av (.list [])) av (DX (DJ af.mem W) af.mem.length w.heap.size) ((af.mem.set b Blk.gone)++[Blk.gone]) (w.alloc (.mapIter (some I) (base+ay.length) #[] (base+ay.length))) (.ptr af.mem.length 0) (.pointer (some ⟨w.heap.size,0,none⟩)):=
      ⟨w.heap.size,b7,rfl,by
       have:Mem.at ((af.mem.set b Blk.gone)++[Blk.gone]) af.mem.length= .gone:=by rw[<-ba,Bj,BH rfl]
       rw[this];rfl⟩
     have c1:=Rel.put (c0.putNone (d:=dm) dn (.map (some I))) (some p.di) em;have c6:Rel (T.upd av (.list [])) av (DX (DJ af.mem W) af.mem.length w.heap.size) ⟨(af.tmps.set p.di (.ptr af.mem.length 0)).commit keep,(af.mem.set b Blk.gone)++[Blk.gone]⟩ ((a.put (some dm) (.map (some I))).put (some p.di) (.pointer (some ⟨w.heap.size,0,none⟩))) (w.alloc (.mapIter (some I) (base+ay.length) #[] (base+ay.length))):=
      Rel.less (l:=⟨af.tmps.set p.di (.ptr af.mem.length 0),(af.mem.set b Blk.gone)++[Blk.gone]⟩) c1 (Bn.commit_n _ _) fun i c hc=>Bn.get_commit _ _ _ hc
     obtain⟨_,_, ci,c7,bi⟩:=ZF (T:=T.upd av (.list [])) (n:=av) (l:=⟨(af.tmps.set p.di (.ptr af.mem.length 0)).commit keep,(af.mem.set b Blk.gone)++[Blk.gone]⟩) (s:= .tmp N) rfl c9 d8 es c6;have eq:BY (T.upd av (.list [])) av W af.mem w ci hd.mem _:=bx.trans a6.mem (AE _) bi;have d0:=bi.rho af.mem.length (by
      have:Mem.at ((af.mem.set b Blk.gone)++[Blk.gone]) af.mem.length= .gone:=by rw[<-ba,Bj,BH rfl]
      show (Mem.at ((af.mem.set b Blk.gone)++[Blk.gone]) af.mem.length).ptrOk=true;rw[this];rfl)
     have ch:∀id,(Mem.at ((af.mem.set b Blk.gone)++[Blk.gone]) id).tracked=true->id≠af.mem.length/\id≠b/\(af.mem.at id).tracked=true:=fun id y=>by
      rw[Bj,ba] at y;by_cases Z:id=af.mem.length
      .rw[BH Z] at y;cases y
      .rw[BG Z,Hw _ _ _ _ b9] at y;by_cases bs:id=b
       .rw[BH bs] at y;cases y
       .rw[BG bs] at y;exact⟨Z,bs,y⟩
     have cf:∀id,id≠af.mem.length->(af.mem.at id).tracked=true->(DX (DJ af.mem W) af.mem.length w.heap.size) id= W id:=fun id Z y=>by
      rw[CC _ _ _ Z];exact Di (fun h=>by rw[h] at y;cases y)
     have ca:(w.alloc (.mapIter (some I) (base+ay.length) #[] (base+ay.length))).heap.size=w.heap.size+1:=by simp
     have d9:=bi.off (k:=w.heap.size) (by rw[ca];exact Nat.lt_succ_self _) fun id y Z=>by
      obtain⟨O,C,h3⟩:=ch id y;rw[cf id O h3] at Z;exact absurd (hR.mem.lt h3 Z) (Nat.lt_irrefl _)
     have ee:=bi.off (k:=I) (by rw[ca];omega) fun id y Z=>by
      obtain⟨O,C,h3⟩:=ch id y;rw[cf id O h3] at Z;exact C (hR.mem.inj id b I h3 (by rw[bo];rfl) Z b3)
     refine wpIn_block (wpIn_loop_rounds (lr.length+1) ?_);exact nq hm dj ev hp E ej el (l:=lr) (ay:=ay) (base:=base) (I:=I) (aI:=w.heap.size) (K:=b0.length) d2 di (fun i us e O C=>by
       obtain⟨u1,u2,e1,⟨Y,e2,_⟩,e3⟩:=dv i us e O C;exact⟨u1,u2,_,_,e1,e2.len.2,e3⟩)
      (fun X M i us N O=>ce X M i us N O d5) hR.mem (AE _) (AE _) hQ lr.length [] [] ci _ _ (Nat.sub_le _ _) List.nodup_nil (fun j hj=>by cases hj) rfl c7 eq (d0.1.trans b7) (heap_alloc_new _ _) ((heap_alloc_old _ _ de).trans bt) d9 ee
    .cases H
   .cases H
  .cases H
 .cases H
end
end
section
open Go Go.RowKit
def Uw:Nat->Code->List Code × Code
 |n+1,.seq a b=>(a::(Uw n b).1,(Uw n b).2)
 |_,c=>([],c)
def jI:List Code->Code->Code
 |[],c=>c
 |a::l,c=> .seq a (jI l c)
def Po (run:Code->PC->Loc->G->Option (List CT × G)):List Code->PC->Loc->G->Option (PC × Loc × G)
 |[],ae,l,g=>some (ae,l,g)
 |c::aC,ae,l,g=>match run c ae l g with
  |some ([⟨.normal,pc',ak⟩],ao)=>Po run aC pc' ak ao
  |_=>none
theorem Xz {P:Program}{T:Tab}{al:Nat}{run:Code->PC->Loc->G->Option (List CT × G)}(Z:∀c,D3 T (fun Q a w=>c.wpIn (fen none) al P Q a w) (run c)):∀{aC:List Code} {ae e:PC} {l ak:Loc} {g ao:G},
  Po run aC ae l g=some (e,ak,ao)->Bo g ao/\(Agr T ao->EA g ae->EA ao e/\(CB T ao->pcv T ae->∀ W a w b Q,Rel T g.n W l a w->BX T g.n W l.mem w->
   (pcv T e->∀ ad H ac,BY T g.n W l.mem w ad ak.mem ac->Rel T ao.n ad ak H ac->b.wpIn (fen none) al P Q H ac)->(jI aC b).wpIn (fen none) al P Q a w))
 |[],ae,e,l,ak,g,ao,h=>by
  simp only[Po] at h;cases h;exact⟨Bo.refl _,fun _ y=>⟨y,fun _ C W a w b Q s _ q=>q C W a w (BY.refl _ _ _ _ _) s⟩⟩
 |c::aC,ae,e,l,ak,g,ao,h=>by
  simp only[Po] at h;split at h
  .rename_i b0 af g1 hr;obtain⟨N,k1⟩:=Z c ae l g _ g1 hr;obtain⟨k,E⟩:=Xz Z h;refine⟨N.trans k,fun O y=>?_⟩;obtain⟨q1,_,q3⟩:=k1 (O.of k) y;obtain⟨p1,p2⟩:=E O (q1.each _ (Al.2 rfl)).1;refine⟨p1,fun Y C W a w b Q s hm q=>wpIn_seq (q3 (Y.of k) C W a w _ s fun o hx a8 bx K aN bb X=>?_)⟩;simp only[Al] at hx;subst hx;show (jI aC b).wpIn (fen none) al P Q K aN;exact p2 Y a8 bx K aN b Q X X.mem fun a6 aV a0 w2 bc a4=>q a6 aV a0 w2 (bb.trans hm N.n bc) a4
  .cases h
structure RgC where
 pre:List Code
 i1:Nat
 q1:Oper
 q2:Oper
 tm:Tmp
 dm:Tmp
 out:Tmp
 mt:TypeId
 kt:TypeId
 et:TypeId
 ks:List Kd
 e:TypeId
 p:RgP
 post:Code
def RgC.code (c:RgC):Code:=jI c.pre (.seq (.seq (.region c.i1 [c.q1,c.q2].toArray false) (.block c.p.bid (.loop c.p.body))) c.post)
structure RgC.Ok (P:Program) (c:RgC):Prop where
 p:c.p.Ok
 q1:c.q1.op= .move (.tmp c.tm)/\c.q1.dst=some c.dm/\c.q1.guard=none
 q2:c.q2.op= .range c.mt (.tmp c.dm)/\c.q2.dst=some c.p.di/\c.q2.guard=none
 mt:P.underlying c.mt=some (.map c.kt c.et)
structure RgO where
 pc:PC
 l1:Loc
 g1:G
 x:Nat
 kks:List Kd
 vk:List Kd
 va:Bool
 hd:Loc
 s1:RS
 pc2:PC
 l2:Loc
 g2:G
 zx:Nat
 ps:List Pr
 fv:List Nat
 outs:List CT
 g3:G
 c0:AC
 m0:Mem
 g4:G
def Z6 (P:Program)(call:CM)(ax:EM)(an:Ys)(aK:Nat)(c:RgC)(aA:Func)(args:List AC)(m:Mem)(n:Nat):Option RgO:=do
 let (ae,af,g1) <-Po (C1 P call ax false an aK 0) c.pre none ⟨Ip aA.ntmps args,m⟩ ⟨n,[],[],[]⟩;let (_,x,kks,_,aM,aT,hd) <-Wv af g1.n c.tm c.dm c.p.di c.out ax.keep c.ks c.e;let aF<-Ee P call an c.p.ops3 ae c.p.l3 ⟨hd.tmps.set c.p.dv (Sw aM aT (g1.n+1)),hd.mem,⟨g1.n+1+aM.length,[],[],[]⟩,[]⟩
 match C1 P call ax false an aK c.p.bi c.p.rest ae ⟨aF.tmps.commit ax.keep,aF.mem⟩ aF.g with
 |some ([⟨.normal,aD,aj⟩],aw)=>
  match aj.tmps.get c.out,hd.tmps.get c.p.di,hd.mem.at af.mem.length with
  |some (.vec _ zx _),some (.ptr aE 0),.gone=>do
   let ps<-Fk [] g1.n [.e zx] hd aj;let fv:=(R1 g1.n aw.eqs aD [.e zx] []);let (L,g3) <-C1 P call ax false an aK 0 c.post ae hd ⟨g1.n+1,[],[],[]⟩;let (aO,aP,g4) <-D4 (Lj P aA) L g3
   if Nat.beq aE af.mem.length&&c.p.free hd.tmps&&aM.all Wt&&Dc fv g1.n (g1.n+1+aM.length) aw.n aw.eqs&&fv.all (fun x=>Nat.blt x g1.n)&&aw.lps.isEmpty&&Oq n g1&&g1.lps.isEmpty&&Dc [] 0 (g1.n+1) g4.n g4.eqs&&g4.lps.isEmpty&&Nat.ble args.length aA.ntmps&&Nat.blt x g1.n then
    some ⟨ae,af,g1,x,kks,aM,aT,hd,aF,aD,aj,aw,zx,ps,fv,L,g3,aO,aP,g4⟩
   else none
  |_,_,_=>none
 |_=>none
structure pD (P:Program) (call:CM) (hint:EM) (ys:Ys) (fuel:Nat) (c:RgC) (fn:Func) (args:List AC) (m:Mem) (n:Nat) (o:RgO):Prop where
 parts:Po (C1 P call hint false ys fuel 0) c.pre none ⟨Ip fn.ntmps args,m⟩ ⟨n,[],[],[]⟩=some (o.pc,o.l1,o.g1)
 head:∃idm ka,Wv o.l1 o.g1.n c.tm c.dm c.p.di c.out hint.keep c.ks c.e=some (idm,o.x,o.kks,ka,o.vk,o.va,o.hd)
 round:eS P call hint ys fuel c.p o.pc o.g1.n o.hd o.l1.mem.length o.vk o.va o.s1 o.pc2 o.l2 o.g2 (.e o.zx) o.ps o.fv
 post:C1 P call hint false ys fuel 0 c.post o.pc o.hd ⟨o.g1.n+1,[],[],[]⟩=some (o.outs,o.g3)
 fin:D4 (Lj P fn) o.outs o.g3=some (o.c0,o.m0,o.g4)
 ok1:Oq n o.g1=true
 lps1:o.g1.lps=[]
 ok4:Dc [] 0 (o.g1.n+1) o.g4.n o.g4.eqs=true
 lps4:o.g4.lps=[]
 args:args.length<=fn.ntmps
 x:o.x < o.g1.n
theorem lz {P:Program}{call:CM}{ax:EM}{an:Ys}{aK:Nat}{c:RgC}{aA:Func}{args:List AC}{m:Mem}{n:Nat}{o:RgO}(h:Z6 P call ax an aK c aA args m n=some o):pD P call ax an aK c aA args m n o:=by
 unfold Z6 at h;simp only[AD,AA] at h;obtain⟨⟨ae,af,g1⟩,O,⟨ba,x,bo,ka,aM,aT,hd⟩,C,aF,e,h⟩:=h;simp only at h C e;split at h
 .rename_i aD aj aw h4;split at h
  .rename_i y zx bs aE h5 h6 h7;simp only[AA] at h;obtain⟨ps,h8,⟨L,g3⟩,h9,⟨aO,aP,g4⟩,b,h⟩:=h;simp only at h b;split at h
   .rename_i k;simp only[AB] at k;obtain⟨⟨⟨⟨⟨⟨⟨⟨⟨⟨⟨q,K⟩,N⟩,X⟩,Y⟩,Z⟩,d7⟩,d8⟩,d9⟩,s⟩,E⟩,H⟩:=k;cases h;have a8:=yI q;subst a8;exact⟨O,⟨ba,ka,C⟩,⟨h6,h7,K,N,e,h4,h8,X,Y,by simpa using Z⟩,h9,b,d7,by simpa using d8,d9,by simpa using s,Aa E,by simpa using H⟩
   .cases h
  .cases h
 .cases h
theorem Tf {az J:Tab}{ar n:Nat}(h:∀x,x < n->J x=az x):∀{k:List (Nat × Ex)} {R:Nat},R<=n->Dc [] 0 ar R k=true->(∀p∈k,az p.1=p.2.eval az)->∀p∈k,J p.1=p.2.eval J
 |[],_,_,_,_,p,b=>by cases b
 |(x,e)::r,R,ht,aa,he,p,b=>by
  simp only[Dc,AB] at aa;have E:=yI aa.1.1;cases b with
  |head=>
   have O:=he (x,e) (AN ..);simp only at O⊢;rw[h x (by omega),O];refine U7 fun y C=>?_;rcases Ft aa.1.2 y C with q|q
   .cases q
   .exact (h y (by omega)).symm
  |tail _ b=>exact Tf h (R:=x) (by omega) aa.2 (fun q s=>he q (AK _ s)) p b
section
variable {P:Program}{f:FuncId}{t:Bf}{bd:FuncId->Option CM}{Bp:FuncId->EM}{aK am:Nat}{c:RgC}{aA:Func}{o:RgO}{ah:List Rf}{a9 a7:List Pr}{F:List U->List (List U)}
theorem me (hm:P.follows .mixedOrders=true)(e6:∀f c,bd f=some c->∀T,∀an k args ae m g c' ag ao,k=f->ES P T.lp an->c an k args ae m g=some (c',ag,ao)->Bo g ao/\(Agr T ao->CB T ao->pcv T ae->Ch T g ae->∀ W w Y,BR T g.n W m w args Y->BX T g.n W m w->
   (∃aA,P.funcs[k]? =some aA/\aA.body.isSome=true/\(aA.name== "runtime.NumGoroutine")=false)/\Calls P k (Y:List Value).toArray w (H3 T g W m w c' ag ao)))
  (hc:c.Ok P) (dj:P.funcs[f]? =some aA) (di:aA.body=some c.code) (f4:(aA.name== "runtime.NumGoroutine")=false)
  (S:pD P (GN P bd Bp aK am) (Bp f) { Ys.none with mu:=(Bp f).mu } aK c aA t.args t.m t.n o)
  (gr:ah.length=t.outs.length) (f0:Il [] t.n t.m'.length ah t.m' o.m0 t.m' o.m0=some a9) (f1:Pk t.n t.m'.length ah t.m' o.m0 t.c o.c0=some a7) (f6:∀id,id < t.m.length->t.m'.at id≠ .pad)
  (c6:∀(T:Tab) (us:List U),us.length=t.n->Py t.ks us->(∀p∈t.pre,p.2 us)->(∀j u,us[j]? =some u->T j=u)->(∀p∈o.g1.eqs,T p.1=p.2.eval T)->CB T o.g1/\
   (pcv T o.pc->
    (∀(M:List Nat) (i:Nat) (r:List U) (a1:List (List U)),(T o.x).toL.length<=BT->M.Nodup->(∀j∈M,j < (T o.x).toL.length)->i ∉ M->(T o.x).toL[i]? =some r->a1=(M.map fun j=>(T o.x).toL.getD j []).flatMap F->T o.g1.n= .list a1->
     (∀j u,(r.drop o.kks.length)[j]? =some u->T (o.g1.n+1+j)=u)->(∀q∈o.g2.eqs,T q.1=q.2.eval T)->(∀q∈o.g2.obs,q.holds T)/\(pcv T o.pc2->(∀q∈o.ps,q.holds T)/\T o.zx= .list (a1++F r)))/\
    (∀(M:List Nat),M.Perm (List.range (T o.x).toL.length)->T o.g1.n= .list ((M.map fun j=>(T o.x).toL.getD j []).flatMap F)->(∀q∈o.g4.eqs,T q.1=q.2.eval T)->CB T o.g4/\(∀p∈a9++a7,p.holds T)/\ah.map (Rf.eval T)=t.outs.map fun q=>q.2 us))):Bl P f t:=by
 refine⟨fun _=>QA,fun T us ho b6 hT c2 W w Y c3 b2=>⟨⟨aA,dj,by rw[di];rfl,f4⟩,?_⟩⟩;have bt:=Ht (Bp:=Bp) (aK:=aK) hm e6 am;have b9:∀lp,ES P lp { Ys.none with mu:=(Bp f).mu }:=fun lp T' _ s y hy=>by cases hy
 have ba:=S.ok1;unfold Oq at ba;rw[AB] at ba;have dn:∀j u,us[j]? =some u->T j=u:=fun j u hj=>hT j u (by unfold Bf.us;rw[AR (AG.1 hj).1];exact hj);have cx:Py t.ks us:=il dn c3 b2;obtain⟨aB,aJ,r3⟩:=Gi o.g1.eqs T;have b1:∀x,x < t.n->Ci T o.g1.eqs x=T x:=fun x H=>(DZ (T:=T) ba.1).2.2 x (.inl H);have b0:∀p∈o.g1.eqs,Ci T o.g1.eqs p.1=p.2.eval (Ci T o.g1.eqs):=GT (fv:=[]) (nh:=0) (fun x H=>by cases H) (Ak _) ba.1;generalize Ci T o.g1.eqs=Tp at aB aJ r3 b1 b0;have f3:t.n<=o.g1.n:=(DZ (T:=T) ba.1).1;have cj:∀T':Tab,(∀x,x < o.g1.n->T' x=Tp x)->(∀j u,us[j]? =some u->T' j=u)/\(∀p∈o.g1.eqs,T' p.1=p.2.eval T'):=fun T' h=>⟨fun j u hj=>by
  have:=(AG.1 hj).1;rw[h j (by omega),b1 j (by omega)];exact dn j u hj,Tf h (AE _) ba.1 b0⟩
 have d6:∀T':Tab,(∀x,x < o.g1.n->T' x=Tp x)->EA o.g1 o.pc->(pcv T' o.pc↔pcv Tp o.pc):=fun T' h hp=>by
  cases c1:o.pc with
  |none=>exact Iff.rfl
  |some x=>
   rw[c1] at hp;show T' x= .bool true↔Tp x= .bool true;rw[h x hp]
 have f8:CB Tp o.g1:=(c6 Tp us b6 cx c2 (cj Tp fun _ _=>rfl).1 b0).1;have er:Agr Tp o.g1:=⟨b0,fun q hq=>by rw[S.lps1] at hq;cases hq⟩;have S0:Do T Tp t.n:=⟨b1,aB,aJ⟩;have ds:=b2.tab S0;let Z:=Tp.atBase w.heap.size;have B0:=LB Tp w.heap.size;have cy:BX Z t.n W t.m w:=ds.tab (B0 _);have g5:BR Z t.n W t.m w t.args Y:=BR.tab (B0 _).eq (fun b off hh=>(B0 _).safe ds hh) _ _ (BR.tab S0.eq (fun b off hh=>S0.safe b2 hh) _ _ c3);refine (callsIn_wide (n:=0)).1 (callsIn_of_wp_marks (F:=fen none) dj di trivial ?_);have fr:=c3.length;have hR:Rel Z t.n W ⟨Ip aA.ntmps t.args,t.m⟩ { tmps:=(Y:List Value).toArray++Array.replicate (aA.ntmps - (Y:List Value).toArray.size) undef,defers:=[] } w:=by
  have hl:=S.args;refine⟨FK.nil _ _ _ (AE _),?_,fun i c ab=>?_,cy⟩
  .simp[Ip,fr];omega
  .have fn:(Om 0 t.args .nil).get i=some c:=by
    have:(Ip aA.ntmps t.args).get i=(Om 0 t.args .nil).get i:=by simp[Ip,Bn.get,CY]
    rw[<-this];exact ab
   rcases Re _ _ _ _ _ fn with⟨j,O,C⟩|O
   .rw[AM] at O;subst O;obtain⟨u,h3,h4⟩:=g5.get C;have:((Y:List Value).toArray++Array.replicate (aA.ntmps - (Y:List Value).toArray.size) undef).getD i undef=u:=by
     have dk:i < Y.length:=(AG.1 h3).1;simp[AJ,Array.getElem?_append,dk];rw[AF dk] at h3;cases h3;rfl
    rw[this];exact h4
   .simp[Tr.get] at O
 obtain⟨hi,kA⟩:=Xz (P:=P) (T:=Z) (al:=0) (fun c=>Nb hm bt (Bp f) aK { Ys.none with mu:=(Bp f).mu } Z 0 c (b9 _)) S.parts;obtain⟨b4,kA⟩:=kA (RQ er) trivial;refine kA (Vb f8) trivial W _ w _ _ hR cy fun dv d8 hg aN g0 cs=>?_;have d0:pcv Tp o.pc:=QR.1 dv;obtain⟨ht,ka,fd⟩:=S.head;refine wpIn_seq (qo hm bt b9 hc.p fd S.round hc.q1 hc.q2 hc.mt (T:=Z) dv (fun c' he=>by have h:=b4;rw[he] at h;exact h) (F:=F) ?_ cs ?_)
 .
  intro T' M i r a1 hS f2 f5 fs f7 hr c0 e0 e5 e9;have a4:∀x,x < o.g1.n->T' x=Tp x:=fun x H=>hS.eq x H;obtain⟨O,C⟩:=cj T' a4;have H:T' o.x=Tp o.x:=a4 _ S.x;have b3:pcv T' o.pc:=(d6 T' a4 b4).2 d0;obtain⟨_,h3⟩:=c6 T' us b6 cx c2 O C;exact (h3 b3).1 M i r a1 (by rw[H];exact f2) f5 (by rw[H];exact fs) f7 (by rw[H];exact hr) (by rw[H];exact c0) e0 e5 e9
 .
  intro M a1 aV ch w2 gd c0 cu d1;show c.post.wpIn (fen none) 0 P _ ch w2;have a6:Do Z (Z.upd o.g1.n (.list a1)) o.g1.n:=⟨fun x H=>D7 _ _ (by omega),rfl,rfl⟩;have d4:(Z.upd o.g1.n (.list a1)) o.g1.n= .list a1:=Fo _ _ _;obtain⟨u1,u2,u3⟩:=Gi o.g4.eqs (Z.upd o.g1.n (.list a1));have a8:∀x,x < o.g1.n+1->Ci (Z.upd o.g1.n (.list a1)) o.g4.eqs x=(Z.upd o.g1.n (.list a1)) x:=fun x H=>(DZ (T:=Z.upd o.g1.n (.list a1)) S.ok4).2.2 x (.inl H);have bx:∀p∈o.g4.eqs,Ci (Z.upd o.g1.n (.list a1)) o.g4.eqs p.1=p.2.eval (Ci (Z.upd o.g1.n (.list a1)) o.g4.eqs):=GT (fv:=[]) (nh:=0) (fun x H=>by cases H) (Ak _) S.ok4;have d2:(Z.upd o.g1.n (.list a1)).base=Z.base:=rfl;generalize Z.upd o.g1.n (.list a1)=Tu at cu d1 a6 d4 u1 u2 u3 a8 bx d2;generalize Ci Tu o.g4.eqs=K at u1 u2 u3 a8 bx;have ev:Do Tu K (o.g1.n+1):=⟨a8,u1,u2⟩;have a4:∀x,x < o.g1.n->K x=Tp x:=fun x H=>(a8 x (by omega)).trans (a6.eq x H);obtain⟨O,C⟩:=cj K a4;have H:K o.x=Tp o.x:=a4 _ S.x;have b3:pcv K o.pc:=(d6 K a4 b4).2 d0;obtain⟨_,h3⟩:=c6 K us b6 cx c2 O C;obtain⟨ga,gl,gs⟩:=(h3 b3).2 M (by rw[H];exact gd) (by rw[a8 _ (Nat.lt_succ_self _),d4,H];exact BI U.list c0) bx;have db:Agr K o.g4:=⟨bx,fun q hq=>by rw[S.lps4] at hq;cases hq⟩;have et:Rel K (o.g1.n+1) aV o.hd ch w2:=cu.tabB ev u3;have c9:=KM S.fin;obtain⟨_,kP⟩:=Nb hm bt (Bp f) aK { Ys.none with mu:=(Bp f).mu } K 0 c.post (b9 _) o.pc _ _ _ _ S.post;obtain⟨q1,q2,q3⟩:=kP (db.of c9) (by
   have hp:=b4;cases c1:o.pc with
   |none=>trivial
   |some x=>rw[c1] at hp;exact Nat.lt_succ_of_lt hp)
  refine q3 (ga.of c9) b3 aV ch w2 _ et fun y hy gm cc ci w3 g1 b5=>?_;have bo:Do T K t.n:=⟨fun x H=>(a4 x (by omega)).trans (b1 x H),(u1.trans a6.fr).trans aB,(u2.trans a6.lp).trans aJ⟩;have ey:Do Z K t.n:=⟨fun x H=>a4 x (by omega),u1.trans a6.fr,u2.trans a6.lp⟩;have bi:BX K t.n W t.m w:=b2.tab bo;have g3:BY K t.n W t.m w d8 o.l1.mem aN:=BY.tab ey cy g0 fun id L X e' c4=>a4 _ (cs.mem.tok_lt c4);have g4:BY K o.g1.n d8 o.l1.mem aN aV o.hd.mem w2:=BY.tab (az:=Tu) ⟨fun x H=>a8 x (by omega),u1,u2⟩ (cs.mem.tab a6) d1 fun id L X e' c4=>a8 _ (cu.mem.tok_lt c4);have g2:BY K t.n W t.m w cc y.l.mem w3:=(g3.trans bi f3 g4).trans bi (by show t.n<=o.g1.n+1;omega) g1;have hs:o.hd.tmps.n=o.hd.tmps.n:=rfl;have e8:LeavesInM (fen none) 0 P aA ci.tmps (fun e ac=>∃v ad,e= .returned v/\BY T t.n W t.m w ad t.m' ac/\BX T (t.n+t.outs.length) ad t.m' ac/\BQ T (t.n+t.outs.length) ad t.m' ac t.c v) ci.defers .returning w3:=by
   obtain⟨ee,Ds,ei,ej,d3⟩:=b5.defers;rw[ei];have hn:K.base=w.heap.size:=u3.trans d2;refine Ow (T:=K) (n:=o.g3.n) (W := cc) (m:=y.l.mem) (B:=w.heap.size) Ds w3 ej (fun D hD=>⟨by have:=(d3 D hD).1;omega,(d3 D hD).2.1⟩) fun w4 b7=>?_;have gp:Rel K o.g3.n cc y.l { tmps:=ci.tmps,defers:=[] } w4:=⟨FK.nil _ _ _ (by rw[b7.size];exact ee),b5.size,fun i c ab=>b7.holds _ _ (b5.tmps i c ab),b7.mem b5.mem⟩;obtain⟨v,w5, hf,⟨_,rfl,e1⟩,e2,e3,e4⟩:=RD (T:=K) (I:=fun _=>True) (E:=dz P aA) (N:=o.hd.tmps.n) Yv S.fin db q1 y hy gm cc _ w4 trivial gp;have st:=(g2.after bi b7).trans bi (AV (by show t.n<=o.g1.n+1;omega) (Nb hm bt (Bp f) aK { Ys.none with mu:=(Bp f).mu } K 0 c.post (b9 _) o.pc _ _ _ _ S.post).1.n) e2;exact⟨v,e1,v, hf,rfl,eY f0 f1 gr f6 (fun x H=>(bo.eq x H)) bo.fr bo.lp b6 hT gl gs bi st e3 e4⟩
  rcases UM S.fin y hy with hk|hk<;>rw[hk]<;>exact e8
end
structure ClC where
 o0:Oper
 o1:Oper
 o2:Oper
 p:Oper
 o5:Oper
 o6:Oper
 o7:Oper
 o8:Oper
 st:TypeId
 e:TypeId
 r0:Nat
 r1:Nat
 r2:Nat
 r3:Nat
def ClC.code (c:ClC):Code:= .seq (.region c.r0 [c.o0].toArray false) (.seq (.seq (.region c.r1 [c.o1,c.o2].toArray false) (.cond (.tmp 4) (.seq (.region c.r2 [c.p].toArray false) .ret) .skip)) (.seq (.region c.r3 [c.o5,c.o6,c.o7,c.o8].toArray false) .ret))
structure ClC.Ok (P:Program) (c:ClC) (f:FuncId) (fn:Func):Prop where
 look:P.funcs[f]? =some fn
 body:fn.body=some c.code
 name:(fn.name== "runtime.NumGoroutine")=false
 tm:fn.ntmps=8
 res:fn.results= #[ResultVar.tmp 2]
 o0:(∃v,c.o0.op= .assign v)/\c.o0.dst=some 2/\c.o0.guard=none
 o1:c.o1.op= .move (Operand.tmp 0)/\c.o1.dst=some 3/\c.o1.guard=none
 o2:(∃yt,c.o2.op= .binOp .eql c.st (Operand.tmp 3) (Operand.const (.slice none 0 0)) yt)/\c.o2.dst=some 4/\c.o2.guard=none
 p:c.p.op= .assign (Operand.const (.slice none 0 0))/\c.p.dst=some 2/\c.p.guard=none
 o5:c.o5.op= .buildSlice c.st 0 #[]/\c.o5.dst=some 5/\c.o5.guard=none
 o6:c.o6.op= .move (Operand.tmp 0)/\c.o6.dst=some 6/\c.o6.guard=none
 o7:c.o7.op= .call { callee:= .builtin .append,args:= #[Operand.tmp 5,Operand.tmp 6],argTypes:= #[c.st,c.st] }/\c.o7.dst=some 7/\c.o7.guard=none
 o8:c.o8.op= .assign (Operand.tmp 7)/\c.o8.dst=some 2/\c.o8.guard=none
 st:P.underlying c.st=some (.slice c.e)
def cJ (P:Program)(b:TypeId):CM:=fun _ _ args ae m g=>
 match args with
 |[x]=>(NX P #[b,b] (.cv .nilSlice) x m g).map fun r=>(r.c,r.m,(g.pushAll r.us).needAll ae r.ps)
 |_=>none
section
variable {P:Program}
theorem QV {a:Act}{w:World}{o:Oper}{x:Operand}(b:o.op= .assign x):(execOp a.eval o).run P w= .ok (.value (a.eval x)) w:=by
 simp[execOp,b]
theorem pH {c:ClC}{f:FuncId}{aA:Func}(e:c.Ok P f aA)(T:Tab)(an:Ys)(k:FuncId)(args:List AC)(ae:PC)(m:Mem)(g:G)(c':AC)(ag:Mem)(ao:G)(hk:k=f)(h:cJ P c.st an k args ae m g=some (c',ag,ao)):
  Bo g ao/\(Agr T ao->CB T ao->pcv T ae->Ch T g ae->∀ W w Y,BR T g.n W m w args Y->BX T g.n W m w->
   (∃aA,P.funcs[k]? =some aA/\aA.body.isSome=true/\(aA.name== "runtime.NumGoroutine")=false)/\Calls P k (Y:List Value).toArray w (H3 T g W m w c' ag ao)):=by
 subst hk;unfold cJ at h;split at h
 .rename_i x;simp only[AX] at h;obtain⟨r,q,h⟩:=h;cases h;refine⟨(Bo.push _ _).trans (Bo.need _ _ _),fun hA c9 hp _ W w Y dn hm=>⟨⟨aA,e.look,by rw[e.body];rfl,e.name⟩,?_⟩⟩;obtain⟨v,eo,rfl,hx,rfl⟩:=dn;have bi:New T g.n r.us:=hA.need.new;have ce:=c9.need hp;have cb:((g.pushAll r.us).needAll ae r.ps).n=g.n+r.us.length:=by rw[(EW _ _ _).1,Cr]
  have de:=q;unfold NX at q;simp only[AD,AA] at q;obtain⟨t,dm,q⟩:=q;have ht:t=c.st:=by simpa using dm.symm
  subst ht;split at q
  .rename_i e' el hu;have he:e'=c.e:=by rw[e.st] at hu;cases hu;rfl
   subst he;simp only[AA] at q;obtain⟨ks,cc,⟨E,aJ⟩,cf,Z,h3,q⟩:=q;have dj:=HH cf hx;obtain⟨K,ej,_,_,H,N,rfl,ei,dd⟩:=dj;refine (callsIn_wide (n:=0)).1 (callsIn_of_wp_marks (F:=fen none) e.look e.body trivial ?_);generalize a6:({ tmps:=_,defers:=[] }:Act)=a;have bl:a.tmps.size=8:=by rw[<-a6];simp[e.tm]
   have b6:a.eval (.tmp 0)= .slice H K.length N:=by
    rw[<-a6];show (#[Value.slice H K.length N]++_:Array Value).getD 0 undef=_;rw[AJ,Array.getElem?_append];simp
   have c1:a.defers=[]:=by rw[<-a6]
   clear a6;have ca:∀(X:Act) (ac:World) (z:Value) (ad:Nat->Option Nat),X.tmps.size=8->X.eval (.tmp 2)=z->X.defers=[]->BY T g.n W m w ad r.m ac->BX T (g.n+r.us.length) ad r.m ac->BQ T (g.n+r.us.length) ad r.m ac r.c z->
     LeavesInM (fen none) 0 P aA X.tmps (H3 T g W m w r.c r.m ((g.pushAll r.us).needAll ae r.ps)) X.defers .returning ac:=fun X ac z ad aF s2 s3 s4 s5 s6=>by
    rw[s3];have di:(results aA X.tmps).run P ac= .ok z ac:=by
     have C:X.tmps.getD 2 undef=z:=s2;rw[AJ] at C;simp[results,e.res,C]
    exact⟨z,di,z, ad,rfl,s4,by rw[cb];exact s5,by rw[cb];exact s6⟩
   refine wpIn_seq (wpIn_region ?_);show wpOpsIn (fen none) 0 P [c.o0].toArray _ [0] a w;obtain⟨x0,ch⟩:=e.o0.1;refine C0 (o:=c.o0) rfl e.o0.2.2 (E9 (by rw[ch];exact fun c h=>by cases h) (QV ch) ?_);rw[e.o0.2.1];show (Code.seq _ _).wpIn (fen none) 0 P _ _ w;refine wpIn_seq (wpIn_seq (wpIn_region ?_));show wpOpsIn (fen none) 0 P [c.o1,c.o2].toArray _ [0,1] _ w;refine C0 (o:=c.o1) rfl e.o1.2.2 (E9 (by rw[e.o1.1];exact fun c h=>by cases h) (UY e.o1.1) ?_);rw[e.o1.2.1,EQ (by decide),b6];obtain⟨yt,ci⟩:=e.o2.1;refine C0 (o:=c.o2) rfl e.o2.2.2 (E9 (v:= .bool H.isNone) (ac:=w) (by rw[ci];exact fun c h=>by cases h) ?_ ?_)
   .refine OA (s:=do eqGuard .eql c.st (Operand.tmp 3) (Operand.const (.slice none 0 0)) (.slice H K.length N) (.slice none 0 0);binOp .eql c.st (.slice H K.length N) (.slice none 0 0)) ?_ ?_
    .simp only[execOp,ci];rw[EE (by rw[DU,bl];decide)];rfl
    .simp only[Ar,G7 _ c.st _ _ (a:= .slice H K.length N) (b:= .slice none 0 0) (fun _ h=>by cases h) (fun h=>by cases h),Aq];exact Lib.run_eql_slice_nil w c.st c.e H _ _ 0 0 e.st
   rw[e.o2.2.1];show (Code.cond _ _ _).wpIn (fen none) 0 P _ _ w;generalize a0:(((a.put (some 2) _).put (some 3) _).put (some 4) _:Act)=b;have a4:b.tmps.size=8:=by rw[<-a0,DU,DU,DU];exact bl
   have c2:b.eval (.tmp 0)= .slice H K.length N:=by rw[<-a0,EQ (by decide),EQ (by decide),EQ (by decide)];exact b6
   have b8:b.eval (.tmp 4)= .bool H.isNone:=by rw[<-a0,EE (by rw[DU,DU,bl];decide)]
   have b9:b.defers=[]:=by rw[<-a0];exact c1
   clear a0;cases b7:H with
   |none=>
    subst b7;have hl:K=[]:=by
     cases K with
     |nil=>rfl
     |cons y l=>obtain⟨b',o',O,_⟩:=dd (by simp);cases O
    subst hl;refine wpIn_cond_true b8 (wpIn_seq (wpIn_region ?_));show wpOpsIn (fen none) 0 P [c.p].toArray _ [0] b w;refine C0 (o:=c.p) rfl e.p.2.2 (E9 (by rw[e.p.1];exact fun c h=>by cases h) (QV e.p.1) ?_);rw[e.p.2.1];refine wpIn_ret ?_;obtain⟨z',ac, ad,q1,q2,q3,q4⟩:=Tb (v:= .slice none 0 0) de bi ce hm rfl hx (aR:=0);obtain⟨i,z,l,ab,_⟩:=MY cc;have hz:z'= .slice none 0 0/\ac=w:=by
     have h0:=Ei (P:=P) (w:=w) (aR:=0) e.st ab none none 0 0 N (AE _);rw[show ([]:List (List U)).length=0 from rfl] at q1;rw[h0] at q1;cases q1;exact⟨rfl,rfl⟩
    obtain⟨rfl,rfl⟩:=hz;exact ca _ _ _ ad (by rw[DU];exact a4) (EE (by rw[a4];decide)) b9 q2 q3 q4
   |some b3=>
    subst b7;refine wpIn_cond_false b8 (wpIn_skip ?_);show (Code.seq _ _).wpIn (fen none) 0 P _ b w;refine wpIn_seq (wpIn_region ?_);show wpOpsIn (fen none) 0 P [c.o5,c.o6,c.o7,c.o8].toArray _ [0,1,2,3] b w;have c4:J8 P c.st 0 (#[]:Array (Nat × Operand)).size m g=some (Js ks c.e m g):=by
     simp[J8,hu,cc]
    cases q;have c8:New T g.n (Js ks c.e m g).us:=fun j u hj=>bi j u (by rw[AR (AG.1 hj).1];exact hj);obtain⟨z5,w5, d9,q1,q2,q3,q4⟩:=Rc (T:=T) (W := W) (w:=w) (a:=b) (o:=c.o5) c4 c8 hm e.o5.1;refine C0 (o:=c.o5) rfl e.o5.2.2 (ng (by rw[e.o5.1];exact fun c h=>by cases h) ⟨z5,w5, d9,q1,q2,q3,q4⟩ fun v5 w6 cs aF s2 s3=>?_);rw[e.o5.2.1];refine C0 (o:=c.o6) rfl e.o6.2.2 (E9 (by rw[e.o6.1];exact fun c h=>by cases h) (UY e.o6.1) ?_);rw[e.o6.2.1,EQ (by decide),c2];have ds:BQ T (g.n+2) cs (m++[.mrow g.n (g.n+1) ks c.e]) w6 x (.slice (some b3) K.length N):=BQ.mono aF hm (by omega) _ _ hx;obtain⟨z',ac, ad,t1,t2,t3,t4⟩:=VA (g:={ g with n:=g.n+2 }) (T:=T) (W := cs) (w:=w6) h3 (fun j u hj=>by
     have:=bi (j+2) u (by simpa [Js] using hj);rwa [show g.n+(j+2)=g.n+2+j by omega] at this) ce s2 s3 (Jo (HH cf ds)) c.o7.type
    have en:g.n+((Js ks c.e m g).us++Z.us).length=g.n+2+Z.us.length:=by simp[Js];omega
    generalize a1:((b.put (some 5) v5).put (some 6) _:Act)=b2;have bc:b2.tmps.size=8:=by rw[<-a1,DU,DU];exact a4
    have h5:b2.eval (.tmp 5)=v5:=by rw[<-a1,EQ (by decide),EE (by rw[a4];decide)]
    have h6:b2.eval (.tmp 6)= .slice (some b3) K.length N:=by rw[<-a1,EE (by rw[DU,a4];decide)]
    have c3:b2.defers=[]:=by rw[<-a1];exact b9
    clear a1;refine C0 (o:=c.o7) rfl e.o7.2.2 (E9 (v:=z') (ac:=ac) (by rw[e.o7.1];exact fun c h=>by cases h) ?_ ?_)
    .rw[Ld e.o7.1];simp only[List.map_toArray,AT,An,h5,h6];simp[builtin,t1]
    rw[e.o7.2.1];refine C0 (o:=c.o8) rfl e.o8.2.2 (E9 (by rw[e.o8.1];exact fun c h=>by cases h) (QV e.o8.1) ?_);rw[e.o8.2.1,EE (by rw[bc];decide)];show (Code.ret).wpIn (fen none) 0 P _ _ ac;refine wpIn_ret ?_;exact ca _ _ _ ad (by rw[DU,DU];exact bc) (EE (by rw[DU,bc];decide)) c3 (aF.trans hm (show g.n<=g.n+2 by omega) t2) (by
     show BX T (g.n+((Js ks c.e m g).us++Z.us).length) ad Z.m ac;rw[en];exact t3) (by
     show BQ T (g.n+((Js ks c.e m g).us++Z.us).length) ad Z.m ac Z.c z';rw[en];exact t4)
  .cases q
 .cases h
end
def PT:List (FuncId × TypeId)->FuncId->Option TypeId
 |[],_=>none
 |(f,st)::r,g=>bif Nat.beq f g then some st else PT r g
def XB (P:Program)(a3:List (FuncId × TypeId))(l:List (FuncId × Bf)):FuncId->Option CM:=fun f=>match PT a3 f with
 |some b=>some (cJ P b)
 |none=>Mr l f
def Nk (P:Program)(a3:List (FuncId × TypeId)):Prop:=∀p∈a3,∃c aA,ClC.Ok P c p.1 aA/\c.st=p.2
theorem Tq:∀{a3:List (FuncId × TypeId)} {f:FuncId} {e:TypeId},PT a3 f=some e->(f,e)∈a3
 |[],_,_,h=>by cases h
 |(g,s)::r,f,e,h=>by
  simp only[PT] at h;cases b:Nat.beq g f with
  |true=>
   rw[b] at h;cases h;rw[yI b];exact AN ..
  |false=>rw[b] at h;exact AK _ (Tq h)
variable{P:Program}{a3:List (FuncId × TypeId)}{l:List (FuncId × Bf)}{t:Bf}{aK am:Nat}{ah:List Rf}
theorem Xm (E:Nk P a3)(H:∀p∈l,Bl P p.1 p.2):∀f c,XB P a3 l f=some c->∀T,∀an k args ae m g b ag ao,k=f->ES P T.lp an->c an k args ae m g=some (b,ag,ao)->Bo g ao/\(Agr T ao->CB T ao->pcv T ae->Ch T g ae->∀ W w Y,BR T g.n W m w args Y->BX T g.n W m w->
   (∃aA,P.funcs[k]? =some aA/\aA.body.isSome=true/\(aA.name== "runtime.NumGoroutine")=false)/\Calls P k (Y:List Value).toArray w (H3 T g W m w b ag ao)):=by
 intro f c h T an k args ae m g b ag ao q K s;unfold XB at h;cases e:PT a3 f with
 |some N=>
  rw[e] at h;cases h;obtain⟨aO,aA,C,y⟩:=E _ (Tq e);simp only at y;subst y;exact pH C T an k args ae m g b ag ao q s
 |none=>
  rw[e] at h;exact Nx H f c h T an k args ae m g b ag ao q K s
def Bf.runC (P:Program)(a3:List (FuncId × TypeId))(l:List (FuncId × Bf))(Bp:FuncId->EM)(aK am:Nat)(f:FuncId)(t:Bf):Option (AC × Mem × G):=
 GN P (XB P a3 l) Bp aK am Ys.none f t.args none t.m { n:=t.n,eqs:=[],obs:=[] }
theorem GX {f:FuncId}(b:Nk P a3)(h:P.follows .mixedOrders=true)(e:∀p∈l,Bl P p.1 p.2){Bp:FuncId->EM}{ay:List En}{os:List ObE}
  (s:t.sees ah (t.runC P a3 l Bp aK am f)=some (ay.map En.be,os.map ObE.be,[])) (k:M9 t=true)
  (q:∀(T:Tab) (us:List U),(∀p∈t.pre,p.2 us)->(∀j u,us[j]? =some u->T j=u)->us.length=t.n->Ba T (CA 0 t.ks)->Bnd T 0 t.ks->Bi T (ay.map En.be)->J6 T os/\ah.map (Rf.eval T)=t.outs.map fun o=>o.2 us):Bl P f t:=
 RG (fun T=>Ht h (Xm b e) am T) s k q
abbrev RgV:=(PC × Nat × Nat × Nat) × (PC × Nat) × (List BE × List BO) × (List BE × List BO) × (List BE × List BO) × List BP
def cp (t:Bf)(ah:List Rf)(o:RgO):Option RgV:=
 if Nat.beq ah.length t.outs.length&&Nat.ble t.m.length t.m'.length then do
  let a9<-Il [] t.n t.m'.length ah t.m' o.m0 t.m' o.m0;let a7<-Pk t.n t.m'.length ah t.m' o.m0 t.c o.c0
  some ((o.pc,o.g1.n,o.x,o.kks.length),(o.pc2,o.zx),(Gf o.g1.eqs.reverse,Lc o.g1.obs),(Gf o.g2.eqs.reverse,Lc (o.ps.map (Ob.mk o.pc2)++o.g2.obs)),(Gf o.g4.eqs.reverse,Lc o.g4.obs),ju (a9++a7))
 else none
theorem fI {f:FuncId}(ch:Nk P a3)(hm:P.follows .mixedOrders=true)(hl:∀p∈l,Bl P p.1 p.2){Bp:FuncId->EM}{c:RgC}{aA:Func}
  (hc:c.Ok P) (cj:P.funcs[f]? =some aA) (ce:aA.body=some c.code) (c1:(aA.name== "runtime.NumGoroutine")=false)  {ae aD:PC} {av x K zx:Nat} {ag ao a0:List En} {bm bo bs:List ObE}
  (bl:(Z6 P (GN P (XB P a3 l) Bp aK am) (Bp f) { Ys.none with mu:=(Bp f).mu } aK c aA t.args t.m t.n).bind (cp t ah)=some ((ae,av,x,K),(aD,zx),(ag.map En.be,bm.map ObE.be),(ao.map En.be,bo.map ObE.be),(a0.map En.be,bs.map ObE.be),[])) (c2:M9 t=true)
  {F:List U->List (List U)}
  (di:∀(T:Tab) (us:List U),(∀p∈t.pre,p.2 us)->(∀j u,us[j]? =some u->T j=u)->us.length=t.n->Ba T (CA 0 t.ks)->Bnd T 0 t.ks->Bi T (ag.map En.be)->J6 T bm/\(pcv T ae->
   (∀(M:List Nat) (i:Nat) (r:List U) (s:List (List U)),(T x).toL.length<=BT->M.Nodup->(∀j∈M,j < (T x).toL.length)->i ∉ M->(T x).toL[i]? =some r->s=(M.map fun j=>(T x).toL.getD j []).flatMap F->T av= .list s->
    (∀j u,(r.drop K)[j]? =some u->T (av+1+j)=u)->Bi T (ao.map En.be)->J6 T bo/\T zx= .list (s++F r))/\
   (∀(M:List Nat),M.Perm (List.range (T x).toL.length)->T av= .list ((M.map fun j=>(T x).toL.getD j []).flatMap F)->Bi T (a0.map En.be)->J6 T bs/\ah.map (Rf.eval T)=t.outs.map fun q=>q.2 us))):Bl P f t:=by
 simp only[AA] at bl;obtain⟨o,c4,b⟩:=bl;have S:=lz c4;unfold cp at b;split at b
 .rename_i ba;rw[AB] at ba;simp only[AD,AA] at b;obtain⟨a9,cy,a7,c0,b⟩:=b;simp only[Ax,Prod.mk.injEq] at b;obtain⟨⟨e1,e2,e3,e4⟩,⟨e5,e6⟩,⟨e7,e8⟩,⟨e9,b0⟩,⟨b1,b2⟩,b3⟩:=b;have toB:∀(T:Tab) (H:List (Nat × Ex)),(∀p∈H,T p.1=p.2.eval T)->Bi T (Gf H.reverse):=fun T H h=>NA fun p y=>h p (List.mem_reverse.1 y);refine me (F:=F) hm (Xm ch hl) hc cj ce c1 S (yI ba.1) cy c0 (fun id cl e=>?_) fun T us bi cs c3 bb ci=>?_
  .have:=Ae.1 c2 id (List.mem_range.2 cl);rw[e] at this;cases this
  .obtain⟨i1,i2⟩:=SU (x:=0) (Mm bi cs) fun j u hj=>by rw[AM];exact bb j u hj
   have a5:=toB T _ ci;rw[e7] at a5;obtain⟨O,C⟩:=di T us c3 bb bi i1 i2 a5;have a4:=JY O;rw[<-e8] at a4;refine⟨Jb a4,fun bc=>?_⟩;rw[e1] at bc;obtain⟨h3,h4⟩:=C bc;rw[e2,e3,e4,e5,e6];refine⟨fun M i r s Y E Z k4 k5 k6 k7 k8 k9=>?_,fun M Y E Z=>?_⟩
   .have a6:=toB T _ k9;rw[e9] at a6;obtain⟨N,aw⟩:=h3 M i r s Y E Z k4 k5 k6 k7 k8 a6;have k:=JY N;rw[<-b0] at k;have g3:=Jb k;exact⟨fun q X=>g3 q (AO _ X),fun y=>⟨fun q X=>g3 (Ob.mk o.pc2 q) (AU _ (BL.2 ⟨q,X,rfl⟩)) (by rw[<-e5] at y;exact y),aw⟩⟩
   .have a8:=toB T _ Z;rw[b1] at a8;obtain⟨N,aw⟩:=h4 M Y E a8;have k:=JY N;rw[<-b2] at k;exact⟨Jb k,TK (by rw[b3];trivial),aw⟩
 .cases b
end
section
open Go
variable{P:Program}{t a2:Bf}{ar ab:Int}{x:Nat}{T az:Tab}{W:Nat->Option Nat}{w:World}{v:Value}{V:List U}{ah:List Rf}{p:PO}
theorem Yg {f:FuncId}(h:Bl P f t)(hc:t.c= .i .i64 ar ab x)(y:a2.args=t.args)(s:a2.m=t.m)(H:a2.m'=t.m')(C:a2.n=t.n)(e5:∀us,a2.us us=t.us us)
  (e6:a2.outs.length=t.outs.length) (e7:a2.c= .ci .i64 0)
  (hx:∀us:List U,us.length=t.n->(∀q∈a2.pre,q.2 us)->(t.us us)[x]? =some (.int 0)/\∀q∈t.pre,q.2 us):Bl P f a2:=by
 obtain⟨lp,h⟩:=h;refine⟨lp,fun T us hl N K hp W w Y O X=>?_⟩;rw[C] at N;rw[C,s,y] at O;rw[C,s] at X;rw[e5] at K;obtain⟨h0,a8⟩:=hx us N hp;obtain⟨a,b⟩:=h T us hl N K a8 W w Y O X;refine⟨a,b.mono fun e ac k=>?_⟩;rw[C,s,H,e6,e7];obtain⟨v, ad,k1,E,k3,Z⟩:=k;refine⟨v, ad,k1,E,k3,?_⟩;rw[hc] at Z;obtain⟨_,i,y,s,_,_⟩:=Z;have H:T x= .int 0:=K x _ h0;rw[H] at y;cases y;exact s
theorem eQ {f:FuncId}{ag O:Int}(h:Bl P f t)(hc:t.c= .i .i64 ar ab x)(e1:a2.args=t.args)(C:a2.m=t.m)(e3:a2.m'=t.m')(s:a2.n=t.n)(e5:∀us,a2.us us=t.us us)
  (e6:a2.outs.length=t.outs.length) (e7:a2.c= .i .i64 ag O x)
  (hx:∀us:List U,us.length=t.n->(∀q∈a2.pre,q.2 us)->(∃i,(t.us us)[x]? =some (.int i)/\ag<=i/\i<=O)/\∀q∈t.pre,q.2 us):Bl P f a2:=by
 obtain⟨lp,h⟩:=h;refine⟨lp,fun T us hl K H hp W w Y N X=>?_⟩;rw[s] at K;rw[s,C,e1] at N;rw[s,C] at X;rw[e5] at H;obtain⟨⟨y,h0,bl,bc⟩,bo⟩:=hx us K hp;obtain⟨a,b⟩:=h T us hl K H bo W w Y N X;refine⟨a,b.mono fun e ac k=>?_⟩;rw[s,C,e3,e6,e7];obtain⟨v, ad,k1,E,k3,Z⟩:=k;refine⟨v, ad,k1,E,k3,?_⟩;rw[hc] at Z;obtain⟨z0,i,z1,z2,_,_⟩:=Z;have z3:T x= .int y:=H x _ h0;rw[z3] at z1;cases z1;exact⟨z0,y,z3,z2,bl,bc⟩
theorem aO (e:az.fr=T.fr)(b off:Nat)(h:Bt T W [] w b off):Bt az W [] w b off:=⟨h.1,by rw[e];exact h.2.1,fun _=>trivial⟩
theorem ii {n k:Nat}(q:az.fr=T.fr)(h:BX T n W [] w):BX az k W [] w:=⟨fun _=>trivial,h.inj,fun b off e=>by rw[q];exact h.fr b off e⟩
structure Case (P:Program) (f:FuncId) (t t1:Bf) (us:List U):Prop where
 ok:Bl P f t1
 pre:∀p∈t1.pre,p.2 us
 args:t1.args=t.args
 n:t1.n=t.n
 m:t1.m=[]
 m':t1.m'=[]
 c:∀(T T1:Tab) ρ w v,T1.fr=T.fr->(∀j u,(t.us us)[j]? =some u->T j=u)->(∀j u,(t1.us us)[j]? =some u->T1 j=u)->BQ T1 (t1.n+t1.outs.length) ρ [] w t1.c v->BQ T (t.n+t.outs.length) ρ [] w t.c v
theorem WL {f:FuncId}(X:t.m=[])(a4:t.m'=[])(a8:Nat->DP)(h:∀us:List U,us.length=t.n->(∀p∈t.pre,p.2 us)->∃q,Case P f t q us):Bl P f t:=by
 refine⟨a8,fun T us hl Z H hp W w Y K N=>?_⟩;obtain⟨q,C⟩:=h us Z hp;obtain⟨ba,O⟩:=C.ok;let az:Tab:=⟨fun j=>(q.us us).getD j default,T.fr,ba,T.base⟩;have s:∀j u,(q.us us)[j]? =some u->az j=u:=fun j u hj=>by show (q.us us).getD j default=u;simp[List.getD,hj]
 have a1:∀x,x < t.n->az x=T x:=fun x hx=>by
  have e:us[x]? =some us[x]:=AF (by omega);rw[s x us[x] (by unfold Bf.us;rw[AR (by omega)];exact e),H x us[x] (by unfold Bf.us;rw[AR (by omega)];exact e)]
 rw[X] at K N;obtain⟨a,b⟩:=O az us rfl (by rw[C.n];exact Z) s C.pre W w Y (by rw[C.n,C.m,C.args];exact BR.tab a1 (aO (T:=T) (az:=az) rfl) _ _ K) (by rw[C.n,C.m];exact ii (T:=T) (az:=az) rfl N);refine⟨a,b.mono fun e ac k=>?_⟩;obtain⟨v, ad,k1,E,k3,k4⟩:=k;rw[C.m,C.m'] at E;rw[C.m'] at k3 k4;rw[X,a4];exact⟨v, ad,k1,⟨E.os,E.tape,E.output,E.size,E.mlen,E.rho,E.untr,E.fresh,E.old,(fun id x ks e h=>by cases h),(fun id x y ks e h=>by cases h)⟩,ii (T:=az) (az:=T) rfl k3,C.c T az ad ac v rfl H s k4⟩
theorem S9 {n av y z:Nat}{ks:List Kd}(E:x < n)(H:z < n)(C:T x= .list [])(b:T z=az y)
  (h:BQ az av W [] w (.tup [.cv .nilSlice,.i .i64 ar ab y]) v):BQ T n W [] w (.tup [.ro x ks,.i .i64 ar ab z]) v:=by
 obtain⟨_,rfl,u,us,rfl,e,u2,K,rfl,⟨_,i,k,q⟩,s⟩:=h;refine⟨_,rfl,u,_,rfl,⟨E,?_⟩,u2,_,rfl,⟨H,i,by rw[b];exact k,q⟩,s⟩;rw[C];exact⟨[],rfl,Ak _,fun _=>rfl,none,0,e,AE _,fun h=>by cases h⟩
theorem dP {n:Nat}{c:AC}(b:az.fr=T.fr)(h:∀x,x < n->T x=az x)(e:BQ az n W [] w c v):BQ T n W [] w c v:=
 BQ.tab h (aO b.symm) _ _ e
def XQ (V:List U):Tab:=⟨fun x=>V.getD x default,fun _ _=>True,fun _=>QA,0⟩
def rfC (n:Nat):Rf->Bool
 | .c _=>true
 | .e x| .n x=>Nat.blt x n
def evC:List U->List BE->Option (List U)
 |V,[]=>some V
 |V,(x,f,aU)::r=>bif Nat.beq x V.length&&aU.all (rfC V.length) then evC (V++[f (aU.map (Rf.eval (XQ V)))]) r else none
abbrev ObT:=List (String × PO × (List U->Bool))
def ObT.find:ObT->Tg->Option (PO × (List U->Bool))
 |(s,p)::r,.s t=>bif s==t then some p else ObT.find r (.s t)
 |_,_=>none
def cg (r:Option (AC × Mem × G)):List BE:=match r with|some (_,_,g)=>Gf g.eqs.reverse|none=>[]
def bG (b:ObT)(r:Option (AC × Mem × G)):List (ObE × (List U->Bool)):=match r with
 |some (_,_,g)=>g.obs.map fun o=>match b.find o.p.tag with|some (po,c)=>(⟨o.pc,po,o.p.args⟩,c)|none=>(⟨o.pc,.t,o.p.args⟩,fun _=>false)
 |none=>[]
def pcC (V:List U):PC->Bool
 |none=>true
 |some c=> !Nat.blt c V.length||(V.getD c default).toB
def mj (V:List U)(o:ObE × (List U->Bool)):Bool:= !pcC V o.1.pc||(o.1.rs.all (rfC V.length)&&o.2 (o.1.rs.map (Rf.eval (XQ V))))
theorem uF (h:∀j u,V[j]? =some u->T j=u){r:Rf}(k:rfC V.length r=true):Rf.eval (XQ V) r=Rf.eval T r:=by
 have g:∀x,Nat.blt x V.length=true->V.getD x default=T x:=fun x b=>by
  have b:=Aa b;rw[h x V[x] (AF b)];simp[List.getD,AF b]
 cases r with
 |c u=>rfl
 |e x=>exact g x k
 |n x=>exact BI (fun z:U=>U.bool (!z.toB)) (g x k)
theorem R3 (h:∀j u,V[j]? =some u->T j=u)(e:ah.all (rfC V.length)=true):ah.map (Rf.eval (XQ V))=ah.map (Rf.eval T):=
 List.map_congr_left fun r b=>uF h (Ae.1 e r b)
theorem oC {T:Tab}:∀{ay:List BE} {V q:List U},evC V ay=some q->(∀j u,V[j]? =some u->T j=u)->Bi T ay->∀j u,q[j]? =some u->T j=u
 |[],V,q,h,hV,_=>by cases h;exact hV
 |(x,f,aU)::r,V,q,h,hV,hE=>by
  unfold evC at h;cases k:(Nat.beq x V.length&&aU.all (rfC V.length)) with
  |false=>rw[k] at h;cases h
  |true=>
   rw[k] at h;rw[AB] at k;have y:=yI k.1;refine oC h (fun j u b=>?_) hE.2;rw[R3 hV k.2] at b;rcases AQ j V.length with s|s
   .rw[AR s] at b;exact hV j u b
   .rw[AS s] at b;have e:j - V.length=0:=by
     rcases yN (j - V.length) with e|e
     .exact e
     .rw[Ai (show [_].length<=_ from e)] at b;cases b
    rw[e] at b;cases b;have:j=x:=by omega
    rw[this];exact hE.1
theorem ul (h:∀j u,V[j]? =some u->T j=u){o:ObE × (List U->Bool)}(aa:∀us,o.2 us=true->poF o.1.po us)(hd:mj V o=true)(k:pcv T o.1.pc):poF o.1.po (o.1.rs.map (Rf.eval T)):=by
 unfold mj at hd;have q:pcC V o.1.pc=true:=by
  cases s:o.1.pc with
  |none=>rfl
  |some c=>
   rw[s] at k;show (!Nat.blt c V.length||(V.getD c default).toB)=true;cases b:Nat.blt c V.length with
   |false=>rfl
   |true=>
    have b:=Aa b;have:=h c V[c] (AF b);have e:V.getD c default=T c:=by rw[this];simp[List.getD,AF b]
    rw[e,show T c= .bool true from k];rfl
 rw[q] at hd;simp only[Bool.not_true,Bool.false_or,AB] at hd;rw[<-R3 h hd.1];exact aa _ hd.2
theorem eR {T:Tab}:∀{l:List ObE},(∀o∈l,pcv T o.pc->poF o.po (o.rs.map (Rf.eval T)))->Ux T (l.map ObE.be)
 |[],_=>trivial
 |o::_,h=>⟨h o (AN ..),eR fun e b=>h e (AK _ b)⟩
theorem wE {b:ObT}(aa:∀e∈b,∀us,e.2.2 us=true->poF e.2.1 us):∀{tg:Tg} {p:PO × (List U->Bool)},b.find tg=some p->∀us,p.2 us=true->poF p.1 us:=by
 induction b with
 |nil=>intro tg p h;cases tg<;>simp[ObT.find] at h
 |cons e r C=>
  intro tg p h;cases tg with
  |s t=>
   obtain⟨s,q⟩:=e;simp only[ObT.find] at h;cases k:(s==t) with
   |true=>rw[k] at h;cases h;exact aa _ (AN ..)
   |false=>rw[k] at h;exact C (fun e y=>aa e (AK _ y)) h
  |loop=>simp[ObT.find] at h
theorem fK {f:FuncId}{E:CM}(ao:∀T,Dj P T E)(k:ObT)(H V:List U){run:Option (AC × Mem × G)}(bs:run=E Ys.none f t.args none t.m { n:=t.n,eqs:=[],obs:=[] })
  (aa:∀e∈k,∀us,e.2.2 us=true->poF e.2.1 us)
  (b:t.sees ah run=some (cg run,((bG k run).map (·.1)).map ObE.be,[])) (ba:M9 t=true)
  (b0:∀(T:Tab) (us:List U),(∀p∈t.pre,p.2 us)->(∀j u,us[j]? =some u->T j=u)->us.length=t.n->Ba T (CA 0 t.ks)->us=H)
  (a1:evC H (cg run)=some V) (bc:(bG k run).all (mj V)=true) (bt:ah.all (rfC V.length)=true) (bl:ah.map (Rf.eval (XQ V))=t.outs.map fun o=>o.2 H):Bl P f t:=by
 subst bs;unfold Bf.sees at b;split at b
 .rename_i aO aP g0 O;split at b
  .rename_i ps bi;injection b with b
   injection b with Y b
   injection b with Z e3
   refine iY ao O bi (fun id a5 e=>?_) fun T us X a6 bo s a0=>?_
   .have:=Ae.1 ba id (List.mem_range.2 a5);grind
   .have N:Bi T (Gf g0.eqs.reverse):=NA fun p hp=>a0 p (List.mem_reverse.1 hp);rw[Y] at N;obtain⟨i1,i2⟩:=SU (x:=0) (Mm X a6) fun j u hj=>by rw[AM];exact s j u hj
    have hu:=b0 T us bo s X i1;subst hu;have K:=oC a1 s N;have C:Ux T (((bG k (E Ys.none f t.args none t.m { n:=t.n,eqs:=[],obs:=[] })).map (·.1)).map ObE.be):=eR fun o ho=>by
     obtain⟨q,y,rfl⟩:=BL.1 ho;refine ul K ?_ (Ae.1 bc q y);rw[O] at y;obtain⟨o,_,rfl⟩:=BL.1 y;cases hf:k.find o.p.tag with
     |some p=>exact wE aa hf
     |none=>intro us h;cases h
    rw[<-Z] at C;exact⟨Jb C,TK (by rw[e3];trivial),by rw[<-R3 K bt,bl]⟩
  .cases b
 .cases b
def ck:PO->List U->Bool
 | .inr,us=>decide (0<=(u0 us).toI)&&decide ((u0 us).toI < (u1 us).toI)
 | .inl,us=>decide (0<=(u0 us).toI)&&decide ((u0 us).toI < (u1 us).toL.length)
 | .btw ar ab,us=>decide (ar<=(u0 us).toI)&&decide ((u0 us).toI<=ab)
 | .fits b,us=>Nat.ble (((u0 us).toL.length+(u1 us).toL.length)*b) 140737488355328
 |_,_=>false
theorem yC {us:List U}(h:ck p us=true):poF p us:=by
 cases p with
 |inr=>simp only[ck,AB,decide_eq_true_eq] at h;exact h
 |inl=>simp only[ck,AB,decide_eq_true_eq] at h;exact h
 |btw ar ab=>simp only[ck,AB,decide_eq_true_eq] at h;exact h
 |fits b=>exact Aa h
 |_=>cases h
def ob (s:String)(p:PO):String × PO × (List U->Bool):=(s,p,ck p)
theorem OQ {s:String}(us:List U)(h:(ob s p).2.2 us=true):poF (ob s p).2.1 us:=yC h
end
end Go.Eng
end
noncomputable section
namespace Go.Eng
abbrev nl(x a b:Nat):En:=⟨x,.and,[.e a,.e b]⟩
abbrev ABF(x a b:Nat):En:=⟨x,.and,[.e a,.n b]⟩
abbrev ABG(x a b:Nat):En:=⟨x,.or,[.e a,.e b]⟩
abbrev ABH(x a:Nat):En:=⟨x,.not,[.e a]⟩
abbrev ABI(x a b:Nat):En:=⟨x,.lt,[.e a,.e b]⟩
abbrev ABJ(x a b:Nat):En:=⟨x,.get .i 1,[.e a,.e b]⟩
abbrev ABK(x a b:Nat):En:=⟨x,.get .i 2,[.e a,.e b]⟩
abbrev ABL(x a:Nat):En:=⟨x,.len,[.e a]⟩
abbrev ABM(x a b:Nat):En:=⟨x,.get .i 0,[.e a,.e b]⟩
abbrev ABN(x a b:Nat):En:=⟨x,.get .s 4,[.e a,.e b]⟩
abbrev ABO(x a b:Nat):En:=⟨x,.get .s 5,[.e a,.e b]⟩
abbrev ABP(x a b:Nat):En:=⟨x,.get .b 3,[.e a,.e b]⟩
abbrev ABQ(x a b:Nat):En:=⟨x,.get .b 6,[.e a,.e b]⟩
abbrev ABR(x a b:Nat):En:=⟨x,.get .i 7,[.e a,.e b]⟩
abbrev ABS(x a b:Nat):En:=⟨x,.get .i 8,[.e a,.e b]⟩
abbrev ABT(x a b c:Nat):En:=⟨x,.ite .i,[.e a,.e b,.e c]⟩
abbrev ABU(x a:Nat):En:=⟨x,.id .b,[.e a]⟩
abbrev ABV(x a b:Nat):En:=⟨x,.w2 .i64 .add,[.e a,.e b]⟩
abbrev ABW(x a b:Nat):En:=⟨x,.w2 .i64 .sub,[.e a,.e b]⟩
abbrev ABX(x a b c:Nat):En:=⟨x,.ite .l,[.e a,.e b,.e c]⟩
abbrev ABY(x a b:Nat):En:=⟨x,.get .s 0,[.e a,.e b]⟩
end Go.Eng
end
