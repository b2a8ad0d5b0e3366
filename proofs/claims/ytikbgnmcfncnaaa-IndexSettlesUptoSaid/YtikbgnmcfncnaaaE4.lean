/-
  A part of the proof: the evaluator of code and its soundness.
-/
import Derived.Test.YtikbgnmcfncnaaaE3
import Derived.Carry
import Derived.ChangeSame
import Derived.Maps.RangeRun
import Derived.LoopNIn
import Derived.Test.YtikbgnmcfncnaaaE2
import Derived.WalkSpells
import Derived.Lib.SliceRun
set_option linter.unusedVariables false
set_option linter.unusedSimpArgs false
noncomputable section
namespace Go.Eng
section
open Go Go.RowKit
def Mr:List (FuncId × Bf)->FuncId->Option CM
 |[],_=>none
 |(f,t)::r,k=>if Nat.beq f k then some (eE t) else Mr r k
theorem Nx {P:Program}:∀{l:List (FuncId × Bf)},(∀p∈l,Bl P p.1 p.2)->∀f c,Mr l f=some c->∀T,∀an k args ae m g b af ao,k=f->ES P T.lp an->c an k args ae m g=some (b,af,ao)->Bo g ao/\(Agr T ao->CB T ao->pcv T ae->Ch T g ae->∀ W w Y,BR T g.n W m w args Y->BX T g.n W m w->
  (∃aE,P.funcs[k]? =some aE/\aE.body.isSome=true/\(aE.name== "runtime.NumGoroutine")=false)/\Calls P k (Y:List Value).toArray w (H3 T g W m w b af ao))
 |[],_,f,c,h=>by simp[Mr] at h
 |(f0,t)::r,hl,f,c,h=>by
  simp only[Mr] at h;split at h
  .rename_i s;cases h;have e:=yI s;subst e;intro T an k args ae m g b af ao y _ q;subst y;exact pl (hl (k,t) (AN ..)) T an args ae m g b af ao q
  .exact Nx (fun p C=>hl p (AK _ C)) f c h
section
variable {P:Program}{w:World}{B:Nat}
theorem xI {H:Type}{enc:TypeId × Value->H}{sp:Nat->Bool}{bb:Bool}{base:Nat}(hB:B<=BT)(hm:P.follows .mixedOrders=true){l:List (FuncId × Bf)}(hl:∀p∈l,Bl P p.1 p.2){Bp:FuncId->EM}{aK am dd:Nat}{f:FuncId}{ax:List TypeId}{aU:List AC}{ks:List Kd}{c:AC}{af:Mem}{ao:G}
  (bm:MC P dd ax 0=some (aU,ks)) (b3:GN P (Mr l) Bp aK am Ys.none f aU none [] { n:=ks.length,eqs:=[],obs:=[] }=some (c,af,ao)) (E:Oq ks.length ao=true)
  (b2:∀(T:Tab) (us:List U),Bb B ks us->us.length=ks.length->(∀j u,us[j]? =some u->T j=u)->(∀p∈ao.eqs,T p.1=p.2.eval T)->CB T ao/\xp T c)
  {Y:List Value} {ds:List (DataW H)} {ps:List MemPlace} (ht:DataW.TrodAll enc P w 0 sp bb ax Y ds ps) (hv:∀(j:Nat) t v,ax[j]? =some t->Y[j]? =some v->Value.okWide P w .any base t v) (ac:∀d∈ds,Et B d):
  Calls P f (Y:List Value).toArray w fun e W'=>e= .returned (.bool true)/\Below w.heap.size w W':=by
 obtain⟨us,u1,u2,u3⟩:=iu hB ax bm ht hv ac;unfold Oq at E;rw[AB] at E;generalize hT:Ci (cY ao.lps us) ao.eqs=T;obtain⟨ay,aG,r3⟩:=Gi ao.eqs (cY ao.lps us);rw[hT] at ay aG r3;have a9:∀j u,us[j]? =some u->T (0+j)=u:=fun j u N=>by
  have cj:=(AG.1 N).1;rw[AM,<-hT,(DZ E.1).2.2 j (.inl (by omega))];show us.getD j default=u;simp[List.getD,N]
 have hA:Agr T ao:=by
  refine⟨fun p hp=>?_,fun p hp=>?_⟩
  .rw[<-hT];exact GT (fv:=[]) (nh:=0) (fun x hx=>by cases hx) (Ak _) E.1 p hp
  .rw[aG];show (Hg ao.lps p.1).getD QA=p.2;rw[SX E.2 p hp];rfl
 obtain⟨p1,p2⟩:=b2 T us u1 u2 (fun j u N=>by have:=a9 j u N;rw[AM] at this;exact this) hA.eqs;have b4:∀b off,b < w.heap.size->Bt T (fun _=>none) [] w b off:=fun b off hb=>⟨hb,by rw[ay];trivial,fun id=>trivial⟩;have b1:BX T ks.length (fun _=>none) [] w:=⟨fun id=>trivial,(fun id cl b h=>by cases h),fun b off _=>by rw[ay];trivial⟩;obtain⟨_,b5⟩:=Ht (Bp:=Bp) (aK:=aK) hm (Nx hl) am T Ys.none f aU none [] _ c af ao (fun T' _ s y hy=>by cases hy) b3;obtain⟨_,hc⟩:=b5 hA p1 trivial trivial (fun _=>none) w Y (u3 T _ b4 a9 ks.length (by omega)) b1;refine hc.mono fun e W' ⟨v, ad,e1,q,e3,K⟩=>?_;refine⟨?_,q.os,q.tape,q.output,q.size,fun k hk=>q.old k hk (fun id h=>by cases h)⟩;rw[e1];congr 1;cases c with
 |cb b=>rw[show b=true from p2] at K;exact K
 |b x=>
  obtain⟨_,b,O,C⟩:=K;rw[show T x=_ from p2] at O;cases O;exact C
 |nb x=>
  obtain⟨_,b,O,C⟩:=K;rw[show T x=_ from p2] at O;cases O;exact C
 |_=>exact p2.elim
end
theorem Rb {H:Type}{enc:TypeId × Value->H}{P:Program}(K:laidOutB P=true){k y:World}(E:Below k.heap.size k y){N:Nat->Bool}:∀{ax:List TypeId} {Y:List Value} {s:List (DataW H)} {ps:List MemPlace},
  (∀t∈ax,P.readableRec t=true/\t < P.types.size)->DataW.TrodAll enc P k 0 (fun _=>true) true ax Y s ps->(∀x∈ps,x.block < k.heap.size)->(∀x∈ps,N x.block=true)->DataW.TrodAll enc P y 0 N true ax Y s ps
 |[],[],[],_,_,h,_,_=>h
 |t::ax,v::Y,d::s,ps,ht,⟨p,q,O,C,e⟩,hlt,ac=>by
  subst e;obtain⟨ay,aG⟩:=ht t (AN ..);exact⟨p,q,WideElems.Trod_stays K ay aG O (fun x b=>E.same (hlt x (AU _ b))) (fun x b=>ac x (AU _ b)),
   Rb K E (fun t h=>ht t (AK _ h)) C (fun x b=>hlt x (AO _ b)) (fun x b=>ac x (AO _ b)),rfl⟩
 |[],_::_,_,_,_,h,_,_=>h.elim
 |[],[],_::_,_,_,h,_,_=>h.elim
 |_::_,[],_,_,_,h,_,_=>h.elim
 |_::_,_::_,[],_,_,h,_,_=>h.elim
end
section
open Go Go.RowKit Go.ChangeShapes Go.WideShapes
theorem tL {H:Type}{enc:TypeId × Value->H}{P:Program}{f:Func}{s:ChangeSpec}{apart bl bs bi:Bool}{E K:World}{args:Array Value}{k y:List (DataW H)}{a0:List MemPlace}{tb:TypeId}
  (hl:laidOutB P=true) (b1:∀t∈f.params.toList,P.readableRec t=true/\t < P.types.size) (a5:f.resultTypes= #[tb]) (a6:P.underlying tb=some .bool) (ba:s.vars=[])
  (ao:s.fn H (k++y)={ results:=[.lit (.bool true)],args:=k })
  (Y:DataW.Whole enc P f.params.toList s.vars apart E args.toList k y a0) (hb:Below E.heap.size E K):s.post enc P f apart bl bs bi E args (.bool true) K:=by
 have ax:∀p∈a0,p.block < E.heap.size:=Y.lt;have bo:=Y;obtain⟨p,q,hA,N,rfl,hz,hn⟩:=Y;have hq:q=[]:=by
  rw[ba] at N;cases y with
  |nil=>exact N
  |cons=>exact N.elim
 subst hq;have bx:∀x∈p++[],(fun b=>decide (b < E.heap.size)) x.block=true:=fun x h=>by simpa using ax x h
 have a1:∀e:Nat->Bool,(∀x∈p++[],e x.block=true)->DataW.TrodAll enc P K 0 e true f.params.toList args.toList (s.fn H (k++y)).args p:=fun e b2=>by
  rw[ao];exact Rb hl hb b1 hA (fun x h=>ax x (by simp[h])) (fun x h=>b2 x (by simp[h]))
 have a9:∀e:Nat->Bool,DataW.TrodVars enc P K e s.vars (s.fn H (k++y)).vars []:=fun e=>by rw[ao,ba];rfl
 have hr:∀(b:Nat) (e:Nat->Bool) (hd:Bool),DataW.TrodAll enc P K b e hd f.resultTypes.toList ((Value.bool true).resultList f.resultTypes.size) (s.fn H (k++y)).results []:=fun b e hd=>by
  rw[ao,a5];exact⟨[],[],⟨1,by simp[DataW.trod,a6,Value.cells]⟩,rfl,rfl⟩
 refine⟨k,y,p++[],[],p,[],bo,hr _ _ _,a1 _ bx,a9 _,World.keptBut_mono (fun x h=>⟨h,.inr (by simpa using h)⟩) (hb.frame (· ∈p++[])),fun _=>?_⟩;refine⟨fun j t r O C=>?_,_,_,([]++p)++[],⟨[]++p,[],trodAll_append (a1 _ (fun _ _=>rfl)) (hr _ _ _),a9 _,rfl,?_,?_⟩,?_⟩
 .exact ok_one a5 (by rfl) (by simp[Value.okWide,a6,Cell.okWide,Cell.ok]) j t r O C
 .intro b off hp;rw[hb.frozen (ax _ (by simpa using hp))];exact hz b off (by simpa using hp)
 .grind
 .grind
end
section
open Go
inductive Ty where
 |i|b|l|r (c:Nat)|s
 deriving DecidableEq
def I (T:Tab)(x:Nat):Int:=(T.get x).toI
def B (T:Tab)(x:Nat):Bool:=(T.get x).toB
def L (T:Tab)(x:Nat):List (List U):=(T.get x).toL
def S (T:Tab)(x:Nat):ByteArray:=(T.get x).toS
def iR (T:Tab)(r:Rf):Int:=(r.eval T).toI
def bR (T:Tab)(r:Rf):Bool:=(r.eval T).toB
def lR (T:Tab)(r:Rf):List (List U):=(r.eval T).toL
def stR (T:Tab)(r:Rf):ByteArray:=(r.eval T).toS
def uR (T:Tab):Ty->Rf->U
 | .i,r=> .int (iR T r)
 | .b,r=> .bool (bR T r)
 | .l,r=> .list (lR T r)
 | .r _,r=>r.eval T
 | .s,r=> .str (stR T r)
variable{T:Tab}{x:Nat}
theorem iR_c {n:Int}:iR T (.c (.int n))=n:=Eq.trans rfl rfl
theorem iR_e :iR T (.e x)=I T x:=Eq.trans rfl rfl
theorem bR_c {n:Bool}:bR T (.c (.bool n))=n:=Eq.trans rfl rfl
theorem BZ :bR T (.e x)=B T x:=Eq.trans rfl rfl
theorem bR_n :bR T (.n x)= !B T x:=Eq.trans rfl rfl
theorem lR_c :lR T (.c (.list []))=[]:=Eq.trans rfl rfl
theorem lR_e :lR T (.e x)=L T x:=Eq.trans rfl rfl
theorem xd {s:ByteArray}:stR T (.c (.str s))=s:=Eq.trans rfl rfl
theorem xj :stR T (.e x)=S T x:=Eq.trans rfl rfl
def TQ (T:Tab):List Rf->Int->Int
 |[],_=>0
 |a::l,n=>if n<=0 then iR T a else TQ T l (n - 1)
def Sz (T:Tab):List Rf->Int->Prop
 |[],_=>False
 |a::l,n=>(n<=0/\bR T a=true)\/(¬n<=0/\Sz T l (n - 1))
def BU (l:List (List U))(i c:Nat):Int:=((l.getD i []).getD c default).toI
def DW (l:List (List U))(i c:Nat):Bool:=((l.getD i []).getD c default).toB
def Bq (l:List (List U))(i c:Nat):ByteArray:=((l.getD i []).getD c default).toS
def EB (G c:Nat)(l:List (List U))(z:U)(k:List U):U:=bif decide (Bz G l k < l.length) then (l.getD (Bz G l k) []).getD (G+c) default else z
def xr (l:List (List U))(i c:Nat):List (List U):=((l.getD i []).getD c default).toL
inductive Op2 where
 |add|sub|mul|div|mod|tdiv|tmod|min|max
def Op2.f:Op2->Int->Int->Int
 | .add=>rE| .sub=>tQ| .mul=>tB| .div=>t8| .mod=>aq| .tdiv=>Ww| .tmod=>jg| .min=>XD| .max=>XT
inductive Opn where
 |id (t:Ty)|not|and|or|lt|le|eq|ne
 |eqs (ts:List Ty)|nes (ts:List Ty)|eqb|neb
 |ite (t:Ty)|ifb
 |o2 (o:Op2)|w2 (k:IntKind) (o:Op2)|wx (k:IntKind) (o:Op2)|w1 (k:IntKind)|wneg (k:IntKind)|neg|bits (o:BinOp) (k:IntKind)
 |take|drop|sub|slen|sat
 |len|app|get (t:Ty) (c:Nat)|mget (t:Ty) (nk c:Nat) (ts:List Ty)|mhas (nk:Nat) (ts:List Ty)|mset (nk:Nat) (ts:List Ty)|pick (t:Ty)|row (k s:Nat) (ts:List Ty)|rset (c:Nat) (ts:List Ty)|rep (ts:List Ty)
 |outI (tg:String) (f:List U->Int)|outB (tg:String) (f:List U->Bool)|outL (tg:String) (f:List U->List (List U))|outS (tg:String) (f:List U->ByteArray)|res (t:Ty) (D:Bs) (j:Nat)
def tyC:Ty->Nat| .i=>0| .b=>1| .s=>2| .l=>3| .r _=>4
def CW (f:List U->Int)(us:List U):U:= .int (f us)
def Jx (f:List U->Bool)(us:List U):U:= .bool (f us)
def D1 (f:List U->List (List U))(us:List U):U:= .list (f us)
def lE (f:List U->ByteArray)(us:List U):U:= .str (f us)
def opF:Opn->List U->U
 | .id _=>oId| .not=>XL| .and=>R9| .or=>oOr| .lt=>oLt| .le=>oLe| .eq=>oEq| .ne=>oNe
 | .eqs _=>lC| .nes _=>j7| .eqb=>qY| .neb=>tz
 | .ite _=>oIf| .ifb=>kE
 | .o2 o=>Go.Eng.o2 o.f| .w2 k o=>LM k (Go.Eng.o2 o.f)| .wx k o=>LM k (Go.Eng.o2 o.f)| .w1 k=>LM k oId| .wneg k=>LM k au| .neg=>au| .bits o k=>Go.Eng.o2 (El o k)
 | .take=>P0| .drop=>lO| .sub=>rU| .slen=>js| .sat=>tx
 | .len=>SQ| .app=>UT| .get t c=>TR (tyC t) c| .mget t G c _=>qE (tyC t) G c| .mhas G _=>lN G| .mset G _=>kX G| .pick _=>V4| .row k s _=>aH k s| .rset c _=>jS c| .rep _=>so
 | .outI _ f=>CW f| .outB _ f=>Jx f| .outL _ f=>D1 f| .outS _ f=>lE f| .res _ D j=>D.res j
structure En where
 x:Nat
 op:Opn
 rs:List Rf
def En.be (e:En):Nat × (List U->U) × List Rf:=(e.x,opF e.op,e.rs)
def Dw (T:Tab):List Ty->List Rf->Prop
 | .i::ax,a::b::r=>iR T a=iR T b/\Dw T ax r
 | .b::ax,a::b::r=>(bR T a=true↔bR T b=true)/\Dw T ax r
 | .s::ax,a::b::r=>stR T a=stR T b/\Dw T ax r
 |_,_=>True
def EK (o:Op2)(c a b:Int):Prop:=match o with
 | .add=>c=a+b| .sub=>c=a - b| .mul=>c=a*b| .div=>c=a / b| .mod=>c=a % b
 | .tdiv=>c=if 0<=a then a / b else -(-a / b)
 | .tmod=>c=if 0<=a then a % b else -(-a % b)
 | .min=>c=if a<=b then a else b
 | .max=>c=if a<=b then b else a
def w2P (k:IntKind)(o:Op2)(c a b:Int):Prop:=match k,o with
 | .i64,.add=> -9223372036854775808<=a+b->a+b<=9223372036854775807->c=a+b
 | .i64,.sub=> -9223372036854775808<=a - b->a - b<=9223372036854775807->c=a - b
 | .i64,.mul=> -9223372036854775808<=a*b->a*b<=9223372036854775807->c=a*b
 |k,o=>c=k.wrap (o.f a b)
def wnP (k:IntKind)(c a:Int):Prop:=match k with
 | .i64=>(-9223372036854775807<=a->a<=9223372036854775808->c= -a)/\(a= -9223372036854775808->c=a)
 |k=>c=k.wrap (0 - a)
def BS (T:Tab)(e:En):Prop:=
 match e with
 |⟨x,.id .i,[a]⟩=>I T x=iR T a
 |⟨x,.id .b,[a]⟩=>(B T x=true↔bR T a=true)
 |⟨x,.id .l,[a]⟩=>L T x=lR T a
 |⟨x,.id .s,[a]⟩=>S T x=stR T a
 |⟨x,.not,[a]⟩=>(B T x=true↔¬bR T a=true)
 |⟨x,.and,[a,b]⟩=>(B T x=true↔(bR T a=true/\bR T b=true))
 |⟨x,.or,[a,b]⟩=>(B T x=true↔(bR T a=true\/bR T b=true))
 |⟨x,.lt,[a,b]⟩=>(B T x=true↔iR T a < iR T b)
 |⟨x,.le,[a,b]⟩=>(B T x=true↔iR T a<=iR T b)
 |⟨x,.eq,[a,b]⟩=>(B T x=true↔iR T a=iR T b)
 |⟨x,.ne,[a,b]⟩=>(B T x=true↔¬iR T a=iR T b)
 |⟨x,.eqs ax,r⟩=>(B T x=true↔Dw T ax r)
 |⟨x,.nes ax,r⟩=>(B T x=true↔¬Dw T ax r)
 |⟨x,.eqb,[a,b]⟩=>(B T x=true↔(bR T a=true↔bR T b=true))
 |⟨x,.neb,[a,b]⟩=>(B T x=true↔¬(bR T a=true↔bR T b=true))
 |⟨x,.ite .i,[a,b,c]⟩=>I T x=if bR T a=true then iR T b else iR T c
 |⟨x,.ite .b,[a,b,c]⟩=>(B T x=true↔((bR T a=true/\bR T b=true)\/(¬bR T a=true/\bR T c=true)))
 |⟨x,.ite .l,[a,b,c]⟩=>L T x=if bR T a=true then lR T b else lR T c
 |⟨x,.ite .s,[a,b,c]⟩=>S T x=if bR T a=true then stR T b else stR T c
 |⟨x,.ifb,[a,b,c]⟩=>(B T x=true↔((bR T a=true/\bR T b=true)\/(¬bR T a=true/\bR T c=true)))
 |⟨x,.o2 o,[a,b]⟩=>EK o (I T x) (iR T a) (iR T b)
 |⟨x,.w2 k o,[a,b]⟩=>w2P k o (I T x) (iR T a) (iR T b)
 |⟨x,.wx k o,[a,b]⟩=>I T x=k.wrap (o.f (iR T a) (iR T b))
 |⟨x,.w1 k,[a]⟩=>I T x=k.wrap (iR T a)
 |⟨x,.wneg k,[a]⟩=>wnP k (I T x) (iR T a)
 |⟨x,.neg,[a]⟩=>I T x= -iR T a
 |⟨x,.bits o k,[a,b]⟩=>I T x=El o k (iR T a) (iR T b)
 |⟨x,.len,[a]⟩=>I T x=(lR T a).length
 |⟨x,.app,[a,b]⟩=>L T x=lR T a++lR T b
 |⟨x,.take,[a,b]⟩=>L T x=(lR T a).take (iR T b).toNat
 |⟨x,.drop,[a,b]⟩=>L T x=(lR T a).drop (iR T b).toNat
 |⟨x,.sub,[a,b,c]⟩=>L T x=((lR T a).take (iR T c).toNat).drop (iR T b).toNat
 |⟨x,.slen,[a]⟩=>I T x=(stR T a).size
 |⟨x,.sat,[a,b]⟩=>I T x=C4 (stR T a) (iR T b).toNat
 |⟨x,.get .i c,[a,b]⟩=>I T x=BU (lR T a) (iR T b).toNat c
 |⟨x,.get .b c,[a,b]⟩=>B T x=DW (lR T a) (iR T b).toNat c
 |⟨x,.get .l c,[a,b]⟩=>L T x=xr (lR T a) (iR T b).toNat c
 |⟨x,.get .s c,[a,b]⟩=>S T x=Bq (lR T a) (iR T b).toNat c
 |⟨x,.mget .i G c ax,a::z::r⟩=>I T x=(EB G c (lR T a) (z.eval T) (List.zipWith (uR T) ax r)).toI
 |⟨x,.mget .b G c ax,a::z::r⟩=>B T x=(EB G c (lR T a) (z.eval T) (List.zipWith (uR T) ax r)).toB
 |⟨x,.mget .s G c ax,a::z::r⟩=>S T x=(EB G c (lR T a) (z.eval T) (List.zipWith (uR T) ax r)).toS
 |⟨x,.mhas G ax,a::r⟩=>(B T x=true↔Bz G (lR T a) (List.zipWith (uR T) ax r) < (lR T a).length)
 |⟨x,.mset G ax,a::r⟩=>L T x=Cb G (lR T a) ((List.zipWith (uR T) ax r).take G) ((List.zipWith (uR T) ax r).drop G)
 |⟨x,.pick .i,a::r⟩=>I T x=TQ T r (iR T a)
 |⟨x,.pick .b,a::r⟩=>(B T x=true↔Sz T r (iR T a))
 |⟨x,.row k s ax,r⟩=>L T x=Cp s k (List.zipWith (uR T) ax r)
 |⟨x,.rset c ax,a::b::r⟩=>L T x=E7 (lR T a) (iR T b).toNat c (List.zipWith (uR T) ax r)
 |⟨x,.rep ax,a::r⟩=>L T x=List.replicate (iR T a).toNat (List.zipWith (uR T) ax r)
 |⟨x,.outI _ f,r⟩=>I T x=f (r.map (Rf.eval T))
 |⟨x,.outB _ f,r⟩=>B T x=f (r.map (Rf.eval T))
 |⟨x,.outL _ f,r⟩=>L T x=f (r.map (Rf.eval T))
 |⟨x,.outS _ f,r⟩=>S T x=f (r.map (Rf.eval T))
 |_=>True
def XX:Ty->Bool| .i=>true| .b=>true| .s=>true|_=>false
abbrev DB:=List (Nat × Ty)
def PR:Ty->Ty->Bool| .i,.i=>true| .b,.b=>true| .l,.l=>true| .r c,.r d=>Nat.beq c d| .s,.s=>true|_,_=>false
def Z1:DB->Nat->Ty->Bool
 |[],_,_=>false
 |(y,t)::r,x,u=>if Nat.beq y x&&PR t u then true else Z1 r x u
def tyR (ai:DB)(t:Ty):Rf->Bool
 | .c (.int _)=>PR t .i
 | .c (.bool _)=>PR t .b
 | .c (.list _)=>PR t .l
 | .c (.str _)=>PR t .s
 | .c _=>false
 | .n _=>PR t .b
 | .e x=>Z1 ai x t
def Hc (ai:DB):List Ty->List Rf->Bool
 |[],[]=>true
 |t::ax,r::ag=>tyR ai t r&&Hc ai ax ag
 |_,_=>false
def FO:List Ty->List Ty
 |[]=>[]
 |t::ax=>t::t::FO ax
def uV (T:Tab)(t:Ty)(x:Nat):U:=uR T t (.e x)
def mR (T:Tab)(x c:Nat):Prop:=∀i:Nat,∃n,((L T x).getD i []).getD c default= .int n
def Sty (T:Tab)(x:Nat):Ty->Prop
 | .r c=>mR T x c
 |t=>T.get x=uV T t x
def Ba (T:Tab):DB->Prop
 |[]=>True
 |(x,t)::r=>Sty T x t/\Ba T r
theorem Sty.get :∀{t:Ty},Sty T x t->T.get x=uV T t x
 | .i,h=>h
 | .b,h=>h
 | .l,h=>h
 | .r _,_=>rfl
 | .s,h=>h
def noR:Ty->Bool| .r _=>false|_=>true
def IQ (ai:DB)(e:En):Option (Option Ty):=
 match e.op,e.rs with
 | .id t,[a]=>some (if tyR ai t a then some t else none)
 | .ite t,[_,b,c]=>some (if tyR ai t b&&tyR ai t c then some t else none)
 | .eqs ax,r=>if Hc ai (FO ax) r&&ax.all XX then some (some .b) else none
 | .nes ax,r=>if Hc ai (FO ax) r&&ax.all XX then some (some .b) else none
 | .row _ _ ax,r=>if Hc ai ax r then some (some .l) else none
 | .rset _ ax,_::_::r=>if Hc ai ax r then some (some .l) else none
 | .rep ax,_::r=>if Hc ai ax r then some (some .l) else none
 | .mset _ ax,_::r=>if Hc ai ax r then some (some .l) else none
 | .not,_| .and,_| .or,_| .lt,_| .le,_| .eq,_| .ne,_| .ifb,_| .eqb,_| .neb,_=>some (some .b)
 | .mhas _ ax,_::r=>if Hc ai ax r then some (some .b) else none
 | .o2 _,_| .w2 _ _,_| .wx _ _,_| .w1 _,_| .wneg _,_| .neg,_| .bits _ _,_| .len,_| .slen,_| .sat,_=>some (some .i)
 | .app,_| .take,_| .drop,_| .sub,_=>some (some .l)
 | .pick .i,_::r=>some (if r.all (tyR ai .i) then some .i else none)
 | .pick .i,[]=>some none
 | .pick .b,_::b::r=>some (if (b::r).all (tyR ai .b) then some .b else none)
 | .outI _ _,_=>some (some .i)
 | .outB _ _,_=>some (some .b)
 | .outL _ _,_=>some (some .l)
 | .outS _ _,_=>some (some .s)
 | .get t _,_=>some (if noR t then some t else none)
 | .mget t _ _ ax,_::_::r=>if Hc ai ax r then some (if noR t then some t else none) else none
 | .pick _,_| .res _ _ _,_=>some none
 |_,_=>none
def Wj (e:En):DB:=
 match e.op with
 | .row _ s ax=>if ax.all (PR .i) then (List.range s).map fun c=>(e.x,.r c) else []
 |_=>[]
def chk:DB->List En->Option DB
 |ai,[]=>some ai
 |ai,e::r=>match IQ ai e with
  |none=>none
  |some none=>chk ai r
  |some (some t)=>if noR t then chk (Wj e++(e.x,t)::ai) r else none
section
variable {T:Tab}
variable{t u:Ty}{ai:DB}{r:List Rf}{x:Nat}{v:Bool}
theorem TO (h:PR t u=true):t=u:=by cases t<;>cases u<;>first|rfl|(cases h;done)|(rw[yI h])
theorem Kb:∀{ai:DB} {x:Nat} {t:Ty},Ba T ai->Z1 ai x t=true->T.get x=uV T t x
 |[],_,_,_,h=>by cases h
 |(y,u)::r,x,t,ac,h=>by
  simp only[Z1] at h;split at h
  .rename_i b;rw[AB] at b;have e:=yI b.1;subst e;rw[<-TO b.2];exact ac.1.get
  .exact Kb ac.2 h
theorem Lt {r:Rf}(ac:Ba T ai)(h:tyR ai t r=true):r.eval T=uR T t r:=by
 cases r with
 |c u=>cases u<;>simp only[tyR] at h<;>first|(have e:=TO h;subst e;rfl)|cases h
 |e x=>exact Kb ac h
 |n x=>have e:=TO h;subst e;rfl
theorem DK {ai:DB}(ac:Ba T ai):∀{ax:List Ty} {ag:List Rf},Hc ai ax ag=true->ag.map (Rf.eval T)=List.zipWith (uR T) ax ag
 |[],[],_=>rfl
 |t::ax,r::ag,h=>by
  simp only[Hc,AB] at h;simp only[AT,List.zipWith_cons_cons];rw[Lt ac h.1,DK ac h.2]
 |[],_::_,h=>by cases h
 |_::_,[],h=>by cases h
theorem bS {ai:DB}:∀{ax:List Ty} {ag:List Rf},Hc ai ax ag=true->ag.length=ax.length
 |[],[],_=>rfl
 |_::_,_::_,h=>by
  simp only[Hc,AB] at h;simp[bS h.2]
 |[],_::_,h=>by cases h
 |_::_,[],h=>by cases h
theorem iQ:∀{ax:List Ty} {ag:List Rf},ag.length=(FO ax).length->ax.all XX=true->(HI (List.zipWith (uR T) (FO ax) ag)=true↔Dw T ax ag)
 |[],[],_,_=>by simp[HI,FO,Dw]
 |t::ax,a::b::r,hl,hn=>by
  simp only[List.all_cons,AB] at hn;have e:=iQ (ax:=ax) (ag:=r) (by simpa [FO] using hl) hn.2;simp only[FO,List.zipWith_cons_cons,HI,AB];rw[e];cases t with
  |i=>simp[uR,U.eqv,Dw]
  |b=>
   simp only[uR,U.eqv,Dw];cases bR T a<;>cases bR T b<;>simp
  |l=>exact absurd hn.1 (by simp[XX])
  |r c=>exact absurd hn.1 (by simp[XX])
  |s=>simp[uR,U.eqv,Dw]
 |[],_::_,hl,_=>by simp[FO] at hl
 |_::_,[],hl,_=>by simp[FO] at hl
 |_::_,[_],hl,_=>by simp[FO] at hl
theorem cZ (ac:Ba T ai){ax:List Ty}{ag:List Rf}{c:Bool}(h:(Hc ai (FO ax) ag&&ax.all XX)=true):HI (ag.map (Rf.eval T))=true↔Dw T ax ag:=by
 rw[AB] at h;rw[DK ac h.1];exact iQ (bS h.1) h.2
theorem qH (l:List U):(IK l).toI=0:=by
 unfold IK;split<;>rfl
theorem nj (l:List U):(IK l).toB=false:=by
 unfold IK;split<;>rfl
theorem YA {d:U}(hd:d.toI=0):∀(l:List Rf) (n:Int),((l.map (Rf.eval T)).getD n.toNat d).toI=TQ T l n
 |[],n=>by simp[TQ,hd]
 |a::l,n=>by
  simp only[TQ];split
  .rename_i h;have:n.toNat=0:=by omega
   simp[this,iR]
  .rename_i h;have e:n.toNat=(n - 1).toNat+1:=by omega
   rw[e,<-YA hd l (n - 1)];simp
theorem YW {d:U}(hd:d.toB=false):∀(l:List Rf) (n:Int),((l.map (Rf.eval T)).getD n.toNat d).toB=true↔Sz T l n
 |[],n=>by simp[Sz,hd]
 |a::l,n=>by
  simp only[Sz];by_cases h:n<=0
  .have:n.toNat=0:=by omega
   simp[this,h,bR]
  .have e:n.toNat=(n - 1).toNat+1:=by omega
   rw[e,<-YW hd l (n - 1)];simp[h]
theorem vB (h:T.get x= .bool v):B T x=v:=by unfold B;rw[h];rfl
theorem vI {v:Int}(h:T.get x= .int v):I T x=v:=by unfold I;rw[h];rfl
theorem vL {v:List (List U)}(h:T.get x= .list v):L T x=v:=by unfold L;rw[h];rfl
theorem sB (h:T.get x= .bool v):T.get x=uV T .b x:=by rw[h];show _=U.bool (T.get x).toB;rw[h];rfl
theorem sI {v:Int}(h:T.get x= .int v):T.get x=uV T .i x:=by rw[h];show _=U.int (T.get x).toI;rw[h];rfl
theorem vS {v:ByteArray}(h:T.get x= .str v):S T x=v:=by unfold S;rw[h];rfl
theorem sS {v:ByteArray}(h:T.get x= .str v):T.get x=uV T .s x:=by rw[h];show _=U.str (T.get x).toS;rw[h];rfl
theorem sL {v:List (List U)}(h:T.get x= .list v):T.get x=uV T .l x:=by rw[h];show _=U.list (T.get x).toL;rw[h];rfl
theorem xP (o:Op2)(a b:Int):EK o (o.f a b) a b:=by
 cases o<;>simp only[EK,Op2.f]<;>first|rfl|exact tdiv_eq_if a b|exact tmod_eq_if a b|exact Int.min_def a b|exact Int.max_def a b
theorem yB (k:IntKind)(o:Op2)(a b:Int):w2P k o (k.wrap (o.f a b)) a b:=by
 cases k<;>cases o<;>simp only[w2P,Op2.f]<;>exact fun O C=>GO .i64 _ O C
theorem xy (k:IntKind)(a:Int):wnP k (k.wrap (0 - a)) a:=by
 cases k<;>simp only[wnP];refine⟨fun O C=>?_,fun h=>by subst h;decide⟩;rw[GO .i64 _ (by show (-9223372036854775808:Int)<=_;omega) (by show _<=(9223372036854775807:Int);omega)];omega
theorem gw (ac:Ba T ai):∀(e:En) {o:Option Ty},IQ ai e=some o->T.get e.x=opF e.op (e.rs.map (Rf.eval T))->BS T e:=by
 intro e o q h;unfold BS;split<;>(try simp only at q h)
 .exact BI U.toI h
 .exact Bool.eq_iff_iff.1 (BI U.toB h)
 .exact BI U.toL h
 .exact BI U.toS h
 .have:=vB h;rw[this];simp[u0,bR]
 .have:=vB h;rw[this];simp[u0,u1,bR]
 .have:=vB h;rw[this];simp[u0,u1,bR]
 .have:=vB h;rw[this];simp[u0,u1,iR]
 .have:=vB h;rw[this];simp[u0,u1,iR]
 .have:=vB h;rw[this];simp[u0,u1,iR]
 .have:=vB h;rw[this];simp[u0,u1,iR]
 .rename_i x ax r;simp only[IQ] at q;split at q
  .rename_i y;rw[vB h];exact cZ (c:=true) ac y
  .cases q
 .rename_i x ax r;simp only[IQ] at q;split at q
  .rename_i y;rw[vB h,<-cZ (c:=true) ac y];simp
  .cases q
 .have:=vB h;rw[this];simp only[u0,u1,bR,AT,An,List.getD_cons_zero,List.getD_cons_succ];rename_i a b;cases (a.eval T).toB<;>cases (b.eval T).toB<;>simp
 .have:=vB h;rw[this];simp only[u0,u1,bR,AT,An,List.getD_cons_zero,List.getD_cons_succ];rename_i a b;cases (a.eval T).toB<;>cases (b.eval T).toB<;>simp
 .rename_i x a b c;have O:=BI U.toI h;show (T.get x).toI=_;rw[O];show (bif (a.eval T).toB then b.eval T else c.eval T).toI=_;unfold bR iR;grind
 .rename_i x a b c;have O:=BI U.toB h;show ((T.get x).toB=true↔_);rw[O];show ((bif (a.eval T).toB then b.eval T else c.eval T).toB=true↔_);unfold bR;grind
 .rename_i x a b c;have O:=BI U.toL h;show (T.get x).toL=_;rw[O];show (bif (a.eval T).toB then b.eval T else c.eval T).toL=_;unfold bR lR;grind
 .rename_i x a b c;have O:=BI U.toS h;show (T.get x).toS=_;rw[O];show (bif (a.eval T).toB then b.eval T else c.eval T).toS=_;unfold bR stR;grind
 .rename_i x a b c;rw[vB h];show ((bif (a.eval T).toB then (b.eval T).toB else (c.eval T).toB)=true↔_);unfold bR;grind
 .rw[vI h];exact xP _ _ _
 .rw[vI h];exact yB _ _ _ _
 .rw[vI h];rfl
 .rw[vI h];rfl
 .rw[vI h];exact xy _ _
 .rw[vI h];show 0 - _=_;rw[Int.zero_sub];rfl
 .rw[vI h];rfl
 .rw[vI h];rfl
 .rw[vL h];rfl
 .rw[vL h];rfl
 .rw[vL h];rfl
 .rw[vL h];rfl
 .rw[vI h];rfl
 .rw[vI h];rfl
 .exact (BI U.toI h).trans rfl
 .exact (BI U.toB h).trans rfl
 .exact (BI U.toL h).trans rfl
 .exact (BI U.toS h).trans rfl
 .simp only[IQ] at q;split at q
  .rename_i y;rw[<-DK ac y];exact (BI U.toI h).trans rfl
  .cases q
 .simp only[IQ] at q;split at q
  .rename_i y;rw[<-DK ac y];exact (BI U.toB h).trans rfl
  .cases q
 .simp only[IQ] at q;split at q
  .rename_i y;rw[<-DK ac y];exact (BI U.toS h).trans rfl
  .cases q
 .simp only[IQ] at q;split at q
  .rename_i y;rw[<-DK ac y,vB h];exact decide_eq_true_iff
  .cases q
 .rename_i x G ax a r;simp only[IQ] at q;split at q
  .rename_i y;rw[<-DK ac y];exact vL h
  .cases q
 .exact (BI U.toI h).trans (YA (qH _) _ _)
 .have O:=BI U.toB h;refine Iff.trans (b:=((_:U).toB=true)) (by rw[show B T _=_ from O];exact Iff.rfl) (YW (nj _) _ _)
 .rename_i x k s ax r;simp only[IQ] at q;split at q
  .rename_i y;rw[vL h,DK ac y]
  .cases q
 .rename_i x c ax a b r;simp only[IQ] at q;split at q
  .rename_i y;rw[<-DK ac y];exact vL h
  .cases q
 .rename_i x ax a r;simp only[IQ] at q;split at q
  .rename_i y;rw[<-DK ac y];exact vL h
  .cases q
 .exact BI U.toI h
 .exact BI U.toB h
 .exact BI U.toL h
 .exact BI U.toS h
 .trivial
theorem X3 {ai:DB}(ac:Ba T ai):∀{r:List Rf} (n:Nat),r.all (tyR ai .i)=true->∃v,(r.map (Rf.eval T)).getD n (.int 0)= .int v
 |[],n,_=>⟨0,by simp⟩
 |a::r,n,h=>by
  simp only[List.all_cons,AB] at h;cases n with
  |zero=>exact⟨iR T a,by simpa [uR] using Lt ac h.1⟩
  |succ n=>simpa using X3 ac (r:=r) n h.2
theorem WO {ai:DB}(ac:Ba T ai):∀{r:List Rf} (n:Nat),r.all (tyR ai .b)=true->∃v,(r.map (Rf.eval T)).getD n (.bool false)= .bool v
 |[],n,_=>⟨false,by simp⟩
 |a::r,n,h=>by
  simp only[List.all_cons,AB] at h;cases n with
  |zero=>exact⟨bR T a,by simpa [uR] using Lt ac h.1⟩
  |succ n=>simpa using WO ac (r:=r) n h.2
theorem tu (ac:Ba T ai)(n:Nat)(h:r.all (tyR ai .i)=true):∃v,(r.map (Rf.eval T)).getD n (IK (r.map (Rf.eval T)))= .int v:=by
 have e:IK (r.map (Rf.eval T))= .int 0:=by
  cases r with
  |nil=>rfl
  |cons a r=>
   simp only[List.all_cons,AB] at h;have O:a.eval T= .int (iR T a):=by simpa [uR] using Lt ac h.1
   rw[AT,O];rfl
 rw[e];exact X3 ac n h
theorem oI (ac:Ba T ai){b:Rf}(n:Nat)(h:(b::r).all (tyR ai .b)=true):∃v,((b::r).map (Rf.eval T)).getD n (IK ((b::r).map (Rf.eval T)))= .bool v:=by
 have e:IK ((b::r).map (Rf.eval T))= .bool false:=by
  have k:=h;simp only[List.all_cons,AB] at k;have O:b.eval T= .bool (bR T b):=by simpa [uR] using Lt ac k.1
  rw[AT,O];rfl
 rw[e];exact WO ac n h
theorem pW (h:(some (if noR t=true then some t else none):Option (Option Ty))=some (some u)):t=u:=by
 grind
theorem xz {c:Prop} [Decidable c] (h:(if c then some (if noR t=true then some t else none) else none:Option (Option Ty))=some (some u)):(some (if noR t=true then some t else none):Option (Option Ty))=some (some u):=by
 grind
theorem mq {v:U}(e:(some (if noR t=true then some t else none):Option (Option Ty))=some (some t))(h:T.get x=coC (tyC t) v):T.get x=uV T t x:=by
 cases t with
 |i=>exact sI h
 |b=>exact sB h
 |l=>exact sL h
 |s=>exact sS h
 |r c=>cases e
theorem xf (ac:Ba T ai):∀(e:En) {t:Ty},IQ ai e=some (some t)->T.get e.x=opF e.op (e.rs.map (Rf.eval T))->T.get e.x=uV T t e.x:=by
 intro e t k h;unfold IQ at k;split at k
 .rename_i a q s;split at k
  .rename_i y;cases k;rw[q,s] at h;have C:T.get e.x=a.eval T:=h;rw[Lt ac y] at C;cases t
   .exact sI C
   .exact sB C
   .exact sL C
   .rfl
   .exact sS C
  .cases k
 .rename_i a b c q s;split at k
  .rename_i y;cases k;rw[AB] at y;rw[q,s] at h;have C:T.get e.x=bif (a.eval T).toB then b.eval T else c.eval T:=h
   rw[Lt ac y.1,Lt ac y.2] at C;cases t<;>cases O:(a.eval T).toB<;>rw[O] at C<;>first|exact sI C|exact sB C|exact sL C|exact sS C|rfl
  .cases k
 all_goals first
  |(rename_i u c q;have H:=pW k;rw[q] at h;subst H;exact mq k h)
  |(rename_i u G c ax a N r q s;have K:=xz k;have H:=pW K;rw[q] at h;subst H;exact mq K h)
  |(rename_i a N r q s;split at k<;>cases k;rename_i y;rw[q,s] at h;obtain⟨v,E⟩:=oI ac (a.eval T).toI.toNat y;exact sB (h.trans E))
  |(rename_i a r q s;split at k<;>cases k;rename_i y;rw[q,s] at h;obtain⟨v,E⟩:=tu ac (a.eval T).toI.toNat y;exact sI (h.trans E))
  |(rename_i q s;split at k<;>cases k;rw[q,s] at h;first|exact sL h|exact sB h)
  |(rename_i q;split at k<;>cases k;rw[q] at h;first|exact sI h|exact sB h|exact sL h)
  |(rename_i q;cases k;rw[q] at h;first|exact sI h|exact sB h|exact sL h|exact sS h)
  |(cases k)
  |skip
def BV (T:Tab):List En->Prop
 |[]=>True
 |e::r=>BS T e/\BV T r
theorem BV.left:∀{a b:List En},BV T (a++b)->BV T a
 |[],_,_=>trivial
 |_::_,_,h=>⟨h.1,BV.left h.2⟩
theorem BV.right:∀{a b:List En},BV T (a++b)->BV T b
 |[],_,h=>h
 |_::_,_,h=>BV.right h.2
end
abbrev BE:=Nat × (List U->U) × List Rf
abbrev BO:=PC × (List U->Prop) × List Rf
abbrev BP:=(List U->Prop) × List Rf
def Gf (l:List (Nat × Ex)):List BE:=l.map fun p=>(p.1,p.2.f,p.2.args)
def Lc (l:List Ob):List BO:=l.map fun o=>(o.pc,o.p.f,o.p.args)
def ju (l:List Pr):List BP:=l.map fun p=>(p.f,p.args)
def Bi (T:Tab):List BE->Prop
 |[]=>True
 |(x,f,ag)::r=>T x=f (ag.map (Rf.eval T))/\Bi T r
def Ux (T:Tab):List BO->Prop
 |[]=>True
 |(ae,f,ag)::r=>(pcv T ae->f (ag.map (Rf.eval T)))/\Ux T r
def AllP (T:Tab):List BP->Prop
 |[]=>True
 |(f,ag)::r=>f (ag.map (Rf.eval T))/\AllP T r
section
variable {T:Tab}
theorem NA:∀{l:List (Nat × Ex)},(∀p∈l,T p.1=p.2.eval T)->Bi T (Gf l)
 |[],_=>trivial
 |p::_,h=>⟨h p (AN ..),NA fun q b=>h q (AK _ b)⟩
theorem Uf:∀{l:List (Nat × Ex)},Bi T (Gf l)->∀p∈l,T p.1=p.2.eval T
 |[],_,p,b=>by cases b
 |e::r,h,p,b=>by
  cases b with
  |head=>exact h.1
  |tail _ b=>exact Uf (l:=r) h.2 p b
theorem Bi.left:∀{a b:List BE},Bi T (a++b)->Bi T a
 |[],_,_=>trivial
 |_::_,_,h=>⟨h.1,Bi.left h.2⟩
theorem Bi.right:∀{a b:List BE},Bi T (a++b)->Bi T b
 |[],_,h=>h
 |_::_,_,h=>Bi.right h.2
theorem Jb:∀{l:List Ob},Ux T (Lc l)->∀o∈l,o.holds T
 |[],_,o,b=>by cases b
 |o'::_,h,o,b=>by
  cases b with
  |head=>exact h.1
  |tail _ b=>exact Jb h.2 o b
theorem TK:∀{l:List Pr},AllP T (ju l)->∀o∈l,o.holds T
 |[],_,o,b=>by cases b
 |o'::_,h,o,b=>by
  cases b with
  |head=>exact h.1
  |tail _ b=>exact TK h.2 o b
variable{x:Nat}{ai:DB}{l:List En}
theorem oM :∀(t:Ty),T.get x=uV T t x->(∀c,t≠ .r c)->Sty T x t
 | .i,h,_=>h
 | .b,h,_=>h
 | .l,h,_=>h
 | .r c,_,h=>absurd rfl (h c)
 | .s,h,_=>h
theorem Ba.append:∀{a b:DB},Ba T a->Ba T b->Ba T (a++b)
 |[],_,_,h=>h
 |_::_,_,h,h'=>⟨h.1,Ba.append h.2 h'⟩
theorem X0 {s:Nat}:∀{k:Nat} {l:List U} {u:List U},u∈Cp s k l->∀v∈u,v∈l
 |0,_,_,h=>by simp[Cp] at h
 |k+1,l,u,h=>by
  simp only[Cp,List.mem_cons] at h;intro v b;rcases h with rfl|h
  .exact List.mem_of_mem_take b
  .exact List.mem_of_mem_drop (X0 h v b)
theorem iZ:∀{ax:List Ty} {r:List Rf},ax.all (PR .i)=true->∀v∈List.zipWith (uR T) ax r,∃n,v= .int n
 |[],_,_,v,h=>by simp at h
 |_::_,[],_,v,h=>by simp at h
 |t::ax,a::r,ht,v,h=>by
  simp only[List.all_cons,AB] at ht;simp only[List.zipWith_cons_cons,List.mem_cons] at h;rcases h with rfl|h
  .have e:=TO ht.1;subst e;exact⟨_,rfl⟩
  .exact iZ ht.2 v h
theorem nU (ac:Ba T ai)(e:En){o:Option Ty}(y:IQ ai e=some o)(h:T.get e.x=opF e.op (e.rs.map (Rf.eval T))):Ba T (Wj e):=by
 obtain⟨x,op,ag⟩:=e;unfold Wj;simp only;split
 .rename_i k s ax;split
  .rename_i Z;simp only[IQ] at y;split at y
   .rename_i b;have K:L T x=Cp s k (List.zipWith (uR T) ax ag):=by rw[<-DK ac b];exact vL h
    have Y:∀c,mR T x c:=fun c i=>by
     rw[K];have E:∀u:List U,(∀v∈u,∃n,v= .int n)->∃n,u.getD c default= .int n:=fun u N=>by
      rcases AQ c u.length with b|b
      .rw[AY,AF b];exact N _ (yM b)
      .rw[AY,Ai b];exact⟨0,rfl⟩
     rcases AQ i (Cp s k (List.zipWith (uR T) ax ag)).length with q|q
     .rw[AY (l:=Cp s k (List.zipWith (uR T) ax ag)),AF q];exact E _ fun v C=>iZ Z v (X0 (yM q) v C)
     .rw[AY (l:=Cp s k (List.zipWith (uR T) ax ag)),Ai q];exact E _ fun v C=>by simp at C
    have H:∀l:List Nat,Ba T (l.map fun c=>(x,Ty.r c)):=by
     intro l;induction l with
     |nil=>trivial
     |cons a l O=>exact⟨Y a,O⟩
    exact H _
   .cases y
  .trivial
 .trivial
theorem Wd:∀{l:List En} {ai k:DB},Ba T ai->chk ai l=some k->Bi T (l.map En.be)->BV T l/\Ba T k
 |[],ai,k,ac,h,_=>by
  simp only[chk] at h;cases h;exact⟨trivial,ac⟩
 |e::r,ai,k,ac,h,hb=>by
  simp only[chk] at h;split at h
  .cases h
  .rename_i b;obtain⟨O,C⟩:=Wd ac h hb.2;exact⟨⟨gw ac e b hb.1,O⟩,C⟩
  .rename_i t b;split at h
   .rename_i q;obtain⟨O,C⟩:=Wd (ai:=Wj e++(e.x,t)::ai) ((nU ac e b hb.1).append ⟨oM t (xf ac e b hb.1) (fun c s=>by rw[s] at q;cases q),ac⟩) h hb.2;exact⟨⟨gw ac e b hb.1,O⟩,C⟩
   .cases h
def Bh (ai:DB)(l:List En):DB:=(chk ai l).getD []
theorem Be (ac:Ba T ai)(e:(chk ai l).isSome=true)(b:Bi T (l.map En.be)):BV T l/\Ba T (Bh ai l):=by
 obtain⟨k,h⟩:=Option.isSome_iff_exists.1 e;have:=Wd ac h b;unfold Bh;rw[h];exact this
def qu (ai:DB)(l:List En)(A:List Ty)(ag:List Rf):Bool:=match chk ai l with
 |some b=>Hc b A ag
 |none=>false
theorem B8 {A:List Ty}{ag:List Rf}(ac:Ba T ai)(b:qu ai l A ag=true)(e:Bi T (l.map En.be)):BV T l/\ag.map (Rf.eval T)=List.zipWith (uR T) A ag:=by
 unfold qu at b;split at b
 .rename_i k h;obtain⟨O,C⟩:=Wd ac h e;exact⟨O,DK C b⟩
 .cases b
def tyKd:Kd->Option Ty
 | .int _ _ _=>some .i
 | .bool=>some .b
 | .list _=>some .l
 | .str=>some .s
 |_=>none
def Vv (x:Nat):Nat->List Kd->DB
 |_,[]=>[]
 |c,.int _ _ _::az=>(x,.r c)::Vv x (c+1) az
 |c,_::az=>Vv x (c+1) az
def CA:Nat->List Kd->DB
 |_,[]=>[]
 |x,.list az::ks=>(x,.l)::(Vv x 0 az++CA (x+1) ks)
 |x,k::ks=>match tyKd k with
  |some t=>(x,t)::CA (x+1) ks
  |none=>CA (x+1) ks
def Bnd (T:Tab):Nat->List Kd->Prop
 |_,[]=>True
 |x,.int _ ar Z::ks=>(ar<=I T x/\I T x<=Z)/\Bnd T (x+1) ks
 |x,.list az::ks=>((L T x).length<=140737488355328/\∀(i:Nat) (us:List U),(L T x)[i]? =some us->Bb BT az us)/\Bnd T (x+1) ks
 |x,.str::ks=>(S T x).size<=140737488355328/\Bnd T (x+1) ks
 |x,_::ks=>Bnd T (x+1) ks
theorem Ba.append0:∀{a b:DB},Ba T a->Ba T b->Ba T (a++b)
 |[],_,_,h=>h
 |_::_,_,h,h'=>⟨h.1,Ba.append0 h.2 h'⟩
theorem dl:∀{az:List Kd} {us:List U} {c:Nat} {k:Kd},Bb BT az us->az[c]? =some k->∃u,us[c]? =some u/\KdU BT k u
 |[],_,_,_,_,h=>by simp at h
 |e::az,us,c,k,⟨u,us',e1,O,C⟩,h=>by
  subst e1;cases c with
  |zero=>simp at h;subst h;exact⟨u,rfl,O⟩
  |succ c=>simpa using dl C (by simpa using h)
theorem uh {c:Nat}{az:List Kd}{al:IntKind}{ar Z:Int}(h:∀(i:Nat) (us:List U),(L T x)[i]? =some us->Bb BT az us)(b:az[c]? =some (.int al ar Z)):mR T x c:=fun i=>by
 rcases AQ i (L T x).length with Z|Z
 .obtain⟨u,O,⟨n,e,_⟩⟩:=dl (h i _ (AF Z)) b;refine⟨n,?_⟩;simp only[List.getD,AF Z,Option.getD_some,O];exact e
 .exact⟨0,by simp only[List.getD,Ai Z,Option.getD_none];simp;rfl⟩
theorem iM {x:Nat}{H:List Kd}(h:∀(i:Nat) (us:List U),(L T x)[i]? =some us->Bb BT H us):∀(az:List Kd) (c:Nat),(∀j k,az[j]? =some k->H[c+j]? =some k)->Ba T (Vv x c az)
 |[],_,_=>trivial
 |e::az,c,ha=>by
  have b:=iM h az (c+1) fun j k q=>by
   have:=ha (j+1) k (by simpa using q);rw[show c+(j+1)=c+1+j by omega] at this;exact this
  cases e with
  |int al ar Z=>exact⟨uh h (ha 0 _ rfl),b⟩
  |_=>exact b
theorem SU:∀{ks:List Kd} {us:List U} {x:Nat},Bb BT ks us->(∀j u,us[j]? =some u->T (x+j)=u)->Ba T (CA x ks)/\Bnd T x ks
 |[],us,x,_,_=>⟨trivial,trivial⟩
 |k::ks,us,x,⟨u,us',e,O,C⟩,hT=>by
  subst e;have h:=SU (x:=x+1) C fun j v y=>by
   have:=hT (j+1) v (by simpa using y);rw[show x+(j+1)=x+1+j by omega] at this;exact this
  have b:T.get x=u:=hT 0 u rfl;cases k with
  |int al ar Z=>
   obtain⟨n,q,s⟩:=O;rw[q] at b;refine⟨⟨sI b,h.1⟩,?_,h.2⟩;rw[vI b];exact s
  |bool=>
   obtain⟨n,q⟩:=O;rw[q] at b;exact⟨⟨sB b,h.1⟩,h.2⟩
  |str=>
   obtain⟨n,q,s⟩:=O;rw[q] at b;exact⟨⟨sS b,h.1⟩,by rw[vS b];exact s,h.2⟩
  |val=>exact h
  |any=>exact h
  |list az=>
   obtain⟨n,q,s,H⟩:=O;rw[q] at b;have E:∀(i:Nat) (us:List U),(L T x)[i]? =some us->Bb BT az us:=by rw[vL b];exact H
   refine⟨⟨sL b,(iM E az 0 (fun j k y=>by rw[AM];exact y)).append0 h.1⟩,?_,h.2⟩;exact⟨by rw[vL b];exact s,E⟩
end
inductive PO where
 |take|sub|nez|t|inr|inl|ins|btw (lo hi:Int)|fits (b:Nat)|ready|ne|pre (tg:String) (p:List U->Prop)|owes (D:Bs)
structure ObE where
 pc:PC
 po:PO
 rs:List Rf
def poF:PO->List U->Prop
 | .take=>ML| .sub=>sT| .nez=>UU| .t=>pT| .inr=>pIn| .inl=>XA| .ins=>kN| .btw ar Z=>FH ar Z| .fits b=>Io b| .ready=>xg| .ne=>pNe| .pre _ p=>p| .owes D=>D.owes
def ObE.be (o:ObE):PC × (List U->Prop) × List Rf:=(o.pc,poF o.po,o.rs)
def pcP (T:Tab):PC->Prop
 |none=>True
 |some c=>B T c=true
def jJ (T:Tab)(o:ObE):Prop:=
 match o with
 |⟨ae,.take,[a,b]⟩=>pcP T ae->(0<=iR T b/\iR T b<=(lR T a).length)
 |⟨ae,.sub,[a,b,c]⟩=>pcP T ae->(0<=iR T b/\iR T b<=iR T c/\iR T c<=(lR T a).length)
 |⟨ae,.nez,[a]⟩=>pcP T ae->¬iR T a=0
 |⟨ae,.t,[a]⟩=>pcP T ae->bR T a=true
 |⟨ae,.inr,[a,b]⟩=>pcP T ae->(0<=iR T a/\iR T a < iR T b)
 |⟨ae,.inl,[a,b]⟩=>pcP T ae->(0<=iR T a/\iR T a < (lR T b).length)
 |⟨ae,.ins,[a,b]⟩=>pcP T ae->(0<=iR T b/\iR T b < (stR T a).size)
 |⟨ae,.btw ar Z,[a]⟩=>pcP T ae->(ar<=iR T a/\iR T a<=Z)
 |⟨ae,.fits b,[a,c]⟩=>pcP T ae->((lR T a).length+(lR T c).length)*b<=140737488355328
 |⟨ae,.ready,[a]⟩=>pcP T ae->iR T a=0
 |⟨ae,.ne,[a,b]⟩=>pcP T ae->¬iR T a=iR T b
 |⟨ae,.pre _ p,ag⟩=>pcP T ae->p (ag.map (Rf.eval T))
 |⟨ae,.owes D,ag⟩=>pcP T ae->D.owes (ag.map (Rf.eval T))
 |_=>False
def J6 (T:Tab):List ObE->Prop
 |[]=>True
 |o::r=>jJ T o/\J6 T r
section
variable {T:Tab}
theorem dB {ae:PC}(h:pcv T ae):pcP T ae:=by
 cases ae with
 |none=>trivial
 |some c=>show (T.get c).toB=true;rw[show T.get c= .bool true from h];rfl
theorem dw {ae:PC}(h:pcP T ae):pcv T ae:=by
 cases ae with
 |none=>trivial
 |some c=>exact IB.2 h
theorem sJ:∀{o:ObE},jJ T o->(pcv T o.pc->poF o.po (o.rs.map (Rf.eval T))):=by
 intro o h b;have e:=dB b;unfold jJ at h;split at h<;>first|exact h e|exact h.elim
theorem JY:∀{l:List ObE},J6 T l->Ux T (l.map ObE.be)
 |[],_=>trivial
 |_::_,h=>⟨sJ h.1,JY h.2⟩
end
def Bf.sees (t:Bf)(ag:List Rf)(r:Option (AC × Mem × G)):Option (List BE × List BO × List BP):=
 match r with
 |some (aN,aP,g0)=>match dh t ag aN aP g0 with
  |some ps=>some (Gf g0.eqs.reverse,Lc g0.obs,ju ps)
  |none=>none
 |none=>none
theorem Mm:∀{ks:List Kd} {us:List U},us.length=ks.length->Py ks us->Bb BT ks us
 |[],[],_,_=>rfl
 |k::ks,u::us,hl,h=>⟨u,us,rfl,h 0 k u rfl rfl,Mm (by simpa using hl) fun j b e O C=>h (j+1) b e (by simpa using O) (by simpa using C)⟩
 |[],_::_,hl,_=>by simp at hl
 |_::_,[],hl,_=>by simp at hl
def Bf.run (P:Program)(l:List (FuncId × Bf))(Bp:FuncId->EM)(aK am:Nat)(f:FuncId)(t:Bf):Option (AC × Mem × G):=
 GN P (Mr l) Bp aK am Ys.none f t.args none t.m { n:=t.n,eqs:=[],obs:=[] }
def M9 (t:Bf):Bool:=(List.range t.m.length).all fun id=>match t.m'.at id with| .pad=>false|_=>true
variable{P:Program}{t:Bf}{ag:List Rf}{az:List En}{os:List ObE}{l:List (FuncId × Bf)}{aK am j:Nat}{T:Tab}
theorem RG {f:FuncId}{E:CM}(Y:∀T,Dj P T E)
  (b:t.sees ag (E Ys.none f t.args none t.m { n:=t.n,eqs:=[],obs:=[] })=some (az.map En.be,os.map ObE.be,[])) (a1:M9 t=true)
  (a5:∀(T:Tab) (us:List U),(∀p∈t.pre,p.2 us)->(∀j u,us[j]? =some u->T j=u)->us.length=t.n->Ba T (CA 0 t.ks)->Bnd T 0 t.ks->Bi T (az.map En.be)->J6 T os/\ag.map (Rf.eval T)=t.outs.map fun o=>o.2 us):Bl P f t:=by
 unfold Bf.sees at b;split at b
 .rename_i aN aP K hr;split at b
  .rename_i ps a3;injection b with b
   injection b with s b
   injection b with y H
   refine iY Y hr a3 (fun id ao e=>?_) fun T us q ax a6 k ad=>?_
   .have:=Ae.1 a1 id (List.mem_range.2 ao);grind
   .have h:Bi T (Gf K.eqs.reverse):=NA fun p hp=>ad p (List.mem_reverse.1 hp);rw[s] at h;obtain⟨i1,i2⟩:=SU (x:=0) (Mm q ax) fun j u hj=>by rw[AM];exact k j u hj
    obtain⟨O,N⟩:=a5 T us a6 k q i1 i2 h;have C:=JY O;rw[<-y] at C;exact⟨Jb C,TK (by rw[H];trivial),N⟩
  .cases b
 .cases b
theorem B7 {f:FuncId}(e:P.follows .mixedOrders=true)(b:∀p∈l,Bl P p.1 p.2){Bp:FuncId->EM}
  (q:t.sees ag (t.run P l Bp aK am f)=some (az.map En.be,os.map ObE.be,[])) (h:M9 t=true)
  (k:∀(T:Tab) (us:List U),(∀p∈t.pre,p.2 us)->(∀j u,us[j]? =some u->T j=u)->us.length=t.n->Ba T (CA 0 t.ks)->Bnd T 0 t.ks->Bi T (az.map En.be)->J6 T os/\ag.map (Rf.eval T)=t.outs.map fun o=>o.2 us):Bl P f t:=
 RG (fun T=>Ht e (Nx b) am T) q h k
def Bf.runB (P:Program)(l:List (FuncId × Bf))(Bp:FuncId->EM)(aK am:Nat)(f:FuncId)(t:Bf):Option (AC × Mem × G):=
 jf P (GN P (Mr l) Bp aK am) Bp aK Ys.none f t.args none t.m { n:=t.n,eqs:=[],obs:=[] }
theorem ja {f:FuncId}(b:P.follows .mixedOrders=true)(e:∀p∈l,Bl P p.1 p.2){Bp:FuncId->EM}
  (q:t.sees ag (t.runB P l Bp aK am f)=some (az.map En.be,os.map ObE.be,[])) (h:M9 t=true)
  (k:∀(T:Tab) (us:List U),(∀p∈t.pre,p.2 us)->(∀j u,us[j]? =some u->T j=u)->us.length=t.n->Ba T (CA 0 t.ks)->Bnd T 0 t.ks->Bi T (az.map En.be)->J6 T os/\ag.map (Rf.eval T)=t.outs.map fun o=>o.2 us):Bl P f t:=
 RG (ge b fun T=>Ht b (Nx e) am T) q h k
theorem lc {aW:Type}{a b:aW}{l m:List aW}(h:a=b)(e:l=m):a::l=b::m:=by rw[h,e]
def aI (us:List U)(j:Nat):Int:=(us.getD j default).toI
def aB (us:List U)(j:Nat):Bool:=(us.getD j default).toB
def aL (us:List U)(j:Nat):List (List U):=(us.getD j default).toL
def aS (us:List U)(j:Nat):ByteArray:=(us.getD j default).toS
theorem inI {us:List U}{n:Nat}(h:∀j u,us[j]? =some u->T j=u)(e:us.length=n)(b:j < n):aI us j=I T j:=by
 have:=h j us[j] (AF (by omega));unfold aI I;grind
theorem inB {us:List U}{n:Nat}(h:∀j u,us[j]? =some u->T j=u)(e:us.length=n)(b:j < n):aB us j=B T j:=by
 have:=h j us[j] (AF (by omega));unfold aB B;grind
theorem inL {us:List U}{n:Nat}(h:∀j u,us[j]? =some u->T j=u)(e:us.length=n)(b:j < n):aL us j=L T j:=by
 have:=h j us[j] (AF (by omega));unfold aL L;grind
theorem inS {us:List U}{n:Nat}(h:∀j u,us[j]? =some u->T j=u)(e:us.length=n)(b:j < n):aS us j=S T j:=by
 have:=h j us[j] (AF (by omega));unfold aS S;grind
end
section
open Go
variable{D:Bs}{R:Nat}
theorem ZM (h:D.inScope R=true):Dc D.fv D.nh (D.nh+D.k) R D.eqs=true/\H4 D.fv D.nh R (pcL D.pcn)=true/\∀x∈D.fv,x < D.nh:=by
 simp only[Bs.inScope,AB] at h;obtain⟨⟨⟨⟨aJ,e⟩,_⟩,_⟩,k⟩:=h;exact⟨aJ,e,fun x b=>CU (Ae.1 k x b)⟩
theorem Wl {T:Tab}{H:List U}(cb:D.inScope R=true)(hk:H.length=D.k)(bx:D.nxt.length=D.k)(hH:∀j,j < D.k->T (D.nh+j)=D.res j (D.fv.map T.get++H))(hE:∀p∈D.eqs,T p.1=p.2.eval T)
  (e:List U->Prop) (K:List U->Nat) (h0:e H)
  (cc:∀(k:Tab) (s:List U),s.length=D.k->(∀x∈D.fv,k x=T x)->(∀j u,s[j]? =some u->k (D.nh+j)=u)->Bi k (Gf D.eqs.reverse)->e s->Ux k (Lc D.obs)/\(pcv k D.pcn->e (D.nxt.map (Rf.eval k))/\K (D.nxt.map (Rf.eval k)) < K s)):
  D.owes (D.fv.map T.get++H)/\(∃t,e t/\t.length=D.k/\∀j u,t[j]? =some u->T (D.nh+j)=u)/\¬pcv T D.pcn:=by
 obtain⟨a6,b0,a0⟩:=ZM cb;have bt:D.nh<=D.nh+D.k:=Nat.le_add_right _ _;generalize ba:D.fv.map T.get=us at*;have bo:us.length=D.fv.length:=by rw[<-ba];simp
 have e1:(us++H).take D.fv.length=us:=by rw[<-bo];simp
 have e2:(us++H).drop D.fv.length=H:=by rw[<-bo];simp
 have a4:∀s:List U,s.length=D.k->e s->Ux (D.tab us s) (Lc D.obs)/\(pcv (D.tab us s) D.pcn->e (D.nxt.map (Rf.eval (D.tab us s)))/\K (D.nxt.map (Rf.eval (D.tab us s))) < K s):=fun s ac Z=>by
  refine cc (D.tab us s) s ac (fun x hx=>?_) (fun j u h=>?_) (NA fun p b=>?_) Z
  .have:=a0 x hx;unfold Bs.tab;rw[(DZ a6).2.2 x (.inl (by omega)),IL _ _ _ _ this,<-ba];exact Of D.fv x hx
  .have b7:=(AG.1 h).1;unfold Bs.tab;rw[(DZ a6).2.2 _ (.inl (by omega))];exact HT _ _ _ _ _ h
  .exact GT a0 bt a6 p (List.mem_reverse.1 b)
 have ao:∀s,D.step us s=(bif pcB (D.tab us s) D.pcn then some (D.nxt.map (Rf.eval (D.tab us s))) else none):=fun s=>rfl;have go:∀(n:Nat) (s:List U),K s<=n->s.length=D.k->e s->∃m t,Hp (D.step us) m s=some t/\D.step us t=none/\e t/\t.length=D.k:=by
  intro n;induction n with
  |zero=>
   intro s hm ac Z;cases b:pcB (D.tab us s) D.pcn with
   |true=>have:=((a4 s ac Z).2 (ND.1 b)).2;omega
   |false=>exact⟨0,s,rfl,by rw[ao,b];rfl,Z,ac⟩
  |succ n ih=>
   intro s hm ac Z;cases b:pcB (D.tab us s) D.pcn with
   |true=>
    obtain⟨k1,E⟩:=(a4 s ac Z).2 (ND.1 b);obtain⟨m,t,q1,q,q3,q4⟩:=ih (D.nxt.map (Rf.eval (D.tab us s))) (by omega) (by simp[bx]) k1;refine⟨m+1,t,?_,q,q3,q4⟩;simp only[Hp,ao,b,cond_true,Ag];exact q1
   |false=>exact⟨0,s,rfl,by rw[ao,b];rfl,Z,ac⟩
 obtain⟨m,t,q1,q,q3,q4⟩:=go (K H) H (AE _) hk h0;have ca:∀s,FZ (D.step us) H s->e s/\s.length=D.k:=by
  intro s N;induction N with
  |zero=>exact⟨h0,hk⟩
  |succ N Y ih=>
   rename_i aJ s2;rw[ao] at Y;cases b:pcB (D.tab us aJ) D.pcn with
   |true=>
    rw[b] at Y;cases Y;exact⟨((a4 aJ ih.2 ih.1).2 (ND.1 b)).1,by simp[bx]⟩
   |false=>rw[b] at Y;cases Y
 have b8:=iF q1 q;have hT:∀j u,t[j]? =some u->T (D.nh+j)=u:=fun j u h=>by
  have b7:=(AG.1 h).1;rw[hH j (by omega)];unfold Bs.res;rw[e1,e2,b8];simp[List.getD,h]
 refine⟨⟨by rw[e1,e2];exact⟨m,t,q1,q⟩,fun s N=>?_⟩,⟨t,q3,q4,hT⟩,fun b=>?_⟩
 .rw[e1,e2] at N;rw[e1];obtain⟨i1,i2⟩:=ca s N;exact Jb (a4 s i2 i1).1
 .have b4:∀x,x∈D.fv\/(D.nh<=x/\x < R)->T x=D.tab us t x:=fun x hx=>by
   have:=PL (aA:=T) (J:=(OR D.fv us).upds D.nh t) a0 bt (fun y hy=>?_) a6 x hx
   .rw[QZ hE] at this;exact this
   .rcases hy with hy|hy
    .rw[IL _ _ _ _ (a0 y hy),<-ba];exact (Of D.fv y hy).symm
    .have h:y - D.nh < t.length:=by omega
     have O:=HT t (OR D.fv us) D.nh (y - D.nh) t[y - D.nh] (AF h);have C:=hT (y - D.nh) t[y - D.nh] (AF h);rw[show D.nh+(y - D.nh)=y by omega] at O C;rw[O,C]
  have:pcB (D.tab us t) D.pcn=true:=by
   cases hc:D.pcn with
   |none=>rfl
   |some c=>
    rw[hc] at b b0;have b6:=Ft b0 c (by simp[pcL]);rw[ND];show D.tab us t c= .bool true;rw[<-b4 c b6];exact b
  rw[ao,this] at q;cases q
def eX:Op2->String
 | .add=> "add" | .sub=> "sub" | .mul=> "mul" | .div=> "div" | .mod=> "mod" | .tdiv=> "tdiv" | .tmod=> "tmod" | .min=> "min" | .max=> "max"
def vw:BinOp->String
 | .and=> "and" | .or=> "or" | .xor=> "xor" |_=> "andNot"
def xu:Opn->Tg
 | .take=> "take" | .drop=> "drop" | .sub=> "cut" | .slen=> "slen" | .sat=> "sat"
 | .id _=> "id" | .not=> "not" | .and=> "and" | .or=> "or" | .lt=> "lt" | .le=> "le" | .eq=> "eq" | .ne=> "ne"
 | .eqs _=> "eqs" | .nes _=> "nes" | .eqb=> "eqb" | .neb=> "neb" | .ite _=> "if" | .ifb=> "ifb"
 | .o2 o=>eX o| .w2 k o=>FR k++ " " ++eX o| .wx k o=>FR k++ " " ++eX o| .w1 k=>FR k++ " id" | .wneg k=>FR k++ " neg" | .neg=> "neg" | .bits o k=>FR k++ " " ++vw o
 | .len=> "len" | .app=> "app" | .get t c=>W8 (tyC t)++toString c| .mget t G c _=> "m" ++W8 (tyC t)++toString G++ " " ++toString c| .mhas G _=> "mhas " ++toString G| .mset G _=> "mset " ++toString G| .pick _=> "pick" | .row _ s _=> "row " ++toString s| .rset c _=> "rset " ++toString c| .rep _=> "rep"
 | .outI tg _=>tg| .outB tg _=>tg| .outL tg _=>tg| .outS tg _=>tg| .res _ D j=>D.tg j
def xk:PO->Tg
 | .take=> "take" | .sub=> "cut" | .nez=> "nez" | .t=> "t" | .inr=> "in" | .inl=> "inl" | .ins=> "ins" | .btw ar Z=> "between " ++toString ar++ " " ++toString Z| .fits b=> "fits " ++toString b| .ready=> "ready" | .ne=> "ne" | .pre tg _=>tg| .owes D=>D.tg 0
def En.ex (e:En):Nat × Ex:=(e.x,⟨xu e.op,opF e.op,e.rs⟩)
def ObE.ob (o:ObE):Ob:=⟨o.pc,⟨xk o.po,poF o.po,o.rs⟩⟩
def mkD (nh k:Nat)(b:List En)(pcn:Nat)(nxt:List Rf)(K:List ObE)(fv:List Nat):Bs:=
 {nh,k,eqs:=(b.map En.ex).reverse,pcn:=some pcn,nxt,obs:=K.map ObE.ob,fv }
def hds:Nat->List Ty->DB
 |_,[]=>[]
 |x,t::ax=>(x,t)::hds (x+1) ax
def hdU (T:Tab):Nat->List Ty->List U
 |_,[]=>[]
 |x,t::ax=>uV T t x::hdU T (x+1) ax
def uOf:Ty->U->U
 | .i,u=> .int u.toI
 | .b,u=> .bool u.toB
 | .l,u=> .list u.toL
 | .r _,u=>u
 | .s,u=> .str u.toS
def TyU:List Ty->List U->Prop
 |[],[]=>True
 |t::ax,u::us=>(u=uOf t u/\noR t=true)/\TyU ax us
 |_,_=>False
def GC (fv:List Nat)(ai:DB):DB:=ai.filter fun p=>fv.contains p.1
section
variable {T:Tab}
theorem Pb:∀{ax:List Ty} {ag:List Rf},ax.all noR=true->ax.length=ag.length->TyU ax (List.zipWith (uR T) ax ag)
 |[],[],_,_=>trivial
 |t::ax,r::ag,h0,h=>by
  simp only[List.all_cons,AB] at h0;exact⟨⟨by cases t<;>rfl,h0.1⟩,Pb h0.2 (by simpa using h)⟩
 |[],_::_,_,h=>by simp at h
 |_::_,[],_,h=>by simp at h
theorem SR:∀{ax:List Ty} {us:List U} {x:Nat},TyU ax us->(∀j u,us[j]? =some u->T (x+j)=u)->Ba T (hds x ax)/\hdU T x ax=us
 |[],[],_,_,_=>⟨trivial,rfl⟩
 |t::ax,u::us,x,h,hT=>by
  obtain⟨O,C⟩:=SR (x:=x+1) h.2 fun j v q=>by
   have:=hT (j+1) v (by simpa using q);rw[show x+(j+1)=x+1+j by omega] at this;exact this
  have b:T.get x=u:=hT 0 u rfl;have e:u=uV T t x:=by
   have:=h.1.1;cases t<;>(simp only[uV,uR,iR,bR,lR,stR,Rf.eval];rw[show T x=u from b];try exact this)
  exact⟨⟨oM t (b.trans e) (fun c k=>by have:=h.1.2;rw[k] at this;cases this),O⟩,by simp only[hdU];rw[C,<-e]⟩
 |[],_::_,_,h,_=>h.elim
 |_::_,[],_,h,_=>h.elim
theorem EO {J:Tab}{fv:List Nat}(b:∀x∈fv,J.get x=T.get x):∀{ai:DB},Ba T ai->Ba J (GC fv ai)
 |[],_=>trivial
 |(x,t)::r,h=>by
  unfold GC;rw[List.filter_cons];split
  .rename_i q;have e:=b x (List.contains_iff_mem.1 q);refine⟨?_,EO b h.2⟩;cases t with
   |r c=>
    have O:mR T x c:=h.1;intro i;obtain⟨n,k⟩:=O i;exact⟨n,by unfold L at k⊢;rw[e];exact k⟩
   |_=>
    have O:=Sty.get h.1;show J.get x=_;rw[e,O];simp only[uV,uR,iR,bR,lR,stR,Rf.eval];rw[show J x=T x from e]
  .exact EO b h.2
theorem P8 (b:List En):Gf (((b.map En.ex).reverse).reverse)=b.map En.be:=by
 rw[List.reverse_reverse];unfold Gf;rw[List.map_map];rfl
theorem dE (K:List ObE):Lc (K.map ObE.ob)=K.map ObE.be:=by
 unfold Lc;rw[List.map_map];rfl
def Pq (D:Bs)(args:List Rf):Nat->Nat->List BE
 |_,0=>[]
 |j,k+1=>(D.nh+j,D.res j,args)::Pq D args (j+1) k
theorem QD {D:Bs}{args:List Rf}:∀{k U:Nat},Bi T (Pq D args U k)->∀j,j < k->T (D.nh+(U+j))=D.res (U+j) (args.map (Rf.eval T))
 |0,_,_,j,hj=>by omega
 |k+1,U,h,j,hj=>by
  cases j with
  |zero=>exact h.1
  |succ j=>
   have:=QD h.2 j (by omega);rw[show U+1+j=U+(j+1) by omega] at this;exact this
theorem CK {ai:DB}{nh k pcn R:Nat}{b:List En}{K:List ObE}{nxt H:List Rf}{fv:List Nat}{A:List Ty}(bx:(mkD nh k b pcn nxt K fv).inScope R=true)(hn:H.length=k)(bs:nxt.length=k)(bt:A.length=k)(a0:A.all noR=true)
  (hS:Ba T ai) (bm:Hc ai A H=true) (bi:qu (hds nh A++GC fv ai) b A nxt=true)
  (hB:Bi T (b.map En.be)) (hH:Bi T (Pq (mkD nh k b pcn nxt K fv) (fv.map Rf.e++H) 0 k))
  (e:List U->Prop) (q:List U->Nat) (h0:e (List.zipWith (uR T) A H))
  (b0:∀J:Tab,(∀x∈fv,J.get x=T.get x)->BV J b->e (hdU J nh A)->
   J6 J K/\(B J pcn=true->e (List.zipWith (uR J) A nxt)/\q (List.zipWith (uR J) A nxt) < q (hdU J nh A))):
  (mkD nh k b pcn nxt K fv).owes ((fv.map Rf.e++H).map (Rf.eval T))/\Ba T (hds nh A)/\e (hdU T nh A)/\¬B T pcn=true:=by
 have hI:H.map (Rf.eval T)=List.zipWith (uR T) A H:=DK hS bm;have Y:(fv.map Rf.e++H).map (Rf.eval T)=fv.map T.get++List.zipWith (uR T) A H:=by
  rw[AL,hI,List.map_map];rfl
 have C:=fun j (E:j < k)=>QD hH j E;simp only[AM] at C;rw[Y] at C;rw[Y];have b3:=Wl (D:=mkD nh k b pcn nxt K fv) (T:=T) (R:=R) (H:=List.zipWith (uR T) A H) bx (by simp[hn,bt];rfl) bs (fun j E=>C j E)
  (fun p N=>Uf (l:=((mkD nh k b pcn nxt K fv).eqs).reverse) (by rw[show (mkD nh k b pcn nxt K fv).eqs=(b.map En.ex).reverse from rfl,P8];exact hB) p (List.mem_reverse.2 N))
  (fun s=>TyU A s/\e s) q ⟨Pb a0 (by omega),h0⟩ (fun J s ac ax bl hb Z=>by
   obtain⟨i1,i2⟩:=Z;obtain⟨aJ,y⟩:=SR i1 bl;rw[show (mkD nh k b pcn nxt K fv).eqs=(b.map En.ex).reverse from rfl,P8] at hb;obtain⟨f1,f2⟩:=B8 (aJ.append (EO ax hS)) bi hb;obtain⟨g1,aw⟩:=b0 J ax f1 (by rw[show hdU J nh A=s from y];exact i2);refine⟨by rw[show (mkD nh k b pcn nxt K fv).obs=K.map ObE.ob from rfl,dE];exact JY g1,fun N=>?_⟩;obtain⟨g3,O⟩:=aw (dB (ae:=some pcn) N);show (TyU A (nxt.map (Rf.eval J))/\e (nxt.map (Rf.eval J)))/\q (nxt.map (Rf.eval J)) < q s;rw[f2];rw[show hdU J nh A=s from y] at O;exact⟨⟨Pb a0 (by omega),g3⟩,O⟩)
 obtain⟨q1,⟨t,⟨q2,q3⟩,q4,q5⟩,q6⟩:=b3;obtain⟨aJ,y⟩:=SR q2 q5;exact⟨q1,aJ,by rw[show hdU T nh A=t from y];exact q3,fun h=>q6 (dw (ae:=some pcn) h)⟩
end
open Go
variable{T J:Tab}{A:List Ty}{x:Nat}
theorem NT {ai:DB}{nh k pcn R:Nat}{b:List En}{K:List ObE}{nxt H:List Rf}{fv:List Nat}(bs:(mkD nh k b pcn nxt K fv).inScope R=true)(hn:H.length=k)(bm:nxt.length=k)(bo:A.length=k)(a0:A.all noR=true)
  (hS:Ba T ai) (bi:Hc ai A H=true)
  (hB:Bi T (b.map En.be)) (hH:Bi T (Pq (mkD nh k b pcn nxt K fv) (fv.map Rf.e++H) 0 k))
  (e:List U->Prop) (q:List U->Nat) (h0:e (List.zipWith (uR T) A H))
  (bt:∀J:Tab,(∀x∈fv,J.get x=T.get x)->Ba J (hds nh A++GC fv ai)->Bi J (b.map En.be)->e (hdU J nh A)->
   nxt.map (Rf.eval J)=List.zipWith (uR J) A nxt/\J6 J K/\(B J pcn=true->e (List.zipWith (uR J) A nxt)/\q (List.zipWith (uR J) A nxt) < q (hdU J nh A))):
  (mkD nh k b pcn nxt K fv).owes ((fv.map Rf.e++H).map (Rf.eval T))/\Ba T (hds nh A)/\e (hdU T nh A)/\¬B T pcn=true:=by
 have hI:H.map (Rf.eval T)=List.zipWith (uR T) A H:=DK hS bi;have Y:(fv.map Rf.e++H).map (Rf.eval T)=fv.map T.get++List.zipWith (uR T) A H:=by
  rw[AL,hI,List.map_map];rfl
 have C:=fun j (E:j < k)=>QD hH j E;simp only[AM] at C;rw[Y] at C;rw[Y];have b1:=Wl (D:=mkD nh k b pcn nxt K fv) (T:=T) (R:=R) (H:=List.zipWith (uR T) A H) bs (by simp[hn,bo];rfl) bm (fun j E=>C j E)
  (fun p N=>Uf (l:=((mkD nh k b pcn nxt K fv).eqs).reverse) (by rw[show (mkD nh k b pcn nxt K fv).eqs=(b.map En.ex).reverse from rfl,P8];exact hB) p (List.mem_reverse.2 N))
  (fun s=>TyU A s/\e s) q ⟨Pb a0 (by omega),h0⟩ (fun J s ac ax bb hb Z=>by
   obtain⟨i1,i2⟩:=Z;obtain⟨aJ,y⟩:=SR i1 bb;rw[show (mkD nh k b pcn nxt K fv).eqs=(b.map En.ex).reverse from rfl,P8] at hb;obtain⟨f2,g1,aw⟩:=bt J ax (aJ.append (EO ax hS)) hb (by rw[show hdU J nh A=s from y];exact i2);refine⟨by rw[show (mkD nh k b pcn nxt K fv).obs=K.map ObE.ob from rfl,dE];exact JY g1,fun N=>?_⟩;obtain⟨g3,O⟩:=aw (dB (ae:=some pcn) N);show (TyU A (nxt.map (Rf.eval J))/\e (nxt.map (Rf.eval J)))/\q (nxt.map (Rf.eval J)) < q s;rw[f2];rw[show hdU J nh A=s from y] at O;exact⟨⟨Pb a0 (by omega),g3⟩,O⟩)
 obtain⟨q1,⟨t,⟨q2,q3⟩,q4,q5⟩,q6⟩:=b1;obtain⟨aJ,y⟩:=SR q2 q5;exact⟨q1,aJ,by rw[show hdU T nh A=t from y];exact q3,fun h=>q6 (dw (ae:=some pcn) h)⟩
def bD (D:Bs)(ag:List Rf):Nat->Nat->List Ty->List En
 |_,_,[]=>[]
 |j,x,t::ax=>⟨x,.res t D j,ag⟩::bD D ag (j+1) (x+1) ax
def B5 (D:Bs)(A:List Ty)(ag:List Rf):List En:=bD D ag 0 D.nh A
theorem YM {T:Tab}{D:Bs}{ag:List Rf}:∀{A:List Ty} {j:Nat},Bi T ((bD D ag j (D.nh+j) A).map En.be)->Bi T (Pq D ag j A.length)
 |[],_,_=>trivial
 |_::_,_,h=>⟨h.1,YM h.2⟩
theorem B6 {D:Bs}{ag:List Rf}(h:Bi T ((B5 D A ag).map En.be)):Bi T (Pq D ag 0 A.length):=YM (j:=0) h
theorem fvI (h:J.get x=T.get x):I J x=I T x:=by unfold I;rw[h]
theorem fvB (h:J.get x=T.get x):B J x=B T x:=by unfold B;rw[h]
theorem fvL (h:J.get x=T.get x):L J x=L T x:=by unfold L;rw[h]
theorem fvS (h:J.get x=T.get x):S J x=S T x:=by unfold S;rw[h]
abbrev k64:Kd:= .int .i64 IntKind.i64.min IntKind.i64.max
abbrev Cy (x:Nat):AC:= .i .i64 IntKind.i64.min IntKind.i64.max x
end
section
open Go Go.RowKit
mutual
theorem KdU.up {B:Nat}(b:B<=BT):∀{k:Kd} {u:U},KdU B k u->KdU BT k u
 | .int _ _ _,_,h=>h
 | .bool,_,h=>h
 | .str,_,⟨s,e,h⟩=>⟨s,e,AV h b⟩
 | .val,_,_=>trivial
 | .any,_,_=>trivial
 | .list _,_,⟨l,e,O,C⟩=>⟨l,e,AV O b,fun i us Z=>Bb.up b (C i us Z)⟩
theorem Bb.up {B:Nat}(b:B<=BT):∀{ks:List Kd} {us:List U},Bb B ks us->Bb BT ks us
 |[],_,h=>h
 |_::_,_,⟨u,us',e,O,C⟩=>⟨u,us',e,KdU.up b O,Bb.up b C⟩
end
def cd (B:Nat)(T:Tab):Nat->List Kd->Prop
 |_,[]=>True
 |x,.list _::ks=>(L T x).length<=B/\cd B T (x+1) ks
 |x,_::ks=>cd B T (x+1) ks
theorem iV {B:Nat}{T:Tab}:∀{ks:List Kd} {us:List U} {x:Nat},Bb B ks us->(∀j u,us[j]? =some u->T (x+j)=u)->cd B T x ks
 |[],us,x,_,_=>trivial
 |k::ks,us,x,⟨u,us',e,O,C⟩,hT=>by
  subst e;have h:=iV (x:=x+1) C fun j v y=>by
   have:=hT (j+1) v (by simpa using y);rw[show x+(j+1)=x+1+j by omega] at this;exact this
  have b:T.get x=u:=hT 0 u rfl;cases k with
  |list az=>
   obtain⟨n,q,s,_⟩:=O;rw[q] at b;exact⟨by rw[vL b];exact s,h⟩
  |_=>exact h
def ko (n:Nat)(r:Option (AC × Mem × G)):Option (Nat × List BE × List BO):=
 match r with
 |some (.b x,_,g)=>if Oq n g then some (x,Gf g.eqs.reverse,Lc g.obs) else none
 |_=>none
def pQ (P:Program)(l:List (FuncId × Bf))(Bp:FuncId->EM)(aK am:Nat)(f:FuncId)(aU:List AC)(n:Nat):Option (AC × Mem × G):=
 GN P (Mr l) Bp aK am Ys.none f aU none [] { n,eqs:=[],obs:=[] }
theorem qn {P:Program}{w:World}{B:Nat}{H:Type}{enc:TypeId × Value->H}{sp:Nat->Bool}{bb:Bool}{base:Nat}(q:B<=BT)(hm:P.follows .mixedOrders=true){l:List (FuncId × Bf)}(hl:∀p∈l,Bl P p.1 p.2){Bp:FuncId->EM}{aK am N:Nat}{f:FuncId}{ax:List TypeId}{aU:List AC}{ks:List Kd}{x:Nat}{az:List En}{os:List ObE}
  (a4:MC P N ax 0=some (aU,ks)) (b:ko ks.length (pQ P l Bp aK am f aU ks.length)=some (x,az.map En.be,os.map ObE.be))
  (bm:∀T:Tab,Ba T (CA 0 ks)->Bnd T 0 ks->cd B T 0 ks->Bi T (az.map En.be)->J6 T os/\Go.Eng.B T x=true)
  {Y:List Value} {h:List (DataW H)} {ps:List MemPlace} (ht:DataW.TrodAll enc P w 0 sp bb ax Y h ps) (hv:∀(j:Nat) t v,ax[j]? =some t->Y[j]? =some v->Value.okWide P w .any base t v) (ac:∀d∈h,Et B d):
  Calls P f (Y:List Value).toArray w fun e K=>e= .returned (.bool true)/\Below w.heap.size w K:=by
 unfold ko at b;split at b
 .rename_i x0 af ao hr;split at b
  .rename_i a5;injection b with b
   injection b with e0 b
   injection b with e1 e2
   refine xI q hm hl a4 hr a5 (fun T us E b2 hT a6=>?_) ht hv ac;have y:Bi T (Gf ao.eqs.reverse):=NA fun p hp=>a6 p (List.mem_reverse.1 hp);rw[e1] at y;have s:∀j u,us[j]? =some u->T (0+j)=u:=fun j u hj=>by rw[AM];exact hT j u hj
   obtain⟨i1,i2⟩:=SU (x:=0) (Bb.up q E) s;obtain⟨O,C⟩:=bm T i1 i2 (iV E s) y;have k:=JY O;rw[<-e2] at k;refine⟨Jb k,?_⟩;rw[e0];exact dw (ae:=some x) C
  .cases b
 .cases b
end
section
open Go
abbrev Knw:=List (Nat × Ty × Rf)
def look:Knw->Nat->Ty->Option Rf
 |[],_,_=>none
 |(y,t,r)::l,x,u=>bif Nat.beq y x&&PR t u then some r else look l x u
inductive SE where
 |k (t:Ty) (r:Rf)
 |q (op:Opn) (rs:List Rf)
open Go
end
section
open Go
theorem BV.cut {T:Tab}{a b:List En}(h:BV T (a++b)):BV T a/\BV T b:=⟨h.left,h.right⟩
theorem zN:(∀(T:Tab) (x:Nat),bR T (.n x)= !B T x)/\(∀b:Bool,((!b)=true)=(b=false))/\(∀b:Bool,(¬b=true)=(b=false)):=
 ⟨fun T x=>bR_n,fun b=>Bool.not_eq_true' b,fun b=>Bool.not_eq_true b⟩
theorem zC:(∀(T:Tab) (b:Bool),bR T (.c (.bool b))=b)/\((false=true)=False)/\(∀{aW:Sort 1} (a:aW),(a=a)=True)/\(∀p:Prop,(p/\True)=p)/\(∀p:Prop,(p/\False)=False)/\(∀p:Prop,(p\/False)=p)/\(∀p:Prop,(False\/p)=p)/\(∀p:Prop,(True/\p)=p)/\(∀p:Prop,(False/\p)=False):=
 ⟨fun T b=>bR_c,AZ,fun a=>eq_self a,and_true,and_false,or_false,false_or,true_and,false_and⟩
open Go
open Go
theorem zR:(∀(T:Tab) (x:Nat),iR T (.e x)=I T x)/\(∀(T:Tab) (n:Int),iR T (.c (.int n))=n):=
 ⟨fun T x=>iR_e,fun T n=>iR_c⟩
theorem zL:(∀(T:Tab) (x:Nat),lR T (.e x)=L T x)/\(∀T:Tab,lR T (.c (.list []))=[]):=
 ⟨fun T x=>lR_e,fun T=>lR_c⟩
theorem zS:(∀(T:Tab) (x:Nat),stR T (.e x)=S T x)/\(∀(T:Tab) (s:ByteArray),stR T (.c (.str s))=s):=
 ⟨fun T x=>xj,fun T s=>xd⟩
theorem zW:(∀(f:Ty->Rf->U) (a:Ty) (b:Rf) (l:List Ty) (r:List Rf),List.zipWith f (a::l) (b::r)=f a b::List.zipWith f l r)/\(∀(f:Ty->Rf->U) (r:List Rf),List.zipWith f [] r=[])/\(∀(a:U) (l:List U) (n:Nat),List.take (n+1) (a::l)=a::List.take n l)/\(∀l:List U,List.take 0 l=[])/\(∀(a:U) (l:List U) (n:Nat),List.drop (n+1) (a::l)=List.drop n l)/\(∀l:List U,List.drop 0 l=l):=
 ⟨fun _ _ _ _ _=>rfl,fun _ _=>rfl,fun _ _ _=>rfl,fun _=>rfl,fun _ _ _=>rfl,fun _=>rfl⟩
end
section
def GF:List Int:=[10,9,8,7,6,6,5,5,4,4,3,3,3,2,2,2,1,1,1,1]
def IE:List Int->Int->Int
 |[],_=>0
 |a::l,n=>if n<=0 then a else IE l (n - 1)
def CJ (a b:Int)(e:Bool):Int:=
 if e=true then (if a < b then 20 - IE GF (min ((b - a) / 100) 19) else IE GF (min ((a - b) / 100) 19)) else 10
def Dp (g:Int):Int:=if g<=0 then 2000 - 40*g else 2000 - 50*g
def Sq:List (List U):=GF.map fun x=>[U.int x]
theorem ed {n:Int}(e:0<=n)(O:n<=19):BU Sq n.toNat 0=IE GF n:=by
 obtain⟨k,rfl⟩:∃k:Nat,n=k:=⟨n.toNat,by omega⟩;have b:∀k:Fin 20,BU Sq ((k:Nat):Int).toNat 0=IE GF ((k:Nat):Int):=by decide
 exact b ⟨k,by omega⟩
def B9 (x b:Int):Int:=min (max (x+b) (-10000)) 10000
def VP (x:Int):Nat->Int->Int
 |0,g=>g
 |n+1,g=>if Dp (g - 1)<=x then VP x n (g - 1) else g
def upN (x:Int):Nat->Int->Int
 |0,g=>g
 |n+1,g=>if x<=Dp (g+1) then upN x n (g+1) else g
def Cg (x g:Int):Int:=VP x (g+12).toNat g
def upG (x g:Int):Int:=upN x (48 - g).toNat g
def Cz (x g:Int):Int:=upG x (Cg x g)
variable{x g:Int}
theorem Sc (h: -12 < g)(C:Dp (g - 1)<=x):Cg x g=Cg x (g - 1):=by
 unfold Cg;rw[show (g+12).toNat=(g - 1+12).toNat+1 by omega];show (if _ then _ else _)=_;rw[BH C]
theorem Sg (h:¬(-12 < g/\Dp (g - 1)<=x)):Cg x g=g:=by
 unfold Cg;cases e:(g+12).toNat with
 |zero=>rfl
 |succ n=>
  show (if _ then _ else _)=_;rw[BG fun a=>h ⟨by omega,a⟩]
theorem XH (h:g < 48)(C:x<=Dp (g+1)):upG x g=upG x (g+1):=by
 unfold upG;rw[show (48 - g).toNat=(48 - (g+1)).toNat+1 by omega];show (if _ then _ else _)=_;rw[BH C]
theorem XW (h:¬(g < 48/\x<=Dp (g+1))):upG x g=g:=by
 unfold upG;cases e:(48 - g).toNat with
 |zero=>rfl
 |succ n=>
  show (if _ then _ else _)=_;rw[BG fun a=>h ⟨by omega,a⟩]
theorem vf (n:Nat):∀g:Int,g+12=n-> -12<=VP x n g/\VP x n g<=g:=by
 induction n with
 |zero=>exact fun g h=>⟨by show -12<=g;omega,Aw _⟩
 |succ n b=>
  intro g h;unfold VP;split
  .have:=b (g - 1) (by omega);omega
  .omega
theorem yF (n:Nat):∀g:Int,48 - g=n->g<=upN x n g/\upN x n g<=48:=by
 induction n with
 |zero=>exact fun g h=>⟨Aw _,by show g<=48;omega⟩
 |succ n b=>
  intro g h;unfold upN;split
  .have:=b (g+1) (by omega);omega
  .omega
theorem uG (h: -12<=g)(C:g<=48): -12<=Cz x g/\Cz x g<=48:=by
 have a:=vf (x:=x) (g+12).toNat g (by omega);have b:=yF (x:=x) (48 - Cg x g).toNat (Cg x g) (by unfold Cg;omega);show -12<=upN _ _ _/\upN _ _ _<=48;unfold Cg at*;omega
theorem sO (x b:Int): -10000<=B9 x b/\B9 x b<=10000:=by unfold B9;omega
end
section
open Go Go.RowKit
open Go.ChangeMaps (setBlock)
section
variable {P:Program}{T:Tab}{n:Nat}{W :Nat->Option Nat}{m:Mem}{w ab:World}{a:Act}{l:Loc}{r:Option Nat}{al:Nat}
theorem BY.off {k ap:Nat}{ad:Nat->Option Nat}{af:Mem}(ac:BY T ap W m w ad af ab)(s:k < w.heap.size)(e:∀id,(m.at id).tracked=true-> W id≠some k):∀id,(af.at id).tracked=true-> ad id≠some k:=fun id q b=>by
 rcases ac.back q b with h|⟨O,C⟩
 .omega
 .exact e id O C
theorem FK.put {B D:Nat}{o:Obj}{b:List Deferred}(h:FK B W m w b)(N:∀x,w.heap[D]? ≠some (.deferred x)):FK B W m (w.putObj D o) b:=by
 obtain⟨y,s,O,C,H⟩:=h;refine⟨by rw[World.putObj_size];exact y,s,O,C,fun q K=>?_⟩;obtain⟨Y,k,E⟩:=H q K;exact⟨Y,by rw[World.putObj_heap_other (fun e=>by subst e;exact N _ k)];exact k,E⟩
variable{o:Oper}{d:Tmp}{v:Value}{i:Nat}{Q:Exit->Act->World->Prop}{x:Operand}
theorem EE (h:d < a.tmps.size):(a.put (some d) v).eval (.tmp d)=v:=by
 simp[Act.put,Act.eval,AJ,h]
theorem EQ {i:Tmp}(h:i≠d):(a.put (some d) v).eval (.tmp i)=a.eval (.tmp i):=by
 simp[Act.put,Act.eval,AJ,Array.getElem?_setIfInBounds_ne (Ne.symm h)]
theorem DU {d:Option Tmp}:(a.put d v).tmps.size=a.tmps.size:=by cases d<;>simp[Act.put]
theorem Rel.putNone (h:Rel T n W l a w)(hd:l.tmps.get d=none)(v:Value):Rel T n W l (a.put (some d) v) w:=by
 refine⟨h.defers,by rw[DU];exact h.size,fun i c b=>?_,h.mem⟩;have k:i≠d:=fun e=>by subst e;rw[hd] at b;cases b
 have:(a.put (some d) v).tmps.getD i undef=a.tmps.getD i undef:=EQ k;rw[this];exact h.tmps i c b
theorem C0 {aa:Array Oper}{b:List Nat}(k:aa[i]? =some o)(e:o.guard=none)(h:o.wpIn (fen r) al P a w (wpOpsIn (fen r) al P aa Q b) Q):
  wpOpsIn (fen r) al P aa Q (i::b) a w:=by
 simp only[wpOpsIn,k];rw[BH (by simp[Region.wanted,e])];exact h
theorem E9 {K:Act->World->Prop}(e:∀c,o.op≠ .defer c)(h:(execOp a.eval o).run P w= .ok (.value v) ab)(b:K (a.put o.dst v) ab):o.wpIn (fen r) al P a w K Q:=
 Kh e (by rw[h];exact b)
theorem UY (b:o.op= .move x):(execOp a.eval o).run P w= .ok (.value (a.eval x)) w:=by
 simp[execOp,b]
theorem O5 {Y:Array Value}(b:o.op= .extract x i)(e:a.eval x= .tuple Y)(Z:Y[i]? =some v):(execOp a.eval o).run P w= .ok (.value v) w:=by
 simp[execOp,b,e,Instr.extract,Z]
theorem og {t:TypeId}(b:o.op= .range t x)(h:(Instr.range t (a.eval x)).run P w= .ok v ab):(execOp a.eval o).run P w= .ok (.value v) ab:=by
 simp[execOp,b,h]
theorem cW (b:o.op= .next x false)(h:(Instr.next (a.eval x) false o.type).run P w= .ok v ab):(execOp a.eval o).run P w= .ok (.value v) ab:=by
 simp[execOp,b,h]
theorem pr (b:o.op= .entry x)(h:(Instr.entry (a.eval x)).run P w= .ok v ab):(execOp a.eval o).run P w= .ok (.value v) ab:=by
 simp[execOp,b,h]
theorem Ej.drew (T:Tab)(n:Nat)(W :Nat->Option Nat)(m:Mem)(B:Nat)(w:World)(e:BX T n W m w):Ej T n W m B w w.drew:=
 ⟨rfl,rfl,rfl,rfl,fun _ _=>rfl,fun c v b=>BQ.mono (BY.drawn T n W m w (w.drawn+1)) e (AE _) c v b,fun b=>b.drawn (w.drawn+1)⟩
end
structure RgP where
 di:Tmp
 dn:Tmp
 db:Tmp
 de:Tmp
 dv:Tmp
 bid:Nat
 bi:Nat
 i2:Nat
 i3:Nat
 o1:Oper
 o2:Oper
 o3:Oper
 o4:Oper
 l3:List Oper
 rest:Code
def RgP.ops3 (p:RgP):Array Oper:=(p.o3::p.o4::p.l3).toArray
def RgP.body (p:RgP):Code:= .seq (.region p.i2 [p.o1,p.o2].toArray false) (.seq (.cond (.tmp p.db) .skip (.exit p.bid)) (.block p.bi (.seq (.region p.i3 p.ops3 false) p.rest)))
structure RgP.Ok (p:RgP):Prop where
 o1:p.o1.op= .next (.tmp p.di) false/\p.o1.dst=some p.dn/\p.o1.guard=none
 o2:p.o2.op= .extract (.tmp p.dn) 0/\p.o2.dst=some p.db/\p.o2.guard=none
 o3:p.o3.op= .entry (.tmp p.di)/\p.o3.dst=some p.de/\p.o3.guard=none
 o4:p.o4.op= .extract (.tmp p.de) 1/\p.o4.dst=some p.dv/\p.o4.guard=none
def RgP.free (p:RgP)(t:Bn):Bool:=[p.dn,p.db,p.de,p.dv].all fun d=>(t.get d).isNone&&Nat.blt d t.n&& !Nat.beq p.di d
theorem gY {p:RgP}{t:Bn}(h:p.free t=true):∀d∈[p.dn,p.db,p.de,p.dv],t.get d=none/\d < t.n/\p.di≠d:=fun d hd=>by
 have:=Ae.1 h d hd;rw[AB,AB] at this;exact⟨by simpa using this.1.1,by simpa using this.1.2,fun e=>by have C:=this.2;rw[(E5 _ _).2 e] at C;cases C⟩
section
variable {P:Program}{T:Tab}{n:Nat}{W :Nat->Option Nat}{w ab:World}{a:Act}{l:Loc}{al:Nat}
theorem vy {p:RgP}(b:p.Ok){I aI k:Nat}{E:Array Nat}{az:Array MapEntry}{Q:Exit->Act->World->Prop}
  (hf:p.free l.tmps=true) (hR:Rel T n W l a w) (K:a.eval (.tmp p.di)= .pointer (some ⟨aI,0,none⟩))
  (hr:w.heap[aI]? =some (.mapIter (some I) k E k)) (hb:w.heap[I]? =some (.map az k)) (a5:∀x∈az.toList,x.born < k)
  (hK:(leftOf az E).size=0->∀q,Rel T n W l q w->q.eval (.tmp p.db)= .bool false->Q .normal q w)
  (hE:∀e∈(leftOf az E).toList,∀aO,(aO=w\/aO=w.drew)->∀q,(∀N,Rel T n W l a N->Rel T n W l q N)->q.eval (.tmp p.db)= .bool true->q.eval (.tmp p.di)= .pointer (some ⟨aI,0,none⟩)->
   Q .normal q (setBlock aO aI (.mapIter (some I) k (E.push e.born) k))):
  (Code.region p.i2 [p.o1,p.o2].toArray false).wpIn (fen none) al P Q a w:=by
 have Y:=gY hf;have s:=Y p.dn (by simp);have y:=Y p.db (by simp);have H:a.tmps.size=l.tmps.n:=hR.size;refine wpIn_region ?_;show wpOpsIn (fen none) al P [p.o1,p.o2].toArray Q [0,1] a w;refine C0 (o:=p.o1) rfl b.o1.2.2 ?_;rcases run_next_at (P:=P) w p.o1.type aI I k k E az k hr hb a5 (AE _) with⟨h0,O⟩|⟨e,he,aO,a9,O⟩
 .refine E9 (by rw[b.o1.1];exact fun c h=>by cases h) (cW b.o1.1 (by rw[K];exact O)) ?_;rw[b.o1.2.1];refine C0 (o:=p.o2) rfl b.o2.2.2 ?_;refine E9 (by rw[b.o2.1];exact fun c h=>by cases h) (O5 b.o2.1 (EE (by rw[H];exact s.2.1)) (v:= .bool false) rfl) ?_;rw[b.o2.2.1];exact hK h0 _ ((hR.putNone s.1 _).putNone y.1 _) (EE (by rw[DU,H];exact y.2.1))
 .refine E9 (by rw[b.o1.1];exact fun c h=>by cases h) (cW b.o1.1 (by rw[K];exact O)) ?_;rw[b.o1.2.1];refine C0 (o:=p.o2) rfl b.o2.2.2 ?_;refine E9 (by rw[b.o2.1];exact fun c h=>by cases h) (O5 b.o2.1 (EE (by rw[H];exact s.2.1)) (v:= .bool true) rfl) ?_;rw[b.o2.2.1];refine hE e he aO a9 _ (fun N C=>(C.putNone s.1 _).putNone y.1 _) (EE (by rw[DU,H];exact y.2.1)) ?_;rw[EQ y.2.2,EQ s.2.2];exact K
def Wt:Kd->Bool| .int .. =>true| .bool=>true| .str=>true|_=>false
variable{az:List MapEntry}{v:Value}{base:Nat}{M:List Nat}
theorem sa {ok N:Nat->Nat->Prop}{w ab:World}{k:Kd}{u:U}(h:Wt k=true)(b:Bk ok w k u v):Bk N ab k u v:=by
 cases k<;>first|exact b|cases h
def Pu:List Kd->Nat->List AC
 |[],_=>[]
 |k::ks,n=>MD k n::Pu ks (n+1)
def Sw (ks:List Kd)(aT:Bool)(n:Nat):AC:=if aT then .agg (Pu ks n) else (Pu ks n).headD .any
theorem VK {m:Mem}{ok:Nat->Nat->Prop}{aH:World}:∀{ks:List Kd} {us:List U} {Y:List Value} {n0:Nat},ks.all Wt=true->Bg ok aH ks us Y->(∀j u,us[j]? =some u->T (n0+j)=u)->n0+ks.length<=n->BR T n W m w (Pu ks n0) Y
 |[],_,_,_,_,h,_,_=>h.2
 |k::ks,_,_,n0,hk,⟨u,us',v,vs',e1,e2,O,C⟩,hT,hn=>by
  subst e1 e2;simp only[List.all_cons,AB] at hk;simp only[Ad] at hn;refine⟨v,vs',rfl,GQ (by omega) ?_,VK hk.2 C (fun j e b=>?_) (by omega)⟩
  .rw[show T n0=u from hT 0 u rfl];exact sa hk.1 O
  .rw[show n0+1+j=n0+(j+1) by omega];exact hT (j+1) e (by simpa using b)
theorem qz {m:Mem}{ok:Nat->Nat->Prop}{aH:World}{ks:List Kd}{aT:Bool}{us:List U}{n0:Nat}(s:ks.all Wt=true)(h:DL ok aH ks aT us v)(q:∀j u,us[j]? =some u->T (n0+j)=u)(y:n0+ks.length<=n):
  BQ T n W m w (Sw ks aT n0) v:=by
 obtain⟨Y,O,C⟩:=h;have b:=VK (n:=n) (W := W) (m:=m) (w:=w) s O q y;unfold Sw;cases aT with
 |true=>
  simp only[if_true] at C⊢;exact⟨Y,C,b⟩
 |false=>
  simp only[AZ,if_false] at C⊢;subst C;cases E:Pu ks n0 with
  |nil=>trivial
  |cons c aC=>
   rw[E] at b;obtain⟨u,H,e,k,_⟩:=b;cases e;exact k
theorem qV (b:∀(i:Nat) (e:MapEntry),az[i]? =some e->e.born=base+i):(az.map (·.born)).Nodup:=by
 refine BJ.2 fun i j Z h k=>?_;simp only[List.length_map] at Z h;simp only[List.getElem_map];rw[b i _ (AF Z),b j _ (AF h)];omega
theorem tY (b:∀(i:Nat) (e:MapEntry),az[i]? =some e->e.born=base+i){e:MapEntry}(h:e∈(leftOf az.toArray (M.map (base+ ·)).toArray).toList):
  ∃i,az[i]? =some e/\i ∉ M/\e.born=base+i:=by
 simp only[leftOf,Array.toList_filter,List.mem_filter] at h;obtain⟨O,C⟩:=h;obtain⟨i,Z⟩:=Ac.1 O;grind
theorem oz (k:∀(i:Nat) (e:MapEntry),az[i]? =some e->e.born=base+i)(h:(leftOf az.toArray (M.map (base+ ·)).toArray).size=0){i:Nat}(Z:i < az.length):i∈M:=by
 have b:leftOf az.toArray (M.map (base+ ·)).toArray= #[]:=Array.eq_empty_of_size_eq_zero h;unfold leftOf at b;rw[Array.filter_eq_empty_iff] at b;have O:=b az[i] (by simp);rw[k i _ (AF Z)] at O;simp at O;exact O
end
theorem Nw:∀(n:Nat) (M:List Nat),M.Nodup->(∀j∈M,j < n)->M.length<=n
 |0,M,_,h=>by
  cases M with
  |nil=>exact AE _
  |cons a l=>exact absurd (h a (AN ..)) (by omega)
 |n+1,M,hn,h=>by
  have O:=Nw n (M.erase n) (hn.erase n) (fun j b=>by
   have:=(hn.mem_erase_iff).1 b;have:=h j this.2;omega)
  rw[List.length_erase] at O;split at O<;>omega
structure eS (P:Program) (call:CM) (hint:EM) (ys:Ys) (fuel:Nat) (p:RgP) (pc:PC) (n1:Nat) (hd:Loc) (idr:Nat) (vk:List Kd) (va:Bool) (s1:RS) (pc2:PC) (l2:Loc) (g2:G) (z:Rf) (ps:List Pr) (fv:List Nat):Prop where
 di:hd.tmps.get p.di=some (.ptr idr 0)
 gone:hd.mem.at idr= .gone
 free:p.free hd.tmps=true
 flat:vk.all Wt=true
 steps:Ee P call ys p.ops3 pc p.l3 ⟨hd.tmps.set p.dv (Sw vk va (n1+1)),hd.mem,⟨n1+1+vk.length,[],[],[]⟩,[]⟩=some s1
 code:C1 P call hint false ys fuel p.bi p.rest pc ⟨s1.tmps.commit hint.keep,s1.mem⟩ s1.g=some ([⟨.normal,pc2,l2⟩],g2)
 mat:Fk [] n1 [z] hd l2=some ps
 scope:Dc fv n1 (n1+1+vk.length) g2.n g2.eqs=true
 fvs:fv.all (fun x=>Nat.blt x n1)=true
 lps:g2.lps=[]
section
variable {P:Program}{call:CM}{aR:EM}{an:Ys}{aK:Nat}{p:RgP}{ae:PC}{av:Nat}{hd:Loc}{aF:Nat}{aM:List Kd}{aT:Bool}{aJ:RS}{aD:PC}{ah:Loc}{aw:G}{z:Rf}{ps:List Pr}{fv:List Nat}{al:Nat}
theorem nq (hm:P.follows .mixedOrders=true)(d4:∀T,Dj P T call)(ey:∀lp,ES P lp an)(hp:p.Ok)
  (E:eS P call aR an aK p ae av hd aF aM aT aJ aD ah aw z ps fv) {T:Tab} (eo:pcv T ae) (eq:∀c,ae=some c->c < av)
  {l:List (List U)} {az:List MapEntry} {base I aI K:Nat} (ee:az.length=l.length) (b4:∀(i:Nat) (e:MapEntry),az[i]? =some e->e.born=base+i)
  (hw:∀(i:Nat) us e,l[i]? =some us->az[i]? =some e->∃u1 u2 ok aH,us=u1++u2/\u1.length=K/\DL ok aH aM aT u2 e.val)
  {F:List U->List (List U)}
  (hC:∀(T':Tab) (M:List Nat) (i:Nat) (us:List U) (s:List (List U)),Do T T' av->M.Nodup->(∀j∈M,j < l.length)->i ∉ M->l[i]? =some us->s=(M.map fun j=>l.getD j []).flatMap F->T' av= .list s->
   (∀j u,(us.drop K)[j]? =some u->T' (av+1+j)=u)->(∀q∈aw.eqs,T' q.1=q.2.eval T')->(∀q∈aw.obs,q.holds T')/\(pcv T' aD->(∀q∈ps,q.holds T')/\z.eval T'= .list (s++F us)))
  {n0:Nat} {aX:Nat->Option Nat} {aP:Mem} {aH:World} (gr:BX T n0 aX aP aH) (g0:n0<=av) (hf:aH.heap.size<=aI)
  {Q:Exit->Act->World->Prop}
  (hQ:∀(M:List Nat) (s:List (List U)) ad a1 aO,M.Perm (List.range l.length)->s=(M.map fun j=>l.getD j []).flatMap F->Rel (T.upd av (.list s)) (av+1) ad hd a1 aO->BY (T.upd av (.list s)) n0 aX aP aH ad hd.mem aO->Q .normal a1 aO):
  ∀(k:Nat) (M:List Nat) (s:List (List U)) ad a1 aO,l.length - M.length<=k->M.Nodup->(∀j∈M,j < l.length)->s=(M.map fun j=>l.getD j []).flatMap F->
   Rel (T.upd av (.list s)) (av+1) ad hd a1 aO->BY (T.upd av (.list s)) n0 aX aP aH ad hd.mem aO-> ad aF=some aI->
   aO.heap[aI]? =some (.mapIter (some I) (base+az.length) (M.map (base+ ·)).toArray (base+az.length))->aO.heap[I]? =some (.map az.toArray (base+az.length))->
   (∀id,(hd.mem.at id).tracked=true-> ad id≠some aI)->(∀id,(hd.mem.at id).tracked=true-> ad id≠some I)->
   Code.roundsIn (fen none) al P p.body (Exit.inBlock p.bid Q) (k+1) a1 aO:=by
 have e0:∀u,Do T (T.upd av u) av:=fun u=>⟨fun x N=>D7 _ _ (by omega),rfl,rfl⟩;intro k;induction k using Nat.strongRecOn with
 |_ k ih=>?_
 intro M s ad a1 aO hL cy cx c0 hR b9 d7 bs bm g2 g3;rw[roundsIn_succ];have f8:a1.eval (.tmp p.di)= .pointer (some ⟨aI,0,none⟩):=by
  obtain⟨b,O,C,_⟩:=hR.tmps _ _ E.di;rw[d7] at O;cases O;exact C
 refine wpIn_seq (vy hp E.free hR f8 bs bm (fun x N=>?_) (fun h0 a' b1 hb=>?_) fun e he a4 eu a' b1 hb f9=>?_)
 .obtain⟨i,Z⟩:=Ac.1 N;have C:=(AG.1 Z).1;rw[b4 i x Z];have:i < az.length:=C;omega
 .
  refine wpIn_seq (wpIn_cond_false hb (wpIn_exit ?_));show Exit.inBlock p.bid Q (.exit p.bid) a' aO;simp only[Exit.inBlock,if_true];refine hQ M s ad a' aO ?_ c0 b1 b9;refine (List.perm_ext_iff_of_nodup cy List.nodup_range).2 fun x=>⟨fun N=>List.mem_range.2 (cx x N),fun N=>oz b4 h0 (by rw[ee];exact List.mem_range.1 N)⟩
 .obtain⟨i,Z,em,f5⟩:=tY b4 he;have d8:i < l.length:=by rw[<-ee];exact (AG.1 Z).1
  have el:(M++[i]).Nodup:=by
   rw[List.nodup_append];exact⟨cy,by simp,fun x N y hy=>by simp at hy;subst hy;exact fun e=>em (e▸N)⟩
  have ei:∀j∈M++[i],j < l.length:=fun j hj=>by
   rcases Ap.1 hj with h|h
   .exact cx j h
   .simp at h;subst h;exact d8
  have f7:=Nw l.length _ el ei;simp only[AP,Ad,As] at f7;obtain⟨k',rfl⟩:∃k',k=k'+1:=⟨k - 1,by omega⟩;have f6:I < aO.heap.size:=(AI.1 bm).1;have es:aI < aO.heap.size:=(AI.1 bs).1;have g1:I≠aI:=fun e=>by rw[e,bs] at bm;cases bm
  obtain⟨us,c2⟩:∃us,l[i]? =some us:=⟨_,AF d8⟩;obtain⟨u1,u2,ok,wv,hv,hu,et⟩:=hw i us e c2 Z;have ga:us.drop K=u2:=by rw[hv,<-hu];simp
  have hN:u2.length=aM.length:=by obtain⟨Y,O,_⟩:=et;have:=O.len;omega
  have d3:(T.upd av (.list s)) av= .list s:=Fo _ _ _;have a6:Do T (T.upd av (.list s)) av:=e0 _;have d0:(T.upd av (.list s)).base=T.base:=rfl;generalize T.upd av (.list s)=aA at hR b9 b1 d3 a6 d0;obtain⟨db,dd,de⟩:=OS u2 aA (av+1);obtain⟨aS,di,dj⟩:=Gi aw.eqs (aA.upds (av+1) u2);have cu:∀q∈aw.eqs,(Ci (aA.upds (av+1) u2) aw.eqs) q.1=q.2.eval (Ci (aA.upds (av+1) u2) aw.eqs):=GT (fun x N=>by have:=Ae.1 E.fvs x N;simpa using this) (by omega) E.scope;have ba:∀x,x < av+1->(Ci (aA.upds (av+1) u2) aw.eqs) x=aA x:=fun x N=>by
   rw[(DZ (T:=aA.upds (av+1) u2) E.scope).2.2 x (.inl (by omega))];exact IL _ _ _ _ N
  have cl:∀j u,u2[j]? =some u->(Ci (aA.upds (av+1) u2) aw.eqs) (av+1+j)=u:=fun j u hj=>by
   have hK:=(AG.1 hj).1;rw[(DZ (T:=aA.upds (av+1) u2) E.scope).2.2 _ (.inl (by omega))];exact HT _ _ _ _ _ hj
  have bx:=aS.trans db;have b0:=di.trans dd;have ce:=dj.trans de;clear db dd de aS di dj;generalize Ci (aA.upds (av+1) u2) aw.eqs=J at cu ba cl bx b0 ce;have ci:Do aA J (av+1):=⟨ba,bx,b0⟩;have bl:Do T J av:=⟨fun x N=>(ba x (by omega)).trans (a6.eq x N),bx.trans a6.fr,b0.trans a6.lp⟩;have fn:J.base=T.base:=ce.trans d0;obtain⟨g6,gs⟩:=hC J M i us s bl cy cx em c2 c0 ((ba av (by omega)).trans d3) (by rw[ga];exact cl) cu;have c1:pcv J ae:=by
   cases b7:ae with
   |none=>trivial
   |some c=>
    show J c= .bool true;rw[bl.eq c (eq c b7)];rw[b7] at eo;exact eo
  have dv:Agr J aw:=⟨cu,fun q hq=>by rw[E.lps] at hq;cases hq⟩;have d1:CB J aw:=fun o ho=>g6 o ho;have ek:BX J (av+1) ad hd.mem aO:=hR.mem.tab ci;have b2:=b1 aO hR;have b3:Rel J (av+1) ad hd a' aO:=⟨by rw[ce];exact b2.defers,b2.size,fun i c hc=>BQ.tab ci.eq (fun b off h=>ci.safe b2.mem h) _ _ (b2.tmps i c hc),ek⟩;have bb:a4.heap=aO.heap:=by rcases eu with rfl|rfl<;>rfl
  have fd:Ej J (av+1) ad hd.mem aH.heap.size aO a4:=by
   rcases eu with rfl|rfl
   .exact Ej.refl _ _ _ _ _ _
   .exact Ej.drew _ _ _ _ _ _ ek
  have bi:Ej J (av+1) ad hd.mem aH.heap.size aO (a4.putObj aI (.mapIter (some I) (base+az.length) ((M.map (base+ ·)).toArray.push e.born) (base+az.length))):=
   fd.trans (Ej.put ⟨_,by rw[bb];exact bs,rfl⟩ hf (fun _ _ _ h=>by cases h))
  have c3:(a4.putObj aI (.mapIter (some I) (base+az.length) ((M.map (base+ ·)).toArray.push e.born) (base+az.length))).heap[aI]? =some (.mapIter (some I) (base+az.length) ((M.map (base+ ·)).toArray.push e.born) (base+az.length)):=
   World.putObj_heap_same (by rw[bb];exact es)
  have c4:(a4.putObj aI (.mapIter (some I) (base+az.length) ((M.map (base+ ·)).toArray.push e.born) (base+az.length))).heap[I]? =some (.map az.toArray (base+az.length)):=by
   rw[World.putObj_heap_other g1,bb];exact bm
  have cf:Rel J (av+1) ad hd a' (a4.putObj aI (.mapIter (some I) (base+az.length) ((M.map (base+ ·)).toArray.push e.born) (base+az.length))):=by
   refine⟨FK.put ?_ (fun x N=>?_),b3.size,fun i c hc=>bi.holds _ _ (b3.tmps i c hc),bi.mem b3.mem⟩
   .obtain⟨e3,Ds,e4,e5,e6⟩:=b3.defers;exact⟨by rw[bb];exact e3,Ds,e4,e5,fun D hD=>by rw[bb];exact e6 D hD⟩
   .rw[bb,bs] at N;cases N
  show (Code.seq _ _).wpIn (fen none) al P _ a' (a4.putObj aI _);generalize hO:a4.putObj aI (.mapIter (some I) (base+az.length) ((M.map (base+ ·)).toArray.push e.born) (base+az.length))=wn at bi c3 c4 cf⊢;have c5:wn.heap.size=aO.heap.size:=bi.size;refine wpIn_seq (wpIn_cond_true hb (wpIn_skip ?_));show (Code.block _ _).wpIn (fen none) al P _ a' wn;refine wpIn_block (wpIn_seq (wpIn_region ?_));have hi:List.range p.ops3.size=0::1::List.range' 2 p.l3.length:=by
   simp[RgP.ops3,List.range_eq_range',List.range'_succ]
  rw[hi];have fr:=gY E.free;have f3:=fr p.de (by simp);have hH:=fr p.dv (by simp);have hr:a'.tmps.size=hd.tmps.n:=cf.size;refine C0 (o:=p.o3) (by simp[RgP.ops3]) hp.o3.2.2 ?_;refine E9 (by rw[hp.o3.1];exact fun c h=>by cases h) (pr hp.o3.1 (by
   rw[f9];exact run_entry_at wn aI I (base+az.length) (M.map (base+ ·)).toArray az.toArray (base+az.length) e c3 c4 (by simpa using List.mem_of_getElem? Z) (by simpa using qV b4))) ?_
  rw[hp.o3.2.1];refine C0 (o:=p.o4) (by simp[RgP.ops3]) hp.o4.2.2 ?_;refine E9 (by rw[hp.o4.1];exact fun c h=>by cases h) (O5 hp.o4.1 (EE (by rw[hr];exact f3.2.1)) (v:=e.val) rfl) ?_;rw[hp.o4.2.1];have hx:BQ J (av+1+aM.length) ad hd.mem wn (Sw aM aT (av+1)) e.val:=qz E.flat et cl (AE _);have ha:Rel J (av+1+aM.length) ad ⟨hd.tmps.set p.dv (Sw aM aT (av+1)),hd.mem⟩ ((a'.put (some p.de) (.tuple #[e.key,e.val])).put (some p.dv) e.val) wn:=
   Rel.put (tmps:=hd.tmps) (m:=hd.mem) ((cf.putNone f3.1 _).up (Nat.le_add_right _ _)) (some p.dv) hx
  obtain⟨dn,hB⟩:=L4 (T:=J) (r:=none) (al:=al) (d4 J) (ey J.lp) E.steps;obtain⟨ds,hA⟩:=((MR hm d4 aR aK false an J none al p.bi p.rest (fun _=>rfl) (ey _)).mono fun _ _ _ h=>TD h) ae _ aJ.g _ aw E.code;have er:∀g:G,av<=g.n->EA g ae:=fun g hg=>by
   cases b7:ae with
   |none=>trivial
   |some c=>exact AH (eq c b7) hg
  have gl:av<=aJ.g.n:=AV (by show av<=av+1+aM.length;omega) dn.n;have hM:av+1+aM.length<=aJ.g.n:=dn.n;obtain⟨hI,_,hF⟩:=hA dv (er _ gl);refine hB (dv.of ds) (d1.of ds) c1 ((er ⟨av+1+aM.length,[],[],[]⟩ (by show av<=av+1+aM.length;omega)).ok c1) 2 ad _ wn _ (fun j=>by simp[RgP.ops3,Nat.add_comm 2 j]) ⟨ha,fun e he=>by cases he⟩ fun aV c8 w2 gm bt=>?_;show p.rest.wpIn (fen none) al P _ c8 w2;refine hF d1 c1 aV c8 w2 _ (Rel.less (l:=⟨aJ.tmps,aJ.mem⟩) gm.rel (Bn.commit_n _ _) fun i c hc=>Bn.get_commit _ _ _ hc) fun o ho g7 c7 a3 w3 ca hk=>?_;simp only[Al] at ho;subst ho;show Code.roundsIn (fen none) al P p.body (Exit.inBlock p.bid Q) (k'+1) a3 w3;obtain⟨g8,hz⟩:=gs g7;have ch:=e0 (.list (s++F us));have f2:(T.upd av (.list (s++F us))) av= .list (s++F us):=Fo _ _ _;have fs:(T.upd av (.list (s++F us))).base=T.base:=rfl;have d5:∀x,x < av->(T.upd av (.list (s++F us))) x=J x:=fun x N=>(ch.eq x N).trans (bl.eq x N).symm;have H:Gc J (T.upd av (.list (s++F us))) av (av+1) [z]:=fun j aI hj=>by
   cases j with
   |zero=>simp at hj;subst hj;exact⟨by omega,f2.trans hz.symm⟩
   |succ j=>simp at hj
  obtain⟨z1,z2,_⟩:=IZ (aA:=J) (J:=T.upd av (.list (s++F us))) E.mat (fun q hq=>by cases hq) (ch.fr.trans bl.fr.symm) (ch.lp.trans bl.lp.symm) (fs.trans fn.symm) d5 (Nat.le_succ av) H g8 hk;have ej:BX aA n0 aX aP aH:=gr.tab ⟨fun x N=>a6.eq x (by omega),a6.fr,a6.lp⟩;have d2:Do aA J n0:=⟨fun x N=>ba x (by omega),bx,b0⟩;have b5:BX J n0 aX aP aH:=ej.tab d2;have hl:BY J n0 aX aP aH ad hd.mem wn:=(BY.tab d2 ej b9 (fun id L ak e' N=>ba _ (hR.mem.tok_lt N))).after b5 bi;have hn:BY J n0 aX aP aH c7 ah.mem w3:=(hl.trans b5 (by show n0<=av+1+aM.length;omega) bt).trans b5 (by omega) ca;have off:∀k0,k0 < aO.heap.size->(∀id,(hd.mem.at id).tracked=true-> ad id≠some k0)->w3.heap[k0]? =wn.heap[k0]? /\∀id,(hd.mem.at id).tracked=true-> c7 id≠some k0:=fun k0 cv en=>by
   have O:=bt.old k0 (by rw[c5];exact cv) en;have C:=bt.off (by rw[c5];exact cv) en;have d9:k0 < w2.heap.size:=AH (by rw[c5];exact cv) bt.size;have h3:=ca.old k0 d9 C;have h4:=ca.off d9 C;exact⟨h3.trans O,fun id ht=>h4 id (z2.tracked ht)⟩
  obtain⟨hh,g4⟩:=off aI es g2;obtain⟨f4,g5⟩:=off I f6 g3;have d6:=bt.rho aF (by show (hd.mem.at aF).ptrOk=true;rw[E.gone];rfl);have gn:=ca.rho aF d6.2;refine ih k' (by omega) (M++[i]) (s++F us) c7 a3 w3 (by simp only[AP,Ad,As];omega) el ei ?_ z1 (BY.matched z2 d5 g0 b5 b9.mlen hn) (gn.1.trans (d6.1.trans d7)) ?_ (f4.trans c4) g4 g5
  .rw[c0];simp[c2]
  .rw[hh,c3];simp[f5]
end
section
variable {P:Program}{T:Tab}{n:Nat}{W :Nat->Option Nat}{m:Mem}{w ab:World}{a:Act}{l:Loc}
theorem kQ (q:BX T n W m w)(o:Obj):BY T n W m w (DX W m.length w.heap.size) (m++[.gone]) (w.alloc o)/\BX T n (DX W m.length w.heap.size) (m++[.gone]) (w.alloc o):=by
 have ac:=Jm q o .gone;refine⟨ac,⟨fun id=>?_,fun id K b e s E H=>?_,fun b off h=>q.fr b off (AV ac.size h)⟩⟩
 .by_cases k:id=m.length
  .subst k;rw[Bj,BH rfl];exact trivial
  .by_cases e:(m.at id).tracked=true
   .exact Cj.step ac q (AE _) (by rw[Bj,BG k]) (CC _ _ _ k) (fun b N=>CZ w _ b (q.lt e N))
   .rw[Bj,BG k];cases y:m.at id with
    |pad=>trivial
    |gone=>trivial
    |cells=>rw[y] at e;exact absurd rfl e
    |lp=>rw[y] at e;exact absurd rfl e
    |tok=>rw[y] at e;exact absurd rfl e
    |mrow=>rw[y] at e;exact absurd rfl e
    |mapb=>rw[y] at e;exact absurd rfl e
 .rw[Bj] at e s;by_cases k:id=m.length
  .rw[BH k] at e;cases e
  .by_cases C:K=m.length
   .rw[BH C] at s;cases s
   .rw[BG k] at e;rw[BG C] at s;rw[CC _ _ _ k] at E;rw[CC _ _ _ C] at H;exact q.inj id K b e s E H
theorem Rel.tabB {J:Tab}(e:Rel T n W l a w)(S:Do T J n)(k:J.base=T.base):Rel J n W l a w:=
 ⟨by rw[k];exact e.defers,e.size,fun i c q=>BQ.tab S.eq (fun b off h=>S.safe e.mem h) _ _ (e.tmps i c q),e.mem.tab S⟩
end
def Wv (X:Loc)(av:Nat)(q h b k:Tmp)(keep:Nat)(ks:List Kd)(e:TypeId):Option (Nat × Nat × List Kd × Bool × List Kd × Bool × Loc):=
 if X.tmps.loc.isEmpty&&(X.tmps.get h).isNone&&(X.tmps.get b).isNone&&Nat.blt h X.tmps.n&&Nat.blt b X.tmps.n then
  match X.tmps.get q with
  |some (.mv idm)=>match X.mem.at idm with
   | .mapb x al ka aM aT=>
    match ((X.tmps.set b (.ptr X.mem.length 0)).commit keep).get k with
    |some (.cv .nilSlice)=>(If ⟨(X.tmps.set b (.ptr X.mem.length 0)).commit keep,((X.mem.set idm Blk.gone)++[Blk.gone])++[Blk.tok av ks e]⟩ ((X.mem.set idm Blk.gone)++[Blk.gone]).length av ks (.tmp k)).map fun hd=>(idm,x,al,ka,aM,aT,hd)
    |_=>none
   |_=>none
  |_=>none
 else none
section
variable {P:Program}{call:CM}{aR:EM}{an:Ys}{aK:Nat}{p:RgP}{ae:PC}{av:Nat}{hd X:Loc}{aM:List Kd}{aT:Bool}{aJ:RS}{aD:PC}{ah:Loc}{aw:G}{z:Rf}{ps:List Pr}{fv:List Nat}{al:Nat}
theorem qo (hm:P.follows .mixedOrders=true)(dn:∀T,Dj P T call)(ey:∀lp,ES P lp an)(hp:p.Ok)
  {tm dm N:Tmp} {keep:Nat} {ks:List Kd} {e:TypeId} {b x:Nat} {b2:List Kd} {ka:Bool} (H:Wv X av tm dm p.di N keep ks e=some (b,x,b2,ka,aM,aT,hd))
  (E:eS P call aR an aK p ae av hd X.mem.length aM aT aJ aD ah aw z ps fv)
  {i1:Nat} {q1 q2:Oper} {mt kt et:TypeId} (bi:q1.op= .move (.tmp tm)/\q1.dst=some dm/\q1.guard=none) (bl:q2.op= .range mt (.tmp dm)/\q2.dst=some p.di/\q2.guard=none) (d9:P.underlying mt=some (.map kt et))
  {T:Tab} (el:pcv T ae) (em:∀c,ae=some c->c < av)
  {F:List U->List (List U)}
  (ch:∀(T':Tab) (M:List Nat) (i:Nat) (us:List U) (N:List (List U)),Do T T' av->(T x).toL.length<=BT->M.Nodup->(∀j∈M,j < (T x).toL.length)->i ∉ M->(T x).toL[i]? =some us->N=(M.map fun j=>(T x).toL.getD j []).flatMap F->T' av= .list N->
   (∀j u,(us.drop b2.length)[j]? =some u->T' (av+1+j)=u)->(∀q∈aw.eqs,T' q.1=q.2.eval T')->(∀q∈aw.obs,q.holds T')/\(pcv T' aD->(∀q∈ps,q.holds T')/\z.eval T'= .list (N++F us)))
  {W :Nat->Option Nat} {a:Act} {w:World} (hR:Rel T av W X a w)
  {Q:Exit->Act->World->Prop}
  (hQ:∀(M:List Nat) (N:List (List U)) ρ1 a1 aO,M.Perm (List.range (T x).toL.length)->N=(M.map fun j=>(T x).toL.getD j []).flatMap F->Rel (T.upd av (.list N)) (av+1) ρ1 hd a1 aO->BY (T.upd av (.list N)) av W X.mem w ρ1 hd.mem aO->Q .normal a1 aO):
  (Code.seq (.region i1 [q1,q2].toArray false) (.block p.bid (.loop p.body))).wpIn (fen none) al P Q a w:=by
 unfold Wv at H;split at H
 .rename_i hc;simp only[AB] at hc;obtain⟨⟨⟨⟨aS,c2⟩,c3⟩,c4⟩,c5⟩:=hc;split at H
  .rename_i fd d6;split at H
   .rename_i L fr fn f0 fs bt;split at H
    .rename_i ee;simp only[AX] at H;obtain⟨e7,eu,H⟩:=H;cases H;have dv:X.tmps.get dm=none:=by simpa using c2
     have e8:X.tmps.get p.di=none:=by simpa using c3
     have d0:dm < X.tmps.n:=by simpa using c4
     have e9:p.di < X.tmps.n:=by simpa using c5
     obtain⟨I,b5,b7,_⟩:=hR.tmps _ _ d6;have b8:=hR.mem.blk b;rw[bt] at b8;obtain⟨hx,lr,b',az,a4,di,b6,b0,d4,d7,d1,base,ds,dk⟩:=b8;rw[b5] at b6;cases b6;subst ds;have de:(T x).toL=lr:=by rw[di];rfl
     rw[de] at ch hQ;have dj:I < w.heap.size:=(AI.1 b0).1;have es:a.tmps.size=X.tmps.n:=hR.size;refine wpIn_seq (wpIn_region ?_);show wpOpsIn (fen none) al P [q1,q2].toArray _ [0,1] a w;refine C0 (o:=q1) rfl bi.2.2 (E9 (by rw[bi.1];exact fun c h=>by cases h) (UY bi.1) ?_);rw[bi.2.1];refine C0 (o:=q2) rfl bl.2.2 (E9 (by rw[bl.1];exact fun c h=>by cases h) (og bl.1 (by
      rw[EE (by rw[es];exact d0),show a.eval (.tmp tm)= .map (some I) from b7];exact run_range_map w mt kt et I az.toArray (base+az.length) d9 b0)) ?_)
     rw[bl.2.1];rw[show a.eval (.tmp tm)= .map (some I) from b7];show (Code.block p.bid (.loop p.body)).wpIn (fen none) al P Q _ (w.alloc (.mapIter (some I) (base+az.length) #[] (base+az.length)));have db:Do T (T.upd av (.list [])) av:=⟨fun x hx=>D7 _ _ (by omega),rfl,rfl⟩;have dd:(T.upd av (.list [])) av= .list []:=Fo _ _ _;have a9:Rel (T.upd av (.list [])) av W X a w:=hR.tabB db rfl;have cb:X.mem.at b≠ .pad:=by rw[bt];exact fun h=>by cases h
     have ce:∀id,Dx (T.upd av (.list [])) av av w (X.mem.at id) (Mem.at (X.mem.set b Blk.gone) id):=fun id=>by
      rw[Hw _ _ _ _ cb];split
      .exact .gone _
      .exact Dx.refl (AE _) _
     have eo:=HD a9.mem ce;have d8:=QJ a9.mem (AE _) ce;obtain⟨eq,ca⟩:=kQ d8 (.mapIter (some I) (base+az.length) #[] (base+az.length));have bb:(X.mem.set b Blk.gone).length=X.mem.length:=Au;have b1:=eo.trans a9.mem (AE _) eq;rw[bb] at b1 ca;have c6:Rel (T.upd av (.list [])) av (DX (DJ X.mem W) X.mem.length w.heap.size) ⟨X.tmps,(X.mem.set b Blk.gone)++[Blk.gone]⟩ a (w.alloc (.mapIter (some I) (base+az.length) #[] (base+az.length))):=
      Rel.on (tmps:=X.tmps) (m:=X.mem) a9 b1 (AE _) ca
     have b9:(DX (DJ X.mem W) X.mem.length w.heap.size) X.mem.length=some w.heap.size:=CF _ _ _;have en:BQ (T.upd av (.list [])) av (DX (DJ X.mem W) X.mem.length w.heap.size) ((X.mem.set b Blk.gone)++[Blk.gone]) (w.alloc (.mapIter (some I) (base+az.length) #[] (base+az.length))) (.ptr X.mem.length 0) (.pointer (some ⟨w.heap.size,0,none⟩)):=
      ⟨w.heap.size,b9,rfl,by
       have:Mem.at ((X.mem.set b Blk.gone)++[Blk.gone]) X.mem.length= .gone:=by rw[<-bb,Bj,BH rfl]
       rw[this];rfl⟩
     have c7:=Rel.put (c6.putNone (d:=dm) dv (.map (some I))) (some p.di) en;have c8:Rel (T.upd av (.list [])) av (DX (DJ X.mem W) X.mem.length w.heap.size) ⟨(X.tmps.set p.di (.ptr X.mem.length 0)).commit keep,(X.mem.set b Blk.gone)++[Blk.gone]⟩ ((a.put (some dm) (.map (some I))).put (some p.di) (.pointer (some ⟨w.heap.size,0,none⟩))) (w.alloc (.mapIter (some I) (base+az.length) #[] (base+az.length))):=
      Rel.less (l:=⟨X.tmps.set p.di (.ptr X.mem.length 0),(X.mem.set b Blk.gone)++[Blk.gone]⟩) c7 (Bn.commit_n _ _) fun i c hc=>Bn.get_commit _ _ _ hc
     obtain⟨_,_, cl,c9,bm⟩:=ZF (T:=T.upd av (.list [])) (n:=av) (l:=⟨(X.tmps.set p.di (.ptr X.mem.length 0)).commit keep,(X.mem.set b Blk.gone)++[Blk.gone]⟩) (s:= .tmp N) rfl dd ee eu c8;have er:BY (T.upd av (.list [])) av W X.mem w cl hd.mem _:=b1.trans a9.mem (AE _) bm;have d2:=bm.rho X.mem.length (by
      have:Mem.at ((X.mem.set b Blk.gone)++[Blk.gone]) X.mem.length= .gone:=by rw[<-bb,Bj,BH rfl]
      show (Mem.at ((X.mem.set b Blk.gone)++[Blk.gone]) X.mem.length).ptrOk=true;rw[this];rfl)
     have cj:∀id,(Mem.at ((X.mem.set b Blk.gone)++[Blk.gone]) id).tracked=true->id≠X.mem.length/\id≠b/\(X.mem.at id).tracked=true:=fun id y=>by
      rw[Bj,bb] at y;by_cases he:id=X.mem.length
      .rw[BH he] at y;cases y
      .rw[BG he,Hw _ _ _ _ cb] at y;by_cases bx:id=b
       .rw[BH bx] at y;cases y
       .rw[BG bx] at y;exact⟨he,bx,y⟩
     have ci:∀id,id≠X.mem.length->(X.mem.at id).tracked=true->(DX (DJ X.mem W) X.mem.length w.heap.size) id= W id:=fun id he y=>by
      rw[CC _ _ _ he];exact Di (fun h=>by rw[h] at y;cases y)
     have cc:(w.alloc (.mapIter (some I) (base+az.length) #[] (base+az.length))).heap.size=w.heap.size+1:=by simp
     have ei:=bm.off (k:=w.heap.size) (by rw[cc];exact Nat.lt_succ_self _) fun id y he=>by
      obtain⟨O,C,h3⟩:=cj id y;rw[ci id O h3] at he;exact absurd (hR.mem.lt h3 he) (Nat.lt_irrefl _)
     have ej:=bm.off (k:=I) (by rw[cc];omega) fun id y he=>by
      obtain⟨O,C,h3⟩:=cj id y;rw[ci id O h3] at he;exact C (hR.mem.inj id b I h3 (by rw[bt];rfl) he b5)
     refine wpIn_block (wpIn_loop_rounds (lr.length+1) ?_);exact nq hm dn ey hp E el em (l:=lr) (az:=az) (base:=base) (I:=I) (aI:=w.heap.size) (K:=b2.length) d4 dk (fun i us e O C=>by
       obtain⟨u1,u2,e1,⟨Y,e2,_⟩,e3⟩:=d1 i us e O C;exact⟨u1,u2,_,_,e1,e2.len.2,e3⟩)
      (fun T' M i us N O=>ch T' M i us N O d7) hR.mem (AE _) (AE _) hQ lr.length [] [] cl _ _ (Nat.sub_le _ _) List.nodup_nil (fun j hj=>by cases hj) rfl c9 er (d2.1.trans b9) (heap_alloc_new _ _) ((heap_alloc_old _ _ dj).trans b0) ei ej
    .cases H
   .cases H
  .cases H
 .cases H
end
end
section
open Go Go.RowKit
def Uw:Nat->Code->List Code × Code
 |n+1,.seq a b=>(a::(Uw n b).1,(Uw n b).2)
 |_,c=>([],c)
def jI:List Code->Code->Code
 |[],c=>c
 |a::l,c=> .seq a (jI l c)
def Po (run:Code->PC->Loc->G->Option (List CT × G)):List Code->PC->Loc->G->Option (PC × Loc × G)
 |[],ae,l,g=>some (ae,l,g)
 |c::aC,ae,l,g=>match run c ae l g with
  |some ([⟨.normal,pc',aj⟩],ao)=>Po run aC pc' aj ao
  |_=>none
theorem Xz {P:Program}{T:Tab}{al:Nat}{run:Code->PC->Loc->G->Option (List CT × G)}(a0:∀c,D3 T (fun Q a w=>c.wpIn (fen none) al P Q a w) (run c)):∀{aC:List Code} {ae e:PC} {l aj:Loc} {g ao:G},
  Po run aC ae l g=some (e,aj,ao)->Bo g ao/\(Agr T ao->EA g ae->EA ao e/\(CB T ao->pcv T ae->∀ W a w b Q,Rel T g.n W l a w->BX T g.n W l.mem w->
   (pcv T e->∀ ad H ab,BY T g.n W l.mem w ad aj.mem ab->Rel T ao.n ad aj H ab->b.wpIn (fen none) al P Q H ab)->(jI aC b).wpIn (fen none) al P Q a w))
 |[],ae,e,l,aj,g,ao,h=>by
  simp only[Po] at h;cases h;exact⟨Bo.refl _,fun _ y=>⟨y,fun _ C W a w b Q s _ q=>q C W a w (BY.refl _ _ _ _ _) s⟩⟩
 |c::aC,ae,e,l,aj,g,ao,h=>by
  simp only[Po] at h;split at h
  .rename_i b2 X g1 hr;obtain⟨N,k1⟩:=a0 c ae l g _ g1 hr;obtain⟨k,E⟩:=Xz a0 h;refine⟨N.trans k,fun O y=>?_⟩;obtain⟨q1,_,q3⟩:=k1 (O.of k) y;obtain⟨p1,p2⟩:=E O (q1.each _ (Al.2 rfl)).1;refine⟨p1,fun ho C W a w b Q s hm q=>wpIn_seq (q3 (ho.of k) C W a w _ s fun o hx ba b1 K aO bi Y=>?_)⟩;simp only[Al] at hx;subst hx;show (jI aC b).wpIn (fen none) al P Q K aO;exact p2 ho ba b1 K aO b Q Y Y.mem fun a9 aV a3 w2 bl a5=>q a9 aV a3 w2 (bi.trans hm N.n bl) a5
  .cases h
structure RgC where
 pre:List Code
 i1:Nat
 q1:Oper
 q2:Oper
 tm:Tmp
 dm:Tmp
 out:Tmp
 mt:TypeId
 kt:TypeId
 et:TypeId
 ks:List Kd
 e:TypeId
 p:RgP
 post:Code
def RgC.code (c:RgC):Code:=jI c.pre (.seq (.seq (.region c.i1 [c.q1,c.q2].toArray false) (.block c.p.bid (.loop c.p.body))) c.post)
structure RgC.Ok (P:Program) (c:RgC):Prop where
 p:c.p.Ok
 q1:c.q1.op= .move (.tmp c.tm)/\c.q1.dst=some c.dm/\c.q1.guard=none
 q2:c.q2.op= .range c.mt (.tmp c.dm)/\c.q2.dst=some c.p.di/\c.q2.guard=none
 mt:P.underlying c.mt=some (.map c.kt c.et)
structure RgO where
 pc:PC
 l1:Loc
 g1:G
 x:Nat
 kks:List Kd
 vk:List Kd
 va:Bool
 hd:Loc
 s1:RS
 pc2:PC
 l2:Loc
 g2:G
 zx:Nat
 ps:List Pr
 fv:List Nat
 outs:List CT
 g3:G
 c0:AC
 m0:Mem
 g4:G
def Z6 (P:Program)(call:CM)(aR:EM)(an:Ys)(aK:Nat)(c:RgC)(aE:Func)(args:List AC)(m:Mem)(n:Nat):Option RgO:=do
 let (ae,X,g1) <-Po (C1 P call aR false an aK 0) c.pre none ⟨Ip aE.ntmps args,m⟩ ⟨n,[],[],[]⟩;let (_,x,kks,_,aM,aT,hd) <-Wv X g1.n c.tm c.dm c.p.di c.out aR.keep c.ks c.e;let aJ<-Ee P call an c.p.ops3 ae c.p.l3 ⟨hd.tmps.set c.p.dv (Sw aM aT (g1.n+1)),hd.mem,⟨g1.n+1+aM.length,[],[],[]⟩,[]⟩
 match C1 P call aR false an aK c.p.bi c.p.rest ae ⟨aJ.tmps.commit aR.keep,aJ.mem⟩ aJ.g with
 |some ([⟨.normal,aD,ah⟩],aw)=>
  match ah.tmps.get c.out,hd.tmps.get c.p.di,hd.mem.at X.mem.length with
  |some (.vec _ zx _),some (.ptr aF 0),.gone=>do
   let ps<-Fk [] g1.n [.e zx] hd ah;let fv:=(R1 g1.n aw.eqs aD [.e zx] []);let (L,g3) <-C1 P call aR false an aK 0 c.post ae hd ⟨g1.n+1,[],[],[]⟩;let (aN,aP,g4) <-D4 (Lj P aE) L g3
   if Nat.beq aF X.mem.length&&c.p.free hd.tmps&&aM.all Wt&&Dc fv g1.n (g1.n+1+aM.length) aw.n aw.eqs&&fv.all (fun x=>Nat.blt x g1.n)&&aw.lps.isEmpty&&Oq n g1&&g1.lps.isEmpty&&Dc [] 0 (g1.n+1) g4.n g4.eqs&&g4.lps.isEmpty&&Nat.ble args.length aE.ntmps&&Nat.blt x g1.n then
    some ⟨ae,X,g1,x,kks,aM,aT,hd,aJ,aD,ah,aw,zx,ps,fv,L,g3,aN,aP,g4⟩
   else none
  |_,_,_=>none
 |_=>none
structure pD (P:Program) (call:CM) (hint:EM) (ys:Ys) (fuel:Nat) (c:RgC) (fn:Func) (args:List AC) (m:Mem) (n:Nat) (o:RgO):Prop where
 parts:Po (C1 P call hint false ys fuel 0) c.pre none ⟨Ip fn.ntmps args,m⟩ ⟨n,[],[],[]⟩=some (o.pc,o.l1,o.g1)
 head:∃idm ka,Wv o.l1 o.g1.n c.tm c.dm c.p.di c.out hint.keep c.ks c.e=some (idm,o.x,o.kks,ka,o.vk,o.va,o.hd)
 round:eS P call hint ys fuel c.p o.pc o.g1.n o.hd o.l1.mem.length o.vk o.va o.s1 o.pc2 o.l2 o.g2 (.e o.zx) o.ps o.fv
 post:C1 P call hint false ys fuel 0 c.post o.pc o.hd ⟨o.g1.n+1,[],[],[]⟩=some (o.outs,o.g3)
 fin:D4 (Lj P fn) o.outs o.g3=some (o.c0,o.m0,o.g4)
 ok1:Oq n o.g1=true
 lps1:o.g1.lps=[]
 ok4:Dc [] 0 (o.g1.n+1) o.g4.n o.g4.eqs=true
 lps4:o.g4.lps=[]
 args:args.length<=fn.ntmps
 x:o.x < o.g1.n
theorem lz {P:Program}{call:CM}{aR:EM}{an:Ys}{aK:Nat}{c:RgC}{aE:Func}{args:List AC}{m:Mem}{n:Nat}{o:RgO}(h:Z6 P call aR an aK c aE args m n=some o):pD P call aR an aK c aE args m n o:=by
 unfold Z6 at h;simp only[AD,AA] at h;obtain⟨⟨ae,X,g1⟩,O,⟨bb,x,bt,ka,aM,aT,hd⟩,C,aJ,e,h⟩:=h;simp only at h C e;split at h
 .rename_i aD ah aw h4;split at h
  .rename_i y zx bx aF h5 h6 h7;simp only[AA] at h;obtain⟨ps,h8,⟨L,g3⟩,h9,⟨aN,aP,g4⟩,b,h⟩:=h;simp only at h b;split at h
   .rename_i k;simp only[AB] at k;obtain⟨⟨⟨⟨⟨⟨⟨⟨⟨⟨⟨q,K⟩,N⟩,Y⟩,d5⟩,d6⟩,d7⟩,d8⟩,d9⟩,s⟩,E⟩,H⟩:=k;cases h;have ba:=yI q;subst ba;exact⟨O,⟨bb,ka,C⟩,⟨h6,h7,K,N,e,h4,h8,Y,d5,by simpa using d6⟩,h9,b,d7,by simpa using d8,d9,by simpa using s,Aa E,by simpa using H⟩
   .cases h
  .cases h
 .cases h
theorem Tf {aA J:Tab}{ar n:Nat}(h:∀x,x < n->J x=aA x):∀{k:List (Nat × Ex)} {R:Nat},R<=n->Dc [] 0 ar R k=true->(∀p∈k,aA p.1=p.2.eval aA)->∀p∈k,J p.1=p.2.eval J
 |[],_,_,_,_,p,b=>by cases b
 |(x,e)::r,R,ht,ac,he,p,b=>by
  simp only[Dc,AB] at ac;have E:=yI ac.1.1;cases b with
  |head=>
   have O:=he (x,e) (AN ..);simp only at O⊢;rw[h x (by omega),O];refine U7 fun y C=>?_;rcases Ft ac.1.2 y C with q|q
   .cases q
   .exact (h y (by omega)).symm
  |tail _ b=>exact Tf h (R:=x) (by omega) ac.2 (fun q s=>he q (AK _ s)) p b
section
variable {P:Program}{f:FuncId}{t:Bf}{bc:FuncId->Option CM}{Bp:FuncId->EM}{aK am:Nat}{c:RgC}{aE:Func}{o:RgO}{ag:List Rf}{a8 a7:List Pr}{F:List U->List (List U)}
theorem me (hm:P.follows .mixedOrders=true)(e5:∀f c,bc f=some c->∀T,∀an k args ae m g c' af ao,k=f->ES P T.lp an->c an k args ae m g=some (c',af,ao)->Bo g ao/\(Agr T ao->CB T ao->pcv T ae->Ch T g ae->∀ W w Y,BR T g.n W m w args Y->BX T g.n W m w->
   (∃aE,P.funcs[k]? =some aE/\aE.body.isSome=true/\(aE.name== "runtime.NumGoroutine")=false)/\Calls P k (Y:List Value).toArray w (H3 T g W m w c' af ao)))
  (hc:c.Ok P) (dj:P.funcs[f]? =some aE) (di:aE.body=some c.code) (f3:(aE.name== "runtime.NumGoroutine")=false)
  (S:pD P (GN P bc Bp aK am) (Bp f) { Ys.none with mu:=(Bp f).mu } aK c aE t.args t.m t.n o)
  (gn:ag.length=t.outs.length) (fs:Il [] t.n t.m'.length ag t.m' o.m0 t.m' o.m0=some a8) (f0:Pk t.n t.m'.length ag t.m' o.m0 t.c o.c0=some a7) (f5:∀id,id < t.m.length->t.m'.at id≠ .pad)
  (c6:∀(T:Tab) (us:List U),us.length=t.n->Py t.ks us->(∀p∈t.pre,p.2 us)->(∀j u,us[j]? =some u->T j=u)->(∀p∈o.g1.eqs,T p.1=p.2.eval T)->CB T o.g1/\
   (pcv T o.pc->
    (∀(M:List Nat) (i:Nat) (r:List U) (a1:List (List U)),(T o.x).toL.length<=BT->M.Nodup->(∀j∈M,j < (T o.x).toL.length)->i ∉ M->(T o.x).toL[i]? =some r->a1=(M.map fun j=>(T o.x).toL.getD j []).flatMap F->T o.g1.n= .list a1->
     (∀j u,(r.drop o.kks.length)[j]? =some u->T (o.g1.n+1+j)=u)->(∀q∈o.g2.eqs,T q.1=q.2.eval T)->(∀q∈o.g2.obs,q.holds T)/\(pcv T o.pc2->(∀q∈o.ps,q.holds T)/\T o.zx= .list (a1++F r)))/\
    (∀(M:List Nat),M.Perm (List.range (T o.x).toL.length)->T o.g1.n= .list ((M.map fun j=>(T o.x).toL.getD j []).flatMap F)->(∀q∈o.g4.eqs,T q.1=q.2.eval T)->CB T o.g4/\(∀p∈a8++a7,p.holds T)/\ag.map (Rf.eval T)=t.outs.map fun q=>q.2 us))):Bl P f t:=by
 refine⟨fun _=>QA,fun T us hl b6 hT c2 W w Y c3 b2=>⟨⟨aE,dj,by rw[di];rfl,f3⟩,?_⟩⟩;have bt:=Ht (Bp:=Bp) (aK:=aK) hm e5 am;have b9:∀lp,ES P lp { Ys.none with mu:=(Bp f).mu }:=fun lp T' _ s y hy=>by cases hy
 have a9:=S.ok1;unfold Oq at a9;rw[AB] at a9;have dn:∀j u,us[j]? =some u->T j=u:=fun j u hj=>hT j u (by unfold Bf.us;rw[AR (AG.1 hj).1];exact hj);have cx:Py t.ks us:=il dn c3 b2;obtain⟨ay,aG,r3⟩:=Gi o.g1.eqs T;have b1:∀x,x < t.n->Ci T o.g1.eqs x=T x:=fun x H=>(DZ (T:=T) a9.1).2.2 x (.inl H);have b0:∀p∈o.g1.eqs,Ci T o.g1.eqs p.1=p.2.eval (Ci T o.g1.eqs):=GT (fv:=[]) (nh:=0) (fun x H=>by cases H) (Ak _) a9.1;generalize Ci T o.g1.eqs=Tp at ay aG r3 b1 b0;have f2:t.n<=o.g1.n:=(DZ (T:=T) a9.1).1;have cj:∀T':Tab,(∀x,x < o.g1.n->T' x=Tp x)->(∀j u,us[j]? =some u->T' j=u)/\(∀p∈o.g1.eqs,T' p.1=p.2.eval T'):=fun T' h=>⟨fun j u hj=>by
  have:=(AG.1 hj).1;rw[h j (by omega),b1 j (by omega)];exact dn j u hj,Tf h (AE _) a9.1 b0⟩
 have d6:∀T':Tab,(∀x,x < o.g1.n->T' x=Tp x)->EA o.g1 o.pc->(pcv T' o.pc↔pcv Tp o.pc):=fun T' h hp=>by
  cases c1:o.pc with
  |none=>exact Iff.rfl
  |some x=>
   rw[c1] at hp;show T' x= .bool true↔Tp x= .bool true;rw[h x hp]
 have f7:CB Tp o.g1:=(c6 Tp us b6 cx c2 (cj Tp fun _ _=>rfl).1 b0).1;have eq:Agr Tp o.g1:=⟨b0,fun q hq=>by rw[S.lps1] at hq;cases hq⟩;have S0:Do T Tp t.n:=⟨b1,ay,aG⟩;have ds:=b2.tab S0;let T0:=Tp.atBase w.heap.size;have B0:=LB Tp w.heap.size;have cy:BX T0 t.n W t.m w:=ds.tab (B0 _);have g3:BR T0 t.n W t.m w t.args Y:=BR.tab (B0 _).eq (fun b off hh=>(B0 _).safe ds hh) _ _ (BR.tab S0.eq (fun b off hh=>S0.safe b2 hh) _ _ c3);refine (callsIn_wide (n:=0)).1 (callsIn_of_wp_marks (F:=fen none) dj di trivial ?_);have fn:=c3.length;have hR:Rel T0 t.n W ⟨Ip aE.ntmps t.args,t.m⟩ { tmps:=(Y:List Value).toArray++Array.replicate (aE.ntmps - (Y:List Value).toArray.size) undef,defers:=[] } w:=by
  have hg:=S.args;refine⟨FK.nil _ _ _ (AE _),?_,fun i c Z=>?_,cy⟩
  .simp[Ip,fn];omega
  .have fd:(Om 0 t.args .nil).get i=some c:=by
    have:(Ip aE.ntmps t.args).get i=(Om 0 t.args .nil).get i:=by simp[Ip,Bn.get,CY]
    rw[<-this];exact Z
   rcases Re _ _ _ _ _ fd with⟨j,O,C⟩|O
   .rw[AM] at O;subst O;obtain⟨u,h3,h4⟩:=g3.get C;have:((Y:List Value).toArray++Array.replicate (aE.ntmps - (Y:List Value).toArray.size) undef).getD i undef=u:=by
     have dk:i < Y.length:=(AG.1 h3).1;simp[AJ,Array.getElem?_append,dk];rw[AF dk] at h3;cases h3;rfl
    rw[this];exact h4
   .simp[Tr.get] at O
 obtain⟨hf,kA⟩:=Xz (P:=P) (T:=T0) (al:=0) (fun c=>Nb hm bt (Bp f) aK { Ys.none with mu:=(Bp f).mu } T0 0 c (b9 _)) S.parts;obtain⟨b4,kA⟩:=kA (RQ eq) trivial;refine kA (Vb f7) trivial W _ w _ _ hR cy fun dv d8 hb aO gr cs=>?_;have d0:pcv Tp o.pc:=QR.1 dv;obtain⟨ho,ka,e9⟩:=S.head;refine wpIn_seq (qo hm bt b9 hc.p e9 S.round hc.q1 hc.q2 hc.mt (T:=T0) dv (fun c' he=>by have h:=b4;rw[he] at h;exact h) (F:=F) ?_ cs ?_)
 .
  intro T' M i r a1 hS f1 f4 fr f6 hr c0 ey e0 e8;have a3:∀x,x < o.g1.n->T' x=Tp x:=fun x H=>hS.eq x H;obtain⟨O,C⟩:=cj T' a3;have H:T' o.x=Tp o.x:=a3 _ S.x;have b3:pcv T' o.pc:=(d6 T' a3 b4).2 d0;obtain⟨_,h3⟩:=c6 T' us b6 cx c2 O C;exact (h3 b3).1 M i r a1 (by rw[H];exact f1) f4 (by rw[H];exact fr) f6 (by rw[H];exact hr) (by rw[H];exact c0) ey e0 e8
 .
  intro M a1 aV ch w2 f9 c0 cu d1;show c.post.wpIn (fen none) 0 P _ ch w2;have a5:Do T0 (T0.upd o.g1.n (.list a1)) o.g1.n:=⟨fun x H=>D7 _ _ (by omega),rfl,rfl⟩;have d4:(T0.upd o.g1.n (.list a1)) o.g1.n= .list a1:=Fo _ _ _;obtain⟨u1,u2,u3⟩:=Gi o.g4.eqs (T0.upd o.g1.n (.list a1));have a6:∀x,x < o.g1.n+1->Ci (T0.upd o.g1.n (.list a1)) o.g4.eqs x=(T0.upd o.g1.n (.list a1)) x:=fun x H=>(DZ (T:=T0.upd o.g1.n (.list a1)) S.ok4).2.2 x (.inl H);have bx:∀p∈o.g4.eqs,Ci (T0.upd o.g1.n (.list a1)) o.g4.eqs p.1=p.2.eval (Ci (T0.upd o.g1.n (.list a1)) o.g4.eqs):=GT (fv:=[]) (nh:=0) (fun x H=>by cases H) (Ak _) S.ok4;have d2:(T0.upd o.g1.n (.list a1)).base=T0.base:=rfl;generalize T0.upd o.g1.n (.list a1)=Tu at cu d1 a5 d4 u1 u2 u3 a6 bx d2;generalize Ci Tu o.g4.eqs=K at u1 u2 u3 a6 bx;have eu:Do Tu K (o.g1.n+1):=⟨a6,u1,u2⟩;have a3:∀x,x < o.g1.n->K x=Tp x:=fun x H=>(a6 x (by omega)).trans (a5.eq x H);obtain⟨O,C⟩:=cj K a3;have H:K o.x=Tp o.x:=a3 _ S.x;have b3:pcv K o.pc:=(d6 K a3 b4).2 d0;obtain⟨_,h3⟩:=c6 K us b6 cx c2 O C;obtain⟨f8,ga,gp⟩:=(h3 b3).2 M (by rw[H];exact f9) (by rw[a6 _ (Nat.lt_succ_self _),d4,H];exact BI U.list c0) bx;have db:Agr K o.g4:=⟨bx,fun q hq=>by rw[S.lps4] at hq;cases hq⟩;have es:Rel K (o.g1.n+1) aV o.hd ch w2:=cu.tabB eu u3;have c9:=KM S.fin;obtain⟨_,kP⟩:=Nb hm bt (Bp f) aK { Ys.none with mu:=(Bp f).mu } K 0 c.post (b9 _) o.pc _ _ _ _ S.post;obtain⟨q1,q2,q3⟩:=kP (db.of c9) (by
   have hp:=b4;cases c1:o.pc with
   |none=>trivial
   |some x=>rw[c1] at hp;exact Nat.lt_succ_of_lt hp)
  refine q3 (f8.of c9) b3 aV ch w2 _ es fun y hy gd cc ci w3 gs b5=>?_;have bo:Do T K t.n:=⟨fun x H=>(a3 x (by omega)).trans (b1 x H),(u1.trans a5.fr).trans ay,(u2.trans a5.lp).trans aG⟩;have ev:Do T0 K t.n:=⟨fun x H=>a3 x (by omega),u1.trans a5.fr,u2.trans a5.lp⟩;have bi:BX K t.n W t.m w:=b2.tab bo;have g1:BY K t.n W t.m w d8 o.l1.mem aO:=BY.tab ev cy gr fun id L ak e' c4=>a3 _ (cs.mem.tok_lt c4);have g2:BY K o.g1.n d8 o.l1.mem aO aV o.hd.mem w2:=BY.tab (aA:=Tu) ⟨fun x H=>a6 x (by omega),u1,u2⟩ (cs.mem.tab a5) d1 fun id L ak e' c4=>a6 _ (cu.mem.tok_lt c4);have g0:BY K t.n W t.m w cc y.l.mem w3:=(g1.trans bi f2 g2).trans bi (by show t.n<=o.g1.n+1;omega) gs;have hn:o.hd.tmps.n=o.hd.tmps.n:=rfl;have e7:LeavesInM (fen none) 0 P aE ci.tmps (fun e ab=>∃v ad,e= .returned v/\BY T t.n W t.m w ad t.m' ab/\BX T (t.n+t.outs.length) ad t.m' ab/\BQ T (t.n+t.outs.length) ad t.m' ab t.c v) ci.defers .returning w3:=by
   obtain⟨ee,Ds,ei,ej,d3⟩:=b5.defers;rw[ei];have hi:K.base=w.heap.size:=u3.trans d2;refine Ow (T:=K) (n:=o.g3.n) (W := cc) (m:=y.l.mem) (B:=w.heap.size) Ds w3 ej (fun D hD=>⟨by have:=(d3 D hD).1;omega,(d3 D hD).2.1⟩) fun w4 b7=>?_;have gm:Rel K o.g3.n cc y.l { tmps:=ci.tmps,defers:=[] } w4:=⟨FK.nil _ _ _ (by rw[b7.size];exact ee),b5.size,fun i c Z=>b7.holds _ _ (b5.tmps i c Z),b7.mem b5.mem⟩;obtain⟨v,w5, ha,⟨_,rfl,e1⟩,e2,e3,e4⟩:=RD (T:=K) (I:=fun _=>True) (E:=dz P aE) (N:=o.hd.tmps.n) Yv S.fin db q1 y hy gd cc _ w4 trivial gm;have st:=(g0.after bi b7).trans bi (AV (by show t.n<=o.g1.n+1;omega) (Nb hm bt (Bp f) aK { Ys.none with mu:=(Bp f).mu } K 0 c.post (b9 _) o.pc _ _ _ _ S.post).1.n) e2;exact⟨v,e1,v, ha,rfl,eY fs f0 gn f5 (fun x H=>(bo.eq x H)) bo.fr bo.lp b6 hT ga gp bi st e3 e4⟩
  rcases UM S.fin y hy with hk|hk<;>rw[hk]<;>exact e7
end
structure ClC where
 o0:Oper
 o1:Oper
 o2:Oper
 p:Oper
 o5:Oper
 o6:Oper
 o7:Oper
 o8:Oper
 st:TypeId
 e:TypeId
 r0:Nat
 r1:Nat
 r2:Nat
 r3:Nat
def ClC.code (c:ClC):Code:= .seq (.region c.r0 [c.o0].toArray false) (.seq (.seq (.region c.r1 [c.o1,c.o2].toArray false) (.cond (.tmp 4) (.seq (.region c.r2 [c.p].toArray false) .ret) .skip)) (.seq (.region c.r3 [c.o5,c.o6,c.o7,c.o8].toArray false) .ret))
structure ClC.Ok (P:Program) (c:ClC) (f:FuncId) (fn:Func):Prop where
 look:P.funcs[f]? =some fn
 body:fn.body=some c.code
 name:(fn.name== "runtime.NumGoroutine")=false
 tm:fn.ntmps=8
 res:fn.results= #[ResultVar.tmp 2]
 o0:(∃v,c.o0.op= .assign v)/\c.o0.dst=some 2/\c.o0.guard=none
 o1:c.o1.op= .move (Operand.tmp 0)/\c.o1.dst=some 3/\c.o1.guard=none
 o2:(∃yt,c.o2.op= .binOp .eql c.st (Operand.tmp 3) (Operand.const (.slice none 0 0)) yt)/\c.o2.dst=some 4/\c.o2.guard=none
 p:c.p.op= .assign (Operand.const (.slice none 0 0))/\c.p.dst=some 2/\c.p.guard=none
 o5:c.o5.op= .buildSlice c.st 0 #[]/\c.o5.dst=some 5/\c.o5.guard=none
 o6:c.o6.op= .move (Operand.tmp 0)/\c.o6.dst=some 6/\c.o6.guard=none
 o7:c.o7.op= .call { callee:= .builtin .append,args:= #[Operand.tmp 5,Operand.tmp 6],argTypes:= #[c.st,c.st] }/\c.o7.dst=some 7/\c.o7.guard=none
 o8:c.o8.op= .assign (Operand.tmp 7)/\c.o8.dst=some 2/\c.o8.guard=none
 st:P.underlying c.st=some (.slice c.e)
def cJ (P:Program)(b:TypeId):CM:=fun _ _ args ae m g=>
 match args with
 |[x]=>(NX P #[b,b] (.cv .nilSlice) x m g).map fun r=>(r.c,r.m,(g.pushAll r.us).needAll ae r.ps)
 |_=>none
section
variable {P:Program}
theorem QV {a:Act}{w:World}{o:Oper}{x:Operand}(b:o.op= .assign x):(execOp a.eval o).run P w= .ok (.value (a.eval x)) w:=by
 simp[execOp,b]
theorem pH {c:ClC}{f:FuncId}{aE:Func}(e:c.Ok P f aE)(T:Tab)(an:Ys)(k:FuncId)(args:List AC)(ae:PC)(m:Mem)(g:G)(c':AC)(af:Mem)(ao:G)(hk:k=f)(h:cJ P c.st an k args ae m g=some (c',af,ao)):
  Bo g ao/\(Agr T ao->CB T ao->pcv T ae->Ch T g ae->∀ W w Y,BR T g.n W m w args Y->BX T g.n W m w->
   (∃aE,P.funcs[k]? =some aE/\aE.body.isSome=true/\(aE.name== "runtime.NumGoroutine")=false)/\Calls P k (Y:List Value).toArray w (H3 T g W m w c' af ao)):=by
 subst hk;unfold cJ at h;split at h
 .rename_i x;simp only[AX] at h;obtain⟨r,q,h⟩:=h;cases h;refine⟨(Bo.push _ _).trans (Bo.need _ _ _),fun hA db hp _ W w Y ds hm=>⟨⟨aE,e.look,by rw[e.body];rfl,e.name⟩,?_⟩⟩;obtain⟨v,eo,rfl,hx,rfl⟩:=ds;have bl:New T g.n r.us:=hA.need.new;have cf:=db.need hp;have cc:((g.pushAll r.us).needAll ae r.ps).n=g.n+r.us.length:=by rw[(EW _ _ _).1,Cr]
  have di:=q;unfold NX at q;simp only[AD,AA] at q;obtain⟨t,dn,q⟩:=q;have ht:t=c.st:=by simpa using dn.symm
  subst ht;split at q
  .rename_i e' el hu;have he:e'=c.e:=by rw[e.st] at hu;cases hu;rfl
   subst he;simp only[AA] at q;obtain⟨ks,ce,⟨E,aG⟩,ch,r3,h3,q⟩:=q;have dk:=HH ch hx;obtain⟨K,ek,_,_,H,N,rfl,ej,de⟩:=dk;refine (callsIn_wide (n:=0)).1 (callsIn_of_wp_marks (F:=fen none) e.look e.body trivial ?_);generalize a6:({ tmps:=_,defers:=[] }:Act)=a;have bm:a.tmps.size=8:=by rw[<-a6];simp[e.tm]
   have b7:a.eval (.tmp 0)= .slice H K.length N:=by
    rw[<-a6];show (#[Value.slice H K.length N]++_:Array Value).getD 0 undef=_;rw[AJ,Array.getElem?_append];simp
   have c2:a.defers=[]:=by rw[<-a6]
   clear a6;have cb:∀(a':Act) (ab:World) (z:Value) (ad:Nat->Option Nat),a'.tmps.size=8->a'.eval (.tmp 2)=z->a'.defers=[]->BY T g.n W m w ad r.m ab->BX T (g.n+r.us.length) ad r.m ab->BQ T (g.n+r.us.length) ad r.m ab r.c z->
     LeavesInM (fen none) 0 P aE a'.tmps (H3 T g W m w r.c r.m ((g.pushAll r.us).needAll ae r.ps)) a'.defers .returning ab:=fun a' ab z ad aJ s2 s3 s4 s5 s6=>by
    rw[s3];have dj:(results aE a'.tmps).run P ab= .ok z ab:=by
     have C:a'.tmps.getD 2 undef=z:=s2;rw[AJ] at C;simp[results,e.res,C]
    exact⟨z,dj,z, ad,rfl,s4,by rw[cc];exact s5,by rw[cc];exact s6⟩
   refine wpIn_seq (wpIn_region ?_);show wpOpsIn (fen none) 0 P [c.o0].toArray _ [0] a w;obtain⟨x0,ci⟩:=e.o0.1;refine C0 (o:=c.o0) rfl e.o0.2.2 (E9 (by rw[ci];exact fun c h=>by cases h) (QV ci) ?_);rw[e.o0.2.1];show (Code.seq _ _).wpIn (fen none) 0 P _ _ w;refine wpIn_seq (wpIn_seq (wpIn_region ?_));show wpOpsIn (fen none) 0 P [c.o1,c.o2].toArray _ [0,1] _ w;refine C0 (o:=c.o1) rfl e.o1.2.2 (E9 (by rw[e.o1.1];exact fun c h=>by cases h) (UY e.o1.1) ?_);rw[e.o1.2.1,EQ (by decide),b7];obtain⟨yt,cj⟩:=e.o2.1;refine C0 (o:=c.o2) rfl e.o2.2.2 (E9 (v:= .bool H.isNone) (ab:=w) (by rw[cj];exact fun c h=>by cases h) ?_ ?_)
   .refine OA (s:=do eqGuard .eql c.st (Operand.tmp 3) (Operand.const (.slice none 0 0)) (.slice H K.length N) (.slice none 0 0);binOp .eql c.st (.slice H K.length N) (.slice none 0 0)) ?_ ?_
    .simp only[execOp,cj];rw[EE (by rw[DU,bm];decide)];rfl
    .simp only[Ar,G7 _ c.st _ _ (a:= .slice H K.length N) (b:= .slice none 0 0) (fun _ h=>by cases h) (fun h=>by cases h),Aq];exact Lib.run_eql_slice_nil w c.st c.e H _ _ 0 0 e.st
   rw[e.o2.2.1];show (Code.cond _ _ _).wpIn (fen none) 0 P _ _ w;generalize a1:(((a.put (some 2) _).put (some 3) _).put (some 4) _:Act)=b;have a4:b.tmps.size=8:=by rw[<-a1,DU,DU,DU];exact bm
   have c3:b.eval (.tmp 0)= .slice H K.length N:=by rw[<-a1,EQ (by decide),EQ (by decide),EQ (by decide)];exact b7
   have b9:b.eval (.tmp 4)= .bool H.isNone:=by rw[<-a1,EE (by rw[DU,DU,bm];decide)]
   have ca:b.defers=[]:=by rw[<-a1];exact c2
   clear a1;cases b8:H with
   |none=>
    subst b8;have hl:K=[]:=by
     cases K with
     |nil=>rfl
     |cons y l=>obtain⟨b',o',O,_⟩:=de (by simp);cases O
    subst hl;refine wpIn_cond_true b9 (wpIn_seq (wpIn_region ?_));show wpOpsIn (fen none) 0 P [c.p].toArray _ [0] b w;refine C0 (o:=c.p) rfl e.p.2.2 (E9 (by rw[e.p.1];exact fun c h=>by cases h) (QV e.p.1) ?_);rw[e.p.2.1];refine wpIn_ret ?_;obtain⟨z',ab, ad,q1,q2,q3,q4⟩:=Tb (v:= .slice none 0 0) di bl cf hm rfl hx (au:=0);obtain⟨i,z,l,Z,_⟩:=MY ce;have hz:z'= .slice none 0 0/\ab=w:=by
     have h0:=Ei (P:=P) (w:=w) (au:=0) e.st Z none none 0 0 N (AE _);rw[show ([]:List (List U)).length=0 from rfl] at q1;rw[h0] at q1;cases q1;exact⟨rfl,rfl⟩
    obtain⟨rfl,rfl⟩:=hz;exact cb _ _ _ ad (by rw[DU];exact a4) (EE (by rw[a4];decide)) ca q2 q3 q4
   |some b4=>
    subst b8;refine wpIn_cond_false b9 (wpIn_skip ?_);show (Code.seq _ _).wpIn (fen none) 0 P _ b w;refine wpIn_seq (wpIn_region ?_);show wpOpsIn (fen none) 0 P [c.o5,c.o6,c.o7,c.o8].toArray _ [0,1,2,3] b w;have c5:J8 P c.st 0 (#[]:Array (Nat × Operand)).size m g=some (Js ks c.e m g):=by
     simp[J8,hu,ce]
    cases q;have c9:New T g.n (Js ks c.e m g).us:=fun j u hj=>bl j u (by rw[AR (AG.1 hj).1];exact hj);obtain⟨z5,w5, ee,q1,q2,q3,q4⟩:=Rc (T:=T) (W := W) (w:=w) (a:=b) (o:=c.o5) c5 c9 hm e.o5.1;refine C0 (o:=c.o5) rfl e.o5.2.2 (ng (by rw[e.o5.1];exact fun c h=>by cases h) ⟨z5,w5, ee,q1,q2,q3,q4⟩ fun v5 w6 cu aJ s2 s3=>?_);rw[e.o5.2.1];refine C0 (o:=c.o6) rfl e.o6.2.2 (E9 (by rw[e.o6.1];exact fun c h=>by cases h) (UY e.o6.1) ?_);rw[e.o6.2.1,EQ (by decide),c3];have dv:BQ T (g.n+2) cu (m++[.mrow g.n (g.n+1) ks c.e]) w6 x (.slice (some b4) K.length N):=BQ.mono aJ hm (by omega) _ _ hx;obtain⟨z',ab, ad,t1,t2,t3,t4⟩:=VA (g:={ g with n:=g.n+2 }) (T:=T) (W := cu) (w:=w6) h3 (fun j u hj=>by
     have:=bl (j+2) u (by simpa [Js] using hj);rwa [show g.n+(j+2)=g.n+2+j by omega] at this) cf s2 s3 (Jo (HH ch dv)) c.o7.type
    have en:g.n+((Js ks c.e m g).us++r3.us).length=g.n+2+r3.us.length:=by simp[Js];omega
    generalize a3:((b.put (some 5) v5).put (some 6) _:Act)=b2;have bi:b2.tmps.size=8:=by rw[<-a3,DU,DU];exact a4
    have h5:b2.eval (.tmp 5)=v5:=by rw[<-a3,EQ (by decide),EE (by rw[a4];decide)]
    have h6:b2.eval (.tmp 6)= .slice (some b4) K.length N:=by rw[<-a3,EE (by rw[DU,a4];decide)]
    have c4:b2.defers=[]:=by rw[<-a3];exact ca
    clear a3;refine C0 (o:=c.o7) rfl e.o7.2.2 (E9 (v:=z') (ab:=ab) (by rw[e.o7.1];exact fun c h=>by cases h) ?_ ?_)
    .rw[Ld e.o7.1];simp only[List.map_toArray,AT,An,h5,h6];simp[builtin,t1]
    rw[e.o7.2.1];refine C0 (o:=c.o8) rfl e.o8.2.2 (E9 (by rw[e.o8.1];exact fun c h=>by cases h) (QV e.o8.1) ?_);rw[e.o8.2.1,EE (by rw[bi];decide)];show (Code.ret).wpIn (fen none) 0 P _ _ ab;refine wpIn_ret ?_;exact cb _ _ _ ad (by rw[DU,DU];exact bi) (EE (by rw[DU,bi];decide)) c4 (aJ.trans hm (show g.n<=g.n+2 by omega) t2) (by
     show BX T (g.n+((Js ks c.e m g).us++r3.us).length) ad r3.m ab;rw[en];exact t3) (by
     show BQ T (g.n+((Js ks c.e m g).us++r3.us).length) ad r3.m ab r3.c z';rw[en];exact t4)
  .cases q
 .cases h
end
def PT:List (FuncId × TypeId)->FuncId->Option TypeId
 |[],_=>none
 |(f,st)::r,g=>bif Nat.beq f g then some st else PT r g
def XB (P:Program)(a2:List (FuncId × TypeId))(l:List (FuncId × Bf)):FuncId->Option CM:=fun f=>match PT a2 f with
 |some b=>some (cJ P b)
 |none=>Mr l f
def Nk (P:Program)(a2:List (FuncId × TypeId)):Prop:=∀p∈a2,∃c aE,ClC.Ok P c p.1 aE/\c.st=p.2
theorem Tq:∀{a2:List (FuncId × TypeId)} {f:FuncId} {e:TypeId},PT a2 f=some e->(f,e)∈a2
 |[],_,_,h=>by cases h
 |(g,s)::r,f,e,h=>by
  simp only[PT] at h;cases b:Nat.beq g f with
  |true=>
   rw[b] at h;cases h;rw[yI b];exact AN ..
  |false=>rw[b] at h;exact AK _ (Tq h)
variable{P:Program}{a2:List (FuncId × TypeId)}{l:List (FuncId × Bf)}{t:Bf}{T:Tab}{W:Nat->Option Nat}{w ab:World}
theorem Xm (E:Nk P a2)(H:∀p∈l,Bl P p.1 p.2):∀f c,XB P a2 l f=some c->∀T,∀an k args ae m g b af ao,k=f->ES P T.lp an->c an k args ae m g=some (b,af,ao)->Bo g ao/\(Agr T ao->CB T ao->pcv T ae->Ch T g ae->∀ W w Y,BR T g.n W m w args Y->BX T g.n W m w->
   (∃aE,P.funcs[k]? =some aE/\aE.body.isSome=true/\(aE.name== "runtime.NumGoroutine")=false)/\Calls P k (Y:List Value).toArray w (H3 T g W m w b af ao)):=by
 intro f c h T an k args ae m g b af ao q K s;unfold XB at h;cases e:PT a2 f with
 |some N=>
  rw[e] at h;cases h;obtain⟨aN,aE,C,y⟩:=E _ (Tq e);simp only at y;subst y;exact pH C T an k args ae m g b af ao q s
 |none=>
  rw[e] at h;exact Nx H f c h T an k args ae m g b af ao q K s
def Bf.runC (P:Program)(a2:List (FuncId × TypeId))(l:List (FuncId × Bf))(Bp:FuncId->EM)(aK am:Nat)(f:FuncId)(t:Bf):Option (AC × Mem × G):=
 GN P (XB P a2 l) Bp aK am Ys.none f t.args none t.m { n:=t.n,eqs:=[],obs:=[] }
theorem GX {f:FuncId}(b:Nk P a2)(h:P.follows .mixedOrders=true)(e:∀p∈l,Bl P p.1 p.2){Bp:FuncId->EM}{aK am:Nat}{ag:List Rf}{az:List En}{os:List ObE}
  (s:t.sees ag (t.runC P a2 l Bp aK am f)=some (az.map En.be,os.map ObE.be,[])) (k:M9 t=true)
  (q:∀(T:Tab) (us:List U),(∀p∈t.pre,p.2 us)->(∀j u,us[j]? =some u->T j=u)->us.length=t.n->Ba T (CA 0 t.ks)->Bnd T 0 t.ks->Bi T (az.map En.be)->J6 T os/\ag.map (Rf.eval T)=t.outs.map fun o=>o.2 us):Bl P f t:=
 RG (fun T=>Ht h (Xm b e) am T) s k q
theorem BY.below {n:Nat}(h:Below w.heap.size w ab):BY T n W [] w W [] ab where
 os:=h.os
 tape:=h.tape
 output:=h.output
 size:=h.size
 mlen:=fun _ h=>h
 rho:=fun id h=>by simp[Mem.at,Blk.ptrOk] at h
 untr:=fun _ _ h=>h
 fresh:=fun id b _ h _=>by simp[Mem.at,Blk.tracked] at h
 old:=fun k q _=>h.block k q
 tok:=fun id x ks e h=>by simp[Mem.at] at h
 row:=fun id x y ks e h=>by simp[Mem.at] at h
theorem BX.below {n ap:Nat}{ad:Nat->Option Nat}(k:BX T n W [] w)(h:Below w.heap.size w ab):BX T ap ad [] ab where
 blk:=fun id=>by simp[Mem.at,Cj]
 inj:=fun id q b h=>by simp[Mem.at,Blk.tracked] at h
 fr:=fun b off e=>k.fr b off (AV h.size e)
theorem WF {f:FuncId}(H:t.blks=[])(O:t.m'=[])(N:∃aE,P.funcs[f]? =some aE/\aE.body.isSome=true/\(aE.name== "runtime.NumGoroutine")=false)
  (h:∀(T:Tab) (us:List U),us.length=t.n->(∀j u,(t.us us)[j]? =some u->T j=u)->(∀p∈t.pre,p.2 us)->∀ W w Y,BR T t.n W [] w t.args Y->
   Calls P f (Y:List Value).toArray w fun e ab=>∃v,e= .returned v/\Below w.heap.size w ab/\BQ T (t.n+t.outs.length) W [] ab t.c v) (hr:t.row=none:=by rfl):Bl P f t:=by
 refine⟨fun _=>⟨⟨0,[],.nil⟩, #[],.skip,.skip,[]⟩,fun T us _ K E hp W w Y q k=>⟨N,?_⟩⟩;have C:t.m=[]:=by unfold Bf.m;rw[hr,H];rfl
 rw[C] at q k⊢;rw[O];exact (h T us K E hp W w Y q).mono fun e ab ⟨v,s,b,y⟩=>⟨v, W,s,BY.below b,k.below b,y⟩
end
section
open Go
theorem Yg {P:Program}{f:FuncId}{t s:Bf}{ar Z:Int}{x:Nat}(h:Bl P f t)(hc:t.c= .i .i64 ar Z x)(C:s.args=t.args)(y:s.m=t.m)(K:s.m'=t.m')(H:s.n=t.n)(e5:∀us,s.us us=t.us us)
  (e6:s.outs.length=t.outs.length) (e7:s.c= .ci .i64 0)
  (hx:∀us:List U,us.length=t.n->(∀q∈s.pre,q.2 us)->(t.us us)[x]? =some (.int 0)/\∀q∈t.pre,q.2 us):Bl P f s:=by
 obtain⟨lp,h⟩:=h;refine⟨lp,fun T us hl O N hp W w Y ha hm=>?_⟩;rw[H] at O;rw[H,y,C] at ha;rw[H,y] at hm;rw[e5] at N;obtain⟨h0,bb⟩:=hx us O hp;obtain⟨a,b⟩:=h T us hl O N bb W w Y ha hm;refine⟨a,b.mono fun e ab k=>?_⟩;rw[H,y,K,e6,e7];obtain⟨v, ad,k1,E,k3,k4⟩:=k;refine⟨v, ad,k1,E,k3,?_⟩;rw[hc] at k4;obtain⟨_,i,C,y,_,_⟩:=k4;have K:T x= .int 0:=N x _ h0;rw[K] at C;cases C;exact y
end
section
open Go Go.RowKit
abbrev RgV:=(PC × Nat × Nat × Nat) × (PC × Nat) × (List BE × List BO) × (List BE × List BO) × (List BE × List BO) × List BP
def cp (t:Bf)(ag:List Rf)(o:RgO):Option RgV:=
 if Nat.beq ag.length t.outs.length&&Nat.ble t.m.length t.m'.length then do
  let a8<-Il [] t.n t.m'.length ag t.m' o.m0 t.m' o.m0;let a7<-Pk t.n t.m'.length ag t.m' o.m0 t.c o.c0
  some ((o.pc,o.g1.n,o.x,o.kks.length),(o.pc2,o.zx),(Gf o.g1.eqs.reverse,Lc o.g1.obs),(Gf o.g2.eqs.reverse,Lc (o.ps.map (Ob.mk o.pc2)++o.g2.obs)),(Gf o.g4.eqs.reverse,Lc o.g4.obs),ju (a8++a7))
 else none
theorem fI {P:Program}{f:FuncId}{t:Bf}{a2:List (FuncId × TypeId)}(cj:Nk P a2)(hm:P.follows .mixedOrders=true){l:List (FuncId × Bf)}(hl:∀p∈l,Bl P p.1 p.2){Bp:FuncId->EM}{aK am:Nat}{c:RgC}{aE:Func}
  (hc:c.Ok P) (cs:P.funcs[f]? =some aE) (ch:aE.body=some c.code) (c3:(aE.name== "runtime.NumGoroutine")=false) {ag:List Rf} {ae aD:PC} {av x K zx:Nat} {a0 a1 a3:List En} {bs bt bx:List ObE}
  (bo:(Z6 P (GN P (XB P a2 l) Bp aK am) (Bp f) { Ys.none with mu:=(Bp f).mu } aK c aE t.args t.m t.n).bind (cp t ag)=some ((ae,av,x,K),(aD,zx),(a0.map En.be,bs.map ObE.be),(a1.map En.be,bt.map ObE.be),(a3.map En.be,bx.map ObE.be),[])) (c4:M9 t=true)
  {F:List U->List (List U)}
  (dk:∀(T:Tab) (us:List U),(∀p∈t.pre,p.2 us)->(∀j u,us[j]? =some u->T j=u)->us.length=t.n->Ba T (CA 0 t.ks)->Bnd T 0 t.ks->Bi T (a0.map En.be)->J6 T bs/\(pcv T ae->
   (∀(M:List Nat) (i:Nat) (r:List U) (s:List (List U)),(T x).toL.length<=BT->M.Nodup->(∀j∈M,j < (T x).toL.length)->i ∉ M->(T x).toL[i]? =some r->s=(M.map fun j=>(T x).toL.getD j []).flatMap F->T av= .list s->
    (∀j u,(r.drop K)[j]? =some u->T (av+1+j)=u)->Bi T (a1.map En.be)->J6 T bt/\T zx= .list (s++F r))/\
   (∀(M:List Nat),M.Perm (List.range (T x).toL.length)->T av= .list ((M.map fun j=>(T x).toL.getD j []).flatMap F)->Bi T (a3.map En.be)->J6 T bx/\ag.map (Rf.eval T)=t.outs.map fun q=>q.2 us))):Bl P f t:=by
 simp only[AA] at bo;obtain⟨o,c6,b⟩:=bo;have S:=lz c6;unfold cp at b;split at b
 .rename_i bb;rw[AB] at bb;simp only[AD,AA] at b;obtain⟨a8,c1,a7,c2,b⟩:=b;simp only[Ax,Prod.mk.injEq] at b;obtain⟨⟨e1,e2,e3,e4⟩,⟨e5,e6⟩,⟨e7,e8⟩,⟨e9,b2⟩,⟨b3,b4⟩,b5⟩:=b;have toB:∀(T:Tab) (H:List (Nat × Ex)),(∀p∈H,T p.1=p.2.eval T)->Bi T (Gf H.reverse):=fun T H h=>NA fun p y=>h p (List.mem_reverse.1 y);refine me (F:=F) hm (Xm cj hl) hc cs ch c3 S (yI bb.1) c1 c2 (fun id cu e=>?_) fun T us bm cv c5 bi cl=>?_
  .have:=Ae.1 c4 id (List.mem_range.2 cu);rw[e] at this;cases this
  .obtain⟨i1,i2⟩:=SU (x:=0) (Mm bm cv) fun j u hj=>by rw[AM];exact bi j u hj
   have a6:=toB T _ cl;rw[e7] at a6;obtain⟨O,C⟩:=dk T us c5 bi bm i1 i2 a6;have a5:=JY O;rw[<-e8] at a5;refine⟨Jb a5,fun bl=>?_⟩;rw[e1] at bl;obtain⟨h3,h4⟩:=C bl;rw[e2,e3,e4,e5,e6];refine⟨fun M i r s k1 E k3 k4 k5 k6 k7 k8 k9=>?_,fun M k1 E k3=>?_⟩
   .have a9:=toB T _ k9;rw[e9] at a9;obtain⟨N,aw⟩:=h3 M i r s k1 E k3 k4 k5 k6 k7 k8 a9;have k:=JY N;rw[<-b2] at k;have g3:=Jb k;exact⟨fun q Y=>g3 q (AO _ Y),fun y=>⟨fun q Y=>g3 (Ob.mk o.pc2 q) (AU _ (BL.2 ⟨q,Y,rfl⟩)) (by rw[<-e5] at y;exact y),aw⟩⟩
   .have ba:=toB T _ k3;rw[b3] at ba;obtain⟨N,aw⟩:=h4 M k1 E ba;have k:=JY N;rw[<-b4] at k;exact⟨Jb k,TK (by rw[b5];trivial),aw⟩
 .cases b
end
section
open Go
variable{P:Program}{t:Bf}{ar Z:Int}{x:Nat}{T aA:Tab}{W:Nat->Option Nat}{w:World}{v:Value}{V:List U}{ag:List Rf}{p:PO}
theorem eQ {f:FuncId}{s:Bf}{a1 ao:Int}(h:Bl P f t)(hc:t.c= .i .i64 ar Z x)(e1:s.args=t.args)(H:s.m=t.m)(e3:s.m'=t.m')(C:s.n=t.n)(e5:∀us,s.us us=t.us us)
  (e6:s.outs.length=t.outs.length) (e7:s.c= .i .i64 a1 ao x)
  (hx:∀us:List U,us.length=t.n->(∀q∈s.pre,q.2 us)->(∃i,(t.us us)[x]? =some (.int i)/\a1<=i/\i<=ao)/\∀q∈t.pre,q.2 us):Bl P f s:=by
 obtain⟨lp,h⟩:=h;refine⟨lp,fun T us hl N K hp W w Y O hm=>?_⟩;rw[C] at N;rw[C,H,e1] at O;rw[C,H] at hm;rw[e5] at K;obtain⟨⟨y,h0,bs,bm⟩,bx⟩:=hx us N hp;obtain⟨a,b⟩:=h T us hl N K bx W w Y O hm;refine⟨a,b.mono fun e ab k=>?_⟩;rw[C,H,e3,e6,e7];obtain⟨v, ad,k1,E,k3,k4⟩:=k;refine⟨v, ad,k1,E,k3,?_⟩;rw[hc] at k4;obtain⟨z0,i,z1,z2,_,_⟩:=k4;have z3:T x= .int y:=K x _ h0;rw[z3] at z1;cases z1;exact⟨z0,y,z3,z2,bs,bm⟩
theorem aO (e:aA.fr=T.fr)(b off:Nat)(h:Bt T W [] w b off):Bt aA W [] w b off:=⟨h.1,by rw[e];exact h.2.1,fun _=>trivial⟩
theorem ii {n k:Nat}(q:aA.fr=T.fr)(h:BX T n W [] w):BX aA k W [] w:=⟨fun _=>trivial,h.inj,fun b off e=>by rw[q];exact h.fr b off e⟩
structure Case (P:Program) (f:FuncId) (t t1:Bf) (us:List U):Prop where
 ok:Bl P f t1
 pre:∀p∈t1.pre,p.2 us
 args:t1.args=t.args
 n:t1.n=t.n
 m:t1.m=[]
 m':t1.m'=[]
 c:∀(T T1:Tab) ρ w v,T1.fr=T.fr->(∀j u,(t.us us)[j]? =some u->T j=u)->(∀j u,(t1.us us)[j]? =some u->T1 j=u)->BQ T1 (t1.n+t1.outs.length) ρ [] w t1.c v->BQ T (t.n+t.outs.length) ρ [] w t.c v
theorem WL {f:FuncId}(ao:t.m=[])(a5:t.m'=[])(ba:Nat->DP)(h:∀us:List U,us.length=t.n->(∀p∈t.pre,p.2 us)->∃q,Case P f t q us):Bl P f t:=by
 refine⟨ba,fun T us hl hu H hp W w Y K N=>?_⟩;obtain⟨q,C⟩:=h us hu hp;obtain⟨bb,O⟩:=C.ok;let aA:Tab:=⟨fun j=>(q.us us).getD j default,T.fr,bb,T.base⟩;have s:∀j u,(q.us us)[j]? =some u->aA j=u:=fun j u hj=>by show (q.us us).getD j default=u;simp[List.getD,hj]
 have a4:∀x,x < t.n->aA x=T x:=fun x hx=>by
  have e:us[x]? =some us[x]:=AF (by omega);rw[s x us[x] (by unfold Bf.us;rw[AR (by omega)];exact e),H x us[x] (by unfold Bf.us;rw[AR (by omega)];exact e)]
 rw[ao] at K N;obtain⟨a,b⟩:=O aA us rfl (by rw[C.n];exact hu) s C.pre W w Y (by rw[C.n,C.m,C.args];exact BR.tab a4 (aO (T:=T) (aA:=aA) rfl) _ _ K) (by rw[C.n,C.m];exact ii (T:=T) (aA:=aA) rfl N);refine⟨a,b.mono fun e ab k=>?_⟩;obtain⟨v, ad,k1,E,k3,k4⟩:=k;rw[C.m,C.m'] at E;rw[C.m'] at k3 k4;rw[ao,a5];exact⟨v, ad,k1,⟨E.os,E.tape,E.output,E.size,E.mlen,E.rho,E.untr,E.fresh,E.old,(fun id x ks e h=>by cases h),(fun id x y ks e h=>by cases h)⟩,ii (T:=aA) (aA:=T) rfl k3,C.c T aA ad ab v rfl H s k4⟩
theorem S9 {n av y z:Nat}{ks:List Kd}(E:x < n)(H:z < n)(C:T x= .list [])(b:T z=aA y)
  (h:BQ aA av W [] w (.tup [.cv .nilSlice,.i .i64 ar Z y]) v):BQ T n W [] w (.tup [.ro x ks,.i .i64 ar Z z]) v:=by
 obtain⟨_,rfl,u,us,rfl,e,u2,K,rfl,⟨_,i,k,q⟩,s⟩:=h;refine⟨_,rfl,u,_,rfl,⟨E,?_⟩,u2,_,rfl,⟨H,i,by rw[b];exact k,q⟩,s⟩;rw[C];exact⟨[],rfl,Ak _,fun _=>rfl,none,0,e,AE _,fun h=>by cases h⟩
theorem dP {n:Nat}{c:AC}(b:aA.fr=T.fr)(h:∀x,x < n->T x=aA x)(e:BQ aA n W [] w c v):BQ T n W [] w c v:=
 BQ.tab h (aO b.symm) _ _ e
def XQ (V:List U):Tab:=⟨fun x=>V.getD x default,fun _ _=>True,fun _=>QA,0⟩
def rfC (n:Nat):Rf->Bool
 | .c _=>true
 | .e x| .n x=>Nat.blt x n
def evC:List U->List BE->Option (List U)
 |V,[]=>some V
 |V,(x,f,aU)::r=>bif Nat.beq x V.length&&aU.all (rfC V.length) then evC (V++[f (aU.map (Rf.eval (XQ V)))]) r else none
abbrev ObT:=List (String × PO × (List U->Bool))
def ObT.find:ObT->Tg->Option (PO × (List U->Bool))
 |(s,p)::r,.s t=>bif s==t then some p else ObT.find r (.s t)
 |_,_=>none
def cg (r:Option (AC × Mem × G)):List BE:=match r with|some (_,_,g)=>Gf g.eqs.reverse|none=>[]
def bG (b:ObT)(r:Option (AC × Mem × G)):List (ObE × (List U->Bool)):=match r with
 |some (_,_,g)=>g.obs.map fun o=>match b.find o.p.tag with|some (po,c)=>(⟨o.pc,po,o.p.args⟩,c)|none=>(⟨o.pc,.t,o.p.args⟩,fun _=>false)
 |none=>[]
def pcC (V:List U):PC->Bool
 |none=>true
 |some c=> !Nat.blt c V.length||(V.getD c default).toB
def mj (V:List U)(o:ObE × (List U->Bool)):Bool:= !pcC V o.1.pc||(o.1.rs.all (rfC V.length)&&o.2 (o.1.rs.map (Rf.eval (XQ V))))
theorem uF (h:∀j u,V[j]? =some u->T j=u){r:Rf}(k:rfC V.length r=true):Rf.eval (XQ V) r=Rf.eval T r:=by
 have g:∀x,Nat.blt x V.length=true->V.getD x default=T x:=fun x b=>by
  have b:=Aa b;rw[h x V[x] (AF b)];simp[List.getD,AF b]
 cases r with
 |c u=>rfl
 |e x=>exact g x k
 |n x=>exact BI (fun z:U=>U.bool (!z.toB)) (g x k)
theorem R3 (h:∀j u,V[j]? =some u->T j=u)(e:ag.all (rfC V.length)=true):ag.map (Rf.eval (XQ V))=ag.map (Rf.eval T):=
 List.map_congr_left fun r b=>uF h (Ae.1 e r b)
theorem oC {T:Tab}:∀{az:List BE} {V q:List U},evC V az=some q->(∀j u,V[j]? =some u->T j=u)->Bi T az->∀j u,q[j]? =some u->T j=u
 |[],V,q,h,hV,_=>by cases h;exact hV
 |(x,f,aU)::r,V,q,h,hV,hE=>by
  unfold evC at h;cases k:(Nat.beq x V.length&&aU.all (rfC V.length)) with
  |false=>rw[k] at h;cases h
  |true=>
   rw[k] at h;rw[AB] at k;have y:=yI k.1;refine oC h (fun j u b=>?_) hE.2;rw[R3 hV k.2] at b;rcases AQ j V.length with s|s
   .rw[AR s] at b;exact hV j u b
   .rw[AS s] at b;have e:j - V.length=0:=by
     rcases yN (j - V.length) with e|e
     .exact e
     .rw[Ai (show [_].length<=_ from e)] at b;cases b
    rw[e] at b;cases b;have:j=x:=by omega
    rw[this];exact hE.1
theorem ul (h:∀j u,V[j]? =some u->T j=u){o:ObE × (List U->Bool)}(ac:∀us,o.2 us=true->poF o.1.po us)(hd:mj V o=true)(k:pcv T o.1.pc):poF o.1.po (o.1.rs.map (Rf.eval T)):=by
 unfold mj at hd;have q:pcC V o.1.pc=true:=by
  cases s:o.1.pc with
  |none=>rfl
  |some c=>
   rw[s] at k;show (!Nat.blt c V.length||(V.getD c default).toB)=true;cases b:Nat.blt c V.length with
   |false=>rfl
   |true=>
    have b:=Aa b;have:=h c V[c] (AF b);have e:V.getD c default=T c:=by rw[this];simp[List.getD,AF b]
    rw[e,show T c= .bool true from k];rfl
 rw[q] at hd;simp only[Bool.not_true,Bool.false_or,AB] at hd;rw[<-R3 h hd.1];exact ac _ hd.2
theorem eR {T:Tab}:∀{l:List ObE},(∀o∈l,pcv T o.pc->poF o.po (o.rs.map (Rf.eval T)))->Ux T (l.map ObE.be)
 |[],_=>trivial
 |o::_,h=>⟨h o (AN ..),eR fun e b=>h e (AK _ b)⟩
theorem wE {b:ObT}(ac:∀e∈b,∀us,e.2.2 us=true->poF e.2.1 us):∀{tg:Tg} {p:PO × (List U->Bool)},b.find tg=some p->∀us,p.2 us=true->poF p.1 us:=by
 induction b with
 |nil=>intro tg p h;cases tg<;>simp[ObT.find] at h
 |cons e r C=>
  intro tg p h;cases tg with
  |s t=>
   obtain⟨s,q⟩:=e;simp only[ObT.find] at h;cases k:(s==t) with
   |true=>rw[k] at h;cases h;exact ac _ (AN ..)
   |false=>rw[k] at h;exact C (fun e y=>ac e (AK _ y)) h
  |loop=>simp[ObT.find] at h
theorem fK {f:FuncId}{E:CM}(a1:∀T,Dj P T E)(k:ObT)(H V:List U){run:Option (AC × Mem × G)}(bx:run=E Ys.none f t.args none t.m { n:=t.n,eqs:=[],obs:=[] })
  (ac:∀e∈k,∀us,e.2.2 us=true->poF e.2.1 us)
  (b:t.sees ag run=some (cg run,((bG k run).map (·.1)).map ObE.be,[])) (bb:M9 t=true)
  (b2:∀(T:Tab) (us:List U),(∀p∈t.pre,p.2 us)->(∀j u,us[j]? =some u->T j=u)->us.length=t.n->Ba T (CA 0 t.ks)->us=H)
  (a4:evC H (cg run)=some V) (bl:(bG k run).all (mj V)=true) (b0:ag.all (rfC V.length)=true) (bo:ag.map (Rf.eval (XQ V))=t.outs.map fun o=>o.2 H):Bl P f t:=by
 subst bx;unfold Bf.sees at b;split at b
 .rename_i aN aP g0 O;split at b
  .rename_i ps bm;injection b with b
   injection b with e1 b
   injection b with e2 e3
   refine iY a1 O bm (fun id a6 e=>?_) fun T us Y a9 bt s a3=>?_
   .have:=Ae.1 bb id (List.mem_range.2 a6);grind
   .have N:Bi T (Gf g0.eqs.reverse):=NA fun p hp=>a3 p (List.mem_reverse.1 hp);rw[e1] at N;obtain⟨i1,i2⟩:=SU (x:=0) (Mm Y a9) fun j u hj=>by rw[AM];exact s j u hj
    have hu:=b2 T us bt s Y i1;subst hu;have K:=oC a4 s N;have C:Ux T (((bG k (E Ys.none f t.args none t.m { n:=t.n,eqs:=[],obs:=[] })).map (·.1)).map ObE.be):=eR fun o ho=>by
     obtain⟨q,y,rfl⟩:=BL.1 ho;refine ul K ?_ (Ae.1 bl q y);rw[O] at y;obtain⟨o,_,rfl⟩:=BL.1 y;cases hf:k.find o.p.tag with
     |some p=>exact wE ac hf
     |none=>intro us h;cases h
    rw[<-e2] at C;exact⟨Jb C,TK (by rw[e3];trivial),by rw[<-R3 K b0,bo]⟩
  .cases b
 .cases b
def ck:PO->List U->Bool
 | .inr,us=>decide (0<=(u0 us).toI)&&decide ((u0 us).toI < (u1 us).toI)
 | .inl,us=>decide (0<=(u0 us).toI)&&decide ((u0 us).toI < (u1 us).toL.length)
 | .btw ar Z,us=>decide (ar<=(u0 us).toI)&&decide ((u0 us).toI<=Z)
 | .fits b,us=>Nat.ble (((u0 us).toL.length+(u1 us).toL.length)*b) 140737488355328
 |_,_=>false
theorem yC {us:List U}(h:ck p us=true):poF p us:=by
 cases p with
 |inr=>simp only[ck,AB,decide_eq_true_eq] at h;exact h
 |inl=>simp only[ck,AB,decide_eq_true_eq] at h;exact h
 |btw ar Z=>simp only[ck,AB,decide_eq_true_eq] at h;exact h
 |fits b=>exact Aa h
 |_=>cases h
def ob (s:String)(p:PO):String × PO × (List U->Bool):=(s,p,ck p)
theorem OQ {s:String}(us:List U)(h:(ob s p).2.2 us=true):poF (ob s p).2.1 us:=yC h
end
end Go.Eng
end
noncomputable section
namespace Go.Eng
abbrev ABE(x a b:Nat):En:=⟨x,.and,[.e a,.e b]⟩
abbrev ABF(x a b:Nat):En:=⟨x,.and,[.e a,.n b]⟩
abbrev ABG(x a b:Nat):En:=⟨x,.or,[.e a,.e b]⟩
abbrev ABH(x a b:Nat):En:=⟨x,.lt,[.e a,.e b]⟩
abbrev ABI(x a:Nat):En:=⟨x,.not,[.e a]⟩
abbrev ABJ(x a b:Nat):En:=⟨x,.get .i 1,[.e a,.e b]⟩
abbrev ABK(x a b:Nat):En:=⟨x,.get .i 2,[.e a,.e b]⟩
abbrev ABL(x a:Nat):En:=⟨x,.len,[.e a]⟩
abbrev ABM(x a b:Nat):En:=⟨x,.get .i 0,[.e a,.e b]⟩
abbrev ABN(x a b:Nat):En:=⟨x,.get .s 4,[.e a,.e b]⟩
abbrev ABO(x a b:Nat):En:=⟨x,.get .s 5,[.e a,.e b]⟩
abbrev ABP(x a b:Nat):En:=⟨x,.get .b 6,[.e a,.e b]⟩
abbrev ABQ(x a b:Nat):En:=⟨x,.get .b 3,[.e a,.e b]⟩
abbrev ABR(x a b:Nat):En:=⟨x,.get .i 7,[.e a,.e b]⟩
abbrev ABS(x a b:Nat):En:=⟨x,.get .i 8,[.e a,.e b]⟩
abbrev ABT(x a b c:Nat):En:=⟨x,.ite .i,[.e a,.e b,.e c]⟩
abbrev ABU(x a:Nat):En:=⟨x,.id .b,[.e a]⟩
abbrev ABV(x a b c:Nat):En:=⟨x,.ite .l,[.e a,.e b,.e c]⟩
abbrev ABW(x a b:Nat):En:=⟨x,.w2 .i64 .add,[.e a,.e b]⟩
abbrev ABX(x a b:Nat):En:=⟨x,.get .s 0,[.e a,.e b]⟩
abbrev ABY(x a b:Nat):En:=⟨x,.w2 .i64 .sub,[.e a,.e b]⟩
abbrev ABZ(x a b:Nat):En:=⟨x,.app,[.e a,.e b]⟩
end Go.Eng
end
