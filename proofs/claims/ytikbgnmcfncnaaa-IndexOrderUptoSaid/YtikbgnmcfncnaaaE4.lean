/-
  A part of the proof: the evaluator of code and its soundness.
-/
import Derived.Test.YtikbgnmcfncnaaaE3
import Derived.Carry
import Derived.ChangeSame
import Derived.Maps.RangeRun
import Derived.LoopNIn
import Derived.Test.YtikbgnmcfncnaaaE2
import Derived.WalkSpells
import Derived.Lib.SliceRun
set_option linter.unusedVariables false
set_option linter.unusedSimpArgs false
noncomputable section
namespace Go.Eng
section
open Go Go.RowKit
def Lr:List (FuncId × AU)->FuncId->Option A7
 |[],_=>none
 |(f,t)::r,k=>if Nat.beq f k then some (af t) else Lr r k
theorem NV {P:Program}:∀{l:List (FuncId × AU)},(∀p∈l,AW P p.1 p.2)->∀f c,Lr l f=some c->∀T,∀ap k args ad m g b ag aq,k=f->DI P T.lp ap->c ap k args ad m g=some (b,ag,aq)->Ac g aq/\(Agr T aq->Ar T aq->pcv T ad->BN T g ad->∀ V w W,AF T g.n V m w args W->AH T g.n V m w->
  (∃aC,P.funcs[k]? =some aC/\aC.body.isSome=true/\(aC.name== "runtime.NumGoroutine")=false)/\Calls P k (W:List Value).toArray w (G8 T g V m w b ag aq))
 |[],_,f,c,h=>by simp[Lr] at h
 |(f0,t)::r,hl,f,c,h=>by
  simp only[Lr] at h;split at h
  .rename_i s;cases h;have e:=AA9 s;subst e;intro T ap k args ad m g b ag aq y _ q;subst y;exact s8 (hl (k,t) (ABK ..)) T ap args ad m g b ag aq q
  .exact NV (fun p A=>hl p (ABH _ A)) f c h
section
variable {P:Program}{w:World}{B:Nat}
theorem AAX {H:Type}{enc:TypeId × Value->H}{sp:Nat->Bool}{bc:Bool}{base:Nat}(hB:B<=AB)(hm:P.follows .mixedOrders=true){l:List (FuncId × AU)}(hl:∀p∈l,AW P p.1 p.2){Ab:FuncId->Ct}{aM al dd:Nat}{f:FuncId}{ay:List TypeId}{aX:List AC}{ks:List Kd}{c:AC}{ag:Mem}{aq:G}
  (a8:LD P dd ay 0=some (aX,ks)) (bo:Ew P (Lr l) Ab aM al Ys.none f aX none [] { n:=ks.length,eqs:=[],obs:=[] }=some (c,ag,aq)) (A:Nc ks.length aq=true)
  (bm:∀(T:Tab) (us:List U),AL B ks us->us.length=ks.length->(∀j u,us[j]? =some u->T j=u)->(∀p∈aq.eqs,T p.1=p.2.eval T)->Ar T aq/\AAn T c)
  {W:List Value} {ds:List (DataW H)} {ps:List MemPlace} (ht:DataW.TrodAll enc P w 0 sp bc ay W ds ps) (hv:∀(j:Nat) t v,ay[j]? =some t->W[j]? =some v->Value.okWide P w .any base t v) (aa:∀d∈ds,Dh B d):
  Calls P f (W:List Value).toArray w fun e W'=>e= .returned (.bool true)/\Below w.heap.size w W':=by
 obtain⟨us,u1,u2,u3⟩:=ir hB ay a8 ht hv aa;unfold Nc at A;rw[AA8] at A;generalize Y:BR (dx aq.lps us) aq.eqs=T;obtain⟨ax,aK,r3⟩:=Fa aq.eqs (dx aq.lps us);rw[Y] at ax aK r3;have a3:∀j u,us[j]? =some u->T (0+j)=u:=fun j u K=>by
  have b9:=(ABD.1 K).1;rw[ABJ,<-Y,(CR A.1).2.2 j (.inl (by omega))];show us.getD j default=u;simp[List.getD,K]
 have hA:Agr T aq:=by
  refine⟨fun p Z=>?_,fun p Z=>?_⟩
  .rw[<-Y];exact FF (fv:=[]) (nh:=0) (fun x hx=>by cases hx) (ABh _) A.1 p Z
  .rw[aK];show (Gi aq.lps p.1).getD Qv=p.2;rw[SS A.2 p Z];rfl
 obtain⟨p1,N⟩:=bm T us u1 u2 (fun j u K=>by have:=a3 j u K;rw[ABJ] at this;exact this) hA.eqs;have bs:∀b off,b < w.heap.size->Ag T (fun _=>none) [] w b off:=fun b off hb=>⟨hb,by rw[ax];trivial,fun id=>trivial⟩;have bl:AH T ks.length (fun _=>none) [] w:=⟨fun id=>trivial,(fun id ca b h=>by cases h),fun b off _=>by rw[ax];trivial⟩;obtain⟨_,bt⟩:=Ge (Ab:=Ab) (aM:=aM) hm (NV hl) al T Ys.none f aX none [] _ c ag aq (fun T' _ s y hy=>by cases hy) bo;obtain⟨_,hc⟩:=bt hA p1 trivial trivial (fun _=>none) w W (u3 T _ bs a3 ks.length (by omega)) bl;refine hc.mono fun e W' ⟨v, ac,e1,q,e3,E⟩=>?_;refine⟨?_,q.os,q.tape,q.output,q.size,fun k hk=>q.old k hk (fun id h=>by cases h)⟩;rw[e1];congr 1;cases c with
 |cb b=>rw[show b=true from N] at E;exact E
 |b x=>
  obtain⟨_,b,C,O⟩:=E;rw[show T x=_ from N] at C;cases C;exact O
 |nb x=>
  obtain⟨_,b,C,O⟩:=E;rw[show T x=_ from N] at C;cases C;exact O
 |_=>exact N.elim
end
theorem RT {H:Type}{enc:TypeId × Value->H}{P:Program}(E:laidOutB P=true){k y:World}(A:Below k.heap.size k y){K:Nat->Bool}:∀{ay:List TypeId} {W:List Value} {s:List (DataW H)} {ps:List MemPlace},
  (∀t∈ay,P.readableRec t=true/\t < P.types.size)->DataW.TrodAll enc P k 0 (fun _=>true) true ay W s ps->(∀x∈ps,x.block < k.heap.size)->(∀x∈ps,K x.block=true)->DataW.TrodAll enc P y 0 K true ay W s ps
 |[],[],[],_,_,h,_,_=>h
 |t::ay,v::W,d::s,ps,ht,⟨p,q,C,O,e⟩,hlt,aa=>by
  subst e;obtain⟨ax,aK⟩:=ht t (ABK ..);exact⟨p,q,WideElems.Trod_stays E ax aK C (fun x b=>A.same (hlt x (ABR _ b))) (fun x b=>aa x (ABR _ b)),
   RT E A (fun t h=>ht t (ABH _ h)) O (fun x b=>hlt x (ABL _ b)) (fun x b=>aa x (ABL _ b)),rfl⟩
 |[],_::_,_,_,_,h,_,_=>h.elim
 |[],[],_::_,_,_,h,_,_=>h.elim
 |_::_,[],_,_,_,h,_,_=>h.elim
 |_::_,_::_,[],_,_,h,_,_=>h.elim
end
section
open Go Go.RowKit Go.ChangeShapes Go.WideShapes
theorem tW {H:Type}{enc:TypeId × Value->H}{P:Program}{f:Func}{s:ChangeSpec}{apart ba bi a9:Bool}{W E:World}{args:Array Value}{k y:List (DataW H)}{ax:List MemPlace}{tb:TypeId}
  (hl:laidOutB P=true) (bo:∀t∈f.params.toList,P.readableRec t=true/\t < P.types.size) (a3:f.resultTypes= #[tb]) (a5:P.underlying tb=some .bool) (a7:s.vars=[])
  (Z:s.fn H (k++y)={ results:=[.lit (.bool true)],args:=k })
  (N:DataW.Whole enc P f.params.toList s.vars apart W args.toList k y ax) (Y:Below W.heap.size W E):s.post enc P f apart ba bi a9 W args (.bool true) E:=by
 have ag:∀p∈ax,p.block < W.heap.size:=N.lt;have bc:=N;obtain⟨p,q,hA,K,rfl,hz,hn⟩:=N;have hq:q=[]:=by
  rw[a7] at K;cases y with
  |nil=>exact K
  |cons=>exact K.elim
 subst hq;have bl:∀x∈p++[],(fun b=>decide (b < W.heap.size)) x.block=true:=fun x h=>by simpa using ag x h
 have a0:∀e:Nat->Bool,(∀x∈p++[],e x.block=true)->DataW.TrodAll enc P E 0 e true f.params.toList args.toList (s.fn H (k++y)).args p:=fun e bs=>by
  rw[Z];exact RT hl Y bo hA (fun x h=>ag x (by simp[h])) (fun x h=>bs x (by simp[h]))
 have a6:∀e:Nat->Bool,DataW.TrodVars enc P E e s.vars (s.fn H (k++y)).vars []:=fun e=>by rw[Z,a7];rfl
 have hr:∀(b:Nat) (e:Nat->Bool) (hd:Bool),DataW.TrodAll enc P E b e hd f.resultTypes.toList ((Value.bool true).resultList f.resultTypes.size) (s.fn H (k++y)).results []:=fun b e hd=>by
  rw[Z,a3];exact⟨[],[],⟨1,by simp[DataW.trod,a5,Value.cells]⟩,rfl,rfl⟩
 refine⟨k,y,p++[],[],p,[],bc,hr _ _ _,a0 _ bl,a6 _,World.keptBut_mono (fun x h=>⟨h,.inr (by simpa using h)⟩) (Y.frame (· ∈p++[])),fun _=>?_⟩;refine⟨fun j t r C O=>?_,_,_,([]++p)++[],⟨[]++p,[],trodAll_append (a0 _ (fun _ _=>rfl)) (hr _ _ _),a6 _,rfl,?_,?_⟩,?_⟩
 .exact ok_one a3 (by rfl) (by simp[Value.okWide,a5,Cell.okWide,Cell.ok]) j t r C O
 .intro b off hp;rw[Y.frozen (ag _ (by simpa using hp))];exact hz b off (by simpa using hp)
 .grind
 .grind
end
section
open Go
inductive Ty where
 |i|b|l|r (c:Nat)|s
 deriving DecidableEq
def I (T:Tab)(x:Nat):Int:=(T.get x).toI
def B (T:Tab)(x:Nat):Bool:=(T.get x).toB
def L (T:Tab)(x:Nat):U':=(T.get x).toL
def S (T:Tab)(x:Nat):ByteArray:=(T.get x).toS
def iR (T:Tab)(r:Rf):Int:=(r.eval T).toI
def bR (T:Tab)(r:Rf):Bool:=(r.eval T).toB
def lR (T:Tab)(r:Rf):U':=(r.eval T).toL
def stR (T:Tab)(r:Rf):ByteArray:=(r.eval T).toS
def uR (T:Tab):Ty->Rf->U
 | .i,r=> .int (iR T r)
 | .b,r=> .bool (bR T r)
 | .l,r=> .list (lR T r)
 | .r _,r=>r.eval T
 | .s,r=> .str (stR T r)
variable{T:Tab}{x:Nat}
theorem iR_c {n:Int}:iR T (.c (.int n))=n:=Eq.trans rfl rfl
theorem iR_e :iR T (.e x)=I T x:=Eq.trans rfl rfl
theorem bR_c {n:Bool}:bR T (.c (.bool n))=n:=Eq.trans rfl rfl
theorem AG :bR T (.e x)=B T x:=Eq.trans rfl rfl
theorem bR_n :bR T (.n x)= !B T x:=Eq.trans rfl rfl
theorem lR_c :lR T (.c (.list []))=[]:=Eq.trans rfl rfl
theorem lR_e :lR T (.e x)=L T x:=Eq.trans rfl rfl
theorem AAe {s:ByteArray}:stR T (.c (.str s))=s:=Eq.trans rfl rfl
theorem AAs :stR T (.e x)=S T x:=Eq.trans rfl rfl
def S5 (T:Tab):List Rf->Int->Int
 |[],_=>0
 |a::l,n=>if n<=0 then iR T a else S5 T l (n - 1)
def TH (T:Tab):List Rf->Int->Prop
 |[],_=>False
 |a::l,n=>(n<=0/\bR T a=true)\/(¬n<=0/\TH T l (n - 1))
def AJ (l:U')(i c:Nat):Int:=((l.getD i []).getD c default).toI
def FZ (l:U')(i c:Nat):Bool:=((l.getD i []).getD c default).toB
def Af (l:U')(i c:Nat):ByteArray:=((l.getD i []).getD c default).toS
def CU (G c:Nat)(l:U')(z:U)(k:List U):U:=bif decide (Ai G l k < l.length) then (l.getD (Ai G l k) []).getD (G+c) default else z
def Hx (l:U')(i c:Nat):U':=((l.getD i []).getD c default).toL
inductive Op2 where
 |add|sub|mul|div|mod|tdiv|tmod|min|max
def Op2.f:Op2->Int->Int->Int
 | .add=>th| .sub=>u4| .mul=>wm| .div=>uJ| .mod=>eZ| .tdiv=>WQ| .tmod=>mS| .min=>Xb| .max=>XT
inductive Opn where
 |id (t:Ty)|not|and|or|lt|le|eq|ne
 |eqs (ts:List Ty)|nes (ts:List Ty)|eqb|neb
 |ite (t:Ty)|ifb
 |o2 (o:Op2)|w2 (k:IntKind) (o:Op2)|wx (k:IntKind) (o:Op2)|w1 (k:IntKind)|wneg (k:IntKind)|neg|bits (o:BinOp) (k:IntKind)
 |take|drop|sub|slen|sat
 |len|app|get (t:Ty) (c:Nat)|mget (t:Ty) (nk c:Nat) (ts:List Ty)|mhas (nk:Nat) (ts:List Ty)|mset (nk:Nat) (ts:List Ty)|pick (t:Ty)|row (k s:Nat) (ts:List Ty)|rset (c:Nat) (ts:List Ty)|rep (ts:List Ty)
 |outI (tg:String) (f:List U->Int)|outB (tg:String) (f:List U->Bool)|outL (tg:String) (f:List U->U')|outS (tg:String) (f:List U->ByteArray)|res (t:Ty) (D:Aa) (j:Nat)
def tyC:Ty->Nat| .i=>0| .b=>1| .s=>2| .l=>3| .r _=>4
def Ba (f:List U->Int)(us:List U):U:= .int (f us)
def HS (f:List U->Bool)(us:List U):U:= .bool (f us)
def CI (f:List U->U')(us:List U):U:= .list (f us)
def kJ (f:List U->ByteArray)(us:List U):U:= .str (f us)
def opF:Opn->List U->U
 | .id _=>oId| .not=>XE| .and=>SM| .or=>oOr| .lt=>oLt| .le=>oLe| .eq=>oEq| .ne=>oNe
 | .eqs _=>kD| .nes _=>ot| .eqb=>vZ| .neb=>vC
 | .ite _=>oIf| .ifb=>nr
 | .o2 o=>Go.Eng.o2 o.f| .w2 k o=>Km k (Go.Eng.o2 o.f)| .wx k o=>Km k (Go.Eng.o2 o.f)| .w1 k=>Km k oId| .wneg k=>Km k fh| .neg=>fh| .bits o k=>Go.Eng.o2 (DT o k)
 | .take=>QM| .drop=>nQ| .sub=>vr| .slen=>ng| .sat=>wW
 | .len=>Sp| .app=>Uo| .get t c=>TG (tyC t) c| .mget t G c _=>rP (tyC t) G c| .mhas G _=>lJ G| .mset G _=>lD G| .pick _=>WO| .row k s _=>dX k s| .rset c _=>nc c| .rep _=>vy
 | .outI _ f=>Ba f| .outB _ f=>HS f| .outL _ f=>CI f| .outS _ f=>kJ f| .res _ D j=>D.res j
structure En where
 x:Nat
 op:Opn
 rs:List Rf
def En.be (e:En):Nat × (List U->U) × List Rf:=(e.x,opF e.op,e.rs)
def Cn (T:Tab):List Ty->List Rf->Prop
 | .i::ay,a::b::r=>iR T a=iR T b/\Cn T ay r
 | .b::ay,a::b::r=>(bR T a=true↔bR T b=true)/\Cn T ay r
 | .s::ay,a::b::r=>stR T a=stR T b/\Cn T ay r
 |_,_=>True
def BY (o:Op2)(c a b:Int):Prop:=match o with
 | .add=>c=a+b| .sub=>c=a - b| .mul=>c=a*b| .div=>c=a / b| .mod=>c=a % b
 | .tdiv=>c=if 0<=a then a / b else -(-a / b)
 | .tmod=>c=if 0<=a then a % b else -(-a % b)
 | .min=>c=if a<=b then a else b
 | .max=>c=if a<=b then b else a
def w2P (k:IntKind)(o:Op2)(c a b:Int):Prop:=match k,o with
 | .i64,.add=> -9223372036854775808<=a+b->a+b<=9223372036854775807->c=a+b
 | .i64,.sub=> -9223372036854775808<=a - b->a - b<=9223372036854775807->c=a - b
 | .i64,.mul=> -9223372036854775808<=a*b->a*b<=9223372036854775807->c=a*b
 |k,o=>c=k.wrap (o.f a b)
def wnP (k:IntKind)(c a:Int):Prop:=match k with
 | .i64=>(-9223372036854775807<=a->a<=9223372036854775808->c= -a)/\(a= -9223372036854775808->c=a)
 |k=>c=k.wrap (0 - a)
def AD (T:Tab)(e:En):Prop:=
 match e with
 |⟨x,.id .i,[a]⟩=>I T x=iR T a
 |⟨x,.id .b,[a]⟩=>(B T x=true↔bR T a=true)
 |⟨x,.id .l,[a]⟩=>L T x=lR T a
 |⟨x,.id .s,[a]⟩=>S T x=stR T a
 |⟨x,.not,[a]⟩=>(B T x=true↔¬bR T a=true)
 |⟨x,.and,[a,b]⟩=>(B T x=true↔(bR T a=true/\bR T b=true))
 |⟨x,.or,[a,b]⟩=>(B T x=true↔(bR T a=true\/bR T b=true))
 |⟨x,.lt,[a,b]⟩=>(B T x=true↔iR T a < iR T b)
 |⟨x,.le,[a,b]⟩=>(B T x=true↔iR T a<=iR T b)
 |⟨x,.eq,[a,b]⟩=>(B T x=true↔iR T a=iR T b)
 |⟨x,.ne,[a,b]⟩=>(B T x=true↔¬iR T a=iR T b)
 |⟨x,.eqs ay,r⟩=>(B T x=true↔Cn T ay r)
 |⟨x,.nes ay,r⟩=>(B T x=true↔¬Cn T ay r)
 |⟨x,.eqb,[a,b]⟩=>(B T x=true↔(bR T a=true↔bR T b=true))
 |⟨x,.neb,[a,b]⟩=>(B T x=true↔¬(bR T a=true↔bR T b=true))
 |⟨x,.ite .i,[a,b,c]⟩=>I T x=if bR T a=true then iR T b else iR T c
 |⟨x,.ite .b,[a,b,c]⟩=>(B T x=true↔((bR T a=true/\bR T b=true)\/(¬bR T a=true/\bR T c=true)))
 |⟨x,.ite .l,[a,b,c]⟩=>L T x=if bR T a=true then lR T b else lR T c
 |⟨x,.ite .s,[a,b,c]⟩=>S T x=if bR T a=true then stR T b else stR T c
 |⟨x,.ifb,[a,b,c]⟩=>(B T x=true↔((bR T a=true/\bR T b=true)\/(¬bR T a=true/\bR T c=true)))
 |⟨x,.o2 o,[a,b]⟩=>BY o (I T x) (iR T a) (iR T b)
 |⟨x,.w2 k o,[a,b]⟩=>w2P k o (I T x) (iR T a) (iR T b)
 |⟨x,.wx k o,[a,b]⟩=>I T x=k.wrap (o.f (iR T a) (iR T b))
 |⟨x,.w1 k,[a]⟩=>I T x=k.wrap (iR T a)
 |⟨x,.wneg k,[a]⟩=>wnP k (I T x) (iR T a)
 |⟨x,.neg,[a]⟩=>I T x= -iR T a
 |⟨x,.bits o k,[a,b]⟩=>I T x=DT o k (iR T a) (iR T b)
 |⟨x,.len,[a]⟩=>I T x=(lR T a).length
 |⟨x,.app,[a,b]⟩=>L T x=lR T a++lR T b
 |⟨x,.take,[a,b]⟩=>L T x=(lR T a).take (iR T b).toNat
 |⟨x,.drop,[a,b]⟩=>L T x=(lR T a).drop (iR T b).toNat
 |⟨x,.sub,[a,b,c]⟩=>L T x=((lR T a).take (iR T c).toNat).drop (iR T b).toNat
 |⟨x,.slen,[a]⟩=>I T x=(stR T a).size
 |⟨x,.sat,[a,b]⟩=>I T x=Br (stR T a) (iR T b).toNat
 |⟨x,.get .i c,[a,b]⟩=>I T x=AJ (lR T a) (iR T b).toNat c
 |⟨x,.get .b c,[a,b]⟩=>B T x=FZ (lR T a) (iR T b).toNat c
 |⟨x,.get .l c,[a,b]⟩=>L T x=Hx (lR T a) (iR T b).toNat c
 |⟨x,.get .s c,[a,b]⟩=>S T x=Af (lR T a) (iR T b).toNat c
 |⟨x,.mget .i G c ay,a::z::r⟩=>I T x=(CU G c (lR T a) (z.eval T) (List.zipWith (uR T) ay r)).toI
 |⟨x,.mget .b G c ay,a::z::r⟩=>B T x=(CU G c (lR T a) (z.eval T) (List.zipWith (uR T) ay r)).toB
 |⟨x,.mget .s G c ay,a::z::r⟩=>S T x=(CU G c (lR T a) (z.eval T) (List.zipWith (uR T) ay r)).toS
 |⟨x,.mhas G ay,a::r⟩=>(B T x=true↔Ai G (lR T a) (List.zipWith (uR T) ay r) < (lR T a).length)
 |⟨x,.mset G ay,a::r⟩=>L T x=BB G (lR T a) ((List.zipWith (uR T) ay r).take G) ((List.zipWith (uR T) ay r).drop G)
 |⟨x,.pick .i,a::r⟩=>I T x=S5 T r (iR T a)
 |⟨x,.pick .b,a::r⟩=>(B T x=true↔TH T r (iR T a))
 |⟨x,.row k s ay,r⟩=>L T x=Bv s k (List.zipWith (uR T) ay r)
 |⟨x,.rset c ay,a::b::r⟩=>L T x=B7 (lR T a) (iR T b).toNat c (List.zipWith (uR T) ay r)
 |⟨x,.rep ay,a::r⟩=>L T x=List.replicate (iR T a).toNat (List.zipWith (uR T) ay r)
 |⟨x,.outI _ f,r⟩=>I T x=f (r.map (Rf.eval T))
 |⟨x,.outB _ f,r⟩=>B T x=f (r.map (Rf.eval T))
 |⟨x,.outL _ f,r⟩=>L T x=f (r.map (Rf.eval T))
 |⟨x,.outS _ f,r⟩=>S T x=f (r.map (Rf.eval T))
 |_=>True
def Xk:Ty->Bool| .i=>true| .b=>true| .s=>true|_=>false
abbrev B8:=List (Nat × Ty)
def Oi:Ty->Ty->Bool| .i,.i=>true| .b,.b=>true| .l,.l=>true| .r c,.r d=>Nat.beq c d| .s,.s=>true|_,_=>false
def Z7:B8->Nat->Ty->Bool
 |[],_,_=>false
 |(y,t)::r,x,u=>if Nat.beq y x&&Oi t u then true else Z7 r x u
def tyR (ak:B8)(t:Ty):Rf->Bool
 | .c (.int _)=>Oi t .i
 | .c (.bool _)=>Oi t .b
 | .c (.list _)=>Oi t .l
 | .c (.str _)=>Oi t .s
 | .c _=>false
 | .n _=>Oi t .b
 | .e x=>Z7 ak x t
def GM (ak:B8):List Ty->List Rf->Bool
 |[],[]=>true
 |t::ay,r::ai=>tyR ak t r&&GM ak ay ai
 |_,_=>false
def EE:List Ty->List Ty
 |[]=>[]
 |t::ay=>t::t::EE ay
def uV (T:Tab)(t:Ty)(x:Nat):U:=uR T t (.e x)
def oV (T:Tab)(x c:Nat):Prop:=∀i:Nat,∃n,((L T x).getD i []).getD c default= .int n
def Sty (T:Tab)(x:Nat):Ty->Prop
 | .r c=>oV T x c
 |t=>T.get x=uV T t x
def AK (T:Tab):B8->Prop
 |[]=>True
 |(x,t)::r=>Sty T x t/\AK T r
theorem Sty.get :∀{t:Ty},Sty T x t->T.get x=uV T t x
 | .i,h=>h
 | .b,h=>h
 | .l,h=>h
 | .r _,_=>rfl
 | .s,h=>h
def noR:Ty->Bool| .r _=>false|_=>true
def HU (ak:B8)(e:En):Option (Option Ty):=
 match e.op,e.rs with
 | .id t,[a]=>some (if tyR ak t a then some t else none)
 | .ite t,[_,b,c]=>some (if tyR ak t b&&tyR ak t c then some t else none)
 | .eqs ay,r=>if GM ak (EE ay) r&&ay.all Xk then some (some .b) else none
 | .nes ay,r=>if GM ak (EE ay) r&&ay.all Xk then some (some .b) else none
 | .row _ _ ay,r=>if GM ak ay r then some (some .l) else none
 | .rset _ ay,_::_::r=>if GM ak ay r then some (some .l) else none
 | .rep ay,_::r=>if GM ak ay r then some (some .l) else none
 | .mset _ ay,_::r=>if GM ak ay r then some (some .l) else none
 | .not,_| .and,_| .or,_| .lt,_| .le,_| .eq,_| .ne,_| .ifb,_| .eqb,_| .neb,_=>some (some .b)
 | .mhas _ ay,_::r=>if GM ak ay r then some (some .b) else none
 | .o2 _,_| .w2 _ _,_| .wx _ _,_| .w1 _,_| .wneg _,_| .neg,_| .bits _ _,_| .len,_| .slen,_| .sat,_=>some (some .i)
 | .app,_| .take,_| .drop,_| .sub,_=>some (some .l)
 | .pick .i,_::r=>some (if r.all (tyR ak .i) then some .i else none)
 | .pick .i,[]=>some none
 | .pick .b,_::b::r=>some (if (b::r).all (tyR ak .b) then some .b else none)
 | .outI _ _,_=>some (some .i)
 | .outB _ _,_=>some (some .b)
 | .outL _ _,_=>some (some .l)
 | .outS _ _,_=>some (some .s)
 | .get t _,_=>some (if noR t then some t else none)
 | .mget t _ _ ay,_::_::r=>if GM ak ay r then some (if noR t then some t else none) else none
 | .pick _,_| .res _ _ _,_=>some none
 |_,_=>none
def Wl (e:En):B8:=
 match e.op with
 | .row _ s ay=>if ay.all (Oi .i) then (List.range s).map fun c=>(e.x,.r c) else []
 |_=>[]
def chk:B8->List En->Option B8
 |ak,[]=>some ak
 |ak,e::r=>match HU ak e with
  |none=>none
  |some none=>chk ak r
  |some (some t)=>if noR t then chk (Wl e++(e.x,t)::ak) r else none
section
variable {T:Tab}
variable{t u:Ty}{ak:B8}{r:List Rf}{x:Nat}{v:Bool}
theorem S7 (h:Oi t u=true):t=u:=by cases t<;>cases u<;>first|rfl|(cases h;done)|(rw[AA9 h])
theorem J9:∀{ak:B8} {x:Nat} {t:Ty},AK T ak->Z7 ak x t=true->T.get x=uV T t x
 |[],_,_,_,h=>by cases h
 |(y,u)::r,x,t,aa,h=>by
  simp only[Z7] at h;split at h
  .rename_i b;rw[AA8] at b;have e:=AA9 b.1;subst e;rw[<-S7 b.2];exact aa.1.get
  .exact J9 aa.2 h
theorem LU {r:Rf}(aa:AK T ak)(h:tyR ak t r=true):r.eval T=uR T t r:=by
 cases r with
 |c u=>cases u<;>simp only[tyR] at h<;>first|(have e:=S7 h;subst e;rfl)|cases h
 |e x=>exact J9 aa h
 |n x=>have e:=S7 h;subst e;rfl
theorem B9 {ak:B8}(aa:AK T ak):∀{ay:List Ty} {ai:List Rf},GM ak ay ai=true->ai.map (Rf.eval T)=List.zipWith (uR T) ay ai
 |[],[],_=>rfl
 |t::ay,r::ai,h=>by
  simp only[GM,AA8] at h;simp only[ABQ,List.zipWith_cons_cons];rw[LU aa h.1,B9 aa h.2]
 |[],_::_,h=>by cases h
 |_::_,[],h=>by cases h
theorem fi {ak:B8}:∀{ay:List Ty} {ai:List Rf},GM ak ay ai=true->ai.length=ay.length
 |[],[],_=>rfl
 |_::_,_::_,h=>by
  simp only[GM,AA8] at h;simp[fi h.2]
 |[],_::_,h=>by cases h
 |_::_,[],h=>by cases h
theorem iw:∀{ay:List Ty} {ai:List Rf},ai.length=(EE ay).length->ay.all Xk=true->(GI (List.zipWith (uR T) (EE ay) ai)=true↔Cn T ay ai)
 |[],[],_,_=>by simp[GI,EE,Cn]
 |t::ay,a::b::r,hl,hn=>by
  simp only[List.all_cons,AA8] at hn;have e:=iw (ay:=ay) (ai:=r) (by simpa [EE] using hl) hn.2;simp only[EE,List.zipWith_cons_cons,GI,AA8];rw[e];cases t with
  |i=>simp[uR,U.eqv,Cn]
  |b=>
   simp only[uR,U.eqv,Cn];cases bR T a<;>cases bR T b<;>simp
  |l=>exact absurd hn.1 (by simp[Xk])
  |r c=>exact absurd hn.1 (by simp[Xk])
  |s=>simp[uR,U.eqv,Cn]
 |[],_::_,hl,_=>by simp[EE] at hl
 |_::_,[],hl,_=>by simp[EE] at hl
 |_::_,[_],hl,_=>by simp[EE] at hl
theorem cK (aa:AK T ak){ay:List Ty}{ai:List Rf}{c:Bool}(h:(GM ak (EE ay) ai&&ay.all Xk)=true):GI (ai.map (Rf.eval T))=true↔Cn T ay ai:=by
 rw[AA8] at h;rw[B9 aa h.1];exact iw (fi h.1) h.2
theorem sR (l:List U):(HR l).toI=0:=by
 unfold HR;split<;>rfl
theorem qW (l:List U):(HR l).toB=false:=by
 unfold HR;split<;>rfl
theorem Y1 {d:U}(hd:d.toI=0):∀(l:List Rf) (n:Int),((l.map (Rf.eval T)).getD n.toNat d).toI=S5 T l n
 |[],n=>by simp[S5,hd]
 |a::l,n=>by
  simp only[S5];split
  .rename_i h;have:n.toNat=0:=by omega
   simp[this,iR]
  .rename_i h;have e:n.toNat=(n - 1).toNat+1:=by omega
   rw[e,<-Y1 hd l (n - 1)];simp
theorem ZI {d:U}(hd:d.toB=false):∀(l:List Rf) (n:Int),((l.map (Rf.eval T)).getD n.toNat d).toB=true↔TH T l n
 |[],n=>by simp[TH,hd]
 |a::l,n=>by
  simp only[TH];by_cases h:n<=0
  .have:n.toNat=0:=by omega
   simp[this,h,bR]
  .have e:n.toNat=(n - 1).toNat+1:=by omega
   rw[e,<-ZI hd l (n - 1)];simp[h]
theorem vB (h:T.get x= .bool v):B T x=v:=by unfold B;rw[h];rfl
theorem vI {v:Int}(h:T.get x= .int v):I T x=v:=by unfold I;rw[h];rfl
theorem vL {v:U'}(h:T.get x= .list v):L T x=v:=by unfold L;rw[h];rfl
theorem sB (h:T.get x= .bool v):T.get x=uV T .b x:=by rw[h];show _=U.bool (T.get x).toB;rw[h];rfl
theorem sI {v:Int}(h:T.get x= .int v):T.get x=uV T .i x:=by rw[h];show _=U.int (T.get x).toI;rw[h];rfl
theorem vS {v:ByteArray}(h:T.get x= .str v):S T x=v:=by unfold S;rw[h];rfl
theorem sS {v:ByteArray}(h:T.get x= .str v):T.get x=uV T .s x:=by rw[h];show _=U.str (T.get x).toS;rw[h];rfl
theorem sL {v:U'}(h:T.get x= .list v):T.get x=uV T .l x:=by rw[h];show _=U.list (T.get x).toL;rw[h];rfl
theorem zn (o:Op2)(a b:Int):BY o (o.f a b) a b:=by
 cases o<;>simp only[BY,Op2.f]<;>first|rfl|exact tdiv_eq_if a b|exact tmod_eq_if a b|exact Int.min_def a b|exact Int.max_def a b
theorem AAo (k:IntKind)(o:Op2)(a b:Int):w2P k o (k.wrap (o.f a b)) a b:=by
 cases k<;>cases o<;>simp only[w2P,Op2.f]<;>exact fun C O=>E6 .i64 _ C O
theorem AAm (k:IntKind)(a:Int):wnP k (k.wrap (0 - a)) a:=by
 cases k<;>simp only[wnP];refine⟨fun C O=>?_,fun h=>by subst h;decide⟩;rw[E6 .i64 _ (by show (-9223372036854775808:Int)<=_;omega) (by show _<=(9223372036854775807:Int);omega)];omega
theorem il (aa:AK T ak):∀(e:En) {o:Option Ty},HU ak e=some o->T.get e.x=opF e.op (e.rs.map (Rf.eval T))->AD T e:=by
 intro e o q h;unfold AD;split<;>(try simp only at q h)
 .exact ACF U.toI h
 .exact Bool.eq_iff_iff.1 (ACF U.toB h)
 .exact ACF U.toL h
 .exact ACF U.toS h
 .have:=vB h;rw[this];simp[u0,bR]
 iterate 2
  .have:=vB h;rw[this];simp[u0,u1,bR]
 iterate 4
  .have:=vB h;rw[this];simp[u0,u1,iR]
 .rename_i x ay r;simp only[HU] at q;split at q
  .rename_i y;rw[vB h];exact cK (c:=true) aa y
  .cases q
 .rename_i x ay r;simp only[HU] at q;split at q
  .rename_i y;rw[vB h,<-cK (c:=true) aa y];simp
  .cases q
 iterate 2
  .have:=vB h;rw[this];simp only[u0,u1,bR,ABQ,ABk,List.getD_cons_zero,List.getD_cons_succ];rename_i a b;cases (a.eval T).toB<;>cases (b.eval T).toB<;>simp
 .rename_i x a b c;have C:=ACF U.toI h;show (T.get x).toI=_;rw[C];show (bif (a.eval T).toB then b.eval T else c.eval T).toI=_;unfold bR iR;grind
 .rename_i x a b c;have C:=ACF U.toB h;show ((T.get x).toB=true↔_);rw[C];show ((bif (a.eval T).toB then b.eval T else c.eval T).toB=true↔_);unfold bR;grind
 .rename_i x a b c;have C:=ACF U.toL h;show (T.get x).toL=_;rw[C];show (bif (a.eval T).toB then b.eval T else c.eval T).toL=_;unfold bR lR;grind
 .rename_i x a b c;have C:=ACF U.toS h;show (T.get x).toS=_;rw[C];show (bif (a.eval T).toB then b.eval T else c.eval T).toS=_;unfold bR stR;grind
 .rename_i x a b c;rw[vB h];show ((bif (a.eval T).toB then (b.eval T).toB else (c.eval T).toB)=true↔_);unfold bR;grind
 .rw[vI h];exact zn _ _ _
 .rw[vI h];exact AAo _ _ _ _
 iterate 2
  .rw[vI h];rfl
 .rw[vI h];exact AAm _ _
 .rw[vI h];show 0 - _=_;rw[Int.zero_sub];rfl
 iterate 2
  .rw[vI h];rfl
 iterate 4
  .rw[vL h];rfl
 iterate 2
  .rw[vI h];rfl
 .exact (ACF U.toI h).trans rfl
 .exact (ACF U.toB h).trans rfl
 .exact (ACF U.toL h).trans rfl
 .exact (ACF U.toS h).trans rfl
 .simp only[HU] at q;split at q
  .rename_i y;rw[<-B9 aa y];exact (ACF U.toI h).trans rfl
  .cases q
 .simp only[HU] at q;split at q
  .rename_i y;rw[<-B9 aa y];exact (ACF U.toB h).trans rfl
  .cases q
 .simp only[HU] at q;split at q
  .rename_i y;rw[<-B9 aa y];exact (ACF U.toS h).trans rfl
  .cases q
 .simp only[HU] at q;split at q
  .rename_i y;rw[<-B9 aa y,vB h];exact decide_eq_true_iff
  .cases q
 .rename_i x G ay a r;simp only[HU] at q;split at q
  .rename_i y;rw[<-B9 aa y];exact vL h
  .cases q
 .exact (ACF U.toI h).trans (Y1 (sR _) _ _)
 .have C:=ACF U.toB h;refine Iff.trans (b:=((_:U).toB=true)) (by rw[show B T _=_ from C];exact Iff.rfl) (ZI (qW _) _ _)
 .rename_i x k s ay r;simp only[HU] at q;split at q
  .rename_i y;rw[vL h,B9 aa y]
  .cases q
 .rename_i x c ay a b r;simp only[HU] at q;split at q
  .rename_i y;rw[<-B9 aa y];exact vL h
  .cases q
 .rename_i x ay a r;simp only[HU] at q;split at q
  .rename_i y;rw[<-B9 aa y];exact vL h
  .cases q
 .exact ACF U.toI h
 .exact ACF U.toB h
 .exact ACF U.toL h
 .exact ACF U.toS h
 .trivial
theorem ZC {ak:B8}(aa:AK T ak):∀{r:List Rf} (n:Nat),r.all (tyR ak .i)=true->∃v,(r.map (Rf.eval T)).getD n (.int 0)= .int v
 |[],n,_=>⟨0,by simp⟩
 |a::r,n,h=>by
  simp only[List.all_cons,AA8] at h;cases n with
  |zero=>exact⟨iR T a,by simpa [uR] using LU aa h.1⟩
  |succ n=>simpa using ZC aa (r:=r) n h.2
theorem VW {ak:B8}(aa:AK T ak):∀{r:List Rf} (n:Nat),r.all (tyR ak .b)=true->∃v,(r.map (Rf.eval T)).getD n (.bool false)= .bool v
 |[],n,_=>⟨false,by simp⟩
 |a::r,n,h=>by
  simp only[List.all_cons,AA8] at h;cases n with
  |zero=>exact⟨bR T a,by simpa [uR] using LU aa h.1⟩
  |succ n=>simpa using VW aa (r:=r) n h.2
theorem tU (aa:AK T ak)(n:Nat)(h:r.all (tyR ak .i)=true):∃v,(r.map (Rf.eval T)).getD n (HR (r.map (Rf.eval T)))= .int v:=by
 have e:HR (r.map (Rf.eval T))= .int 0:=by
  cases r with
  |nil=>rfl
  |cons a r=>
   simp only[List.all_cons,AA8] at h;have C:a.eval T= .int (iR T a):=by simpa [uR] using LU aa h.1
   rw[ABQ,C];rfl
 rw[e];exact ZC aa n h
theorem pt (aa:AK T ak){b:Rf}(n:Nat)(h:(b::r).all (tyR ak .b)=true):∃v,((b::r).map (Rf.eval T)).getD n (HR ((b::r).map (Rf.eval T)))= .bool v:=by
 have e:HR ((b::r).map (Rf.eval T))= .bool false:=by
  have k:=h;simp only[List.all_cons,AA8] at k;have C:b.eval T= .bool (bR T b):=by simpa [uR] using LU aa k.1
  rw[ABQ,C];rfl
 rw[e];exact VW aa n h
theorem pr (h:(some (if noR t=true then some t else none):Option (Option Ty))=some (some u)):t=u:=by
 grind
theorem AAp {c:Prop} [Decidable c] (h:(if c then some (if noR t=true then some t else none) else none:Option (Option Ty))=some (some u)):(some (if noR t=true then some t else none):Option (Option Ty))=some (some u):=by
 grind
theorem s7 {v:U}(e:(some (if noR t=true then some t else none):Option (Option Ty))=some (some t))(h:T.get x=coC (tyC t) v):T.get x=uV T t x:=by
 cases t with
 |i=>exact sI h
 |b=>exact sB h
 |l=>exact sL h
 |s=>exact sS h
 |r c=>cases e
theorem AA1 (aa:AK T ak):∀(e:En) {t:Ty},HU ak e=some (some t)->T.get e.x=opF e.op (e.rs.map (Rf.eval T))->T.get e.x=uV T t e.x:=by
 intro e t k h;unfold HU at k;split at k
 .rename_i a q s;split at k
  .rename_i y;cases k;rw[q,s] at h;have O:T.get e.x=a.eval T:=h;rw[LU aa y] at O;cases t
   .exact sI O
   .exact sB O
   .exact sL O
   .rfl
   .exact sS O
  .cases k
 .rename_i a b c q s;split at k
  .rename_i y;cases k;rw[AA8] at y;rw[q,s] at h;have O:T.get e.x=bif (a.eval T).toB then b.eval T else c.eval T:=h
   rw[LU aa y.1,LU aa y.2] at O;cases t<;>cases K:(a.eval T).toB<;>rw[K] at O<;>first|exact sI O|exact sB O|exact sL O|exact sS O|rfl
  .cases k
 all_goals first
  |(rename_i u c q;have C:=pr k;rw[q] at h;subst C;exact s7 k h)
  |(rename_i u G c ay a H r q s;have E:=AAp k;have C:=pr E;rw[q] at h;subst C;exact s7 E h)
  |(rename_i a H r q s;split at k<;>cases k;rename_i y;rw[q,s] at h;obtain⟨v,A⟩:=pt aa (a.eval T).toI.toNat y;exact sB (h.trans A))
  |(rename_i a r q s;split at k<;>cases k;rename_i y;rw[q,s] at h;obtain⟨v,A⟩:=tU aa (a.eval T).toI.toNat y;exact sI (h.trans A))
  |(rename_i q s;split at k<;>cases k;rw[q,s] at h;first|exact sL h|exact sB h)
  |(rename_i q;split at k<;>cases k;rw[q] at h;first|exact sI h|exact sB h|exact sL h)
  |(rename_i q;cases k;rw[q] at h;first|exact sI h|exact sB h|exact sL h|exact sS h)
  |(cases k)
  |skip
def AE (T:Tab):List En->Prop
 |[]=>True
 |e::r=>AD T e/\AE T r
theorem AE.left:∀{a b:List En},AE T (a++b)->AE T a
 |[],_,_=>trivial
 |_::_,_,h=>⟨h.1,AE.left h.2⟩
theorem AE.right:∀{a b:List En},AE T (a++b)->AE T b
 |[],_,h=>h
 |_::_,_,h=>AE.right h.2
end
abbrev BE:=Nat × (List U->U) × List Rf
abbrev BO:=PC × (List U->Prop) × List Rf
abbrev BP:=(List U->Prop) × List Rf
def FV (l:List (Nat × Ex)):List BE:=l.map fun p=>(p.1,p.2.f,p.2.args)
def Kl (l:List Ob):List BO:=l.map fun o=>(o.pc,o.p.f,o.p.args)
def oz (l:List Pr):List BP:=l.map fun p=>(p.f,p.args)
def AR (T:Tab):List BE->Prop
 |[]=>True
 |(x,f,ai)::r=>T x=f (ai.map (Rf.eval T))/\AR T r
def VI (T:Tab):List BO->Prop
 |[]=>True
 |(ad,f,ai)::r=>(pcv T ad->f (ai.map (Rf.eval T)))/\VI T r
def AllP (T:Tab):List BP->Prop
 |[]=>True
 |(f,ai)::r=>f (ai.map (Rf.eval T))/\AllP T r
section
variable {T:Tab}
theorem MX:∀{l:List (Nat × Ex)},(∀p∈l,T p.1=p.2.eval T)->AR T (FV l)
 |[],_=>trivial
 |p::_,h=>⟨h p (ABK ..),MX fun q b=>h q (ABH _ b)⟩
theorem Ug:∀{l:List (Nat × Ex)},AR T (FV l)->∀p∈l,T p.1=p.2.eval T
 |[],_,p,b=>by cases b
 |e::r,h,p,b=>by
  cases b with
  |head=>exact h.1
  |tail _ b=>exact Ug (l:=r) h.2 p b
theorem AR.left:∀{a b:List BE},AR T (a++b)->AR T a
 |[],_,_=>trivial
 |_::_,_,h=>⟨h.1,AR.left h.2⟩
theorem AR.right:∀{a b:List BE},AR T (a++b)->AR T b
 |[],_,h=>h
 |_::_,_,h=>AR.right h.2
theorem Ig:∀{l:List Ob},VI T (Kl l)->∀o∈l,o.holds T
 |[],_,o,b=>by cases b
 |o'::_,h,o,b=>by
  cases b with
  |head=>exact h.1
  |tail _ b=>exact Ig h.2 o b
theorem Sr:∀{l:List Pr},AllP T (oz l)->∀o∈l,o.holds T
 |[],_,o,b=>by cases b
 |o'::_,h,o,b=>by
  cases b with
  |head=>exact h.1
  |tail _ b=>exact Sr h.2 o b
variable{x:Nat}{ak:B8}{l:List En}
theorem rF :∀(t:Ty),T.get x=uV T t x->(∀c,t≠ .r c)->Sty T x t
 | .i,h,_=>h
 | .b,h,_=>h
 | .l,h,_=>h
 | .r c,_,h=>absurd rfl (h c)
 | .s,h,_=>h
theorem AK.append:∀{a b:B8},AK T a->AK T b->AK T (a++b)
 |[],_,_,h=>h
 |_::_,_,h,h'=>⟨h.1,AK.append h.2 h'⟩
theorem Yd {s:Nat}:∀{k:Nat} {l:List U} {u:List U},u∈Bv s k l->∀v∈u,v∈l
 |0,_,_,h=>by simp[Bv] at h
 |k+1,l,u,h=>by
  simp only[Bv,List.mem_cons] at h;intro v b;rcases h with rfl|h
  .exact List.mem_of_mem_take b
  .exact List.mem_of_mem_drop (Yd h v b)
theorem jO:∀{ay:List Ty} {r:List Rf},ay.all (Oi .i)=true->∀v∈List.zipWith (uR T) ay r,∃n,v= .int n
 |[],_,_,v,h=>by simp at h
 |_::_,[],_,v,h=>by simp at h
 |t::ay,a::r,ht,v,h=>by
  simp only[List.all_cons,AA8] at ht;simp only[List.zipWith_cons_cons,List.mem_cons] at h;rcases h with rfl|h
  .have e:=S7 ht.1;subst e;exact⟨_,rfl⟩
  .exact jO ht.2 v h
theorem qu (aa:AK T ak)(e:En){o:Option Ty}(y:HU ak e=some o)(h:T.get e.x=opF e.op (e.rs.map (Rf.eval T))):AK T (Wl e):=by
 obtain⟨x,op,ai⟩:=e;unfold Wl;simp only;split
 .rename_i k s ay;split
  .rename_i Y;simp only[HU] at y;split at y
   .rename_i b;have H:L T x=Bv s k (List.zipWith (uR T) ay ai):=by rw[<-B9 aa b];exact vL h
    have O:∀c,oV T x c:=fun c i=>by
     rw[H];have E:∀u:List U,(∀v∈u,∃n,v= .int n)->∃n,u.getD c default= .int n:=fun u K=>by
      rcases ABN c u.length with b|b
      .rw[ABV,ABC b];exact K _ (AB0 b)
      .rw[ABV,ABf b];exact⟨0,rfl⟩
     rcases ABN i (Bv s k (List.zipWith (uR T) ay ai)).length with q|q
     .rw[ABV (l:=Bv s k (List.zipWith (uR T) ay ai)),ABC q];exact E _ fun v C=>jO Y v (Yd (AB0 q) v C)
     .rw[ABV (l:=Bv s k (List.zipWith (uR T) ay ai)),ABf q];exact E _ fun v C=>by simp at C
    have A:∀l:List Nat,AK T (l.map fun c=>(x,Ty.r c)):=by
     intro l;induction l with
     |nil=>trivial
     |cons a l N=>exact⟨O a,N⟩
    exact A _
   .cases y
  .trivial
 .trivial
theorem V9:∀{l:List En} {ak k:B8},AK T ak->chk ak l=some k->AR T (l.map En.be)->AE T l/\AK T k
 |[],ak,k,aa,h,_=>by
  simp only[chk] at h;cases h;exact⟨trivial,aa⟩
 |e::r,ak,k,aa,h,hb=>by
  simp only[chk] at h;split at h
  .cases h
  .rename_i b;obtain⟨C,O⟩:=V9 aa h hb.2;exact⟨⟨il aa e b hb.1,C⟩,O⟩
  .rename_i t b;split at h
   .rename_i q;obtain⟨C,O⟩:=V9 (ak:=Wl e++(e.x,t)::ak) ((qu aa e b hb.1).append ⟨rF t (AA1 aa e b hb.1) (fun c s=>by rw[s] at q;cases q),aa⟩) h hb.2;exact⟨⟨il aa e b hb.1,C⟩,O⟩
   .cases h
def AO (ak:B8)(l:List En):B8:=(chk ak l).getD []
theorem AN (aa:AK T ak)(e:(chk ak l).isSome=true)(b:AR T (l.map En.be)):AE T l/\AK T (AO ak l):=by
 obtain⟨k,h⟩:=Option.isSome_iff_exists.1 e;have:=V9 aa h b;unfold AO;rw[h];exact this
def wL (ak:B8)(l:List En)(R:List Ty)(ai:List Rf):Bool:=match chk ak l with
 |some b=>GM b R ai
 |none=>false
theorem Ao {R:List Ty}{ai:List Rf}(aa:AK T ak)(b:wL ak l R ai=true)(e:AR T (l.map En.be)):AE T l/\ai.map (Rf.eval T)=List.zipWith (uR T) R ai:=by
 unfold wL at b;split at b
 .rename_i k h;obtain⟨C,O⟩:=V9 aa h e;exact⟨C,B9 O b⟩
 .cases b
def tyKd:Kd->Option Ty
 | .int _ _ _=>some .i
 | .bool=>some .b
 | .list _=>some .l
 | .str=>some .s
 |_=>none
def VS (x:Nat):Nat->List Kd->B8
 |_,[]=>[]
 |c,.int _ _ _::ar=>(x,.r c)::VS x (c+1) ar
 |c,_::ar=>VS x (c+1) ar
def Aj:Nat->List Kd->B8
 |_,[]=>[]
 |x,.list ar::ks=>(x,.l)::(VS x 0 ar++Aj (x+1) ks)
 |x,k::ks=>match tyKd k with
  |some t=>(x,t)::Aj (x+1) ks
  |none=>Aj (x+1) ks
def Bnd (T:Tab):Nat->List Kd->Prop
 |_,[]=>True
 |x,.int _ am Y::ks=>(am<=I T x/\I T x<=Y)/\Bnd T (x+1) ks
 |x,.list ar::ks=>((L T x).length<=140737488355328/\∀(i:Nat) (us:List U),(L T x)[i]? =some us->AL AB ar us)/\Bnd T (x+1) ks
 |x,.str::ks=>(S T x).size<=140737488355328/\Bnd T (x+1) ks
 |x,_::ks=>Bnd T (x+1) ks
theorem AK.append0:∀{a b:B8},AK T a->AK T b->AK T (a++b)
 |[],_,_,h=>h
 |_::_,_,h,h'=>⟨h.1,AK.append0 h.2 h'⟩
theorem aX:∀{ar:List Kd} {us:List U} {c:Nat} {k:Kd},AL AB ar us->ar[c]? =some k->∃u,us[c]? =some u/\KdU AB k u
 |[],_,_,_,_,h=>by simp at h
 |e::ar,us,c,k,⟨u,us',e1,C,O⟩,h=>by
  subst e1;cases c with
  |zero=>simp at h;subst h;exact⟨u,rfl,C⟩
  |succ c=>simpa using aX O (by simpa using h)
theorem xa {c:Nat}{ar:List Kd}{ao:IntKind}{am Y:Int}(h:∀(i:Nat) (us:List U),(L T x)[i]? =some us->AL AB ar us)(b:ar[c]? =some (.int ao am Y)):oV T x c:=fun i=>by
 rcases ABN i (L T x).length with Y|Y
 .obtain⟨u,C,⟨n,e,_⟩⟩:=aX (h i _ (ABC Y)) b;refine⟨n,?_⟩;simp only[List.getD,ABC Y,Option.getD_some,C];exact e
 .exact⟨0,by simp only[List.getD,ABf Y,Option.getD_none];simp;rfl⟩
theorem js {x:Nat}{A:List Kd}(h:∀(i:Nat) (us:List U),(L T x)[i]? =some us->AL AB A us):∀(ar:List Kd) (c:Nat),(∀j k,ar[j]? =some k->A[c+j]? =some k)->AK T (VS x c ar)
 |[],_,_=>trivial
 |e::ar,c,ha=>by
  have b:=js h ar (c+1) fun j k q=>by
   have:=ha (j+1) k (by simpa using q);rw[show c+(j+1)=c+1+j by omega] at this;exact this
  cases e with
  |int ao am Y=>exact⟨xa h (ha 0 _ rfl),b⟩
  |_=>exact b
theorem R9:∀{ks:List Kd} {us:List U} {x:Nat},AL AB ks us->(∀j u,us[j]? =some u->T (x+j)=u)->AK T (Aj x ks)/\Bnd T x ks
 |[],us,x,_,_=>⟨trivial,trivial⟩
 |k::ks,us,x,⟨u,us',e,C,O⟩,hT=>by
  subst e;have h:=R9 (x:=x+1) O fun j v y=>by
   have:=hT (j+1) v (by simpa using y);rw[show x+(j+1)=x+1+j by omega] at this;exact this
  have b:T.get x=u:=hT 0 u rfl;cases k with
  |int ao am Y=>
   obtain⟨n,q,s⟩:=C;rw[q] at b;refine⟨⟨sI b,h.1⟩,?_,h.2⟩;rw[vI b];exact s
  |bool=>
   obtain⟨n,q⟩:=C;rw[q] at b;exact⟨⟨sB b,h.1⟩,h.2⟩
  |str=>
   obtain⟨n,q,s⟩:=C;rw[q] at b;exact⟨⟨sS b,h.1⟩,by rw[vS b];exact s,h.2⟩
  |val=>exact h
  |any=>exact h
  |list ar=>
   obtain⟨n,q,s,E⟩:=C;rw[q] at b;have A:∀(i:Nat) (us:List U),(L T x)[i]? =some us->AL AB ar us:=by rw[vL b];exact E
   refine⟨⟨sL b,(js A ar 0 (fun j k y=>by rw[ABJ];exact y)).append0 h.1⟩,?_,h.2⟩;exact⟨by rw[vL b];exact s,A⟩
end
inductive PO where
 |take|sub|nez|t|inr|inl|ins|btw (lo hi:Int)|fits (b:Nat)|ready|ne|pre (tg:String) (p:List U->Prop)|owes (D:Aa)
structure ObE where
 pc:PC
 po:PO
 rs:List Rf
def poF:PO->List U->Prop
 | .take=>Lp| .sub=>tv| .nez=>Ud| .t=>pT| .inr=>pIn| .inl=>Xl| .ins=>m6| .btw am Y=>Dy am Y| .fits b=>Hy b| .ready=>AAj| .ne=>pNe| .pre _ p=>p| .owes D=>D.owes
def ObE.be (o:ObE):PC × (List U->Prop) × List Rf:=(o.pc,poF o.po,o.rs)
def pcP (T:Tab):PC->Prop
 |none=>True
 |some c=>B T c=true
def mK (T:Tab)(o:ObE):Prop:=
 match o with
 |⟨ad,.take,[a,b]⟩=>pcP T ad->(0<=iR T b/\iR T b<=(lR T a).length)
 |⟨ad,.sub,[a,b,c]⟩=>pcP T ad->(0<=iR T b/\iR T b<=iR T c/\iR T c<=(lR T a).length)
 |⟨ad,.nez,[a]⟩=>pcP T ad->¬iR T a=0
 |⟨ad,.t,[a]⟩=>pcP T ad->bR T a=true
 |⟨ad,.inr,[a,b]⟩=>pcP T ad->(0<=iR T a/\iR T a < iR T b)
 |⟨ad,.inl,[a,b]⟩=>pcP T ad->(0<=iR T a/\iR T a < (lR T b).length)
 |⟨ad,.ins,[a,b]⟩=>pcP T ad->(0<=iR T b/\iR T b < (stR T a).size)
 |⟨ad,.btw am Y,[a]⟩=>pcP T ad->(am<=iR T a/\iR T a<=Y)
 |⟨ad,.fits b,[a,c]⟩=>pcP T ad->((lR T a).length+(lR T c).length)*b<=140737488355328
 |⟨ad,.ready,[a]⟩=>pcP T ad->iR T a=0
 |⟨ad,.ne,[a,b]⟩=>pcP T ad->¬iR T a=iR T b
 |⟨ad,.pre _ p,ai⟩=>pcP T ad->p (ai.map (Rf.eval T))
 |⟨ad,.owes D,ai⟩=>pcP T ad->D.owes (ai.map (Rf.eval T))
 |_=>False
def JF (T:Tab):List ObE->Prop
 |[]=>True
 |o::r=>mK T o/\JF T r
section
variable {T:Tab}
theorem az {ad:PC}(h:pcv T ad):pcP T ad:=by
 cases ad with
 |none=>trivial
 |some c=>show (T.get c).toB=true;rw[show T.get c= .bool true from h];rfl
theorem bY {ad:PC}(h:pcP T ad):pcv T ad:=by
 cases ad with
 |none=>trivial
 |some c=>exact HD.2 h
theorem uQ:∀{o:ObE},mK T o->(pcv T o.pc->poF o.po (o.rs.map (Rf.eval T))):=by
 intro o h b;have e:=az b;unfold mK at h;split at h<;>first|exact h e|exact h.elim
theorem Iw:∀{l:List ObE},JF T l->VI T (l.map ObE.be)
 |[],_=>trivial
 |_::_,h=>⟨uQ h.1,Iw h.2⟩
end
def AU.sees (t:AU)(ai:List Rf)(r:Option (AC × Mem × G)):Option (List BE × List BO × List BP):=
 match r with
 |some (aN,aP,g0)=>match eC t ai aN aP g0 with
  |some ps=>some (FV g0.eqs.reverse,Kl g0.obs,oz ps)
  |none=>none
 |none=>none
theorem MA:∀{ks:List Kd} {us:List U},us.length=ks.length->PM ks us->AL AB ks us
 |[],[],_,_=>rfl
 |k::ks,u::us,hl,h=>⟨u,us,rfl,h 0 k u rfl rfl,MA (by simpa using hl) fun j b e C O=>h (j+1) b e (by simpa using C) (by simpa using O)⟩
 |[],_::_,hl,_=>by simp at hl
 |_::_,[],hl,_=>by simp at hl
def AU.run (P:Program)(l:List (FuncId × AU))(Ab:FuncId->Ct)(aM al:Nat)(f:FuncId)(t:AU):Option (AC × Mem × G):=
 Ew P (Lr l) Ab aM al Ys.none f t.args none t.m { n:=t.n,eqs:=[],obs:=[] }
def MY (t:AU):Bool:=(List.range t.m.length).all fun id=>match t.m'.at id with| .pad=>false|_=>true
variable{P:Program}{t:AU}{ai:List Rf}{ar:List En}{os:List ObE}{l:List (FuncId × AU)}{aM al j:Nat}{T:Tab}
theorem RK {f:FuncId}{h:A7}(N:∀T,Ca P T h)
  (b:t.sees ai (h Ys.none f t.args none t.m { n:=t.n,eqs:=[],obs:=[] })=some (ar.map En.be,os.map ObE.be,[])) (ax:MY t=true)
  (a2:∀(T:Tab) (us:List U),(∀p∈t.pre,p.2 us)->(∀j u,us[j]? =some u->T j=u)->us.length=t.n->AK T (Aj 0 t.ks)->Bnd T 0 t.ks->AR T (ar.map En.be)->JF T os/\ai.map (Rf.eval T)=t.outs.map fun o=>o.2 us):AW P f t:=by
 unfold AU.sees at b;split at b
 .rename_i aN aP H hr;split at b
  .rename_i ps a0;injection b with b
   injection b with y b
   injection b with A E
   refine jl N hr a0 (fun id Y e=>?_) fun T us s Z a3 q W=>?_
   .have:=ABb.1 ax id (List.mem_range.2 Y);grind
   .have k:AR T (FV H.eqs.reverse):=MX fun p hp=>W p (List.mem_reverse.1 hp);rw[y] at k;obtain⟨i1,i2⟩:=R9 (x:=0) (MA s Z) fun j u hj=>by rw[ABJ];exact q j u hj
    obtain⟨C,K⟩:=a2 T us a3 q s i1 i2 k;have O:=Iw C;rw[<-A] at O;exact⟨Ig O,Sr (by rw[E];trivial),K⟩
  .cases b
 .cases b
theorem An {f:FuncId}(e:P.follows .mixedOrders=true)(b:∀p∈l,AW P p.1 p.2){Ab:FuncId->Ct}
  (q:t.sees ai (t.run P l Ab aM al f)=some (ar.map En.be,os.map ObE.be,[])) (h:MY t=true)
  (k:∀(T:Tab) (us:List U),(∀p∈t.pre,p.2 us)->(∀j u,us[j]? =some u->T j=u)->us.length=t.n->AK T (Aj 0 t.ks)->Bnd T 0 t.ks->AR T (ar.map En.be)->JF T os/\ai.map (Rf.eval T)=t.outs.map fun o=>o.2 us):AW P f t:=
 RK (fun T=>Ge e (NV b) al T) q h k
def AU.runB (P:Program)(l:List (FuncId × AU))(Ab:FuncId->Ct)(aM al:Nat)(f:FuncId)(t:AU):Option (AC × Mem × G):=
 ov P (Ew P (Lr l) Ab aM al) Ab aM Ys.none f t.args none t.m { n:=t.n,eqs:=[],obs:=[] }
theorem Wr {f:FuncId}(b:P.follows .mixedOrders=true)(e:∀p∈l,AW P p.1 p.2){Ab:FuncId->Ct}
  (q:t.sees ai (t.runB P l Ab aM al f)=some (ar.map En.be,os.map ObE.be,[])) (h:MY t=true)
  (k:∀(T:Tab) (us:List U),(∀p∈t.pre,p.2 us)->(∀j u,us[j]? =some u->T j=u)->us.length=t.n->AK T (Aj 0 t.ks)->Bnd T 0 t.ks->AR T (ar.map En.be)->JF T os/\ai.map (Rf.eval T)=t.outs.map fun o=>o.2 us):AW P f t:=
 RK (ij b fun T=>Ge b (NV e) al T) q h k
theorem lc {aW:Type}{a b:aW}{l m:List aW}(h:a=b)(e:l=m):a::l=b::m:=by rw[h,e]
def aI (us:List U)(j:Nat):Int:=(us.getD j default).toI
def aB (us:List U)(j:Nat):Bool:=(us.getD j default).toB
def aL (us:List U)(j:Nat):U':=(us.getD j default).toL
def aS (us:List U)(j:Nat):ByteArray:=(us.getD j default).toS
theorem inI {us:List U}{n:Nat}(h:∀j u,us[j]? =some u->T j=u)(e:us.length=n)(b:j < n):aI us j=I T j:=by
 have:=h j us[j] (ABC (by omega));unfold aI I;grind
theorem inB {us:List U}{n:Nat}(h:∀j u,us[j]? =some u->T j=u)(e:us.length=n)(b:j < n):aB us j=B T j:=by
 have:=h j us[j] (ABC (by omega));unfold aB B;grind
theorem inL {us:List U}{n:Nat}(h:∀j u,us[j]? =some u->T j=u)(e:us.length=n)(b:j < n):aL us j=L T j:=by
 have:=h j us[j] (ABC (by omega));unfold aL L;grind
theorem inS {us:List U}{n:Nat}(h:∀j u,us[j]? =some u->T j=u)(e:us.length=n)(b:j < n):aS us j=S T j:=by
 have:=h j us[j] (ABC (by omega));unfold aS S;grind
end
section
open Go
variable{D:Aa}{an:Nat}
theorem ZQ (h:D.inScope an=true):CT D.fv D.nh (D.nh+D.k) an D.eqs=true/\G4 D.fv D.nh an (pcL D.pcn)=true/\∀x∈D.fv,x < D.nh:=by
 simp only[Aa.inScope,AA8] at h;obtain⟨⟨⟨⟨aF,e⟩,_⟩,_⟩,k⟩:=h;exact⟨aF,e,fun x b=>BF (ABb.1 k x b)⟩
theorem Wv {T:Tab}{A:List U}(b6:D.inScope an=true)(hk:A.length=D.k)(bl:D.nxt.length=D.k)(hH:∀j,j < D.k->T (D.nh+j)=D.res j (D.fv.map T.get++A))(hE:∀p∈D.eqs,T p.1=p.2.eval T)
  (e:List U->Prop) (H:List U->Nat) (h0:e A)
  (b7:∀(k:Tab) (s:List U),s.length=D.k->(∀x∈D.fv,k x=T x)->(∀j u,s[j]? =some u->k (D.nh+j)=u)->AR k (FV D.eqs.reverse)->e s->VI k (Kl D.obs)/\(pcv k D.pcn->e (D.nxt.map (Rf.eval k))/\H (D.nxt.map (Rf.eval k)) < H s)):
  D.owes (D.fv.map T.get++A)/\(∃t,e t/\t.length=D.k/\∀j u,t[j]? =some u->T (D.nh+j)=u)/\¬pcv T D.pcn:=by
 obtain⟨a5,bm,ax⟩:=ZQ b6;have bk:D.nh<=D.nh+D.k:=Nat.le_add_right _ _;generalize a7:D.fv.map T.get=us at*;have bc:us.length=D.fv.length:=by rw[<-a7];simp
 have e1:(us++A).take D.fv.length=us:=by rw[<-bc];simp
 have e2:(us++A).drop D.fv.length=A:=by rw[<-bc];simp
 have a2:∀s:List U,s.length=D.k->e s->VI (D.tab us s) (Kl D.obs)/\(pcv (D.tab us s) D.pcn->e (D.nxt.map (Rf.eval (D.tab us s)))/\H (D.nxt.map (Rf.eval (D.tab us s))) < H s):=fun s aa Y=>by
  refine b7 (D.tab us s) s aa (fun x hx=>?_) (fun j u h=>?_) (MX fun p b=>?_) Y
  .have:=ax x hx;unfold Aa.tab;rw[(CR a5).2.2 x (.inl (by omega)),HK _ _ _ _ this,<-a7];exact Ng D.fv x hx
  .have b2:=(ABD.1 h).1;unfold Aa.tab;rw[(CR a5).2.2 _ (.inl (by omega))];exact GO _ _ _ _ _ h
  .exact FF ax bk a5 p (List.mem_reverse.1 b)
 have Z:∀s,D.step us s=(bif pcB (D.tab us s) D.pcn then some (D.nxt.map (Rf.eval (D.tab us s))) else none):=fun s=>rfl;have go:∀(n:Nat) (s:List U),H s<=n->s.length=D.k->e s->∃m t,Gd (D.step us) m s=some t/\D.step us t=none/\e t/\t.length=D.k:=by
  intro n;induction n with
  |zero=>
   intro s hm aa Y;cases b:pcB (D.tab us s) D.pcn with
   |true=>have:=((a2 s aa Y).2 (MU.1 b)).2;omega
   |false=>exact⟨0,s,rfl,by rw[Z,b];rfl,Y,aa⟩
  |succ n ih=>
   intro s hm aa Y;cases b:pcB (D.tab us s) D.pcn with
   |true=>
    obtain⟨k1,E⟩:=(a2 s aa Y).2 (MU.1 b);obtain⟨m,t,q1,q,q3,q4⟩:=ih (D.nxt.map (Rf.eval (D.tab us s))) (by omega) (by simp[bl]) k1;refine⟨m+1,t,?_,q,q3,q4⟩;simp only[Gd,Z,b,cond_true,ABd];exact q1
   |false=>exact⟨0,s,rfl,by rw[Z,b];rfl,Y,aa⟩
 obtain⟨m,t,q1,q,q3,q4⟩:=go (H A) A (ABB _) hk h0;have b5:∀s,ET (D.step us) A s->e s/\s.length=D.k:=by
  intro s K;induction K with
  |zero=>exact⟨h0,hk⟩
  |succ K N ih=>
   rename_i aF s2;rw[Z] at N;cases b:pcB (D.tab us aF) D.pcn with
   |true=>
    rw[b] at N;cases N;exact⟨((a2 aF ih.2 ih.1).2 (MU.1 b)).1,by simp[bl]⟩
   |false=>rw[b] at N;cases N
 have b3:=it q1 q;have hT:∀j u,t[j]? =some u->T (D.nh+j)=u:=fun j u h=>by
  have b2:=(ABD.1 h).1;rw[hH j (by omega)];unfold Aa.res;rw[e1,e2,b3];simp[List.getD,h]
 refine⟨⟨by rw[e1,e2];exact⟨m,t,q1,q⟩,fun s K=>?_⟩,⟨t,q3,q4,hT⟩,fun b=>?_⟩
 .rw[e1,e2] at K;rw[e1];obtain⟨i1,i2⟩:=b5 s K;exact Ig (a2 s i2 i1).1
 .have bx:∀x,x∈D.fv\/(D.nh<=x/\x < an)->T x=D.tab us t x:=fun x hx=>by
   have:=OX (aA:=T) (J:=(OG D.fv us).upds D.nh t) ax bk (fun y W=>?_) a5 x hx
   .rw[QG hE] at this;exact this
   .rcases W with W|W
    .rw[HK _ _ _ _ (ax y W),<-a7];exact (Ng D.fv y W).symm
    .have h:y - D.nh < t.length:=by omega
     have C:=GO t (OG D.fv us) D.nh (y - D.nh) t[y - D.nh] (ABC h);have O:=hT (y - D.nh) t[y - D.nh] (ABC h);rw[show D.nh+(y - D.nh)=y by omega] at C O;rw[C,O]
  have:pcB (D.tab us t) D.pcn=true:=by
   cases hc:D.pcn with
   |none=>rfl
   |some c=>
    rw[hc] at b bm;have b1:=EY bm c (by simp[pcL]);rw[MU];show D.tab us t c= .bool true;rw[<-bx c b1];exact b
  rw[Z,this] at q;cases q
def eh:Op2->String
 | .add=> "add" | .sub=> "sub" | .mul=> "mul" | .div=> "div" | .mod=> "mod" | .tdiv=> "tdiv" | .tmod=> "tmod" | .min=> "min" | .max=> "max"
def xk:BinOp->String
 | .and=> "and" | .or=> "or" | .xor=> "xor" |_=> "andNot"
def AAt:Opn->Tg
 | .take=> "take" | .drop=> "drop" | .sub=> "cut" | .slen=> "slen" | .sat=> "sat"
 | .id _=> "id" | .not=> "not" | .and=> "and" | .or=> "or" | .lt=> "lt" | .le=> "le" | .eq=> "eq" | .ne=> "ne"
 | .eqs _=> "eqs" | .nes _=> "nes" | .eqb=> "eqb" | .neb=> "neb" | .ite _=> "if" | .ifb=> "ifb"
 | .o2 o=>eh o| .w2 k o=>EG k++ " " ++eh o| .wx k o=>EG k++ " " ++eh o| .w1 k=>EG k++ " id" | .wneg k=>EG k++ " neg" | .neg=> "neg" | .bits o k=>EG k++ " " ++xk o
 | .len=> "len" | .app=> "app" | .get t c=>XV (tyC t)++toString c| .mget t G c _=> "m" ++XV (tyC t)++toString G++ " " ++toString c| .mhas G _=> "mhas " ++toString G| .mset G _=> "mset " ++toString G| .pick _=> "pick" | .row _ s _=> "row " ++toString s| .rset c _=> "rset " ++toString c| .rep _=> "rep"
 | .outI tg _=>tg| .outB tg _=>tg| .outL tg _=>tg| .outS tg _=>tg| .res _ D j=>D.tg j
def AA6:PO->Tg
 | .take=> "take" | .sub=> "cut" | .nez=> "nez" | .t=> "t" | .inr=> "in" | .inl=> "inl" | .ins=> "ins" | .btw am Y=> "between " ++toString am++ " " ++toString Y| .fits b=> "fits " ++toString b| .ready=> "ready" | .ne=> "ne" | .pre tg _=>tg| .owes D=>D.tg 0
def En.ex (e:En):Nat × Ex:=(e.x,⟨AAt e.op,opF e.op,e.rs⟩)
def ObE.ob (o:ObE):Ob:=⟨o.pc,⟨AA6 o.po,poF o.po,o.rs⟩⟩
def mkD (nh k:Nat)(H:List En)(pcn:Nat)(nxt:List Rf)(K:List ObE)(fv:List Nat):Aa:=
 {nh,k,eqs:=(H.map En.ex).reverse,pcn:=some pcn,nxt,obs:=K.map ObE.ob,fv }
def hds:Nat->List Ty->B8
 |_,[]=>[]
 |x,t::ay=>(x,t)::hds (x+1) ay
def hdU (T:Tab):Nat->List Ty->List U
 |_,[]=>[]
 |x,t::ay=>uV T t x::hdU T (x+1) ay
def uOf:Ty->U->U
 | .i,u=> .int u.toI
 | .b,u=> .bool u.toB
 | .l,u=> .list u.toL
 | .r _,u=>u
 | .s,u=> .str u.toS
def TyU:List Ty->List U->Prop
 |[],[]=>True
 |t::ay,u::us=>(u=uOf t u/\noR t=true)/\TyU ay us
 |_,_=>False
def EB (fv:List Nat)(ak:B8):B8:=ak.filter fun p=>fv.contains p.1
section
variable {T:Tab}
theorem PA:∀{ay:List Ty} {ai:List Rf},ay.all noR=true->ay.length=ai.length->TyU ay (List.zipWith (uR T) ay ai)
 |[],[],_,_=>trivial
 |t::ay,r::ai,h0,h=>by
  simp only[List.all_cons,AA8] at h0;exact⟨⟨by cases t<;>rfl,h0.1⟩,PA h0.2 (by simpa using h)⟩
 |[],_::_,_,h=>by simp at h
 |_::_,[],_,h=>by simp at h
theorem SR:∀{ay:List Ty} {us:List U} {x:Nat},TyU ay us->(∀j u,us[j]? =some u->T (x+j)=u)->AK T (hds x ay)/\hdU T x ay=us
 |[],[],_,_,_=>⟨trivial,rfl⟩
 |t::ay,u::us,x,h,hT=>by
  obtain⟨C,O⟩:=SR (x:=x+1) h.2 fun j v q=>by
   have:=hT (j+1) v (by simpa using q);rw[show x+(j+1)=x+1+j by omega] at this;exact this
  have b:T.get x=u:=hT 0 u rfl;have e:u=uV T t x:=by
   have:=h.1.1;cases t<;>(simp only[uV,uR,iR,bR,lR,stR,Rf.eval];rw[show T x=u from b];try exact this)
  exact⟨⟨rF t (b.trans e) (fun c k=>by have:=h.1.2;rw[k] at this;cases this),C⟩,by simp only[hdU];rw[O,<-e]⟩
 |[],_::_,_,h,_=>h.elim
 |_::_,[],_,h,_=>h.elim
theorem Cj {J:Tab}{fv:List Nat}(b:∀x∈fv,J.get x=T.get x):∀{ak:B8},AK T ak->AK J (EB fv ak)
 |[],_=>trivial
 |(x,t)::r,h=>by
  unfold EB;rw[List.filter_cons];split
  .rename_i q;have e:=b x (List.contains_iff_mem.1 q);refine⟨?_,Cj b h.2⟩;cases t with
   |r c=>
    have C:oV T x c:=h.1;intro i;obtain⟨n,k⟩:=C i;exact⟨n,by unfold L at k⊢;rw[e];exact k⟩
   |_=>
    have C:=Sty.get h.1;show J.get x=_;rw[e,C];simp only[uV,uR,iR,bR,lR,stR,Rf.eval];rw[show J x=T x from e]
  .exact Cj b h.2
theorem QF (H:List En):FV (((H.map En.ex).reverse).reverse)=H.map En.be:=by
 rw[List.reverse_reverse];unfold FV;rw[List.map_map];rfl
theorem dE (K:List ObE):Kl (K.map ObE.ob)=K.map ObE.be:=by
 unfold Kl;rw[List.map_map];rfl
def PF (D:Aa)(args:List Rf):Nat->Nat->List BE
 |_,0=>[]
 |j,k+1=>(D.nh+j,D.res j,args)::PF D args (j+1) k
theorem RN {D:Aa}{args:List Rf}:∀{k U:Nat},AR T (PF D args U k)->∀j,j < k->T (D.nh+(U+j))=D.res (U+j) (args.map (Rf.eval T))
 |0,_,_,j,hj=>by omega
 |k+1,U,h,j,hj=>by
  cases j with
  |zero=>exact h.1
  |succ j=>
   have:=RN h.2 j (by omega);rw[show U+1+j=U+(j+1) by omega] at this;exact this
theorem ACw {A B C G:Prop}(f:A->B->C)(a:A)(b:B)(g:C->G):G:=g (f a b)
theorem Ap {ak:B8}{nh k pcn an:Nat}{H:List En}{K:List ObE}{nxt A:List Rf}{fv:List Nat}{R:List Ty}(bl:(mkD nh k H pcn nxt K fv).inScope an=true)(hn:A.length=k)(bi:nxt.length=k)(bk:R.length=k)(ax:R.all noR=true)
  (W:AK T ak) (bb:GM ak R A=true) (a9:wL (hds nh R++EB fv ak) H R nxt=true)
  (hB:AR T (H.map En.be)) (hH:AR T (PF (mkD nh k H pcn nxt K fv) (fv.map Rf.e++A) 0 k))
  (b:List U->Prop) (e:List U->Nat) (h0:b (List.zipWith (uR T) R A))
  (bm:∀J:Tab,(∀x∈fv,J.get x=T.get x)->AE J H->b (hdU J nh R)->
   JF J K/\(B J pcn=true->b (List.zipWith (uR J) R nxt)/\e (List.zipWith (uR J) R nxt) < e (hdU J nh R))):
  (mkD nh k H pcn nxt K fv).owes ((fv.map Rf.e++A).map (Rf.eval T))/\AK T (hds nh R)/\b (hdU T nh R)/\¬B T pcn=true:=by
 have hI:A.map (Rf.eval T)=List.zipWith (uR T) R A:=B9 W bb;have O:(fv.map Rf.e++A).map (Rf.eval T)=fv.map T.get++List.zipWith (uR T) R A:=by
  rw[ABI,hI,List.map_map];rfl
 have y:=fun j (C:j < k)=>RN hH j C;simp only[ABJ] at y;rw[O] at y;rw[O];have bt:=Wv (D:=mkD nh k H pcn nxt K fv) (T:=T) (an:=an) (A:=List.zipWith (uR T) R A) bl (by simp[hn,bk];rfl) bi (fun j C=>y j C)
  (fun p E=>Ug (l:=((mkD nh k H pcn nxt K fv).eqs).reverse) (by rw[show (mkD nh k H pcn nxt K fv).eqs=(H.map En.ex).reverse from rfl,QF];exact hB) p (List.mem_reverse.2 E))
  (fun s=>TyU R s/\b s) e ⟨PA ax (by omega),h0⟩ (fun J s aa ag ba Z Y=>by
   obtain⟨i1,i2⟩:=Y;obtain⟨aF,q⟩:=SR i1 ba;rw[show (mkD nh k H pcn nxt K fv).eqs=(H.map En.ex).reverse from rfl,QF] at Z;obtain⟨f1,f2⟩:=Ao (aF.append (Cj ag W)) a9 Z;obtain⟨g1,au⟩:=bm J ag f1 (by rw[show hdU J nh R=s from q];exact i2);refine⟨by rw[show (mkD nh k H pcn nxt K fv).obs=K.map ObE.ob from rfl,dE];exact Iw g1,fun E=>?_⟩;obtain⟨g3,N⟩:=au (az (ad:=some pcn) E);show (TyU R (nxt.map (Rf.eval J))/\b (nxt.map (Rf.eval J)))/\e (nxt.map (Rf.eval J)) < e s;rw[f2];rw[show hdU J nh R=s from q] at N;exact⟨⟨PA ax (by omega),g3⟩,N⟩)
 obtain⟨q1,⟨t,⟨q2,q3⟩,q4,q5⟩,q6⟩:=bt;obtain⟨aF,q⟩:=SR q2 q5;exact⟨q1,aF,by rw[show hdU T nh R=t from q];exact q3,fun h=>q6 (bY (ad:=some pcn) h)⟩
end
open Go
variable{T J:Tab}{R:List Ty}{x:Nat}
theorem Jz {ak:B8}{nh k pcn an:Nat}{H:List En}{K:List ObE}{nxt A:List Rf}{fv:List Nat}(bi:(mkD nh k H pcn nxt K fv).inScope an=true)(hn:A.length=k)(bb:nxt.length=k)(bc:R.length=k)(ax:R.all noR=true)
  (W:AK T ak) (a9:GM ak R A=true)
  (hB:AR T (H.map En.be)) (hH:AR T (PF (mkD nh k H pcn nxt K fv) (fv.map Rf.e++A) 0 k))
  (b:List U->Prop) (e:List U->Nat) (h0:b (List.zipWith (uR T) R A))
  (bk:∀J:Tab,(∀x∈fv,J.get x=T.get x)->AK J (hds nh R++EB fv ak)->AR J (H.map En.be)->b (hdU J nh R)->
   nxt.map (Rf.eval J)=List.zipWith (uR J) R nxt/\JF J K/\(B J pcn=true->b (List.zipWith (uR J) R nxt)/\e (List.zipWith (uR J) R nxt) < e (hdU J nh R))):
  (mkD nh k H pcn nxt K fv).owes ((fv.map Rf.e++A).map (Rf.eval T))/\AK T (hds nh R)/\b (hdU T nh R)/\¬B T pcn=true:=by
 have hI:A.map (Rf.eval T)=List.zipWith (uR T) R A:=B9 W a9;have O:(fv.map Rf.e++A).map (Rf.eval T)=fv.map T.get++List.zipWith (uR T) R A:=by
  rw[ABI,hI,List.map_map];rfl
 have y:=fun j (C:j < k)=>RN hH j C;simp only[ABJ] at y;rw[O] at y;rw[O];have bo:=Wv (D:=mkD nh k H pcn nxt K fv) (T:=T) (an:=an) (A:=List.zipWith (uR T) R A) bi (by simp[hn,bc];rfl) bb (fun j C=>y j C)
  (fun p E=>Ug (l:=((mkD nh k H pcn nxt K fv).eqs).reverse) (by rw[show (mkD nh k H pcn nxt K fv).eqs=(H.map En.ex).reverse from rfl,QF];exact hB) p (List.mem_reverse.2 E))
  (fun s=>TyU R s/\b s) e ⟨PA ax (by omega),h0⟩ (fun J s aa ag a8 Z Y=>by
   obtain⟨i1,i2⟩:=Y;obtain⟨aF,q⟩:=SR i1 a8;rw[show (mkD nh k H pcn nxt K fv).eqs=(H.map En.ex).reverse from rfl,QF] at Z;obtain⟨f2,g1,au⟩:=bk J ag (aF.append (Cj ag W)) Z (by rw[show hdU J nh R=s from q];exact i2);refine⟨by rw[show (mkD nh k H pcn nxt K fv).obs=K.map ObE.ob from rfl,dE];exact Iw g1,fun E=>?_⟩;obtain⟨g3,N⟩:=au (az (ad:=some pcn) E);show (TyU R (nxt.map (Rf.eval J))/\b (nxt.map (Rf.eval J)))/\e (nxt.map (Rf.eval J)) < e s;rw[f2];rw[show hdU J nh R=s from q] at N;exact⟨⟨PA ax (by omega),g3⟩,N⟩)
 obtain⟨q1,⟨t,⟨q2,q3⟩,q4,q5⟩,q6⟩:=bo;obtain⟨aF,q⟩:=SR q2 q5;exact⟨q1,aF,by rw[show hdU T nh R=t from q];exact q3,fun h=>q6 (bY (ad:=some pcn) h)⟩
def cJ (D:Aa)(ai:List Rf):Nat->Nat->List Ty->List En
 |_,_,[]=>[]
 |j,x,t::ay=>⟨x,.res t D j,ai⟩::cJ D ai (j+1) (x+1) ay
def Ad (D:Aa)(R:List Ty)(ai:List Rf):List En:=cJ D ai 0 D.nh R
theorem Y2 {T:Tab}{D:Aa}{ai:List Rf}:∀{R:List Ty} {j:Nat},AR T ((cJ D ai j (D.nh+j) R).map En.be)->AR T (PF D ai j R.length)
 |[],_,_=>trivial
 |_::_,_,h=>⟨h.1,Y2 h.2⟩
theorem Ae {D:Aa}{ai:List Rf}(h:AR T ((Ad D R ai).map En.be)):AR T (PF D ai 0 R.length):=Y2 (j:=0) h
theorem fvI (h:J.get x=T.get x):I J x=I T x:=by unfold I;rw[h]
theorem fvB (h:J.get x=T.get x):B J x=B T x:=by unfold B;rw[h]
theorem fvL (h:J.get x=T.get x):L J x=L T x:=by unfold L;rw[h]
theorem fvS (h:J.get x=T.get x):S J x=S T x:=by unfold S;rw[h]
abbrev k64:Kd:= .int .i64 IntKind.i64.min IntKind.i64.max
abbrev Ch (x:Nat):AC:= .i .i64 IntKind.i64.min IntKind.i64.max x
end
section
open Go Go.RowKit
mutual
theorem KdU.up {B:Nat}(b:B<=AB):∀{k:Kd} {u:U},KdU B k u->KdU AB k u
 | .int _ _ _,_,h=>h
 | .bool,_,h=>h
 | .str,_,⟨s,e,h⟩=>⟨s,e,ABS h b⟩
 | .val,_,_=>trivial
 | .any,_,_=>trivial
 | .list _,_,⟨l,e,C,O⟩=>⟨l,e,ABS C b,fun i us Y=>AL.up b (O i us Y)⟩
theorem AL.up {B:Nat}(b:B<=AB):∀{ks:List Kd} {us:List U},AL B ks us->AL AB ks us
 |[],_,h=>h
 |_::_,_,⟨u,us',e,C,O⟩=>⟨u,us',e,KdU.up b C,AL.up b O⟩
end
def fC (B:Nat)(T:Tab):Nat->List Kd->Prop
 |_,[]=>True
 |x,.list _::ks=>(L T x).length<=B/\fC B T (x+1) ks
 |x,_::ks=>fC B T (x+1) ks
theorem ji {B:Nat}{T:Tab}:∀{ks:List Kd} {us:List U} {x:Nat},AL B ks us->(∀j u,us[j]? =some u->T (x+j)=u)->fC B T x ks
 |[],us,x,_,_=>trivial
 |k::ks,us,x,⟨u,us',e,C,O⟩,hT=>by
  subst e;have h:=ji (x:=x+1) O fun j v y=>by
   have:=hT (j+1) v (by simpa using y);rw[show x+(j+1)=x+1+j by omega] at this;exact this
  have b:T.get x=u:=hT 0 u rfl;cases k with
  |list ar=>
   obtain⟨n,q,s,_⟩:=C;rw[q] at b;exact⟨by rw[vL b];exact s,h⟩
  |_=>exact h
def nj (n:Nat)(r:Option (AC × Mem × G)):Option (Nat × List BE × List BO):=
 match r with
 |some (.b x,_,g)=>if Nc n g then some (x,FV g.eqs.reverse,Kl g.obs) else none
 |_=>none
def rK (P:Program)(l:List (FuncId × AU))(Ab:FuncId->Ct)(aM al:Nat)(f:FuncId)(aX:List AC)(n:Nat):Option (AC × Mem × G):=
 Ew P (Lr l) Ab aM al Ys.none f aX none [] { n,eqs:=[],obs:=[] }
theorem wo {P:Program}{w:World}{B:Nat}{H:Type}{enc:TypeId × Value->H}{sp:Nat->Bool}{bc:Bool}{base:Nat}(q:B<=AB)(hm:P.follows .mixedOrders=true){l:List (FuncId × AU)}(hl:∀p∈l,AW P p.1 p.2){Ab:FuncId->Ct}{aM al K:Nat}{f:FuncId}{ay:List TypeId}{aX:List AC}{ks:List Kd}{x:Nat}{ar:List En}{os:List ObE}
  (a0:LD P K ay 0=some (aX,ks)) (b:nj ks.length (rK P l Ab aM al f aX ks.length)=some (x,ar.map En.be,os.map ObE.be))
  (a8:∀T:Tab,AK T (Aj 0 ks)->Bnd T 0 ks->fC B T 0 ks->AR T (ar.map En.be)->JF T os/\Go.Eng.B T x=true)
  {W:List Value} {h:List (DataW H)} {ps:List MemPlace} (ht:DataW.TrodAll enc P w 0 sp bc ay W h ps) (hv:∀(j:Nat) t v,ay[j]? =some t->W[j]? =some v->Value.okWide P w .any base t v) (aa:∀d∈h,Dh B d):
  Calls P f (W:List Value).toArray w fun e E=>e= .returned (.bool true)/\Below w.heap.size w E:=by
 unfold nj at b;split at b
 .rename_i x0 ag aq hr;split at b
  .rename_i a1;injection b with b
   injection b with N b
   injection b with Y Z
   refine AAX q hm hl a0 hr a1 (fun T us A bm hT a2=>?_) ht hv aa;have y:AR T (FV aq.eqs.reverse):=MX fun p hp=>a2 p (List.mem_reverse.1 hp);rw[Y] at y;have s:∀j u,us[j]? =some u->T (0+j)=u:=fun j u hj=>by rw[ABJ];exact hT j u hj
   obtain⟨i1,i2⟩:=R9 (x:=0) (AL.up q A) s;obtain⟨C,O⟩:=a8 T i1 i2 (ji A s) y;have k:=Iw C;rw[<-Z] at k;refine⟨Ig k,?_⟩;rw[N];exact bY (ad:=some x) O
  .cases b
 .cases b
end
section
open Go
abbrev Knw:=List (Nat × Ty × Rf)
def look:Knw->Nat->Ty->Option Rf
 |[],_,_=>none
 |(y,t,r)::l,x,u=>bif Nat.beq y x&&Oi t u then some r else look l x u
inductive SE where
 |k (t:Ty) (r:Rf)
 |q (op:Opn) (rs:List Rf)
open Go
end
section
open Go
theorem AE.cut {T:Tab}{a b:List En}(h:AE T (a++b)):AE T a/\AE T b:=⟨h.left,h.right⟩
theorem zN:(∀(T:Tab) (x:Nat),bR T (.n x)= !B T x)/\(∀b:Bool,((!b)=true)=(b=false))/\(∀b:Bool,(¬b=true)=(b=false)):=
 ⟨fun T x=>bR_n,fun b=>Bool.not_eq_true' b,fun b=>Bool.not_eq_true b⟩
theorem zC:(∀(T:Tab) (b:Bool),bR T (.c (.bool b))=b)/\((false=true)=False)/\(∀{aW:Sort 1} (a:aW),(a=a)=True)/\(∀p:Prop,(p/\True)=p)/\(∀p:Prop,(p/\False)=False)/\(∀p:Prop,(p\/False)=p)/\(∀p:Prop,(False\/p)=p)/\(∀p:Prop,(True/\p)=p)/\(∀p:Prop,(False/\p)=False):=
 ⟨fun T b=>bR_c,ABW,fun a=>eq_self a,and_true,and_false,or_false,false_or,true_and,false_and⟩
open Go
open Go
theorem zR:(∀(T:Tab) (x:Nat),iR T (.e x)=I T x)/\(∀(T:Tab) (n:Int),iR T (.c (.int n))=n):=
 ⟨fun T x=>iR_e,fun T n=>iR_c⟩
theorem zL:(∀(T:Tab) (x:Nat),lR T (.e x)=L T x)/\(∀T:Tab,lR T (.c (.list []))=[]):=
 ⟨fun T x=>lR_e,fun T=>lR_c⟩
theorem zS:(∀(T:Tab) (x:Nat),stR T (.e x)=S T x)/\(∀(T:Tab) (s:ByteArray),stR T (.c (.str s))=s):=
 ⟨fun T x=>AAs,fun T s=>AAe⟩
theorem zW:(∀(f:Ty->Rf->U) (a:Ty) (b:Rf) (l:List Ty) (r:List Rf),List.zipWith f (a::l) (b::r)=f a b::List.zipWith f l r)/\(∀(f:Ty->Rf->U) (r:List Rf),List.zipWith f [] r=[])/\(∀(a:U) (l:List U) (n:Nat),List.take (n+1) (a::l)=a::List.take n l)/\(∀l:List U,List.take 0 l=[])/\(∀(a:U) (l:List U) (n:Nat),List.drop (n+1) (a::l)=List.drop n l)/\(∀l:List U,List.drop 0 l=l):=
 ⟨fun _ _ _ _ _=>rfl,fun _ _=>rfl,fun _ _ _=>rfl,fun _=>rfl,fun _ _ _=>rfl,fun _=>rfl⟩
end
section
def Hg:List Int:=[10,9,8,7,6,6,5,5,4,4,3,3,3,2,2,2,1,1,1,1]
def JP:List Int->Int->Int
 |[],_=>0
 |a::l,n=>if n<=0 then a else JP l (n - 1)
def Bg (a b:Int)(e:Bool):Int:=
 if e=true then (if a < b then 20 - JP Hg (min ((b - a) / 100) 19) else JP Hg (min ((a - b) / 100) 19)) else 10
def EI (g:Int):Int:=if g<=0 then 2000 - 40*g else 2000 - 50*g
def Bd (x b:Int):Int:=min (max (x+b) (-10000)) 10000
def Vy (x:Int):Nat->Int->Int
 |0,g=>g
 |n+1,g=>if EI (g - 1)<=x then Vy x n (g - 1) else g
def upN (x:Int):Nat->Int->Int
 |0,g=>g
 |n+1,g=>if x<=EI (g+1) then upN x n (g+1) else g
def CA (x g:Int):Int:=Vy x (g+12).toNat g
def upG (x g:Int):Int:=upN x (48 - g).toNat g
def EX (x g:Int):Int:=upG x (CA x g)
variable{x g:Int}
theorem ZJ (h: -12 < g)(O:EI (g - 1)<=x):CA x g=CA x (g - 1):=by
 unfold CA;rw[show (g+12).toNat=(g - 1+12).toNat+1 by omega];show (if _ then _ else _)=_;rw[ACE O]
theorem Xx (h:¬(-12 < g/\EI (g - 1)<=x)):CA x g=g:=by
 unfold CA;cases e:(g+12).toNat with
 |zero=>rfl
 |succ n=>
  show (if _ then _ else _)=_;rw[ACD fun a=>h ⟨by omega,a⟩]
theorem jW (h:g < 48)(O:x<=EI (g+1)):upG x g=upG x (g+1):=by
 unfold upG;rw[show (48 - g).toNat=(48 - (g+1)).toNat+1 by omega];show (if _ then _ else _)=_;rw[ACE O]
theorem jk (h:¬(g < 48/\x<=EI (g+1))):upG x g=g:=by
 unfold upG;cases e:(48 - g).toNat with
 |zero=>rfl
 |succ n=>
  show (if _ then _ else _)=_;rw[ACD fun a=>h ⟨by omega,a⟩]
theorem xX (n:Nat):∀g:Int,g+12=n-> -12<=Vy x n g/\Vy x n g<=g:=by
 induction n with
 |zero=>exact fun g h=>⟨by show -12<=g;omega,ABt _⟩
 |succ n b=>
  intro g h;unfold Vy;split
  .have:=b (g - 1) (by omega);omega
  .omega
theorem AAy (n:Nat):∀g:Int,48 - g=n->g<=upN x n g/\upN x n g<=48:=by
 induction n with
 |zero=>exact fun g h=>⟨ABt _,by show g<=48;omega⟩
 |succ n b=>
  intro g h;unfold upN;split
  .have:=b (g+1) (by omega);omega
  .omega
theorem wq (h: -12<=g)(O:g<=48): -12<=EX x g/\EX x g<=48:=by
 have a:=xX (x:=x) (g+12).toNat g (by omega);have b:=AAy (x:=x) (48 - CA x g).toNat (CA x g) (by unfold CA;omega);show -12<=upN _ _ _/\upN _ _ _<=48;unfold CA at*;omega
theorem wK (x b:Int): -10000<=Bd x b/\Bd x b<=10000:=by unfold Bd;omega
end
section
open Go Go.RowKit
variable{T:Tab}{V:Nat->Option Nat}{w ab:World}
theorem AI.below {n:Nat}(h:Below w.heap.size w ab):AI T n V [] w V [] ab where
 os:=h.os
 tape:=h.tape
 output:=h.output
 size:=h.size
 mlen:=fun _ h=>h
 rho:=fun id h=>by simp[Mem.at,Blk.ptrOk] at h
 untr:=fun _ _ h=>h
 fresh:=fun id b _ h _=>by simp[Mem.at,Blk.tracked] at h
 old:=fun k q _=>h.block k q
 tok:=fun id x ks e h=>by simp[Mem.at] at h
 row:=fun id x y ks e h=>by simp[Mem.at] at h
theorem AH.below {n aj:Nat}{ac:Nat->Option Nat}(k:AH T n V [] w)(h:Below w.heap.size w ab):AH T aj ac [] ab where
 blk:=fun id=>by simp[Mem.at,BS]
 inj:=fun id q b h=>by simp[Mem.at,Blk.tracked] at h
 fr:=fun b off e=>k.fr b off (ABS h.size e)
theorem WU {P:Program}{f:FuncId}{t:AU}(E:t.blks=[])(N:t.m'=[])(K:∃aC,P.funcs[f]? =some aC/\aC.body.isSome=true/\(aC.name== "runtime.NumGoroutine")=false)
  (h:∀(T:Tab) (us:List U),us.length=t.n->(∀j u,(t.us us)[j]? =some u->T j=u)->(∀p∈t.pre,p.2 us)->∀ V w W,AF T t.n V [] w t.args W->
   Calls P f (W:List Value).toArray w fun e ab=>∃v,e= .returned v/\Below w.heap.size w ab/\AA T (t.n+t.outs.length) V [] ab t.c v) (Y:t.row=none:=by rfl):AW P f t:=by
 refine⟨fun _=>⟨⟨0,[],.nil⟩, #[],.skip,.skip,[]⟩,fun T us _ H C O V w W q k=>⟨K,?_⟩⟩;have A:t.m=[]:=by unfold AU.m;rw[Y,E];rfl
 rw[A] at q k⊢;rw[N];exact (h T us H C O V w W q).mono fun e ab ⟨v,s,b,y⟩=>⟨v, V,s,AI.below b,k.below b,y⟩
end
section
open Go Go.RowKit
open Go.ChangeMaps (setBlock)
section
variable {P:Program}{T:Tab}{n:Nat}{V :Nat->Option Nat}{m:Mem}{w ab:World}{a:Act}{l:Loc}{r:Option Nat}{ao:Nat}
theorem AI.off {k aj:Nat}{ac:Nat->Option Nat}{ag:Mem}(aa:AI T aj V m w ac ag ab)(s:k < w.heap.size)(e:∀id,(m.at id).tracked=true-> V id≠some k):∀id,(ag.at id).tracked=true-> ac id≠some k:=fun id q b=>by
 rcases aa.back q b with h|⟨C,O⟩
 .omega
 .exact e id C O
theorem D7.put {B D:Nat}{o:Obj}{b:List Deferred}(h:D7 B V m w b)(K:∀x,w.heap[D]? ≠some (.deferred x)):D7 B V m (w.putObj D o) b:=by
 obtain⟨y,s,C,O,A⟩:=h;refine⟨by rw[World.putObj_size];exact y,s,C,O,fun q H=>?_⟩;obtain⟨N,k,E⟩:=A q H;exact⟨N,by rw[World.putObj_heap_other (fun e=>by subst e;exact K _ k)];exact k,E⟩
variable{o:Oper}{d:Tmp}{v:Value}{i:Nat}{Q:Exit->Act->World->Prop}{x:Operand}
theorem DD (h:d < a.tmps.size):(a.put (some d) v).eval (.tmp d)=v:=by
 simp[Act.put,Act.eval,ABG,h]
theorem DJ {i:Tmp}(h:i≠d):(a.put (some d) v).eval (.tmp i)=a.eval (.tmp i):=by
 simp[Act.put,Act.eval,ABG,Array.getElem?_setIfInBounds_ne (Ne.symm h)]
theorem CP {d:Option Tmp}:(a.put d v).tmps.size=a.tmps.size:=by cases d<;>simp[Act.put]
theorem Rel.putNone (h:Rel T n V l a w)(hd:l.tmps.get d=none)(v:Value):Rel T n V l (a.put (some d) v) w:=by
 refine⟨h.defers,by rw[CP];exact h.size,fun i c b=>?_,h.mem⟩;have k:i≠d:=fun e=>by subst e;rw[hd] at b;cases b
 have:(a.put (some d) v).tmps.getD i undef=a.tmps.getD i undef:=DJ k;rw[this];exact h.tmps i c b
theorem Bo {Z:Array Oper}{b:List Nat}(k:Z[i]? =some o)(e:o.guard=none)(h:o.wpIn (fen r) ao P a w (wpOpsIn (fen r) ao P Z Q b) Q):
  wpOpsIn (fen r) ao P Z Q (i::b) a w:=by
 simp only[wpOpsIn,k];rw[ACE (by simp[Region.wanted,e])];exact h
theorem D6 {K:Act->World->Prop}(e:∀c,o.op≠ .defer c)(h:(execOp a.eval o).run P w= .ok (.value v) ab)(b:K (a.put o.dst v) ab):o.wpIn (fen r) ao P a w K Q:=
 J2 e (by rw[h];exact b)
theorem Uc (b:o.op= .move x):(execOp a.eval o).run P w= .ok (.value (a.eval x)) w:=by
 simp[execOp,b]
theorem OV {W:Array Value}(b:o.op= .extract x i)(e:a.eval x= .tuple W)(Y:W[i]? =some v):(execOp a.eval o).run P w= .ok (.value v) w:=by
 simp[execOp,b,e,Instr.extract,Y]
theorem sy {t:TypeId}(b:o.op= .range t x)(h:(Instr.range t (a.eval x)).run P w= .ok v ab):(execOp a.eval o).run P w= .ok (.value v) ab:=by
 simp[execOp,b,h]
theorem dZ (b:o.op= .next x false)(h:(Instr.next (a.eval x) false o.type).run P w= .ok v ab):(execOp a.eval o).run P w= .ok (.value v) ab:=by
 simp[execOp,b,h]
theorem pe (b:o.op= .entry x)(h:(Instr.entry (a.eval x)).run P w= .ok v ab):(execOp a.eval o).run P w= .ok (.value v) ab:=by
 simp[execOp,b,h]
theorem DV.drew (T:Tab)(n:Nat)(V :Nat->Option Nat)(m:Mem)(B:Nat)(w:World)(e:AH T n V m w):DV T n V m B w w.drew:=
 ⟨rfl,rfl,rfl,rfl,fun _ _=>rfl,fun c v b=>AA.mono (AI.drawn T n V m w (w.drawn+1)) e (ABB _) c v b,fun b=>b.drawn (w.drawn+1)⟩
end
structure RgP where
 di:Tmp
 dn:Tmp
 db:Tmp
 de:Tmp
 dv:Tmp
 bid:Nat
 bi:Nat
 i2:Nat
 i3:Nat
 o1:Oper
 o2:Oper
 o3:Oper
 o4:Oper
 l3:List Oper
 rest:Code
def RgP.ops3 (p:RgP):Array Oper:=(p.o3::p.o4::p.l3).toArray
def RgP.body (p:RgP):Code:= .seq (.region p.i2 [p.o1,p.o2].toArray false) (.seq (.cond (.tmp p.db) .skip (.exit p.bid)) (.block p.bi (.seq (.region p.i3 p.ops3 false) p.rest)))
structure RgP.Ok (p:RgP):Prop where
 o1:p.o1.op= .next (.tmp p.di) false/\p.o1.dst=some p.dn/\p.o1.guard=none
 o2:p.o2.op= .extract (.tmp p.dn) 0/\p.o2.dst=some p.db/\p.o2.guard=none
 o3:p.o3.op= .entry (.tmp p.di)/\p.o3.dst=some p.de/\p.o3.guard=none
 o4:p.o4.op= .extract (.tmp p.de) 1/\p.o4.dst=some p.dv/\p.o4.guard=none
def RgP.free (p:RgP)(t:AZ):Bool:=[p.dn,p.db,p.de,p.dv].all fun d=>(t.get d).isNone&&Nat.blt d t.n&& !Nat.beq p.di d
theorem jS {p:RgP}{t:AZ}(h:p.free t=true):∀d∈[p.dn,p.db,p.de,p.dv],t.get d=none/\d < t.n/\p.di≠d:=fun d hd=>by
 have:=ABb.1 h d hd;rw[AA8,AA8] at this;exact⟨by simpa using this.1.1,by simpa using this.1.2,fun e=>by have O:=this.2;rw[(Dw _ _).2 e] at O;cases O⟩
section
variable {P:Program}{T:Tab}{n:Nat}{V :Nat->Option Nat}{w ab:World}{a:Act}{l:Loc}{ao:Nat}
theorem yG {p:RgP}(b:p.Ok){A aO k:Nat}{E:Array Nat}{ar:Array MapEntry}{Q:Exit->Act->World->Prop}
  (hf:p.free l.tmps=true) (Y:Rel T n V l a w) (K:a.eval (.tmp p.di)= .pointer (some ⟨aO,0,none⟩))
  (hr:w.heap[aO]? =some (.mapIter (some A) k E k)) (hb:w.heap[A]? =some (.map ar k)) (a3:∀x∈ar.toList,x.born < k)
  (hK:(leftOf ar E).size=0->∀q,Rel T n V l q w->q.eval (.tmp p.db)= .bool false->Q .normal q w)
  (hE:∀e∈(leftOf ar E).toList,∀aG,(aG=w\/aG=w.drew)->∀q,(∀N,Rel T n V l a N->Rel T n V l q N)->q.eval (.tmp p.db)= .bool true->q.eval (.tmp p.di)= .pointer (some ⟨aO,0,none⟩)->
   Q .normal q (setBlock aG aO (.mapIter (some A) k (E.push e.born) k))):
  (Code.region p.i2 [p.o1,p.o2].toArray false).wpIn (fen none) ao P Q a w:=by
 have W:=jS hf;have s:=W p.dn (by simp);have y:=W p.db (by simp);have H:a.tmps.size=l.tmps.n:=Y.size;refine wpIn_region ?_;show wpOpsIn (fen none) ao P [p.o1,p.o2].toArray Q [0,1] a w;refine Bo (o:=p.o1) rfl b.o1.2.2 ?_;rcases run_next_at (P:=P) w p.o1.type aO A k k E ar k hr hb a3 (ABB _) with⟨Z,C⟩|⟨e,he,aG,a6,C⟩
 .refine D6 (by rw[b.o1.1];exact fun c h=>by cases h) (dZ b.o1.1 (by rw[K];exact C)) ?_;rw[b.o1.2.1];refine Bo (o:=p.o2) rfl b.o2.2.2 ?_;refine D6 (by rw[b.o2.1];exact fun c h=>by cases h) (OV b.o2.1 (DD (by rw[H];exact s.2.1)) (v:= .bool false) rfl) ?_;rw[b.o2.2.1];exact hK Z _ ((Y.putNone s.1 _).putNone y.1 _) (DD (by rw[CP,H];exact y.2.1))
 .refine D6 (by rw[b.o1.1];exact fun c h=>by cases h) (dZ b.o1.1 (by rw[K];exact C)) ?_;rw[b.o1.2.1];refine Bo (o:=p.o2) rfl b.o2.2.2 ?_;refine D6 (by rw[b.o2.1];exact fun c h=>by cases h) (OV b.o2.1 (DD (by rw[H];exact s.2.1)) (v:= .bool true) rfl) ?_;rw[b.o2.2.1];refine hE e he aG a6 _ (fun N O=>(O.putNone s.1 _).putNone y.1 _) (DD (by rw[CP,H];exact y.2.1)) ?_;rw[DJ y.2.2,DJ s.2.2];exact K
def Vb:Kd->Bool| .int .. =>true| .bool=>true| .str=>true|_=>false
variable{ar:List MapEntry}{v:Value}{base:Nat}{M:List Nat}
theorem uc {ok N:Nat->Nat->Prop}{w ab:World}{k:Kd}{u:U}(h:Vb k=true)(b:AX ok w k u v):AX N ab k u v:=by
 cases k<;>first|exact b|cases h
def PS:List Kd->Nat->List AC
 |[],_=>[]
 |k::ks,n=>Lg k n::PS ks (n+1)
def TJ (ks:List Kd)(aT:Bool)(n:Nat):AC:=if aT then .agg (PS ks n) else (PS ks n).headD .any
theorem WV {m:Mem}{ok:Nat->Nat->Prop}{aH:World}:∀{ks:List Kd} {us:List U} {W:List Value} {n0:Nat},ks.all Vb=true->AT ok aH ks us W->(∀j u,us[j]? =some u->T (n0+j)=u)->n0+ks.length<=n->AF T n V m w (PS ks n0) W
 |[],_,_,_,_,h,_,_=>h.2
 |k::ks,_,_,n0,hk,⟨u,us',v,vs',e1,e2,C,O⟩,hT,hn=>by
  subst e1 e2;simp only[List.all_cons,AA8] at hk;simp only[ABa] at hn;refine⟨v,vs',rfl,E5 (by omega) ?_,WV hk.2 O (fun j e b=>?_) (by omega)⟩
  .rw[show T n0=u from hT 0 u rfl];exact uc hk.1 C
  .rw[show n0+1+j=n0+(j+1) by omega];exact hT (j+1) e (by simpa using b)
theorem wR {m:Mem}{ok:Nat->Nat->Prop}{aH:World}{ks:List Kd}{aT:Bool}{us:List U}{n0:Nat}(s:ks.all Vb=true)(h:CJ ok aH ks aT us v)(q:∀j u,us[j]? =some u->T (n0+j)=u)(y:n0+ks.length<=n):
  AA T n V m w (TJ ks aT n0) v:=by
 obtain⟨W,C,O⟩:=h;have b:=WV (n:=n) (V := V) (m:=m) (w:=w) s C q y;unfold TJ;cases aT with
 |true=>
  simp only[if_true] at O⊢;exact⟨W,O,b⟩
 |false=>
  simp only[ABW,if_false] at O⊢;subst O;cases A:PS ks n0 with
  |nil=>trivial
  |cons c aD=>
   rw[A] at b;obtain⟨u,E,e,k,_⟩:=b;cases e;exact k
theorem pU (b:∀(i:Nat) (e:MapEntry),ar[i]? =some e->e.born=base+i):(ar.map (·.born)).Nodup:=by
 refine ACG.2 fun i j Y h k=>?_;simp only[List.length_map] at Y h;simp only[List.getElem_map];rw[b i _ (ABC Y),b j _ (ABC h)];omega
theorem tz (b:∀(i:Nat) (e:MapEntry),ar[i]? =some e->e.born=base+i){e:MapEntry}(h:e∈(leftOf ar.toArray (M.map (base+ ·)).toArray).toList):
  ∃i,ar[i]? =some e/\i ∉ M/\e.born=base+i:=by
 simp only[leftOf,Array.toList_filter,List.mem_filter] at h;obtain⟨C,O⟩:=h;obtain⟨i,Y⟩:=ABZ.1 C;grind
theorem sM (k:∀(i:Nat) (e:MapEntry),ar[i]? =some e->e.born=base+i)(h:(leftOf ar.toArray (M.map (base+ ·)).toArray).size=0){i:Nat}(Y:i < ar.length):i∈M:=by
 have b:leftOf ar.toArray (M.map (base+ ·)).toArray= #[]:=Array.eq_empty_of_size_eq_zero h;unfold leftOf at b;rw[Array.filter_eq_empty_iff] at b;have C:=b ar[i] (by simp);rw[k i _ (ABC Y)] at C;simp at C;exact C
end
theorem Mp:∀(n:Nat) (M:List Nat),M.Nodup->(∀j∈M,j < n)->M.length<=n
 |0,M,_,h=>by
  cases M with
  |nil=>exact ABB _
  |cons a l=>exact absurd (h a (ABK ..)) (by omega)
 |n+1,M,hn,h=>by
  have C:=Mp n (M.erase n) (hn.erase n) (fun j b=>by
   have:=(hn.mem_erase_iff).1 b;have:=h j this.2;omega)
  rw[List.length_erase] at C;split at C<;>omega
structure bv (P:Program) (call:A7) (hint:Ct) (ys:Ys) (fuel:Nat) (p:RgP) (pc:PC) (n1:Nat) (hd:Loc) (idr:Nat) (vk:List Kd) (va:Bool) (s1:RS) (pc2:PC) (l2:Loc) (g2:G) (z:Rf) (ps:List Pr) (fv:List Nat):Prop where
 di:hd.tmps.get p.di=some (.ptr idr 0)
 gone:hd.mem.at idr= .gone
 free:p.free hd.tmps=true
 flat:vk.all Vb=true
 steps:DO P call ys p.ops3 pc p.l3 ⟨hd.tmps.set p.dv (TJ vk va (n1+1)),hd.mem,⟨n1+1+vk.length,[],[],[]⟩,[]⟩=some s1
 code:Bm P call hint false ys fuel p.bi p.rest pc ⟨s1.tmps.commit hint.keep,s1.mem⟩ s1.g=some ([⟨.normal,pc2,l2⟩],g2)
 mat:Ep [] n1 [z] hd l2=some ps
 scope:CT fv n1 (n1+1+vk.length) g2.n g2.eqs=true
 fvs:fv.all (fun x=>Nat.blt x n1)=true
 lps:g2.lps=[]
section
variable {P:Program}{call:A7}{aR:Ct}{ap:Ys}{aM:Nat}{p:RgP}{ad:PC}{av:Nat}{hd:Loc}{aE:Nat}{aJ:List Kd}{aT:Bool}{aF:RS}{aw:PC}{ah:Loc}{au:G}{z:Rf}{ps:List Pr}{fv:List Nat}{ao:Nat}
theorem pI (hm:P.follows .mixedOrders=true)(d0:∀T,Ca P T call)(et:∀lp,DI P lp ap)(hp:p.Ok)
  (E:bv P call aR ap aM p ad av hd aE aJ aT aF aw ah au z ps fv) {T:Tab} (el:pcv T ad) (em:∀c,ad=some c->c < av)
  {l:U'} {ar:List MapEntry} {base A aO I:Nat} (d6:ar.length=l.length) (b0:∀(i:Nat) (e:MapEntry),ar[i]? =some e->e.born=base+i)
  (hh:∀(i:Nat) us e,l[i]? =some us->ar[i]? =some e->∃u1 u2 ok aH,us=u1++u2/\u1.length=I/\CJ ok aH aJ aT u2 e.val)
  {F:List U->U'}
  (hr:∀(Z:Tab) (M:List Nat) (i:Nat) (us:List U) (s:U'),Cg T Z av->M.Nodup->(∀j∈M,j < l.length)->i ∉ M->l[i]? =some us->s=(M.map fun j=>l.getD j []).flatMap F->Z av= .list s->
   (∀j u,(us.drop I)[j]? =some u->Z (av+1+j)=u)->(∀q∈au.eqs,Z q.1=q.2.eval Z)->(∀q∈au.obs,q.holds Z)/\(pcv Z aw->(∀q∈ps,q.holds Z)/\z.eval Z= .list (s++F us)))
  {n0:Nat} {a3:Nat->Option Nat} {aP:Mem} {aH:World} (gl:AH T n0 a3 aP aH) (gn:n0<=av) (g2:aH.heap.size<=aO)
  {Q:Exit->Act->World->Prop}
  (hQ:∀(M:List Nat) (s:U') N a1 aG,M.Perm (List.range l.length)->s=(M.map fun j=>l.getD j []).flatMap F->Rel (T.upd av (.list s)) (av+1) N hd a1 aG->AI (T.upd av (.list s)) n0 a3 aP aH N hd.mem aG->Q .normal a1 aG):
  ∀(k:Nat) (M:List Nat) (s:U') N a1 aG,l.length - M.length<=k->M.Nodup->(∀j∈M,j < l.length)->s=(M.map fun j=>l.getD j []).flatMap F->
   Rel (T.upd av (.list s)) (av+1) N hd a1 aG->AI (T.upd av (.list s)) n0 a3 aP aH N hd.mem aG-> N aE=some aO->
   aG.heap[aO]? =some (.mapIter (some A) (base+ar.length) (M.map (base+ ·)).toArray (base+ar.length))->aG.heap[A]? =some (.map ar.toArray (base+ar.length))->
   (∀id,(hd.mem.at id).tracked=true-> N id≠some aO)->(∀id,(hd.mem.at id).tracked=true-> N id≠some A)->
   Code.roundsIn (fen none) ao P p.body (Exit.inBlock p.bid Q) (k+1) a1 aG:=by
 have ev:∀u,Cg T (T.upd av u) av:=fun u=>⟨fun x K=>C0 _ _ (by omega),rfl,rfl⟩;intro k;induction k using Nat.strongRecOn with
 |_ k ih=>?_
 intro M s N a1 aG hk cs cl cu hR b5 d3 bk bc gr gs;rw[roundsIn_succ];have f6:a1.eval (.tmp p.di)= .pointer (some ⟨aO,0,none⟩):=by
  obtain⟨b,C,O,_⟩:=hR.tmps _ _ E.di;rw[d3] at C;cases C;exact O
 refine wpIn_seq (yG hp E.free hR f6 bk bc (fun x K=>?_) (fun h0 a' bs hb=>?_) fun e he a2 er a' bs hb f7=>?_)
 .obtain⟨i,Y⟩:=ABZ.1 K;have O:=(ABD.1 Y).1;rw[b0 i x Y];have:i < ar.length:=O;omega
 .
  refine wpIn_seq (wpIn_cond_false hb (wpIn_exit ?_));show Exit.inBlock p.bid Q (.exit p.bid) a' aG;simp only[Exit.inBlock,if_true];refine hQ M s N a' aG ?_ cu bs b5;refine (List.perm_ext_iff_of_nodup cs List.nodup_range).2 fun x=>⟨fun K=>List.mem_range.2 (cl x K),fun K=>sM b0 h0 (by rw[d6];exact List.mem_range.1 K)⟩
 .obtain⟨i,Y,ei,f2⟩:=tz b0 he;have d4:i < l.length:=by rw[<-d6];exact (ABD.1 Y).1
  have ee:(M++[i]).Nodup:=by
   rw[List.nodup_append];exact⟨cs,by simp,fun x K y hy=>by simp at hy;subst hy;exact fun e=>ei (e▸K)⟩
  have d7:∀j∈M++[i],j < l.length:=fun j hj=>by
   rcases ABm.1 hj with h|h
   .exact cl j h
   .simp at h;subst h;exact d4
  have f5:=Mp l.length _ ee d7;simp only[ABM,ABa,ABp] at f5;obtain⟨k',rfl⟩:∃k',k=k'+1:=⟨k - 1,by omega⟩;have f4:A < aG.heap.size:=(ABF.1 bc).1;have eo:aO < aG.heap.size:=(ABF.1 bk).1;have gp:A≠aO:=fun e=>by rw[e,bk] at bc;cases bc
  obtain⟨us,cx⟩:∃us,l[i]? =some us:=⟨_,ABC d4⟩;obtain⟨u1,u2,ok,wv,hf,ha,eq⟩:=hh i us e cx Y;have f8:us.drop I=u2:=by rw[hf,<-ha];simp
  have hE:u2.length=aJ.length:=by obtain⟨W,C,_⟩:=eq;have:=C.len;omega
  have dv:(T.upd av (.list s)) av= .list s:=Er _ _ _;have a6:Cg T (T.upd av (.list s)) av:=ev _;have dm:(T.upd av (.list s)).base=T.base:=rfl;generalize T.upd av (.list s)=aA at hR b5 bs dv a6 dm;obtain⟨c6,b2,c8⟩:=Nm u2 aA (av+1);obtain⟨aS,c2,db⟩:=Fa au.eqs (aA.upds (av+1) u2);have ci:∀q∈au.eqs,(BR (aA.upds (av+1) u2) au.eqs) q.1=q.2.eval (BR (aA.upds (av+1) u2) au.eqs):=FF (fun x K=>by have:=ABb.1 E.fvs x K;simpa using this) (by omega) E.scope;have a8:∀x,x < av+1->(BR (aA.upds (av+1) u2) au.eqs) x=aA x:=fun x K=>by
   rw[(CR (T:=aA.upds (av+1) u2) E.scope).2.2 x (.inl (by omega))];exact HK _ _ _ _ K
  have cf:∀j u,u2[j]? =some u->(BR (aA.upds (av+1) u2) au.eqs) (av+1+j)=u:=fun j u hj=>by
   have hA:=(ABD.1 hj).1;rw[(CR (T:=aA.upds (av+1) u2) E.scope).2.2 _ (.inl (by omega))];exact GO _ _ _ _ _ hj
  have bm:=aS.trans c6;have bo:=c2.trans b2;have b9:=db.trans c8;clear c6 b2 c8 aS c2 db;generalize BR (aA.upds (av+1) u2) au.eqs=J at ci a8 cf bm bo b9;have cc:Cg aA J (av+1):=⟨a8,bm,bo⟩;have bb:Cg T J av:=⟨fun x K=>(a8 x (by omega)).trans (a6.eq x K),bm.trans a6.fr,bo.trans a6.lp⟩;have e9:J.base=T.base:=b9.trans dm;obtain⟨gG,gm⟩:=hr J M i us s bb cs cl ei cx cu ((a8 av (by omega)).trans dv) (by rw[f8];exact cf) ci;have cv:pcv J ad:=by
   cases b3:ad with
   |none=>trivial
   |some c=>
    show J c= .bool true;rw[bb.eq c (em c b3)];rw[b3] at el;exact el
  have dk:Agr J au:=⟨ci,fun q hq=>by rw[E.lps] at hq;cases hq⟩;have dn:Ar J au:=fun o ho=>gG o ho;have d9:AH J (av+1) N hd.mem aG:=hR.mem.tab cc;have bt:=bs aG hR;have bx:Rel J (av+1) N hd a' aG:=⟨by rw[b9];exact bt.defers,bt.size,fun i c hc=>AA.tab cc.eq (fun b off h=>cc.safe bt.mem h) _ _ (bt.tmps i c hc),d9⟩;have a9:a2.heap=aG.heap:=by rcases er with rfl|rfl<;>rfl
  have e8:DV J (av+1) N hd.mem aH.heap.size aG a2:=by
   rcases er with rfl|rfl
   .exact DV.refl _ _ _ _ _ _
   .exact DV.drew _ _ _ _ _ _ d9
  have ba:DV J (av+1) N hd.mem aH.heap.size aG (a2.putObj aO (.mapIter (some A) (base+ar.length) ((M.map (base+ ·)).toArray.push e.born) (base+ar.length))):=
   e8.trans (DV.put ⟨_,by rw[a9];exact bk,rfl⟩ g2 (fun _ _ _ h=>by cases h))
  have cy:(a2.putObj aO (.mapIter (some A) (base+ar.length) ((M.map (base+ ·)).toArray.push e.born) (base+ar.length))).heap[aO]? =some (.mapIter (some A) (base+ar.length) ((M.map (base+ ·)).toArray.push e.born) (base+ar.length)):=
   World.putObj_heap_same (by rw[a9];exact eo)
  have c0:(a2.putObj aO (.mapIter (some A) (base+ar.length) ((M.map (base+ ·)).toArray.push e.born) (base+ar.length))).heap[A]? =some (.map ar.toArray (base+ar.length)):=by
   rw[World.putObj_heap_other gp,a9];exact bc
  have ca:Rel J (av+1) N hd a' (a2.putObj aO (.mapIter (some A) (base+ar.length) ((M.map (base+ ·)).toArray.push e.born) (base+ar.length))):=by
   refine⟨D7.put ?_ (fun x K=>?_),bx.size,fun i c hc=>ba.holds _ _ (bx.tmps i c hc),ba.mem bx.mem⟩
   .obtain⟨e1,Ds,e2,e3,e4⟩:=bx.defers;exact⟨by rw[a9];exact e1,Ds,e2,e3,fun D hD=>by rw[a9];exact e4 D hD⟩
   .rw[a9,bk] at K;cases K
  show (Code.seq _ _).wpIn (fen none) ao P _ a' (a2.putObj aO _);generalize hF:a2.putObj aO (.mapIter (some A) (base+ar.length) ((M.map (base+ ·)).toArray.push e.born) (base+ar.length))=wn at ba cy c0 ca⊢;have c1:wn.heap.size=aG.heap.size:=ba.size;refine wpIn_seq (wpIn_cond_true hb (wpIn_skip ?_));show (Code.block _ _).wpIn (fen none) ao P _ a' wn;refine wpIn_block (wpIn_seq (wpIn_region ?_));have g4:List.range p.ops3.size=0::1::List.range' 2 p.l3.length:=by
   simp[RgP.ops3,List.range_eq_range',List.range'_succ]
  rw[g4];have fr:=jS E.free;have f3:=fr p.de (by simp);have hw:=fr p.dv (by simp);have g8:a'.tmps.size=hd.tmps.n:=ca.size;refine Bo (o:=p.o3) (by simp[RgP.ops3]) hp.o3.2.2 ?_;refine D6 (by rw[hp.o3.1];exact fun c h=>by cases h) (pe hp.o3.1 (by
   rw[f7];exact run_entry_at wn aO A (base+ar.length) (M.map (base+ ·)).toArray ar.toArray (base+ar.length) e cy c0 (by simpa using List.mem_of_getElem? Y) (by simpa using pU b0))) ?_
  rw[hp.o3.2.1];refine Bo (o:=p.o4) (by simp[RgP.ops3]) hp.o4.2.2 ?_;refine D6 (by rw[hp.o4.1];exact fun c h=>by cases h) (OV hp.o4.1 (DD (by rw[g8];exact f3.2.1)) (v:=e.val) rfl) ?_;rw[hp.o4.2.1];have hi:AA J (av+1+aJ.length) N hd.mem wn (TJ aJ aT (av+1)) e.val:=wR E.flat eq cf (ABB _);have g1:Rel J (av+1+aJ.length) N ⟨hd.tmps.set p.dv (TJ aJ aT (av+1)),hd.mem⟩ ((a'.put (some p.de) (.tuple #[e.key,e.val])).put (some p.dv) e.val) wn:=
   Rel.put (tmps:=hd.tmps) (m:=hd.mem) ((ca.putNone f3.1 _).up (Nat.le_add_right _ _)) (some p.dv) hi
  obtain⟨di,hn⟩:=LA (T:=J) (r:=none) (ao:=ao) (d0 J) (et J.lp) E.steps;obtain⟨dj,hl⟩:=((MH hm d0 aR aM false ap J none ao p.bi p.rest (fun _=>rfl) (et _)).mono fun _ _ _ h=>TA h) ad _ aF.g _ au E.code;have en:∀g:G,av<=g.n->C4 g ad:=fun g hg=>by
   cases b3:ad with
   |none=>trivial
   |some c=>exact ABE (em c b3) hg
  have gd:av<=aF.g.n:=ABS (by show av<=av+1+aJ.length;omega) di.n;have hC:av+1+aJ.length<=aF.g.n:=di.n;obtain⟨hx,_,hu⟩:=hl dk (en _ gd);refine hn (dk.of dj) (dn.of dj) cv ((en ⟨av+1+aJ.length,[],[],[]⟩ (by show av<=av+1+aJ.length;omega)).ok cv) 2 N _ wn _ (fun j=>by simp[RgP.ops3,Nat.add_comm 2 j]) ⟨g1,fun e he=>by cases he⟩ fun aV c4 w2 ge bl=>?_;show p.rest.wpIn (fen none) ao P _ c4 w2;refine hu dn cv aV c4 w2 _ (Rel.less (l:=⟨aF.tmps,aF.mem⟩) ge.rel (AZ.commit_n _ _) fun i c hc=>AZ.get_commit _ _ _ hc) fun o ho gH c3 c5 w3 b6 g5=>?_;simp only[ABi] at ho;subst ho;show Code.roundsIn (fen none) ao P p.body (Exit.inBlock p.bid Q) (k'+1) c5 w3;obtain⟨g0,hz⟩:=gm gH;have cb:=ev (.list (s++F us));have f0:(T.upd av (.list (s++F us))) av= .list (s++F us):=Er _ _ _;have fd:(T.upd av (.list (s++F us))).base=T.base:=rfl;have d1:∀x,x < av->(T.upd av (.list (s++F us))) x=J x:=fun x K=>(cb.eq x K).trans (bb.eq x K).symm;have H:Fc J (T.upd av (.list (s++F us))) av (av+1) [z]:=fun j aO hj=>by
   cases j with
   |zero=>simp at hj;subst hj;exact⟨by omega,f0.trans hz.symm⟩
   |succ j=>simp at hj
  obtain⟨z1,z2,_⟩:=Hd (aA:=J) (J:=T.upd av (.list (s++F us))) E.mat (fun q hq=>by cases hq) (cb.fr.trans bb.fr.symm) (cb.lp.trans bb.lp.symm) (fd.trans e9.symm) d1 (Nat.le_succ av) H g0 g5;have d8:AH aA n0 a3 aP aH:=gl.tab ⟨fun x K=>a6.eq x (by omega),a6.fr,a6.lp⟩;have ds:Cg aA J n0:=⟨fun x K=>a8 x (by omega),bm,bo⟩;have b1:AH J n0 a3 aP aH:=d8.tab ds;have g6:AI J n0 a3 aP aH N hd.mem wn:=(AI.tab ds d8 b5 (fun id L af e' K=>a8 _ (hR.mem.tok_lt K))).after b1 ba;have g7:AI J n0 a3 aP aH c3 ah.mem w3:=(g6.trans b1 (by show n0<=av+1+aJ.length;omega) bl).trans b1 (by omega) b6;have off:∀k0,k0 < aG.heap.size->(∀id,(hd.mem.at id).tracked=true-> N id≠some k0)->w3.heap[k0]? =wn.heap[k0]? /\∀id,(hd.mem.at id).tracked=true-> c3 id≠some k0:=fun k0 cj ej=>by
   have C:=bl.old k0 (by rw[c1];exact cj) ej;have O:=bl.off (by rw[c1];exact cj) ej;have d5:k0 < w2.heap.size:=ABE (by rw[c1];exact cj) bl.size;have h3:=b6.old k0 d5 O;have h4:=b6.off d5 O;exact⟨h3.trans C,fun id ht=>h4 id (z2.tracked ht)⟩
  obtain⟨g3,gv⟩:=off aO eo gr;obtain⟨f1,gC⟩:=off A f4 gs;have d2:=bl.rho aE (by show (hd.mem.at aE).ptrOk=true;rw[E.gone];rfl);have gi:=b6.rho aE d2.2;refine ih k' (by omega) (M++[i]) (s++F us) c3 c5 w3 (by simp only[ABM,ABa,ABp];omega) ee d7 ?_ z1 (AI.matched z2 d1 gn b1 b5.mlen g7) (gi.1.trans (d2.1.trans d3)) ?_ (f1.trans c0) gv gC
  .rw[cu];simp[cx]
  .rw[g3,cy];simp[f2]
end
section
variable {P:Program}{T:Tab}{n:Nat}{V :Nat->Option Nat}{m:Mem}{w ab:World}{a:Act}{l:Loc}
theorem mM (q:AH T n V m w)(o:Obj):AI T n V m w (CS V m.length w.heap.size) (m++[.gone]) (w.alloc o)/\AH T n (CS V m.length w.heap.size) (m++[.gone]) (w.alloc o):=by
 have aa:=JK q o .gone;refine⟨aa,⟨fun id=>?_,fun id H b e s C E=>?_,fun b off h=>q.fr b off (ABS aa.size h)⟩⟩
 .by_cases k:id=m.length
  .subst k;rw[AV,ACE rfl];exact trivial
  .by_cases e:(m.at id).tracked=true
   .exact BS.step aa q (ABB _) (by rw[AV,ACD k]) (As _ _ _ k) (fun b K=>BJ w _ b (q.lt e K))
   .rw[AV,ACD k];cases y:m.at id with
    |pad=>trivial
    |gone=>trivial
    |cells=>rw[y] at e;exact absurd rfl e
    |lp=>rw[y] at e;exact absurd rfl e
    |tok=>rw[y] at e;exact absurd rfl e
    |mrow=>rw[y] at e;exact absurd rfl e
    |mapb=>rw[y] at e;exact absurd rfl e
 .rw[AV] at e s;by_cases k:id=m.length
  .rw[ACE k] at e;cases e
  .by_cases A:H=m.length
   .rw[ACE A] at s;cases s
   .rw[ACD k] at e;rw[ACD A] at s;rw[As _ _ _ k] at C;rw[As _ _ _ A] at E;exact q.inj id H b e s C E
theorem Rel.tabB {J:Tab}(e:Rel T n V l a w)(S:Cg T J n)(k:J.base=T.base):Rel J n V l a w:=
 ⟨by rw[k];exact e.defers,e.size,fun i c q=>AA.tab S.eq (fun b off h=>S.safe e.mem h) _ _ (e.tmps i c q),e.mem.tab S⟩
end
def WN (X:Loc)(av:Nat)(q h b k:Tmp)(keep:Nat)(ks:List Kd)(e:TypeId):Option (Nat × Nat × List Kd × Bool × List Kd × Bool × Loc):=
 if X.tmps.loc.isEmpty&&(X.tmps.get h).isNone&&(X.tmps.get b).isNone&&Nat.blt h X.tmps.n&&Nat.blt b X.tmps.n then
  match X.tmps.get q with
  |some (.mv idm)=>match X.mem.at idm with
   | .mapb x ao ka aJ aT=>
    match ((X.tmps.set b (.ptr X.mem.length 0)).commit keep).get k with
    |some (.cv .nilSlice)=>(Hc ⟨(X.tmps.set b (.ptr X.mem.length 0)).commit keep,((X.mem.set idm Blk.gone)++[Blk.gone])++[Blk.tok av ks e]⟩ ((X.mem.set idm Blk.gone)++[Blk.gone]).length av ks (.tmp k)).map fun hd=>(idm,x,ao,ka,aJ,aT,hd)
    |_=>none
   |_=>none
  |_=>none
 else none
section
variable {P:Program}{call:A7}{aR:Ct}{ap:Ys}{aM:Nat}{p:RgP}{ad:PC}{av:Nat}{hd X:Loc}{aJ:List Kd}{aT:Bool}{aF:RS}{aw:PC}{ah:Loc}{au:G}{z:Rf}{ps:List Pr}{fv:List Nat}{ao:Nat}
theorem vM (hm:P.follows .mixedOrders=true)(db:∀T,Ca P T call)(eo:∀lp,DI P lp ap)(hp:p.Ok)
  {tm Z K:Tmp} {keep:Nat} {ks:List Kd} {e:TypeId} {b x:Nat} {bo:List Kd} {ka:Bool} (H:WN X av tm Z p.di K keep ks e=some (b,x,bo,ka,aJ,aT,hd))
  (E:bv P call aR ap aM p ad av hd X.mem.length aJ aT aF aw ah au z ps fv)
  {i1:Nat} {q1 q2:Oper} {mt kt et:TypeId} (a8:q1.op= .move (.tmp tm)/\q1.dst=some Z/\q1.guard=none) (a9:q2.op= .range mt (.tmp Z)/\q2.dst=some p.di/\q2.guard=none) (d2:P.underlying mt=some (.map kt et))
  {T:Tab} (d7:pcv T ad) (d8:∀c,ad=some c->c < av)
  {F:List U->U'}
  (b9:∀(N:Tab) (M:List Nat) (i:Nat) (us:List U) (K:U'),Cg T N av->(T x).toL.length<=AB->M.Nodup->(∀j∈M,j < (T x).toL.length)->i ∉ M->(T x).toL[i]? =some us->K=(M.map fun j=>(T x).toL.getD j []).flatMap F->N av= .list K->
   (∀j u,(us.drop bo.length)[j]? =some u->N (av+1+j)=u)->(∀q∈au.eqs,N q.1=q.2.eval N)->(∀q∈au.obs,q.holds N)/\(pcv N aw->(∀q∈ps,q.holds N)/\z.eval N= .list (K++F us)))
  {V :Nat->Option Nat} {a:Act} {w:World} (hR:Rel T av V X a w)
  {Q:Exit->Act->World->Prop}
  (hQ:∀(M:List Nat) (K:U') ρ1 a1 aG,M.Perm (List.range (T x).toL.length)->K=(M.map fun j=>(T x).toL.getD j []).flatMap F->Rel (T.upd av (.list K)) (av+1) ρ1 hd a1 aG->AI (T.upd av (.list K)) av V X.mem w ρ1 hd.mem aG->Q .normal a1 aG):
  (Code.seq (.region i1 [q1,q2].toArray false) (.block p.bid (.loop p.body))).wpIn (fen none) ao P Q a w:=by
 unfold WN at H;split at H
 .rename_i hc;simp only[AA8] at hc;obtain⟨⟨⟨⟨aS,c2⟩,c3⟩,c4⟩,c5⟩:=hc;split at H
  .rename_i e5 dv;split at H
   .rename_i L e7 e6 e9 e8 bi;split at H
    .rename_i d3;simp only[ABU] at H;obtain⟨ey,em,H⟩:=H;cases H;have de:X.tmps.get Z=none:=by simpa using c2
     have e0:X.tmps.get p.di=none:=by simpa using c3
     have di:Z < X.tmps.n:=by simpa using c4
     have e4:p.di < X.tmps.n:=by simpa using c5
     obtain⟨A,bx,b1,_⟩:=hR.tmps _ _ dv;have b2:=hR.mem.blk b;rw[bi] at b2;obtain⟨hx,lr,b',ar,a6,c7,b0,bl,dn,d0,dj,base,dd,c9⟩:=b2;rw[bx] at b0;cases b0;subst dd;have c6:(T x).toL=lr:=by rw[c7];rfl
     rw[c6] at b9 hQ;have c8:A < w.heap.size:=(ABF.1 bl).1;have el:a.tmps.size=X.tmps.n:=hR.size;refine wpIn_seq (wpIn_region ?_);show wpOpsIn (fen none) ao P [q1,q2].toArray _ [0,1] a w;refine Bo (o:=q1) rfl a8.2.2 (D6 (by rw[a8.1];exact fun c h=>by cases h) (Uc a8.1) ?_);rw[a8.2.1];refine Bo (o:=q2) rfl a9.2.2 (D6 (by rw[a9.1];exact fun c h=>by cases h) (sy a9.1 (by
      rw[DD (by rw[el];exact di),show a.eval (.tmp tm)= .map (some A) from b1];exact run_range_map w mt kt et A ar.toArray (base+ar.length) d2 bl)) ?_)
     rw[a9.2.1];rw[show a.eval (.tmp tm)= .map (some A) from b1];show (Code.block p.bid (.loop p.body)).wpIn (fen none) ao P Q _ (w.alloc (.mapIter (some A) (base+ar.length) #[] (base+ar.length)));have c0:Cg T (T.upd av (.list [])) av:=⟨fun x hx=>C0 _ _ (by omega),rfl,rfl⟩;have c1:(T.upd av (.list [])) av= .list []:=Er _ _ _;have a3:Rel (T.upd av (.list [])) av V X a w:=hR.tabB c0 rfl;have b5:X.mem.at b≠ .pad:=by rw[bi];exact fun h=>by cases h
     have b7:∀id,Cq (T.upd av (.list [])) av av w (X.mem.at id) (Mem.at (X.mem.set b Blk.gone) id):=fun id=>by
      rw[Gq _ _ _ _ b5];split
      .exact .gone _
      .exact Cq.refl (ABB _) _
     have ee:=Ft a3.mem b7;have d1:=Pw a3.mem (ABB _) b7;obtain⟨ei,b4⟩:=mM d1 (.mapIter (some A) (base+ar.length) #[] (base+ar.length));have a7:(X.mem.set b Blk.gone).length=X.mem.length:=ABr;have bm:=ee.trans a3.mem (ABB _) ei;rw[a7] at bm b4;have cu:Rel (T.upd av (.list [])) av (CS (CE X.mem V) X.mem.length w.heap.size) ⟨X.tmps,(X.mem.set b Blk.gone)++[Blk.gone]⟩ a (w.alloc (.mapIter (some A) (base+ar.length) #[] (base+ar.length))):=
      Rel.on (tmps:=X.tmps) (m:=X.mem) a3 bm (ABB _) b4
     have b3:(CS (CE X.mem V) X.mem.length w.heap.size) X.mem.length=some w.heap.size:=Au _ _ _;have d9:AA (T.upd av (.list [])) av (CS (CE X.mem V) X.mem.length w.heap.size) ((X.mem.set b Blk.gone)++[Blk.gone]) (w.alloc (.mapIter (some A) (base+ar.length) #[] (base+ar.length))) (.ptr X.mem.length 0) (.pointer (some ⟨w.heap.size,0,none⟩)):=
      ⟨w.heap.size,b3,rfl,by
       have:Mem.at ((X.mem.set b Blk.gone)++[Blk.gone]) X.mem.length= .gone:=by rw[<-a7,AV,ACE rfl]
       rw[this];rfl⟩
     have cv:=Rel.put (cu.putNone (d:=Z) de (.map (some A))) (some p.di) d9;have cx:Rel (T.upd av (.list [])) av (CS (CE X.mem V) X.mem.length w.heap.size) ⟨(X.tmps.set p.di (.ptr X.mem.length 0)).commit keep,(X.mem.set b Blk.gone)++[Blk.gone]⟩ ((a.put (some Z) (.map (some A))).put (some p.di) (.pointer (some ⟨w.heap.size,0,none⟩))) (w.alloc (.mapIter (some A) (base+ar.length) #[] (base+ar.length))):=
      Rel.less (l:=⟨X.tmps.set p.di (.ptr X.mem.length 0),(X.mem.set b Blk.gone)++[Blk.gone]⟩) cv (AZ.commit_n _ _) fun i c hc=>AZ.get_commit _ _ _ hc
     obtain⟨_,_, cc,cy,ba⟩:=YM (T:=T.upd av (.list [])) (n:=av) (l:=⟨(X.tmps.set p.di (.ptr X.mem.length 0)).commit keep,(X.mem.set b Blk.gone)++[Blk.gone]⟩) (s:= .tmp K) rfl c1 d3 em cx;have ej:AI (T.upd av (.list [])) av V X.mem w cc hd.mem _:=bm.trans a3.mem (ABB _) ba;have dk:=ba.rho X.mem.length (by
      have:Mem.at ((X.mem.set b Blk.gone)++[Blk.gone]) X.mem.length= .gone:=by rw[<-a7,AV,ACE rfl]
      show (Mem.at ((X.mem.set b Blk.gone)++[Blk.gone]) X.mem.length).ptrOk=true;rw[this];rfl)
     have cb:∀id,(Mem.at ((X.mem.set b Blk.gone)++[Blk.gone]) id).tracked=true->id≠X.mem.length/\id≠b/\(X.mem.at id).tracked=true:=fun id y=>by
      rw[AV,a7] at y;by_cases Y:id=X.mem.length
      .rw[ACE Y] at y;cases y
      .rw[ACD Y,Gq _ _ _ _ b5] at y;by_cases bk:id=b
       .rw[ACE bk] at y;cases y
       .rw[ACD bk] at y;exact⟨Y,bk,y⟩
     have ca:∀id,id≠X.mem.length->(X.mem.at id).tracked=true->(CS (CE X.mem V) X.mem.length w.heap.size) id= V id:=fun id Y y=>by
      rw[As _ _ _ Y];exact CZ (fun h=>by rw[h] at y;cases y)
     have b6:(w.alloc (.mapIter (some A) (base+ar.length) #[] (base+ar.length))).heap.size=w.heap.size+1:=by simp
     have d4:=ba.off (k:=w.heap.size) (by rw[b6];exact Nat.lt_succ_self _) fun id y Y=>by
      obtain⟨C,O,h3⟩:=cb id y;rw[ca id C h3] at Y;exact absurd (hR.mem.lt h3 Y) (Nat.lt_irrefl _)
     have d5:=ba.off (k:=A) (by rw[b6];omega) fun id y Y=>by
      obtain⟨C,O,h3⟩:=cb id y;rw[ca id C h3] at Y;exact O (hR.mem.inj id b A h3 (by rw[bi];rfl) Y bx)
     refine wpIn_block (wpIn_loop_rounds (lr.length+1) ?_);exact pI hm db eo hp E d7 d8 (l:=lr) (ar:=ar) (base:=base) (A:=A) (aO:=w.heap.size) (I:=bo.length) dn c9 (fun i us e C O=>by
       obtain⟨u1,u2,e1,⟨W,e2,_⟩,e3⟩:=dj i us e C O;exact⟨u1,u2,_,_,e1,e2.len.2,e3⟩)
      (fun N M i us K C=>b9 N M i us K C d0) hR.mem (ABB _) (ABB _) hQ lr.length [] [] cc _ _ (Nat.sub_le _ _) List.nodup_nil (fun j hj=>by cases hj) rfl cy ej (dk.1.trans b3) (heap_alloc_new _ _) ((heap_alloc_old _ _ c8).trans bl) d4 d5
    .cases H
   .cases H
  .cases H
 .cases H
end
end
section
open Go Go.RowKit
def UO:Nat->Code->List Code × Code
 |n+1,.seq a b=>(a::(UO n b).1,(UO n b).2)
 |_,c=>([],c)
def nW:List Code->Code->Code
 |[],c=>c
 |a::l,c=> .seq a (nW l c)
def PJ (run:Code->PC->Loc->G->Option (List BC × G)):List Code->PC->Loc->G->Option (PC × Loc × G)
 |[],ad,l,g=>some (ad,l,g)
 |c::aD,ad,l,g=>match run c ad l g with
  |some ([⟨.normal,pc',ae⟩],aq)=>PJ run aD pc' ae aq
  |_=>none
theorem YH {P:Program}{T:Tab}{ao:Nat}{run:Code->PC->Loc->G->Option (List BC × G)}(Y:∀c,Cr T (fun Q a w=>c.wpIn (fen none) ao P Q a w) (run c)):∀{aD:List Code} {ad e:PC} {l ae:Loc} {g aq:G},
  PJ run aD ad l g=some (e,ae,aq)->Ac g aq/\(Agr T aq->C4 g ad->C4 aq e/\(Ar T aq->pcv T ad->∀ V a w b Q,Rel T g.n V l a w->AH T g.n V l.mem w->
   (pcv T e->∀ ac C ab,AI T g.n V l.mem w ac ae.mem ab->Rel T aq.n ac ae C ab->b.wpIn (fen none) ao P Q C ab)->(nW aD b).wpIn (fen none) ao P Q a w))
 |[],ad,e,l,ae,g,aq,h=>by
  simp only[PJ] at h;cases h;exact⟨Ac.refl _,fun _ y=>⟨y,fun _ A V a w b Q s _ q=>q A V a w (AI.refl _ _ _ _ _) s⟩⟩
 |c::aD,ad,e,l,ae,g,aq,h=>by
  simp only[PJ] at h;split at h
  .rename_i bm X g1 hr;obtain⟨K,k1⟩:=Y c ad l g _ g1 hr;obtain⟨k,E⟩:=YH Y h;refine⟨K.trans k,fun N y=>?_⟩;obtain⟨q1,_,q3⟩:=k1 (N.of k) y;obtain⟨p1,p2⟩:=E N (q1.each _ (ABi.2 rfl)).1;refine⟨p1,fun W A V a w b Q s hm q=>wpIn_seq (q3 (W.of k) A V a w _ s fun o Z a5 bl H aG a7 O=>?_)⟩;simp only[ABi] at Z;subst Z;show (nW aD b).wpIn (fen none) ao P Q H aG;exact p2 W a5 bl H aG b Q O O.mem fun a3 aV a2 w2 a8 a0=>q a3 aV a2 w2 (a7.trans hm K.n a8) a0
  .cases h
structure RgC where
 pre:List Code
 i1:Nat
 q1:Oper
 q2:Oper
 tm:Tmp
 dm:Tmp
 out:Tmp
 mt:TypeId
 kt:TypeId
 et:TypeId
 ks:List Kd
 e:TypeId
 p:RgP
 post:Code
def RgC.code (c:RgC):Code:=nW c.pre (.seq (.seq (.region c.i1 [c.q1,c.q2].toArray false) (.block c.p.bid (.loop c.p.body))) c.post)
structure RgC.Ok (P:Program) (c:RgC):Prop where
 p:c.p.Ok
 q1:c.q1.op= .move (.tmp c.tm)/\c.q1.dst=some c.dm/\c.q1.guard=none
 q2:c.q2.op= .range c.mt (.tmp c.dm)/\c.q2.dst=some c.p.di/\c.q2.guard=none
 mt:P.underlying c.mt=some (.map c.kt c.et)
structure RgO where
 pc:PC
 l1:Loc
 g1:G
 x:Nat
 kks:List Kd
 vk:List Kd
 va:Bool
 hd:Loc
 s1:RS
 pc2:PC
 l2:Loc
 g2:G
 zx:Nat
 ps:List Pr
 fv:List Nat
 outs:List BC
 g3:G
 c0:AC
 m0:Mem
 g4:G
def aD (P:Program)(call:A7)(aR:Ct)(ap:Ys)(aM:Nat)(c:RgC)(aC:Func)(args:List AC)(m:Mem)(n:Nat):Option RgO:=do
 let (ad,X,g1) <-PJ (Bm P call aR false ap aM 0) c.pre none ⟨Ht aC.ntmps args,m⟩ ⟨n,[],[],[]⟩;let (_,x,kks,_,aJ,aT,hd) <-WN X g1.n c.tm c.dm c.p.di c.out aR.keep c.ks c.e;let aF<-DO P call ap c.p.ops3 ad c.p.l3 ⟨hd.tmps.set c.p.dv (TJ aJ aT (g1.n+1)),hd.mem,⟨g1.n+1+aJ.length,[],[],[]⟩,[]⟩
 match Bm P call aR false ap aM c.p.bi c.p.rest ad ⟨aF.tmps.commit aR.keep,aF.mem⟩ aF.g with
 |some ([⟨.normal,aw,ah⟩],au)=>
  match ah.tmps.get c.out,hd.tmps.get c.p.di,hd.mem.at X.mem.length with
  |some (.vec _ zx _),some (.ptr aE 0),.gone=>do
   let ps<-Ep [] g1.n [.e zx] hd ah;let fv:=(SU g1.n au.eqs aw [.e zx] []);let (L,g3) <-Bm P call aR false ap aM 0 c.post ad hd ⟨g1.n+1,[],[],[]⟩;let (aN,aP,g4) <-Cv (Lc P aC) L g3
   if Nat.beq aE X.mem.length&&c.p.free hd.tmps&&aJ.all Vb&&CT fv g1.n (g1.n+1+aJ.length) au.n au.eqs&&fv.all (fun x=>Nat.blt x g1.n)&&au.lps.isEmpty&&Nc n g1&&g1.lps.isEmpty&&CT [] 0 (g1.n+1) g4.n g4.eqs&&g4.lps.isEmpty&&Nat.ble args.length aC.ntmps&&Nat.blt x g1.n then
    some ⟨ad,X,g1,x,kks,aJ,aT,hd,aF,aw,ah,au,zx,ps,fv,L,g3,aN,aP,g4⟩
   else none
  |_,_,_=>none
 |_=>none
structure qa (P:Program) (call:A7) (hint:Ct) (ys:Ys) (fuel:Nat) (c:RgC) (fn:Func) (args:List AC) (m:Mem) (n:Nat) (o:RgO):Prop where
 parts:PJ (Bm P call hint false ys fuel 0) c.pre none ⟨Ht fn.ntmps args,m⟩ ⟨n,[],[],[]⟩=some (o.pc,o.l1,o.g1)
 head:∃idm ka,WN o.l1 o.g1.n c.tm c.dm c.p.di c.out hint.keep c.ks c.e=some (idm,o.x,o.kks,ka,o.vk,o.va,o.hd)
 round:bv P call hint ys fuel c.p o.pc o.g1.n o.hd o.l1.mem.length o.vk o.va o.s1 o.pc2 o.l2 o.g2 (.e o.zx) o.ps o.fv
 post:Bm P call hint false ys fuel 0 c.post o.pc o.hd ⟨o.g1.n+1,[],[],[]⟩=some (o.outs,o.g3)
 fin:Cv (Lc P fn) o.outs o.g3=some (o.c0,o.m0,o.g4)
 ok1:Nc n o.g1=true
 lps1:o.g1.lps=[]
 ok4:CT [] 0 (o.g1.n+1) o.g4.n o.g4.eqs=true
 lps4:o.g4.lps=[]
 args:args.length<=fn.ntmps
 x:o.x < o.g1.n
theorem nI {P:Program}{call:A7}{aR:Ct}{ap:Ys}{aM:Nat}{c:RgC}{aC:Func}{args:List AC}{m:Mem}{n:Nat}{o:RgO}(h:aD P call aR ap aM c aC args m n=some o):qa P call aR ap aM c aC args m n o:=by
 unfold aD at h;simp only[ABA,AA7] at h;obtain⟨⟨ad,X,g1⟩,C,⟨a7,x,bi,ka,aJ,aT,hd⟩,O,aF,e,h⟩:=h;simp only at h O e;split at h
 .rename_i aw ah au h4;split at h
  .rename_i y zx bk aE h5 h6 h7;simp only[AA7] at h;obtain⟨ps,h8,⟨L,g3⟩,h9,⟨aN,aP,g4⟩,b,h⟩:=h;simp only at h b;split at h
   .rename_i k;simp only[AA8] at k;obtain⟨⟨⟨⟨⟨⟨⟨⟨⟨⟨⟨q,H⟩,K⟩,N⟩,W⟩,Y⟩,Z⟩,d8⟩,d9⟩,s⟩,A⟩,E⟩:=k;cases h;have a6:=AA9 q;subst a6;exact⟨C,⟨a7,ka,O⟩,⟨h6,h7,H,K,e,h4,h8,N,W,by simpa using Y⟩,h9,b,Z,by simpa using d8,d9,by simpa using s,ABX A,by simpa using E⟩
   .cases h
  .cases h
 .cases h
theorem UF {aA J:Tab}{am n:Nat}(h:∀x,x < n->J x=aA x):∀{k:List (Nat × Ex)} {an:Nat},an<=n->CT [] 0 am an k=true->(∀p∈k,aA p.1=p.2.eval aA)->∀p∈k,J p.1=p.2.eval J
 |[],_,_,_,_,p,b=>by cases b
 |(x,e)::r,an,ht,aa,he,p,b=>by
  simp only[CT,AA8] at aa;have E:=AA9 aa.1.1;cases b with
  |head=>
   have C:=he (x,e) (ABK ..);simp only at C⊢;rw[h x (by omega),C];refine Ul fun y A=>?_;rcases EY aa.1.2 y A with q|q
   .cases q
   .exact (h y (by omega)).symm
  |tail _ b=>exact UF h (an:=x) (by omega) aa.2 (fun q s=>he q (ABH _ s)) p b
section
variable {P:Program}{f:FuncId}{t:AU}{bd:FuncId->Option A7}{Ab:FuncId->Ct}{aM al:Nat}{c:RgC}{aC:Func}{o:RgO}{ai:List Rf}{aZ aY:List Pr}{F:List U->U'}
theorem nE (hm:P.follows .mixedOrders=true)(ev:∀f c,bd f=some c->∀T,∀ap k args ad m g c' ag aq,k=f->DI P T.lp ap->c ap k args ad m g=some (c',ag,aq)->Ac g aq/\(Agr T aq->Ar T aq->pcv T ad->BN T g ad->∀ V w W,AF T g.n V m w args W->AH T g.n V m w->
   (∃aC,P.funcs[k]? =some aC/\aC.body.isSome=true/\(aC.name== "runtime.NumGoroutine")=false)/\Calls P k (W:List Value).toArray w (G8 T g V m w c' ag aq)))
  (hc:c.Ok P) (c9:P.funcs[f]? =some aC) (c8:aC.body=some c.code) (f0:(aC.name== "runtime.NumGoroutine")=false)
  (S:qa P (Ew P bd Ab aM al) (Ab f) { Ys.none with mu:=(Ab f).mu } aM c aC t.args t.m t.n o)
  (ge:ai.length=t.outs.length) (fd:Hh [] t.n t.m'.length ai t.m' o.m0 t.m' o.m0=some aZ) (fn:PH t.n t.m'.length ai t.m' o.m0 t.c o.c0=some aY) (f2:∀id,id < t.m.length->t.m'.at id≠ .pad)
  (c1:∀(T:Tab) (us:List U),us.length=t.n->PM t.ks us->(∀p∈t.pre,p.2 us)->(∀j u,us[j]? =some u->T j=u)->(∀p∈o.g1.eqs,T p.1=p.2.eval T)->Ar T o.g1/\
   (pcv T o.pc->
    (∀(M:List Nat) (i:Nat) (r:List U) (a0:U'),(T o.x).toL.length<=AB->M.Nodup->(∀j∈M,j < (T o.x).toL.length)->i ∉ M->(T o.x).toL[i]? =some r->a0=(M.map fun j=>(T o.x).toL.getD j []).flatMap F->T o.g1.n= .list a0->
     (∀j u,(r.drop o.kks.length)[j]? =some u->T (o.g1.n+1+j)=u)->(∀q∈o.g2.eqs,T q.1=q.2.eval T)->(∀q∈o.g2.obs,q.holds T)/\(pcv T o.pc2->(∀q∈o.ps,q.holds T)/\T o.zx= .list (a0++F r)))/\
    (∀(M:List Nat),M.Perm (List.range (T o.x).toL.length)->T o.g1.n= .list ((M.map fun j=>(T o.x).toL.getD j []).flatMap F)->(∀q∈o.g4.eqs,T q.1=q.2.eval T)->Ar T o.g4/\(∀p∈aZ++aY,p.holds T)/\ai.map (Rf.eval T)=t.outs.map fun q=>q.2 us))):AW P f t:=by
 refine⟨fun _=>Qv,fun T us g5 b1 hT cv V w W cx bs=>⟨⟨aC,c9,by rw[c8];rfl,f0⟩,?_⟩⟩;have bk:=Ge (Ab:=Ab) (aM:=aM) hm ev al;have b4:∀lp,DI P lp { Ys.none with mu:=(Ab f).mu }:=fun lp Z _ s y hy=>by cases hy
 have a6:=S.ok1;unfold Nc at a6;rw[AA8] at a6;have de:∀j u,us[j]? =some u->T j=u:=fun j u hj=>hT j u (by unfold AU.us;rw[ABO (ABD.1 hj).1];exact hj);have cj:PM t.ks us:=jt de cx bs;obtain⟨ax,aK,r3⟩:=Fa o.g1.eqs T;have bo:∀x,x < t.n->BR T o.g1.eqs x=T x:=fun x A=>(CR (T:=T) a6.1).2.2 x (.inl A);have bm:∀p∈o.g1.eqs,BR T o.g1.eqs p.1=p.2.eval (BR T o.g1.eqs):=FF (fv:=[]) (nh:=0) (fun x A=>by cases A) (ABh _) a6.1;generalize BR T o.g1.eqs=Tp at ax aK r3 bo bm;have fs:t.n<=o.g1.n:=(CR (T:=T) a6.1).1;have cc:∀Z:Tab,(∀x,x < o.g1.n->Z x=Tp x)->(∀j u,us[j]? =some u->Z j=u)/\(∀p∈o.g1.eqs,Z p.1=p.2.eval Z):=fun Z h=>⟨fun j u hj=>by
  have:=(ABD.1 hj).1;rw[h j (by omega),bo j (by omega)];exact de j u hj,UF h (ABB _) a6.1 bm⟩
 have d0:∀Z:Tab,(∀x,x < o.g1.n->Z x=Tp x)->C4 o.g1 o.pc->(pcv Z o.pc↔pcv Tp o.pc):=fun Z h hp=>by
  cases cu:o.pc with
  |none=>exact Iff.rfl
  |some x=>
   rw[cu] at hp;show Z x= .bool true↔Tp x= .bool true;rw[h x hp]
 have f4:Ar Tp o.g1:=(c1 Tp us b1 cj cv (cc Tp fun _ _=>rfl).1 bm).1;have el:Agr Tp o.g1:=⟨bm,fun q hq=>by rw[S.lps1] at hq;cases hq⟩;have S0:Cg T Tp t.n:=⟨bo,ax,aK⟩;have di:=bs.tab S0;let K:=Tp.atBase w.heap.size;have B0:=Kk Tp w.heap.size;have cl:AH K t.n V t.m w:=di.tab (B0 _);have gr:AF K t.n V t.m w t.args W:=AF.tab (B0 _).eq (fun b off hh=>(B0 _).safe di hh) _ _ (AF.tab S0.eq (fun b off hh=>S0.safe bs hh) _ _ cx);refine (callsIn_wide (n:=0)).1 (callsIn_of_wp_marks (F:=fen none) c9 c8 trivial ?_);have e8:=cx.length;have hR:Rel K t.n V ⟨Ht aC.ntmps t.args,t.m⟩ { tmps:=(W:List Value).toArray++Array.replicate (aC.ntmps - (W:List Value).toArray.size) undef,defers:=[] } w:=by
  have g3:=S.args;refine⟨D7.nil _ _ _ (ABB _),?_,fun i c Y=>?_,cl⟩
  .simp[Ht,e8];omega
  .have e7:(OJ 0 t.args .nil).get i=some c:=by
    have:(Ht aC.ntmps t.args).get i=(OJ 0 t.args .nil).get i:=by simp[Ht,AZ.get,BH]
    rw[<-this];exact Y
   rcases SK _ _ _ _ _ e7 with⟨j,C,O⟩|C
   .rw[ABJ] at C;subst C;obtain⟨u,h3,h4⟩:=gr.get O;have:((W:List Value).toArray++Array.replicate (aC.ntmps - (W:List Value).toArray.size) undef).getD i undef=u:=by
     have db:i < W.length:=(ABD.1 h3).1;simp[ABG,Array.getElem?_append,db];rw[ABC db] at h3;cases h3;rfl
    rw[this];exact h4
   .simp[Tr.get] at C
 obtain⟨g2,kA⟩:=YH (P:=P) (T:=K) (ao:=0) (fun c=>NR hm bk (Ab f) aM { Ys.none with mu:=(Ab f).mu } K 0 c (b4 _)) S.parts;obtain⟨bx,kA⟩:=kA (QH el) trivial;refine kA (WL f4) trivial V _ w _ _ hR cl fun dj d2 g1 aG gk cf=>?_;have dk:pcv Tp o.pc:=Pk.1 dj;obtain⟨g7,ka,e6⟩:=S.head;refine wpIn_seq (vM hm bk b4 hc.p e6 S.round hc.q1 hc.q2 hc.mt (T:=K) dj (fun c' he=>by have h:=bx;rw[he] at h;exact h) (F:=F) ?_ cf ?_)
 .
  intro Z M i r a0 hS fr f1 e9 f3 hr cs es et e5;have a1:∀x,x < o.g1.n->Z x=Tp x:=fun x A=>hS.eq x A;obtain⟨C,O⟩:=cc Z a1;have A:Z o.x=Tp o.x:=a1 _ S.x;have bt:pcv Z o.pc:=(d0 Z a1 bx).2 dk;obtain⟨_,h3⟩:=c1 Z us b1 cj cv C O;exact (h3 bt).1 M i r a0 (by rw[A];exact fr) f1 (by rw[A];exact e9) f3 (by rw[A];exact hr) (by rw[A];exact cs) es et e5
 .
  intro M a0 aV a2 w2 f6 cs ch dm;show c.post.wpIn (fen none) 0 P _ a2 w2;have a3:Cg K (K.upd o.g1.n (.list a0)) o.g1.n:=⟨fun x A=>C0 _ _ (by omega),rfl,rfl⟩;have ds:(K.upd o.g1.n (.list a0)) o.g1.n= .list a0:=Er _ _ _;obtain⟨u1,u2,u3⟩:=Fa o.g4.eqs (K.upd o.g1.n (.list a0));have a5:∀x,x < o.g1.n+1->BR (K.upd o.g1.n (.list a0)) o.g4.eqs x=(K.upd o.g1.n (.list a0)) x:=fun x A=>(CR (T:=K.upd o.g1.n (.list a0)) S.ok4).2.2 x (.inl A);have bl:∀p∈o.g4.eqs,BR (K.upd o.g1.n (.list a0)) o.g4.eqs p.1=p.2.eval (BR (K.upd o.g1.n (.list a0)) o.g4.eqs):=FF (fv:=[]) (nh:=0) (fun x A=>by cases A) (ABh _) S.ok4;have dn:(K.upd o.g1.n (.list a0)).base=K.base:=rfl;generalize K.upd o.g1.n (.list a0)=Tu at ch dm a3 ds u1 u2 u3 a5 bl dn;generalize BR Tu o.g4.eqs=H at u1 u2 u3 a5 bl;have eq:Cg Tu H (o.g1.n+1):=⟨a5,u1,u2⟩;have a1:∀x,x < o.g1.n->H x=Tp x:=fun x A=>(a5 x (by omega)).trans (a3.eq x A);obtain⟨C,O⟩:=cc H a1;have A:H o.x=Tp o.x:=a1 _ S.x;have bt:pcv H o.pc:=(d0 H a1 bx).2 dk;obtain⟨_,h3⟩:=c1 H us b1 cj cv C O;obtain⟨f5,f7,gi⟩:=(h3 bt).2 M (by rw[A];exact f6) (by rw[a5 _ (Nat.lt_succ_self _),ds,A];exact ACF U.list cs) bl;have c5:Agr H o.g4:=⟨bl,fun q hq=>by rw[S.lps4] at hq;cases hq⟩;have en:Rel H (o.g1.n+1) aV o.hd a2 w2:=ch.tabB eq u3;have c4:=JH S.fin;obtain⟨_,kP⟩:=NR hm bk (Ab f) aM { Ys.none with mu:=(Ab f).mu } H 0 c.post (b4 _) o.pc _ _ _ _ S.post;obtain⟨q1,q2,q3⟩:=kP (c5.of c4) (by
   have hp:=bx;cases cu:o.pc with
   |none=>trivial
   |some x=>rw[cu] at hp;exact Nat.lt_succ_of_lt hp)
  refine q3 (f5.of c4) bt aV a2 w2 _ en fun y hy f8 b7 cb w3 gl b0=>?_;have bc:Cg T H t.n:=⟨fun x A=>(a1 x (by omega)).trans (bo x A),(u1.trans a3.fr).trans ax,(u2.trans a3.lp).trans aK⟩;have er:Cg K H t.n:=⟨fun x A=>a1 x (by omega),u1.trans a3.fr,u2.trans a3.lp⟩;have a9:AH H t.n V t.m w:=bs.tab bc;have gn:AI H t.n V t.m w d2 o.l1.mem aG:=AI.tab er cl gk fun id L af e' cy=>a1 _ (cf.mem.tok_lt cy);have gp:AI H o.g1.n d2 o.l1.mem aG aV o.hd.mem w2:=AI.tab (aA:=Tu) ⟨fun x A=>a5 x (by omega),u1,u2⟩ (cf.mem.tab a3) dm fun id L af e' cy=>a5 _ (ch.mem.tok_lt cy);have gm:AI H t.n V t.m w b7 y.l.mem w3:=(gn.trans a9 fs gp).trans a9 (by show t.n<=o.g1.n+1;omega) gl;have g6:o.hd.tmps.n=o.hd.tmps.n:=rfl;have e0:LeavesInM (fen none) 0 P aC cb.tmps (fun e ab=>∃v ac,e= .returned v/\AI T t.n V t.m w ac t.m' ab/\AH T (t.n+t.outs.length) ac t.m' ab/\AA T (t.n+t.outs.length) ac t.m' ab t.c v) cb.defers .returning w3:=by
   obtain⟨d5,Ds,d1,d7,d3⟩:=b0.defers;rw[d1];have g4:H.base=w.heap.size:=u3.trans dn;refine Od (T:=H) (n:=o.g3.n) (V := b7) (m:=y.l.mem) (B:=w.heap.size) Ds w3 d7 (fun D hD=>⟨by have:=(d3 D hD).1;omega,(d3 D hD).2.1⟩) fun w4 b2=>?_;have gd:Rel H o.g3.n b7 y.l { tmps:=cb.tmps,defers:=[] } w4:=⟨D7.nil _ _ _ (by rw[b2.size];exact d5),b0.size,fun i c Y=>b2.holds _ _ (b0.tmps i c Y),b2.mem b0.mem⟩;obtain⟨v,w5, g0,⟨_,rfl,e1⟩,e2,e3,e4⟩:=QU (T:=H) (I:=fun _=>True) (E:=fg P aC) (N:=o.hd.tmps.n) YO S.fin c5 q1 y hy f8 b7 _ w4 trivial gd;have st:=(gm.after a9 b2).trans a9 (ABS (by show t.n<=o.g1.n+1;omega) (NR hm bk (Ab f) aM { Ys.none with mu:=(Ab f).mu } H 0 c.post (b4 _) o.pc _ _ _ _ S.post).1.n) e2;exact⟨v,e1,v, g0,rfl,bV fd fn ge f2 (fun x A=>(bc.eq x A)) bc.fr bc.lp b1 hT f7 gi a9 st e3 e4⟩
  rcases Ui S.fin y hy with hk|hk<;>rw[hk]<;>exact e0
end
structure ClC where
 o0:Oper
 o1:Oper
 o2:Oper
 p:Oper
 o5:Oper
 o6:Oper
 o7:Oper
 o8:Oper
 st:TypeId
 e:TypeId
 r0:Nat
 r1:Nat
 r2:Nat
 r3:Nat
def ClC.code (c:ClC):Code:= .seq (.region c.r0 [c.o0].toArray false) (.seq (.seq (.region c.r1 [c.o1,c.o2].toArray false) (.cond (.tmp 4) (.seq (.region c.r2 [c.p].toArray false) .ret) .skip)) (.seq (.region c.r3 [c.o5,c.o6,c.o7,c.o8].toArray false) .ret))
structure ClC.Ok (P:Program) (c:ClC) (f:FuncId) (fn:Func):Prop where
 look:P.funcs[f]? =some fn
 body:fn.body=some c.code
 name:(fn.name== "runtime.NumGoroutine")=false
 tm:fn.ntmps=8
 res:fn.results= #[ResultVar.tmp 2]
 o0:(∃v,c.o0.op= .assign v)/\c.o0.dst=some 2/\c.o0.guard=none
 o1:c.o1.op= .move (Operand.tmp 0)/\c.o1.dst=some 3/\c.o1.guard=none
 o2:(∃yt,c.o2.op= .binOp .eql c.st (Operand.tmp 3) (Operand.const (.slice none 0 0)) yt)/\c.o2.dst=some 4/\c.o2.guard=none
 p:c.p.op= .assign (Operand.const (.slice none 0 0))/\c.p.dst=some 2/\c.p.guard=none
 o5:c.o5.op= .buildSlice c.st 0 #[]/\c.o5.dst=some 5/\c.o5.guard=none
 o6:c.o6.op= .move (Operand.tmp 0)/\c.o6.dst=some 6/\c.o6.guard=none
 o7:c.o7.op= .call { callee:= .builtin .append,args:= #[Operand.tmp 5,Operand.tmp 6],argTypes:= #[c.st,c.st] }/\c.o7.dst=some 7/\c.o7.guard=none
 o8:c.o8.op= .assign (Operand.tmp 7)/\c.o8.dst=some 2/\c.o8.guard=none
 st:P.underlying c.st=some (.slice c.e)
def bq (P:Program)(b:TypeId):A7:=fun _ _ args ad m g=>
 match args with
 |[x]=>(NJ P #[b,b] (.cv .nilSlice) x m g).map fun r=>(r.c,r.m,(g.pushAll r.us).needAll ad r.ps)
 |_=>none
section
variable {P:Program}
theorem Pu {a:Act}{w:World}{o:Oper}{x:Operand}(b:o.op= .assign x):(execOp a.eval o).run P w= .ok (.value (a.eval x)) w:=by
 simp[execOp,b]
theorem ru {c:ClC}{f:FuncId}{aC:Func}(e:c.Ok P f aC)(T:Tab)(ap:Ys)(k:FuncId)(args:List AC)(ad:PC)(m:Mem)(g:G)(c':AC)(ag:Mem)(aq:G)(hk:k=f)(h:bq P c.st ap k args ad m g=some (c',ag,aq)):
  Ac g aq/\(Agr T aq->Ar T aq->pcv T ad->BN T g ad->∀ V w W,AF T g.n V m w args W->AH T g.n V m w->
   (∃aC,P.funcs[k]? =some aC/\aC.body.isSome=true/\(aC.name== "runtime.NumGoroutine")=false)/\Calls P k (W:List Value).toArray w (G8 T g V m w c' ag aq)):=by
 subst hk;unfold bq at h;split at h
 .rename_i x;simp only[ABU] at h;obtain⟨r,q,h⟩:=h;cases h;refine⟨(Ac.push _ _).trans (Ac.need _ _ _),fun hA c4 hp _ V w W de hm=>⟨⟨aC,e.look,by rw[e.body];rfl,e.name⟩,?_⟩⟩;obtain⟨v,ee,rfl,hx,rfl⟩:=de;have a9:New T g.n r.us:=hA.need.new;have b8:=c4.need hp;have b6:((g.pushAll r.us).needAll ad r.ps).n=g.n+r.us.length:=by rw[(DG _ _ _).1,Bb]
  have c7:=q;unfold NJ at q;simp only[ABA,AA7] at q;obtain⟨t,dd,q⟩:=q;have ht:t=c.st:=by simpa using dd.symm
  subst ht;split at q
  .rename_i e' d8 hu;have he:e'=c.e:=by rw[e.st] at hu;cases hu;rfl
   subst he;simp only[AA7] at q;obtain⟨ks,b7,⟨E,aK⟩,b9,Z,h3,q⟩:=q;have c9:=Fs b9 hx;obtain⟨H,d7,_,_,A,K,rfl,d6,c6⟩:=c9;refine (callsIn_wide (n:=0)).1 (callsIn_of_wp_marks (F:=fen none) e.look e.body trivial ?_);generalize a3:({ tmps:=_,defers:=[] }:Act)=a;have ba:a.tmps.size=8:=by rw[<-a3];simp[e.tm]
   have b0:a.eval (.tmp 0)= .slice A H.length K:=by
    rw[<-a3];show (#[Value.slice A H.length K]++_:Array Value).getD 0 undef=_;rw[ABG,Array.getElem?_append];simp
   have cu:a.defers=[]:=by rw[<-a3]
   clear a3;have b5:∀(N:Act) (ab:World) (z:Value) (ac:Nat->Option Nat),N.tmps.size=8->N.eval (.tmp 2)=z->N.defers=[]->AI T g.n V m w ac r.m ab->AH T (g.n+r.us.length) ac r.m ab->AA T (g.n+r.us.length) ac r.m ab r.c z->
     LeavesInM (fen none) 0 P aC N.tmps (G8 T g V m w r.c r.m ((g.pushAll r.us).needAll ad r.ps)) N.defers .returning ab:=fun N ab z ac aF s2 s3 s4 s5 s6=>by
    rw[s3];have c8:(results aC N.tmps).run P ab= .ok z ab:=by
     have O:N.tmps.getD 2 undef=z:=s2;rw[ABG] at O;simp[results,e.res,O]
    exact⟨z,c8,z, ac,rfl,s4,by rw[b6];exact s5,by rw[b6];exact s6⟩
   refine wpIn_seq (wpIn_region ?_);show wpOpsIn (fen none) 0 P [c.o0].toArray _ [0] a w;obtain⟨x0,ca⟩:=e.o0.1;refine Bo (o:=c.o0) rfl e.o0.2.2 (D6 (by rw[ca];exact fun c h=>by cases h) (Pu ca) ?_);rw[e.o0.2.1];show (Code.seq _ _).wpIn (fen none) 0 P _ _ w;refine wpIn_seq (wpIn_seq (wpIn_region ?_));show wpOpsIn (fen none) 0 P [c.o1,c.o2].toArray _ [0,1] _ w;refine Bo (o:=c.o1) rfl e.o1.2.2 (D6 (by rw[e.o1.1];exact fun c h=>by cases h) (Uc e.o1.1) ?_);rw[e.o1.2.1,DJ (by decide),b0];obtain⟨yt,cb⟩:=e.o2.1;refine Bo (o:=c.o2) rfl e.o2.2.2 (D6 (v:= .bool A.isNone) (ab:=w) (by rw[cb];exact fun c h=>by cases h) ?_ ?_)
   .refine N8 (s:=do eqGuard .eql c.st (Operand.tmp 3) (Operand.const (.slice none 0 0)) (.slice A H.length K) (.slice none 0 0);binOp .eql c.st (.slice A H.length K) (.slice none 0 0)) ?_ ?_
    .simp only[execOp,cb];rw[DD (by rw[CP,ba];decide)];rfl
    .simp only[ABo,GC _ c.st _ _ (a:= .slice A H.length K) (b:= .slice none 0 0) (fun _ h=>by cases h) (fun h=>by cases h),ABn];exact Lib.run_eql_slice_nil w c.st c.e A _ _ 0 0 e.st
   rw[e.o2.2.1];show (Code.cond _ _ _).wpIn (fen none) 0 P _ _ w;generalize ax:(((a.put (some 2) _).put (some 3) _).put (some 4) _:Act)=b;have a1:b.tmps.size=8:=by rw[<-ax,CP,CP,CP];exact ba
   have cv:b.eval (.tmp 0)= .slice A H.length K:=by rw[<-ax,DJ (by decide),DJ (by decide),DJ (by decide)];exact b0
   have b3:b.eval (.tmp 4)= .bool A.isNone:=by rw[<-ax,DD (by rw[CP,CP,ba];decide)]
   have b4:b.defers=[]:=by rw[<-ax];exact cu
   clear ax;cases b1:A with
   |none=>
    subst b1;have hl:H=[]:=by
     cases H with
     |nil=>rfl
     |cons y l=>obtain⟨b',o',C,_⟩:=c6 (by simp);cases C
    subst hl;refine wpIn_cond_true b3 (wpIn_seq (wpIn_region ?_));show wpOpsIn (fen none) 0 P [c.p].toArray _ [0] b w;refine Bo (o:=c.p) rfl e.p.2.2 (D6 (by rw[e.p.1];exact fun c h=>by cases h) (Pu e.p.1) ?_);rw[e.p.2.1];refine wpIn_ret ?_;obtain⟨z',ab, ac,q1,q2,q3,q4⟩:=T5 (v:= .slice none 0 0) c7 a9 b8 hm rfl hx (az:=0);obtain⟨i,z,l,Y,_⟩:=Lo b7;have hz:z'= .slice none 0 0/\ab=w:=by
     have h0:=DR (P:=P) (w:=w) (az:=0) e.st Y none none 0 0 K (ABB _);rw[show ([]:U').length=0 from rfl] at q1;rw[h0] at q1;cases q1;exact⟨rfl,rfl⟩
    obtain⟨rfl,rfl⟩:=hz;exact b5 _ _ _ ac (by rw[CP];exact a1) (DD (by rw[a1];decide)) b4 q2 q3 q4
   |some bs=>
    subst b1;refine wpIn_cond_false b3 (wpIn_skip ?_);show (Code.seq _ _).wpIn (fen none) 0 P _ b w;refine wpIn_seq (wpIn_region ?_);show wpOpsIn (fen none) 0 P [c.o5,c.o6,c.o7,c.o8].toArray _ [0,1,2,3] b w;have cy:I3 P c.st 0 (#[]:Array (Nat × Operand)).size m g=some (JU ks c.e m g):=by
     simp[I3,hu,b7]
    cases q;have c3:New T g.n (JU ks c.e m g).us:=fun j u hj=>a9 j u (by rw[ABO (ABD.1 hj).1];exact hj);obtain⟨z5,w5, d4,q1,q2,q3,q4⟩:=RU (T:=T) (V := V) (w:=w) (a:=b) (o:=c.o5) cy c3 hm e.o5.1;refine Bo (o:=c.o5) rfl e.o5.2.2 (qf (by rw[e.o5.1];exact fun c h=>by cases h) ⟨z5,w5, d4,q1,q2,q3,q4⟩ fun v5 w6 cf aF s2 s3=>?_);rw[e.o5.2.1];refine Bo (o:=c.o6) rfl e.o6.2.2 (D6 (by rw[e.o6.1];exact fun c h=>by cases h) (Uc e.o6.1) ?_);rw[e.o6.2.1,DJ (by decide),cv];have di:AA T (g.n+2) cf (m++[.mrow g.n (g.n+1) ks c.e]) w6 x (.slice (some bs) H.length K):=AA.mono aF hm (by omega) _ _ hx;obtain⟨z',ab, ac,t1,t2,t3,t4⟩:=Uq (g:={ g with n:=g.n+2 }) (T:=T) (V := cf) (w:=w6) h3 (fun j u hj=>by
     have:=a9 (j+2) u (by simpa [JU] using hj);rwa [show g.n+(j+2)=g.n+2+j by omega] at this) b8 s2 s3 (Iz (Fs b9 di)) c.o7.type
    have en:g.n+((JU ks c.e m g).us++Z.us).length=g.n+2+Z.us.length:=by simp[JU];omega
    generalize a0:((b.put (some 5) v5).put (some 6) _:Act)=b2;have a8:b2.tmps.size=8:=by rw[<-a0,CP,CP];exact a1
    have h5:b2.eval (.tmp 5)=v5:=by rw[<-a0,DJ (by decide),DD (by rw[a1];decide)]
    have h6:b2.eval (.tmp 6)= .slice (some bs) H.length K:=by rw[<-a0,DD (by rw[CP,a1];decide)]
    have cx:b2.defers=[]:=by rw[<-a0];exact b4
    clear a0;refine Bo (o:=c.o7) rfl e.o7.2.2 (D6 (v:=z') (ab:=ab) (by rw[e.o7.1];exact fun c h=>by cases h) ?_ ?_)
    .rw[KV e.o7.1];simp only[List.map_toArray,ABQ,ABk,h5,h6];simp[builtin,t1]
    rw[e.o7.2.1];refine Bo (o:=c.o8) rfl e.o8.2.2 (D6 (by rw[e.o8.1];exact fun c h=>by cases h) (Pu e.o8.1) ?_);rw[e.o8.2.1,DD (by rw[a8];decide)];show (Code.ret).wpIn (fen none) 0 P _ _ ab;refine wpIn_ret ?_;exact b5 _ _ _ ac (by rw[CP,CP];exact a8) (DD (by rw[CP,a8];decide)) cx (aF.trans hm (show g.n<=g.n+2 by omega) t2) (by
     show AH T (g.n+((JU ks c.e m g).us++Z.us).length) ac Z.m ab;rw[en];exact t3) (by
     show AA T (g.n+((JU ks c.e m g).us++Z.us).length) ac Z.m ab Z.c z';rw[en];exact t4)
  .cases q
 .cases h
end
def PR:List (FuncId × TypeId)->FuncId->Option TypeId
 |[],_=>none
 |(f,st)::r,g=>bif Nat.beq f g then some st else PR r g
def XO (P:Program)(a4:List (FuncId × TypeId))(l:List (FuncId × AU)):FuncId->Option A7:=fun f=>match PR a4 f with
 |some b=>some (bq P b)
 |none=>Lr l f
def NQ (P:Program)(a4:List (FuncId × TypeId)):Prop:=∀p∈a4,∃c aC,ClC.Ok P c p.1 aC/\c.st=p.2
theorem Th:∀{a4:List (FuncId × TypeId)} {f:FuncId} {e:TypeId},PR a4 f=some e->(f,e)∈a4
 |[],_,_,h=>by cases h
 |(g,s)::r,f,e,h=>by
  simp only[PR] at h;cases b:Nat.beq g f with
  |true=>
   rw[b] at h;cases h;rw[AA9 b];exact ABK ..
  |false=>rw[b] at h;exact ABH _ (Th h)
variable{P:Program}{a4:List (FuncId × TypeId)}{l:List (FuncId × AU)}{t:AU}{aM al:Nat}{ai:List Rf}
theorem XP (C:NQ P a4)(E:∀p∈l,AW P p.1 p.2):∀f c,XO P a4 l f=some c->∀T,∀ap k args ad m g b ag aq,k=f->DI P T.lp ap->c ap k args ad m g=some (b,ag,aq)->Ac g aq/\(Agr T aq->Ar T aq->pcv T ad->BN T g ad->∀ V w W,AF T g.n V m w args W->AH T g.n V m w->
   (∃aC,P.funcs[k]? =some aC/\aC.body.isSome=true/\(aC.name== "runtime.NumGoroutine")=false)/\Calls P k (W:List Value).toArray w (G8 T g V m w b ag aq)):=by
 intro f c h T ap k args ad m g b ag aq q H s;unfold XO at h;cases e:PR a4 f with
 |some K=>
  rw[e] at h;cases h;obtain⟨aN,aC,A,y⟩:=C _ (Th e);simp only at y;subst y;exact ru A T ap k args ad m g b ag aq q s
 |none=>
  rw[e] at h;exact NV E f c h T ap k args ad m g b ag aq q H s
def AU.runC (P:Program)(a4:List (FuncId × TypeId))(l:List (FuncId × AU))(Ab:FuncId->Ct)(aM al:Nat)(f:FuncId)(t:AU):Option (AC × Mem × G):=
 Ew P (XO P a4 l) Ab aM al Ys.none f t.args none t.m { n:=t.n,eqs:=[],obs:=[] }
theorem HH {f:FuncId}(b:NQ P a4)(h:P.follows .mixedOrders=true)(e:∀p∈l,AW P p.1 p.2){Ab:FuncId->Ct}{ar:List En}{os:List ObE}
  (s:t.sees ai (t.runC P a4 l Ab aM al f)=some (ar.map En.be,os.map ObE.be,[])) (k:MY t=true)
  (q:∀(T:Tab) (us:List U),(∀p∈t.pre,p.2 us)->(∀j u,us[j]? =some u->T j=u)->us.length=t.n->AK T (Aj 0 t.ks)->Bnd T 0 t.ks->AR T (ar.map En.be)->JF T os/\ai.map (Rf.eval T)=t.outs.map fun o=>o.2 us):AW P f t:=
 RK (fun T=>Ge h (XP b e) al T) s k q
abbrev RgV:=(PC × Nat × Nat × Nat) × (PC × Nat) × (List BE × List BO) × (List BE × List BO) × (List BE × List BO) × List BP
def dC (t:AU)(ai:List Rf)(o:RgO):Option RgV:=
 if Nat.beq ai.length t.outs.length&&Nat.ble t.m.length t.m'.length then do
  let aZ<-Hh [] t.n t.m'.length ai t.m' o.m0 t.m' o.m0;let aY<-PH t.n t.m'.length ai t.m' o.m0 t.c o.c0
  some ((o.pc,o.g1.n,o.x,o.kks.length),(o.pc2,o.zx),(FV o.g1.eqs.reverse,Kl o.g1.obs),(FV o.g2.eqs.reverse,Kl (o.ps.map (Ob.mk o.pc2)++o.g2.obs)),(FV o.g4.eqs.reverse,Kl o.g4.obs),oz (aZ++aY))
 else none
theorem iE {f:FuncId}(ca:NQ P a4)(hm:P.follows .mixedOrders=true)(hl:∀p∈l,AW P p.1 p.2){Ab:FuncId->Ct}{c:RgC}{aC:Func}
  (hc:c.Ok P) (cc:P.funcs[f]? =some aC) (b8:aC.body=some c.code) (cu:(aC.name== "runtime.NumGoroutine")=false)  {ad aw:PC} {av x I zx:Nat} {Z ag ax:List En} {bb bc bi:List ObE}
  (ba:(aD P (Ew P (XO P a4 l) Ab aM al) (Ab f) { Ys.none with mu:=(Ab f).mu } aM c aC t.args t.m t.n).bind (dC t ai)=some ((ad,av,x,I),(aw,zx),(Z.map En.be,bb.map ObE.be),(ag.map En.be,bc.map ObE.be),(ax.map En.be,bi.map ObE.be),[])) (cv:MY t=true)
  {F:List U->U'}
  (c8:∀(T:Tab) (us:List U),(∀p∈t.pre,p.2 us)->(∀j u,us[j]? =some u->T j=u)->us.length=t.n->AK T (Aj 0 t.ks)->Bnd T 0 t.ks->AR T (Z.map En.be)->JF T bb/\(pcv T ad->
   (∀(M:List Nat) (i:Nat) (r:List U) (s:U'),(T x).toL.length<=AB->M.Nodup->(∀j∈M,j < (T x).toL.length)->i ∉ M->(T x).toL[i]? =some r->s=(M.map fun j=>(T x).toL.getD j []).flatMap F->T av= .list s->
    (∀j u,(r.drop I)[j]? =some u->T (av+1+j)=u)->AR T (ag.map En.be)->JF T bc/\T zx= .list (s++F r))/\
   (∀(M:List Nat),M.Perm (List.range (T x).toL.length)->T av= .list ((M.map fun j=>(T x).toL.getD j []).flatMap F)->AR T (ax.map En.be)->JF T bi/\ai.map (Rf.eval T)=t.outs.map fun q=>q.2 us))):AW P f t:=by
 simp only[AA7] at ba;obtain⟨o,cy,b⟩:=ba;have S:=nI cy;unfold dC at b;split at b
 .rename_i a6;rw[AA8] at a6;simp only[ABA,AA7] at b;obtain⟨aZ,cl,aY,cs,b⟩:=b;simp only[ABu,Prod.mk.injEq] at b;obtain⟨⟨e1,e2,e3,e4⟩,⟨Y,e6⟩,⟨e7,e8⟩,⟨e9,bm⟩,⟨bo,bs⟩,bt⟩:=b;have toB:∀(T:Tab) (A:List (Nat × Ex)),(∀p∈A,T p.1=p.2.eval T)->AR T (FV A.reverse):=fun T A h=>MX fun p y=>h p (List.mem_reverse.1 y);refine nE (F:=F) hm (XP ca hl) hc cc b8 cu S (AA9 a6.1) cl cs (fun id ce e=>?_) fun T us a9 cf cx a7 cb=>?_
  .have:=ABb.1 cv id (List.mem_range.2 ce);rw[e] at this;cases this
  .obtain⟨i1,i2⟩:=R9 (x:=0) (MA a9 cf) fun j u hj=>by rw[ABJ];exact a7 j u hj
   have a2:=toB T _ cb;rw[e7] at a2;obtain⟨C,O⟩:=c8 T us cx a7 a9 i1 i2 a2;have a1:=Iw C;rw[<-e8] at a1;refine⟨Ig a1,fun a8=>?_⟩;rw[e1] at a8;obtain⟨h3,h4⟩:=O a8;rw[e2,e3,e4,Y,e6];refine⟨fun M i r s N E W k4 k5 k6 k7 k8 k9=>?_,fun M N E W=>?_⟩
   .have a3:=toB T _ k9;rw[e9] at a3;obtain⟨H,au⟩:=h3 M i r s N E W k4 k5 k6 k7 k8 a3;have k:=Iw H;rw[<-bm] at k;have g3:=Ig k;exact⟨fun q K=>g3 q (ABL _ K),fun y=>⟨fun q K=>g3 (Ob.mk o.pc2 q) (ABR _ (ACI.2 ⟨q,K,rfl⟩)) (by rw[<-Y] at y;exact y),au⟩⟩
   .have a5:=toB T _ W;rw[bo] at a5;obtain⟨H,au⟩:=h4 M N E a5;have k:=Iw H;rw[<-bs] at k;exact⟨Ig k,Sr (by rw[bt];trivial),au⟩
 .cases b
end
section
open Go
theorem X9 {P:Program}{f:FuncId}{t s:AU}{am Y:Int}{x:Nat}(h:AW P f t)(hc:t.c= .i .i64 am Y x)(A:s.args=t.args)(y:s.m=t.m)(H:s.m'=t.m')(C:s.n=t.n)(e5:∀us,s.us us=t.us us)
  (e6:s.outs.length=t.outs.length) (e7:s.c= .ci .i64 0)
  (hx:∀us:List U,us.length=t.n->(∀q∈s.pre,q.2 us)->(t.us us)[x]? =some (.int 0)/\∀q∈t.pre,q.2 us):AW P f s:=by
 obtain⟨lp,h⟩:=h;refine⟨lp,fun T us hl N K hp V w W O Z=>?_⟩;rw[C] at N;rw[C,y,A] at O;rw[C,y] at Z;rw[e5] at K;obtain⟨h0,a7⟩:=hx us N hp;obtain⟨a,b⟩:=h T us hl N K a7 V w W O Z;refine⟨a,b.mono fun e ab k=>?_⟩;rw[C,y,H,e6,e7];obtain⟨v, ac,k1,E,k3,k4⟩:=k;refine⟨v, ac,k1,E,k3,?_⟩;rw[hc] at k4;obtain⟨_,i,A,y,_,_⟩:=k4;have H:T x= .int 0:=K x _ h0;rw[H] at A;cases A;exact y
end
end Go.Eng
end
noncomputable section
namespace Go.Eng
abbrev AC4(x a b:Nat):En:=⟨x,.and,[.e a,.e b]⟩
abbrev AC5(x a b:Nat):En:=⟨x,.and,[.e a,.n b]⟩
abbrev AC6(x a b:Nat):En:=⟨x,.or,[.e a,.e b]⟩
abbrev AC7(x a b:Nat):En:=⟨x,.lt,[.e a,.e b]⟩
abbrev AC8(x a b:Nat):En:=⟨x,.get .i 1,[.e a,.e b]⟩
abbrev AC9(x a b:Nat):En:=⟨x,.get .i 2,[.e a,.e b]⟩
abbrev ADA(x a:Nat):En:=⟨x,.not,[.e a]⟩
abbrev ADB(x a:Nat):En:=⟨x,.len,[.e a]⟩
abbrev ADC(x a b c:Nat):En:=⟨x,.ite .i,[.e a,.e b,.e c]⟩
abbrev ADD(x a b c:Nat):En:=⟨x,.ite .l,[.e a,.e b,.e c]⟩
abbrev ADE(x a b:Nat):En:=⟨x,.get .i 0,[.e a,.e b]⟩
abbrev ADF(x a b:Nat):En:=⟨x,.get .s 4,[.e a,.e b]⟩
abbrev ADG(x a b:Nat):En:=⟨x,.get .s 5,[.e a,.e b]⟩
abbrev ADH(x a b:Nat):En:=⟨x,.get .b 3,[.e a,.e b]⟩
abbrev ADI(x a b:Nat):En:=⟨x,.get .b 6,[.e a,.e b]⟩
abbrev ADJ(x a b:Nat):En:=⟨x,.get .i 7,[.e a,.e b]⟩
abbrev ADK(x a b:Nat):En:=⟨x,.get .i 8,[.e a,.e b]⟩
abbrev ADL(x a b:Nat):En:=⟨x,.get .s 0,[.e a,.e b]⟩
abbrev ADM(x a b:Nat):En:=⟨x,.w2 .i64 .add,[.e a,.e b]⟩
abbrev ADN(x a b:Nat):En:=⟨x,.w2 .i64 .sub,[.e a,.e b]⟩
abbrev ADO(x a:Nat):En:=⟨x,.id .b,[.e a]⟩
abbrev ADP(x a b:Nat):En:=⟨x,.get .i 4,[.e a,.e b]⟩
abbrev ADQ(x a b:Nat):En:=⟨x,.get .i 3,[.e a,.e b]⟩
abbrev ADR(x a b:Nat):En:=⟨x,.get .i 5,[.e a,.e b]⟩
abbrev ADS(x a b:Nat):En:=⟨x,.app,[.e a,.e b]⟩
abbrev ADT(x a b:Nat):En:=⟨x,.or,[.e a,.n b]⟩
abbrev ADU(x a b c:Nat):En:=⟨x,.ite .b,[.e a,.e b,.e c]⟩
end Go.Eng
end
