/-
  A part of the proof: the evaluator of code and its soundness.
-/
import Derived.Test.YtikbgnmcfncnaaaE1
import Derived.OrdersIn
import Derived.LoopNIn
import Derived.RangeFuncRecord
import Derived.RangeFuncIn
import Derived.RangeFuncLeaves
set_option linter.unusedVariables false
set_option linter.unusedSimpArgs false
noncomputable section
namespace Go.Eng
section
open Go Go.RowKit
theorem pL {q p:List Kd}(h:q.length=p.length):Kd.join (.list q) (.list p)= .list (Kd.joins q p):=by
 cases q with
 |nil=>cases p with
  |nil=>rfl
  |cons=>simp at h
 |cons a l=>cases p with
  |nil=>simp at h
  |cons c ak=>
   simp only[Kd.join];rw[BH h]
section
variable {T:Tab}{W :Nat->Option Nat}{m ax ai:Mem}{w:World}{b:Bool}{A:Rf}{n ap:Nat}
variable{n0 id z k:Nat}{a6:List Kd}{e:TypeId}{v:Value}{c d:AC}{ag:Mem}
theorem SF (u:(A.eval T).toB=b)(D:n<=n0)(q:New T n0 (Cs A n0 ax ai).2)(y:n0+(Cs A n0 ax ai).2.length<=ap):
  ∀id,Dx T n ap w ((sel b ax ai).at id) ((Cs A n0 ax ai).1.at id):=by
 intro id;obtain⟨k,O,C,l,p⟩:=XE (A:=A) ax ai n0 id;rw[l];have e:(sel b ax ai).at id=sel b (ax.at id) (ai.at id):=by cases b<;>rfl
 rw[e];exact ub u (p T q) (by omega) (by omega)
theorem Rr (a1:(A.eval T).toB=b)(a4:New T n0 (Cs A n0 ax ai).2)(hl:n0+(Cs A n0 ax ai).2.length<=ap)(l:(Cs A n0 ax ai).1.at id= .tok z a6 e):
  (∀x q y u D E,ax.at id= .tok x q D->ai.at id= .tok y u E->D=e/\E=e/\((z=x/\z=y/\a6=q/\a6=u)\/(z < ap/\T z=sel b (T x) (T y)/\q.length=u.length/\a6=Kd.joins q u)))/\
  (∀x q D,ax.at id= .tok x q D->ai.at id= .pad->D=e/\a6=q/\z < ap/\T z=sel b (T x) (.list []))/\
  (∀y u E,ax.at id= .pad->ai.at id= .tok y u E->E=e/\a6=u/\z < ap/\T z=sel b (.list []) (T y)):=by
 obtain⟨k,O,C,h3,h4⟩:=XE (A:=A) ax ai n0 id;rw[h3] at l;have p:=h4 T a4;refine⟨fun x q y u D E X Y=>?_,fun x q D X Y=>?_,fun y u E X Y=>?_⟩
 .rw[X,Y] at l p C;simp only[E6] at l p C;split at l
  .rename_i H;simp only[AB] at H;have i1:=yI H.1.1;have i2:=yI H.2;have i3:=Kd.beqs_eq _ _ H.1.2;grind
  .rename_i H;simp only[H] at p C;split at l
   .rename_i hc;obtain⟨rfl,hc⟩:=hc;simp only[hc,and_self,if_true,AZ,if_false] at p C;simp only[List.length_singleton] at C;injection l with j1 j2 M
    refine⟨M,M,.inr ⟨by omega,?_,hc,j2.symm⟩⟩;rw[<-j1,p.head,JW a1];rfl
   .cases l
 .rw[X,Y] at l p C;simp only[E6] at l p C;simp only[List.length_singleton] at C;injection l with j1 j2 M
  refine⟨M,j2.symm,by omega,?_⟩;rw[<-j1,p.head,JW a1];rfl
 .rw[X,Y] at l p C;simp only[E6] at l p C;simp only[List.length_singleton] at C;injection l with j1 j2 M
  refine⟨M,j2.symm,by omega,?_⟩;rw[<-j1,p.head,JW a1];rfl
theorem Ki {x:Nat}{l:List Kd}(a0:BY T n W ax w (DJ ax W) m w)(h:BQ T n W ax w (.vec id x l) v)(ht:ax.at id= .tok x l e)(y:m.at id= .tok z a6 e)(a2:z < ap)(p:T z=T x)
  (aw:a6.length=l.length) (hk:∀ok:Nat->Nat->Prop,Bk ok w (.list l) (T x) v->Bk ok w (.list a6) (T x) v):BQ T ap (DJ ax W) m w (.vec id z a6) v:=by
 obtain⟨C,q,E,H⟩:=h;refine⟨a2,by rw[y];exact (fun h=>by cases h),?_,fun X e' u=>?_⟩
 .rw[p];exact hk _ (Bk.mono (fun _ _ aa=>a0.safe0 aa) _ _ v E)
 .rw[y] at u;injection u with _ M O
  subst M;subst O;rcases H l e ht with⟨af,aj⟩|⟨D,I,Y,af,aj,l3,l4⟩
  .exact .inl ⟨by rw[Di q];exact af,by rw[p];exact aj⟩
  .exact .inr ⟨D,I,Y,by rw[Di q];exact af,by rw[p];exact aj,l3,by rw[aw];exact l4⟩
theorem Yr (a4:(A.eval T).toB=b)(hm:BX T n W (sel b ax ai) w)(b0:n<=n0)(a3:New T n0 (Cs A n0 ax ai).2)(hl:n0+(Cs A n0 ax ai).2.length<=ap){a:AC}
  (l:HO (Cs A n0 ax ai).1 ax ai c d=some a)
  (O:BQ T n W (sel b ax ai) w (sel b c d) v):BQ T ap (DJ (sel b ax ai) W) (Cs A n0 ax ai).1 w a v:=by
 have M:=HD hm (SF (n:=n) a4 b0 a3 hl);have a9:∀{id:Nat} {a:AC},OO (Cs A n0 ax ai).1 id=some a->∃z ks e,(Cs A n0 ax ai).1.at id= .tok z ks e/\a= .vec id z ks:=by
  intro id a h;unfold OO at h;grind
 unfold HO at l;simp only at l;split at l
 .rename_i id x Y b6 L bo;split at l
  .rename_i bt;have:=yI bt;subst this;split at l
   .rename_i y ky e aF b7 e' D E;split at l
    .rename_i p;simp only[AB] at p;have i1:=yI p.1.1.1;have i2:=yI p.1.1.2;have i3:=Kd.beqs_eq _ _ p.1.2;have i4:=Kd.beqs_eq _ _ p.2;subst i1;subst i2;subst i3;subst i4;obtain⟨z,a6,e2,q,rfl⟩:=a9 l;obtain⟨j1,j2,j3⟩:=(Rr a4 a3 hl q).1 x Y L bo e e' D E;subst j1;subst j2;rcases j3 with⟨C,u,q3,H⟩|⟨C,u,q3,H⟩
     .cases b with
      |true=>
       have hx:x < n:=O.1;exact Ki M O D q (by rw[C];omega) (by rw[C]) (by rw[q3]) fun ok h=>by rw[q3];exact h
      |false=>
       have hx:L < n:=O.1;exact Ki M O E q (by rw[u];omega) (by rw[u]) (by rw[H]) fun ok h=>by rw[H];exact h
     .have bm:=Kd.joins_len Y bo q3;have bl:=pL q3;cases b with
      |true=>exact Ki M O D q C u (by rw[H,bm]) fun ok h=>by rw[H,<-bl];exact Kd.join_l _ _ _ _ h
      |false=>exact Ki M O E q C u (by rw[H,bm,q3]) fun ok h=>by rw[H,<-bl];exact Kd.join_r _ _ _ _ h
    .cases l
   .cases l
  .cases l
 .rename_i id x Y;split at l
  .rename_i y ky e D E;split at l
   .rename_i p;simp only[AB] at p;have i1:=yI p.1;have i3:=Kd.beqs_eq _ _ p.2;subst i1;subst i3;obtain⟨z,a6,e2,q,rfl⟩:=a9 l;obtain⟨j1,q0,C,u⟩:=(Rr a4 a3 hl q).2.1 x Y e D E;subst j1;subst q0;cases b with
    |true=>exact Ki M O D q C u rfl fun ok h=>h
    |false=>
     have hv:v= .slice none 0 0:=O;subst hv;refine⟨C,by rw[q];exact (fun h=>by cases h),by rw[u];exact Ik _ _,fun X e' _=> .inl ⟨JV E,none,by rw[u];rfl⟩⟩
   .cases l
  .cases l
 .rename_i id x Y;split at l
  .rename_i y ky e D E;split at l
   .rename_i p;simp only[AB] at p;have i1:=yI p.1;have i3:=Kd.beqs_eq _ _ p.2;subst i1;subst i3;obtain⟨z,a6,e2,q,rfl⟩:=a9 l;obtain⟨j1,q0,C,u⟩:=(Rr a4 a3 hl q).2.2 x Y e D E;subst j1;subst q0;cases b with
    |false=>exact Ki M O E q C u rfl fun ok h=>h
    |true=>
     have hv:v= .slice none 0 0:=O;subst hv;refine⟨C,by rw[q];exact (fun h=>by cases h),by rw[u];exact Ik _ _,fun X e' _=> .inl ⟨JV D,none,by rw[u];rfl⟩⟩
   .cases l
  .cases l
 .cases l
theorem XN {m:Mem}:∀(r l p:Mem) (id:Nat),(Uq m ax ai r l p).at id=dZ m ax ai (l.at id) (p.at id) (r.at id)
 |[],l,p,id=>by
  show Blk.pad=_;simp only[xF];cases l.at id<;>cases p.at id<;>rfl
 |z::r,l,p,0=>by simp only[Uq,TI,Qc]
 |z::r,l,p,id+1=>by
  simp only[Uq,JR];rw[XN r l.tail p.tail id,Xj,Xj]
theorem Qg {m:Mem}(x y z:Blk):dZ m ax ai x y z=z\/∃l p ak q r e,x= .cells l p/\y= .cells ak q/\z= .cells r e/\dZ m ax ai x y z= .cells (Iw m ax ai l ak r) e:=by
 cases x<;>cases y<;>cases z<;>first|exact .inl rfl|exact .inr ⟨_,_,_,_,_,_,rfl,rfl,rfl,rfl⟩
theorem Vt {m:Mem}(h:∀id,ag.at id=m.at id\/∃l ak e,m.at id= .cells l e/\ag.at id= .cells ak e):BY T k W m w W ag w where
 os:=rfl
 tape:=rfl
 output:=rfl
 size:=AE _
 mlen:=fun id p=>by
  rcases h id with e|⟨l,ak,e,O,C⟩
  .rw[e];exact p
  .rw[C];exact fun h=>by cases h
 rho:=fun id p=>by
  refine⟨rfl,?_⟩;rcases h id with e|⟨l,ak,e,O,C⟩
  .rw[e];exact p
  .rw[C];rfl
 untr:=fun id p u=>by
  rcases h id with e|⟨l,ak,e,O,C⟩
  .rw[<-e];exact u
  .rw[O];rfl
 fresh:=fun id b p u M=>by
  rcases h id with e|⟨l,ak,e,O,C⟩
  .rw[e,p] at u;cases u
  .rw[p] at O;cases O
 old:=fun _ _ _=>rfl
 tok:=fun id x ks e q=>by
  rcases h id with D|⟨l,ak,E,O,C⟩
  .exact .inl ⟨by rw[D];exact q,rfl,fun _ _=>rfl⟩
  .rw[q] at O;cases O
 row:=fun id x y ks e q=>by
  rcases h id with D|⟨l,ak,E,O,C⟩
  .exact .inr ⟨x,y,ks,by rw[D];exact q,rfl,.inl ⟨rfl,rfl,fun _ Y _ H=>⟨Y,H,rfl⟩⟩⟩
  .rw[q] at O;cases O
theorem pM {m:Mem}(p:BX T k W m w)(h:∀id,ag.at id=m.at id\/∃l ak e,m.at id= .cells l e/\ag.at id= .cells ak e/\∀Y b, W id=some b->w.heap[b]? =some (.cells (Y:List Value).toArray e (0,0))->BR T k W m w l Y->BR T k W m w ak Y):BX T k W ag w:=by
 have u:BY T k W m w W ag w:=Vt fun id=>by
  grind
 refine⟨fun id=>?_,fun id H b O C=>?_,p.fr⟩
 .have q:=p.blk id;rcases h id with e|⟨l,ak,e,O,C,E⟩
  .exact Cj.step u p (AE _) e rfl (fun _ _=>rfl)
  .rw[O] at q;obtain⟨b,Y,y,D,M⟩:=q;rw[C];exact⟨b,Y,y,D,BR.mono u p (AE _) _ Y (E Y b y D M)⟩
 .have X:∀id,(ag.at id).tracked=(m.at id).tracked:=fun id=>by
   rcases h id with e|⟨l,ak,e,O,C,_⟩
   .rw[e]
   .rw[O,C];rfl
  rw[X] at O C;exact p.inj id H b O C
theorem T6 {m:Mem}{p E:Nat}{y aV:Nat->Option Nat}{q:Mem}(D:∀c d a v,HO m ax ai c d=some a->BQ T p y q w (sel b c d) v->BQ T E aV m w a v):
  ∀(l ak r:List AC) (Y:List Value),BR T p y q w (sel b l ak) Y->BR T E aV m w r Y->BR T E aV m w (Iw m ax ai l ak r) Y
 |c::l,d::ak,a::r,Y,O,C=>by
  obtain⟨u,us,e,h3,h4⟩:=C;have X:∃u us,Y=u::us/\BQ T p y q w (sel b c d) u/\BR T p y q w (sel b l ak) us:=by cases b<;>exact O
  obtain⟨u',a4,e',h5,h6⟩:=X;rw[e] at e';injection e' with H M
  subst H;subst M;refine⟨u,us,e,?_,T6 D l ak r us h6 h4⟩;cases hx:HO m ax ai c d with
  |none=>exact h3
  |some z=>exact D c d z u hx h5
 |[],_,r,Y,_,C=>by simpa [Iw] using C
 |_::_,[],r,Y,_,C=>by simpa [Iw] using C
 |_::_,_::_,[],Y,_,C=>by simpa [Iw] using C
theorem Pn (a1:(A.eval T).toB=b)(q:BX T n W (sel b ax ai) w)(aw:n<=n0)(bl:New T n0 (Ct A n0 ax ai).2)(hl:n0+(Ct A n0 ax ai).2.length<=ap):
  BX T ap (DJ (sel b ax ai) W) (Ct A n0 ax ai).1 w/\BY T n W (sel b ax ai) w (DJ (sel b ax ai) W) (Ct A n0 ax ai).1 w/\BY T ap (DJ (sel b ax ai) W) (Cs A n0 ax ai).1 w (DJ (sel b ax ai) W) (Ct A n0 ax ai).1 w/\BX T ap (DJ (sel b ax ai) W) (Cs A n0 ax ai).1 w:=by
 have a0:New T n0 (Cs A n0 ax ai).2:=bl;have X:n0+(Cs A n0 ax ai).2.length<=ap:=hl;have ht:=SF (n:=n) (ap:=ap) (w:=w) a1 aw a0 X;have ab:=QJ q (by omega) ht;have bm:=HD q ht;have H:∀id,(Ct A n0 ax ai).1.at id=dZ (Cs A n0 ax ai).1 ax ai (ax.at id) (ai.at id) ((Cs A n0 ax ai).1.at id):=fun id=>XN _ _ _ id;have a3:BY T ap (DJ (sel b ax ai) W) (Cs A n0 ax ai).1 w (DJ (sel b ax ai) W) (Ct A n0 ax ai).1 w:=Vt fun id=>by
  rw[H];rcases Qg (m:=(Cs A n0 ax ai).1) (ax:=ax) (ai:=ai) (ax.at id) (ai.at id) ((Cs A n0 ax ai).1.at id) with e|⟨l,u,ak,y,r,e,_,_,D,E⟩
  .exact .inl e
  .grind
 refine⟨pM ab fun id=>?_,bm.trans q (by omega) a3,a3,ab⟩;rw[H];rcases Qg (m:=(Cs A n0 ax ai).1) (ax:=ax) (ai:=ai) (ax.at id) (ai.at id) ((Cs A n0 ax ai).1.at id) with e|⟨l,u,ak,y,r,e,O,C,D,E⟩
 .exact .inl e
 .refine .inr ⟨r,_,e,D,E,fun Y bb q1 p q3=>?_⟩;have M:=q.blk id;have a2:(sel b ax ai).at id= .cells (sel b l ak) (sel b u y):=by cases b with|true=>exact O|false=>exact C
  rw[a2] at M;obtain⟨b3,b2,p1,p2,p3⟩:=M;have bi:(sel b ax ai).at id≠ .pad:=by rw[a2];exact fun h=>by cases h
  rw[Di bi,p1] at q1;cases q1;rw[p2] at p;injection p with p
  injection p with p
  have b0:b2=Y:=by simpa using p
  subst b0;exact T6 (b:=b) (fun c d a v hc hv=>Yr a1 q aw a0 X hc hv) l ak r _ p3 q3
theorem lu {m:Mem}{r p u:Mem}(c d:AC):HO (Uq m ax ai r p u) ax ai c d=HO r ax ai c d:=by
 have D:∀id,OO (Uq m ax ai r p u) id=OO r id:=fun id=>by
  unfold OO;rw[XN];rcases Qg (m:=m) (ax:=ax) (ai:=ai) (p.at id) (u.at id) (r.at id) with e|⟨l,E,ak,H,q,e,_,_,y,C⟩
  .rw[e]
  .rw[C,y]
 unfold HO;simp only[D]
theorem mw (y:(A.eval T).toB=b)(u:BX T n W (sel b ax ai) w)(E:n<=n0)(H:New T n0 (Ct A n0 ax ai).2)(D:n0+(Ct A n0 ax ai).2.length<=ap)
  (hk:n<=k)
  (p:New T k (S7 (Ct A n0 ax ai).1 ax ai A k c d).2)
  (l:k+(S7 (Ct A n0 ax ai).1 ax ai A k c d).2.length<=ap)
  (O:BQ T n W (sel b ax ai) w (sel b c d) v):BQ T ap (DJ (sel b ax ai) W) (Ct A n0 ax ai).1 w (S7 (Ct A n0 ax ai).1 ax ai A k c d).1 v:=by
 obtain⟨_,aw,a0,X⟩:=Pn y u E H D;have ab:HO (Ct A n0 ax ai).1 ax ai c d=HO (Cs A n0 ax ai).1 ax ai c d:=lu c d;unfold S7 at p l⊢;rw[ab] at p l⊢;split
 .rename_i a M;exact BQ.mono a0 X (AE _) _ _ (Yr y u E H D M O)
 .rename_i Y;rw[Y] at p l;simp only at p l;have C:=BQ.mono aw u (AE _) _ _ O;refine W2 (n:=n) y (by omega) p l (fun q=>?_) (fun q=>?_)
  .subst q;exact C
  .subst q;exact C
theorem Tr.get_node (v:Option AC)(l r:Tr)(i:Nat):(Tr.node v l r).get i=if i=0 then v else if i % 2=1 then l.get (i / 2) else r.get (i / 2 - 1):=by
 rw[Tr.get_step];rfl
theorem Uk {f:Nat->AC->AC->AC × List Ex}:∀(y q:Tr) (n0:Nat),New T n0 (GA f n0 y q).2->n0+(GA f n0 y q).2.length<=ap->∀(i:Nat) (c:AC),(GA f n0 y q).1.get i=some c->
  ∃k aS p,n0<=k/\y.get i=some aS/\q.get i=some p/\c=(f k aS p).1/\New T k (f k aS p).2/\k+(f k aS p).2.length<=ap
 | .nil,q,n0,_,_,i,c,h=>by simp[GA,Tr.get] at h
 | .node v l r,.nil,n0,_,_,i,c,h=>by simp[GA,Tr.get] at h
 | .node v l r,.node v' ak r',n0,hnew,hl,i,c,h=>by
  rw[Tr.get_node,Tr.get_node];have e:GA f n0 (.node v l r) (.node v' ak r')=(.node (PQ f n0 v v').1 (GA f (n0+(PQ f n0 v v').2.length) l ak).1 (GA f (n0+(PQ f n0 v v').2.length+(GA f (n0+(PQ f n0 v v').2.length) l ak).2.length) r r').1,(PQ f n0 v v').2++((GA f (n0+(PQ f n0 v v').2.length) l ak).2++(GA f (n0+(PQ f n0 v v').2.length+(GA f (n0+(PQ f n0 v v').2.length) l ak).2.length) r r').2)):=rfl;rw[e] at hnew hl h;simp only[AP] at hl;rw[Tr.get_node] at h;by_cases u:i=0
  .rw[BH u] at h⊢;rw[BH u];cases v with
   |none=>cases v'<;>cases h
   |some a=>
    cases v' with
    |none=>cases h
    |some D=>
     cases h;refine⟨n0,a,D,AE _,rfl,rfl,rfl,hnew.left,?_⟩;simp only[PQ] at hl;omega
  .rw[BG u] at h⊢;rw[BG u];by_cases O:i % 2=1
   .rw[BH O] at h⊢;rw[BH O];obtain⟨k,aS,p,E,C⟩:=Uk l ak _ hnew.right.left (by omega) _ c h;exact⟨k,aS,p,by omega,C⟩
   .rw[BG O] at h⊢;rw[BG O];obtain⟨k,aS,p,E,C⟩:=Uk r r' _ hnew.right.right (by omega) _ c h;exact⟨k,aS,p,by omega,C⟩
theorem Bn.get_flat {s:Bn}{i:Nat}(h:s.flat.get i=some c):s.get i=some c:=by
 unfold Bn.flat at h;split at h
 .rename_i l;have:s.loc=[]:=by simpa using l
  simp[Bn.get,this,CY,h]
 .cases h
theorem YH (C:(A.eval T).toB=b){af aj:Loc}(Y:af.tmps.n=aj.tmps.n)(y:n<=n0)(p:New T n0 (IT n0 A af aj).2)(X:n0+(IT n0 A af aj).2.length<=ap){a:Act}(h:Rel T n W (sel b af aj) a w):
  ∃ ad,BY T n W (sel b af aj).mem w ad (IT n0 A af aj).1.mem w/\Rel T ap ad (IT n0 A af aj).1 a w:=by
 have l:(sel b af aj).mem=sel b af.mem aj.mem:=by cases b<;>rfl
 have u:(sel b af aj).tmps=sel b af.tmps aj.tmps:=by cases b<;>rfl
 have q:=h.mem;rw[l] at q;simp only[IT,AP] at p X⊢;obtain⟨ab,D,-,-⟩:=Pn (ap:=ap) C q y p.left (by omega);rw[l];have hd:=h.defers;rw[l] at hd;refine⟨_,D,hd.on D,?_,?_,ab⟩
 .rw[h.size,u];cases b<;>simp[sel,Y]
 .intro i c H;have M:(GA (S7 (Ct A n0 af.mem aj.mem).1 af.mem aj.mem A) (n0+(Ct A n0 af.mem aj.mem).2.length) af.tmps.flat aj.tmps.flat).1.get i=some c:=by
   simpa [Bn.get,CY] using H
  obtain⟨k,aS,E,q1,q2,q3,q4,q5,q6⟩:=Uk (ap:=ap) _ _ _ p.right (by omega) i c M;subst q4;have O:BQ T n W (sel b af.mem aj.mem) w (sel b aS E) (a.tmps.getD i undef):=by
   rw[<-l];refine h.tmps i _ ?_;rw[u];cases b
   .exact Bn.get_flat q3
   .exact Bn.get_flat q2
  exact mw C q y p.left (by omega) (by omega) q5 q6 O
end
section
variable {P:Program}{T:Tab}{call:CM}{r:Option Nat}{k:Nat}
def Fe (P:Program)(r:Option Nat)(k:Nat)(Z:Array Oper)(o:Oper)(a:Act)(w:World)(K:Act->World->Prop)(Q:Exit->Act->World->Prop):Prop:=
 if Region.wanted o (yielded Z a.tmps) then o.wpIn (fen r) k P a w K Q else K (a.put o.dst undef) w
variable{o:Oper}{a:Act}{w:World}{K:Act->World->Prop}{Q:Exit->Act->World->Prop}{g:G}{W:Nat->Option Nat}{au:Array TypeId}
theorem Kh (l:∀c,o.op≠ .defer c)(h:o.uponIn (fen r) k P a K Q ((execOp a.eval o).run P w)):o.wpIn (fen r) k P a w K Q:=by
 refine⟨fun _ _=>trivial,?_⟩;rw[Oper.semAt_eq _ _ _ l];exact h
theorem ng {m:Mem}{l:R}(y:∀c,o.op≠ .defer c)(h:Cd T g W m w ((execOp a.eval o).run P w) l)
  (u:∀v ac ad,BY T g.n W m w ad l.m ac->BX T (g.n+l.us.length) ad l.m ac->BQ T (g.n+l.us.length) ad l.m ac l.c v->K (a.put o.dst v) ac):o.wpIn (fen r) k P a w K Q:=by
 refine Kh y ?_;obtain⟨v,ac, ad,O|⟨O,rfl⟩,C,p,q⟩:=h
 .rw[O];exact u v ac ad C p q
 .rw[O];exact u _ ac ad C p q
theorem ox {f:Operand}{args:Array Operand}{b:Nat}{q:Loop}(D:o.op= .call { callee:= .value f,args,argTypes:=au })
  (u:a.eval f= .func (.yield b) #[] #[]) (l:w.heap[b]? =some (.loop q)) (y:(args.toList.map a.eval).length=q.params.size):
  (execOp a.eval o).run P w= .ok (.round b q.fn ((q.params.zip (args.toList.map a.eval).toArray).foldl (fun t (p,v)=>t.setIfInBounds p v) q.tmps) q.assign q.body) w:=by
 have E:args.map a.eval=(args.toList.map a.eval).toArray:=by rw[<-Array.toList_map,Array.toArray_toList]
 have C:(args.map a.eval).size=q.params.size:=by simpa using y
 have H:=run_yield (P:=P) (args:=args.map a.eval) l C;simp only[execOp,D,resolve,u,Deferred.ofValue,Ar,Ay,Aq,invoke];grind
theorem iw {f:Operand}{args:Array Operand}{R:Ending->World->Prop}(u:o.op= .call { callee:= .value f,args,argTypes:=au })
  (h:NE P (a.eval f) (args.toList.map a.eval) w R) (H:∀e ac,R e ac->∃v,e= .returned v/\K (a.put o.dst v) ac):o.wpIn (fen r) k P a w K Q:=by
 refine Kh (fun c y=>by rw[u] at y;cases y) ?_;rcases h with⟨j,first,I,aA,O,C,l,p,D⟩|⟨b,q,O,C,l,p⟩
 .rw[lJ u O C l p,Oper.uponIn_enter];refine⟨fun h=>(by cases h),gA (D.mono fun e ac E=>?_)⟩;grind
 .rw[ox u O C l,Oper.uponIn_round];refine⟨fun h=>(by cases h),RoundIn.mono (p (k - 1)) fun e ac E=>?_⟩;grind
theorem kO {aE:Operand->AC}{op:Op}{m:Mem}{r:R}(M:CS op=true)(h:aOp P aE op m g=some r)(H:New T g.n r.us)(a1:∀q∈r.ps,q.holds T)(Y:BX T g.n W m w)
  (p:∀x,BQ T g.n W m w (aE x) (a.eval x)):r.m=m:=by
 cases op<;>simp only[aOp] at h<;>simp only[CS] at M<;>try (cases M;done)
 case move x=>cases h;rfl
 case assign x=>cases h;rfl
 case pick c x y=>exact (QB h H Y (p c) (fun _=>p x) (fun _=>p y)).elim fun _ h=>h.2.1
 case build t aV=>
  unfold VY at h;simp only[AD,AA] at h;obtain⟨i,_,z,_,l,_,h⟩:=h;split at h
  .simp only[AA] at h;obtain⟨_,_,ak,_,h⟩:=h;cases h;rfl
  .simp only[AA] at h;obtain⟨_,_,ak,_,h⟩:=h;cases h;rfl
  .cases h
 case load t x=>obtain⟨u,O,C,D⟩:=P9 h H Y (p x);exact C
 case nilCheck x=>
  unfold Hk at h;split at h<;>cases h<;>rfl
 case binOp op t x y yt=>obtain⟨z,O,C,D⟩:=S3 h H a1 (p x) (p y) x y;exact C
 case unOp op t x=>obtain⟨z,O,C,D⟩:=cr (P:=P) (w:=w) h H (p x);exact C
 case convert s d x=>obtain⟨z,O,C,D⟩:=O1 h H (p x);exact C
 case makeFunc aA first I=>cases h;rfl
 case fieldAddr t x f=>obtain⟨z,O,C,D,h4⟩:=MI h (p x);exact C
 case field t x f=>obtain⟨z,O,C,D,h4⟩:=So h (p x);exact C
 case indexAddr t x i=>obtain⟨z,O,C,D⟩:=MF h H a1 (p x) (p i);exact C
 case index t x i=>obtain⟨z,O,C,D⟩:=SB h H a1 (p x) (p i);exact C
 case extract x i=>obtain⟨z,O,C,D,h4⟩:=PM (P:=P) h (p x);exact C
 case slice t x ar ab a0=>
  cases a0 with
  |some v=>cases M
  |none=>
   have a4:∀l:Option Operand,QP T g.n W m w (l.map aE) (l.map a.eval):=by
    intro l;cases l with
    |none=>rfl
    |some y=>exact⟨_,rfl,p y⟩
   obtain⟨z,O,C,D⟩:=SA h H a1 Y (p x) (a4 ar) (a4 ab);exact C
 case call c=>
  obtain⟨ba,args,au⟩:=c;cases ba with
  |value f=>cases h
  |invoke x n=>cases h
  |builtin b=>
   obtain⟨args⟩:=args;simp only at h;unfold Kf at h;cases b<;>simp only at M<;>try (cases M;done)
   all_goals
    split at h<;>(try (rename_i bb _;cases bb))<;>try (cases h;done)
   all_goals first
    |(simp only[TA,AD,AA] at h
      obtain⟨_,_,_,_,h⟩:=h;cases h;rfl)
    |(simp only[AD,AA] at h
      obtain⟨t,ht,h⟩:=h;split at h<;>cases h;rfl)
    |(rename_i x E
      cases args with
      |nil=>cases E
      |cons x1 X=>
       cases X with
       |cons=>cases E
       |nil=>
        simp at E;subst E;simp only[AD,AA] at h;obtain⟨t,ht,h⟩:=h;obtain⟨z,O,C,D⟩:=Xc h H Y (p x1) au ht 0;exact C)
    |(rename_i x y E
      cases args with
      |nil=>cases E
      |cons x1 X=>
       cases X with
       |nil=>cases E
       |cons aw X=>
        cases X with
        |cons=>cases E
        |nil=>
         simp at E;obtain⟨rfl,rfl⟩:=E;obtain⟨z,O,C,D⟩:=M5 (P:=P) h H (p x1) (p aw) au 0;exact C)
end
section
variable {P:Program}{T:Tab}{W :Nat->Option Nat}{m:Mem}{w:World}{g:G}{r:R}
variable{a:Act}{o:Oper}{aE:Operand->AC}{k:Nat}
theorem Zs {b:Builtin}{args:Array Operand}{au:Array TypeId}(ho:o.op= .call { callee:= .builtin b,args,argTypes:=au })(h:Kf P b au (args.toList.map aE) m g=some r)
  (hf:CS o.op=true) (X:New T g.n r.us) (ba:∀q∈r.ps,q.holds T) (H:BX T g.n W m w) (D:∀x,BQ T g.n W m w (aE x) (a.eval x)):CR T g W m w ((execOp a.eval o).run P w) r:=by
 rw[Ld ho];obtain⟨args⟩:=args;unfold Kf at h;split at h
 .rename_i M x l;cases args with
  |nil=>cases l
  |cons u p=>
   cases p with
   |cons=>cases l
   |nil=>
    simp at l;subst l;simp only[AD,AA] at h;obtain⟨t,Y,h⟩:=h;obtain⟨z,O,C,E⟩:=Xc h X H (D u) au Y o.type;exact CR.pure (by simp[builtin,O]) H C E
 .rename_i M x y l;cases args with
  |nil=>cases l
  |cons u p=>
   cases p with
   |nil=>cases l
   |cons aw p=>
    cases p with
    |cons=>cases l
    |nil=>
     simp at l;obtain⟨rfl,rfl⟩:=l;obtain⟨z,O,C,E⟩:=M5 (P:=P) h X (D u) (D aw) au o.type;exact CR.pure (by simp at O;simp[builtin,O]) H C E
 .rename_i M x y l;cases args with
  |nil=>cases l
  |cons u p=>
   cases p with
   |nil=>cases l
   |cons aw p=>
    cases p with
    |cons=>cases l
    |nil=>
     simp at l;obtain⟨rfl,rfl⟩:=l;obtain⟨z,O,C,E⟩:=M5 (P:=P) h X (D u) (D aw) au o.type;exact CR.pure (by simp at O;simp[builtin,O]) H C E
 .rw[ho] at hf;cases hf
 .rename_i M aO aS c2 a3 l;cases args with
  |nil=>cases l
  |cons u p=>
   simp only[AT,List.cons.injEq] at l;obtain⟨rfl,l⟩:=l;obtain⟨z,O,C,E⟩:=Np (P:=P) (w:=w) _ _ _ (p.map a.eval) g r h X (D u) (by rw[<-l];exact BR.of_map D p);refine CR.pure (v:=z) ?_ H C E;simp only[AZ,if_false] at O;simp[builtin,Builtin.min_,O]
 .rename_i M aO aS c2 a3 l;cases args with
  |nil=>cases l
  |cons u p=>
   simp only[AT,List.cons.injEq] at l;obtain⟨rfl,l⟩:=l;obtain⟨z,O,C,E⟩:=Np (P:=P) (w:=w) _ _ _ (p.map a.eval) g r h X (D u) (by rw[<-l];exact BR.of_map D p);refine CR.pure (v:=z) ?_ H C E;simp only[if_true] at O;simp[builtin,Builtin.max_,O]
 .rename_i M l;cases args with
  |nil=>cases l
  |cons u p=>
   cases p with
   |cons=>simp at l
   |nil=>
    simp at l;simp only[AD,AA] at h;obtain⟨t,Y,h⟩:=h;split at h
    .rename_i e hu;cases h;have hx:=D u;rw[l] at hx;have a9:a.eval u= .slice none 0 0:=hx;refine CR.pure (v:= .int .i64 0) ?_ H rfl rfl;simp[builtin,Builtin.cap_,a9,Y,run_underlying hu,goInt]
    .cases h
 .cases h
theorem rH (h:aOp P aE o.op m g=some r)(hf:CS o.op=true)(M:New T g.n r.us)(X:∀q∈r.ps,q.holds T)(E:BX T g.n W m w)(p:∀x,BQ T g.n W m w (aE x) (a.eval x)):
  CR T g W m w ((execOp a.eval o).run P w) r:=by
 have a1:∀xs:Array Operand,xs.map a.eval=(xs.toList.map a.eval).toArray:=fun xs=>by rw[<-Array.toList_map,Array.toArray_toList]
 have a4:=hf;cases H:o.op<;>rw[H] at h hf<;>simp only[aOp] at h<;>simp only[CS] at hf<;>try (cases hf;done)
 case move x=>cases h;exact CR.same (v:=a.eval x) (by simp[execOp,H]) E rfl (p x)
 case assign x=>cases h;exact CR.same (v:=a.eval x) (by simp[execOp,H]) E rfl (p x)
 case pick c x y=>
  obtain⟨q,O,C,D⟩:=QB h M E (p c) (fun _=>p x) (fun _=>p y);exact CR.pure (v:=if q then a.eval x else a.eval y) (by simp[execOp,H,O,asBool]) E C D
 case build t aV=>exact Yo h E H p
 case load t x=>
  obtain⟨u,O,C,D⟩:=P9 h M E (p x);exact CR.pure (by simp[execOp,H,O]) E C D
 case nilCheck x=>exact Se h X E H rfl (p x)
 case binOp op t x y yt=>
  obtain⟨z,O,C,D⟩:=S3 h M X (p x) (p y) x y;exact CR.pure (v:=z) (OA (s:=do eqGuard op t x y (a.eval x) (a.eval y);binOp op t (a.eval x) (a.eval y)) (by simp only[execOp,H]) O) E C D
 case unOp op t x=>
  obtain⟨z,O,C,D⟩:=cr (P:=P) (w:=w) h M (p x);exact CR.pure (by simp[execOp,H,O]) E C D
 case convert s d x=>
  obtain⟨z,O,C,D⟩:=O1 h M (p x);exact CR.pure (by simp[execOp,H,O]) E C D
 case makeFunc aA first I=>
  cases h;refine CR.same (v:= .func aA (first.map a.eval) (I.map a.eval)) (by simp[execOp,H,Instr.makeFunc]) E rfl ?_;refine⟨first.toList.map a.eval,I.toList.map a.eval,by rw[a1,a1],BR.of_map p _,BR.of_map p _⟩
 case fieldAddr t x f=>
  obtain⟨z,O,C,D,Y⟩:=MI h (p x);exact CR.same (by simp[execOp,H,O]) E C Y
 case field t x f=>
  obtain⟨z,O,C,D,Y⟩:=So h (p x);exact CR.same (by simp[execOp,H,O]) E C Y
 case indexAddr t x i=>
  obtain⟨z,O,C,D⟩:=MF h M X (p x) (p i);exact CR.pure (by simp[execOp,H,O]) E C D
 case index t x i=>
  obtain⟨z,O,C,D⟩:=SB h M X (p x) (p i);rcases D with D|D
  .exact CR.same (by simp[execOp,H,O]) E C D
  .exact CR.pure (by simp[execOp,H,O]) E C D
 case slice t x ar ab a0=>
  cases a0 with
  |some v=>cases hf
  |none=>
   have a2:∀l:Option Operand,QP T g.n W m w (l.map aE) (l.map a.eval):=by
    intro l;cases l with
    |none=>rfl
    |some y=>exact⟨_,rfl,p y⟩
   obtain⟨z,O,C,D⟩:=SA h M X E (p x) (a2 ar) (a2 ab);exact CR.pure (by simp[execOp,H,O]) E C D
 case extract x i=>
  obtain⟨z,O,C,D,Y⟩:=PM (P:=P) h (p x);exact CR.same (by simp[execOp,H,O]) E C Y
 case call c=>
  obtain⟨a3,args,au⟩:=c;cases a3 with
  |builtin b=>exact Zs H h a4 M X E p
  |value f=>cases h
  |invoke x n=>cases h
theorem Xl (h:aOp P aE o.op m g=some r)(u:CS o.op=true)(C:New T g.n r.us)(D:∀q∈r.ps,q.holds T)(y:BX T g.n W m w)(p:∀x,BQ T g.n W m w (aE x) (a.eval x)):
  ∃v,(execOp a.eval o).run P w= .ok (.value v) w/\BQ T (g.n+r.us.length) W m w r.c v:=by
 obtain⟨v,O,_,l⟩:=rH h u C D y p;exact⟨v,O,l⟩
theorem Yf {op:Op}(h:FL k P aE op m g=some r)(l:CS op=true):aOp P aE op m g=some r:=by
 unfold FL at h;split at h
 .exact h
 .split at h
  .cases l
  .cases l
  .cases l
  .cases l
  .cases h
 .split at h
  .cases l
  .exact h
theorem KH (h:FL k P aE o.op m g=some r)(l:CS o.op=true)(y:New T g.n r.us)(C:∀q∈r.ps,q.holds T)(u:BX T g.n W m w)(p:∀x,BQ T g.n W m w (aE x) (a.eval x)):
  ∃v,(execOp a.eval o).run P w= .ok (.value v) w/\BQ T (g.n+r.us.length) W m w r.c v:=Xl (Yf h l) l y C u p
theorem Ti {op:Op}{m:Mem}{g:G}{r:R}(l:CS op=true)(h:FL k P aE op m g=some r){W :Nat->Option Nat}{w:World}(y:New T g.n r.us)(C:∀q∈r.ps,q.holds T)(u:BX T g.n W m w)
  (p:∀x,BQ T g.n W m w (aE x) (a.eval x)):r.m=m:=kO l (Yf h l) y C u p
theorem Q6 {op:Op}(h:FL k P aE op m g=some r):∀c,op≠ .defer c:=by
 intro c l;subst l;unfold FL at h;split at h<;>cases h
end
section
variable {P:Program}{T:Tab}{call:CM}{an:Ys}{r:Option Nat}{al:Nat}
variable{s aq:RS}{aL:Bool}{c:AC}{Z:Array Oper}{ae:PC}{o:Oper}{a:Act}{w:World}{g ao:G}{W:Nat->Option Nat}{v:Value}
theorem Ra {l:PC}{base:List Nat}{j:Nat}{run:Option (PC × List Nat)}(h:Fp l base s j aL c=some (run,aq)):Bo s.g aq.g/\aq.tmps=s.tmps/\aq.mem=s.mem:=by
 cases c<;>simp only[Fp] at h<;>try (cases h;done)
 case cb b=>split at h<;>cases h<;>exact⟨Bo.refl _,rfl,rfl⟩
 case b x=>cases h;exact⟨Bo.push s.g [ED l x aL],rfl,rfl⟩
 case nb x=>cases h;exact⟨Bo.push s.g [ED l x (!aL)],rfl,rfl⟩
theorem J7 {run:Option (PC × List Nat)}(h:EG Z ae s o=some (run,aq)):Bo s.g aq.g/\aq.tmps=s.tmps/\aq.mem=s.mem:=by
 unfold EG at h;split at h
 .cases h;exact⟨Bo.refl _,rfl,rfl⟩
 .split at h
  .cases h;exact⟨Bo.refl _,rfl,rfl⟩
  .simp only[AD,AA] at h;obtain⟨_,_,_,_,c,_,h⟩:=h;split at h
   .cases h;exact⟨Bo.refl _,rfl,rfl⟩
   .simp only[AA] at h;obtain⟨e,_,h⟩:=h;exact Ra h
   .exact Ra h
theorem WC {n:Nat}{p:List GE}(D:∀e∈p,HX T Z n a e){c:Operand}(u:a.eval c= .bool aL)(H:∀t,c= .tmp t->t < a.tmps.size):∀x∈Pm Z p c aL,T x= .bool true:=by
 intro x l;cases c with
 |tmp t=>
  simp only[Pm,BL,List.mem_filter,AB] at l;obtain⟨e,⟨C,M,hd⟩,rfl⟩:=l;have O:e.want=aL:=by simpa using M
  have y:(Z[e.j]?).bind (·.dst)=some t:=by simpa using hd
  refine (D e C).iff.2 ?_;have q:=H t rfl;have E:a.tmps[t]? =some (.bool aL):=by
   have:a.tmps.getD t undef= .bool aL:=u;simp[AJ,q] at this;simp[q,this]
  simp only[yielded,y,Ag,E,O]
 |_=>simp[Pm] at l
theorem Rp (ae:PC)(c:AC):Z0 ae [] c=c:=by cases ae<;>rfl
theorem eN {p:Nat}{aX:List Nat}(h:aX≠[])(c:AC):Z0 (some p) aX c= .gd p c:=by cases aX<;>first|exact absurd rfl h|rfl
theorem NE.mono {fv:Value}{args:List Value}{R u:Ending->World->Prop}(h:NE P fv args w R)(y:∀e ac,R e ac->u e ac):NE P fv args w u:=by
 rcases h with⟨k,first,I,aA,O,C,l,p,D⟩|⟨b,q,O,C,l,p⟩
 .exact .inl ⟨k,first,I,aA,O,C,l,p,D.mono y⟩
 .exact .inr ⟨b,q,O,C,l,fun k=>(p k).mono y⟩
def Zy (P:Program)(T:Tab)(args:List AC)(one:AC->PC->Mem->G->Option (AC × Mem × G))(H:G->(Nat->Option Nat)->Mem->World->AC->Value->Prop):Prop:=
 ∀f ae m g c ag ao,one f ae m g=some (c,ag,ao)->Bo g ao/\(Agr T ao->CB T ao->pcv T ae->Ch T g ae->∀ W w fv Y,H g W m w f fv->BR T g.n W m w args Y->BX T g.n W m w->NE P fv Y w (H3 T g W m w c ag ao))
theorem LZ (a1:Dj P T call)(X:ES P T.lp an)(args:List AC):Zy P T args (Fz call an args) (fun g W m w f fv=>BQ T g.n W m w f fv):=by
 intro f ae m g c ag ao h;unfold Fz at h;split at h
 .rename_i k first I
  obtain⟨l,aa⟩:=a1 an k _ ae m g c ag ao X h;refine⟨l,fun C M O E W w fv Y p D H=>?_⟩;obtain⟨v1,us,q,u,e3⟩:=p;obtain⟨⟨aA,q1,q2,q3⟩,hc⟩:=aa C M O E W w (v1++Y++us) ((u.append D).append e3) H;exact .inl ⟨k,v1,us,aA,q,q1,q2,q3,hc⟩
 .rename_i id;split at h
  .rename_i ba st bb;simp only[AD,AA] at h;obtain⟨y,hy,h⟩:=h;obtain⟨l,aa⟩:=X T rfl ba y hy id args ae m g c ag ao h;refine⟨l,fun C M O E W w fv Y p D H=>?_⟩;obtain⟨b,q,u,_⟩:=p;grind
  .cases h
 .cases h
def EA (g:G):PC->Prop
 |none=>True
 |some c=>c < g.n
theorem EA.grow (h:EA g ae)(k:Bo g ao):EA ao ae:=by
 cases ae with
 |none=>trivial
 |some c=>exact AH h k.n
theorem Ch.lt (h:Ch T g ae):EA g ae:=by
 cases ae with
 |none=>trivial
 |some c=>exact h.1
theorem EA.ok (h:EA g ae)(l:pcv T ae):Ch T g ae:=by
 cases ae with
 |none=>trivial
 |some c=>exact⟨h,true,l⟩
theorem IB {c:Nat}:pcv T (some c)↔(T c).toB=true:=⟨fun h=>by rw[show T c= .bool true from h];rfl,Rx⟩
theorem Jh {p:PC}{x:Nat}(h:Es g ae x aL=(p,ao)):Bo g ao/\(Agr T ao->EA g ae->x < g.n->EA ao p/\(pcv T p↔pcv T ae/\(T x).toB=aL)):=by
 have push:∀{p ao},(some g.n,g.pushAll [ED ae x aL])=(p,ao)->Bo g ao/\(Agr T ao->EA g ae->x < g.n->EA ao p/\(pcv T p↔pcv T ae/\(T x).toB=aL)):=by
  intro p ao h;cases h;refine⟨Bo.push _ _,fun l y q=>⟨by show _ < _;rw[Cr];exact Nat.lt_succ_self _,?_⟩⟩;have u:=l.new.head;rw[IB,u];cases ae with
  |none=>
   simp only[pcv,true_and];cases aL<;>simp[ED,Ex.eval,oId,XL,u0,eve,U.toB]
  |some c=>
   rw[IB];cases aL<;>simp[ED,Ex.eval,R9,u0,u1,eve,evn,U.toB]
 unfold Es at h;split at h
 .cases h;refine⟨Bo.refl _,fun l _ q=>⟨q,?_⟩⟩;simp only[pcv,true_and];exact⟨fun h=>by rw[h];rfl,Rx⟩
 .exact push h
theorem OX {b:Bool}{A:Rf}(u:(A.eval T).toB=b){n n0 ap:Nat}{ax ai:Mem}(p:BX T n W (sel b ax ai) w){d:AC}(E:n<=n0)
  (q:New T n0 ((Ct A n0 ax ai).2++(Ha (n0+(Ct A n0 ax ai).2.length) A c d).2))
  (H:n0+((Ct A n0 ax ai).2.length+(Ha (n0+(Ct A n0 ax ai).2.length) A c d).2.length)<=ap)
  (h:BQ T n W (sel b ax ai) w (sel b c d) v):
  ∃ ad,BY T n W (sel b ax ai) w ad (Ct A n0 ax ai).1 w/\BX T ap ad (Ct A n0 ax ai).1 w/\BQ T ap ad (Ct A n0 ax ai).1 w (Ha (n0+(Ct A n0 ax ai).2.length) A c d).1 v:=by
 obtain⟨D,y,-,-⟩:=Pn (ap:=ap) u p E q.left (by omega);have C:=BQ.mono y p (AE _) _ _ h;refine⟨_,y,D,vE (n:=n) u (by omega) q.right (by omega) (fun l=>?_) (fun l=>?_)⟩
 .subst l;exact C
 .subst l;exact C
theorem Xw {args:List AC}{one:AC->PC->Mem->G->Option (AC × Mem × G)}(b3:Zy P T args one (fun g W m w f fv=>BQ T g.n W m w f fv)){x:Nat}{am:Int}(b2:T x= .int am)(h0:0<=am):
  ∀(cb:List AC) (j:Nat),Zy P T args (fun _ ae m g=>Kz one x j cb ae m g) (fun g W m w _ fv=>j<=am.toNat/\CG T g.n W m w cb (am.toNat - j) fv)
 |[],j=>fun f ae m g c ag ao h=>by simp[Kz] at h
 |[aO],j=>by
  intro f ae m g c ag ao h;have h':one aO ae m g=some (c,ag,ao):=by cases aO<;>first|exact h|(rename_i cc;cases cc<;>exact h)
  obtain⟨gr,aa⟩:=b3 aO ae m g c ag ao h';refine⟨gr,fun hA ab a0 hk W w fv Y ⟨hj,p⟩ a3 q=>aa hA ab a0 hk W w fv Y ?_ a3 q⟩;cases hd:am.toNat - j with
  |zero=>rw[hd] at p;exact p
  |succ d=>rw[hd] at p;exact p.elim
 |aO::aS::aC,j=>by
  intro f ae m g c ag ao h;by_cases cv:aO= .cv .nilFunc
  .subst cv;simp only[Kz] at h;obtain⟨gr,aa⟩:=Xw b3 b2 h0 (aS::aC) (j+1) f ae m _ c ag ao h;refine⟨(Bo.need _ _ _).trans gr,fun hA ab a0 hk W w fv Y ⟨hj,p⟩ a3 q=>?_⟩;have de:=CB.need (ab.of gr) a0 ⟨ "ne",pNe,[.e x,.c (.int j)]⟩ (by simp);simp only[Pr.holds,pNe,AT,An,u0,u1,eve,evc,b2,U.toI] at de;obtain⟨e1,e2,e3,e4⟩:=EW [⟨ "ne",pNe,[.e x,.c (.int j)]⟩] g ae;have hd:am.toNat - j=(am.toNat - (j+1))+1:=by omega
   rw[hd] at p;have:=aa hA ab a0 (hk.grow (Bo.need _ _ _)) W w fv Y ⟨by omega,by rw[e1];exact p⟩ (by rw[e1];exact a3) (by rw[e1];exact q);refine this.mono fun e ac ⟨v, ad,q1,q2,q3,q4⟩=>⟨v, ad,q1,by rw[e1] at q2;exact q2,q3,q4⟩
  .have di:Kz one x j (aO::aS::aC) ae m g=(do
     let t:=g.n;let g:=g.pushAll [⟨ "eq",oEq,[.e x,.c (.int j)]⟩];let (pa,g):=Es g ae t true;let (y,aG,g) <-one aO pa m g;let (pb,g):=Es g ae t false;let (D,u,g) <-Kz one x (j+1) (aS::aC) pb m g;let (ag,us):=Ct (.e t) g.n aG u;let (c',dn):=Ha (g.n+us.length) (.e t) y D
     some (c',ag,g.pushAll (us++dn))):=by
    cases aO<;>first|rfl|(rename_i cc;cases cc<;>first|rfl|exact absurd rfl cv)
   simp only[di] at h;generalize b8:g.pushAll [⟨ "eq",oEq,[.e x,.c (.int j)]⟩]=g0 at h;have M:Bo g g0:=by rw[<-b8];exact Bo.push _ _
   have d1:g0.n=g.n+1:=by rw[<-b8,Cr];rfl
   generalize c9:Es g0 ae g.n true=ba at h;obtain⟨pa,g1⟩:=ba;simp only[AD,AA] at h;obtain⟨⟨y,aG,aw⟩,O,h⟩:=h;simp only at h;generalize db:Es aw ae g.n false=bb at h;obtain⟨pb,g3⟩:=bb;simp only[AA] at h;obtain⟨⟨D,u,l⟩,C,h⟩:=h;cases h;obtain⟨H,k1⟩:=Jh (T:=T) c9;obtain⟨X,E⟩:=b3 aO pa m g1 y aG aw O;obtain⟨a1,k3⟩:=Jh (T:=T) db;obtain⟨bi,k4⟩:=Xw b3 b2 h0 (aS::aC) (j+1) f pb m g3 D u l C;have bx:Bo l (l.pushAll ((Ct (.e g.n) l.n aG u).2++(Ha (l.n+(Ct (.e g.n) l.n aG u).2.length) (.e g.n) y D).2)):=Bo.push _ _;refine⟨((((M.trans H).trans X).trans a1).trans bi).trans bx,fun hA ab a0 hk W w fv Y ⟨hj,p⟩ a3 q=>?_⟩;have cj:=hA.of bx;have ci:=cj.of bi;have ch:=ci.of a1;have cf:=ch.of X;have c8:=cf.of H;have hT:T g.n= .bool (decide (am=j)):=by
    have:Agr T (g.pushAll [⟨ "eq",oEq,[.e x,.c (.int j)]⟩]):=by rw[b8];exact c8
    rw[this.new.head];simp[Ex.eval,oEq,u0,u1,eve,evc,b2,U.toI]
   obtain⟨c0,a2⟩:=k1 cf (hk.lt.grow M) (by omega);obtain⟨c2,a4⟩:=k3 ci (hk.lt.grow ((M.trans H).trans X)) (by have:=H.n;have:=X.n;omega);have cu:=hA.new;have cs:(l.pushAll ((Ct (.e g.n) l.n aG u).2++(Ha (l.n+(Ct (.e g.n) l.n aG u).2.length) (.e g.n) y D).2)).n=l.n+((Ct (.e g.n) l.n aG u).2.length+(Ha (l.n+(Ct (.e g.n) l.n aG u).2.length) (.e g.n) y D).2.length):=by
    rw[Cr,AP]
   by_cases hc:am=j
   .have cx:pcv T pa:=a2.2 ⟨a0,by rw[hT];simp[hc,U.toB]⟩;have hd:am.toNat - j=0:=by omega
    rw[hd] at p;have up1:=(M.trans H).n;have:=E ch (ab.of ((a1.trans bi).trans bx)) cx (c0.ok cx) W w fv Y (BQ.up q up1 p) (a3.up q up1) (q.mono up1);refine this.mono fun e ac ⟨v, ad,q1,q2,q3,q4⟩=>?_;obtain⟨aV,aF,s2,s3⟩:=OX (n:=aw.n) (b:=true) (ax:=aG) (ai:=u) (c:=y) (d:=D) (v:=v) (by simp[eve,hT,hc,U.toB]) q3 (a1.trans bi).n cu (Nat.le_of_eq cs.symm) q4;exact⟨v, aV,q1,(q2.down up1).trans q ((M.trans H).trans X).n aF,s2,s3⟩
   .have cy:pcv T pb:=a4.2 ⟨a0,by rw[hT];simp[hc,U.toB]⟩;have hd:am.toNat - j=(am.toNat - (j+1))+1:=by omega
    rw[hd] at p;have b6:=(((M.trans H).trans X).trans a1).n;have dd:CG T g.n W m w (aS::aC) (am.toNat - (j+1)) fv:=p;have:=k4 cj (ab.of bx) cy (c2.ok cy) W w fv Y ⟨by omega,CG.mono0 (BY.refl _ _ _ _ _) b6 _ _ _ dd⟩ (a3.up q b6) (q.mono b6);refine this.mono fun e ac ⟨v, ad,q1,q2,q3,q4⟩=>?_;obtain⟨aV,aF,s2,s3⟩:=OX (n:=l.n) (b:=false) (ax:=aG) (ai:=u) (c:=y) (d:=D) (v:=v) (by simp[eve,hT,hc,U.toB]) q3 (AE _) cu (Nat.le_of_eq cs.symm) q4;exact⟨v, aV,q1,(q2.down b6).trans q ((((M.trans H).trans X).trans a1).trans bi).n aF,s2,s3⟩
theorem mV (q:Dj P T call)(u:ES P T.lp an)(args:List AC):Zy P T args (fun f ae m g=>Pj call an f args ae m g) (fun g W m w f fv=>BQ T g.n W m w f fv):=by
 intro f ae m g c ag ao h;by_cases aa:∃x l,f= .sel x l
 .obtain⟨x,l,rfl⟩:=aa;simp only[Pj] at h;by_cases hx:∃am,T x= .int am/\0<=am
  .obtain⟨am,O,C⟩:=hx;obtain⟨gr,k⟩:=Xw (LZ q u args) O C l 0 .any ae m g c ag ao h;refine⟨gr,fun hA a9 bi hk W w fv Y ⟨_,j,p,_,e3⟩ a1 hm=>k hA a9 bi hk W w fv Y ⟨Ak _,?_⟩ a1 hm⟩;rw[O] at p;cases p;exact e3
  .
   refine⟨?_,fun hA a9 bi hk W w fv Y ⟨_,j,p,e2,e3⟩ a1 hm=>absurd ⟨j,p,e2⟩ hx⟩;have grow:∀(l:List AC) (j:Nat) (ae:PC) (m:Mem) (g:G) (c:AC) (ag:Mem) (ao:G),Kz (Fz call an args) x j l ae m g=some (c,ag,ao)->Bo g ao:=by
    intro l;induction l with
    |nil=>intro j ae m g c ag ao h;simp[Kz] at h
    |cons aO l ih=>
     intro j ae m g c ag ao h;cases l with
     |nil=>
      have h':Fz call an args aO ae m g=some (c,ag,ao):=by cases aO<;>first|exact h|(rename_i E;cases E<;>exact h)
      exact (LZ q u args aO ae m g c ag ao h').1
     |cons aS aC=>
      by_cases a4:aO= .cv .nilFunc
      .subst a4;simp only[Kz] at h;exact (Bo.need _ _ _).trans (ih (j+1) ae m _ c ag ao h)
      .have b5:Kz (Fz call an args) x j (aO::aS::aC) ae m g=(do
         let t:=g.n;let g:=g.pushAll [⟨ "eq",oEq,[.e x,.c (.int j)]⟩];let (M,g):=Es g ae t true;let (y,aG,g) <-Fz call an args aO M m g;let (X,g):=Es g ae t false;let (D,H,g) <-Kz (Fz call an args) x (j+1) (aS::aC) X m g;let (ag,us):=Ct (.e t) g.n aG H;let (c',b6):=Ha (g.n+us.length) (.e t) y D
         some (c',ag,g.pushAll (us++b6))):=by
        cases aO<;>first|rfl|(rename_i E;cases E<;>first|rfl|exact absurd rfl a4)
       simp only[b5] at h;generalize b3:Es (g.pushAll [⟨ "eq",oEq,[.e x,.c (.int j)]⟩]) ae g.n true=ba at h;obtain⟨M,g1⟩:=ba;simp only[AD,AA] at h;obtain⟨⟨y,aG,aw⟩,O,h⟩:=h;simp only at h;generalize b4:Es aw ae g.n false=bb at h;obtain⟨X,g3⟩:=bb;simp only[AA] at h;obtain⟨⟨D,H,g4⟩,C,h⟩:=h;cases h;exact ((((Bo.push _ _).trans (Jh (T:=T) b3).1).trans (LZ q u args aO M m g1 y aG aw O).1).trans (Jh (T:=T) b4).1).trans ((ih (j+1) X m g3 D H g4 C).trans (Bo.push _ _))
   exact grow l 0 ae m g c ag ao h
 .have:Pj call an f args ae m g=Fz call an args f ae m g:=by
   unfold Pj;split
   .exact absurd ⟨_,_,rfl⟩ aa
   .rfl
  simp only[this] at h;exact LZ q u args f ae m g c ag ao h
theorem tU {n:Nat}{m:Mem}{a:AC}(l:∀q∈cE a,q.holds T)(h:BQ T n W m w a v):BQ T n W m w (Zw a) v:=by
 unfold Zw;split
 .rename_i c i o;have:=l ⟨ "t",pT,[.e c]⟩ (by simp[cE]);simp only[Pr.holds,pT,AT,An,u0,eve] at this;exact h.2 (IB.2 this)
 .exact h
theorem Yp {n:Nat}{W :Nat->Option Nat}{m:Mem}{w:World}:∀{l:List AC} {Y:List Value},(∀q∈Kv l,q.holds T)->BR T n W m w l Y->BR T n W m w (l.map Zw) Y
 |[],_,_,h=>h
 |a::l,_,hq,⟨u,us,e,O,C⟩=>⟨u,us,e,tU (fun q p=>hq q (by simp[Kv,p])) O,Yp (fun q p=>hq q (by simp[Kv,p])) C⟩
theorem Qw {m:Mem}{l:R}{K:Act->World->Prop}{Q:Exit->Act->World->Prop}(D:∀c,o.op≠ .defer c)(h:Cd T g W m w ((execOp a.eval o).run P w) l)
  (E:CS o.op=true->∃x,(execOp a.eval o).run P w= .ok x w)
  (u:∀v ac ad,BY T g.n W m w ad l.m ac->BX T (g.n+l.us.length) ad l.m ac->BQ T (g.n+l.us.length) ad l.m ac l.c v->(CS o.op=true->ac=w)->K (a.put o.dst v) ac):o.wpIn (fen r) al P a w K Q:=by
 refine Kh D ?_;obtain⟨v,ac, ad,O|⟨O,rfl⟩,C,p,q⟩:=h
 .rw[O];refine u v ac ad C p q fun y=>?_;grind
 .rw[O];refine u _ ac ad C p q fun y=>?_;grind
theorem JU (de:Dj P T call)(d6:ES P T.lp an)(h:Cu P call an Z ae s o=some aq):
  Bo s.g aq.g/\(Agr T aq.g->CB T aq.g->pcv T ae->Ch T s.g ae->∀ W a w K Q,DM T W Z s a w->
   (∀ ad v ac,DM T ad Z aq (a.put o.dst v) ac->BY T s.g.n W s.mem w ad aq.mem ac->(CS o.op=true->ac=w)->K (a.put o.dst v) ac)->Fe P r al Z o a w K Q):=by
 unfold Cu at h;simp only[AD,AA] at h;obtain⟨⟨run,aF⟩,hg,h⟩:=h;obtain⟨ch,d8,d9⟩:=J7 hg;simp only at h;split at h
 .cases h
 rename_i di;have hd:aF.gl.any (fun e=>((Z[e.j]?).bind (·.dst))==o.dst)=false:=by simpa using di
 split at h
 .
  cases h;refine⟨ch,fun hA _ cy hk W a w K Q ab M=>?_⟩;obtain⟨e1,e2,_,l,e3,_⟩:=Qa hg hA cy hk ab;unfold Fe;rw[e3 rfl];simp only[AZ,if_false];have:=l.put hd (Bo.refl _) (BY.refl T aF.g.n W aF.mem w) l.rel.mem (c:= .tup []) (v:=undef) ⟨[],rfl,rfl⟩;exact M W _ w this (by rw[show aF.mem=s.mem from e2];exact BY.refl _ _ _ _ _) (fun _=>rfl)
 .rename_i H aX;have b0:∀(aw:G) (c:AC) (a2:Mem),Bo aF.g aw->aq={ aF with tmps:=EL aF.tmps o.dst (Z0 H aX c),mem:=a2,g:=aw }->
    (aX≠[]->∀p,H=some p->(T p).toB=false->Agr T aw->∀ W w,BX T aF.g.n W aF.mem w->∃ ad,BY T aF.g.n W aF.mem w ad a2 w/\BX T aw.n ad a2 w)->
    (∀ W a w,DM T W Z aF a w->(∀c∈aX,T c= .bool true)->Agr T aw->CB T aw->pcv T H->Ch T aF.g H->∀K Q,(∀v ad ac,BY T aF.g.n W aF.mem w ad a2 ac->BX T aw.n ad a2 ac->BQ T aw.n ad a2 ac c v->(CS o.op=true->ac=w)->K (a.put o.dst v) ac)->o.wpIn (fen r) al P a w K Q)->
    Bo s.g aq.g/\(Agr T aq.g->CB T aq.g->pcv T ae->Ch T s.g ae->∀ W a w K Q,DM T W Z s a w->
     (∀ ad v ac,DM T ad Z aq (a.put o.dst v) ac->BY T s.g.n W s.mem w ad aq.mem ac->(CS o.op=true->ac=w)->K (a.put o.dst v) ac)->Fe P r al Z o a w K Q):=by
   intro aw c a2 C d3 dk c0;subst d3;refine⟨ch.trans C,fun hA cx cy hk W a w K Q ab M=>?_⟩;have D:Agr T aw:=hA;obtain⟨e1,e2,_,l,_,e4⟩:=Qa hg (D.of C) cy hk ab;obtain⟨f1,f2,f3,f4,f5⟩:=e4 H aX rfl;have step:∀{ad ac},BY T aF.g.n W aF.mem w ad a2 ac->BY T s.g.n W s.mem w ad a2 ac:=fun aa=>by
    rw[<-show aF.mem=s.mem from e2];exact aa.down ch.n
   unfold Fe;by_cases u:pcv T H
   .rw[f1.2 u];simp only[if_true];refine c0 W a w l (f2 u) D cx u f3 K Q (fun v ad ac k1 E Y k4=>?_);refine M ad _ ac (l.put hd C k1 E ?_) (step k1) k4;by_cases bx:aX=[]
    .subst bx;rw[Rp];exact Y
    .obtain⟨⟨p,rfl⟩,_⟩:=f5 bx;rw[eN bx];exact⟨AH f3.1 C.n,fun _=>Y,fun hn=>absurd u hn⟩
   .have hw:Region.wanted o (yielded Z a.tmps)=false:=by
     cases hw:Region.wanted o (yielded Z a.tmps) with
     |false=>rfl
     |true=>exact absurd (f1.1 hw) u
    rw[hw];simp only[AZ,if_false];have bx:aX≠[]:=fun h=>u (f4 h);obtain⟨⟨p,rfl⟩,_⟩:=f5 bx;have d1:(T p).toB=false:=by
     cases hb:(T p).toB with
     |false=>rfl
     |true=>exact absurd (IB.2 hb) u
    obtain⟨ad,bi,ds⟩:=dk bx p rfl d1 D W w l.rel.mem;refine M ad _ w (l.put hd C bi ds (v:=undef) ?_) (step bi) (fun _=>rfl);rw[eN bx];exact⟨AH f3.1 C.n,fun h=>absurd h u,fun _=>rfl⟩
  have cb:∀{a2:Mem} {aw:G},Bo aF.g aw->(∀id,a2.at id=aF.mem.at id\/a2.at id= .gone)->(aX≠[]->∀p,H=some p->(T p).toB=false->Agr T aw->∀ W w,BX T aF.g.n W aF.mem w->∃ ad,BY T aF.g.n W aF.mem w ad a2 w/\BX T aw.n ad a2 w):=
   fun C hw _ _ _ _ _ W w hm=>⟨W,BY.weaken hw,(hm.mono C.n).weaken hw⟩
  have c1:∀(us:List Ex) (ps:List Pr),Bo aF.g ((aF.g.pushAll us).needAll H ps)/\(Agr T ((aF.g.pushAll us).needAll H ps)->New T aF.g.n us)/\
    (CB T ((aF.g.pushAll us).needAll H ps)->pcv T H->∀q∈ps,q.holds T)/\((aF.g.pushAll us).needAll H ps).n=aF.g.n+us.length:=by
   intro us ps;obtain⟨q1,_⟩:=EW ps (aF.g.pushAll us) H;exact⟨(Bo.push _ _).trans (Bo.need _ _ _),fun hA=>hA.need.new,fun cx u=>CB.need cx u,by rw[q1,Cr]⟩
  split at h
  .
   rename_i f args au ho;simp only[AA] at h;obtain⟨⟨c,ai,aw⟩,hc,h⟩:=h;obtain⟨c4,d4⟩:=mV de d6 _ _ H aF.mem _ c ai aw hc;have c5:Bo aF.g (aF.g.needAll H (Kv (args.toList.map (EJ aX aF.tmps)))):=Bo.need _ _ _;have C:Bo aF.g aw:=c5.trans c4;have en:(aF.g.needAll H (Kv (args.toList.map (EJ aX aF.tmps)))).n=aF.g.n:=(EW _ aF.g H).1;have run:∀ W a w,DM T W Z aF a w->(∀c∈aX,T c= .bool true)->Agr T aw->CB T aw->pcv T H->Ch T aF.g H->∀K Q,(∀v ad ac,BY T aF.g.n W aF.mem w ad ai ac->BX T aw.n ad ai ac->BQ T aw.n ad ai ac c v->(CS o.op=true->ac=w)->K (a.put o.dst v) ac)->o.wpIn (fen r) al P a w K Q:=by
    intro W a w l a1 D X u bo K Q M;have a3:=IM l.rel a1;have dd:=BR.of_map a3 args.toList;have bi:=Yp (CB.need (X.of c4) u) dd;refine iw ho (d4 D X u (bo.grow c5) W w _ _ (by show BQ T _ W aF.mem w _ _;rw[en];exact a3 f) (by rw[en];exact bi) (by rw[en];exact l.rel.mem)) fun e ac hh=>?_;obtain⟨v, ad,rfl,k1,E,Y⟩:=hh;rw[en] at k1;exact⟨v,rfl,M v ad ac k1 E Y (fun hf=>by rw[ho] at hf;cases hf)⟩
   split at h
   .
    cases h;exact b0 aw c ai C (by rw[Rp]) (fun h=>absurd rfl h) run
   .
    split at h
    .rename_i cu;cases h;obtain⟨ca,ci⟩:=Gn cu;have b3:∀id,Mem.at (aF.mem++List.replicate (ai.length - aF.mem.length) .gone) id=ai.at id\/Mem.at (aF.mem++List.replicate (ai.length - aF.mem.length) .gone) id= .gone:=by
      intro id;rw[RJ];split
      .rename_i cl;exact .inl (ci id cl).symm
      .split
       .exact .inr rfl
       .exact .inl (Mem.at_ge (by omega)).symm
     refine b0 aw c _ C rfl (cb C fun id=>?_) (fun W a w l a1 D X u bo K Q M=>?_)
     .rw[RJ];split
      .exact .inl rfl
      .split
       .exact .inr rfl
       .exact .inl (Mem.at_ge (by omega)).symm
     .refine run W a w l a1 D X u bo K Q (fun v ad ac k1 E Y k4=>?_);have bi:BY T aw.n ad ai ac ad (aF.mem++List.replicate (ai.length - aF.mem.length) .gone) ac:=BY.weaken b3;exact M v ad ac (k1.trans l.rel.mem C.n bi) (E.weaken b3) (BQ.mono bi E (AE _) c v Y) k4
    .
     split at h
     .rename_i p;cases h;have b8:Bo aw (aw.pushAll (Ct (.e p) aw.n ai aF.mem).2):=Bo.push _ _;have ca:(aw.pushAll (Ct (.e p) aw.n ai aF.mem).2).n=aw.n+(Ct (.e p) aw.n ai aF.mem).2.length:=by rw[Cr]
      refine b0 _ c _ (C.trans b8) rfl (fun _ q hq hf hA W w hm=>?_) (fun W a w l a1 D X u bo K Q M=>?_)
      .cases hq;have dn:BX T aF.g.n W (sel false ai aF.mem) w:=hm;obtain⟨q1,q2,-,-⟩:=Pn (T:=T) (n:=aF.g.n) (ap:=(aw.pushAll (Ct (.e p) aw.n ai aF.mem).2).n) (w:=w) (ax:=ai) (ai:=aF.mem) (b:=false) (A:= .e p) (by show (T p).toB=false;exact hf) dn C.n hA.new (Nat.le_of_eq ca.symm);exact⟨_,q2,q1⟩
      .refine run W a w l a1 (D.of b8) (X.of b8) u bo K Q (fun v ad ac k1 E Y k4=>?_);have d7:BX T aw.n ad (sel true ai aF.mem) ac:=E;obtain⟨q1,q2,-,-⟩:=Pn (T:=T) (n:=aw.n) (ap:=(aw.pushAll (Ct (.e p) aw.n ai aF.mem).2).n) (w:=ac) (ax:=ai) (ai:=aF.mem) (b:=true) (A:= .e p) (by show (T p).toB=true;exact IB.1 u) d7 (AE _) D.new (Nat.le_of_eq ca.symm);have c6:BY T aw.n ad ai ac _ _ ac:=q2;exact M v _ ac (k1.trans l.rel.mem C.n c6) q1 (BQ.mono c6 E b8.n c v Y) k4
     .cases h
  .
   rename_i c x y ho;simp only[AA] at h;obtain⟨aI,hr,h⟩:=h;cases h;obtain⟨C,ga,gp,a4⟩:=c1 aI.us aI.ps;refine b0 _ aI.c aF.mem C rfl (cb C fun id=> .inl rfl) (fun W a w l a1 D X u bo K Q M=>?_);have a3:=IM l.rel a1;have size:∀b,a.eval c= .bool b->∀t,c= .tmp t->t < a.tmps.size:=by
    intro b hb t ht;subst ht;rcases AQ t a.tmps.size with h|h
    .exact h
    .have:a.tmps.getD t undef= .bool b:=hb;rw[AJ,Array.getElem?_eq_none h] at this;cases this
   obtain⟨q,e1,e2,e3⟩:=QB (W := W) (w:=w) hr (ga D) l.rel.mem (a3 c)
    (fun hb=>XO (WC l.ges hb (size _ hb)) (a3 x)) (fun hb=>XO (WC l.ges hb (size _ hb)) (a3 y))
   have c0:(execOp a.eval o).run P w= .ok (.value (if q then a.eval x else a.eval y)) w:=by simp[execOp,ho,e1,asBool]
   refine Kh (fun c hc=>by rw[ho] at hc;cases hc) ?_;rw[c0];refine M _ W w (BY.refl _ _ _ _ _) (l.rel.mem.mono C.n) ?_ (fun _=>rfl);rw[a4];exact e3
  .
   rename_i ee ei;simp only[AA] at h;obtain⟨aI,hr,h⟩:=h;obtain⟨C,ga,gp,a4⟩:=c1 aI.us aI.ps;split at h
   .
    cases h;refine b0 _ aI.c aI.m C (by rw[Rp]) (fun h=>absurd rfl h) (fun W a w l a1 D X u bo K Q M=>?_);refine Qw (Q6 hr) (Xx hr (ga D) (gp X u) l.rel.mem (IM l.rel a1)) (fun hf=>let⟨v,O,_⟩:=KH hr hf (ga D) (gp X u) l.rel.mem (IM l.rel a1);⟨_,O⟩) (fun v ac ad k1 E Y k4=>?_);rw[<-a4] at E Y;exact M v ad ac k1 E Y k4
   .split at h
    .rename_i dj;cases h;refine b0 _ aI.c aF.mem C rfl (cb C fun id=> .inl rfl) (fun W a w l a1 D X u bo K Q M=>?_);have a3:=IM l.rel a1;have dv:=Ti dj hr (ga D) (gp X u) l.rel.mem a3;refine Qw (Q6 hr) (Xx hr (ga D) (gp X u) l.rel.mem a3) (fun hf=>let⟨v,O,_⟩:=KH hr hf (ga D) (gp X u) l.rel.mem a3;⟨_,O⟩) (fun v ac ad k1 E Y k4=>?_);rw[<-a4] at E Y;rw[dv] at k1 E Y;exact M v ad ac k1 E Y k4
    .split at h
     .rename_i cu;cases h;obtain⟨ca,ci⟩:=Gn cu;have b3:∀id,Mem.at (aF.mem++List.replicate (aI.m.length - aF.mem.length) .gone) id=aI.m.at id\/Mem.at (aF.mem++List.replicate (aI.m.length - aF.mem.length) .gone) id= .gone:=by
       intro id;rw[RJ];split
       .rename_i cl;exact .inl (ci id cl).symm
       .split
        .exact .inr rfl
        .exact .inl (Mem.at_ge (by omega)).symm
      refine b0 _ aI.c _ C rfl (cb C fun id=>?_) (fun W a w l a1 D X u bo K Q M=>?_)
      .rw[RJ];split
       .exact .inl rfl
       .split
        .exact .inr rfl
        .exact .inl (Mem.at_ge (by omega)).symm
      .have a3:=IM l.rel a1;refine Qw (Q6 hr) (Xx hr (ga D) (gp X u) l.rel.mem a3) (fun hf=>let⟨v,O,_⟩:=KH hr hf (ga D) (gp X u) l.rel.mem a3;⟨_,O⟩) (fun v ac ad k1 E Y k4=>?_);have bi:BY T (aF.g.n+aI.us.length) ad aI.m ac ad (aF.mem++List.replicate (aI.m.length - aF.mem.length) .gone) ac:=BY.weaken b3;have q2:=E.weaken b3;have q3:=BQ.mono bi E (AE _) aI.c v Y;rw[<-a4] at q2 q3;exact M v ad ac (k1.trans l.rel.mem (Nat.le_add_right _ _) bi) q2 q3 k4
     .cases h
theorem Nv (l:Dj P T call)(p:ES P T.lp an)(h:Cu P call an Z ae s o=some aq):
  Bo s.g aq.g/\(Agr T aq.g->CB T aq.g->pcv T ae->Ch T s.g ae->∀ W a w K Q,DM T W Z s a w->
   (∀ ad v ac,DM T ad Z aq (a.put o.dst v) ac->BY T s.g.n W s.mem w ad aq.mem ac->K (a.put o.dst v) ac)->Fe P r al Z o a w K Q):=by
 obtain⟨O,C⟩:=JU (r:=r) (al:=al) l p h;grind
theorem L4 (H:Dj P T call)(a1:ES P T.lp an){Z:Array Oper}{ae:PC}:∀{l:List Oper} {s aq:RS},Ee P call an Z ae l s=some aq->
  Bo s.g aq.g/\(Agr T aq.g->CB T aq.g->pcv T ae->Ch T s.g ae->∀(k:Nat) W a w Q,(∀j,l[j]? =Z[k+j]?)->DM T W Z s a w->
   (∀ ad y ac,DM T ad Z aq y ac->BY T s.g.n W s.mem w ad aq.mem ac->Q .normal y ac)->wpOpsIn (fen r) al P Z Q (List.range' k l.length) a w)
 |[],s,aq,h=>by
  simp only[Ee] at h;cases h;exact⟨Bo.refl _,fun _ _ _ _ k W a w Q _ ab q=>q W a w ab (BY.refl _ _ _ _ _)⟩
 |o::l,s,aq,h=>by
  simp only[Ee,AD,AA] at h;obtain⟨aF,O,C⟩:=h;obtain⟨p,k1⟩:=Nv (r:=r) (al:=al) H a1 O;obtain⟨aw,E⟩:=L4 H a1 C;refine⟨p.trans aw,fun D Y a0 M k W a w Q X ab q=>?_⟩;have ho:Z[k]? =some o:=by simpa using (X 0).symm
  have:=k1 (D.of aw) (Y.of aw) a0 M W a w (wpOpsIn (fen r) al P Z Q (List.range' (k+1) l.length)) Q ab (fun ad v' ac a3 aa=>by
   refine E D Y a0 (M.grow p) (k+1) ad _ ac Q (fun j=>by have:=X (j+1);simpa [Nat.add_assoc,Nat.add_comm 1 j] using this) a3 (fun aV a2 w2 a4 ba=>?_);exact q aV a2 w2 a4 (aa.trans ab.rel.mem p.n ba))
  simp only[Ad,List.range'_succ,wpOpsIn,ho];unfold Fe at this;split
  .rename_i u;rw[BH u] at this;exact this
  .rename_i u;rw[BG u] at this;exact⟨fun _ _=>trivial,this⟩
end
def Pz (Z:Array Oper)(V:Array Bool):Prop:=
 ∀j o,Z[j]? =some o->V.getD j false=true->∀e∈o.after,Region.binds .any e=true->V.getD e.on false=true
theorem Nf {V:Array Bool}{f:List Nat}(p:∀(j r:Nat),f[j]? =some r->V.getD j false=true->∀i,r.testBit i=true->V.getD i false=true):
  ∀(ay:List Edge),(∀e∈ay,Region.binds .any e=true->V.getD e.on false=true)->∀i,(GV f ay).testBit i=true->V.getD i false=true
 |[],_,i,h=>by simp[GV] at h
 |e::ay,hes,i,h=>by
  simp only[GV] at h;split at h
  .rename_i u;have l:=hes e (AN ..) u;simp only[show∀x y,Nat.lor x y=x ||| y from fun _ _=>rfl,Nat.testBit_or,Ah] at h;rcases h with (h|h)|h
   .rw[Nat.testBit_two_pow] at h;have:e.on=i:=by simpa using h
    rw[<-this];exact l
   .cases q:f[e.on]? with
    |none=>rw[q] at h;simp at h
    |some r=>rw[q] at h;exact p e.on r q l i h
   .exact Nf p ay (fun e l=>hes e (AK _ l)) i h
  .exact Nf p ay (fun e l=>hes e (AK _ l)) i h
theorem RE {V:Array Bool}:∀(l:List Oper) (p:List Oper) (f:List Nat),f.length=p.length->
  (∀j o,(p++l)[j]? =some o->V.getD j false=true->∀e∈o.after,Region.binds .any e=true->V.getD e.on false=true)->
  (∀(j r:Nat) (o:Oper),f[j]? =some r->(p++l)[j]? =some o->(∀e∈o.after,Region.binds .any e=true->V.getD e.on false=true)->∀i,r.testBit i=true->V.getD i false=true)->
  (Bx l f).length=(p++l).length/\∀(j r:Nat) (o:Oper),(Bx l f)[j]? =some r->(p++l)[j]? =some o->(∀e∈o.after,Region.binds .any e=true->V.getD e.on false=true)->∀i,r.testBit i=true->V.getD i false=true
 |[],p,f,hlen,_,h=>⟨by simp[Bx,hlen],h⟩
 |o::l,p,f,hlen,hc,h=>by
  simp only[Bx];have e:p++o::l=(p++[o])++l:=by simp
  rw[e];refine RE l (p++[o]) _ (by simp[hlen]) (by rw[<-e];exact hc) ?_;intro j r C q u;rw[BA] at q;split at q
  .rename_i y;exact h j r C q (by rw[e];exact u)
  .rename_i y;have M:j=f.length:=by
    rcases AQ (j - f.length) 1 with O|O
    .omega
    .rw[Ai (by simpa using O)] at q;cases q
   subst M;simp at q;subst q;have X:C=o:=by
    rw[hlen] at u;simp at u;exact u.symm
   subst X;intro H;refine Nf (fun j r q y=>?_) _ (fun e E=>H e (by simpa using E));obtain⟨o2,D⟩:∃o2,(p++C::l)[j]? =some o2:=by
    have:j < f.length:=(AG.1 q).1;exact⟨_,AF (by simp;omega)⟩
   exact h j r o2 q D (hc j o2 D y)
variable{Z:Array Oper}{j:Nat}
theorem FC {V:Array Bool}(q:Pz Z V){r:Nat}{o:Oper}(p:(Bx Z.toList [])[j]? =some r)(l:Z[j]? =some o)
  (u:∀e∈o.after,Region.binds .any e=true->V.getD e.on false=true):∀i,r.testBit i=true->V.getD i false=true:=
 (RE (V:=V) Z.toList [] [] rfl (fun j o l=>q j o (by simpa using l)) (fun j r o p=>by simp at p)).2 j r o p (by simpa using l) u
theorem EF (Z:Array Oper):(Bx Z.toList []).length=Z.size:=by
 have:=(RE (V:= #[]) Z.toList [] [] rfl (fun j o _ h=>by simp at h) (fun j r o l=>by simp at l)).1;simpa using this
theorem Gl:∀(l:List Nat) (k:Nat),Hz l k=true->∀(j r:Nat),l[j]? =some r->∀i,r.testBit i=true->i < k+j
 |[],_,_,j,r,hr=>by simp at hr
 |r0::l,k,h,j,r,hr=>by
  simp only[Hz,AB] at h;intro i ab;cases j with
  |zero=>
   simp at hr;subst hr;have O:r0 < 2 ^ k:=by have:=h.1;rw[Nat.blt_eq] at this;exact this
   rcases AQ i k with q|p
   .omega
   .have:=Nat.testBit_lt_two_pow (x:=r0) (i:=i) (AH O (Nat.pow_le_pow_right (by decide) p));rw[this] at ab;cases ab
  |succ j=>
   have:=Gl l (k+1) h.2 j r (by simpa using hr) i ab;omega
theorem Nu:∀(l:List Nat) (k h:Nat),h<=k->GU l k h<=k+l.length/\h<=GU l k h/\∀(j r:Nat),l[j]? =some r->GU l k h<=k+j->∀i,i < k+j->r.testBit i=true
 |[],k,h,hk=>⟨by simpa [GU] using hk,AE _,fun j r p=>by simp at p⟩
 |r0::l,k,h,hk=>by
  simp only[GU];by_cases u:Nat.beq (r0+1) (2 ^ k)=true
  .rw[BH u];obtain⟨O,C,q⟩:=Nu l (k+1) h (by omega);refine⟨by simp;omega,C,fun j r p y i ab=>?_⟩;cases j with
   |zero=>
    simp at p;subst p;have D:r0=2 ^ k - 1:=by have:=yI u;omega
    rw[D,Nat.testBit_two_pow_sub_one];simpa using ab
   |succ j=>exact q j r (by simpa using p) (by omega) i (by omega)
  .rw[BG u];obtain⟨O,C,q⟩:=Nu l (k+1) (k+1) (by omega);refine⟨by simp;omega,by omega,fun j r p y i ab=>?_⟩;cases j with
   |zero=>omega
   |succ j=>exact q j r (by simpa using p) (by omega) i (by omega)
theorem Rh:∀{l:List Tmp},Ij l=true->l.Nodup
 |[],_=>List.nodup_nil
 |t::l,h=>by
  simp only[Ij,AB] at h;refine List.nodup_cons.2 ⟨fun p=>?_,Rh h.2⟩;have:=h.1;simp[p] at this
theorem E4 (h:Ij (Z.toList.filterMap (·.dst))=true){i:Nat}{p q:Oper}{d:Tmp}(ab:Z[i]? =some p)(u:Z[j]? =some q)(y:p.dst=some d)(C:q.dst=some d):i=j:=by
 have M:∀(l:List Oper) (i j:Nat) (p q:Oper),(l.filterMap (·.dst)).Nodup->l[i]? =some p->l[j]? =some q->p.dst=some d->q.dst=some d->i=j:=by
  intro l;induction l with
  |nil=>intro i j p q _ ab;simp at ab
  |cons o l H=>
   intro i j p q D ab u y C;cases i with
   |zero=>
    cases j with
    |zero=>rfl
    |succ j=>
     simp at ab u;subst ab;rw[List.filterMap_cons_some y] at D;exact absurd (List.mem_filterMap.2 ⟨q,Ac.2 ⟨j,u⟩,C⟩) (List.nodup_cons.1 D).1
   |succ i=>
    cases j with
    |zero=>
     simp at ab u;subst u;rw[List.filterMap_cons_some C] at D;exact absurd (List.mem_filterMap.2 ⟨p,Ac.2 ⟨i,ab⟩,y⟩) (List.nodup_cons.1 D).1
    |succ j=>
     simp at ab u;have E:(l.filterMap (·.dst)).Nodup:=by
      grind
     rw[H i j p q E ab u y C]
 exact M Z.toList i j p q (Rh h) (by simpa using ab) (by simpa using u) y C
theorem To:∀(l:List Oper) (k:Nat) (t:Tmp) (i:Nat) (o:Oper),(∀(i j:Nat) (q u:Oper),l[i]? =some q->l[j]? =some u->q.dst=some t->u.dst=some t->i=j)->l[i]? =some o->o.dst=some t->DO (Ck k l) t=some (k+i)
 |[],_,_,i,o,_,ho,_=>by simp at ho
 |o0::l,k,t,i,o,hinj,ho,hd=>by
  by_cases p:o0.dst=some t
  .have:i=0:=hinj i 0 o o0 ho (by simp) hd p;subst this;simp[Ck,p,DO]
  .cases i with
   |zero=>simp at ho;subst ho;exact absurd hd p
   |succ i=>
    have X:=To l (k+1) t i o (fun i j q u O C D E=>by have:=hinj (i+1) (j+1) q u (by simpa using O) (by simpa using C) D E;omega) (by simpa using ho) hd;rw[show k+(i+1)=k+1+i by omega,<-X];cases y:o0.dst with
    |none=>simp[Ck,y]
    |some a2=>
     have M:Nat.beq a2 t=false:=by
      cases H:Nat.beq a2 t with
      |false=>rfl
      |true=>exact absurd (by rw[y,yI H]) p
     simp[Ck,y,DO,M]
theorem Jn (D:List (Tmp × Nat))(ok:Nat->Bool)(s:Bn):∀(l:List Tmp) (t:Tmp) (c:AC),CY (DE D ok s l) t=some c->s.get t=some c/\∀i,DO D t=some i->ok i=true
 |[],t,c,h=>by simp[DE,CY] at h
 |t0::r,t,c,h=>by
  simp only[DE] at h;cases p:s.get t0 with
  |none=>rw[p] at h;exact Jn D ok s r t c h
  |some aO=>
   rw[p] at h;have y:(CY ((t0,aO)::DE D ok s r) t=some c/\∀i,DO D t0=some i->ok i=true)\/CY (DE D ok s r) t=some c:=by
    simp only at h;cases q:DO D t0 with
    |none=>rw[q] at h;exact .inl ⟨by simpa using h,fun i ab=>by cases ab⟩
    |some i=>
     rw[q] at h;simp only at h;split at h
     .rename_i u;exact .inl ⟨h,fun i ab=>by cases ab;exact u⟩
     .exact .inr h
   rcases y with⟨O,C⟩|O
   .rw[KT] at O;split at O
    .rename_i e;subst e;cases O;exact⟨p,C⟩
    .exact Jn D ok s r t c O
   .exact Jn D ok s r t c O
theorem Wi {S:DS}(q:Ij (Z.toList.filterMap (·.dst))=true){ok:Nat->Bool}{R:Nat}{C6:List Tmp}{t:Tmp}{c:AC}(h:(S.masked (Ck 0 Z.toList) ok R C6).tmps.get t=some c):
  S.tmps.get t=some c/\∀(i:Nat) (o:Oper),Z[i]? =some o->o.dst=some t->ok i=true:=by
 have p:CY (DE (Ck 0 Z.toList) ok S.tmps C6) t=some c:=by
  simp only[DS.masked,Bn.get] at h;cases l:CY (DE (Ck 0 Z.toList) ok S.tmps C6) t with
  |none=>rw[l] at h;simp[Tr.get] at h
  |some d=>rw[l] at h;exact h
 obtain⟨O,C⟩:=Jn _ _ _ _ _ _ p;refine⟨O,fun i o u hd=>C i ?_⟩;have:=To Z.toList 0 t i o (fun i j y D a b c d=>E4 q (by simpa using a) (by simpa using b) c d) (by simpa using u) hd;simpa using this
section
variable {P:Program}{T:Tab}{n ap:Nat}{W ad:Nat->Option Nat}{m ag:Mem}{w ac:World}
structure QU (ρ :Nat->Option Nat) (m:Mem) (ρ':Nat->Option Nat) (m':Mem):Prop where
 at':∀id,m.at id≠ .pad->m'.at id=m.at id
 rho:∀id,m.at id≠ .pad-> ρ' id= ρ id
theorem QU.safe (h:QU W m ad ag){b off:Nat}(aa:Bt T ad ag w b off):Bt T W m w b off:=by
 refine⟨aa.1,aa.2.1,fun id=>?_⟩;by_cases l:m.at id= .pad
 .rw[l];trivial
 .have:=aa.2.2 id;rw[h.at' id l,h.rho id l] at this;exact this
mutual
theorem BQ.back (h:QU W m ad ag):∀(c:AC) (p v:Value) (aH:World),BQ T n W m aH c p->BQ T ap ad ag w c v->BQ T n W m w c v
 | .any,_,_,_,_,_=>trivial
 | .anyc,_,_,_,_,hh=>hh
 | .on _ a,p,v,aH,h0,hh=>⟨h0.1,fun u=>BQ.back h a p v aH (h0.2 u) (hh.2 u)⟩
 | .gd _ a,p,v,aH,h0,hh=>⟨h0.1,fun u=>BQ.back h a p v aH (h0.2.1 u) (hh.2.1 u),hh.2.2⟩
 | .cb _,_,_,_,_,hh=>hh
 | .b _,_,_,_,h0,hh=>⟨h0.1,hh.2⟩
 | .nb _,_,_,_,h0,hh=>⟨h0.1,hh.2⟩
 | .ci _ _,_,_,_,_,hh=>hh
 | .i _ _ _ _,_,_,_,h0,hh=>⟨h0.1,hh.2⟩
 | .cv _,_,_,_,_,hh=>hh
 | .v _,_,_,_,h0,hh=>⟨h0.1,hh.2⟩
 | .s _,_,_,_,h0,hh=>⟨h0.1,hh.2⟩
 | .ptr id off,p,v,aH,⟨b0,_,_,h3⟩,⟨b,k1,E,_⟩=>⟨b,by rw[<-h.rho id (Cf h3)];exact k1,E,h3⟩
 | .pix id base B aO x aG,p,v,aH,⟨h0,b0,U,_,_,_,_,_,h3⟩,⟨_,b,j,k1,E,k3,k4,k5,_⟩=>⟨h0,b,j,by rw[<-h.rho id (Cf h3)];exact k1,E,k3,k4,k5,h3⟩
 | .ro x ks,p,v,aH,h0,⟨_,k1⟩=>⟨h0.1,Bk.mono (fun _ _ aa=>⟨h.safe aa,rfl⟩) (.list ks) (T x) v k1⟩
 | .rp x t off ks,p,v,aH,h0,⟨_,j,b,o,us,E,k3,k4,k5,k6⟩=>⟨h0.1,j,b,o,us,E,k3,k4,k5,Bw.mono (fun _ _ aa=>⟨h.safe aa,rfl⟩) _ _ _ _ k6⟩
 | .vec id x ks,p,v,aH,⟨O,C,_,_⟩,⟨_,_,k3,k4⟩=>⟨O,C,Bk.mono (fun _ _ aa=>⟨h.safe aa,rfl⟩) (.list ks) (T x) v k3,fun X e q=>by
   have:=k4 X e (by rw[h.at' id C];exact q);unfold XC at this⊢;rw[h.rho id C] at this;exact this⟩
 | .fn f first I,p,v,aH,⟨vs0,us0,_,a1,a2⟩,⟨Y,us,k1,E,k3⟩=>⟨Y,us,k1,BR.back h first vs0 Y aH a1 E,BR.back h I us0 us aH a2 k3⟩
 | .sel x alts,p,v,aH,⟨h0,U,a1,_,a3⟩,⟨_,j,k1,E,k3⟩=>⟨h0,j,k1,E,by
   have e:U=j:=by rw[a1] at k1;injection k1
   subst e;exact CG.back h alts U.toNat p v aH a3 k3⟩
 | .yl id,p,v,aH,⟨b0,_,_,h3⟩,⟨b,k1,E,_⟩=>⟨b,by rw[<-h.rho id (Cf h3)];exact k1,E,h3⟩
 | .asl id off len,p,v,aH,⟨b0,_,_,h3⟩,⟨b,k1,E,_⟩=>⟨b,by rw[<-h.rho id (Cf h3)];exact k1,E,h3⟩
 | .rsv id x ks,p,v,aH,⟨O,C,h4,_,_⟩,⟨_,_,_,k3,k4⟩=>⟨O,C,h4,k3,fun X e q=>by
   have:=k4 X e (by rw[h.at' id C];exact q);unfold Vn at this⊢;rw[h.rho id C] at this;exact this⟩
 | .mr id y,p,v,aH,⟨⟨O,C⟩,_⟩,⟨_,j,a,I,k1,E,k3,k4,k5⟩=>⟨⟨O,C⟩,j,a,I,k1,E,k3,k4,fun x ks e q=>by
   have:=k5 x ks e (by rw[h.at' id C];exact q);unfold S5 at this⊢;rw[h.rho id C] at this;exact this⟩
 | .mp id y t sz off,p,v,aH,⟨⟨O,h1',C⟩,_⟩,⟨_,j,L,b,k1,E,k3,k4,k5⟩=>⟨⟨O,h1',C⟩,j,L,b,k1,E,k3,k4,fun x ks e q=>by
   have:=k5 x ks e (by rw[h.at' id C];exact q);rw[h.rho id C] at this;exact this⟩
 | .mv id,p,v,aH,⟨b0,_,_,h3⟩,⟨b,k1,E,_⟩=>⟨b,by rw[<-h.rho id (Cf h3)];exact k1,E,h3⟩
 | .agg l,p,v,aH,⟨vs0,_,a1⟩,⟨Y,k1,E⟩=>⟨Y,k1,BR.back h l vs0 Y aH a1 E⟩
 | .tup l,p,v,aH,⟨vs0,_,a1⟩,⟨Y,k1,E⟩=>⟨Y,k1,BR.back h l vs0 Y aH a1 E⟩
theorem BR.back (h:QU W m ad ag):∀(l:List AC) (p Y:List Value) (aH:World),BR T n W m aH l p->BR T ap ad ag w l Y->BR T n W m w l Y
 |[],_,_,_,_,hh=>hh
 |c::l,p,Y,aH,⟨u0,us0,_,a1,a2⟩,⟨u,us,k1,E,k3⟩=>⟨u,us,k1,BQ.back h c u0 u aH a1 E,BR.back h l us0 us aH a2 k3⟩
theorem CG.back (h:QU W m ad ag):∀(l:List AC) (j:Nat) (p v:Value) (aH:World),CG T n W m aH l j p->CG T ap ad ag w l j v->CG T n W m w l j v
 |[],_,_,_,_,h0,_=>h0.elim
 |c::_,0,p,v,aH,h0,hh=>BQ.back h c p v aH h0 hh
 |_::l,j+1,p,v,aH,h0,hh=>CG.back h l j p v aH h0 hh
end
mutual
theorem BQ.backF (h:QU W m ad ag):∀(c:AC) (v:Value),(AC.free c=true\/∀id,ag.at id≠ .pad->m.at id≠ .pad)->BQ T n ad ag w c v->BQ T n W m w c v
 | .any,_,_,_=>trivial
 | .anyc,_,_,p=>p
 | .on _ a,v,hf,p=>⟨p.1,fun H=>BQ.backF h a v (hf.imp (fun q=>by simpa [AC.free] using q) id) (p.2 H)⟩
 | .gd _ a,v,hf,p=>⟨p.1,fun H=>BQ.backF h a v (hf.imp (fun q=>by simpa [AC.free] using q) id) (p.2.1 H),p.2.2⟩
 | .cb _,_,_,p=>p
 | .b _,_,_,p=>p
 | .nb _,_,_,p=>p
 | .ci _ _,_,_,p=>p
 | .i _ _ _ _,_,_,p=>p
 | .cv _,_,_,p=>p
 | .v _,_,_,p=>p
 | .s _,_,_,p=>p
 | .ptr id off,v,hf,⟨b,k1,E,k3⟩=>by
  have u:=hf.resolve_left (by simp[AC.free]) id (Cf k3);exact⟨b,by rw[<-h.rho id u];exact k1,E,by rw[<-h.at' id u];exact k3⟩
 | .pix id base B aO x aG,v,hf,⟨h0,b,j,k1,E,k3,k4,k5,k6⟩=>by
  have u:=hf.resolve_left (by simp[AC.free]) id (Cf k6);exact⟨h0,b,j,by rw[<-h.rho id u];exact k1,E,k3,k4,k5,by rw[<-h.at' id u];exact k6⟩
 | .ro x ks,v,_,⟨h0,k1⟩=>⟨h0,Bk.mono (fun _ _ aa=>⟨h.safe aa,rfl⟩) (.list ks) (T x) v k1⟩
 | .rp x t off ks,v,_,⟨h0,j,b,o,us,E,k3,k4,k5,k6⟩=>⟨h0,j,b,o,us,E,k3,k4,k5,Bw.mono (fun _ _ aa=>⟨h.safe aa,rfl⟩) _ _ _ _ k6⟩
 | .vec id x ks,v,hf,⟨k1,E,k3,k4⟩=>by
  have u:=hf.resolve_left (by simp[AC.free]) id E;refine⟨k1,u,Bk.mono (fun _ _ aa=>⟨h.safe aa,rfl⟩) (.list ks) (T x) v k3,fun X e D=>?_⟩;have:=k4 X e (by rw[h.at' id u];exact D);unfold XC at this⊢;rw[h.rho id u] at this;exact this
 | .fn f first I,v,hf,⟨Y,us,k1,E,k3⟩=>⟨Y,us,k1,BR.backF h first Y (hf.imp (fun p=>by simp only[AC.free,AB] at p;exact p.1) (fun p=>p)) E,
   BR.backF h I us (hf.imp (fun p=>by simp only[AC.free,AB] at p;exact p.2) (fun p=>p)) k3⟩
 | .sel x alts,v,hf,⟨h0,j,k1,E,k3⟩=>⟨h0,j,k1,E,CG.backF h alts j.toNat v (hf.imp (fun p=>by simpa [AC.free] using p) (fun p=>p)) k3⟩
 | .yl id,v,hf,⟨b,k1,E,k3⟩=>by
  have u:=hf.resolve_left (by simp[AC.free]) id (Cf k3);exact⟨b,by rw[<-h.rho id u];exact k1,E,by rw[<-h.at' id u];exact k3⟩
 | .asl id off len,v,hf,⟨b,k1,E,k3⟩=>by
  have u:=hf.resolve_left (by simp[AC.free]) id (Cf k3);exact⟨b,by rw[<-h.rho id u];exact k1,E,by rw[<-h.at' id u];exact k3⟩
 | .rsv id x ks,v,hf,⟨k1,E,k5,k3,k4⟩=>by
  have u:=hf.resolve_left (by simp[AC.free]) id E;refine⟨k1,u,k5,k3,fun X e D=>?_⟩;have:=k4 X e (by rw[h.at' id u];exact D);unfold Vn at this⊢;rw[h.rho id u] at this;exact this
 | .mr id y,v,hf,⟨⟨O,C⟩,j,a,I,k1,E,k3,k4,k5⟩=>by
  have u:=hf.resolve_left (by simp[AC.free]) id C;refine⟨⟨O,u⟩,j,a,I,k1,E,k3,k4,fun x ks e D=>?_⟩;have:=k5 x ks e (by rw[h.at' id u];exact D);unfold S5 at this⊢;rw[h.rho id u] at this;exact this
 | .mp id y t sz off,v,hf,⟨⟨O,h1',C⟩,j,L,b,k1,E,k3,k4,k5⟩=>by
  have u:=hf.resolve_left (by simp[AC.free]) id C;refine⟨⟨O,h1',u⟩,j,L,b,k1,E,k3,k4,fun x ks e D=>?_⟩;have:=k5 x ks e (by rw[h.at' id u];exact D);rw[h.rho id u] at this;exact this
 | .mv id,v,hf,⟨b,k1,E,k3⟩=>by
  have u:=hf.resolve_left (by simp[AC.free]) id (Cf k3);exact⟨b,by rw[<-h.rho id u];exact k1,E,by rw[<-h.at' id u];exact k3⟩
 | .agg l,v,hf,⟨Y,k1,E⟩=>⟨Y,k1,BR.backF h l Y (hf.imp (fun p=>by simpa [AC.free] using p) (fun p=>p)) E⟩
 | .tup l,v,hf,⟨Y,k1,E⟩=>⟨Y,k1,BR.backF h l Y (hf.imp (fun p=>by simpa [AC.free] using p) (fun p=>p)) E⟩
theorem BR.backF (h:QU W m ad ag):∀(l:List AC) (Y:List Value),(AC.freeL l=true\/∀id,ag.at id≠ .pad->m.at id≠ .pad)->BR T n ad ag w l Y->BR T n W m w l Y
 |[],_,_,p=>p
 |c::l,Y,hf,⟨u,us,k1,E,k3⟩=>⟨u,us,k1,BQ.backF h c u (hf.imp (fun p=>by simp only[AC.freeL,AB] at p;exact p.1) (fun p=>p)) E,
   BR.backF h l us (hf.imp (fun p=>by simp only[AC.freeL,AB] at p;exact p.2) (fun p=>p)) k3⟩
theorem CG.backF (h:QU W m ad ag):∀(l:List AC) (j:Nat) (v:Value),(AC.freeL l=true\/∀id,ag.at id≠ .pad->m.at id≠ .pad)->CG T n ad ag w l j v->CG T n W m w l j v
 |[],_,_,_,p=>p.elim
 |c::_,0,v,hf,p=>BQ.backF h c v (hf.imp (fun p=>by simp only[AC.freeL,AB] at p;exact p.1) (fun p=>p)) p
 |_::l,j+1,v,hf,p=>CG.backF h l j v (hf.imp (fun p=>by simp only[AC.freeL,AB] at p;exact p.2) (fun p=>p)) p
end
variable{id x:Nat}{e:TypeId}
theorem BX.tok_lt (l:BX T n W m w){ks:List Kd}(p:m.at id= .tok x ks e):x < n:=by
 have:=l.blk id;rw[p] at this;exact this.1
theorem BX.row_lt (l:BX T n W m w){y:Nat}{ks:List Kd}(p:m.at id= .mrow x y ks e):x < n/\y < n:=by
 have:=l.blk id;rw[p] at this;exact this.1
theorem BY.same (aa:BY T n W m w ad ag ac)(E:BX T n W m w)(q:∀id,m.at id≠ .pad->ag.at id=m.at id):QU W m ad ag where
 at':=q
 rho:=fun id u=>by
  cases p:m.at id with
  |pad=>exact absurd p u
  |gone=>exact (aa.rho id (by rw[p];rfl)).1
  |cells l e=>exact (aa.rho id (by rw[p];rfl)).1
  |lp x Y=>exact (aa.rho id (by rw[p];rfl)).1
  |mapb x al O aM aT=>exact (aa.rho id (by rw[p];rfl)).1
  |mrow x y ks e=>
   rcases aa.row id x y ks e p with C|⟨L,aF,X,C,_,⟨_,D,_⟩|⟨D,_⟩⟩
   .rw[q id u,p] at C;cases C
   .exact D
   .rw[q id u,p] at C;injection C with H M
    have:=(E.row_lt p).2;omega
  |tok x ks e=>
   rcases aa.tok id x ks e p with⟨_,C,_⟩|⟨_,C|⟨L,X,e',C,D,_⟩⟩
   .exact C
   .rw[q id u,p] at C;cases C
   .rw[q id u,p] at C;injection C with H M
    have:=E.tok_lt p;omega
theorem BY.forget (aa:BY T n W m w ad ag ac)(hm:BX T n W m w)(b7:BX T ap ad ag ac)(hk:∀id,m.at id≠ .pad->ag.at id=m.at id):BY T n W m w W m ac/\BX T n W m ac:=by
 have D:=aa.same hm hk;refine⟨⟨aa.os,aa.tape,aa.output,aa.size,fun _ h=>h,fun _ h=>⟨rfl,h⟩,fun _ _ h=>h,fun id b u ht _=>?_,aa.old,fun id x ks e p=>?_,fun id x y ks e p=>?_⟩,⟨fun id=>?_,hm.inj,fun b off hb=>hm.fr b off (AV aa.size hb)⟩⟩
 .rw[u] at ht;cases ht
 .refine .inl ⟨p,rfl,fun b hb=>?_⟩;have u:m.at id≠ .pad:=by rw[p];exact fun h=>by cases h
  rcases aa.tok id x ks e p with⟨_,_,h3⟩|⟨_,C|⟨L,X,e',C,h3,_⟩⟩
  .exact h3 b hb
  .grind
  .rw[hk id u,p] at C;injection C with h4 h5
   have:=hm.tok_lt p;omega
 .have u:m.at id≠ .pad:=by rw[p];exact fun h=>by cases h
  rcases aa.row id x y ks e p with C|⟨L,aF,X,C,_,⟨_,_,h5⟩|⟨h3,_⟩⟩
  .grind
  .grind
  .grind
 .have H:=hm.blk id;by_cases u:m.at id= .pad
  .rw[u];trivial
  .have O:=b7.blk id;rw[hk id u] at O;cases p:m.at id with
   |pad=>trivial
   |gone=>trivial
   |cells l e=>
    rw[p] at H O;obtain⟨b3,cf,_,_,b0⟩:=H;obtain⟨b,Y,M,E,k3⟩:=O;exact⟨b,Y,by rw[<-D.rho id u];exact M,E,BR.back D l cf Y w b0 k3⟩
   |tok x ks e=>
    rw[p] at H O;obtain⟨a0,_⟩:=H;obtain⟨_,l,M,E⟩:=O;rw[D.rho id u] at E;exact⟨a0,l,M,E⟩
   |mrow x y ks e=>
    rw[p] at H O;obtain⟨a0,_⟩:=H;obtain⟨_,l,M,b8,b9,E⟩:=O;rw[D.rho id u] at E;refine⟨a0,l,M,b8,b9,?_⟩;rcases E with E|⟨b,Y,us,q1,q2,q3,q4⟩
    .exact .inl E
    .exact .inr ⟨b,Y,us,q1,q2,Bu.mono (fun _ _ aa=>⟨D.safe aa,rfl⟩) q3,q4⟩
   |mapb x al ka aM aT=>
    rw[p] at H O;obtain⟨a0,_⟩:=H;obtain⟨_,l,b,ay,a3,M,E,k3,k4,k5,k6,k7⟩:=O;rw[D.rho id u] at E;refine⟨a0,l,b,ay,a3,M,E,k3,k4,k5,fun i us e hl he=>?_,k7⟩;obtain⟨u1,u2,q1,q2,q3⟩:=k6 i us e hl he;exact⟨u1,u2,q1,DL.mono (fun _ _ aa=>⟨D.safe aa,rfl⟩) q2,DL.mono (fun _ _ aa=>⟨D.safe aa,rfl⟩) q3⟩
   |lp x st=>
    rw[p] at H O;obtain⟨b3,q0,_,_,_,_,_,_,b1,U,b2,_⟩:=H;obtain⟨b,q,M,E,k3,k4,k5,k6,k7,j,k8,k9⟩:=O;exact⟨b,q,by rw[<-D.rho id u];exact M,E,k3,k4,k5,k6,fun i c hc=>BQ.back D c _ _ w (b1 i c hc) (k7 i c hc),j,BQ.back D st _ _ w b2 k8,k9⟩
end
section
variable {P:Program}{T:Tab}{call:CM}{an:Ys}{r:Option Nat}{al:Nat}{Z:Array Oper}{ae:PC}
theorem IU (tmps:Bn)(a1:Option Tmp)(c:AC):(EL tmps a1 c).n=tmps.n:=by cases a1<;>simp[EL,Bn.set_n]
variable{t j h:Nat}{o:Oper}
theorem Bn.get_set_ne (s:Bn){d:Nat}(c:AC)(h:d≠t):(s.set d c).get t=s.get t:=by
 unfold Bn.set;cases hd:Nat.blt d s.n with
 |false=>rfl
 |true=>simp only[cond_true,Bn.get,KT,BG h]
theorem T5 (tmps:Bn){a1:Option Tmp}(c:AC)(h:a1≠some t):(EL tmps a1 c).get t=tmps.get t:=by
 cases a1 with
 |none=>rfl
 |some d=>exact Bn.get_set_ne _ _ (fun e=>h (by rw[e]))
theorem RX {s aq:RS}(h:Cu P call an Z ae s o=some aq)(l:CS o.op=true){W :Nat->Option Nat}{a:Act}{w:World}(H:Agr T aq.g)(Y:CB T aq.g)(aw:pcv T ae)(O:Ch T s.g ae)(ab:DM T W Z s a w):aq.mem=s.mem:=by
 unfold Cu at h;simp only[AD,AA] at h;obtain⟨⟨run,aF⟩,u,h⟩:=h;obtain⟨bb,bi,p⟩:=J7 u;simp only at h;split at h
 .cases h
 split at h
 .cases h;exact p
 .rename_i C aX;split at h
  .rename_i f args au X;rw[X] at l;cases l
  .simp only[AA] at h;grind
  .simp only[AA] at h;obtain⟨aI,hr,h⟩:=h;split at h
   .cases h;have q:Agr T ((aF.g.pushAll aI.us).needAll C aI.ps):=H;obtain⟨e1,e2,_,y,_,D⟩:=Qa u (q.of ((Bo.push _ _).trans (Bo.need _ _ _))) aw O ab;obtain⟨f1,f2,f3,E,f5⟩:=D C [] rfl;have:=Ti l hr q.need.new (CB.need Y (E rfl)) y.rel.mem (IM y.rel (fun c M=>by cases M));exact this.trans p
   .grind
theorem ME {R:Nat}{S q:DS}{D:List (Tmp × Nat)}(h:NO P call an Z D ae R j o S=some q):
  ∃aq c,Cu P call an Z ae (S.masked D R.testBit R (CD Z o)) o=some aq/\q=⟨EL S.tmps o.dst c,S.mem,aq.g,(H6 aq (Is R S.gls).length).map (fun e=>(j,e))++S.gls⟩/\
   (∀d,o.dst=some d->c=(aq.tmps.get d).getD .any)/\(CS o.op=true\/(∀id,S.mem.at id≠ .pad->aq.mem.at id=S.mem.at id)/\(AC.free c=true\/∀id,aq.mem.at id≠ .pad->S.mem.at id≠ .pad))/\
   ∀e∈H6 aq (Is R S.gls).length,e∈aq.gl/\R.testBit e.j=true:=by
 unfold NO at h;simp only[AD,AA] at h;obtain⟨aq,aa,h⟩:=h;split at h
 .rename_i u;rw[AB,Ah,AB,Ah] at u;obtain⟨O,C⟩:=u;cases h;refine⟨aq,_,aa,rfl,fun d hd=>by rw[hd];rfl,?_,fun e y=>⟨List.mem_of_mem_take y,Ae.1 O e y⟩⟩;rcases C with C|⟨C,l⟩
  .exact .inl C
  .obtain⟨X,E⟩:=Gn C;have H:∀id,S.mem.at id≠ .pad->id < S.mem.length:=fun id p=>by
    rcases AQ id S.mem.length with h|h
    .exact h
    .exact absurd (Mem.at_ge h) p
   refine .inr ⟨fun id p=>E id (H id p),?_⟩;rcases l with l|l
   .refine .inr fun id p=>?_;have M:=yI l;rcases AQ id aq.mem.length with h|h
    .grind
    .exact absurd (Mem.at_ge h) p
   .exact .inl l
 .cases h
structure Gx (P:Program) (T:Tab) (call:CM) (ys:Ys) (ops:Array Oper) (pc:PC) (h:Nat) (S:Nat->DS):Prop where
 le:h<=ops.size
 step:∀j o,j < h->ops[j]? =some o->∃R,(Bx ops.toList [])[j]? =some R/\NO P call ys ops (Ck 0 ops.toList) pc R j o (S j)=some (S (j+1))
 masks:Hz (Bx ops.toList []) 0=true
 nodup:Ij (ops.toList.filterMap (·.dst))=true
 tail:∀j r,(Bx ops.toList [])[j]? =some r->h<=j->∀i,i < j->r.testBit i=true
 call:Dj P T call
 ys:ES P T.lp ys
 gl0:(S 0).gls=[]
theorem Gx.op {S:Nat->DS}(H:Gx P T call an Z ae h S)(l:j < h):∃o,Z[j]? =some o:=
 ⟨_,yO (AH l H.le)⟩
structure xx (S S':DS):Prop where
 grow:Bo S.g S'.g
 mem:S'.mem=S.mem
 len:S'.tmps.n=S.tmps.n
 gls:∀p∈S.gls,p∈S'.gls
theorem Gx.later {S:Nat->DS}(H:Gx P T call an Z ae h S)(i:Nat):∀k,i+k<=h->xx (S i) (S (i+k))/\
  ∀t,(∀j o,i<=j->j < i+k->Z[j]? =some o->o.dst≠some t)->(S (i+k)).tmps.get t=(S i).tmps.get t
 |0,_=>⟨⟨Bo.refl _,rfl,rfl,fun _ h=>h⟩,fun _ _=>rfl⟩
 |k+1,hk=>by
  obtain⟨O,C⟩:=H.later i k (by omega);obtain⟨o,q⟩:=H.op (j:=i+k) (by omega);obtain⟨R,hR,aa⟩:=H.step (i+k) o (by omega) q;obtain⟨aq,c,y,l,M,X,Y⟩:=ME aa;obtain⟨D,_⟩:=Nv (r:=none) (al:=0) H.call H.ys y;have e:S (i+(k+1))=S (i+k+1):=rfl;refine⟨⟨?_,?_,?_,?_⟩,fun t u=>?_⟩
  .rw[e,l];exact O.grow.trans D
  .rw[e,l];exact O.mem
  .rw[e,l];simp only;rw[<-O.len,IU]
  .intro p E;rw[e,l];exact AO _ (O.gls p E)
  .rw[e,l];simp only;rw[<-C t (fun j o O C=>u j o O (by omega))];exact T5 _ _ (u (i+k) o (by omega) (by omega) q)
theorem Gx.gls {S:Nat->DS}(H:Gx P T call an Z ae h S):∀k,k<=h->∀p∈(S k).gls,p.1 < k/\p∈(S (p.1+1)).gls
 |0,_,p,hp=>by rw[H.gl0] at hp;cases hp
 |k+1,hk,p,hp=>by
  obtain⟨o,q⟩:=H.op (j:=k) (by omega);obtain⟨R,X,aa⟩:=H.step k o (by omega) q;obtain⟨aq,c,C,l,D,E,M⟩:=ME aa;have u:=hp;rw[l] at hp;rcases Ap.1 hp with O|O
  .obtain⟨e,Y,rfl⟩:=BL.1 O;exact⟨Nat.lt_succ_self _,u⟩
  .obtain⟨q1,y⟩:=H.gls k (by omega) p O;exact⟨by omega,y⟩
structure Na (T:Tab) (ops:Array Oper) (h:Nat) (S:Nat->DS) (listed:Array Bool) (ρ :Nat->Option Nat) (a:Act) (w:World):Prop where
 size:listed.size=ops.size
 closed:Pz ops listed
 only:∀i,listed.getD i false=true->i < h
 defers:FK T.base ρ (S 0).mem w a.defers
 asize:a.tmps.size=(S 0).tmps.n
 mem:BX T (S 0).g.n ρ (S 0).mem w
 init:∀t c,(S 0).tmps.get t=some c->(∀i o,ops[i]? =some o->o.dst=some t->listed.getD i false=false)->BQ T (S 0).g.n ρ (S 0).mem w c (a.tmps.getD t undef)
 facts:∀i o d c,listed.getD i false=true->ops[i]? =some o->o.dst=some d->(S (i+1)).tmps.get d=some c->BQ T (S (i+1)).g.n ρ (S 0).mem w c (a.tmps.getD d undef)
 gfacts:∀p∈(S h).gls,listed.getD p.1 false=true->HX T ops (S (p.1+1)).g.n a p.2/\listed.getD p.2.j false=true
variable {h:Nat}{S:Nat->DS}{V:Array Bool}{W :Nat->Option Nat}{a:Act}{w:World}
theorem Na.val (H:Gx P T call an Z ae h S)(I:Na T Z h S V W a w){k:Nat}(hk:k<=h){t:Nat}{c:AC}(l:(S k).tmps.get t=some c)
  (X:∀i o,Z[i]? =some o->o.dst=some t->V.getD i false=true/\i < k\/V.getD i false=false/\k<=i):BQ T (S k).g.n W (S 0).mem w c (a.tmps.getD t undef):=by
 by_cases y:∃i o,Z[i]? =some o/\o.dst=some t/\i < k
 .obtain⟨i,o,p,hd,Y⟩:=y;rcases X i o p hd with⟨O,_⟩|⟨_,C⟩
  .obtain⟨af,aj⟩:=H.later (i+1) (k - (i+1)) (by omega);rw[show i+1+(k - (i+1))=k by omega] at af aj;have:=aj t (fun j D E M u q=>by
    have:=E4 H.nodup p u hd q;omega)
   rw[this] at l;exact (I.facts i o t c O p hd l).up0 af.grow.n
  .omega
 .obtain⟨af,aj⟩:=H.later 0 k (by omega);rw[AM] at af aj;have:=aj t (fun j D E M u q=>y ⟨j,D,u,q,by omega⟩);rw[this] at l;refine (I.init t c l fun i o p hd=>?_).up0 af.grow.n;grind
theorem Na.masked {C6:List Tmp}(H:Gx P T call an Z ae h S)(I:Na T Z h S V W a w){j R:Nat}(hj:j < h)(y:(Bx Z.toList [])[j]? =some R)(E:∀i,R.testBit i=true->V.getD i false=true):
  DM T W Z ((S j).masked (Ck 0 Z.toList) R.testBit R C6) a w:=by
 obtain⟨af,_⟩:=H.later 0 j (by omega);rw[AM] at af;have X:=Gl _ 0 H.masks j R y;refine⟨⟨(by simp only[DS.masked];rw[af.mem];exact I.defers),?_,fun t c D=>?_,?_⟩,fun e q=>?_⟩
 .simp only[DS.masked];rw[I.asize,af.len]
 .obtain⟨O,C⟩:=Wi (R:=R) H.nodup D;simp only[DS.masked];rw[af.mem];refine I.val H (by omega) O fun i o ho hd=> .inl ?_;grind
 .simp only[DS.masked];rw[af.mem];exact I.mem.mono af.grow.n
 .simp only[DS.masked,Is,BL,List.mem_filter] at q;obtain⟨p,⟨Y,l⟩,rfl⟩:=q;have M:=E p.1 l;have a0:p.1 < j:=by have:=X p.1 l;omega
  obtain⟨aj,_⟩:=H.later j (h - j) (by omega);rw[show j+(h - j)=h by omega] at aj;obtain⟨u,_⟩:=H.later (p.1+1) (j - (p.1+1)) (by omega);rw[show p.1+1+(j - (p.1+1))=j by omega] at u;exact (I.gfacts p (aj.gls p Y) M).1.up u.grow.n
theorem CL (V:Array Bool)(i j:Nat)(ab:i < V.size):(V.setIfInBounds i true).getD j false=if j=i then true else V.getD j false:=by
 by_cases l:j=i
 .subst l;simp[AJ,yL,ab]
 .rw[BG l];simp only[AJ,yL];grind
theorem GR {a1:Option Tmp}{t:Nat}(h:a1≠some t)(v:Value):(a.put a1 v).tmps.getD t undef=a.tmps.getD t undef:=by
 cases a1 with
 |none=>rfl
 |some d=>
  simp only[Act.put,AJ,yL];rw[BG (fun e=>h (by rw[e]))]
theorem Na.comes (H:Gx P T call an Z ae h S)(hA:Agr T (S h).g)(di:CB T (S h).g)(ci:pcv T ae)(cl:Ch T (S 0).g ae)(I:Na T Z h S V W a w){i:Nat}{o:Oper}(ab:i < h)(M:Z[i]? =some o)
  (cu:V.getD i false=false) (cs:∀e∈o.after,Region.binds .any e=true->V.getD e.on false=true) {K:Act->World->Prop} {Q:Exit->Act->World->Prop}
  (hK:∀v ac,Na T Z h S (V.setIfInBounds i true) W (a.put o.dst v) ac->BY T (S 0).g.n W (S 0).mem w W (S 0).mem ac->K (a.put o.dst v) ac):Fe P r al Z o a w K Q:=by
 obtain⟨R,hR,aa⟩:=H.step i o ab M;obtain⟨aq,c,a1,a2,a3,b6,cy⟩:=ME aa;obtain⟨c0,c1⟩:=Nv (r:=r) (al:=al) H.call H.ys a1;have b9:=FC I.closed hR M cs;have d0:=Gl _ 0 H.masks i R hR;obtain⟨af,_⟩:=H.later 0 i (by omega);rw[AM] at af;obtain⟨aj,_⟩:=H.later (i+1) (h - (i+1)) (by omega);rw[show i+1+(h - (i+1))=h by omega] at aj;have hg:(S (i+1)).g=aq.g:=by rw[a2]
 have b7:Agr T aq.g:=by rw[<-hg];exact hA.of aj.grow
 have ch:CB T aq.g:=by rw[<-hg];exact di.of aj.grow
 have a4:(S i).mem=(S 0).mem:=af.mem;have Y:i < V.size:=by rw[I.size];exact (AI.1 M).1
 have ca:=I.masked (C6:=CD Z o) H ab hR b9;have cb:aq.mem=(S i).mem\/¬CS o.op=true:=by
  by_cases hf:CS o.op=true
  .exact .inl (RX a1 hf b7 ch ci (cl.grow af.grow) ca)
  .exact .inr hf
 have bl:∀id,(S i).mem.at id≠ .pad->aq.mem.at id=(S i).mem.at id:=by
  rcases b6 with hf|h
  .rcases cb with h|h
   .intro id _;rw[h]
   .exact absurd hf h
  .exact h.1
 have cx:AC.free c=true\/∀id,aq.mem.at id≠ .pad->(S i).mem.at id≠ .pad:=by
  rcases b6 with hf|h
  .rcases cb with h|h
   .exact .inr fun id hp=>by rw[<-h];exact hp
   .exact absurd hf h
  .exact h.2
 refine c1 b7 ch ci (cl.grow af.grow) W a w K Q ca fun ad v ac aB aJ=>?_;have b3:BY T (S i).g.n W (S i).mem w ad aq.mem ac:=aJ;have cc:BX T (S i).g.n W (S i).mem w:=by rw[a4];exact I.mem.mono af.grow.n
 obtain⟨f1,f2⟩:=b3.forget cc aB.rel.mem bl;have dm:=b3.same cc bl;have l:BY T (S 0).g.n W (S 0).mem w W (S 0).mem ac:=by rw[<-a4];exact f1.down af.grow.n
 have b4:∀n,BY T n W (S 0).mem w W (S 0).mem ac:=fun n=>⟨l.os,l.tape,l.output,l.size,l.mlen,l.rho,l.untr,l.fresh,l.old,fun id x ks e D=>by
  rcases l.tok id x ks e D with O|⟨_,C|⟨L,X,e',C,h3,_⟩⟩
  .exact .inl O
  .rw[D] at C;cases C
  .rw[D] at C;injection C with h4 h5
   have:=I.mem.tok_lt D;omega,fun id x y ks e D=>by
  rcases l.row id x y ks e D with C|⟨L,aF,X,C,_,⟨_,_,h5⟩|⟨h3,_⟩⟩
  .rw[D] at C;cases C
  .exact .inr ⟨x,y,ks,D,rfl,.inl ⟨rfl,rfl,h5⟩⟩
  .rw[D] at C;injection C with h4 h5
   have:=(I.mem.row_lt D).2;omega⟩
 have db:BX T (S 0).g.n W (S 0).mem ac:=by
  exact (BY.forget (ag:=aq.mem) (ap:=aq.g.n) (by rw[<-a4];exact b3.down af.grow.n) I.mem aB.rel.mem (by rw[<-a4];exact bl)).2
 refine hK v ac ⟨by simp[I.size],?_,?_,?_,?_,db,?_,?_,?_⟩ l
 .
  intro j oj u aw e E hb;rw[CL _ _ _ Y] at aw⊢;split
  .rfl
  .split at aw
   .rename_i q;subst q;rw[M] at u;cases u;exact cs e E hb
   .exact I.closed j oj u aw e E hb
 .intro j hj;rw[CL _ _ _ Y] at hj;split at hj
  .rename_i q;rw[q];exact ab
  .exact I.only j hj
 .have:=I.defers.on l;cases o.dst<;>exact this
 .have:=aB.rel.size;rw[<-I.asize];cases o.dst<;>simp[Act.put]
 .
  intro t aO hc cf;have b0:o.dst≠some t:=fun hd=>by
   have:=cf i o M hd;rw[CL _ _ _ Y,BH rfl] at this;cases this
  rw[GR b0];refine BQ.mono0 (b4 _) (AE _) _ _ (I.init t aO hc fun j oj u hd=>?_);have:=cf j oj u hd;rw[CL _ _ _ Y] at this;split at this
  .cases this
  .exact this
 .
  intro j oj d aO aw u hd hc;rw[CL _ _ _ Y] at aw;split at aw
  .rename_i q;subst q;rw[M] at u;cases u;rw[a2] at hc;simp only[hd,EL] at hc;rcases Bn.get_set _ _ _ _ hc with⟨_,_,c8⟩|⟨c9,dj⟩
   .have b2:=aB.rel.at d;simp only at b2;have c7:c=(aq.tmps.get d).getD .any:=a3 d hd;rw[<-c7] at b2;rw[hg,c8,<-a4];exact BQ.backF dm _ _ cx b2
   .
    have hn:=c9 rfl;have ce:¬d < a.tmps.size:=by rw[I.asize,<-af.len];exact hn
    have hv:=I.val H (by omega) dj fun i' o' de bs=>by
     have:=E4 H.nodup M de hd bs;subst this;exact .inr ⟨cu,AE _⟩
    have dk:(a.put o.dst v).tmps.getD d undef=a.tmps.getD d undef:=by
     rw[hd];simp only[Act.put,AJ,yL,if_true,BG ce];rw[Array.getElem?_eq_none (Nat.le_of_not_lt ce)]
    rw[dk,hg];exact BQ.mono0 (b4 _) c0.n _ _ hv
  .rename_i q;have b0:o.dst≠some d:=fun bs=>q (E4 H.nodup u M hd bs);rw[GR b0];exact BQ.mono0 (b4 _) (AE _) _ _ (I.facts j oj d aO aw u hd hc)
 .
  intro p hp bx;rw[CL _ _ _ Y] at bx;split at bx
  .rename_i cj;obtain⟨_,q2⟩:=H.gls h (AE _) p hp;rw[cj,a2] at q2;rcases Ap.1 q2 with O|O
   .obtain⟨e,E,rfl⟩:=BL.1 O;obtain⟨u1,u2⟩:=cy e E;refine⟨?_,?_⟩
    .rw[hg];exact aB.ges e u1
    .rw[CL _ _ _ Y];split
     .rfl
     .exact b9 e.j u2
   .have:=(H.gls i (by omega) p O).1;omega
  .rename_i cj;obtain⟨q1,q2⟩:=I.gfacts p hp bx;have q:p.2.j≠i:=fun e=>by rw[e,cu] at q2;cases q2
   refine⟨⟨q1.lt,q1.bool,?_,q1.imp,q1.ne⟩,by rw[CL _ _ _ Y,BG q];exact q2⟩;have hy:yielded Z (a.put o.dst v).tmps p.2.j=yielded Z a.tmps p.2.j:=by
    cases hd:o.dst with
    |none=>rfl
    |some d=>
     refine LY ?_ v;intro E;cases b1:Z[p.2.j]? with
     |none=>rw[b1] at E;cases E
     |some op=>
      rw[b1] at E;exact q (E4 H.nodup b1 M E hd)
   rw[hy];exact q1.iff
end
section
variable {P:Program}{T:Tab}{call:CM}{an:Ys}{r:Option Nat}{al:Nat}{Z:Array Oper}{ae:PC}
theorem RU {f:List Nat}:∀(ay:List Edge),∀e∈ay,Region.binds .any e=true->(GV f ay).testBit e.on=true
 |[],e,l,_=>by cases l
 |e0::ay,e,l,hb=>by
  simp only[GV];cases l with
  |head=>
   rw[BH hb];simp only[show∀x y,Nat.lor x y=x ||| y from fun _ _=>rfl,Nat.testBit_or,Nat.testBit_two_pow];simp
  |tail _ l=>
   have:=RU (f:=f) ay e l hb;split
   .simp only[show∀x y,Nat.lor x y=x ||| y from fun _ _=>rfl,Nat.testBit_or,this,Bool.or_true]
   .exact this
theorem UB:∀(l:List Oper) (p:List Oper) (f:List Nat),f.length=p.length->
  (∀(j r:Nat) (o:Oper),f[j]? =some r->(p++l)[j]? =some o->∀e∈o.after,Region.binds .any e=true->r.testBit e.on=true)->
  ∀(j r:Nat) (o:Oper),(Bx l f)[j]? =some r->(p++l)[j]? =some o->∀e∈o.after,Region.binds .any e=true->r.testBit e.on=true
 |[],p,f,_,h=>h
 |o::l,p,f,hlen,h=>by
  simp only[Bx];have e:p++o::l=(p++[o])++l:=by simp
  rw[e];refine UB l (p++[o]) _ (by simp[hlen]) ?_;intro j r y q u;rw[BA] at q;split at q
  .exact h j r y q (by rw[e];exact u)
  .rename_i M;have E:j=f.length:=by
    rcases AQ (j - f.length) 1 with O|O
    .omega
    .rw[Ai (by simpa using O)] at q;cases q
   subst E;simp at q;subst q;have H:y=o:=by
    rw[hlen] at u;simp at u;exact u.symm
   subst H;exact fun e D C=>RU _ e (by simpa using D) C
variable{o:Oper}{i h:Nat}{a:Act}{w:World}{Q:Exit->Act->World->Prop}{V:Array Bool}{W:Nat->Option Nat}
theorem XF (y:Hz (Bx Z.toList []) 0=true){k:Nat}(p:Z[k]? =some o){e:Edge}(u:e∈o.after)(q:Region.binds .any e=true):e.on < k:=by
 have l:k < (Bx Z.toList []).length:=by rw[EF];exact (AI.1 p).1
 have O:=UB Z.toList [] [] rfl (fun j r o C=>by simp at C) k _ o (AF l) (by simpa using p) e u q;have:=Gl _ 0 y k _ (AF l) e.on O;omega
theorem PB (l:Z[i]? =some o){K:Act->World->Prop}(h:Fe P r al Z o a w K Q):wpOpIn (fen r) al P Z Q i K a w:=by
 unfold Fe at h;unfold wpOpIn;simp only[l];split
 .grind
 .rename_i p;rw[BG p] at h;exact⟨fun _ _=>trivial,h⟩
theorem gh (E:Dj P T call)(Y:ES P T.lp an)(hm:Hz (Bx Z.toList []) 0=true){h:Nat}(ba:∀j r,(Bx Z.toList [])[j]? =some r->h<=j->∀i,i < j->r.testBit i=true):
  ∀{l:List Oper} {s aq:RS},Ee P call an Z ae l s=some aq->Agr T aq.g->CB T aq.g->pcv T ae->Ch T s.g ae->
   ∀(k:Nat) (V:Array Bool) W a w Q,h<=k->k+l.length=Z.size->(∀j,l[j]? =Z[k+j]?)->V.size=Z.size->(∀j,V.getD j false=true↔j < k)->Pz Z V->DM T W Z s a w->
   (∀ ad a' ac,DM T ad Z aq a' ac->BY T s.g.n W s.mem w ad aq.mem ac->Q .normal a' ac)->wpAnyIn (fen r) al P .any Z Q l.length V a w
 |[],s,aq,aa,_,_,_,_,k,V, W,a,w,Q,hk,hlen,hl,hsz,hlist,_,ab,hK=>by
  simp only[Ee] at aa;cases aa;refine wpAnyIn_done ?_ (hK W a w ab (BY.refl _ _ _ _ _)) _;refine List.eq_nil_iff_forall_not_mem.2 fun i ab=>?_;obtain⟨O,o,p,_⟩:=mem_ready.1 ab;have:i < Z.size:=(AI.1 p).1;have C:=(hlist i).2 (by simp at hlen;omega);rw[AJ] at O C;have bo:i < V.size:=by omega
  rw[yO bo] at O C;simp only[Option.getD_some] at O C;rw[O] at C;cases C
 |o::l,s,aq,aa,hA,hob,hpc,hpk,k,V, W,a,w,Q,hk,hlen,hl,hsz,hlist,hcl,ab,hK=>by
  simp only[Ee,AD,AA] at aa;obtain⟨aF,O,C⟩:=aa;obtain⟨g1,k1⟩:=Nv (r:=r) (al:=al) E Y O;have aw:=(L4 (r:=r) (al:=al) E Y C).1;have p:Z[k]? =some o:=by simpa using (hl 0).symm
  have H:k < V.size:=by simp at hlen;omega
  have b4:∀i,V.getD i true=false->V.getD i false=false:=fun i h=>by
   rw[AJ] at h⊢;cases hx:V[i]? with
   |none=>rfl
   |some b=>rw[hx] at h;exact h
  have only:∀i,i∈Region.ready .any Z V->i=k:=fun i D=>by
   obtain⟨q1,oi,u,q3⟩:=mem_ready.1 D;have b6:k<=i:=by
    rcases AQ i k with h|h
    .have:=(hlist i).2 h;rw[b4 i q1] at this;cases this
    .exact h
   have a4:i < (Bx Z.toList []).length:=by rw[EF];exact (AI.1 u).1
   rcases AQ k i with h|h
   .have q:=ba i _ (AF a4) (by omega) k h;have:=FC hcl (AF a4) u q3 k q;have:=(hlist k).1 this;omega
   .omega
  have b1:k∈Region.ready .any Z V->wpOpIn (fen r) al P Z Q k (wpAnyIn (fen r) al P .any Z Q l.length (V.setIfInBounds k true)) a w:=fun bm=>by
   obtain⟨_,ok,u,q3⟩:=mem_ready.1 bm;rw[p] at u;cases u;refine PB p ?_;refine k1 (hA.of aw) (hob.of aw) hpc hpk W a w _ Q ab fun ad v ac aB aJ=>?_;refine gh E Y hm ba C hA hob hpc (hpk.grow g1) (k+1) _ ad _ ac Q (by omega) (by simp at hlen;omega) (fun j=>by have:=hl (j+1);simpa [Nat.add_assoc,Nat.add_comm 1 j] using this) (by simpa using hsz) (fun j=>?_) ?_ aB fun aV a2 w2 bl bt=>?_
   .rw[CL _ _ _ H];split
    .rename_i e;subst e;simp
    .rename_i e;rw[hlist j];omega
   .intro j oj X M e y q;rw[CL _ _ _ H] at M⊢;split
    .rfl
    .split at M
     .rename_i e2;rw[e2,p] at X;cases X;exact q3 e y q
     .exact hcl j oj X M e y q
   .exact hK aV a2 w2 bl (aJ.trans ab.rel.mem g1.n bt)
  refine⟨fun bs=>?_,fun i D=>by have:=only i D;subst this;exact b1 D⟩;exfalso;have:k∈Region.ready .any Z V:=by
   refine mem_ready.2 ⟨?_,o,p,fun e y q=>?_⟩
   .have h0:¬V.getD k false=true:=fun h=>by have:=(hlist k).1 h;omega
    rw[AJ,yO H] at h0⊢;simpa using h0
   .exact (hlist e.on).2 (XF hm p y q)
  rw[bs] at this;cases this
def FA (V:Array Bool):Nat:=V.toList.countP (fun b=> !b)
theorem WJ:∀(l:List Bool) (i:Nat),l[i]? =some false->(l.set i true).countP (fun b=> !b)+1=l.countP (fun b=> !b)
 |[],i,h=>by simp at h
 |b::l,0,h=>by simp at h;subst h;simp
 |b::l,i+1,h=>by
  have:=WJ l i (by simpa using h);simp only[List.set_cons_succ,List.countP_cons];omega
theorem KF (ab:i < V.size)(h:V.getD i false=false):FA (V.setIfInBounds i true)+1=FA V:=by
 unfold FA;rw[Array.toList_setIfInBounds];refine WJ _ i ?_;rw[AJ,yO ab] at h;simp at h;simp[ab,h]
theorem NS:∀(l:List Bool) (h:Nat),h<=l.length->(∀j,(l[j]?).getD false=true↔j < h)->l.countP (fun b=> !b)=l.length - h
 |[],h,_,_=>by simp
 |b::l,0,_,hl=>by
  have p:b=false:=by
   have:=hl 0;simpa using this
  subst p;have:=NS l 0 (Ak _) (fun j=>by simpa using hl (j+1));simp[this]
 |b::l,h+1,hle,hl=>by
  have p:b=true:=by
   have:=(hl 0).2 (Nat.succ_pos _);simpa using this
  subst p;have:=NS l h (by simpa using hle) (fun j=>by have:=hl (j+1);simpa using this);simp[this]
theorem Km (p:h<=V.size)(l:∀j,V.getD j false=true↔j < h):FA V=V.size - h:=by
 unfold FA;rw[NS V.toList h (by simpa using p) (fun j=>by rw[<-l j,AJ];simp)];simp
theorem Na.full {S:Nat->DS}(H:Gx P T call an Z ae h S)(I:Na T Z h S V W a w)(C:∀j,j < h->V.getD j false=true):
  DM T W Z ⟨(S h).tmps,(S h).mem,(S h).g,(S h).gls.map (·.2)⟩ a w:=by
 obtain⟨af,_⟩:=H.later 0 h (by omega);rw[AM] at af;refine⟨⟨(by simp only;rw[af.mem];exact I.defers),by rw[I.asize,af.len],fun t c u=>?_,?_⟩,fun e y=>?_⟩
 .simp only;rw[af.mem];refine I.val H (AE _) u fun i o M hd=>?_;rcases AQ i h with ab|ab
  .grind
  .refine .inr ⟨?_,ab⟩;cases E:V.getD i false with
   |false=>rfl
   |true=>have:=I.only i E;omega
 .simp only;rw[af.mem];exact I.mem.mono af.grow.n
 .obtain⟨p,l,rfl⟩:=BL.1 y;have D:=(H.gls h (AE _) p l).1;obtain⟨q,_⟩:=H.later (p.1+1) (h - (p.1+1)) (by omega);rw[show p.1+1+(h - (p.1+1))=h by omega] at q;exact (I.gfacts p l (C p.1 D)).1.up q.grow.n
theorem vR {S:Nat->DS}(H:Gx P T call an Z ae h S)(hA:Agr T (S h).g)(b8:CB T (S h).g)(b9:pcv T ae)(ca:Ch T (S 0).g ae){aH:World}(b5:BX T (S 0).g.n W (S 0).mem aH)
  (hK:∀(V:Array Bool) a w,V.size=Z.size->(∀j,V.getD j false=true↔j < h)->Pz Z V->DM T W Z ⟨(S h).tmps,(S h).mem,(S h).g,(S h).gls.map (·.2)⟩ a w->
   BY T (S 0).g.n W (S 0).mem aH W (S 0).mem w->wpAnyIn (fen r) al P .any Z Q (Z.size - h) V a w):
  ∀(aK:Nat) (V:Array Bool) (a:Act) (w:World),Na T Z h S V W a w->BY T (S 0).g.n W (S 0).mem aH W (S 0).mem w->FA V=aK->wpAnyIn (fen r) al P .any Z Q aK V a w:=by
 intro aK;induction aK with
 |zero=>
  intro V a w I D hu;by_cases l:∀j,j < h->V.getD j false=true
  .have q:∀j,V.getD j false=true↔j < h:=fun j=>⟨I.only j,l j⟩;have p:=Km (by rw[I.size];exact H.le) q;rw[hu,I.size] at p;have:=hK V a w I.size q I.closed (I.full H l) D;rw[<-p] at this;exact this
  .exfalso;simp only[Classical.not_forall] at l;obtain⟨j,X,aw⟩:=l;have:=KF (V:=V) (i:=j) (by rw[I.size];exact AH X H.le) (by simpa using aw);omega
 |succ aK ih=>
  intro V a w I D hu;by_cases l:∀j,j < h->V.getD j false=true
  .have q:∀j,V.getD j false=true↔j < h:=fun j=>⟨I.only j,l j⟩;have p:=Km (by rw[I.size];exact H.le) q;rw[hu,I.size] at p;have:=hK V a w I.size q I.closed (I.full H l) D;rw[<-p] at this;exact this
  .simp only[Classical.not_forall] at l;obtain⟨j,X,aw⟩:=l;have b6:∃j,j < h/\V.getD j false=false/\∀i,i < j->V.getD i false=true:=by
    have ce:∀n,(∃j,j < n/\j < h/\V.getD j false=false)->∃j,j < h/\V.getD j false=false/\∀i,i < j->V.getD i false=true:=by
     intro n;induction n with
     |zero=>rintro⟨j,O,_⟩;omega
     |succ n cc=>
      rintro⟨j,O,C,h3⟩;by_cases u:∃j,j < n/\j < h/\V.getD j false=false
      .exact cc u
      .have b2:j=n:=by
        rcases AQ j n with h|h
        .exact absurd ⟨j,h,C,h3⟩ u
        .omega
       subst b2;refine⟨j,C,h3,fun i ab=>?_⟩;cases b3:V.getD i false with
       |true=>rfl
       |false=>exact absurd ⟨i,ab,by omega,b3⟩ u
    exact ce (j+1) ⟨j,Nat.lt_succ_self _,X,by simpa using aw⟩
   obtain⟨U,h0,Y,bt⟩:=b6;have bm:∀i,V.getD i true=false->V.getD i false=false:=fun i h=>by
    rw[AJ] at h⊢;cases u:V[i]? with
    |none=>rfl
    |some b=>rw[u] at h;exact h
   have bb:U∈Region.ready .any Z V:=by
    obtain⟨o,ho⟩:=H.op h0;refine mem_ready.2 ⟨?_,o,ho,fun e he E=>bt e.on (XF H.masks ho he E)⟩;have b4:U < V.size:=by rw[I.size];exact AH h0 H.le
    rw[AJ,yO b4] at Y⊢;simpa using Y
   refine⟨(fun b7=>by rw[b7] at bb;cases bb),fun i b1=>?_⟩;obtain⟨q1,o,y,q3⟩:=mem_ready.1 b1;have a4:i < Z.size:=(AI.1 y).1;have b0:i < h:=by
    rcases AQ i h with M|M
    .exact M
    .have a9:i < (Bx Z.toList []).length:=by rw[EF];exact a4
     have E:=H.tail i _ (AF a9) M U (by omega);have:=FC I.closed (AF a9) y q3 U E;rw[Y] at this;cases this
   refine PB y (I.comes H hA b8 b9 ca b0 y (bm i q1) q3 fun v ac I' cf=>?_);refine ih _ _ ac I' (D.trans b5 (AE _) cf) ?_;have:=KF (V:=V) (i:=i) (by rw[I.size];exact a4) (bm i q1);omega
end
section
variable {P:Program}{T:Tab}{call:CM}{an:Ys}{r:Option Nat}{al:Nat}{Z:Array Oper}{ae:PC}
theorem ZA {Z:Array Oper}{ae:PC}{s aq:RS}{o:Oper}(h:Cu P call an Z ae s o=some aq):aq.tmps.n=s.tmps.n:=by
 unfold Cu at h;simp only[AD,AA] at h;obtain⟨⟨run,aF⟩,p,h⟩:=h;obtain⟨_,l,_⟩:=J7 p;rw[<-l];simp only at h;split at h
 .cases h
 split at h
 .cases h;exact IU ..
 .split at h
  .simp only[AA] at h;obtain⟨⟨c,m,g⟩,_,h⟩:=h;simp only at h;split at h
   .cases h;exact IU ..
   .split at h
    .cases h;exact IU ..
    .split at h
     .cases h;exact IU ..
     .cases h
  .simp only[AA] at h;obtain⟨r,_,h⟩:=h;cases h;exact IU ..
  .simp only[AA] at h;obtain⟨r,_,h⟩:=h;split at h
   .cases h;exact IU ..
   .split at h
    .cases h;exact IU ..
    .split at h
     .cases h;exact IU ..
     .cases h
theorem TV {D:List (Tmp × Nat)}:∀{l:List Oper} {u:List Nat} {U:Nat} {p q:DS},heads P call an Z D ae u l U p=some q->
  ∃S:Nat->DS,S U=p/\S (U+l.length)=q/\∀i o,l[i]? =some o->∃R,u[i]? =some R/\NO P call an Z D ae R (U+i) o (S (U+i))=some (S (U+i+1))
 |[],u,U,p,q,h=>by
  have H:some p=some q:=by cases u<;>exact h
  cases H;exact⟨fun _=>p,rfl,rfl,fun i o X=>by simp at X⟩
 |o::l,[],U,p,q,h=>by simp[heads] at h
 |o::l,R::u,U,p,q,h=>by
  simp only[heads,AD,AA] at h;obtain⟨S1,O,C⟩:=h;obtain⟨S,q1,q2,q3⟩:=TV C;refine⟨fun k=>if k=U then p else S k,by simp,?_,fun i Y y=>?_⟩
  .simp only[Ad];rw[BG (by omega),<-q2];congr 1;omega
  .cases i with
   |zero=>
    simp at y;subst y;refine⟨R,rfl,?_⟩;simp only[Nat.add_zero,if_true];rw[BG (by omega),q1];exact O
   |succ i=>
    obtain⟨E,M,this⟩:=q3 i Y (by simpa using y);refine⟨E,by simpa using M,?_⟩;simp only;rw[BG (by omega),BG (by omega),show U+(i+1)=U+1+i by omega];exact this
theorem BY.drawn (T:Tab)(n:Nat)(W :Nat->Option Nat)(m:Mem)(w:World)(d:Nat):BY T n W m w W m { w with drawn:=d } where
 os:=rfl
 tape:=rfl
 output:=rfl
 size:=AE _
 mlen:=fun _ h=>h
 rho:=fun _ h=>⟨rfl,h⟩
 untr:=fun _ _ h=>h
 fresh:=fun id b h l _=>by rw[h] at l;cases l
 old:=fun _ _ _=>rfl
 tok:=fun _ _ _ _ h=> .inl ⟨h,rfl,fun _ _=>rfl⟩
 row:=fun _ x y ks _ h=> .inr ⟨x,y,ks,h,rfl,.inl ⟨rfl,rfl,fun _ Y _ p=>⟨Y,p,rfl⟩⟩⟩
theorem BX.drawn {n:Nat}{W :Nat->Option Nat}{m:Mem}{w:World}(l:BX T n W m w)(d:Nat):BX T n W m { w with drawn:=d }:=
 ⟨fun id=>Cj.step (BY.drawn T n W m w d) l (AE _) rfl rfl (fun _ _=>rfl),l.inj,l.fr⟩
theorem qa (hm:P.follows .mixedOrders=true)(a0:Dj P T call)(a3:ES P T.lp an){l:Loc}{g:G}{aq:RS}(h:Zx P call an Z ae l g=some aq):
  Bo g aq.g/\aq.tmps.n=l.tmps.n/\(Agr T aq.g->CB T aq.g->pcv T ae->Ch T g ae->∀id W a w Q,Rel T g.n W l a w->
   (∀ ad M ac,DM T ad Z aq M ac->BY T g.n W l.mem w ad aq.mem ac->Q .normal M ac)->(Code.region id Z true).wpIn (fen r) al P Q a w):=by
 unfold Zx at h;simp only at h;split at h
 .rename_i D;rw[AB] at D;obtain⟨bb,cj⟩:=D;simp only[AD,AA] at h;obtain⟨Sh,hh,ht⟩:=h;obtain⟨t1,_,t3⟩:=Nu (Bx Z.toList []) 0 0 (AE _);rw[AM,EF] at t1;generalize c2:GU (Bx Z.toList []) 0 0=hd at*;obtain⟨S,Y,q2,q3⟩:=TV hh;have ch:(Z.toList.take hd).length=hd:=by simp;omega
  rw[AM,ch] at q2;have H:Gx P T call an Z ae hd S:=by
   refine⟨t1,fun j o y ho=>?_,bb,cj,fun j r hr y i ab=>t3 j r hr (by omega) i (by omega),a0,a3,by rw[Y]⟩;obtain⟨R,u,this⟩:=q3 j o (by rw[BB,BH y];simpa using ho);grind
  obtain⟨af,_⟩:=H.later 0 hd (by omega);rw[AM] at af;have q:(S 0).g=g:=by rw[Y]
  have aP:(S 0).mem=l.mem:=by rw[Y]
  have a4:(S 0).tmps=l.tmps:=by rw[Y]
  subst q2;obtain⟨aw,E⟩:=L4 (r:=r) (al:=al) a0 a3 ht;refine⟨?_,?_,fun hA bi bm bo id W a w Q u hK=>?_⟩
  .rw[<-q];exact af.grow.trans aw
  .have:=(show aq.tmps.n=(S hd).tmps.n from by
    have cx:∀{l:List Oper} {s aq:RS},Ee P call an Z ae l s=some aq->aq.tmps.n=s.tmps.n:=by
     intro l;induction l with
     |nil=>intro s aq h;simp only[Ee] at h;cases h;rfl
     |cons o l ih=>
      intro s aq h;simp only[Ee,AD,AA] at h;obtain⟨aF,O,C⟩:=h;rw[ih C];exact ZA O
    exact cx ht)
   rw[this,af.len,a4]
  .have b9:Agr T (S hd).g:=hA.of aw;have cs:CB T (S hd).g:=bi.of aw;refine wpIn_region_any hm ?_;have bs:=BY.drawn T (S 0).g.n W (S 0).mem w (w.drawn+1);have ba:BX T (S 0).g.n W (S 0).mem { w with drawn:=w.drawn+1 }:=by rw[q,aP];exact u.mem.drawn _
   have X:∀j,(Array.replicate Z.size false).getD j false=false:=fun j=>by
    rw[AJ,Array.getElem?_replicate];split<;>rfl
   have I0:Na T Z hd S (Array.replicate Z.size false) W a { w with drawn:=w.drawn+1 }:=by
    refine⟨by simp,fun j o _ y=>?_,fun i ab=>?_,(by rw[aP];exact u.defers.on (BY.drawn T g.n W l.mem w (w.drawn+1))),by rw[a4];exact u.size,ba,fun t c D _=>?_,fun i o d c ab=>?_,fun p _ hp=>?_⟩
    .rw[X] at y;cases y
    .rw[X] at ab;cases ab
    .rw[a4] at D;have:=u.tmps t c D;rw[q,aP];exact BQ.mono0 (by rw[<-q,<-aP];exact bs) (AE _) _ _ this
    .rw[X] at ab;cases ab
    .rw[X] at hp;cases hp
   have cb:FA (Array.replicate Z.size false)=Z.size:=by simp[FA,List.countP_replicate]
   refine vR H b9 cs bm (by rw[q];exact bo) ba (fun V M ac e1 e2 e3 e4 e5=>?_) Z.size _ a _ I0 (BY.refl _ _ _ _ _) cb;have cc:(Z.toList.drop hd).length=Z.size - hd:=by simp
   have:=gh (r:=r) (al:=al) a0 a3 bb (fun j r hr y i ab=>t3 j r hr (by omega) i (by omega)) ht hA bi bm ((by rw[q];exact bo:Ch T (S 0).g ae).grow af.grow) hd V W M ac Q (AE _) (by rw[cc];omega)
    (fun j=>by simp) e1 e2 e3 e4 (fun aV a2 w2 cf cu=>?_)
   .grind
   .refine hK aV a2 w2 cf ?_;rw[<-q,<-aP];have aF:BY T (S 0).g.n W (S 0).mem w W (S 0).mem ac:=bs.trans (by rw[q,aP];exact u.mem) (AE _) e5;have s2:BY T (S hd).g.n W (S 0).mem ac aV aq.mem w2:=by rw[<-af.mem];exact cu
    exact aF.trans (by rw[q,aP];exact u.mem) af.grow.n s2
 .cases h
end
structure Kj (T1 T2:Tab) (ρ :Nat->Option Nat) (m1 m2:Mem) (w:World) (nh nm:Nat):Prop where
 eq:∀x,x < nh->T2 x=T1 x
 safe:∀b off,Bt T1 ρ m1 w b off->Bt T2 ρ m2 w b off
 ptr:∀id,id < nm->(m1.at id).ptrOk=true->(m2.at id).ptrOk=true
 vec:∀id,id < nm->m1.at id≠ .pad->m2.at id≠ .pad/\∀x ks e,m2.at id= .tok x ks e->x < nh->∃ks1,m1.at id= .tok x ks1 e/\ks1.length=ks.length
 row:∀id,id < nm->m1.at id≠ .pad->m2.at id≠ .pad/\∀x y ks e,m2.at id= .mrow x y ks e->∃x1 ks1,m1.at id= .mrow x1 y ks1 e/\ks1.length=ks.length
theorem CU {a b:Nat}(h:Nat.blt a b=true):a < b:=by rwa [Nat.blt_eq] at h
section
variable {az J:Tab}{W :Nat->Option Nat}{ax ai:Mem}{w:World}{nh aR av aD:Nat}
theorem Kj.kd (M:Kj az J W ax ai w nh aR){k:Kd}{u:U}{v:Value}(h:Bk (Bt az W ax w) w k u v):Bk (Bt J W ai w) w k u v:=
 Bk.mono (fun b off aa=>⟨M.safe b off aa,rfl⟩) k u v h
mutual
theorem BQ.move (M:Kj az J W ax ai w nh aR)(q:nh<=aD):∀(c:AC) (v:Value),AC.lt nh aR c=true->BQ az av W ax w c v->BQ J aD W ai w c v
 | .any,_,_,_=>trivial
 | .anyc,_,_,h=>h
 | .on c a,v,hl,h=>by
  simp only[AC.lt,AB] at hl;have hc:=CU hl.1;refine⟨AH hc q,fun D=>BQ.move M q a v hl.2 (h.2 ?_)⟩;rw[M.eq c hc] at D;exact D
 | .gd c a,v,hl,h=>by
  simp only[AC.lt,AB] at hl;have hc:=CU hl.1;refine⟨AH hc q,fun D=>BQ.move M q a v hl.2 (h.2.1 ?_),fun D=>h.2.2 ?_⟩
  .rw[M.eq c hc] at D;exact D
  .rw[M.eq c hc] at D;exact D
 | .cb _,_,_,h=>h
 | .b x,v,hl,h=>by
  have p:=CU hl;obtain⟨_,b,O,C⟩:=h;exact⟨AH p q,b,by rw[M.eq x p];exact O,C⟩
 | .nb x,v,hl,h=>by
  have p:=CU hl;obtain⟨_,b,O,C⟩:=h;exact⟨AH p q,b,by rw[M.eq x p];exact O,C⟩
 | .ci _ _,_,_,h=>h
 | .i k ar ab x,v,hl,h=>by
  have p:=CU hl;obtain⟨_,b,O,C⟩:=h;exact⟨AH p q,b,by rw[M.eq x p];exact O,C⟩
 | .cv _,_,_,h=>h
 | .v x,v,hl,h=>by
  have p:=CU hl;exact⟨AH p q,by rw[M.eq x p];exact h.2.1,h.2.2⟩
 | .s x,v,hl,h=>by
  have p:=CU hl;obtain⟨_,b,O,C⟩:=h;exact⟨AH p q,b,by rw[M.eq x p];exact O,C⟩
 | .ptr id off,v,hl,h=>by
  obtain⟨b,O,C,u⟩:=h;exact⟨b,O,C,M.ptr id (CU hl) u⟩
 | .pix id base B aO x aG,v,hl,h=>by
  simp only[AC.lt,AB] at hl;have p:=CU hl.2;obtain⟨_,b,j,O,C,u,H,h5,h6⟩:=h;exact⟨AH p q,b,j,O,by rw[M.eq x p];exact C,u,H,h5,M.ptr id (CU hl.1) h6⟩
 | .ro x ks,v,hl,h=>by
  have p:=CU hl;exact⟨AH p q,by rw[M.eq x p];exact M.kd h.2⟩
 | .rp x t off ks,v,hl,h=>by
  simp only[AC.lt,AB] at hl;have p:=CU hl.1;have D:=CU hl.2;obtain⟨_,j,b,o,us,O,C,u,H,h5⟩:=h;refine⟨⟨AH p q,AH D q⟩,j,b,o,us,by rw[M.eq t D];exact O,C,by rw[M.eq x p];exact u,H,?_⟩;exact Bw.mono (fun b off aa=>⟨M.safe b off aa,rfl⟩) _ _ _ _ h5
 | .vec id x ks,v,hl,h=>by
  simp only[AC.lt,AB] at hl;have p:=CU hl.2;obtain⟨_,C,u,H⟩:=h;obtain⟨k1,E⟩:=M.vec id (CU hl.1) C;refine⟨AH p q,k1,by rw[M.eq x p];exact M.kd u,fun X e he=>?_⟩;obtain⟨a1,q1,q2⟩:=E x X e he p;rcases H a1 e q1 with⟨af,aj⟩|⟨b,I,Y,af,aj,l3,l4⟩
  .exact .inl ⟨af,by rw[M.eq x p];exact aj⟩
  .exact .inr ⟨b,I,Y,af,by rw[M.eq x p];exact aj,l3,by rw[<-q2];exact l4⟩
 | .fn f first I,v,hl,h=>by
  simp only[AC.lt,AB] at hl;obtain⟨Y,us,O,C,u⟩:=h;exact⟨Y,us,O,BR.move M q first Y hl.1 C,BR.move M q I us hl.2 u⟩
 | .sel x alts,v,hl,h=>by
  simp only[AC.lt,AB] at hl;have p:=CU hl.1;obtain⟨_,j,O,C,u⟩:=h;exact⟨AH p q,j,by rw[M.eq x p];exact O,C,CG.move M q alts j.toNat v hl.2 u⟩
 | .yl id,v,hl,h=>by
  obtain⟨b,O,C,u⟩:=h;exact⟨b,O,C,M.ptr id (CU hl) u⟩
 | .asl id off len,v,hl,h=>by
  obtain⟨b,O,C,u⟩:=h;exact⟨b,O,C,M.ptr id (CU hl) u⟩
 | .rsv id x ks,v,hl,h=>by
  simp only[AC.lt,AB] at hl;have p:=CU hl.2;obtain⟨_,C,h5,u,H⟩:=h;obtain⟨k1,E⟩:=M.vec id (CU hl.1) C;refine⟨AH p q,k1,by rw[M.eq x p];exact h5,u,fun X e he=>?_⟩;obtain⟨a1,q1,q2⟩:=E x X e he p;rcases H a1 e q1 with⟨af,aj⟩|⟨b,len,I,Y,af,aj,l0,l3,l4⟩
  .exact .inl ⟨af,aj⟩
  .exact .inr ⟨b,len,I,Y,af,aj,l0,l3,by rw[<-q2];exact l4⟩
 | .mr id y,v,hl,h=>by
  simp only[AC.lt,AB] at hl;have hy:=CU hl.2;obtain⟨⟨_,C⟩,j,a,I,k1,E,k3,k4,k5⟩:=h;obtain⟨q1,q2⟩:=M.row id (CU hl.1) C;refine⟨⟨AH hy q,q1⟩,j,a,I,by rw[M.eq y hy];exact k1,E,k3,k4,fun x ks e he=>?_⟩;obtain⟨x1,a1,q3,q4⟩:=q2 x y ks e he;rcases k5 x1 a1 e q3 with l|⟨b,Y,af,aj,l3,l4⟩
  .exact .inl l
  .exact .inr ⟨b,Y,af,aj,l3,by rw[<-q4];exact l4⟩
 | .mp id y t sz off,v,hl,h=>by
  simp only[AC.lt,AB] at hl;have hy:=CU hl.1.2;have D:=CU hl.2;obtain⟨⟨_,_,C⟩,j,L,b,k1,E,k3,k4,k5⟩:=h;obtain⟨q1,q2⟩:=M.row id (CU hl.1.1) C;refine⟨⟨AH hy q,AH D q,q1⟩,j,L,b,by rw[M.eq t D];exact k1,by rw[M.eq y hy];exact E,k3,k4,fun x ks e he=>?_⟩;obtain⟨x1,a1,q3,q4⟩:=q2 x y ks e he;exact k5 x1 a1 e q3
 | .mv id,v,hl,h=>by
  obtain⟨b,O,C,u⟩:=h;exact⟨b,O,C,M.ptr id (CU hl) u⟩
 | .agg l,v,hl,h=>by
  obtain⟨Y,O,C⟩:=h;exact⟨Y,O,BR.move M q l Y (by simpa [AC.lt] using hl) C⟩
 | .tup l,v,hl,h=>by
  obtain⟨Y,O,C⟩:=h;exact⟨Y,O,BR.move M q l Y (by simpa [AC.lt] using hl) C⟩
theorem BR.move (M:Kj az J W ax ai w nh aR)(p:nh<=aD):∀(l:List AC) (Y:List Value),AC.ltL nh aR l=true->BR az av W ax w l Y->BR J aD W ai w l Y
 |[],_,_,h=>h
 |c::l,Y,hl,h=>by
  simp only[AC.ltL,AB] at hl;obtain⟨u,us,O,C,q⟩:=h;exact⟨u,us,O,BQ.move M p c u hl.1 C,BR.move M p l us hl.2 q⟩
theorem CG.move (M:Kj az J W ax ai w nh aR)(p:nh<=aD):∀(l:List AC) (j:Nat) (v:Value),AC.ltL nh aR l=true->CG az av W ax w l j v->CG J aD W ai w l j v
 |[],_,_,_,h=>h.elim
 |c::_,0,v,hl,h=>by
  simp only[AC.ltL,AB] at hl;exact BQ.move M p c v hl.1 h
 |_::l,j+1,v,hl,h=>by
  simp only[AC.ltL,AB] at hl;exact CG.move M p l j v hl.2 h
end
structure Do (T1 T2:Tab) (n:Nat):Prop where
 eq:∀x,x < n->T2 x=T1 x
 fr:T2.fr=T1.fr
 lp:T2.lp=T1.lp
theorem Do.safe {n:Nat}(S:Do az J n)(q:BX az n W ax w){b off:Nat}(h:Bt az W ax w b off):Bt J W ax w b off:=by
 refine⟨h.1,by rw[S.fr];exact h.2.1,fun id=>?_⟩;have:=h.2.2 id;cases p:ax.at id with
 |pad=>trivial
 |gone=>trivial
 |cells l e=>rw[p] at this;exact this
 |lp s D=>rw[p] at this;exact this
 |mrow x y ks e=>rw[p] at this;exact this
 |mapb x al C aM aT=>rw[p] at this;exact this
 |tok x ks e=>
  rw[p] at this;intro u;have:=this u;unfold DN at this⊢;rw[S.eq x (q.tok_lt p)];exact this
section
variable {n:Nat}(S:∀x,x < n->J x=az x)(aa:∀b off,Bt az W ax w b off->Bt J W ax w b off)
mutual
theorem BQ.tab (S:∀x,x < n->J x=az x)(aa:∀b off,Bt az W ax w b off->Bt J W ax w b off):∀(c:AC) (v:Value),BQ az n W ax w c v->BQ J n W ax w c v
 | .any,_,_=>trivial
 | .anyc,_,h=>h
 | .on c a,v,h=>⟨h.1,fun p=>BQ.tab S aa a v (h.2 (by rw[S c h.1] at p;exact p))⟩
 | .gd c a,v,h=>⟨h.1,fun p=>BQ.tab S aa a v (h.2.1 (by rw[S c h.1] at p;exact p)),fun p=>h.2.2 (by rw[S c h.1] at p;exact p)⟩
 | .cb _,_,h=>h
 | .b x,v,⟨h0,b,O,C⟩=>⟨h0,b,by rw[S x h0];exact O,C⟩
 | .nb x,v,⟨h0,b,O,C⟩=>⟨h0,b,by rw[S x h0];exact O,C⟩
 | .ci _ _,_,h=>h
 | .i k ar ab x,v,⟨h0,b,O,C⟩=>⟨h0,b,by rw[S x h0];exact O,C⟩
 | .cv _,_,h=>h
 | .v x,v,⟨h0,O,C⟩=>⟨h0,by rw[S x h0];exact O,C⟩
 | .s x,v,⟨h0,b,O,C⟩=>⟨h0,b,by rw[S x h0];exact O,C⟩
 | .ptr _ _,_,h=>h
 | .pix id base B aO x aG,v,⟨h0,b,j,O,C,h3⟩=>⟨h0,b,j,O,by rw[S x h0];exact C,h3⟩
 | .ro x ks,v,⟨h0,O⟩=>⟨h0,by rw[S x h0];exact Bk.mono (fun b off h=>⟨aa b off h,rfl⟩) _ _ _ O⟩
 | .rp x t off ks,v,⟨h0,j,b,o,us,O,C,h3,h4,h5⟩=>⟨h0,j,b,o,us,by rw[S t h0.2];exact O,C,by rw[S x h0.1];exact h3,h4,Bw.mono (fun b off h=>⟨aa b off h,rfl⟩) _ _ _ _ h5⟩
 | .vec id x ks,v,⟨h0,O,C,h3⟩=>⟨h0,O,by rw[S x h0];exact Bk.mono (fun b off h=>⟨aa b off h,rfl⟩) _ _ _ C,fun X e q=>by
   have:=h3 X e q;unfold XC at this⊢;rw[S x h0];exact this⟩
 | .fn f first I,v,⟨Y,us,O,C,h3⟩=>⟨Y,us,O,BR.tab S aa first Y C,BR.tab S aa I us h3⟩
 | .sel x alts,v,⟨h0,j,O,C,h3⟩=>⟨h0,j,by rw[S x h0];exact O,C,CG.tab S aa alts j.toNat v h3⟩
 | .yl _,_,h=>h
 | .asl _ _ _,_,h=>h
 | .rsv id x ks,v,⟨h0,O,C,h3,h4⟩=>⟨h0,O,by rw[S x h0];exact C,h3,h4⟩
 | .mr id y,v,⟨⟨h0,O⟩,j,a,I,k1,E⟩=>⟨⟨h0,O⟩,j,a,I,by rw[S y h0];exact k1,E⟩
 | .mp id y t sz off,v,⟨⟨h0,h0',O⟩,j,L,b,k1,E,k3⟩=>⟨⟨h0,h0',O⟩,j,L,b,by rw[S t h0'];exact k1,by rw[S y h0];exact E,k3⟩
 | .mv _,_,h=>h
 | .agg l,v,⟨Y,O,C⟩=>⟨Y,O,BR.tab S aa l Y C⟩
 | .tup l,v,⟨Y,O,C⟩=>⟨Y,O,BR.tab S aa l Y C⟩
theorem BR.tab (S:∀x,x < n->J x=az x)(aa:∀b off,Bt az W ax w b off->Bt J W ax w b off):∀(l:List AC) (Y:List Value),BR az n W ax w l Y->BR J n W ax w l Y
 |[],_,h=>h
 |c::l,Y,⟨u,us,O,C,h3⟩=>⟨u,us,O,BQ.tab S aa c u C,BR.tab S aa l us h3⟩
theorem CG.tab (S:∀x,x < n->J x=az x)(aa:∀b off,Bt az W ax w b off->Bt J W ax w b off):∀(l:List AC) (j:Nat) (v:Value),CG az n W ax w l j v->CG J n W ax w l j v
 |[],_,_,h=>h.elim
 |c::_,0,v,h=>BQ.tab S aa c v h
 |_::l,j+1,v,h=>CG.tab S aa l j v h
end
end
theorem BX.tab {n:Nat}(S:Do az J n)(E:BX az n W ax w):BX J n W ax w:=by
 have aa:∀b off,Bt az W ax w b off->Bt J W ax w b off:=fun b off h=>S.safe E h;refine⟨fun id=>?_,E.inj,fun b off h=>by rw[S.fr];exact E.fr b off h⟩;have:=E.blk id;cases D:ax.at id with
 |pad=>trivial
 |gone=>trivial
 |cells l e=>
  rw[D] at this;obtain⟨b,Y,O,C,u⟩:=this;exact⟨b,Y,O,C,BR.tab S.eq aa l Y u⟩
 |tok x ks e=>
  rw[D] at this;obtain⟨p,l,O,C⟩:=this;refine⟨p,l,by rw[S.eq x p];exact O,?_⟩;rw[S.fr];exact C
 |mrow x y ks e=>
  rw[D] at this;obtain⟨p,l,O,a2,a4,C⟩:=this;refine⟨p,l,by rw[S.eq x p.1];exact O,by rw[S.eq y p.2];exact a2,a4,?_⟩;rw[S.fr];rcases C with C|⟨b,Y,us,q1,q2,q3,q4⟩
  .exact .inl C
  .exact .inr ⟨b,Y,us,q1,q2,Bu.mono (fun b off h=>⟨aa b off h,rfl⟩) q3,q4⟩
 |mapb x al ka aM aT=>
  rw[D] at this;obtain⟨p,l,b,ay,a3,O,C,u,H,M,X,h7⟩:=this;refine⟨p,l,b,ay,a3,by rw[S.eq x p];exact O,C,u,H,M,fun i us e hl he=>?_,h7⟩;obtain⟨u1,u2,q1,q2,q3⟩:=X i us e hl he;exact⟨u1,u2,q1,DL.mono (fun b off h=>⟨aa b off h,rfl⟩) q2,DL.mono (fun b off h=>⟨aa b off h,rfl⟩) q3⟩
 |lp s st=>
  rw[D] at this;obtain⟨b,q,O,C,u,H,M,X,h7,j,h8,h9⟩:=this;refine⟨b,q,O,C,?_⟩;rw[S.lp];exact⟨u,H,M,X,fun i c hc=>BQ.tab S.eq aa c _ (h7 i c hc),j,BQ.tab S.eq aa st _ h8,h9⟩
theorem Do.symm {n:Nat}(S:Do az J n):Do J az n:=⟨fun x l=>(S.eq x l).symm,S.fr.symm,S.lp.symm⟩
theorem BY.tab {n:Nat}{ad:Nat->Option Nat}{ag:Mem}{ac:World}(S:Do az J n)(hm:BX az n W ax w)(aa:BY az n W ax w ad ag ac)(aw:∀id L X e',ag.at id= .tok L X e'->J L=az L):BY J n W ax w ad ag ac:=
 {aa with
  tok:=fun id x ks e q=>by
   have u:=hm.tok_lt q;rcases aa.tok id x ks e q with h|⟨O,C⟩
   .exact .inl h
   .refine .inr ⟨fun b M off l=>O b M off (by unfold DN at l⊢;rw[S.eq x u] at l;exact l),?_⟩;rcases C with C|⟨L,X,e',C,D,H⟩
    .exact .inl C
    .refine .inr ⟨L,X,e',C,D,fun y Y=>?_⟩;rcases H y Y with⟨p,E⟩|p
     .refine .inl ⟨p,?_⟩;unfold DN at E⊢;rw[S.eq x u,aw id L X e' C];exact E
     .exact .inr p }
end
theorem U.same_eq {u v:U}(h:U.same u v=true):u=v:=by
 unfold U.same at h;grind
theorem Rf.same_eq {r s:Rf}(h:Rf.same r s=true):r=s:=by
 cases r<;>cases s<;>simp only[Rf.same] at h<;>first|(cases h;done)|(rw[U.same_eq h])|(rw[yI h])
theorem Hn {a b:Option (List Pr)}{ps:List Pr}(h:QO a b=some ps):∃x y,a=some x/\b=some y/\ps=x++y:=by
 cases a<;>cases b<;>simp only[QO] at h<;>first|(cases h;done)|(cases h;exact⟨_,_,rfl,rfl,rfl⟩)
inductive LN (T1 T2:Tab) (nh:Nat):Blk->Blk->Prop where
 |pad (b:Blk):LN T1 T2 nh .pad b
 |gone {b:Blk} (h:b≠ .pad):LN T1 T2 nh .gone b
 |cells (l l':List AC) (e:TypeId):LN T1 T2 nh (.cells l e) (.cells l' e)
 |same (x:Nat) (ks:List Kd) (e:TypeId) (h:x < nh):LN T1 T2 nh (.tok x ks e) (.tok x ks e)
 |tok {x x':Nat} {ks ks':List Kd} {e:TypeId} (h1:nh<=x) (h2:T2 x=T1 x') (h3:ks.length=ks'.length):LN T1 T2 nh (.tok x ks e) (.tok x' ks' e)
 |lp (s:Nat) (st st':AC):LN T1 T2 nh (.lp s st) (.lp s st')
 |mrow {x x' y:Nat} {ks ks':List Kd} {e:TypeId} (h1:y < nh) (h3:ks.length=ks'.length):LN T1 T2 nh (.mrow x y ks e) (.mrow x' y ks' e)
 |mapb {x x':Nat} {kk kk' vk vk':List Kd} {ka va:Bool}:LN T1 T2 nh (.mapb x kk ka vk va) (.mapb x' kk' ka vk' va)
section
variable {az J:Tab}{W :Nat->Option Nat}{w:World}{nh aR av aD:Nat}{ah:List Rf}{aQ m:Mem}
variable{x:Nat}{r:Rf}{lps:List (Nat × DP)}{bc aP:Mem}{ps:List Pr}
theorem UI (h:L5 nh ah x r=true):nh<=x/\ah[x - nh]? =some r:=by
 unfold L5 at h;rw[AB] at h;refine⟨Aa h.1,?_⟩;have C:=h.2;split at C
 .rename_i p l;rw[l,Rf.same_eq C]
 .cases C
def Gc (az J:Tab)(nh aD:Nat)(ah:List Rf):Prop:=∀j r,ah[j]? =some r->nh+j < aD/\J (nh+j)=r.eval az
theorem Gc.at (H:Gc az J nh aD ah)(h:L5 nh ah x r=true):x < aD/\J x=r.eval az:=by
 obtain⟨O,C⟩:=UI h;have:=H _ _ C;grind
theorem SZ {aR:Nat}{b u:Blk}(h:FG lps nh aR ah bc aP b u=some ps)(H:Gc az J nh aD ah):LN az J nh b u/\(b= .pad->u= .pad):=by
 cases b with
 |pad=>cases u<;>simp only[FG] at h<;>first|(cases h;done)|exact⟨.pad _,fun _=>rfl⟩
 |gone=>cases u<;>simp only[FG] at h<;>first|(cases h;done)|exact⟨.gone (fun h=>by cases h),fun h=>by cases h⟩
 |cells l e=>
  cases u<;>simp only[FG] at h<;>try (cases h;done)
  split at h
  .rename_i he;rw[yI he];exact⟨.cells _ _ _,fun h=>by cases h⟩
  .cases h
 |tok x ks e=>
  cases u<;>simp only[FG] at h<;>try (cases h;done)
  rename_i L X e';split at h
  .rename_i p;simp only[AB,Ah] at p;obtain⟨⟨O,C⟩,D⟩:=p;have M:=yI O;have Y:=yI C;subst M;refine⟨?_,fun h=>by cases h⟩;rcases D with⟨⟨D,E⟩,h5⟩|D
   .rw[<-yI E,<-Kd.beqs_eq _ _ h5];exact .same _ _ _ (CU D)
   .obtain⟨_,q⟩:=H.at D;exact .tok (UI D).1 (by rw[q];rfl) Y
  .cases h
 |lp s st=>
  cases u<;>simp only[FG] at h<;>try (cases h;done)
  split at h
  .rename_i p;simp only[AB] at p;rw[yI p.1];exact⟨.lp _ _ _,fun h=>by cases h⟩
  .cases h
 |mrow x y ks e=>
  cases u<;>simp only[FG] at h<;>try (cases h;done)
  split at h
  .rename_i p;simp only[AB,Ah] at p;obtain⟨⟨⟨O,C⟩,D⟩,E⟩:=p;rw[yI O,<-yI C];refine⟨.mrow (CU D) ?_,fun h=>by cases h⟩;rcases E with⟨_,E⟩|⟨_,E⟩
   .rw[Kd.beqs_eq _ _ E]
   .exact yI E
  .cases h
 |mapb x al ka aM aT=>
  cases u<;>simp only[FG] at h<;>try (cases h;done)
  split at h
  .rename_i p;simp only[AB,beq_iff_eq] at p;rw[p.1.1,p.1.2];exact⟨.mapb,fun h=>by cases h⟩
  .cases h
theorem Sm {lps:List (Nat × DP)}{aR:Nat}{bc aP:Mem}:∀{l ak:Mem} {ps:List Pr},Il lps nh aR ah bc aP l ak=some ps->l.length<=ak.length/\∀id,id < l.length->∃p,FG lps nh aR ah bc aP (l.at id) (ak.at id)=some p/\∀q∈p,q∈ps
 |[],_,ps,h=>⟨Ak _,fun id u=>by simp at u⟩
 |_::_,[],ps,h=>by simp[Il] at h
 |b::l,b'::ak,ps,h=>by
  simp only[Il] at h;obtain⟨x,y,O,C,rfl⟩:=Hn h;obtain⟨X,E⟩:=Sm C;refine⟨by simp;omega,fun id u=>?_⟩;cases id with
  |zero=>exact⟨x,by simpa [Mem.at] using O,fun q D=>AU _ D⟩
  |succ id=>
   obtain⟨p,H,M⟩:=E id (by simpa using u);exact⟨p,by simpa [Mem.at] using H,fun q D=>AO _ (M q D)⟩
def Fc (az J:Tab)(nh:Nat)(aQ m:Mem):Prop:=∀id,LN az J nh (aQ.at id) (m.at id)
theorem RV {aR:Nat}(h:Il lps nh aR ah bc aP aQ m=some ps)(H:Gc az J nh aD ah):Fc az J nh aQ m/\∀id,id < aQ.length->aQ.at id= .pad->m.at id= .pad:=by
 obtain⟨O,C⟩:=Sm h;refine⟨fun id=>?_,fun id l q=>?_⟩
 .rcases AQ id aQ.length with l|l
  .obtain⟨u,p,_⟩:=C id l;exact (SZ p H).1
  .rw[Mem.at_ge l];exact .pad _
 .obtain⟨u,p,_⟩:=C id l;exact (SZ (az:=az) (J:=J) p H).2 q
theorem Fc.tracked (S:Fc az J nh aQ m){id:Nat}(h:(aQ.at id).tracked=true):(m.at id).tracked=true:=by
 have:=S id;generalize aQ.at id=a at this h;generalize m.at id=b at this;cases this<;>first|rfl|(cases h;done)
theorem Fc.safe (S:Fc az J nh aQ m)(u:∀x,x < nh->J x=az x)(y:J.fr=az.fr){b off:Nat}(h:Bt az W m w b off):Bt J W aQ w b off:=by
 refine⟨h.1,by rw[y];exact h.2.1,fun id=>?_⟩;have C:=h.2.2 id;have:=S id;generalize aQ.at id=a at this⊢;generalize m.at id=b at this C;cases this with
 |pad=>trivial
 |gone=>trivial
 |cells=>exact C
 |lp=>exact C
 |mrow=>exact C
 |mapb=>exact C
 |same x ks e D=>
  intro l;have:=C l;unfold DN at this⊢;rw[u x D];exact this
 |tok O p q=>
  intro l;have:=C l;unfold DN at this⊢;rw[p,q];exact this
theorem Fc.move (S:Fc az J nh aQ m)(p:∀id,id < aQ.length->aQ.at id= .pad->m.at id= .pad)(u:∀x,x < nh->J x=az x)(E:J.fr=az.fr):Kj az J W m aQ w nh aQ.length where
 eq:=u
 safe:=fun b off h=>S.safe u E h
 ptr:=fun id l h=>by
  have C:aQ.at id≠ .pad:=fun e=>by rw[p id l e] at h;cases h
  have:=S id;generalize aQ.at id=a at this C⊢;generalize m.at id=b at this h;cases this<;>first|rfl|(exact absurd rfl C)|(cases h;done)
 vec:=fun id l h=>by
  refine⟨fun e=>h (p id l e),fun x ks e q H=>?_⟩;have:=S id;rw[q] at this;generalize m.at id=b at this;cases this with
  |same=>exact⟨_,rfl,rfl⟩
  |tok O=>omega
 row:=fun id l h=>by
  refine⟨fun e=>h (p id l e),fun x y ks e q=>?_⟩;have:=S id;rw[q] at this;generalize m.at id=b at this;cases this with
  |mrow O D=>exact⟨_,_,rfl,D.symm⟩
theorem N6 {h c:AC}(l:NV nh aQ.length ah aQ m h c=some ps)(M:Kj az J W m aQ w nh aQ.length)(hn:nh<=aD)(H:Gc az J nh aD ah)(S:Fc az J nh aQ m)(b7:∀p∈ps,p.holds az){v:Value}
  (O:BQ az av W m w c v):BQ J aD W aQ w h v:=by
 unfold NV at l;split at l
 .rename_i q;rw[AB] at q;have e:=AC.beq_eq _ _ q.2;subst e;exact BQ.move M hn h v q.1 O
 .have put:∀{k:Kd} {x:Nat},K0 nh ah x (fit k c)=some ps->x < aD/\Bk (Bt J W aQ w) w k (J x) v:=by
   intro k x u;unfold K0 at u;split at u
   .rename_i r qs hf;split at u
    .rename_i hh;cases u;obtain⟨k1,E⟩:=H.at hh;exact⟨k1,by rw[E];exact M.kd (aU hf O b7)⟩
    .cases u
   .cases u
  unfold pF at l;cases h with
  |any=>trivial
  |i k ar ab x=>exact put l
  |b x=>exact put l
  |v x=>exact put l
  |s x=>exact put l
  |ro x ks=>exact put l
  |vec id x ks=>
   cases c with
   |vec ce L X=>
    simp only at l;split at l
    .rename_i q;simp only[AB] at q;obtain⟨⟨⟨⟨aS,c2⟩,c3⟩,c4⟩,D⟩:=q;have e1:=yI aS;subst e1;obtain⟨k1,E⟩:=H.at c3;have a1:J x=az L:=by rw[E];rfl
     obtain⟨_,C,h3,h4⟩:=O;unfold qT at D;split at D
     .rename_i y ky e aF b8 e' a3 b5;simp only[AB] at D;obtain⟨⟨⟨d1,d2⟩,d3⟩,d4⟩:=D;have f1:=yI d1;have f2:=yI d2;have f3:=yI d3;have f4:=yI d4;subst f1;subst f2;subst f3;refine⟨k1,by rw[a3];exact (fun h=>by cases h),?_,fun cf cc he=>?_⟩
      .rw[a1];have:=Kd.join_l (.list X) (.list ks) _ v (M.kd h3);rw[Kd.beq_eq _ _ c4] at this;exact this
      .rw[a3] at he;injection he with _ g1 aw
       subst g1;subst aw;rcases h4 b8 e b5 with⟨af,aj⟩|⟨b,I,Y,af,aj,l3,l4⟩
       .exact .inl ⟨af,by rw[a1];exact aj⟩
       .exact .inr ⟨b,I,Y,af,by rw[a1];exact aj,l3,by rw[f4];exact l4⟩
     .cases D
    .cases l
   |_=>cases l
  |_=>cases l
theorem Sb (M:Kj az J W m aQ w nh aQ.length)(D:nh<=aD)(H:Gc az J nh aD ah)(S:Fc az J nh aQ m):∀{l ak:List AC} {ps:List Pr},N2 nh aQ.length ah aQ m l ak=some ps->(∀p∈ps,p.holds az)->
  ∀Y,BR az av W m w ak Y->BR J aD W aQ w l Y
 |[],[],ps,_,_,Y,h=>h
 |[],_::_,ps,h,_,_,_=>by simp[N2] at h
 |_::_,[],ps,h,_,_,_=>by simp[N2] at h
 |a::l,c::ak,ps,h,hps,Y,⟨u,us,O,C,h3⟩=>by
  simp only[N2] at h;obtain⟨x,y,X,E,rfl⟩:=Hn h;exact⟨u,us,O,N6 X M D H S (fun p q=>hps p (AU _ q)) C,Sb M D H S E (fun p q=>hps p (AO _ q)) us h3⟩
theorem O4:∀{t a2:Tr} {ps:List Pr},NF nh aR ah aQ m t a2=some ps->∀(i:Nat) (h:AC),t.get i=some h->h= .any\/∃c p,a2.get i=some c/\NV nh aR ah aQ m h c=some p/\∀q∈p,q∈ps
 | .nil,a2,ps,_,i,h,ab=>by simp[Tr.get] at ab
 | .node v l r,a2,ps,hm,i,h,ab=>by
  simp only[NF] at hm;obtain⟨x,y,O,C,rfl⟩:=Hn hm;obtain⟨y1,y2,h3,h4,rfl⟩:=Hn C;rw[Tr.get_step] at ab;rw[Tr.get_step a2];by_cases X:i=0
  .rw[BH X] at ab⊢;simp only[Tr.val] at ab;subst ab;unfold qX at O;split at O
   .rename_i u;cases u
   .rename_i u;cases u;exact .inl rfl
   .rename_i h' c _ u hc;cases u;exact .inr ⟨c,x,hc,O,fun q D=>AU _ D⟩
   .cases O
  .rw[BG X] at ab⊢;by_cases Y:i % 2=1
   .rw[BH Y] at ab⊢;rcases O4 h3 (i / 2) h ab with k|⟨c,p,H,E,M⟩
    .exact .inl k
    .exact .inr ⟨c,p,H,E,fun q D=>AO _ (AU _ (M q D))⟩
   .rw[BG Y] at ab⊢;rcases O4 h4 (i / 2 - 1) h ab with k|⟨c,p,H,E,M⟩
    .exact .inl k
    .exact .inr ⟨c,p,H,E,fun q D=>AO _ (AO _ (M q D))⟩
theorem UX:∀{t:Tr},bq nh aR t=true->∀(i:Nat) (c:AC),t.get i=some c->AC.lt nh aR c=true
 | .nil,_,i,c,ab=>by simp[Tr.get] at ab
 | .node v l r,h,i,c,ab=>by
  simp only[bq,AB] at h;rw[Tr.get_step] at ab;by_cases p:i=0
  .rw[BH p] at ab;simp only[Tr.val] at ab;subst ab;exact h.1.1
  .rw[BG p] at ab;by_cases q:i % 2=1
   .rw[BH q] at ab;exact UX h.1.2 _ _ ab
   .rw[BG q] at ab;exact UX h.2 _ _ ab
theorem V8:∀{lps:List (Nat × DP)} {s:Nat} {S:DP},Hg lps s=some S->(s,S)∈lps
 |[],_,_,h=>by simp[Hg] at h
 |(aq,S')::r,s,S,h=>by
  simp only[Hg] at h;split at h
  .rename_i l;cases h;rw[yI l];exact AN ..
  .exact AK _ (V8 h)
theorem IZ {hl l:Loc}(h:Fk lps nh ah hl l=some ps)(d8:∀p∈lps,az.lp p.1=p.2)(ce:J.fr=az.fr)(d7:J.lp=az.lp)(d4:J.base=az.base)
  (b4:∀x,x < nh->J x=az x) (hn:nh<=aD) (H:Gc az J nh aD ah) (c3:∀p∈ps,p.holds az) {a:Act} (hR:Rel az av W l a w):
  Rel J aD W hl a w/\Fc az J nh hl.mem l.mem/\∀id,id < hl.mem.length->hl.mem.at id= .pad->l.mem.at id= .pad:=by
 unfold Fk at h;split at h
 .rename_i hc;simp only[AB] at hc;obtain⟨⟨aS,c9⟩,db⟩:=hc;obtain⟨p1,p2,O,C,rfl⟩:=Hn h;obtain⟨S,c2⟩:=RV (az:=az) (J:=J) O H;have M:Kj az J W l.mem hl.mem w nh hl.mem.length:=S.move c2 b4 ce;obtain⟨e5,dv⟩:=Sm O;have d9:∀p∈p1,p.holds az:=fun p hp=>c3 p (AU _ hp);have ee:∀p∈p2,p.holds az:=fun p hp=>c3 p (AO _ hp);refine⟨⟨?_,?_,fun i c ab=>?_,⟨fun id=>?_,fun id el b t1 t2=>hR.mem.inj id el b (S.tracked t1) (S.tracked t2),fun b off hb=>by rw[ce];exact hR.mem.fr b off hb⟩⟩,S,c2⟩
  .obtain⟨d0,Ds,d1,d2,d3⟩:=hR.defers;rw[d4];refine⟨d0,Ds,d1,d2,fun D hD=>?_⟩;obtain⟨e1,e2,e3⟩:=d3 D hD;exact⟨e1,e2,fun id ht=>e3 id (S.tracked ht)⟩
  .rw[hR.size];exact (yI db).symm
  .have g1:hl.tmps.t.get i=some c:=by
    have:hl.tmps.loc=[]:=List.isEmpty_iff.1 aS;simpa [Bn.get,this,CY] using ab
   rcases O4 C i c g1 with rfl|⟨c',qs,k1,E,k3⟩
   .trivial
   .have aw:l.tmps.get i=some c':=by
     have:l.tmps.loc=[]:=List.isEmpty_iff.1 c9;simpa [Bn.get,this,CY] using k1
    exact N6 E M hn H S (fun p hp=>ee p (k3 p hp)) (hR.tmps i c' aw)
  .rcases AQ id hl.mem.length with ch|ch
   .obtain⟨qs,u,q2⟩:=dv id ch;have hb:=hR.mem.blk id;have hq:∀p∈qs,p.holds az:=fun p hp=>d9 p (q2 p hp);generalize hl.mem.at id=b at u⊢;generalize l.mem.at id=b' at u hb;cases b with
    |pad=>trivial
    |gone=>trivial
    |cells x e=>
     cases b'<;>simp only[FG] at u<;>try (cases u;done)
     split at u
     .rename_i he;obtain⟨bb,Y,y1,y2,y3⟩:=hb;rw[yI he];exact⟨bb,Y,y1,y2,Sb M hn H S u hq Y y3⟩
     .cases u
    |tok x ks e=>
     cases b'<;>simp only[FG] at u<;>try (cases u;done)
     rename_i L X e';split at u
     .rename_i hc;simp only[AB,Ah] at hc;obtain⟨⟨i1,i2⟩,i3⟩:=hc;have e1:=yI i1;have e2:=yI i2;subst e1;obtain⟨y0,ll,y1,y2⟩:=hb;have b2:x < aD/\J x=az L:=by
       rcases i3 with⟨⟨i3,i4⟩,_⟩|i3
       .rw[<-yI i4];exact⟨AH (CU i3) hn,b4 x (CU i3)⟩
       .obtain⟨z1,z2⟩:=H.at i3;exact⟨z1,by rw[z2];rfl⟩
      refine⟨b2.1,ll,by rw[b2.2];exact y1,?_⟩;rw[ce,e2];exact y2
     .cases u
    |mrow x y ks e=>
     cases b'<;>simp only[FG] at u<;>try (cases u;done)
     rename_i L aF X e';split at u
     .rename_i hc;simp only[AB,Ah] at hc;obtain⟨⟨⟨i1,i2⟩,i3⟩,i4⟩:=hc;have e1:=yI i1;have e2:=yI i2;subst e1;subst e2;have hy:=CU i3;obtain⟨y0,ll,y1,ey,⟨y5,y6⟩,y2⟩:=hb;have b2:x < aD/\J x=az L/\ks.length=X.length/\∀ok us Y,Bg ok w X us Y->Bg ok w ks us Y:=by
       rcases i4 with⟨⟨i3,i4⟩,i5⟩|⟨⟨i3,i4⟩,i5⟩
       .rw[<-yI i4,<-Kd.beqs_eq _ _ i5];exact⟨AH (CU i3) hn,b4 x (CU i3),rfl,fun _ _ _ h=>h⟩
       .obtain⟨z1,z2⟩:=H.at i3;have hl:=yI i5;refine⟨z1,by rw[z2];rfl,hl,fun ok us Y h=>?_⟩;have:=h.join_l hl.symm;rw[Kd.beqs_eq _ _ i4] at this;exact this
      obtain⟨k1,E,k3,k4⟩:=b2;refine⟨⟨k1,AH hy hn⟩,ll,by rw[E];exact y1,by rw[b4 y hy];exact ey,⟨y5,fun h=>y6 (A6.1 (by rw[<-k3,h];rfl))⟩,?_⟩;rw[ce];rcases y2 with y2|⟨bb,Y,us,z1,z2,⟨R,z3,z4⟩,z5⟩
      .exact .inl y2
      .exact .inr ⟨bb,Y,us,z1,z2,⟨R,z3,CQ.conv (k4 _) (CQ.mono (fun b off h=>⟨M.safe b off h,rfl⟩) z4)⟩,z5⟩
     .cases u
    |mapb x al ka aM aT=>
     cases b'<;>simp only[FG] at u<;>try (cases u;done)
     rename_i L em e7 et fd;split at u
     .rename_i hc;simp only[AB,Ah,beq_iff_eq] at hc;obtain⟨⟨i1,i2⟩,i4⟩:=hc;subst i1;subst i2;obtain⟨y0,ll,bb,ay,a3,y1,y2,y3,y4,y5,y6,y7⟩:=hb;have b2:x < aD/\J x=az L/\(∀ok us Y,Bg ok w em us Y->Bg ok w al us Y)/\∀ok us Y,Bg ok w et us Y->Bg ok w aM us Y:=by
       rcases i4 with⟨⟨⟨i3,i4⟩,i5⟩,i6⟩|⟨⟨⟨⟨i3,i4⟩,i5⟩,i6⟩,i7⟩
       .rw[<-yI i4,<-Kd.beqs_eq _ _ i5,<-Kd.beqs_eq _ _ i6];exact⟨AH (CU i3) hn,b4 x (CU i3),fun _ _ _ h=>h,fun _ _ _ h=>h⟩
       .obtain⟨z1,z2⟩:=H.at i3;refine⟨z1,by rw[z2];rfl,fun ok us Y h=>?_,fun ok us Y h=>?_⟩
        .have:=h.join_l (yI i5).symm;rw[Kd.beqs_eq _ _ i4] at this;exact this
        .have:=h.join_l (yI i7).symm;rw[Kd.beqs_eq _ _ i6] at this;exact this
      obtain⟨k1,E,k3,k4⟩:=b2;refine⟨k1,ll,bb,ay,a3,by rw[E];exact y1,y2,y3,y4,y5,fun i us e hl he=>?_,y7⟩;obtain⟨u1,u2,z1,⟨eu,z2,z3⟩,⟨ev,z4,z5⟩⟩:=y6 i us e hl he;exact⟨u1,u2,z1,⟨eu,k3 _ _ _ (Bg.mono (fun b off h=>⟨M.safe b off h,rfl⟩) z2),z3⟩,⟨ev,k4 _ _ _ (Bg.mono (fun b off h=>⟨M.safe b off h,rfl⟩) z4),z5⟩⟩
     .cases u
    |lp s st=>
     cases b'<;>simp only[FG] at u<;>try (cases u;done)
     rename_i aq e9;split at u
     .rename_i hc;simp only[AB] at hc;have e1:=yI hc.1;subst e1;obtain⟨bb,q,y1,y2,y3,y4,y5,y6,y7,j,y8,y9⟩:=hb;have b1:=hc.2;unfold lpLt at b1;split at b1
      .rename_i S0 hS;have hT:=d8 _ (V8 hS);simp only at hT;rw[AB] at b1;have d6:S0.tmps.loc=[]:=List.isEmpty_iff.1 b1.1;refine⟨bb,q,y1,y2,?_⟩;rw[d7];refine⟨y3,y4,y5,y6,fun i c ab=>?_,j,N6 u M hn H S hq y8,y9⟩;have hg:S0.tmps.t.get i=some c:=by
        rw[hT] at ab;simpa [Bn.get,d6,CY] using ab
       exact BQ.move M hn c _ (UX b1.2 i c hg) (y7 i c ab)
      .cases b1
     .cases u
   .rw[Mem.at_ge ch];trivial
 .cases h
theorem BY.matched {n:Nat}{aX:Nat->Option Nat}{aH:World}(S:Fc az J nh aQ m)(ab:∀x,x < nh->J x=az x)(hn:n<=nh)(bo:BX az n aX aP aH)(a4:∀id,aP.at id≠ .pad->aQ.at id≠ .pad)
  (h:BY az n aX aP aH W m w):BY J n aX aP aH W aQ w where
 os:=h.os
 tape:=h.tape
 output:=h.output
 size:=h.size
 mlen:=a4
 rho:=fun id D=>by
  obtain⟨O,C⟩:=h.rho id D;refine⟨O,?_⟩;have l:=a4 id (Cf D);have:=S id;generalize aQ.at id=a at this l⊢;generalize m.at id=b at this C;cases this<;>first|rfl|(exact absurd rfl l)|(cases C;done)
 untr:=fun id D ht=>h.untr id D (S.tracked ht)
 fresh:=fun id b D ht hr=>h.fresh id b D (S.tracked ht) hr
 old:=h.old
 tok:=fun id x ks e H=>by
  have bt:=bo.tok_lt H;have l:=a4 id (by rw[H];exact fun h=>by cases h);have aa:=S id;rcases h.tok id x ks e H with⟨q,E,u⟩|⟨q,E⟩
  .rw[q] at aa;generalize a3:aQ.at id=a at aa l;cases aa with
   |pad=>exact absurd rfl l
   |gone=>exact .inr ⟨fun b M off _=>C5 (u b M) off,.inl rfl⟩
   |same=>exact .inl ⟨rfl,E,u⟩
   |tok g1 aw g3=>
    refine .inr ⟨fun b M off _=>C5 (u b M) off,.inr ⟨_,_,_,rfl,AV hn g1,fun b' Y=> .inl ⟨by rw[<-E];exact Y,?_⟩⟩⟩;unfold DN;rw[aw,g3,ab x (by omega)];exact AE _
  .refine .inr ⟨fun b M off ho=>q b M off (by unfold DN at ho⊢;rw[ab x (by omega)] at ho;exact ho),?_⟩;rcases E with E|⟨L,X,e',E,u,k4⟩
   .rw[E] at aa;generalize a3:aQ.at id=a at aa l;cases aa with
    |pad=>exact absurd rfl l
    |gone=>exact .inl rfl
   .rw[E] at aa;generalize a3:aQ.at id=a at aa l;cases aa with
    |pad=>exact absurd rfl l
    |gone=>exact .inl rfl
    |same _ _ _ bm=>
     refine .inr ⟨_,_,_,rfl,u,fun b' Y=>?_⟩;rcases k4 b' Y with⟨p,j2⟩|p
     .refine .inl ⟨p,?_⟩;unfold DN at j2⊢;rw[ab x (by omega),ab L bm];exact j2
     .exact .inr p
    |tok g1 aw g3=>
     refine .inr ⟨_,_,_,rfl,AV hn g1,fun b' Y=>?_⟩;rcases k4 b' Y with⟨p,j2⟩|p
     .refine .inl ⟨p,?_⟩;unfold DN at j2⊢;rw[aw,g3,ab x (by omega)];exact j2
     .exact .inr p
 row:=fun id x y ks e H=>by
  have l:=a4 id (by rw[H];exact fun h=>by cases h);have aa:=S id;rcases h.row id x y ks e H with q|⟨L,aF,X,q,E,u⟩
  .rw[q] at aa;generalize a3:aQ.at id=a at aa l;cases aa with
   |pad=>exact absurd rfl l
   |gone=>exact .inl rfl
  .rw[q] at aa;generalize a3:aQ.at id=a at aa l;cases aa with
   |pad=>exact absurd rfl l
   |gone=>exact .inl rfl
   |mrow g1 aw=>exact .inr ⟨_,_,_,rfl,aw.trans E,u⟩
end
def XK.ex:XK->Exit
 | .normal=> .normal
 | .exit id=> .exit id
 | .ret=> .ret
theorem M4 {T:Tab}(ae:PC):((Gr ae).eval T).toB=true↔pcv T ae:=by
 cases ae with
 |none=>exact⟨fun _=>trivial,fun _=>rfl⟩
 |some c=>exact IB.symm
def Ws (T:Tab)(a b:CT):Prop:=¬(pcv T a.pc/\pcv T b.pc)
structure FM (T:Tab) (g:G) (N:Nat) (outs:List CT):Prop where
 each:∀o∈outs,EA g o.pc/\o.l.tmps.n=N
 apart:outs.Pairwise (Ws T)
def br (T:Tab)(n0:Nat)(W :Nat->Option Nat)(m:Mem)(w:World)(n:Nat)(L:List CT)(Q:Exit->Act->World->Prop):Prop:=
 ∀o∈L,pcv T o.pc->∀ ad l ac,BY T n0 W m w ad o.l.mem ac->Rel T n ad o.l l ac->Q o.k.ex l ac
section
variable {T:Tab}{g ao:G}{N n0 n:Nat}{W :Nat->Option Nat}{m:Mem}{w:World}{Q:Exit->Act->World->Prop}
theorem Ws.symm {a b:CT}(h:Ws T a b):Ws T b a:=fun⟨O,C⟩=>h ⟨C,O⟩
theorem FM.grow {L:List CT}(h:FM T g N L)(k:Bo g ao):FM T ao N L:=⟨fun o l=>⟨(h.each o l).1.grow k,(h.each o l).2⟩,h.apart⟩
theorem FM.perm {l ak:List CT}(h:FM T g N l)(p:l.Perm ak):FM T g N ak:=
 ⟨fun o q=>h.each o (p.mem_iff.2 q),(p.pairwise_iff (fun h=>Ws.symm h)).1 h.apart⟩
theorem Rel.up {l:Loc}{a:Act}{ap:Nat}(h:Rel T n W l a w)(p:n<=ap):Rel T ap W l a w:=
 ⟨h.defers,h.size,fun i c q=>(h.tmps i c q).up0 p,h.mem.mono p⟩
theorem L1 {k:XK}:∀{l:List CT} {p:CT} {r:List CT},I9 k l=some (p,r)->p.k=k/\l.Perm (p::r)
 |[],_,_,h=>by cases h
 |o::os,p,r,h=>by
  simp only[I9] at h;split at h
  .rename_i y;cases h;exact⟨y,List.Perm.refl _⟩
  .cases u:I9 k os with
   |none=>rw[u] at h;cases h
   |some q=>
    obtain⟨D,E⟩:=q;rw[u] at h;cases h;obtain⟨O,C⟩:=L1 u;exact⟨O,(C.cons o).trans (List.Perm.swap _ _ _)⟩
theorem Sf {k:XK}:∀{l:List CT},I9 k l=none->∀o∈l,o.k≠k
 |[],_,o,h=>by cases h
 |o::os,h,o',p=>by
  simp only[I9] at h;split at h
  .cases h
  .rename_i y;cases u:I9 k os with
   |none=>
    cases p with
    |head=>exact y
    |tail _ p=>exact Sf u o' p
   |some q=>rw[u] at h;cases h
theorem eA {k:XK}{l:List CT}(h:noK k l=true):∀o∈l,o.k≠k:=fun o q p=>by
 have:=Ae.1 h o q;simp[p] at this
theorem sm {s:Rf}{p:Option PC}{a b c:CT}(h:Z5 g s p a b=(c,ao)):Bo g ao/\(Agr T ao->EA g a.pc->EA g b.pc->a.l.tmps.n=N->b.l.tmps.n=N->
  (∀q,p=some q->EA g q/\(pcv T q↔pcv T a.pc\/pcv T b.pc))->
  c.k=a.k/\c.l.tmps.n=N/\EA ao c.pc/\(pcv T c.pc↔pcv T a.pc\/pcv T b.pc)/\
  ∀f,(s.eval T).toB=f->∀ W u w,Rel T g.n W (sel f a.l b.l) u w->∃ ad,BY T g.n W (sel f a.l b.l).mem w ad c.l.mem w/\Rel T ao.n ad c.l u w):=by
 unfold Z5 at h;simp only at h;have D:Bo g (g.pushAll (IT g.n s a.l b.l).2):=Bo.push _ _;split at h
 .rename_i q;cases h;refine⟨D,fun y ha hb l M X=>?_⟩;obtain⟨p1,p2⟩:=X q rfl;refine⟨rfl,l,p1.grow D,p2,fun f E W u w H=>?_⟩;exact YH E (by rw[l,M]) (AE _) y.new (by rw[Cr];exact AE _) H
 .cases h;have aw:Bo (g.pushAll (IT g.n s a.l b.l).2) ((g.pushAll (IT g.n s a.l b.l).2).pushAll [⟨ "or",oOr,[Gr a.pc,Gr b.pc]⟩]):=Bo.push _ _;refine⟨D.trans aw,fun y ha hb l M X=>?_⟩;have Y:=y.of aw;have a1:=y.new.head;refine⟨rfl,l,(by show _ < _;rw[Cr (G.pushAll _ _) [_]];exact Nat.lt_succ_self _),?_,fun f E W u w H=>?_⟩
  .rw[IB,a1,<-M4 (T:=T) a.pc,<-M4 (T:=T) b.pc];simp[Ex.eval,oOr,u0,u1,U.toB]
  .obtain⟨ad,O,C⟩:=YH E (by rw[l,M]) (AE _) Y.new (ap:=(g.pushAll (IT g.n s a.l b.l).2).n) (by rw[Cr];exact AE _) H;exact⟨ad,O,C.up aw.n⟩
theorem J0 {s:Option Rf}{bb:Option PC}:∀{aU f r:List CT} {g ao:G},GL s bb aU f g=(r,ao)->Bo g ao/\(Agr T ao->FM T g N (aU++f)->
  (∀q,s=some q->(∀a∈aU,pcv T a.pc->(q.eval T).toB=true)/\(∀b∈f,pcv T b.pc->(q.eval T).toB=false))->
  (∀q,bb=some q->EA g q/\∀a∈aU,∀b∈f,a.k= .normal->b.k= .normal->(pcv T q↔pcv T a.pc\/pcv T b.pc))->
  FM T ao N r/\(∀o∈r,pcv T o.pc->∃D∈aU++f,pcv T D.pc)/\
  ∀n0 W m w Q,n0<=g.n->BX T n0 W m w->br T n0 W m w ao.n r Q->br T n0 W m w g.n (aU++f) Q)
 |[],f,r,g,ao,h=>by
  simp only[GL] at h;cases h;exact⟨Bo.refl _,fun _ M _ _=>⟨M,fun o l p=>⟨o,l,p⟩,fun _ _ _ _ _ _ _ h=>h⟩⟩
 |a::aU,f,r,g,ao,h=>by
  simp only[GL] at h;split at h
  .rename_i cf;cases hj:GL s bb aU f g with
   |mk aB g1=>
    rw[hj] at h;cases h;obtain⟨g1,k1⟩:=J0 (aU:=aU) hj;refine⟨g1,fun hA M aa hn=>?_⟩;have b5:FM T g N (aU++f):=⟨fun o l=>M.each o (AK _ l),(BN.1 M.apart).2⟩;obtain⟨q1,q2,q3⟩:=k1 hA b5 (fun q u=>⟨fun a y=>(aa q u).1 a (AK _ y),(aa q u).2⟩) (fun q u=>⟨(hn q u).1,fun a y=>(hn q u).2 a (AK _ y)⟩);have cv:=(BN.1 M.apart).1;have y:=M.each a (AN ..);refine⟨⟨?_,?_⟩,?_,?_⟩
    .intro o l;cases l with
     |head=>exact⟨y.1.grow g1,y.2⟩
     |tail _ l=>exact q1.each o l
    .refine BN.2 ⟨fun o l X=>?_,q1.apart⟩;obtain⟨D,H,O⟩:=q2 o l X.2;exact cv D H ⟨X.1,O⟩
    .intro o l p;cases l with
     |head=>exact⟨a,AN ..,p⟩
     |tail _ l=>
      obtain⟨D,H,O⟩:=q2 o l p;exact⟨D,AK _ H,O⟩
    .intro n0 W m w Q b1 hm hO o l p;cases l with
     |head=>exact fun ad Y ac b3 hr=>hO a (AN ..) p ad Y ac b3 (hr.up g1.n)
     |tail _ l=>exact q3 n0 W m w Q b1 hm (fun o l=>hO o (AK _ l)) o l p
  .rename_i b a0 cf;obtain⟨cb,b6⟩:=L1 cf;cases ce:Z5 g (s.getD (Gr a.pc)) (if a.k= .normal then bb else none) a b with
   |mk c gm=>
    rw[ce] at h;simp only at h;cases hj:GL s bb aU a0 gm with
    |mk aB g1=>
     rw[hj] at h;cases h;obtain⟨a2,k1⟩:=sm (T:=T) (N:=N) ce;obtain⟨bo,E⟩:=J0 (aU:=aU) hj;refine⟨a2.trans bo,fun hA M aa hn=>?_⟩;have p:(a::aU++f).Perm (a::b::(aU++a0)):=by
      refine List.Perm.cons a ?_;exact (List.Perm.append_left aU b6).trans List.perm_middle
     have bt:=M.perm p;have cu:=hA.of bo;have b4:b∈f:=b6.mem_iff.2 (AN ..);have cc:∀o∈a0,o∈f:=fun o l=>b6.mem_iff.2 (AK _ l);have y:=bt.each a (AN ..);have hb:=bt.each b (AK _ (AN ..));have pw:=BN.1 bt.apart;have ci:=BN.1 pw.2;have b5:FM T gm N (aU++a0):=FM.grow ⟨fun o l=>bt.each o (AK _ (AK _ l)),ci.2⟩ a2;obtain⟨aS,c2,c3,c4,c5⟩:=k1 cu y.1 hb.1 y.2 hb.2 (fun q u=>by
      split at u
      .rename_i hk;obtain⟨z1,z2⟩:=hn q u;exact⟨z1,z2 a (AN ..) b b4 hk (by rw[cb,hk])⟩
      .cases u)
     obtain⟨q1,q2,q3⟩:=E hA b5 (fun q u=>⟨fun a y=>(aa q u).1 a (AK _ y),fun b hb=>(aa q u).2 b (cc b hb)⟩)
      (fun q u=>⟨(hn q u).1.grow a2,fun a y b hb=>(hn q u).2 a (AK _ y) b (cc b hb)⟩)
     have cx:∀o,o∈(aU++a0)->o∈(a::aU++f):=fun o l=>p.mem_iff.2 (AK _ (AK _ l));have cy:pcv T a.pc->((s.getD (Gr a.pc)).eval T).toB=true:=fun p=>by
      cases s with
      |none=>exact (M4 a.pc).2 p
      |some q=>exact (aa q rfl).1 a (AN ..) p
     have c0:pcv T b.pc->((s.getD (Gr a.pc)).eval T).toB=false:=fun p=>by
      cases s with
      |none=>
       simp only[Option.getD_none];cases u:((Gr a.pc).eval T).toB with
       |false=>rfl
       |true=>exact absurd ⟨(M4 a.pc).1 u,p⟩ (pw.1 b (AN ..))
      |some q=>exact (aa q rfl).2 b b4 p
     refine⟨⟨?_,?_⟩,?_,?_⟩
     .intro o l;cases l with
      |head=>exact⟨c3.grow bo,c2⟩
      |tail _ l=>exact q1.each o l
     .refine BN.2 ⟨fun o l X=>?_,q1.apart⟩;obtain⟨D,H,O⟩:=q2 o l X.2;rcases c4.1 X.1 with C|C
      .exact pw.1 D (AK _ H) ⟨C,O⟩
      .exact ci.1 D H ⟨C,O⟩
     .intro o l p;cases l with
      |head=>
       rcases c4.1 p with C|C
       .exact⟨a,AN ..,C⟩
       .exact⟨b,AO _ b4,C⟩
      |tail _ l=>
       obtain⟨D,H,O⟩:=q2 o l p;exact⟨D,cx D H,O⟩
     .intro n0 W m w Q b1 hm hO o l ba ad Y ac b3 hr;have a9:=p.mem_iff.1 l;have ch:sel ((s.getD (Gr a.pc)).eval T).toB a.l b.l=o.l->pcv T c.pc->o.k=a.k->Q o.k.ex Y ac:=fun e X hk=>by
       obtain⟨aV,aF,s2⟩:=c5 _ rfl ad Y ac (by rw[e];exact hr);rw[e] at aF;rw[hk,<-aS];exact hO c (AN ..) X aV Y ac (b3.trans hm b1 aF) (s2.up bo.n)
      cases a9 with
      |head=>exact ch (by rw[cy ba];rfl) (c4.2 (.inl ba)) rfl
      |tail _ a9=>
       cases a9 with
       |head=>exact ch (by rw[c0 ba];rfl) (c4.2 (.inr ba)) cb
       |tail _ a9=>exact q3 n0 W m w Q (AV b1 a2.n) hm (fun o l=>hO o (AK _ l)) o a9 ba ad Y ac b3 (hr.up a2.n)
end
def D3 (T:Tab)(K:(Exit->Act->World->Prop)->Act->World->Prop)(r:PC->Loc->G->Option (List CT × G)):Prop:=
 ∀ae l g L ao,r ae l g=some (L,ao)->Bo g ao/\(Agr T ao->EA g ae->FM T ao l.tmps.n L/\(∀o∈L,pcv T o.pc->pcv T ae)/\
  (CB T ao->pcv T ae->∀ W a w Q,Rel T g.n W l a w->br T g.n W l.mem w ao.n L Q->K Q a w))
section
variable {P:Program}{T:Tab}{a8 K2:(Exit->Act->World->Prop)->Act->World->Prop}{aB aJ:PC->Loc->G->Option (List CT × G)}
theorem D3.mono (h:D3 T a8 aB)(q:∀Q a w,a8 Q a w->K2 Q a w):D3 T K2 aB:=by
 intro ae l g L ao p;obtain⟨O,C⟩:=h ae l g L ao p;grind
theorem W0 {k:XK}(h:k≠ .normal){F:Act->World->Prop}{Q:Exit->Act->World->Prop}{a:Act}{w:World}(l:Q k.ex a w):Exit.then F Q k.ex a w:=by
 cases k with
 |normal=>exact absurd rfl h
 |exit id=>exact l
 |ret=>exact l
theorem Uu (O:D3 T a8 aB)(C:D3 T K2 aJ):D3 T (fun Q=>a8 (Exit.then (K2 Q) Q)) (fun ae l g=>do let (L,g) <-aB ae l g;Vs L g aJ):=by
 intro ae l g cy ao p;simp only[AD,AA] at p;obtain⟨⟨L,g1⟩,cf,p⟩:=p;obtain⟨ab,k1⟩:=O ae l g L g1 cf;simp only at p;unfold Vs at p;split at p
 .rename_i a9;cases p;refine⟨ab,fun hA X=>?_⟩;obtain⟨q1,q2,q3⟩:=k1 hA X;refine⟨q1,q2,fun D a4 W a w Q M hO=>q3 D a4 W a w _ M fun o D X ad Y ac aa p=>?_⟩;exact W0 (Sf a9 o D) (hO o D X ad Y ac aa p)
 .rename_i o cj a9;split at p
  .rename_i cb;simp only[AD,AA] at p;obtain⟨⟨b5,aw⟩,bi,p⟩:=p;simp only[Ax] at p;obtain⟨cc,b3⟩:=L1 a9;obtain⟨H,E⟩:=C o.pc o.l g1 b5 aw bi;obtain⟨a0,k3⟩:=J0 (T:=T) (N:=l.tmps.n) p;refine⟨(ab.trans H).trans a0,fun hA X=>?_⟩;have bx:=hA.of a0;have b9:=bx.of H;obtain⟨q1,q2,q3⟩:=k1 b9 X;have bo:=q1.perm b3;have D:=bo.each o (AN ..);obtain⟨aF,s2,s3⟩:=E bx D.1;rw[D.2] at aF;have pw:=BN.1 bo.apart;have ca:FM T aw l.tmps.n (cj++b5):=by
    refine⟨fun x u=>?_,BM.2 ⟨pw.2,aF.apart,fun x u y hy hc=>pw.1 x u ⟨s2 y hy hc.2,hc.1⟩⟩⟩;rcases Ap.1 u with u|u
    .have:=bo.each x (AK _ u);exact⟨this.1.grow H,this.2⟩
    .exact aF.each x u
   obtain⟨t1,t2,t3⟩:=k3 hA ca (fun q hq=>by cases hq) (fun q hq=>by cases hq);refine⟨t1,fun x u ba=>?_,fun b2 a4 W a w Q M hO=>?_⟩
   .grind
   .have b0:=t3 g.n W l.mem w Q (ab.trans H).n M.mem hO;refine q3 ((b2.of a0).of H) a4 W a w _ M fun x u ba ad Y ac aa p=>?_;have a2:=b3.mem_iff.1 u;cases a2 with
    |head=>
     rw[cc];refine s3 (b2.of a0) ba ad Y ac Q p fun y hy ce aV b8 w2 ch bi=>?_;exact b0 y (AO _ hy) ce aV b8 w2 (aa.trans M.mem ab.n ch) bi
    |tail _ a2=>
     exact W0 (eA cb x a2) (b0 x (AU _ a2) ba ad Y ac aa (p.up H.n))
  .cases p
theorem pe:∀{a b:PC},VO a b=true->a=b
 |none,none,_=>rfl
 |some a,some b,h=>by rw[yI h]
 |none,some _,h=>by cases h
 |some _,none,h=>by cases h
theorem tC {aY:Code->PC->Loc->G->Option (List CT × G)}{x:Nat}{ca cb:Code}(Y:D3 T a8 (aY ca))(hb:D3 T K2 (aY cb)):
  D3 T (fun Q a w=>((T x).toB=true->a8 Q a w)/\((T x).toB=false->K2 Q a w)) (VF aY x ca cb):=by
 intro ae l g L ao u;unfold VF at u;split at u
 .cases u
 rename_i cf;have hx:x < g.n:=by rw[Bool.not_eq_false,Nat.blt_eq] at cf;exact cf
 cases b6:Es g ae x true with
 |mk pa g1=>
  simp only[b6,AD,AA] at u;obtain⟨⟨oa,aw⟩,c9,u⟩:=u;simp only at u;cases b7:Es aw ae x false with
  |mk pb g3=>
   simp only[b7,AA] at u;obtain⟨⟨ob,g4⟩,db,u⟩:=u;simp only[Ax] at u;obtain⟨a9,b1⟩:=Jh (T:=T) b6;obtain⟨b0,cv⟩:=Y pa l g1 oa aw c9;obtain⟨M,cx⟩:=Jh (T:=T) b7;obtain⟨E,cy⟩:=hb pb l g3 ob g4 db;obtain⟨bb,c0⟩:=J0 (T:=T) (N:=l.tmps.n) u;have ba:=a9.trans b0;have H:=ba.trans M;refine⟨(H.trans E).trans bb,fun hA hp=>?_⟩;have b4:=hA.of bb;have b3:=b4.of E;have b2:=b3.of M;have c3:=b2.of b0;obtain⟨p1,p2⟩:=b1 c3 hp hx;obtain⟨p3,p4⟩:=cx b3 (hp.grow ba) (AH hx ba.n);obtain⟨q1,q2,q3⟩:=cv b2 p1;obtain⟨q4,q5,q6⟩:=cy b4 p3;have c5:FM T g4 l.tmps.n (oa++ob):=by
    refine⟨fun y D=>?_,BM.2 ⟨q1.apart,q4.apart,fun y D z hz hc=>?_⟩⟩
    .rcases Ap.1 D with D|D
     .exact⟨((q1.each y D).1.grow M).grow E,(q1.each y D).2⟩
     .exact q4.each y D
    .grind
   obtain⟨t1,t2,t3⟩:=c0 hA c5
    (fun q hq=>by
     cases hq;exact⟨fun a Y c7=>(p2.1 (q2 a Y c7)).2,fun b hb c8=>(p4.1 (q5 b hb c8)).2⟩)
    (fun q hq=>by
     split at hq
     .rename_i cc;cases hq;refine⟨hp.grow (H.trans E),fun a Y b hb _ _=>?_⟩;simp only[AB,decide_eq_true_eq] at cc;obtain⟨⟨⟨aN,w2⟩,w3⟩,w4⟩:=cc;have one:∀{o:CT} {l:List CT} {p:PC},l.length=1->(l.any fun o=>decide (o.k= .normal)&&VO o.pc p)=true->o∈l->o.pc=p:=by
       intro o l p O C h3;cases l with
       |nil=>cases h3
       |cons z l=>
        have:l=[]:=List.eq_nil_of_length_eq_zero (by simpa using O);subst this;simp at C h3;subst h3;exact pe C.2
      rw[one w3 aN Y,one w4 w2 hb,p2,p4];cases (T x).toB<;>simp
     .cases hq)
   refine⟨t1,fun y D a0=>?_,fun c6 b9 W a w Q hR hO=>?_⟩
   .obtain⟨y0,X,O⟩:=t2 y D a0;rcases Ap.1 X with X|X
    .exact (p2.1 (q2 y0 X O)).1
    .exact (p4.1 (q5 y0 X O)).1
   .have b5:=t3 g.n W l.mem w Q (H.trans E).n hR.mem hO;have b8:=c6.of bb;refine⟨fun de=>?_,fun dd=>?_⟩
    .refine q3 (b8.of (M.trans E)) (p2.2 ⟨b9,de⟩) W a w Q (hR.up a9.n) fun y D a0 ad a' ac aa u=>?_;exact b5 y (AU _ D) a0 ad a' ac (aa.down a9.n) (u.up (M.trans E).n)
    .refine q6 b8 (p4.2 ⟨b9,dd⟩) W a w Q (hR.up H.n) fun y D a0 ad a' ac aa u=>?_;exact b5 y (AO _ D) a0 ad a' ac (aa.down H.n) u
end
theorem Tab.ext' {az J:Tab}(O:∀x,az x=J x)(C:az.fr=J.fr)(D:az.lp=J.lp)(E:az.base=J.base):az=J:=by
 obtain⟨l,u,af,p⟩:=az;obtain⟨aw,y,aj,q⟩:=J;have:l=aw:=funext O;grind
theorem Fo (T:Tab)(x:Nat)(u:U):(T.upd x u) x=u:=by
 show (bif Nat.beq x x then u else T x)=u;rw[(E5 x x).2 rfl];rfl
theorem D7 (T:Tab){x y:Nat}(u:U)(h:y≠x):(T.upd x u) y=T y:=by
 show (bif Nat.beq y x then u else T y)=T y;have:Nat.beq y x=false:=by
  cases l:Nat.beq y x with
  |false=>rfl
  |true=>exact absurd ((E5 _ _).1 l) h
 rw[this];rfl
theorem IL:∀(us:List U) (T:Tab) (nh x:Nat),x < nh->(T.upds nh us) x=T x
 |[],_,_,_,_=>rfl
 |u::us,T,nh,x,h=>by
  simp only[Tab.upds];rw[IL us _ _ _ (by omega),D7 _ _ (by omega)]
theorem gZ:∀(us:List U) (T:Tab) (nh x:Nat),nh+us.length<=x->(T.upds nh us) x=T x
 |[],_,_,_,_=>rfl
 |u::us,T,nh,x,h=>by
  simp only[Ad] at h;simp only[Tab.upds];rw[gZ us _ _ _ (by omega),D7 _ _ (by omega)]
theorem HT:∀(us:List U) (T:Tab) (nh j:Nat) (u:U),us[j]? =some u->(T.upds nh us) (nh+j)=u
 |[],_,_,_,_,h=>by simp at h
 |v::us,T,nh,j,u,h=>by
  simp only[Tab.upds];cases j with
  |zero=>
   simp at h;subst h;rw[IL us _ _ _ (by omega)];exact Fo _ _ _
  |succ j=>
   rw[show nh+(j+1)=nh+1+j by omega];exact HT us _ _ j u (by simpa using h)
theorem OS:∀(us:List U) (T:Tab) (nh:Nat),(T.upds nh us).fr=T.fr/\(T.upds nh us).lp=T.lp/\(T.upds nh us).base=T.base
 |[],_,_=>⟨rfl,rfl,rfl⟩
 |u::us,T,nh=>by
  simp only[Tab.upds];exact OS us _ _
theorem Gi:∀(l:List (Nat × Ex)) (T:Tab),(Ci T l).fr=T.fr/\(Ci T l).lp=T.lp/\(Ci T l).base=T.base
 |[],_=>⟨rfl,rfl,rfl⟩
 |(x,e)::r,T=>by
  simp only[Ci];exact Gi r T
theorem Of {T:Tab}:∀(fv:List Nat) (x:Nat),x∈fv->(OR fv (fv.map T.get)) x=T x
 |[],x,h=>by cases h
 |y::fv,x,h=>by
  simp only[AT,OR];by_cases l:x=y
  .subst l;exact Fo _ _ _
  .rw[D7 _ _ l];cases h with
   |head=>exact absurd rfl l
   |tail _ h=>exact Of fv x h
theorem HR {az J:Tab}:∀(l:List Rf),(∀x∈HJ l,az x=J x)->l.map (Rf.eval az)=l.map (Rf.eval J)
 |[],_=>rfl
 | .c u::l,h=>by
  simp only[AT,Rf.eval];rw[HR l (fun x p=>h x p)]
 | .e y::l,h=>by
  simp only[AT,Rf.eval];rw[HR l (fun x p=>h x (AK _ p)),h y (AN ..)]
 | .n y::l,h=>by
  simp only[AT,Rf.eval];rw[HR l (fun x p=>h x (AK _ p)),h y (AN ..)]
theorem U7 {az J:Tab}{e:Ex}(h:∀x∈HJ e.args,az x=J x):e.eval az=e.eval J:=by
 unfold Ex.eval;rw[HR e.args h]
theorem Ft {fv:List Nat}{nh R:Nat}{l:List Nat}(h:H4 fv nh R l=true):∀x∈l,x∈fv\/(nh<=x/\x < R):=fun x p=>by
 have:=Ae.1 h x p;simp only[Ah,AB] at this;rcases this with O|⟨O,C⟩
 .exact .inl (by simpa using O)
 .exact .inr ⟨Aa O,CU C⟩
section
variable {fv:List Nat}{nh ar:Nat}
theorem DZ {T:Tab}:∀{q:List (Nat × Ex)} {R:Nat},Dc fv nh ar R q=true->ar<=R/\(∀p∈q,ar<=p.1/\p.1 < R)/\∀y,(y < ar\/R<=y)->Ci T q y=T y
 |[],R,h=>⟨by rw[yI h];exact AE _,(fun p l=>by cases l),fun _ _=>rfl⟩
 |(x,e)::r,R,h=>by
  simp only[Dc,AB] at h;have D:=yI h.1.1;obtain⟨O,C,u⟩:=DZ (T:=T) h.2;refine⟨by omega,fun p l=>?_,fun y E=>?_⟩
  .cases l with
   |head=>exact⟨O,by omega⟩
   |tail _ l=>have:=C p l;exact⟨this.1,by omega⟩
  .simp only[Ci];rw[D7 _ _ (by omega)];exact u y (by omega)
theorem GT {T:Tab}(H:∀x∈fv,x < nh)(X:nh<=ar):∀{u:List (Nat × Ex)} {R:Nat},Dc fv nh ar R u=true->∀p∈u,(Ci T u) p.1=p.2.eval (Ci T u)
 |[],_,_,p,l=>by cases l
 |(x,e)::r,R,h,p,l=>by
  simp only[Dc,AB] at h;obtain⟨O,C,_⟩:=DZ (T:=T) h.2;have E:∀{e':Ex} {y:Nat},y<=x->H4 fv nh y (HJ e'.args)=true->e'.eval (Ci T ((x,e)::r))=e'.eval (Ci T r):=by
   intro e' y hy aa;refine U7 fun z Y=>?_;simp only[Ci];refine D7 _ _ ?_;rcases Ft aa z Y with q|q
   .have:=H z q;omega
   .omega
  cases l with
  |head=>
   have:=E (e':=e) (AE x) h.1.2;rw[this];simp only[Ci];exact Fo _ _ _
  |tail _ l=>
   have D:=GT (T:=T) H X h.2 p l;have hb:=C p l;have M:H4 fv nh p.1 (HJ p.2.args)=true:=by
    have ab:∀{r:List (Nat × Ex)} {R:Nat},Dc fv nh ar R r=true->p∈r->H4 fv nh p.1 (HJ p.2.args)=true:=by
     intro r;induction r with
     |nil=>intro R _ l;cases l
     |cons q r D=>
      intro R h l;obtain⟨x,e⟩:=q;simp only[Dc,AB] at h;cases l with
      |head=>exact h.1.2
      |tail _ l=>exact D h.2 l
    exact ab h.2 l
   rw[E (e':=p.2) (y:=p.1) (by omega) M];simp only[Ci];rw[D7 _ _ (by omega)];exact D
theorem QZ {T:Tab}:∀{l:List (Nat × Ex)},(∀p∈l,T p.1=p.2.eval T)->Ci T l=T
 |[],_=>rfl
 |(x,e)::r,h=>by
  simp only[Ci];rw[QZ (fun p u=>h p (AK _ u))];refine Tab.ext' (fun y=>?_) rfl rfl rfl;by_cases q:y=x
  .subst q;rw[Fo];exact (h (y,e) (AN ..)).symm
  .exact D7 _ _ q
theorem PL {az J:Tab}(D:∀x∈fv,x < nh)(E:nh<=ar)(u:∀x,x∈fv\/(nh<=x/\x < ar)->az x=J x):∀{p:List (Nat × Ex)} {R:Nat},Dc fv nh ar R p=true->
  ∀x,x∈fv\/(nh<=x/\x < R)->(Ci az p) x=(Ci J p) x
 |[],R,h,x,l=>by
  rw[yI h] at l;exact u x l
 |(y,e)::r,R,h,x,l=>by
  simp only[Dc,AB] at h;have M:=yI h.1.1;obtain⟨O,_,_⟩:=DZ (T:=az) h.2;have C:=PL D E u h.2;simp only[Ci];by_cases q:x=y
  .subst q;rw[Fo,Fo];exact U7 fun z H=>C z (Ft h.1.2 z H)
  .rw[D7 _ _ q,D7 _ _ q];refine C x ?_;rcases l with l|l
   .exact .inl l
   .exact .inr ⟨l.1,by omega⟩
end
variable{aW:Type}{ae:PC}
theorem FZ.trans {f:aW->Option aW}{s t u:aW}(h:FZ f s t)(k:FZ f t u):FZ f s u:=by
 induction k with
 |zero=>exact h
 |succ _ e l=>exact .succ l e
theorem Qy {aW:Type}{f:aW->Option aW}:∀(n:Nat) (s t:aW),Hp f n s=some t->FZ f s t
 |0,s,t,h=>by simp only[Hp] at h;cases h;exact .zero
 |n+1,s,t,h=>by
  simp only[Hp,AA] at h;obtain⟨u,O,C⟩:=h;exact (FZ.succ .zero O).trans (Qy n u t C)
theorem mW {f:aW->Option aW}{s t u:aW}{n:Nat}(p:Hp f n s=some t)(q:f t=none)(h:FZ f s u):∃m,Hp f m u=some t:=by
 induction h with
 |zero=>exact⟨n,p⟩
 |succ _ e y=>
  obtain⟨m,l⟩:=y;cases m with
  |zero=>simp only[Hp] at l;cases l;rw[q] at e;cases e
  |succ m=>
   simp only[Hp,e,Ag] at l;exact⟨m,l⟩
theorem iF {f:aW->Option aW}{s t:aW}{n:Nat}(q:Hp f n s=some t)(u:f t=none):mQ f s=t:=by
 have p:∃t,FZ f s t/\f t=none:=⟨t,Qy n s t q,u⟩;unfold mQ;rw[dif_pos p];obtain⟨O,C⟩:=Classical.choose_spec p;obtain⟨m,l⟩:=mW q u O;cases m with
 |zero=>simp only[Hp] at l;injection l
 |succ m=>simp only[Hp,C,Option.bind_none] at l;cases l
theorem EA.n {g ao:G}(h:EA g ae)(l:g.n<=ao.n):EA ao ae:=by
 cases ae with
 |none=>trivial
 |some c=>exact AH h l
theorem ND {T:Tab}:pcB T ae=true↔pcv T ae:=by
 cases ae with
 |none=>exact⟨fun _=>trivial,fun _=>rfl⟩
 |some c=>exact IB.symm
theorem ly {lps:List (Nat × DP)}{nh:Nat}{ah:List Rf}{q l:Loc}{ps:List Pr}(h:Fk lps nh ah q l=some ps):q.tmps.n=l.tmps.n:=by
 unfold Fk at h;split at h
 .rename_i p;simp only[AB] at p;exact yI p.2
 .cases h
section
variable {P:Program}{T:Tab}{r:Option Nat}{al:Nat}
theorem qK {c:Code}{aY:PC->Loc->G->Option (List CT × G)}(c7:∀T':Tab,T'.lp=T.lp->D3 T' (fun Q a w=>c.wpIn (fen r) al P Q a w) aY)(p:FF):
  D3 T (fun Q a w=>(Code.loop c).wpIn (fen r) al P Q a w) (da aY p):=by
 intro ae l g L ao h;unfold da at h;simp only[AD,AA] at h;obtain⟨hl,g8,⟨H,hg⟩,ha,hf,cb,⟨dk,aw⟩,hr,h⟩:=h;simp only at h cb hr;split at h
 .cases h
 rename_i o hi gn;simp only[AA] at h;obtain⟨⟨nxt,hh⟩,he,a9,ej,h⟩:=h;simp only at h ej;generalize hD:({ nh:=g.n,k:=H.length,eqs:=aw.eqs,pcn:=o.pc,nxt,obs:=a9.map (Ob.mk o.pc)++aw.obs,fv:=R1 g.n aw.eqs o.pc nxt (a9.map (Ob.mk o.pc)++aw.obs) }:Bs)=D at h;split at h
 .rename_i hc;simp only[AB] at hc;obtain⟨⟨⟨et,c4⟩,c3⟩,f7⟩:=hc;have c4:=yI c4;have c3:=yI c3;have bm:D.nh=g.n:=by rw[<-hD]
  have d0:D.k=H.length:=by rw[<-hD]
  have fd:D.fv=R1 g.n aw.eqs o.pc nxt (a9.map (Ob.mk o.pc)++aw.obs):=by rw[<-hD]
  have dv:D.eqs=aw.eqs:=by rw[<-hD]
  have d2:D.pcn=o.pc:=by rw[<-hD]
  have cu:D.nxt=nxt:=by rw[<-hD]
  have d1:D.obs=a9.map (Ob.mk o.pc)++aw.obs:=by rw[<-hD]
  cases h;obtain⟨gr,k0⟩:=c7 T rfl ae hl _ dk aw hr;have g7:g.n+H.length<=aw.n:=gr.n;obtain⟨ga,b4⟩:=L1 gn;have e1:∀p,p∈KD g.n (D.heads H) g.eqs->p∈aw.eqs++KD g.n (D.heads H) g.eqs:=fun p X=>AO _ X;refine⟨⟨by show g.n<=aw.n;omega,fun p X=>e1 p ((KJ _ _ _ _).2 (.inl X)),fun x Y=>AK _ (AO _ Y),gr.lps⟩,fun hA X=>?_⟩;have c2:∀p∈g.lps,T.lp p.1=p.2:=fun p X=>hA.lps p (gr.lps p X);have fr:Agr T aw:=⟨fun p X=>hA.eqs p (AU _ X),hA.lps⟩;have c6:EA { n:=g.n+H.length,eqs:=[],obs:=[],lps:=g.lps } ae:=X.n (Nat.le_add_right _ _);obtain⟨q1,q2,_⟩:=k0 fr c6;have e3:=q1.perm b4;have pw:=BN.1 e3.apart;have f5:hl.tmps.n=l.tmps.n:=ly cb;refine⟨⟨fun x Y=>?_,pw.2⟩,fun x Y bi=>q2 x (b4.mem_iff.2 (AK _ Y)) bi,fun c5 b3 W a w Q hR hO=>?_⟩
  .obtain⟨z1,z2⟩:=e3.each x (AK _ Y);exact⟨z1.n (AE _),by rw[z2,f5]⟩
  simp only[Bs.inScope,AB] at et;obtain⟨⟨⟨⟨b5,dm⟩,e4⟩,e5⟩,g6⟩:=et;rw[dv,bm,d0] at b5;rw[bm,d2] at dm;rw[bm,cu] at e4;rw[d1,bm] at e5;have ca:∀x∈D.fv,x < g.n:=fun x Y=>by
   have:=Ae.1 g6 x Y;rw[bm] at this;exact CU this
  have bb:g.n<=g.n+H.length:=Nat.le_add_right _ _;let us:List U:=D.fv.map T.get;let M:List U:=H.map (Rf.eval T);let E:List U->Tab:=fun s=>Ci (T.upds g.n s) aw.eqs;have a0:∀s,(E s).fr=T.fr/\(E s).lp=T.lp/\(E s).base=T.base:=fun s=>by
   obtain⟨a1,a2,a3⟩:=Gi aw.eqs (T.upds g.n s);obtain⟨b1,b2,cs⟩:=OS s T g.n;exact⟨a1.trans b1,a2.trans b2,a3.trans cs⟩
  have a4:∀s x,x < g.n->E s x=T x:=fun s x Y=>by
   rw[show E s x=(T.upds g.n s) x from (DZ b5).2.2 x (.inl (by omega))];exact IL _ _ _ _ Y
  have cy:∀s j u,s.length=H.length->s[j]? =some u->E s (g.n+j)=u:=fun s j u aa hj=>by
   have c0:j < s.length:=(AG.1 hj).1;rw[show E s (g.n+j)=(T.upds g.n s) (g.n+j) from (DZ b5).2.2 _ (.inl (by omega))];exact HT _ _ _ _ _ hj
  have f1:∀s,∀p∈aw.eqs,E s p.1=p.2.eval (E s):=fun s p X=>GT ca bb b5 p X;have d4:∀s,Agr (E s) aw:=fun s=>⟨f1 s,fun p X=>by rw[(a0 s).2.1];exact hA.lps p X⟩;have b9:∀s,s.length=H.length->∀x,x∈D.fv\/(g.n<=x/\x < aw.n)->(D.tab us s) x=E s x:=fun s aa x Y=>by
   have e:D.tab us s=Ci ((OR D.fv us).upds g.n s) aw.eqs:=by unfold Bs.tab;rw[bm,dv]
   rw[e];refine PL ca bb (fun y hy=>?_) b5 x Y;rcases hy with hy|hy
   .rw[IL _ _ _ _ (ca y hy),IL _ _ _ _ (ca y hy)];exact Of D.fv y hy
   .have hj:y - g.n < s.length:=by omega
    have O:=HT s (OR D.fv us) g.n (y - g.n) s[y - g.n] (AF hj);have C:=HT s T g.n (y - g.n) s[y - g.n] (AF hj);rw[show g.n+(y - g.n)=y by omega] at O C;rw[O,C]
  have en:∀s,s.length=H.length->pcB (D.tab us s) D.pcn=pcB (E s) o.pc:=fun s aa=>by
   rw[d2];cases gd:o.pc with
   |none=>rfl
   |some x=>
    simp only[pcB];rw[gd] at dm;rw[b9 s aa x (Ft dm x (by simp[pcL]))]
  have f8:∀s,s.length=H.length->D.nxt.map (Rf.eval (D.tab us s))=nxt.map (Rf.eval (E s)):=fun s aa=>by
   rw[cu];exact HR nxt fun x Y=>b9 s aa x (Ft e4 x Y)
  have em:∀s,s.length=H.length->D.ob us s->∀q∈a9.map (Ob.mk o.pc)++aw.obs,q.holds (E s):=fun s aa fs q hq=>by
   have O:=fs q (by rw[d1];exact hq);have C:=Ae.1 e5 q hq;have h3:=Ft C;intro eq;have gp:pcv (D.tab us s) q.pc:=by
    cases er:q.pc with
    |none=>trivial
    |some x=>
     rw[er] at eq;have:=b9 s aa x (h3 x (by rw[er];exact AU _ (by simp[pcL])));show D.tab us s x= .bool true;rw[this];exact eq
   have:=O gp;unfold Pr.holds at this⊢;rw[HR q.p.args (fun x Y=>b9 s aa x (h3 x (AO _ Y)))] at this;exact this
  have cc:=c5 ⟨ae,⟨D.tg 0,D.owes,(R1 g.n aw.eqs o.pc nxt (a9.map (Ob.mk o.pc)++aw.obs)).map .e++H⟩⟩ (AN ..) b3;rw[<-fd] at cc;have d7:(D.fv.map Rf.e++H).map (Rf.eval T)=us++M:=by
   simp only[AL,List.map_map];rfl
  have e0:us.length=D.fv.length:=by simp[us]
  have ev:(us++M).take D.fv.length=us:=by rw[<-e0];simp
  have d9:(us++M).drop D.fv.length=M:=by rw[<-e0];simp
  simp only[Pr.holds,Bs.owes] at cc;rw[d7,ev,d9] at cc;obtain⟨⟨N,t,hN,ht⟩,d6⟩:=cc;have c9:M.length=H.length:=by simp[M]
  have c1:∀s,FZ (D.step us) M s->s.length=H.length:=fun s aa=>by
   induction aa with
   |zero=>exact c9
   |succ _ e _=>
    simp only[Bs.step] at e;cases hb:pcB (D.tab us _) D.pcn with
    |false=>rw[hb] at e;cases e
    |true=>rw[hb] at e;simp only[cond_true] at e;cases e;rw[cu];simp[c4]
  have f4:mQ (D.step us) M=t:=iF hN ht;have f2:∀j,j < H.length->T (g.n+j)=t.getD j default:=fun j hj=>by
   have hm:(g.n+j,(⟨D.tg j,D.res j,D.fv.map .e++H⟩:Ex))∈KD g.n (D.heads H) g.eqs:=by
    refine (KJ _ _ _ _).2 (.inr ⟨j,_,?_,rfl⟩);unfold Bs.heads;rw[d0];simp[hj]
   have:=hA.eqs _ (e1 _ hm);simp only at this;rw[this];unfold Ex.eval;simp only;rw[d7];unfold Bs.res;rw[ev,d9,f4]
  have ey:t.length=H.length:=c1 t (Qy N M t hN);have d5:E t=T:=by
   have e:T.upds g.n t=T:=by
    obtain⟨b1,b2,cs⟩:=OS t T g.n;refine Tab.ext' (fun x=>?_) b1 b2 cs;by_cases O:x < g.n
    .exact IL _ _ _ _ O
    .by_cases C:x < g.n+t.length
     .have hj:x - g.n < t.length:=by omega
      have h3:=HT t T g.n (x - g.n) t[x - g.n] (AF hj);rw[show g.n+(x - g.n)=x by omega] at h3;have h4:=f2 (x - g.n) (by omega);rw[show g.n+(x - g.n)=x by omega] at h4;rw[h3,h4];simp[hj]
     .exact gZ _ _ _ _ (by omega)
   show Ci (T.upds g.n t) aw.eqs=T;rw[e];exact QZ fun p X=>hA.eqs p (AU _ X)
  have el:∀id,l.mem.at id≠ .pad->hl.mem.at id≠ .pad:=by
   have H0:Gc T (E M) g.n (g.n+H.length) H:=fun j aI hj=>by
    have c0:j < H.length:=(AG.1 hj).1;exact⟨by omega,cy M j _ c9 (by simp[M,hj])⟩
   obtain⟨_,_,gl⟩:=IZ (J:=E M) cb c2 (a0 M).1 (a0 M).2.1 (a0 M).2.2 (a4 M) bb H0 (fun p X=>c5 ⟨ae,p⟩ (AK _ (AU _ (BL.2 ⟨p,X,rfl⟩))) b3) hR;intro id O C;have f3:id < hl.mem.length:=by
    rw[c3];rcases AQ id l.mem.length with h|h
    .exact h
    .exact absurd (Mem.at_ge h) O
   exact O (gl id f3 C)
  have db:∀s,Do T (E s) g.n:=fun s=>⟨a4 s,(a0 s).1,(a0 s).2.1⟩;have e9:∀n s,FZ (D.step us) M s->Hp (D.step us) n s=some t->∀ b0 a1 aN,Rel (E s) (g.n+H.length) b0 hl a1 aN->BY (E s) g.n W l.mem w b0 hl.mem aN->Code.roundsIn (fen r) al P c Q (n+1) a1 aN:=by
   intro n;induction n with
   |zero=>
    intro s aa ba b0 a1 aN c8 de;simp only[Hp] at ba;cases ba;rw[roundsIn_succ];obtain⟨_,_,dn⟩:=(c7 (E t) (a0 t).2.1 ae hl _ dk aw hr).2 (d4 t) c6;refine dn (fun q hq=>em t ey (d6 t aa) q (AO _ hq)) ?_ b0 a1 aN _ c8 fun x Y bi ad a' ac di cf=>?_
    .rw[d5];exact b3
    .cases b4.mem_iff.1 Y with
     |head=>
      exfalso;have:=ND.2 bi;rw[<-en t ey] at this;simp only[Bs.step,this,cond_true] at ht;cases ht
     |tail _ ch=>
      refine W0 (eA f7 x ch) ?_;have eu:=de.trans (hR.mem.tab (db t)) bb di;rw[d5] at eu cf bi;exact hO x ch bi ad a' ac eu cf
   |succ n ih=>
    intro s aa ba b0 a1 aN c8 de;simp only[Hp,AA] at ba;obtain⟨aq,bl,ba⟩:=ba;have dd:=c1 s aa;have ei:pcB (D.tab us s) D.pcn=true/\aq=nxt.map (Rf.eval (E s)):=by
     simp only[Bs.step] at bl;cases hb:pcB (D.tab us s) D.pcn with
     |false=>rw[hb] at bl;cases bl
     |true=>
      rw[hb] at bl;simp only[cond_true] at bl;cases bl;exact⟨rfl,f8 s dd⟩
    have eo:pcv (E s) o.pc:=ND.1 (by rw[<-en s dd];exact ei.1);have es:FZ (D.step us) M aq:= .succ aa bl;have gs:=c1 aq es;rw[roundsIn_succ];obtain⟨fn,_,dn⟩:=(c7 (E s) (a0 s).2.1 ae hl _ dk aw hr).2 (d4 s) c6;have e2:=em s dd (d6 s aa);have gm:pcv (E s) ae:=by
     cases ae with
     |none=>trivial
     |some x=>
      show E s x= .bool true;rw[a4 s x X];exact b3
    refine dn (fun q hq=>e2 q (AO _ hq)) gm b0 a1 aN _ c8 fun x Y bi ad a' ac di cf=>?_;cases b4.mem_iff.1 Y with
    |head=>
     rw[ga];show Code.roundsIn (fen r) al P c Q (n+1) a' ac;have H1:Gc (E s) (E aq) g.n (g.n+H.length) nxt:=fun j aI hj=>by
      have c0:j < nxt.length:=(AG.1 hj).1;exact⟨by omega,cy aq j _ gs (by rw[ei.2];simp[hj])⟩
     have ee:∀x,x < g.n->E aq x=E s x:=fun x Y=>by rw[a4 aq x Y,a4 s x Y]
     obtain⟨z1,z2,_⟩:=IZ (J:=E aq) ej (fun p X=>by rw[(a0 s).2.1];exact c2 p X) ((a0 aq).1.trans (a0 s).1.symm) ((a0 aq).2.1.trans (a0 s).2.1.symm) ((a0 aq).2.2.trans (a0 s).2.2.symm) ee bb H1
      (fun p X=>e2 ⟨o.pc,p⟩ (AU _ (BL.2 ⟨p,X,rfl⟩)) eo) cf
     exact ih aq es ba ad a' ac z1 (BY.matched z2 ee (AE _) (hR.mem.tab (db s)) el (de.trans (hR.mem.tab (db s)) bb di))
    |tail _ ch=>
     exfalso;have g3:=BN.1 (fn.perm b4).apart;exact g3.1 x ch ⟨eo,bi⟩
  have H0:Gc T (E M) g.n (g.n+H.length) H:=fun j aI hj=>by
   have c0:j < H.length:=(AG.1 hj).1;exact⟨by omega,cy M j _ c9 (by simp[M,hj])⟩
  obtain⟨z1,z2,_⟩:=IZ (J:=E M) cb c2 (a0 M).1 (a0 M).2.1 (a0 M).2.2 (a4 M) bb H0 (fun p X=>c5 ⟨ae,p⟩ (AK _ (AU _ (BL.2 ⟨p,X,rfl⟩))) b3) hR;exact wpIn_loop_rounds (N+1) (e9 N M .zero hN W a w z1 (BY.matched z2 (a4 M) (AE _) hR.mem el (BY.refl _ _ _ _ _)))
 .cases h
end
section
variable {T:Tab}{n ap:Nat}{W :Nat->Option Nat}{m:Mem}{w:World}{a:Act}
theorem Dx.refl (p:n<=ap)(b:Blk):Dx T n ap w b b:=by
 cases b with
 |pad=>exact .pad
 |gone=>exact .gone _
 |cells l e=>exact .cells fun W m Y h=>BR.mono0 (BY.refl _ _ _ _ _) p _ _ h
 |tok x ks e=>exact .same _ _ _
 |lp s u=>exact .lp fun W m v h=>h.up0 p
 |mrow x y ks e=>exact .mrow (.inl rfl) rfl rfl (fun _ _ _ h=>h)
 |mapb x al q aM aT=>exact .mapb (.inl rfl) rfl (fun _ _ _ h=>h) (fun _ _ _ h=>h)
theorem fo {b:Nat}{Y:Array Value}{e:TypeId}{l:Nat × Nat}(h:w.heap[b]? =some (.cells Y e l)):w.setRow b Y=w:=by
 have p:∀f:Obj->Obj,f (.cells Y e l)= .cells Y e l->w.heap.modify b f=w.heap:=by
  grind
 unfold World.setRow;rw[p _ rfl]
theorem ZF {l ak:Loc}{s:Sl}{e:TypeId}{ks:List Kd}(aw:l.tmps.loc=[])(M:T n= .list [])(aa:WA l s=some (.cv .nilSlice))(p:If { l with mem:=l.mem++[.tok n ks e] } l.mem.length n ks s=some ak)(y:Rel T n W l a w):
  ak.tmps.loc=[]/\ak.tmps.n=l.tmps.n/\∃ ad,Rel T (n+1) ad ak a w/\BY T n W l.mem w ad ak.mem w:=by
 have ht:∀id,Dx T n (n+1) w (l.mem.at id) (Mem.at (l.mem++[.tok n ks e]) id):=fun id=>by
  rw[Bj];split
  .rename_i he;rw[he,Mem.at_ge (AE _)];exact .new (AE _) (Nat.lt_succ_self _) M
  .exact Dx.refl (Nat.le_succ _) _
 have a0:=HD y.mem ht;have H:=QJ y.mem (Nat.le_succ _) ht;have E:Rel T (n+1) (DJ l.mem W) ⟨l.tmps,l.mem++[.tok n ks e]⟩ a w:=Rel.on (tmps:=l.tmps) (m:=l.mem) y a0 (Nat.le_succ _) H;have a1:Mem.at (l.mem++[.tok n ks e]) l.mem.length= .tok n ks e:=by rw[Bj,BH rfl]
 have bs:DJ l.mem W l.mem.length=none:=JV (Mem.at_ge (AE _));have ba:∀v,v=CV.nilSlice.value->BQ T (n+1) (DJ l.mem W) (l.mem++[.tok n ks e]) w (.vec l.mem.length n ks) v:=fun v hv=>by
  refine⟨Nat.lt_succ_self _,by rw[a1];exact (fun h=>by cases h),?_,fun X e he=> .inl ⟨bs,none,by rw[M];exact hv⟩⟩;rw[M];exact⟨[],rfl,Ak _,fun _=>rfl,none,0,hv,AE _,fun h=>absurd h (by simp)⟩
 cases s with
 |tmp t=>
  simp only[If] at p;cases p;simp only[WA] at aa;have b1:BQ T n W l.mem w (.cv .nilSlice) (a.tmps.getD t undef):=y.tmps t _ aa;refine⟨by rw[Bn.fix_loc];exact aw,Bn.fix_n _ _ _,_,⟨E.defers,?_,fun i c ab=>?_,H⟩,a0⟩
  .rw[E.size];exact (Bn.fix_n _ _ _).symm
  .rcases Bn.get_fix l.tmps aw t i _ ab with⟨O,C,D⟩|⟨O,C⟩
   .cases D;subst O;exact ba _ b1
   .exact E.tmps i c C
 |cell i off=>
  simp only[If] at p;split at p
  .rename_i c e' q;split at p
   .rename_i b2;cases p;have bo:i≠l.mem.length:=fun h=>by rw[h,a1] at q;cases q
    have bi:l.mem.at i= .cells c e':=by rw[Bj,BG bo] at q;exact q
    simp only[WA,bi] at aa;have hb:=H.blk i;rw[q] at hb;obtain⟨b,Y,O,C,D⟩:=hb;obtain⟨u,bx,b0⟩:=D.get aa;have bl:BR T (n+1) (DJ l.mem W) (l.mem++[.tok n ks e]) w (c.set off (.vec l.mem.length n ks)) Y:=by
     have:=D.set off (ba u b0);have e:Y.set off u=Y:=by
      obtain⟨bm,hu⟩:=AG.1 bx;rw[<-hu];exact List.set_getElem_self bm
     grind
    obtain⟨aF,s2⟩:=PE H q O C bl (AE _);rw[fo C] at aF s2;refine⟨aw,rfl,_,Rel.on E aF (AE _) s2,a0.trans y.mem (Nat.le_succ _) aF⟩
   .cases p
  .cases p
 |tok=>cases p
 |st=>cases p
 |row=>cases p
theorem Wn:∀{ps:List (Sl × TypeId × List Kd)} {l ak:Loc} {g ao:G},Hy l g ps=some (ak,ao)->l.tmps.loc=[]->Bo g ao/\(Agr T ao->∀ W a w,Rel T g.n W l a w->ak.tmps.n=l.tmps.n/\∃ ad,Rel T ao.n ad ak a w/\BY T g.n W l.mem w ad ak.mem w)
 |[],l,ak,g,ao,h,_=>by
  simp only[Hy] at h;cases h;exact⟨Bo.refl _,fun _ W a w p=>⟨rfl, W,p,BY.refl _ _ _ _ _⟩⟩
 |(s,e,ks)::r,l,ak,g,ao,h,hloc=>by
  simp only[Hy] at h;split at h
  .rename_i aa;split at h
   .cases h
   simp only[AA] at h;obtain⟨af,O,C⟩:=h;have aw:af.tmps.loc=[]:=by
    cases s with
    |tmp t=>simp only[If] at O;cases O;rw[Bn.fix_loc];exact hloc
    |cell i off=>
     simp only[If] at O;split at O
     .split at O
      .cases O;exact hloc
      .cases O
     .cases O
    |tok=>cases O
    |st=>cases O
    |row=>cases O
   obtain⟨u,k⟩:=Wn C aw;refine⟨(Bo.push _ _).trans u,fun y W a w p=>?_⟩;have hT:T g.n= .list []:=by
    have:=(y.of u).new.head;simpa [Ex.eval,oId,u0,Rf.eval] using this
   obtain⟨_,E, a0,H,M⟩:=ZF hloc hT aa O p;have D:(g.pushAll [⟨ "id",oId,[.c (.list [])]⟩]).n=g.n+1:=by rw[Cr];rfl
   obtain⟨X, aV,Y,q⟩:=k y a0 a w (by rw[D];exact H);rw[D] at q;exact⟨X.trans E, aV,Y,M.trans p.mem (Nat.le_succ _) q⟩
  .cases h
theorem YD:∀{ps:List (Sl × TypeId × List Kd)} {l ak:Loc} {g ao:G},Hy l g ps=some (ak,ao)->ak.tmps.n=l.tmps.n
 |[],l,ak,g,ao,h=>by simp only[Hy] at h;cases h;rfl
 |(s,e,ks)::r,l,ak,g,ao,h=>by
  simp only[Hy] at h;split at h
  .split at h
   .cases h
   simp only[AA] at h;obtain⟨af,O,C⟩:=h;rw[YD C];cases s with
   |tmp t=>simp only[If] at O;cases O;rw[Bn.fix_n]
   |cell i off=>
    simp only[If] at O;split at O
    .split at O
     .cases O;rfl
     .cases O
    .cases O
   |tok=>cases O
   |st=>cases O
   |row=>cases O
  .cases h
end
section
variable {P:Program}{T:Tab}{r:Option Nat}{al:Nat}
variable{c:Code}{aY:PC->Loc->G->Option (List CT × G)}
theorem sF (bb:∀u:Tab,u.lp=T.lp->D3 u (fun Q a w=>c.wpIn (fen r) al P Q a w) aY)(p:FF):
  D3 T (fun Q a w=>(Code.loop c).wpIn (fen r) al P Q a w) (jh aY p):=by
 intro ae l g L ao h;unfold jh at h;split at h
 .cases h
 rename_i bx;have a1:l.tmps.loc=[]:=by
  grind
 simp only[AD,AA] at h;obtain⟨⟨af,g1⟩,O,C⟩:=h;simp only at C;obtain⟨q,k1⟩:=Wn (T:=T) O a1;obtain⟨y,E⟩:=qK bb (p.full l.mem.length) ae af g1 L ao C;refine⟨q.trans y,fun D hp=>?_⟩;obtain⟨M,q2,q3⟩:=E D (hp.grow q);rw[YD O] at M;refine⟨M,q2,fun a3 a9 W a w Q H hO=>?_⟩;obtain⟨_, bt,Y,b3⟩:=k1 (D.of y) W a w H;exact q3 a3 a9 bt a w Q Y fun o ho ba ad X ac bl bi=>hO o ho ba ad X ac (b3.trans H.mem q.n bl) bi
theorem qJ (u:∀q:Tab,q.lp=T.lp->D3 q (fun Q a w=>c.wpIn (fen r) al P Q a w) aY)(p:FF):
  D3 T (fun Q a w=>(Code.loop c).wpIn (fen r) al P Q a w) (oh aY p):=by
 intro ae l g L ao h;exact sF u _ ae l g L ao h
end
section
variable {T:Tab}{n ap:Nat}{W :Nat->Option Nat}{m:Mem}{w:World}{a:Act}
theorem KM {l:CT->G->Option (AC × Mem)}:∀{L:List CT} {g ao:G} {c:AC} {ag:Mem},D4 l L g=some (c,ag,ao)->Bo g ao
 |[],g,ao,c,ag,h=>by simp only[D4] at h;cases h
 |[o],g,ao,c,ag,h=>by
  simp only[D4,AD,AA] at h;obtain⟨⟨aO,aP⟩,_,h⟩:=h;cases h;exact Bo.refl _
 |o::o2::os,g,ao,c,ag,h=>by
  simp only[D4,AD,AA] at h;obtain⟨⟨p,ai,q⟩,O,⟨aO,aP⟩,_,h⟩:=h;cases h;exact (KM (L:=o2::os) O).trans (Bo.push _ _)
theorem RD {ba:CT->G->Option (AC × Mem)}{I:(Nat->Option Nat)->Prop}{E:XK->Act->World->Value->World->Prop}{N:Nat}
  (Y:∀o g c m,ba o g=some (c,m)->Agr T g->∀ W a w,I W ->Rel T g.n W o.l a w->∃v ac ad,E o.k a w v ac/\BY T g.n W o.l.mem w ad m ac/\BX T g.n ad m ac/\BQ T g.n ad m ac c v):
  ∀{L:List CT} {g ao:G} {c:AC} {ag:Mem},D4 ba L g=some (c,ag,ao)->Agr T ao->FM T g N L->
  ∀o∈L,pcv T o.pc->∀ W a w,I W ->Rel T g.n W o.l a w->∃v ac ad,E o.k a w v ac/\BY T g.n W o.l.mem w ad ag ac/\BX T ao.n ad ag ac/\BQ T ao.n ad ag ac c v
 |[],g,ao,c,ag,h=>by simp only[D4] at h;cases h
 |[o],g,ao,c,ag,h=>by
  simp only[D4,AD,AA] at h;obtain⟨⟨aO,aP⟩,X,h⟩:=h;cases h;intro u _ o' p C W a w y q;simp at p;subst p;exact Y _ _ _ _ X u W a w y q
 |o::o2::os,g,ao,c,ag,h=>by
  simp only[D4,AD,AA] at h;obtain⟨⟨D,ai,l⟩,O,⟨aO,aP⟩,X,h⟩:=h;simp only[Ax,Prod.mk.injEq] at h;obtain⟨e1,e2,e3⟩:=h;subst e1;subst e2;subst e3;have H:=KM (L:=o2::os) O;intro u hg o' p C W a w y q;have bb:Agr T l:=u.of (Bo.push _ _);have pw:=BN.1 hg.apart;have bm:=u.new;have ab:=Cr l ((Ct (Gr o.pc) l.n aP ai).2++(Ha (l.n+(Ct (Gr o.pc) l.n aP ai).2.length) (Gr o.pc) aO D).2);rw[AP] at ab;cases p with
  |head=>
   have M:((Gr o.pc).eval T).toB=true:=(M4 o.pc).2 C;have bi:=q.up H.n;obtain⟨v,ac, b2,q1,q2,q3,q4⟩:=Y _ _ _ _ X bb W a w y bi;obtain⟨ad,aF,s2,s3⟩:=OX (n:=l.n) (b:=true) (ax:=aP) (ai:=ai) (c:=aO) (d:=D) (v:=v) M q3 (AE _) bm (Nat.le_of_eq ab.symm) q4;exact⟨v,ac, ad,q1,(q2.trans bi.mem (AE _) aF).down H.n,s2,s3⟩
  |tail _ p=>
   have M:((Gr o.pc).eval T).toB=false:=by
    cases hq:((Gr o.pc).eval T).toB with
    |false=>rfl
    |true=>exact absurd ⟨(M4 o.pc).1 hq,C⟩ (pw.1 o' p)
   obtain⟨v,ac, b2,q1,q2,q3,q4⟩:=RD Y (L:=o2::os) O bb ⟨fun x hx=>hg.each x (AK _ hx),pw.2⟩ o' p C W a w y q;obtain⟨ad,aF,s2,s3⟩:=OX (n:=l.n) (b:=false) (ax:=aP) (ai:=ai) (c:=aO) (d:=D) (v:=v) M q3 (AE _) bm (Nat.le_of_eq ab.symm) q4;exact⟨v,ac, ad,q1,q2.trans q.mem H.n aF,s2,s3⟩
end
section
variable {P:Program}
def Tab.atBase (T:Tab)(B:Nat):Tab:={ T with base:=B }
theorem LB (T:Tab)(B n:Nat):Do T (T.atBase B) n:=⟨fun _ _=>rfl,rfl,rfl⟩
theorem pB (T:Tab)(B:Nat)(e:Ex):e.eval (T.atBase B)=e.eval T:=by
 unfold Ex.eval;rw[HR (az:=T.atBase B) (J:=T) e.args (fun _ _=>rfl)]
variable{T:Tab}{g:G}
theorem RQ {B:Nat}(h:Agr T g):Agr (T.atBase B) g:=⟨fun p l=>by rw[pB];exact h.eqs p l,h.lps⟩
theorem QR {B:Nat}{ae:PC}:pcv (T.atBase B) ae↔pcv T ae:=by cases ae<;>exact Iff.rfl
theorem Y4 {B:Nat}{p:Pr}:p.holds (T.atBase B)↔p.holds T:=by
 unfold Pr.holds;rw[HR (az:=T.atBase B) (J:=T) p.args (fun _ _=>rfl)]
theorem Vb {B:Nat}(h:CB T g):CB (T.atBase B) g:=fun o l p=>Y4.2 (h o l (QR.1 p))
def pend:XK->Option Code
 | .normal=>none
 | .exit id=>some (.exit id)
 | .ret=>some .ret
end
section
variable {P:Program}{T:Tab}{call:CM}{an:Ys}{r:Option Nat}{al:Nat}
abbrev WR (P:Program)(T:Tab)(r:Option Nat)(al:Nat)(c:Code)(run:PC->Loc->G->Option (List CT × G)):Prop:=D3 T (fun Q a w=>c.wpIn (fen r) al P Q a w) run
def SO (P:Program)(r:Option Nat)(al:Nat)(a7:Bool)(aK:Nat)(c:Code)(Q:Exit->Act->World->Prop)(a:Act)(w:World):Prop:=
 match c,a7 with
 | .loop b,false=>Code.roundsIn (fen r) al P b Q aK a w
 |c,_=>c.wpIn (fen r) al P Q a w
variable{a7:Bool}{aK id:Nat}{c:Code}{Q:Exit->Act->World->Prop}{a:Act}{w:World}{ae:PC}{k:XK}{K:(Exit->Act->World->Prop)->Act->World->Prop}
theorem TD (h:SO P r al a7 aK c Q a w):c.wpIn (fen r) al P Q a w:=by
 cases c<;>cases a7<;>first|exact h|exact wpIn_loop_rounds aK h
theorem ij (l:∀b,c= .loop b->a7=true)(h:c.wpIn (fen r) al P Q a w):SO P r al a7 aK c Q a w:=by
 cases c<;>cases a7<;>first|exact h|(have:=l _ rfl;cases this)
theorem wD {Z:Array Oper}{s aq:RS}{o:Oper}(h:Cu P call an Z ae s o=some aq):aq.tmps.n=s.tmps.n:=ZA h
theorem aM {Z:Array Oper}{ae:PC}:∀{l:List Oper} {s aq:RS},Ee P call an Z ae l s=some aq->aq.tmps.n=s.tmps.n
 |[],s,aq,h=>by simp only[Ee] at h;cases h;rfl
 |o::l,s,aq,h=>by
  simp only[Ee,AD,AA] at h;obtain⟨aF,O,C⟩:=h;rw[aM C,wD O]
theorem FM.one {g:G}{l:Loc}{N:Nat}(u:EA g ae)(q:l.tmps.n=N):FM T g N [⟨k,ae,l⟩]/\∀o∈([⟨k,ae,l⟩]:List CT),pcv T o.pc->pcv T ae:=by
 refine⟨⟨fun o p=>?_,by simp⟩,fun o p h=>?_⟩
 .grind
 .grind
theorem WW (k:XK)(p:∀Q a w,Q k.ex a w->K Q a w):D3 T K (fun ae l g=>some ([⟨k,ae,l⟩],g)):=by
 intro ae l g L ao h;cases h;refine⟨Bo.refl _,fun E y=>?_⟩;obtain⟨O,C⟩:=FM.one (T:=T) (k:=k) (l:=l) y rfl;exact⟨O,C,fun _ D W a w Q u q=>p Q a w (q _ (Al.2 rfl) D W a w (BY.refl _ _ _ _ _) u)⟩
theorem Vu (h:k≠ .exit id)(l:Q k.ex a w):Exit.inBlock id Q k.ex a w:=by
 cases k with
 |normal=>exact l
 |ret=>exact l
 |exit p=>
  simp only[XK.ex,Exit.inBlock];rw[BG (fun e=>h (by rw[e]))];exact l
theorem pg {run:PC->Loc->G->Option (List CT × G)}(p:D3 T K run):
  D3 T (fun Q=>K (Exit.inBlock id Q)) (fun ae l g=>do
   let (L,g) <-run ae l g
   match I9 (.exit id) L with
   |none=>some (L,g)
   |some (e,Y)=>if noK (.exit id) Y then some (GL none none [⟨.normal,e.pc,e.l⟩] Y g) else none):=by
 intro ae l g b9 ao h;simp only[AD,AA] at h;obtain⟨⟨L,g1⟩,b5,h⟩:=h;obtain⟨ab,k1⟩:=p ae l g L g1 b5;simp only at h;split at h
 .rename_i a2;cases h;refine⟨ab,fun H C=>?_⟩;obtain⟨q1,q2,q3⟩:=k1 H C;refine⟨q1,q2,fun O a1 W a w Q M hO=>q3 O a1 W a w _ M fun o O C ad D ac aa p=>?_⟩;exact Vu (Sf a2 o O) (hO o O C ad D ac aa p)
 .rename_i e Y a2;split at h
  .rename_i b3;simp only[Ax] at h;obtain⟨b1,bm⟩:=L1 a2;obtain⟨aw,E⟩:=J0 (T:=T) (N:=l.tmps.n) h;refine⟨ab.trans aw,fun H C=>?_⟩;obtain⟨q1,q2,q3⟩:=k1 (H.of aw) C;have ba:=q1.perm bm;have he:=ba.each e (AN ..);have pw:=BN.1 ba.apart;have b2:FM T g1 l.tmps.n ([⟨.normal,e.pc,e.l⟩]++Y):=by
    refine⟨fun x u=>?_,BN.2 ⟨fun y hy hc=>pw.1 y hy hc,pw.2⟩⟩;cases u with
    |head=>exact he
    |tail _ u=>exact ba.each x (AK _ u)
   obtain⟨t1,t2,t3⟩:=E H b2 (fun q hq=>by cases hq) (fun q hq=>by cases hq);refine⟨t1,fun x u a3=>?_,fun b4 a1 W a w Q M hO=>?_⟩
   .grind
   .have bl:=t3 g.n W l.mem w Q ab.n M.mem hO;refine q3 (b4.of aw) a1 W a w _ M fun x u a3 ad D ac aa p=>?_;have X:=bm.mem_iff.1 u;cases X with
    |head=>
     rw[b1];simp only[XK.ex,Exit.inBlock,if_true];exact bl ⟨.normal,e.pc,e.l⟩ (AN ..) a3 ad D ac aa p
    |tail _ X=>exact Vu (eA b3 x X) (bl x (AK _ X) a3 ad D ac aa p)
  .cases h
end
def Tab.wf (T:Tab)(F:Nat->Nat->Prop):Tab:={ T with fr:=F }
structure Chg (T:Tab) (F F':Nat->Nat->Prop) (ρ ρ':Nat->Option Nat) (m m':Mem) (w:World):Prop where
 same:∀id,m.at id≠ .pad->m'.at id=m.at id/\ ρ' id= ρ id
 safe:∀b off,Bt (T.wf F) ρ m w b off->Bt (T.wf F') ρ' m' w b off
section
variable {T:Tab}{F a5:Nat->Nat->Prop}{n:Nat}{W ad:Nat->Option Nat}{m ag:Mem}{w:World}
mutual
theorem BQ.chg (h:Chg T F a5 W ad m ag w):∀(c:AC) (v:Value),BQ (T.wf F) n W m w c v->BQ (T.wf a5) n ad ag w c v
 | .any,_,_=>trivial
 | .anyc,_,hh=>hh
 | .on _ a,v,hh=>⟨hh.1,fun O=>BQ.chg h a v (hh.2 O)⟩
 | .gd _ a,v,hh=>⟨hh.1,fun O=>BQ.chg h a v (hh.2.1 O),hh.2.2⟩
 | .cb _,_,hh=>hh
 | .b _,_,hh=>hh
 | .nb _,_,hh=>hh
 | .ci _ _,_,hh=>hh
 | .i _ _ _ _,_,hh=>hh
 | .cv _,_,hh=>hh
 | .v _,_,hh=>hh
 | .s _,_,hh=>hh
 | .ptr id off,v,⟨b,O,C,h3⟩=>⟨b,by rw[(h.same id (Cf h3)).2];exact O,C,by rw[(h.same id (Cf h3)).1];exact h3⟩
 | .pix id base B aO x aG,v,⟨h0,b,j,O,C,h5,h6,h7,h3⟩=>⟨h0,b,j,by rw[(h.same id (Cf h3)).2];exact O,C,h5,h6,h7,by rw[(h.same id (Cf h3)).1];exact h3⟩
 | .ro x ks,v,⟨h0,C⟩=>⟨h0,Bk.mono (fun b off aa=>⟨h.safe b off aa,rfl⟩) _ _ v C⟩
 | .rp x t off ks,v,⟨h0,j,b,o,us,C,h3,h4,h5,h6⟩=>⟨h0,j,b,o,us,C,h3,h4,h5,Bw.mono (fun b off aa=>⟨h.safe b off aa,rfl⟩) _ _ _ _ h6⟩
 | .vec id x ks,v,⟨h0,hp,C,h3⟩=>⟨h0,by rw[(h.same id hp).1];exact hp,Bk.mono (fun b off aa=>⟨h.safe b off aa,rfl⟩) _ _ v C,fun X e p=>by
   rw[(h.same id hp).1] at p;rcases h3 X e p with⟨af,aj⟩|⟨b,I,Y,af,aj,q,u⟩
   .exact .inl ⟨by rw[(h.same id hp).2];exact af,aj⟩
   .exact .inr ⟨b,I,Y,by rw[(h.same id hp).2];exact af,aj,q,u⟩⟩
 | .fn f first I,v,⟨Y,us,O,C,h3⟩=>⟨Y,us,O,BR.chg h first Y C,BR.chg h I us h3⟩
 | .sel x alts,v,⟨h0,j,O,C,h3⟩=>⟨h0,j,O,C,CG.chg h alts j.toNat v h3⟩
 | .yl id,v,⟨b,O,C,h3⟩=>⟨b,by rw[(h.same id (Cf h3)).2];exact O,C,by rw[(h.same id (Cf h3)).1];exact h3⟩
 | .asl id off len,v,⟨b,O,C,h3⟩=>⟨b,by rw[(h.same id (Cf h3)).2];exact O,C,by rw[(h.same id (Cf h3)).1];exact h3⟩
 | .rsv id x ks,v,⟨h0,hp,C,h4,h3⟩=>⟨h0,by rw[(h.same id hp).1];exact hp,C,h4,fun X e p=>by
   rw[(h.same id hp).1] at p;rcases h3 X e p with⟨af,aj⟩|⟨b,len,I,Y,af,aj,D,q,u⟩
   .exact .inl ⟨by rw[(h.same id hp).2];exact af,aj⟩
   .exact .inr ⟨b,len,I,Y,by rw[(h.same id hp).2];exact af,aj,D,q,u⟩⟩
 | .mr id y,v,⟨⟨O,hp⟩,j,a,I,k1,E,k3,k4,k5⟩=>⟨⟨O,by rw[(h.same id hp).1];exact hp⟩,j,a,I,k1,E,k3,k4,fun x ks e p=>by
   rw[(h.same id hp).1] at p;rcases k5 x ks e p with⟨af,aj⟩|⟨b,Y,af,aj,q,u⟩
   .exact .inl ⟨by rw[(h.same id hp).2];exact af,aj⟩
   .exact .inr ⟨b,Y,by rw[(h.same id hp).2];exact af,aj,q,u⟩⟩
 | .mp id y t sz off,v,⟨⟨O,h1',hp⟩,j,L,b,k1,E,k3,k4,k5⟩=>⟨⟨O,h1',by rw[(h.same id hp).1];exact hp⟩,j,L,b,k1,E,k3,k4,fun x ks e p=>by
   rw[(h.same id hp).1] at p;rw[(h.same id hp).2];exact k5 x ks e p⟩
 | .mv id,v,⟨b,O,C,h3⟩=>⟨b,by rw[(h.same id (Cf h3)).2];exact O,C,by rw[(h.same id (Cf h3)).1];exact h3⟩
 | .agg l,v,⟨Y,O,C⟩=>⟨Y,O,BR.chg h l Y C⟩
 | .tup l,v,⟨Y,O,C⟩=>⟨Y,O,BR.chg h l Y C⟩
theorem BR.chg (h:Chg T F a5 W ad m ag w):∀(l:List AC) (Y:List Value),BR (T.wf F) n W m w l Y->BR (T.wf a5) n ad ag w l Y
 |[],_,hh=>hh
 |c::l,_,⟨u,us,O,C,h3⟩=>⟨u,us,O,BQ.chg h c u C,BR.chg h l us h3⟩
theorem CG.chg (h:Chg T F a5 W ad m ag w):∀(l:List AC) (j:Nat) (v:Value),CG (T.wf F) n W m w l j v->CG (T.wf a5) n ad ag w l j v
 |[],_,_,hh=>hh
 |c::_,0,v,hh=>BQ.chg h c v hh
 |_::l,j+1,v,hh=>CG.chg h l j v hh
end
variable{id k b:Nat}{ac:World}
theorem Cj.chg (h:Chg T F a5 W ad m ag w)(hp:m.at id≠ .pad)(hk:∀b,(m.at id).tracked=true-> W id=some b->(∀off,F b off)->∀off,a5 b off)(u:Cj (T.wf F) n W m w id (m.at id)):Cj (T.wf a5) n ad ag w id (ag.at id):=by
 rw[(h.same id hp).1];have H:=(h.same id hp).2;cases M:m.at id with
 |pad=>trivial
 |gone=>trivial
 |cells l e=>
  rw[M] at u;obtain⟨b,Y,O,C,p⟩:=u;exact⟨b,Y,by rw[H];exact O,C,BR.chg h l Y p⟩
 |tok x ks e=>
  rw[M] at u;obtain⟨X,l,O,C⟩:=u;refine⟨X,l,O,?_⟩;rcases C with C|⟨b,Y,C,p,D,E⟩
  .exact .inl (by rw[H];exact C)
  .exact .inr ⟨b,Y,by rw[H];exact C,p,D,hk b (by rw[M];rfl) C E⟩
 |mrow x y ks e=>
  rw[M] at u;obtain⟨X,l,O,a2,a4,C⟩:=u;refine⟨X,l,O,a2,a4,?_⟩;rcases C with⟨C,p⟩|⟨b,Y,us,C,p,D,E⟩
  .exact .inl ⟨by rw[H];exact C,p⟩
  .exact .inr ⟨b,Y,us,by rw[H];exact C,p,Bu.mono (fun b off aa=>⟨h.safe b off aa,rfl⟩) D,hk b (by rw[M];rfl) C E⟩
 |mapb x al ka aM aT=>
  rw[M] at u;obtain⟨X,l,b,ay,a3,O,C,p,D,E,h6,h7⟩:=u;refine⟨X,l,b,ay,a3,O,by rw[H];exact C,p,D,E,fun i us e hl he=>?_,h7⟩;obtain⟨u1,u2,q1,q2,q3⟩:=h6 i us e hl he;exact⟨u1,u2,q1,DL.mono (fun b off aa=>⟨h.safe b off aa,rfl⟩) q2,DL.mono (fun b off aa=>⟨h.safe b off aa,rfl⟩) q3⟩
 |lp x st=>
  rw[M] at u;obtain⟨b,q,O,C,p,D,E,h6,h7,j,h8,h9⟩:=u;exact⟨b,q,by rw[H];exact O,C,p,D,E,h6,fun i c hc=>BQ.chg h c _ (h7 i c hc),j,BQ.chg h st _ h8,h9⟩
theorem BX.wf (l:BX (T.wf F) n W m w)(h:Chg T F a5 W W m m w)(q:∀b off,w.heap.size<=b->a5 b off)(u:∀id b,(m.at id).tracked=true-> W id=some b->(∀off,F b off)->∀off,a5 b off):BX (T.wf a5) n W m w:=by
 refine⟨fun id=>?_,l.inj,q⟩;by_cases p:m.at id= .pad
 .rw[p];trivial
 .exact Cj.chg h p (u id) (l.blk id)
theorem BX.more (y:BX (T.wf F) n W m w)(h:Chg T F a5 W ad m ag w)(a9:m.at k= .pad)(D:∀id,m.at id= .pad->id≠k->ag.at id= .pad)(hb: ad k=some b)(a4:∀id,(m.at id).tracked=true-> W id≠some b)
  (aw:Cj (T.wf a5) n ad ag w k (ag.at k)) (hF:∀b off,w.heap.size<=b->a5 b off) (hk:∀id b,(m.at id).tracked=true-> W id=some b->(∀off,F b off)->∀off,a5 b off):BX (T.wf a5) n ad ag w:=by
 have H:∀id,(ag.at id).tracked=true->id=k\/((m.at id).tracked=true/\ ad id= W id):=fun id E=>by
  by_cases e:id=k
  .exact .inl e
  .by_cases l:m.at id= .pad
   .rw[D id l e] at E;cases E
   .obtain⟨O,C⟩:=h.same id l;grind
 refine⟨fun id=>?_,fun id M X t1 t2 q u=>?_,hF⟩
 .by_cases e:id=k
  .rw[e];exact aw
  .by_cases l:m.at id= .pad
   .rw[D id l e];trivial
   .exact Cj.chg h l (hk id) (y.blk id)
 .rcases H id t1 with O|⟨O,C⟩<;>rcases H M t2 with p|⟨p,Y⟩
  .rw[O,p]
  .grind
  .grind
  .rw[C] at q;rw[Y] at u;exact y.inj id M X O p q u
theorem BY.wf (h:BY (T.wf F) n W m w ad ag ac):BY (T.wf a5) n W m w ad ag ac:=⟨h.os,h.tape,h.output,h.size,h.mlen,h.rho,h.untr,h.fresh,h.old,h.tok,h.row⟩
theorem BY.more {n0:Nat}{aX:Nat->Option Nat}{aP:Mem}{aH:World}(s:BY T n0 aX aP aH W m w)(aa:∀id,m.at id≠ .pad->ag.at id=m.at id/\ ad id= W id)(ba:m.at k= .pad)(a1:∀id,m.at id= .pad->id≠k->ag.at id= .pad)(a9:(ag.at k).ptrOk=true)(hb: ad k=some b)(hw:aH.heap.size<=b):BY T n0 aX aP aH ad ag w:=by
 have E:∀id,aP.at id≠ .pad->m.at id≠ .pad:=s.mlen;refine⟨s.os,s.tape,s.output,s.size,fun id l=>?_,fun id l=>?_,fun id l p=>?_,fun id b' l p e=>?_,s.old,fun id x ks e q=>?_,fun id x y ks e q=>?_⟩
 .grind
 .have O:=s.rho id l;obtain⟨C,D⟩:=aa id (Cf O.2);grind
 .rw[(aa id (E id l)).1] at p;exact s.untr id l p
 .by_cases e2:id=k
  .grind
  .by_cases Y:m.at id= .pad
   .rw[a1 id Y e2] at p;cases p
   .obtain⟨C,D⟩:=aa id Y;rw[C] at p;rw[D] at e;exact s.fresh id b' l p e
 .have l:aP.at id≠ .pad:=by rw[q];exact fun h=>by cases h
  obtain⟨C,D⟩:=aa id (E id l);rw[C];rcases s.tok id x ks e q with⟨u,H,M⟩|⟨u,H⟩
  .grind
  .grind
 .have l:aP.at id≠ .pad:=by rw[q];exact fun h=>by cases h
  obtain⟨C,D⟩:=aa id (E id l);rw[C];rcases s.row id x y ks e q with u|⟨L,aF,X,u,H,⟨M,a4,a2⟩|⟨M,a4⟩⟩
  .exact .inl u
  .grind
  .grind
theorem Cj.step0 (h:BY T n W m w W m ac)(D:∀b,(m.at id).tracked=true-> W id=some b->ac.heap[b]? =w.heap[b]?)(u:Cj T n W m w id (m.at id)):Cj T n W m ac id (m.at id):=by
 cases X:m.at id with
 |pad=>trivial
 |gone=>trivial
 |cells l e=>
  rw[X] at u D;obtain⟨b,Y,O,C,p⟩:=u;exact⟨b,Y,O,by rw[D b rfl O];exact C,BR.mono0 h (AE _) l Y p⟩
 |lp x st=>
  rw[X] at u D;obtain⟨b,q,O,C,p,E,H,h9,h6,j,h7,h8⟩:=u;exact⟨b,q,O,by rw[D b rfl O];exact C,p,E,H,h9,fun i c hc=>BQ.mono0 h (AE _) _ _ (h6 i c hc),j,BQ.mono0 h (AE _) _ _ h7,h8⟩
 |tok x ks e=>
  rw[X] at u D;obtain⟨M,r,O,C⟩:=u;refine⟨M,r,O,?_⟩;rcases C with C|⟨b,Y,C,p,E,H⟩
  .exact .inl C
  .exact .inr ⟨b,Y,C,by rw[D b rfl C];exact p,E,H⟩
 |mrow x y ks e=>
  rw[X] at u D;obtain⟨M,r,O,a0,a1,C⟩:=u;refine⟨M,r,O,a0,a1,?_⟩;rcases C with⟨C,p⟩|⟨b,Y,us,C,p,E,H⟩
  .exact .inl ⟨C,p⟩
  .exact .inr ⟨b,Y,us,C,by rw[D b rfl C];exact p,Bu.mono (fun _ _ aa=>h.safe0 aa) E,H⟩
 |mapb x al ka aM aT=>
  rw[X] at u D;obtain⟨M,l,b,ay,a3,O,C,p,E,H,h6,h7⟩:=u;refine⟨M,l,b,ay,a3,O,C,by rw[D b rfl C];exact p,E,H,fun i us e hl he=>?_,h7⟩;obtain⟨u1,u2,q1,q2,q3⟩:=h6 i us e hl he;exact⟨u1,u2,q1,DL.mono (fun _ _ aa=>h.safe0 aa) q2,DL.mono (fun _ _ aa=>h.safe0 aa) q3⟩
theorem Q2 (p:BX T n W m w)(o:Obj)(ap:Nat):BY T ap W m w W m (w.alloc o):=
 ⟨rfl,rfl,rfl,by simp,fun _ h=>h,fun _ h=>⟨rfl,h⟩,fun _ _ h=>h,fun id b h q _=>(by rw[h] at q;cases q),fun k u _=>CZ w o k u,
  fun id y ks e h=> .inl ⟨h,rfl,fun b l=>CZ w o b (p.lt (by rw[h];rfl) l)⟩,
  fun id x y ks e h=> .inr ⟨x,y,ks,h,rfl,.inl ⟨rfl,rfl,fun b Y l C=>⟨Y,by rw[CZ w o b (p.lt (by rw[h];rfl) l)];exact C,rfl⟩⟩⟩⟩
theorem oo (l:BX (T.wf F) n W m w)(o:Obj)(h:Chg T F a5 W W m m w)(u:∀b off,w.heap.size < b->a5 b off)(y:∀id b,(m.at id).tracked=true-> W id=some b->(∀off,F b off)->∀off,a5 b off):BX (T.wf a5) n W m (w.alloc o):=by
 have D:BY (T.wf a5) n W m w W m (w.alloc o):=(Q2 l o n).wf;refine⟨fun id=>?_,l.inj,fun b off p=>u b off (by simp at p;omega)⟩;by_cases q:m.at id= .pad
 .rw[q];trivial
 .exact Cj.step0 D (fun b C p=>CZ w o b (l.lt C p)) (Cj.chg h q (y id) (l.blk id))
theorem qQ {P:Program}{t:TypeId}{a:Act}{o:Oper}{l:List AC}(h:J3 P t []=some (Sv l t []))(u:o.op= .alloc t):
  ∃Y:List Value,(∀w:World,(execOp a.eval o).run P w= .ok (.value (.pointer (some ⟨w.heap.size,0,none⟩))) (w.alloc (.cells Y.toArray t)))/\∀(T:Tab) (n:Nat) (W :Nat->Option Nat) (m:Mem) (w:World),BR T n W m w l Y:=by
 unfold J3 at h;simp only[AD,AA] at h;obtain⟨i,ab,z,y,ak,q,h⟩:=h;have p:ak=l:=by
  simp only[Sv,Ax,R.mk.injEq,BF,List.cons.injEq,Blk.cells.injEq] at h;exact h.2.1.1.1
 subst p;have D:∀(T:Tab) (n:Nat) (W :Nat->Option Nat) (m:Mem) (w:World),∃Y,z.cells=(Y:List Value).toArray/\BR T n W m w ak Y:=fun T n W m w=>by
  obtain⟨Y,O,C,_,_⟩:=ET q (M6 (T:=T) (n:=n) (W := W) (m:=m) (w:=w) z);exact⟨Y,O,C⟩
 refine⟨z.cells.toList,fun w=>?_,fun T n W m w=>?_⟩
 .simp[execOp,u,Instr.alloc,JA ab y,QE]
 .obtain⟨Y,O,C⟩:=D T n W m w;rw[O];exact C
end
section
variable {P:Program}{T:Tab}{call:CM}{an:Ys}{r:Option Nat}{al:Nat}{Z:Array Oper}{ae:PC}
theorem Em {a b:Nat}(h:Nat.blt a b=true):a < b:=Aa h
theorem Yj {b:Bool}{q:List Nat}{R i k:Nat}:∀{l:List Nat} {U:Nat},V1 b q R i k U l=true->∀j c,l[j]? =some c->U+j < i->(k=3->R.testBit (U+j)=true\/c=0)/\(k=2->R.testBit (U+j)=true\/c<=2\/b=true/\c<=3)
 |[],_,_,j,c,hj,_=>by simp at hj
 |aO::l,U,h,j,c,hj,hlt=>by
  simp only[V1,AB] at h;cases j with
  |zero=>
   simp at hj;subst hj;have O:=h.1;have u:Nat.ble i U=false:=by
    cases y:Nat.ble i U with
    |false=>rfl
    |true=>have:=Aa y;omega
   simp only[u,Bool.false_or,Nat.add_zero] at O⊢;refine⟨fun p=>?_,fun p=>?_⟩
   .subst p;simp only[show Nat.beq 3 3=true from rfl,if_true,Ah] at O;exact O.imp (fun h=>h) fun h=>yI h
   .subst p;simp only[show Nat.beq 2 3=false from rfl,show Nat.beq 2 2=true from rfl,Ah] at O;rcases (show R.testBit U=true\/Nat.ble aO (bif b then 3 else 2)=true by simpa using O) with h|h
    .exact .inl h
    .cases b with
     |false=>exact .inr (.inl (Aa h))
     |true=>exact .inr (.inr ⟨rfl,Aa h⟩)
  |succ j=>
   have:=Yj h.2 j c (by simpa using hj) (by omega);rw[show U+1+j=U+(j+1) by omega] at this;exact this
theorem aZ {b:Bool}{p:List Nat}:∀{l ks:List Nat} {y:Nat},Zv b p y l ks=true->∀i R k,l[i]? =some R->ks[i]? =some k->∀j c,p[j]? =some c->j < y+i->(k=3->R.testBit j=true\/c=0)/\(k=2->R.testBit j=true\/c<=2\/b=true/\c<=3)
 |[],_,_,_,i,R,k,h,_,_,_,_,_=>by simp at h
 |_::_,[],_,_,i,R,k,_,h,_,_,_,_=>by simp at h
 |R0::l,k0::ks,y,h,i,R,k,O,C,j,c,hj,hlt=>by
  simp only[Zv,AB] at h;cases i with
  |zero=>
   simp at O C;subst O;subst C;have:=Yj h.1 j c hj (by omega);rw[AM] at this;exact this
  |succ i=>exact aZ h.2 i R k (by simpa using O) (by simpa using C) j c hj (by omega)
theorem dI {R:Nat}:∀{n aP:Nat} {l:List Nat},WB R n aP l=true->∀m c,l[m]? =some c->m < n->R.testBit (aP+m)=true\/c=0
 |0,_,_,_,m,c,_,h=>by omega
 |n+1,_,[],_,m,c,h,_=>by simp at h
 |n+1,aP,aO::l,h,m,c,hm,hlt=>by
  simp only[WB,AB,Ah] at h;cases m with
  |zero=>
   simp at hm;subst hm;exact h.1.imp (fun h=>h) fun h=>yI h
  |succ m=>
   have:=dI h.2 m c (by simpa using hm) (by omega);rw[show aP+1+m=aP+(m+1) by omega] at this;exact this
theorem Rk:∀{l:List Nat} {U j:Nat},l[j]? =some 4->U+j∈Nn U l
 |[],_,j,h=>by simp at h
 |c::l,U,j,h=>by
  cases j with
  |zero=>
   simp at h;subst h;exact AN
  |succ j=>
   have:=Rk (l:=l) (U:=U+1) (j:=j) (by simpa using h);rw[show U+1+j=U+(j+1) by omega] at this;unfold Nn;cases Nat.beq c 4 with
   |true=>exact AK _ this
   |false=>exact this
theorem dA {u q:List Nat}:∀{p ks:List Nat} {y:Nat},wides u q y p ks=true->∀i R k,p[i]? =some R->ks[i]? =some k->k≠0->k≠4->∀j∈q,j < y+i->R.testBit j=true->WB R j 0 u=true
 |[],_,_,_,i,R,k,h,_,_,_,_,_,_,_=>by simp at h
 |_::_,[],_,_,i,R,k,_,h,_,_,_,_,_,_=>by simp at h
 |R0::p,k0::ks,y,h,i,R,k,O,C,n0,n4,j,hj,hlt,hb=>by
  simp only[wides,AB] at h;cases i with
  |zero=>
   simp at O C;subst O;subst C;have D:=h.1;have H:Nat.beq k0 0=false:=by
    cases l:Nat.beq k0 0 with
    |false=>rfl
    |true=>exact absurd (yI l) n0
   have M:Nat.beq k0 4=false:=by
    cases l:Nat.beq k0 4 with
    |false=>rfl
    |true=>exact absurd (yI l) n4
   rw[H,M,Bool.false_or,Bool.false_or] at D;have E:=Ae.1 D j hj;have X:Nat.ble y j=false:=by
    cases l:Nat.ble y j with
    |false=>rfl
    |true=>have:=Aa l;omega
   rw[X,hb] at E;simpa using E
  |succ i=>exact dA h.2 i R k (by simpa using O) (by simpa using C) n0 n4 j hj (by omega) hb
mutual
theorem AC.nlt_ok {n ap:Nat}{W :Nat->Option Nat}{m:Mem}{w:World}:∀(c:AC) (z:Value),AC.nlt n c=true->BQ T ap W m w c z->BQ T n W m w c z
 | .any,_,_,_=>trivial
 | .anyc,_,_,h=>h
 | .on _ a,z,hc,h=>by
  simp only[AC.nlt,AB] at hc;exact⟨Em hc.1,fun O=>AC.nlt_ok a z hc.2 (h.2 O)⟩
 | .gd _ a,z,hc,h=>by
  simp only[AC.nlt,AB] at hc;exact⟨Em hc.1,fun O=>AC.nlt_ok a z hc.2 (h.2.1 O),h.2.2⟩
 | .cb _,_,_,h=>h
 | .b _,_,hc,h=>⟨Em hc,h.2⟩
 | .nb _,_,hc,h=>⟨Em hc,h.2⟩
 | .ci _ _,_,_,h=>h
 | .i _ _ _ _,_,hc,h=>⟨Em hc,h.2⟩
 | .cv _,_,_,h=>h
 | .v _,_,hc,h=>⟨Em hc,h.2⟩
 | .s _,_,hc,h=>⟨Em hc,h.2⟩
 | .ptr _ _,_,_,h=>h
 | .pix _ _ _ _ _ _,_,hc,h=>⟨Em hc,h.2⟩
 | .ro _ _,_,hc,h=>⟨Em hc,h.2⟩
 | .rp _ _ _ _,_,hc,h=>by
  simp only[AC.nlt,AB] at hc;exact⟨⟨Em hc.1,Em hc.2⟩,h.2⟩
 | .vec _ _ _,_,hc,h=>⟨Em hc,h.2⟩
 | .fn _ f c,_,hc,⟨Y,us,e,O,C⟩=>by
  simp only[AC.nlt,AB] at hc;exact⟨Y,us,e,AC.nltL_ok f Y hc.1 O,AC.nltL_ok c us hc.2 C⟩
 | .sel _ l,z,hc,⟨_,j,e,O,C⟩=>by
  simp only[AC.nlt,AB] at hc;exact⟨Em hc.1,j,e,O,AC.nltA_ok l j.toNat z hc.2 C⟩
 | .yl _,_,_,h=>h
 | .asl _ _ _,_,_,h=>h
 | .rsv _ _ _,_,hc,h=>⟨Em hc,h.2⟩
 | .mr _ _,_,hc,h=>⟨⟨Em hc,h.1.2⟩,h.2⟩
 | .mp _ _ _ _ _,_,hc,h=>by
  simp only[AC.nlt,AB] at hc;exact⟨⟨Em hc.1,Em hc.2,h.1.2.2⟩,h.2⟩
 | .mv _,_,_,h=>h
 | .agg l,_,hc,⟨Y,e,O⟩=>⟨Y,e,AC.nltL_ok l Y hc O⟩
 | .tup l,_,hc,⟨Y,e,O⟩=>⟨Y,e,AC.nltL_ok l Y hc O⟩
theorem AC.nltL_ok {n ap:Nat}{W :Nat->Option Nat}{m:Mem}{w:World}:∀(l:List AC) (Y:List Value),AC.nltL n l=true->BR T ap W m w l Y->BR T n W m w l Y
 |[],_,_,h=>h
 |a::l,Y,hc,⟨u,us,e,O,C⟩=>by
  simp only[AC.nltL,AB] at hc;exact⟨u,us,e,AC.nlt_ok a u hc.1 O,AC.nltL_ok l us hc.2 C⟩
theorem AC.nltA_ok {n ap:Nat}{W :Nat->Option Nat}{m:Mem}{w:World}:∀(l:List AC) (j:Nat) (z:Value),AC.nltL n l=true->CG T ap W m w l j z->CG T n W m w l j z
 |[],_,_,_,h=>h
 |a::l,0,z,hc,h=>by
  simp only[AC.nltL,AB] at hc;exact AC.nlt_ok a z hc.1 h
 |a::l,j+1,z,hc,h=>by
  simp only[AC.nltL,AB] at hc;exact AC.nltA_ok l j z hc.2 h
end
theorem VB:∀{m ag:Mem},Cx m ag=true->∀id x ks e,m.at id= .tok x ks e->ag.at id= .tok x ks e
 |[],_,_,id,x,ks,e,h=>by simp[Mem.at] at h
 |b::m,ag,hh,id,x,ks,e,h=>by
  cases id with
  |zero=>
   have p:b= .tok x ks e:=by simpa [Mem.at] using h
   subst p;cases ag with
   |nil=>simp[Cx] at hh
   |cons l ag=>
    simp only[Cx,AB] at hh;have:=Yd _ _ hh.1;simp[Mem.at,<-this]
  |succ id=>
   have p:Mem.at m id= .tok x ks e:=by simpa [Mem.at] using h
   have q:Cx m ag.tail=true:=by
    cases b with
    |tok _ _ _=>
     cases ag with
     |nil=>simp[Cx] at hh
     |cons l ag=>simp only[Cx,AB] at hh;exact hh.2
    |mrow _ _ _ _=>
     cases ag with
     |nil=>simp[Cx] at hh
     |cons l ag=>simp only[Cx,AB] at hh;exact hh.2
    |_=>simpa [Cx] using hh
   have:=VB q id x ks e p;cases ag with
   |nil=>simp[Mem.at] at this
   |cons l ag=>simpa [Mem.at] using this
section
variable {n:Nat}{W ad:Nat->Option Nat}{m ag:Mem}{w ac:World}
mutual
theorem BQ.monoV (h:BY T n W m w ad ag ac){k:Nat}:∀(c:AC) (v:Value),AC.noVec c=true->BQ T k W m w c v->BQ T k ad ag ac c v
 | .any,_,_,_=>trivial
 | .anyc,_,_,hh=>hh
 | .on _ a,v,hc,hh=>⟨hh.1,fun O=>BQ.monoV h a v hc (hh.2 O)⟩
 | .gd _ a,v,hc,hh=>⟨hh.1,fun O=>BQ.monoV h a v hc (hh.2.1 O),hh.2.2⟩
 | .cb _,_,_,hh=>hh
 | .b _,_,_,hh=>hh
 | .nb _,_,_,hh=>hh
 | .ci _ _,_,_,hh=>hh
 | .i _ _ _ _,_,_,hh=>hh
 | .cv _,_,_,hh=>hh
 | .v _,_,_,hh=>hh
 | .s _,_,_,hh=>hh
 | .ptr id off,v,_,⟨b,O,C,h3⟩=>⟨b,by rw[(h.rho id h3).1];exact O,C,(h.rho id h3).2⟩
 | .pix id base B aO x aG,v,_,⟨h0,b,j,O,C,h5,h6,h7,h3⟩=>⟨h0,b,j,by rw[(h.rho id h3).1];exact O,C,h5,h6,h7,(h.rho id h3).2⟩
 | .ro x ks,v,_,⟨h0,C⟩=>⟨h0,Bk.mono (fun _ _ aa=>h.safe0 aa) _ _ v C⟩
 | .rp x t off ks,v,_,⟨h0,j,b,o,us,C,h3,h4,h5,h6⟩=>⟨h0,j,b,o,us,C,h3,h4,h5,Bw.mono (fun _ _ aa=>h.safe0 aa) _ _ _ _ h6⟩
 | .vec _ _ _,_,hc,_=>by cases hc
 | .fn f first I,v,hc,⟨Y,us,O,C,h3⟩=>by
  simp only[AC.noVec,AB] at hc;exact⟨Y,us,O,BR.monoV h first Y hc.1 C,BR.monoV h I us hc.2 h3⟩
 | .sel x alts,v,hc,⟨h0,j,O,C,h3⟩=>⟨h0,j,O,C,CG.monoV h alts j.toNat v hc h3⟩
 | .yl id,v,_,⟨b,O,C,h3⟩=>⟨b,by rw[(h.rho id h3).1];exact O,C,(h.rho id h3).2⟩
 | .asl id off len,v,_,⟨b,O,C,h3⟩=>⟨b,by rw[(h.rho id h3).1];exact O,C,(h.rho id h3).2⟩
 | .rsv _ _ _,_,hc,_=>by cases hc
 | .mr _ _,_,hc,_=>by cases hc
 | .mp _ _ _ _ _,_,hc,_=>by cases hc
 | .mv id,v,_,⟨b,O,C,h3⟩=>⟨b,by rw[(h.rho id h3).1];exact O,C,(h.rho id h3).2⟩
 | .agg l,v,hc,⟨Y,O,C⟩=>⟨Y,O,BR.monoV h l Y hc C⟩
 | .tup l,v,hc,⟨Y,O,C⟩=>⟨Y,O,BR.monoV h l Y hc C⟩
theorem BR.monoV (h:BY T n W m w ad ag ac){k:Nat}:∀(l:List AC) (Y:List Value),AC.noVecL l=true->BR T k W m w l Y->BR T k ad ag ac l Y
 |[],_,_,hh=>hh
 |c::l,_,hc,⟨u,us,O,C,h3⟩=>by
  simp only[AC.noVecL,AB] at hc;exact⟨u,us,O,BQ.monoV h c u hc.1 C,BR.monoV h l us hc.2 h3⟩
theorem CG.monoV (h:BY T n W m w ad ag ac){k:Nat}:∀(l:List AC) (j:Nat) (v:Value),AC.noVecL l=true->CG T k W m w l j v->CG T k ad ag ac l j v
 |[],_,_,_,hh=>hh
 |c::_,0,v,hc,hh=>by
  simp only[AC.noVecL,AB] at hc;exact BQ.monoV h c v hc.1 hh
 |_::l,j+1,v,hc,hh=>by
  simp only[AC.noVecL,AB] at hc;exact CG.monoV h l j v hc.2 hh
end
end
variable{s:RS}{o:Oper}{x am:AC}{ai:Mem}{aI:R}{t:TypeId}{g:G}{aE:Operand->AC}
theorem Ry (m:Mem){base:List Nat}{j:Nat}{aL:Bool}{c:AC}:Fp ae base { s with mem:=m } j aL c=(Fp ae base s j aL c).map fun p=>(p.1,{ p.2 with mem:=m }):=by
 cases c<;>simp only[Fp,BC,Option.map_none];split<;>rfl
theorem fN (m:Mem):EG Z ae { s with mem:=m } o=(EG Z ae s o).map fun p=>(p.1,{ p.2 with mem:=m }):=by
 unfold EG;cases o.guard with
 |none=>rfl
 |some g=>
  obtain⟨j,aL⟩:=g;simp only;split
  .rfl
  .cases Z[j]? with
   |none=>rfl
   |some q=>
    simp only[AD,Ag];cases q.dst with
    |none=>rfl
    |some d=>
     simp only[Ag];cases u:s.tmps.get d with
     |none=>rfl
     |some c=>
      simp only[Ag];split
      .rfl
      .rename_i l a;cases s.gl.find? (fun e=>Nat.beq e.p l) with
       |none=>rfl
       |some e=>simp only[Ag];exact Ry m
      .exact Ry m
theorem Zr {m:Mem}(h:Hk x m=some aI):aI.m=m/\Hk x ai=some { aI with m:=ai }:=by
 unfold Hk at h⊢;grind
theorem W6 {f:Nat}{m:Mem}(h:H7 P t x f m=some aI):aI.m=m/\H7 P t x f ai=some { aI with m:=ai }:=by
 unfold H7 at h⊢;split at h
 .simp only[AD,AA] at h⊢;grind
 .cases h
theorem Sp {size:Nat}{n:Rf}{m:Mem}(h:Dy.aIndexSl size x am n m g=some aI):aI.m=m/\Dy.aIndexSl size x am n ai g=some { aI with m:=ai }:=by
 unfold Dy.aIndexSl at h⊢;simp only[AD,AA] at h⊢;grind
theorem XJ {m:Mem}(h:Dy P t x am m g=some aI):aI.m=m/\Dy P t x am ai g=some { aI with m:=ai }:=by
 unfold Dy at h⊢;simp only[AD,AA] at h⊢;obtain⟨⟨k,ar,ab,n⟩,O,h⟩:=h;simp only at h;split at h
 .rename_i len e p;simp only[AD,AA] at h;obtain⟨i,C,h⟩:=h;split at h
  .cases h
  rename_i E;split at h
  .grind
  .rename_i y;split at h
   .simp only[AD,AA] at h;grind
   .cases h
 .rename_i e p;simp only[AD,AA] at h;obtain⟨i,C,h⟩:=h;split at h
  .rename_i l;split at h
   .grind
   .rename_i D;obtain⟨q,u⟩:=Sp (ai:=ai) h;grind
  .rename_i l;obtain⟨q,u⟩:=Sp (ai:=ai) h;grind
 .cases h
def VC:Op->Bool
 | .move _| .assign _| .nilCheck _| .fieldAddr .. | .indexAddr .. =>true
 |_=>false
theorem tj {op:Op}{m:Mem}(l:VC op=true)(h:aOp P aE op m g=some aI):aI.m=m/\aOp P aE op ai g=some { aI with m:=ai }:=by
 cases op<;>first
  |(cases l;done)
  |(simp only[aOp] at h⊢;cases h;exact⟨rfl,rfl⟩)
  |(simp only[aOp] at h⊢;exact Zr h)
  |(simp only[aOp] at h⊢;exact W6 h)
  |(simp only[aOp] at h⊢;exact XJ h)
theorem nL {k:Nat}{op:Op}{m:Mem}(l:VC op=true)(h:FL k P aE op m g=some aI):aI.m=m/\FL k P aE op ai g=some { aI with m:=ai }:=by
 unfold FL at h⊢;cases op<;>first
  |(cases l;done)
  |(split at h<;>first
    |(cases h;done)
    |exact tj l h)
theorem jG {aq:RS}(l:VC o.op=true)(h:Cu P call an Z ae s o=some aq):aq.mem=s.mem/\∀m,Cu P call an Z ae { s with mem:=m } o=some { aq with mem:=m }:=by
 unfold Cu at h⊢;simp only[AD,AA] at h;obtain⟨⟨run,aF⟩,q,h⟩:=h;have M:=(J7 q).2.2;simp only at h;have y:∀m,EG Z ae { s with mem:=m } o=some (run,{ aF with mem:=m }):=fun m=>by rw[fN,q];rfl
 simp only[AD,y,Ag];split at h
 .cases h
 rename_i D;simp only[D,AZ,if_false];split at h
 .grind
 .rename_i aw aX;split at h
  .rename_i f args au p;rw[p] at l;cases l
  .rename_i p;rw[p] at l;cases l
  .rename_i op O C;simp only[AA] at h;obtain⟨aI,H,h⟩:=h;have Y:=fun ai=>nL (ai:=ai) l H;split at h
   .grind
   .rename_i ab X;split at h
    .grind
    .rename_i u;exact absurd (by cases E:o.op<;>rw[E] at l<;>first|rfl|cases l) u
end
section
variable {P:Program}{call:CM}{an:Ys}{Z:Array Oper}{ae:PC}{ax ai:Mem}{g:G}{r:R}
variable{t:TypeId}
theorem X5 {p:AC}(D:(match p with| .ptr _ _=>true| .rp _ _ _ _=>true|_=>false)=true)(C:∀id,ax.at id≠ .pad->ai.at id=ax.at id)(h:HK P t p ax g=some r):r.m=ax/\HK P t p ai g=some { r with m:=ai }:=by
 unfold HK at h⊢;cases aa:GH P t with
 |none=>rw[aa] at h;cases h
 |some x=>
  obtain⟨size,E⟩:=x;rw[aa] at h;simp only[AD,Ag] at h⊢;cases p with
  |ptr id off=>
   simp only at h⊢;split at h
   .rename_i l e y;rw[C id (by rw[y];exact fun h=>by cases h),y];simp only;split at h
    .rename_i u;rw[BH u];split at h
     .rename_i q;cases h;rw[BH q];exact⟨rfl,rfl⟩
     .rename_i q;rw[BG q];rw[AX] at h;obtain⟨c,u,rfl⟩:=h;rw[u];exact⟨rfl,rfl⟩
    .cases h
   .cases h
  |rp x t off ks=>
   simp only at h⊢;split at h
   .rename_i u;rw[BH u];split at h
    .rename_i q;cases h;rw[BH q];exact⟨rfl,rfl⟩
    .rename_i q;rw[BG q];rw[AX] at h;obtain⟨c,u,rfl⟩:=h;rw[u];exact⟨rfl,rfl⟩
   .cases h
  |_=>cases D
theorem km {y:Nat}{ks:List Kd}{ar ab:Option AC}(h:Li P t (.ro y ks) ar ab ax g=some r):r.m=ax/\Li P t (.ro y ks) ar ab ai g=some { r with m:=ai }:=by
 unfold Li at h⊢;split at h
 .cases h
 .rename_i e C;cases q:P.info? e with
  |none=>rw[q] at h;cases h
  |some i=>
   rw[q] at h;simp only[AD,Ag,Kg] at h⊢;split at h
   .rename_i u;rw[BH u];cases ar with
    |none=>
     cases ab with
     |none=>cases h
     |some b=>
      cases l:DV b with
      |none=>simp[l] at h
      |some x=>simp only[l,Ag] at h⊢;cases h;exact⟨rfl,rfl⟩
    |some a=>
     cases p:DV a with
     |none=>cases ab<;>simp[p] at h
     |some x=>
      cases ab with
      |none=>simp only[p,Ag] at h⊢;cases h;exact⟨rfl,rfl⟩
      |some b=>
       cases l:DV b with
       |none=>simp[p,l] at h
       |some z=>simp only[p,l,Ag] at h⊢;cases h;exact⟨rfl,rfl⟩
   .cases h
 .cases h
theorem dO {len:Nat}{aV:List (Nat × AC)}(h:Kt P t len aV ax g=some r):r.m=ax++[.gone]/\Kt P t len aV ai g=some { r with m:=ai++[.gone] }:=by
 have O:∀u,EY P t len aV ax g=some u->∃x ks H,u.c= .vec ax.length x ks/\EY P t len aV ai g=some { u with c:= .vec ai.length x ks,m:=ai++H }:=by
  intro u p;unfold EY at p⊢;split at p
  .rename_i e M;cases ab:P.info? e with
   |none=>rw[ab] at p;cases p
   |some i=>
    rw[ab] at p;simp only[AD,Ag] at p⊢;cases D:i.zero with
    |none=>rw[D] at p;cases p
    |some z=>
     rw[D] at p;simp only[Ag] at p⊢;split at p
     .rename_i y;rw[BH y];cases q:aV.mapM (fun x=>x.2.cellsOf) with
      |none=>simp[q] at p
      |some X=>
       simp only[q,Ag] at p⊢;split at p
       .rename_i C;rw[BH C];cases p;exact⟨_,_,_,rfl,rfl⟩
       .cases p
     .rename_i y;rw[BG y];split at p
      .rename_i C;rw[BH C];cases q:(Ka z).cellsOf with
       |none=>simp[q] at p
       |some l=>
        simp only[q,Ag] at p⊢;split at p
        .rename_i E;rw[BH E];cases p;exact⟨_,_,_,rfl,rfl⟩
        .cases p
      .cases p
  .cases p
 unfold Kt at h⊢;simp only[AD,AA] at h;grind
theorem qw {k:Nat}{aE:Operand->AC}{op:Op}(l:Od k aE op=true)(p:∀id,ax.at id≠ .pad->ai.at id=ax.at id)(h:FL k P aE op ax g=some r):
  (CS op=true/\r.m=ax/\FL k P aE op ai g=some { r with m:=ai })\/(CS op=false/\r.m=ax++[.gone]/\FL k P aE op ai g=some { r with m:=ai++[.gone] }):=by
 cases op with
 |load t x=>
  simp only[Od] at l
  match k,h with
  |0,h=>exact .inl ⟨rfl,X5 l p h⟩
  |1,h=>nomatch h
  |k+2,h=>exact .inl ⟨rfl,X5 l p h⟩
 |slice t x ar ab a0=>
  cases a0 with
  |some a0=>simp[Od] at l
  |none=>
   simp only[Od] at l;cases q:aE x with
   |ro y ks=>
    have u:∀h:Li P t (aE x) (ar.map aE) (ab.map aE) ax g=some r,r.m=ax/\Li P t (aE x) (ar.map aE) (ab.map aE) ai g=some { r with m:=ai }:=fun h=>by
     rw[q] at h⊢;exact km h
    match k,h with
    |0,h=>exact .inl ⟨rfl,u h⟩
    |1,h=>cases ab<;>nomatch h
    |k+2,h=>exact .inl ⟨rfl,u h⟩
   |_=>rw[q] at l;cases l
 |buildSlice t n ps=>
  have C:k=3:=yI l;subst C;exact .inr ⟨rfl,dO h⟩
 |_=>simp[Od] at l
theorem pI {s aq:RS}{o:Oper}(l:Z3 an s.tmps o=true)(M:∀id,s.mem.at id≠ .pad->ai.at id=s.mem.at id)(h:Cu P call an Z ae s o=some aq):
  ∃x,(x=[]\/x=[.gone]/\CS o.op=false)/\aq.mem=s.mem++x/\Cu P call an Z ae { s with mem:=ai } o=some { aq with mem:=ai++x }:=by
 unfold Z3 at l;rw[AB] at l;obtain⟨D,l⟩:=l;have D:o.guard=none:=by
  cases C:o.guard with
  |none=>rfl
  |some g=>rw[C] at D;cases D
 unfold Cu EG at h⊢;simp only[D,AD,Ag] at h⊢;split at h
 .cases h
 .rename_i O;rw[BG O];have E:∀op,o.op=op->(∀f aU au,op≠ .call { callee:= .value f,args:=aU,argTypes:=au })->(∀c a b,op≠ .pick c a b)->Od (Oy an o.dst) (EJ [] s.tmps) op=true->
    ∀aI,FL (Oy an o.dst) P (EJ [] s.tmps) op s.mem s.g=some aI->∃x,(x=[]\/x=[.gone]/\CS op=false)/\aI.m=s.mem++x/\FL (Oy an o.dst) P (EJ [] s.tmps) op ai s.g=some { aI with m:=ai++x }:=by
   intro op _ _ _ l aI y;rcases qw (ai:=ai) l M y with⟨_,p,q⟩|⟨H,p,q⟩
   .exact⟨[],.inl rfl,by rw[p,yJ],by rw[q,yJ]⟩
   .exact⟨[.gone],.inr ⟨rfl,H⟩,p,q⟩
  cases u:o.op with
  |load t x=>
   rw[u] at h l;simp only[AD,AA] at h;obtain⟨aI,y,h⟩:=h;cases h;obtain⟨x,C,p,q⟩:=E _ u (fun _ _ _ h=>by cases h) (fun _ _ _ h=>by cases h) l aI y;refine⟨x,C,p,?_⟩;simp only[q];rfl
  |slice t x ar ab a0=>
   rw[u] at h l;simp only[AD,AA] at h;obtain⟨aI,y,h⟩:=h;cases h;obtain⟨x,C,p,q⟩:=E _ u (fun _ _ _ h=>by cases h) (fun _ _ _ h=>by cases h) l aI y;refine⟨x,C,p,?_⟩;simp only[q];rfl
  |buildSlice t n ps=>
   rw[u] at h l;simp only[AD,AA] at h;obtain⟨aI,y,h⟩:=h;cases h;obtain⟨x,C,p,q⟩:=E _ u (fun _ _ _ h=>by cases h) (fun _ _ _ h=>by cases h) l aI y;refine⟨x,C,p,?_⟩;simp only[q];rfl
  |_=>rw[u] at l;simp[Od] at l
end
end
end Go.Eng
end
