/-
  A part of the proof: the evaluator of code and its soundness.
-/
import Derived.Test.YtikbgnmcfncnaaaE1
import Derived.OrdersIn
import Derived.LoopNIn
import Derived.RangeFuncRecord
import Derived.RangeFuncIn
import Derived.RangeFuncLeaves
set_option linter.unusedVariables false
set_option linter.unusedSimpArgs false
noncomputable section
namespace Go.Eng
section
open Go Go.RowKit
theorem tC {q p:List Kd}(h:q.length=p.length):Kd.join (.list q) (.list p)= .list (Kd.joins q p):=by
 cases q with
 |nil=>cases p with
  |nil=>rfl
  |cons=>simp at h
 |cons a l=>cases p with
  |nil=>simp at h
  |cons c ae=>
   simp only[Kd.join];rw[ACE h]
section
variable {T:Tab}{V :Nat->Option Nat}{m az al:Mem}{w:World}{b:Bool}{aL:Rf}{n aj:Nat}
variable{n0 id z k:Nat}{a7:List Kd}{e:TypeId}{v:Value}{c d:AC}{ag:Mem}
theorem Rl (u:(aL.eval T).toB=b)(A:n<=n0)(q:New T n0 (Be aL n0 az al).2)(y:n0+(Be aL n0 az al).2.length<=aj):
  ∀id,Cq T n aj w ((sel b az al).at id) ((Be aL n0 az al).1.at id):=by
 intro id;obtain⟨k,C,O,l,p⟩:=Xr (aL:=aL) az al n0 id;rw[l];have e:(sel b az al).at id=sel b (az.at id) (al.at id):=by cases b<;>rfl
 rw[e];exact xz u (p T q) (by omega) (by omega)
theorem SP (a2:(aL.eval T).toB=b)(a5:New T n0 (Be aL n0 az al).2)(hl:n0+(Be aL n0 az al).2.length<=aj)(l:(Be aL n0 az al).1.at id= .tok z a7 e):
  (∀x q y u A D,az.at id= .tok x q A->al.at id= .tok y u D->A=e/\D=e/\((z=x/\z=y/\a7=q/\a7=u)\/(z < aj/\T z=sel b (T x) (T y)/\q.length=u.length/\a7=Kd.joins q u)))/\
  (∀x q A,az.at id= .tok x q A->al.at id= .pad->A=e/\a7=q/\z < aj/\T z=sel b (T x) (.list []))/\
  (∀y u D,az.at id= .pad->al.at id= .tok y u D->D=e/\a7=u/\z < aj/\T z=sel b (.list []) (T y)):=by
 obtain⟨k,C,O,h3,h4⟩:=Xr (aL:=aL) az al n0 id;rw[h3] at l;have p:=h4 T a5;refine⟨fun x q y u A D M W=>?_,fun x q A M W=>?_,fun y u D M W=>?_⟩
 .rw[M,W] at l p O;simp only[Dz] at l p O;split at l
  .rename_i E;simp only[AA8] at E;have i1:=AA9 E.1.1;have i2:=AA9 E.2;have i3:=Kd.beqs_eq _ _ E.1.2;grind
  .rename_i E;simp only[E] at p O;split at l
   .rename_i hc;obtain⟨rfl,hc⟩:=hc;simp only[hc,and_self,if_true,ABW,if_false] at p O;simp only[List.length_singleton] at O;injection l with X Y H
    refine⟨H,H,.inr ⟨by omega,?_,hc,Y.symm⟩⟩;rw[<-X,p.head,Ii a2];rfl
   .cases l
 iterate 2
  .rw[M,W] at l p O;simp only[Dz] at l p O;simp only[List.length_singleton] at O;injection l with X Y H
   refine⟨H,Y.symm,by omega,?_⟩;rw[<-X,p.head,Ii a2];rfl
theorem Jm {x:Nat}{l:List Kd}(a1:AI T n V az w (CE az V) m w)(h:AA T n V az w (.vec id x l) v)(ht:az.at id= .tok x l e)(y:m.at id= .tok z a7 e)(a3:z < aj)(p:T z=T x)
  (Y:a7.length=l.length) (M:∀ok:Nat->Nat->Prop,AX ok w (.list l) (T x) v->AX ok w (.list a7) (T x) v):AA T aj (CE az V) m w (.vec id z a7) v:=by
 obtain⟨O,q,C,D⟩:=h;refine⟨a3,by rw[y];exact (fun h=>by cases h),?_,fun af e' u=>?_⟩
 .rw[p];exact M _ (AX.mono (fun _ _ aa=>a1.safe0 aa) _ _ v C)
 .rw[y] at u;injection u with _ E H
  subst E;subst H;rcases D l e ht with⟨X,ah⟩|⟨A,I,W,X,ah,l3,l4⟩
  .exact .inl ⟨by rw[CZ q];exact X,by rw[p];exact ah⟩
  .exact .inr ⟨A,I,W,by rw[CZ q];exact X,by rw[p];exact ah,l3,by rw[Y];exact l4⟩
theorem Yh (a4:(aL.eval T).toB=b)(hm:AH T n V (sel b az al) w)(bx:n<=n0)(a3:New T n0 (Be aL n0 az al).2)(hl:n0+(Be aL n0 az al).2.length<=aj){a:AC}
  (l:Gp (Be aL n0 az al).1 az al c d=some a)
  (C:AA T n V (sel b az al) w (sel b c d) v):AA T aj (CE (sel b az al) V) (Be aL n0 az al).1 w a v:=by
 have M:=Ft hm (Rl (n:=n) a4 bx a3 hl);have a5:∀{id:Nat} {a:AC},Nq (Be aL n0 az al).1 id=some a->∃z ks e,(Be aL n0 az al).1.at id= .tok z ks e/\a= .vec id z ks:=by
  intro id a h;unfold Nq at h;grind
 unfold Gp at l;simp only at l;split at l
 .rename_i id x O b5 L bm;split at l
  .rename_i bs;have:=AA9 bs;subst this;split at l
   .rename_i y ky e aF b6 e' D E;split at l
    .rename_i p;simp only[AA8] at p;have X:=AA9 p.1.1.1;have i2:=AA9 p.1.1.2;have Y:=Kd.beqs_eq _ _ p.1.2;have i4:=Kd.beqs_eq _ _ p.2;subst X;subst i2;subst Y;subst i4;obtain⟨z,a7,e2,q,rfl⟩:=a5 l;obtain⟨j1,j2,j3⟩:=(SP a4 a3 hl q).1 x O L bm e e' D E;subst j1;subst j2;rcases j3 with⟨A,u,W,H⟩|⟨A,u,W,H⟩
     .cases b with
      |true=>
       have hx:x < n:=C.1;exact Jm M C D q (by rw[A];omega) (by rw[A]) (by rw[W]) fun ok h=>by rw[W];exact h
      |false=>
       have hx:L < n:=C.1;exact Jm M C E q (by rw[u];omega) (by rw[u]) (by rw[H]) fun ok h=>by rw[H];exact h
     .have bl:=Kd.joins_len O bm W;have bk:=tC W;cases b with
      |true=>exact Jm M C D q A u (by rw[H,bl]) fun ok h=>by rw[H,<-bk];exact Kd.join_l _ _ _ _ h
      |false=>exact Jm M C E q A u (by rw[H,bl,W]) fun ok h=>by rw[H,<-bk];exact Kd.join_r _ _ _ _ h
    .cases l
   .cases l
  .cases l
 .rename_i id x O;split at l
  .rename_i y ky e D E;split at l
   .rename_i p;simp only[AA8] at p;have X:=AA9 p.1;have Y:=Kd.beqs_eq _ _ p.2;subst X;subst Y;obtain⟨z,a7,e2,q,rfl⟩:=a5 l;obtain⟨j1,q0,A,u⟩:=(SP a4 a3 hl q).2.1 x O e D E;subst j1;subst q0;cases b with
    |true=>exact Jm M C D q A u rfl fun ok h=>h
    |false=>
     have hv:v= .slice none 0 0:=C;subst hv;refine⟨A,by rw[q];exact (fun h=>by cases h),by rw[u];exact HX _ _,fun af e' _=> .inl ⟨Ik E,none,by rw[u];rfl⟩⟩
   .cases l
  .cases l
 .rename_i id x O;split at l
  .rename_i y ky e D E;split at l
   .rename_i p;simp only[AA8] at p;have X:=AA9 p.1;have Y:=Kd.beqs_eq _ _ p.2;subst X;subst Y;obtain⟨z,a7,e2,q,rfl⟩:=a5 l;obtain⟨j1,q0,A,u⟩:=(SP a4 a3 hl q).2.2 x O e D E;subst j1;subst q0;cases b with
    |false=>exact Jm M C E q A u rfl fun ok h=>h
    |true=>
     have hv:v= .slice none 0 0:=C;subst hv;refine⟨A,by rw[q];exact (fun h=>by cases h),by rw[u];exact HX _ _,fun af e' _=> .inl ⟨Ik D,none,by rw[u];rfl⟩⟩
   .cases l
  .cases l
 .cases l
theorem Xj {m:Mem}:∀(r l p:Mem) (id:Nat),(U7 m az al r l p).at id=fF m az al (l.at id) (p.at id) (r.at id)
 |[],l,p,id=>by
  show Blk.pad=_;simp only[AAM];cases l.at id<;>cases p.at id<;>rfl
 |z::r,l,p,0=>by simp only[U7,TK,Pc]
 |z::r,l,p,id+1=>by
  simp only[U7,Ir];rw[Xj r l.tail p.tail id,W7,W7]
theorem Qz {m:Mem}(x y z:Blk):fF m az al x y z=z\/∃l p ae q r e,x= .cells l p/\y= .cells ae q/\z= .cells r e/\fF m az al x y z= .cells (H8 m az al l ae r) e:=by
 cases x<;>cases y<;>cases z<;>first|exact .inl rfl|exact .inr ⟨_,_,_,_,_,_,rfl,rfl,rfl,rfl⟩
theorem WZ {m:Mem}(h:∀id,ag.at id=m.at id\/∃l ae e,m.at id= .cells l e/\ag.at id= .cells ae e):AI T k V m w V ag w where
 os:=rfl
 tape:=rfl
 output:=rfl
 size:=ABB _
 mlen:=fun id p=>by
  rcases h id with e|⟨l,ae,e,C,O⟩
  .rw[e];exact p
  .rw[O];exact fun h=>by cases h
 rho:=fun id p=>by
  refine⟨rfl,?_⟩;rcases h id with e|⟨l,ae,e,C,O⟩
  .rw[e];exact p
  .rw[O];rfl
 untr:=fun id p u=>by
  rcases h id with e|⟨l,ae,e,C,O⟩
  .rw[<-e];exact u
  .rw[C];rfl
 fresh:=fun id b p u H=>by
  rcases h id with e|⟨l,ae,e,C,O⟩
  .rw[e,p] at u;cases u
  .rw[p] at C;cases C
 old:=fun _ _ _=>rfl
 tok:=fun id x ks e q=>by
  rcases h id with A|⟨l,ae,D,C,O⟩
  .exact .inl ⟨by rw[A];exact q,rfl,fun _ _=>rfl⟩
  .rw[q] at C;cases C
 row:=fun id x y ks e q=>by
  rcases h id with A|⟨l,ae,D,C,O⟩
  .exact .inr ⟨x,y,ks,by rw[A];exact q,rfl,.inl ⟨rfl,rfl,fun _ W _ E=>⟨W,E,rfl⟩⟩⟩
  .rw[q] at C;cases C
theorem qo {m:Mem}(p:AH T k V m w)(h:∀id,ag.at id=m.at id\/∃l ae e,m.at id= .cells l e/\ag.at id= .cells ae e/\∀W b, V id=some b->w.heap[b]? =some (.cells (W:List Value).toArray e (0,0))->AF T k V m w l W->AF T k V m w ae W):AH T k V ag w:=by
 have u:AI T k V m w V ag w:=WZ fun id=>by
  grind
 refine⟨fun id=>?_,fun id E b C O=>?_,p.fr⟩
 .have q:=p.blk id;rcases h id with e|⟨l,ae,e,C,O,D⟩
  .exact BS.step u p (ABB _) e rfl (fun _ _=>rfl)
  .rw[C] at q;obtain⟨b,W,y,A,H⟩:=q;rw[O];exact⟨b,W,y,A,AF.mono u p (ABB _) _ W (D W b y A H)⟩
 .have M:∀id,(ag.at id).tracked=(m.at id).tracked:=fun id=>by
   rcases h id with e|⟨l,ae,e,C,O,_⟩
   .rw[e]
   .rw[C,O];rfl
  rw[M] at C O;exact p.inj id E b C O
theorem Tt {m:Mem}{p E:Nat}{y aV:Nat->Option Nat}{q:Mem}(A:∀c d a v,Gp m az al c d=some a->AA T p y q w (sel b c d) v->AA T E aV m w a v):
  ∀(l ae r:List AC) (W:List Value),AF T p y q w (sel b l ae) W->AF T E aV m w r W->AF T E aV m w (H8 m az al l ae r) W
 |c::l,d::ae,a::r,W,C,O=>by
  obtain⟨u,us,e,X,Y⟩:=O;have M:∃u us,W=u::us/\AA T p y q w (sel b c d) u/\AF T p y q w (sel b l ae) us:=by cases b<;>exact C
  obtain⟨u',a5,e',h5,h6⟩:=M;rw[e] at e';injection e' with D H
  subst D;subst H;refine⟨u,us,e,?_,Tt A l ae r us h6 Y⟩;cases hx:Gp m az al c d with
  |none=>exact X
  |some z=>exact A c d z u hx h5
 |[],_,r,W,_,O=>by simpa [H8] using O
 |_::_,[],r,W,_,O=>by simpa [H8] using O
 |_::_,_::_,[],W,_,O=>by simpa [H8] using O
theorem O6 (a2:(aL.eval T).toB=b)(q:AH T n V (sel b az al) w)(Y:n<=n0)(bl:New T n0 (Bf aL n0 az al).2)(hl:n0+(Bf aL n0 az al).2.length<=aj):
  AH T aj (CE (sel b az al) V) (Bf aL n0 az al).1 w/\AI T n V (sel b az al) w (CE (sel b az al) V) (Bf aL n0 az al).1 w/\AI T aj (CE (sel b az al) V) (Be aL n0 az al).1 w (CE (sel b az al) V) (Bf aL n0 az al).1 w/\AH T aj (CE (sel b az al) V) (Be aL n0 az al).1 w:=by
 have a1:New T n0 (Be aL n0 az al).2:=bl;have M:n0+(Be aL n0 az al).2.length<=aj:=hl;have ht:=Rl (n:=n) (aj:=aj) (w:=w) a2 Y a1 M;have X:=Pw q (by omega) ht;have bm:=Ft q ht;have E:∀id,(Bf aL n0 az al).1.at id=fF (Be aL n0 az al).1 az al (az.at id) (al.at id) ((Be aL n0 az al).1.at id):=fun id=>Xj _ _ _ id;have a4:AI T aj (CE (sel b az al) V) (Be aL n0 az al).1 w (CE (sel b az al) V) (Bf aL n0 az al).1 w:=WZ fun id=>by
  rw[E];rcases Qz (m:=(Be aL n0 az al).1) (az:=az) (al:=al) (az.at id) (al.at id) ((Be aL n0 az al).1.at id) with e|⟨l,u,ae,y,r,e,_,_,A,D⟩
  .exact .inl e
  .grind
 refine⟨qo X fun id=>?_,bm.trans q (by omega) a4,a4,X⟩;rw[E];rcases Qz (m:=(Be aL n0 az al).1) (az:=az) (al:=al) (az.at id) (al.at id) ((Be aL n0 az al).1.at id) with e|⟨l,u,ae,y,r,e,C,O,A,D⟩
 .exact .inl e
 .refine .inr ⟨r,_,e,A,D,fun W bb q1 p q3=>?_⟩;have H:=q.blk id;have a3:(sel b az al).at id= .cells (sel b l ae) (sel b u y):=by cases b with|true=>exact C|false=>exact O
  rw[a3] at H;obtain⟨b3,b2,p1,p2,p3⟩:=H;have bk:(sel b az al).at id≠ .pad:=by rw[a3];exact fun h=>by cases h
  rw[CZ bk,p1] at q1;cases q1;rw[p2] at p;injection p with p
  injection p with p
  have b0:b2=W:=by simpa using p
  subst b0;exact Tt (b:=b) (fun c d a v hc hv=>Yh a2 q Y a1 M hc hv) l ae r _ p3 q3
theorem km {m:Mem}{r p u:Mem}(c d:AC):Gp (U7 m az al r p u) az al c d=Gp r az al c d:=by
 have C:∀id,Nq (U7 m az al r p u) id=Nq r id:=fun id=>by
  unfold Nq;rw[Xj];rcases Qz (m:=m) (az:=az) (al:=al) (p.at id) (u.at id) (r.at id) with e|⟨l,D,ae,E,q,e,_,_,y,A⟩
  .rw[e]
  .rw[A,y]
 unfold Gp;simp only[C]
theorem qM (y:(aL.eval T).toB=b)(u:AH T n V (sel b az al) w)(D:n<=n0)(E:New T n0 (Bf aL n0 az al).2)(A:n0+(Bf aL n0 az al).2.length<=aj)
  (hk:n<=k)
  (p:New T k (TC (Bf aL n0 az al).1 az al aL k c d).2)
  (l:k+(TC (Bf aL n0 az al).1 az al aL k c d).2.length<=aj)
  (C:AA T n V (sel b az al) w (sel b c d) v):AA T aj (CE (sel b az al) V) (Bf aL n0 az al).1 w (TC (Bf aL n0 az al).1 az al aL k c d).1 v:=by
 obtain⟨_,Y,a1,M⟩:=O6 y u D E A;have X:Gp (Bf aL n0 az al).1 az al c d=Gp (Be aL n0 az al).1 az al c d:=km c d;unfold TC at p l⊢;rw[X] at p l⊢;split
 .rename_i a H;exact AA.mono a1 M (ABB _) _ _ (Yh y u D E A H C)
 .rename_i W;rw[W] at p l;simp only at p l;have O:=AA.mono Y u (ABB _) _ _ C;refine Xg (n:=n) y (by omega) p l (fun q=>?_) (fun q=>?_)
  iterate 2
   .subst q;exact O
theorem Tr.get_node (v:Option AC)(l r:Tr)(i:Nat):(Tr.node v l r).get i=if i=0 then v else if i % 2=1 then l.get (i / 2) else r.get (i / 2 - 1):=by
 rw[Tr.get_step];rfl
theorem U0 {f:Nat->AC->AC->AC × List Ex}:∀(y q:Tr) (n0:Nat),New T n0 (Eu f n0 y q).2->n0+(Eu f n0 y q).2.length<=aj->∀(i:Nat) (c:AC),(Eu f n0 y q).1.get i=some c->
  ∃k aS p,n0<=k/\y.get i=some aS/\q.get i=some p/\c=(f k aS p).1/\New T k (f k aS p).2/\k+(f k aS p).2.length<=aj
 | .nil,q,n0,_,_,i,c,h=>by simp[Eu,Tr.get] at h
 | .node v l r,.nil,n0,_,_,i,c,h=>by simp[Eu,Tr.get] at h
 | .node v l r,.node v' ae r',n0,hnew,hl,i,c,h=>by
  rw[Tr.get_node,Tr.get_node];have e:Eu f n0 (.node v l r) (.node v' ae r')=(.node (Oa f n0 v v').1 (Eu f (n0+(Oa f n0 v v').2.length) l ae).1 (Eu f (n0+(Oa f n0 v v').2.length+(Eu f (n0+(Oa f n0 v v').2.length) l ae).2.length) r r').1,(Oa f n0 v v').2++((Eu f (n0+(Oa f n0 v v').2.length) l ae).2++(Eu f (n0+(Oa f n0 v v').2.length+(Eu f (n0+(Oa f n0 v v').2.length) l ae).2.length) r r').2)):=rfl;rw[e] at hnew hl h;simp only[ABM] at hl;rw[Tr.get_node] at h;by_cases u:i=0
  .rw[ACE u] at h⊢;rw[ACE u];cases v with
   |none=>cases v'<;>cases h
   |some a=>
    cases v' with
    |none=>cases h
    |some D=>
     cases h;refine⟨n0,a,D,ABB _,rfl,rfl,rfl,hnew.left,?_⟩;simp only[Oa] at hl;omega
  .rw[ACD u] at h⊢;rw[ACD u];by_cases C:i % 2=1
   .rw[ACE C] at h⊢;rw[ACE C];obtain⟨k,aS,p,E,A⟩:=U0 l ae _ hnew.right.left (by omega) _ c h;exact⟨k,aS,p,by omega,A⟩
   .rw[ACD C] at h⊢;rw[ACD C];obtain⟨k,aS,p,E,A⟩:=U0 r r' _ hnew.right.right (by omega) _ c h;exact⟨k,aS,p,by omega,A⟩
theorem AZ.get_flat {s:AZ}{i:Nat}(h:s.flat.get i=some c):s.get i=some c:=by
 unfold AZ.flat at h;split at h
 .rename_i l;have:s.loc=[]:=by simpa using l
  simp[AZ.get,this,BH,h]
 .cases h
theorem X5 (A:(aL.eval T).toB=b){X ah:Loc}(W:X.tmps.n=ah.tmps.n)(y:n<=n0)(p:New T n0 (HY n0 aL X ah).2)(O:n0+(HY n0 aL X ah).2.length<=aj){a:Act}(h:Rel T n V (sel b X ah) a w):
  ∃ ac,AI T n V (sel b X ah).mem w ac (HY n0 aL X ah).1.mem w/\Rel T aj ac (HY n0 aL X ah).1 a w:=by
 have l:(sel b X ah).mem=sel b X.mem ah.mem:=by cases b<;>rfl
 have u:(sel b X ah).tmps=sel b X.tmps ah.tmps:=by cases b<;>rfl
 have q:=h.mem;rw[l] at q;simp only[HY,ABM] at p O⊢;obtain⟨Y,C,-,-⟩:=O6 (aj:=aj) A q y p.left (by omega);rw[l];have hd:=h.defers;rw[l] at hd;refine⟨_,C,hd.on C,?_,?_,Y⟩
 .rw[h.size,u];cases b<;>simp[sel,W]
 .intro i c E;have H:(Eu (TC (Bf aL n0 X.mem ah.mem).1 X.mem ah.mem aL) (n0+(Bf aL n0 X.mem ah.mem).2.length) X.tmps.flat ah.tmps.flat).1.get i=some c:=by
   simpa [AZ.get,BH] using E
  obtain⟨k,aS,D,q1,q2,q3,q4,q5,q6⟩:=U0 (aj:=aj) _ _ _ p.right (by omega) i c H;subst q4;have M:AA T n V (sel b X.mem ah.mem) w (sel b aS D) (a.tmps.getD i undef):=by
   rw[<-l];refine h.tmps i _ ?_;rw[u];cases b
   .exact AZ.get_flat q3
   .exact AZ.get_flat q2
  exact qM A q y p.left (by omega) (by omega) q5 q6 M
end
section
variable {P:Program}{T:Tab}{call:A7}{r:Option Nat}{k:Nat}
def EL (P:Program)(r:Option Nat)(k:Nat)(Z:Array Oper)(o:Oper)(a:Act)(w:World)(K:Act->World->Prop)(Q:Exit->Act->World->Prop):Prop:=
 if Region.wanted o (yielded Z a.tmps) then o.wpIn (fen r) k P a w K Q else K (a.put o.dst undef) w
variable{o:Oper}{a:Act}{w:World}{K:Act->World->Prop}{Q:Exit->Act->World->Prop}{g:G}{V:Nat->Option Nat}{ay:Array TypeId}
theorem J2 (l:∀c,o.op≠ .defer c)(h:o.uponIn (fen r) k P a K Q ((execOp a.eval o).run P w)):o.wpIn (fen r) k P a w K Q:=by
 refine⟨fun _ _=>trivial,?_⟩;rw[Oper.semAt_eq _ _ _ l];exact h
theorem qf {m:Mem}{l:R}(y:∀c,o.op≠ .defer c)(h:BK T g V m w ((execOp a.eval o).run P w) l)
  (u:∀v ab ac,AI T g.n V m w ac l.m ab->AH T (g.n+l.us.length) ac l.m ab->AA T (g.n+l.us.length) ac l.m ab l.c v->K (a.put o.dst v) ab):o.wpIn (fen r) k P a w K Q:=by
 refine J2 y ?_;obtain⟨v,ab, ac,C|⟨C,rfl⟩,O,p,q⟩:=h
 .rw[C];exact u v ab ac O p q
 .rw[C];exact u _ ab ac O p q
theorem tA {f:Operand}{args:Array Operand}{b:Nat}{q:Loop}(C:o.op= .call { callee:= .value f,args,argTypes:=ay })
  (u:a.eval f= .func (.yield b) #[] #[]) (l:w.heap[b]? =some (.loop q)) (y:(args.toList.map a.eval).length=q.params.size):
  (execOp a.eval o).run P w= .ok (.round b q.fn ((q.params.zip (args.toList.map a.eval).toArray).foldl (fun t (p,v)=>t.setIfInBounds p v) q.tmps) q.assign q.body) w:=by
 have D:args.map a.eval=(args.toList.map a.eval).toArray:=by rw[<-Array.toList_map,Array.toArray_toList]
 have A:(args.map a.eval).size=q.params.size:=by simpa using y
 have E:=run_yield (P:=P) (args:=args.map a.eval) l A;simp only[execOp,C,resolve,u,Deferred.ofValue,ABo,ABv,ABn,invoke];grind
theorem oL {f:Operand}{args:Array Operand}{R:Ending->World->Prop}(u:o.op= .call { callee:= .value f,args,argTypes:=ay })
  (h:MN P (a.eval f) (args.toList.map a.eval) w R) (E:∀e ab,R e ab->∃v,e= .returned v/\K (a.put o.dst v) ab):o.wpIn (fen r) k P a w K Q:=by
 refine J2 (fun c y=>by rw[u] at y;cases y) ?_;rcases h with⟨j,first,I,aC,C,O,l,p,A⟩|⟨b,q,C,O,l,p⟩
 .rw[oY u C O l p,Oper.uponIn_enter];refine⟨fun h=>(by cases h),iB (A.mono fun e ab D=>?_)⟩;grind
 .rw[tA u C O l,Oper.uponIn_round];refine⟨fun h=>(by cases h),RoundIn.mono (p (k - 1)) fun e ab D=>?_⟩;grind
theorem lf {aI:Operand->AC}{op:Op}{m:Mem}{r:R}(M:BD op=true)(h:aOp P aI op m g=some r)(E:New T g.n r.us)(a1:∀q∈r.ps,q.holds T)(X:AH T g.n V m w)
  (p:∀x,AA T g.n V m w (aI x) (a.eval x)):r.m=m:=by
 cases op<;>simp only[aOp] at h<;>simp only[BD] at M<;>try (cases M;done)
 case move x=>cases h;rfl
 case assign x=>cases h;rfl
 case pick c x y=>exact (Ql h E X (p c) (fun _=>p x) (fun _=>p y)).elim fun _ h=>h.2.1
 case build t H=>
  unfold VV at h;simp only[ABA,AA7] at h;obtain⟨i,_,z,_,l,_,h⟩:=h;split at h
  iterate 2
   .simp only[AA7] at h;obtain⟨_,_,ae,_,h⟩:=h;cases h;rfl
  .cases h
 case load t x=>obtain⟨u,C,O,A⟩:=Pv h E X (p x);exact O
 case nilCheck x=>
  unfold GY at h;split at h<;>cases h<;>rfl
 case binOp op t x y yt=>obtain⟨z,C,O,A⟩:=S3 h E a1 (p x) (p y) x y;exact O
 case unOp op t x=>obtain⟨z,C,O,A⟩:=fe (P:=P) (w:=w) h E (p x);exact O
 case convert s d x=>obtain⟨z,C,O,A⟩:=Ow h E (p x);exact O
 case makeFunc aC first I=>cases h;rfl
 case fieldAddr t x f=>obtain⟨z,C,O,A,h4⟩:=Le h (p x);exact O
 case field t x f=>obtain⟨z,C,O,A,h4⟩:=Ru h (p x);exact O
 case indexAddr t x i=>obtain⟨z,C,O,A⟩:=Li h E a1 (p x) (p i);exact O
 case index t x i=>obtain⟨z,C,O,A⟩:=Rb h E a1 (p x) (p i);exact O
 case extract x i=>obtain⟨z,C,O,A,h4⟩:=OP (P:=P) h (p x);exact O
 case slice t x am Y a2=>
  cases a2 with
  |some v=>cases M
  |none=>
   have a5:∀l:Option Operand,Pa T g.n V m w (l.map aI) (l.map a.eval):=by
    intro l;cases l with
    |none=>rfl
    |some y=>exact⟨_,rfl,p y⟩
   obtain⟨z,C,O,A⟩:=Sm h E a1 X (p x) (a5 am) (a5 Y);exact O
 case call c=>
  obtain⟨bb,args,ay⟩:=c;cases bb with
  |value f=>cases h
  |invoke x n=>cases h
  |builtin b=>
   obtain⟨args⟩:=args;simp only at h;unfold J1 at h;cases b<;>simp only at M<;>try (cases M;done)
   all_goals
    split at h<;>(try (rename_i bi _;cases bi))<;>try (cases h;done)
   all_goals first
    |(simp only[TM,ABA,AA7] at h
      obtain⟨_,_,_,_,h⟩:=h;cases h;rfl)
    |(simp only[ABA,AA7] at h
      obtain⟨t,ht,h⟩:=h;split at h<;>cases h;rfl)
    |(rename_i x D
      cases args with
      |nil=>cases D
      |cons x1 W=>
       cases W with
       |cons=>cases D
       |nil=>
        simp at D;subst D;simp only[ABA,AA7] at h;obtain⟨t,ht,h⟩:=h;obtain⟨z,C,O,A⟩:=XW h E X (p x1) ay ht 0;exact O)
    |(rename_i x y D
      cases args with
      |nil=>cases D
      |cons x1 W=>
       cases W with
       |nil=>cases D
       |cons aZ W=>
        cases W with
        |cons=>cases D
        |nil=>
         simp at D;obtain⟨rfl,rfl⟩:=D;obtain⟨z,C,O,A⟩:=MZ (P:=P) h E (p x1) (p aZ) ay 0;exact O)
end
section
variable {P:Program}{T:Tab}{V :Nat->Option Nat}{m:Mem}{w:World}{g:G}{r:R}
variable{a:Act}{o:Oper}{aI:Operand->AC}{k:Nat}
theorem Zn {b:Builtin}{args:Array Operand}{ay:Array TypeId}(Y:o.op= .call { callee:= .builtin b,args,argTypes:=ay })(h:J1 P b ay (args.toList.map aI) m g=some r)
  (X:BD o.op=true) (M:New T g.n r.us) (ba:∀q∈r.ps,q.holds T) (E:AH T g.n V m w) (A:∀x,AA T g.n V m w (aI x) (a.eval x)):BA T g V m w ((execOp a.eval o).run P w) r:=by
 rw[KV Y];obtain⟨args⟩:=args;unfold J1 at h;split at h
 .rename_i H x l;cases args with
  |nil=>cases l
  |cons u p=>
   cases p with
   |cons=>cases l
   |nil=>
    simp at l;subst l;simp only[ABA,AA7] at h;obtain⟨t,W,h⟩:=h;obtain⟨z,C,O,D⟩:=XW h M E (A u) ay W o.type;exact BA.pure (by simp[builtin,C]) E O D
 iterate 2
  .rename_i H x y l;cases args with
   |nil=>cases l
   |cons u p=>
    cases p with
    |nil=>cases l
    |cons aZ p=>
     cases p with
     |cons=>cases l
     |nil=>
      simp at l;obtain⟨rfl,rfl⟩:=l;obtain⟨z,C,O,D⟩:=MZ (P:=P) h M (A u) (A aZ) ay o.type;exact BA.pure (by simp at C;simp[builtin,C]) E O D
 .rw[Y] at X;cases X
 .rename_i H aN aS c2 a4 l;cases args with
  |nil=>cases l
  |cons u p=>
   simp only[ABQ,List.cons.injEq] at l;obtain⟨rfl,l⟩:=l;obtain⟨z,C,O,D⟩:=M6 (P:=P) (w:=w) _ _ _ (p.map a.eval) g r h M (A u) (by rw[<-l];exact AF.of_map A p);refine BA.pure (v:=z) ?_ E O D;simp only[ABW,if_false] at C;simp[builtin,Builtin.min_,C]
 .rename_i H aN aS c2 a4 l;cases args with
  |nil=>cases l
  |cons u p=>
   simp only[ABQ,List.cons.injEq] at l;obtain⟨rfl,l⟩:=l;obtain⟨z,C,O,D⟩:=M6 (P:=P) (w:=w) _ _ _ (p.map a.eval) g r h M (A u) (by rw[<-l];exact AF.of_map A p);refine BA.pure (v:=z) ?_ E O D;simp only[if_true] at C;simp[builtin,Builtin.max_,C]
 .rename_i H l;cases args with
  |nil=>cases l
  |cons u p=>
   cases p with
   |cons=>simp at l
   |nil=>
    simp at l;simp only[ABA,AA7] at h;obtain⟨t,W,h⟩:=h;split at h
    .rename_i e hu;cases h;have hx:=A u;rw[l] at hx;have a5:a.eval u= .slice none 0 0:=hx;refine BA.pure (v:= .int .i64 0) ?_ E rfl rfl;simp[builtin,Builtin.cap_,a5,W,run_underlying hu,goInt]
    .cases h
 .cases h
theorem vV (h:aOp P aI o.op m g=some r)(hf:BD o.op=true)(M:New T g.n r.us)(W:∀q∈r.ps,q.holds T)(D:AH T g.n V m w)(p:∀x,AA T g.n V m w (aI x) (a.eval x)):
  BA T g V m w ((execOp a.eval o).run P w) r:=by
 have a3:∀xs:Array Operand,xs.map a.eval=(xs.toList.map a.eval).toArray:=fun xs=>by rw[<-Array.toList_map,Array.toArray_toList]
 have ba:=hf;cases E:o.op<;>rw[E] at h hf<;>simp only[aOp] at h<;>simp only[BD] at hf<;>try (cases hf;done)
 case move x=>cases h;exact BA.same (v:=a.eval x) (by simp[execOp,E]) D rfl (p x)
 case assign x=>cases h;exact BA.same (v:=a.eval x) (by simp[execOp,E]) D rfl (p x)
 case pick c x y=>
  obtain⟨q,C,O,A⟩:=Ql h M D (p c) (fun _=>p x) (fun _=>p y);exact BA.pure (v:=if q then a.eval x else a.eval y) (by simp[execOp,E,C,asBool]) D O A
 case build t H=>exact ZB h D E p
 case load t x=>
  obtain⟨u,C,O,A⟩:=Pv h M D (p x);exact BA.pure (by simp[execOp,E,C]) D O A
 case nilCheck x=>exact Sj h W D E rfl (p x)
 case binOp op t x y yt=>
  obtain⟨z,C,O,A⟩:=S3 h M W (p x) (p y) x y;exact BA.pure (v:=z) (N8 (s:=do eqGuard op t x y (a.eval x) (a.eval y);binOp op t (a.eval x) (a.eval y)) (by simp only[execOp,E]) C) D O A
 case unOp op t x=>
  obtain⟨z,C,O,A⟩:=fe (P:=P) (w:=w) h M (p x);exact BA.pure (by simp[execOp,E,C]) D O A
 case convert s d x=>
  obtain⟨z,C,O,A⟩:=Ow h M (p x);exact BA.pure (by simp[execOp,E,C]) D O A
 case makeFunc aC first I=>
  cases h;refine BA.same (v:= .func aC (first.map a.eval) (I.map a.eval)) (by simp[execOp,E,Instr.makeFunc]) D rfl ?_;refine⟨first.toList.map a.eval,I.toList.map a.eval,by rw[a3,a3],AF.of_map p _,AF.of_map p _⟩
 case fieldAddr t x f=>
  obtain⟨z,C,O,A,X⟩:=Le h (p x);exact BA.same (by simp[execOp,E,C]) D O X
 case field t x f=>
  obtain⟨z,C,O,A,X⟩:=Ru h (p x);exact BA.same (by simp[execOp,E,C]) D O X
 case indexAddr t x i=>
  obtain⟨z,C,O,A⟩:=Li h M W (p x) (p i);exact BA.pure (by simp[execOp,E,C]) D O A
 case index t x i=>
  obtain⟨z,C,O,A⟩:=Rb h M W (p x) (p i);rcases A with A|A
  .exact BA.same (by simp[execOp,E,C]) D O A
  .exact BA.pure (by simp[execOp,E,C]) D O A
 case slice t x am Y a2=>
  cases a2 with
  |some v=>cases hf
  |none=>
   have a4:∀l:Option Operand,Pa T g.n V m w (l.map aI) (l.map a.eval):=by
    intro l;cases l with
    |none=>rfl
    |some y=>exact⟨_,rfl,p y⟩
   obtain⟨z,C,O,A⟩:=Sm h M W D (p x) (a4 am) (a4 Y);exact BA.pure (by simp[execOp,E,C]) D O A
 case extract x i=>
  obtain⟨z,C,O,A,X⟩:=OP (P:=P) h (p x);exact BA.same (by simp[execOp,E,C]) D O X
 case call c=>
  obtain⟨a5,args,ay⟩:=c;cases a5 with
  |builtin b=>exact Zn E h ba M W D p
  |value f=>cases h
  |invoke x n=>cases h
theorem XB (h:aOp P aI o.op m g=some r)(u:BD o.op=true)(A:New T g.n r.us)(D:∀q∈r.ps,q.holds T)(y:AH T g.n V m w)(p:∀x,AA T g.n V m w (aI x) (a.eval x)):
  ∃v,(execOp a.eval o).run P w= .ok (.value v) w/\AA T (g.n+r.us.length) V m w r.c v:=by
 obtain⟨v,C,_,l⟩:=vV h u A D y p;exact⟨v,C,l⟩
theorem Y4 {op:Op}(h:EA k P aI op m g=some r)(l:BD op=true):aOp P aI op m g=some r:=by
 unfold EA at h;split at h
 .exact h
 .split at h
  iterate 4
   .cases l
  .cases h
 .split at h
  .cases l
  .exact h
theorem JQ (h:EA k P aI o.op m g=some r)(l:BD o.op=true)(y:New T g.n r.us)(A:∀q∈r.ps,q.holds T)(u:AH T g.n V m w)(p:∀x,AA T g.n V m w (aI x) (a.eval x)):
  ∃v,(execOp a.eval o).run P w= .ok (.value v) w/\AA T (g.n+r.us.length) V m w r.c v:=XB (Y4 h l) l y A u p
theorem Ti {op:Op}{m:Mem}{g:G}{r:R}(l:BD op=true)(h:EA k P aI op m g=some r){V :Nat->Option Nat}{w:World}(y:New T g.n r.us)(A:∀q∈r.ps,q.holds T)(u:AH T g.n V m w)
  (p:∀x,AA T g.n V m w (aI x) (a.eval x)):r.m=m:=lf l (Y4 h l) y A u p
theorem Qp {op:Op}(h:EA k P aI op m g=some r):∀c,op≠ .defer c:=by
 intro c l;subst l;unfold EA at h;split at h<;>cases h
end
section
variable {P:Program}{T:Tab}{call:A7}{ap:Ys}{r:Option Nat}{ao:Nat}
variable{s aw:RS}{aU:Bool}{c:AC}{Z:Array Oper}{ad:PC}{o:Oper}{a:Act}{w:World}{g aq:G}{V:Nat->Option Nat}{v:Value}
theorem RW {l:PC}{base:List Nat}{j:Nat}{run:Option (PC × List Nat)}(h:Ec l base s j aU c=some (run,aw)):Ac s.g aw.g/\aw.tmps=s.tmps/\aw.mem=s.mem:=by
 cases c<;>simp only[Ec] at h<;>try (cases h;done)
 case cb b=>split at h<;>cases h<;>exact⟨Ac.refl _,rfl,rfl⟩
 case b x=>cases h;exact⟨Ac.push s.g [C5 l x aU],rfl,rfl⟩
 case nb x=>cases h;exact⟨Ac.push s.g [C5 l x (!aU)],rfl,rfl⟩
theorem Jf {run:Option (PC × List Nat)}(h:DE Z ad s o=some (run,aw)):Ac s.g aw.g/\aw.tmps=s.tmps/\aw.mem=s.mem:=by
 unfold DE at h;split at h
 .cases h;exact⟨Ac.refl _,rfl,rfl⟩
 .split at h
  .cases h;exact⟨Ac.refl _,rfl,rfl⟩
  .simp only[ABA,AA7] at h;obtain⟨_,_,_,_,c,_,h⟩:=h;split at h
   .cases h;exact⟨Ac.refl _,rfl,rfl⟩
   .simp only[AA7] at h;obtain⟨e,_,h⟩:=h;exact RW h
   .exact RW h
theorem Wj {n:Nat}{p:List GE}(C:∀e∈p,Ga T Z n a e){c:Operand}(u:a.eval c= .bool aU)(E:∀t,c= .tmp t->t < a.tmps.size):∀x∈PL Z p c aU,T x= .bool true:=by
 intro x l;cases c with
 |tmp t=>
  simp only[PL,ACI,List.mem_filter,AA8] at l;obtain⟨e,⟨A,H,hd⟩,rfl⟩:=l;have M:e.want=aU:=by simpa using H
  have y:(Z[e.j]?).bind (·.dst)=some t:=by simpa using hd
  refine (C e A).iff.2 ?_;have q:=E t rfl;have D:a.tmps[t]? =some (.bool aU):=by
   have:a.tmps.getD t undef= .bool aU:=u;simp[ABG,q] at this;simp[q,this]
  simp only[yielded,y,ABd,D,M]
 |_=>simp[PL] at l
theorem Ry (ad:PC)(c:AC):Z6 ad [] c=c:=by cases ad<;>rfl
theorem ar {p:Nat}{aV:List Nat}(h:aV≠[])(c:AC):Z6 (some p) aV c= .gd p c:=by cases aV<;>first|exact absurd rfl h|rfl
theorem MN.mono {fv:Value}{args:List Value}{R u:Ending->World->Prop}(h:MN P fv args w R)(y:∀e ab,R e ab->u e ab):MN P fv args w u:=by
 rcases h with⟨k,first,I,aC,C,O,l,p,A⟩|⟨b,q,C,O,l,p⟩
 .exact .inl ⟨k,first,I,aC,C,O,l,p,A.mono y⟩
 .exact .inr ⟨b,q,C,O,l,fun k=>(p k).mono y⟩
def aG (P:Program)(T:Tab)(args:List AC)(one:AC->PC->Mem->G->Option (AC × Mem × G))(H:G->(Nat->Option Nat)->Mem->World->AC->Value->Prop):Prop:=
 ∀f ad m g c ag aq,one f ad m g=some (c,ag,aq)->Ac g aq/\(Agr T aq->Ar T aq->pcv T ad->BN T g ad->∀ V w fv W,H g V m w f fv->AF T g.n V m w args W->AH T g.n V m w->MN P fv W w (G8 T g V m w c ag aq))
theorem Kv (a2:Ca P T call)(O:DI P T.lp ap)(args:List AC):aG P T args (Es call ap args) (fun g V m w f fv=>AA T g.n V m w f fv):=by
 intro f ad m g c ag aq h;unfold Es at h;split at h
 .rename_i k first I
  obtain⟨l,aa⟩:=a2 ap k _ ad m g c ag aq O h;refine⟨l,fun A H M D V w fv W p C E=>?_⟩;obtain⟨X,us,q,u,Y⟩:=p;obtain⟨⟨aC,q1,q2,q3⟩,hc⟩:=aa A H M D V w (X++W++us) ((u.append C).append Y) E;exact .inl ⟨k,X,us,aC,q,q1,q2,q3,hc⟩
 .rename_i id;split at h
  .rename_i bb st bi;simp only[ABA,AA7] at h;obtain⟨y,hy,h⟩:=h;obtain⟨l,aa⟩:=O T rfl bb y hy id args ad m g c ag aq h;refine⟨l,fun A H M D V w fv W p C E=>?_⟩;obtain⟨b,q,u,_⟩:=p;grind
  .cases h
 .cases h
def C4 (g:G):PC->Prop
 |none=>True
 |some c=>c < g.n
theorem C4.grow (h:C4 g ad)(k:Ac g aq):C4 aq ad:=by
 cases ad with
 |none=>trivial
 |some c=>exact ABE h k.n
theorem BN.lt (h:BN T g ad):C4 g ad:=by
 cases ad with
 |none=>trivial
 |some c=>exact h.1
theorem C4.ok (h:C4 g ad)(l:pcv T ad):BN T g ad:=by
 cases ad with
 |none=>trivial
 |some c=>exact⟨h,true,l⟩
theorem HD {c:Nat}:pcv T (some c)↔(T c).toB=true:=⟨fun h=>by rw[show T c= .bool true from h];rfl,Rk⟩
theorem Im {p:PC}{x:Nat}(h:Dd g ad x aU=(p,aq)):Ac g aq/\(Agr T aq->C4 g ad->x < g.n->C4 aq p/\(pcv T p↔pcv T ad/\(T x).toB=aU)):=by
 have push:∀{p aq},(some g.n,g.pushAll [C5 ad x aU])=(p,aq)->Ac g aq/\(Agr T aq->C4 g ad->x < g.n->C4 aq p/\(pcv T p↔pcv T ad/\(T x).toB=aU)):=by
  intro p aq h;cases h;refine⟨Ac.push _ _,fun l y q=>⟨by show _ < _;rw[Bb];exact Nat.lt_succ_self _,?_⟩⟩;have u:=l.new.head;rw[HD,u];cases ad with
  |none=>
   simp only[pcv,true_and];cases aU<;>simp[C5,Ex.eval,oId,XE,u0,eve,U.toB]
  |some c=>
   rw[HD];cases aU<;>simp[C5,Ex.eval,SM,u0,u1,eve,evn,U.toB]
 unfold Dd at h;split at h
 .cases h;refine⟨Ac.refl _,fun l _ q=>⟨q,?_⟩⟩;simp only[pcv,true_and];exact⟨fun h=>by rw[h];rfl,Rk⟩
 .exact push h
theorem N0 {b:Bool}{aL:Rf}(u:(aL.eval T).toB=b){n n0 aj:Nat}{az al:Mem}(p:AH T n V (sel b az al) w){d:AC}(C:n<=n0)
  (q:New T n0 ((Bf aL n0 az al).2++(Gk (n0+(Bf aL n0 az al).2.length) aL c d).2))
  (D:n0+((Bf aL n0 az al).2.length+(Gk (n0+(Bf aL n0 az al).2.length) aL c d).2.length)<=aj)
  (h:AA T n V (sel b az al) w (sel b c d) v):
  ∃ ac,AI T n V (sel b az al) w ac (Bf aL n0 az al).1 w/\AH T aj ac (Bf aL n0 az al).1 w/\AA T aj ac (Bf aL n0 az al).1 w (Gk (n0+(Bf aL n0 az al).2.length) aL c d).1 v:=by
 obtain⟨A,y,-,-⟩:=O6 (aj:=aj) u p C q.left (by omega);have O:=AA.mono y p (ABB _) _ _ h;refine⟨_,y,A,xS (n:=n) u (by omega) q.right (by omega) (fun l=>?_) (fun l=>?_)⟩
 iterate 2
  .subst l;exact O
theorem W9 {args:List AC}{one:AC->PC->Mem->G->Option (AC × Mem × G)}(b2:aG P T args one (fun g V m w f fv=>AA T g.n V m w f fv)){x:Nat}{aY:Int}(b1:T x= .int aY)(h0:0<=aY):
  ∀(ca:List AC) (j:Nat),aG P T args (fun _ ad m g=>KL one x j ca ad m g) (fun g V m w _ fv=>j<=aY.toNat/\Av T g.n V m w ca (aY.toNat - j) fv)
 |[],j=>fun f ad m g c ag aq h=>by simp[KL] at h
 |[aN],j=>by
  intro f ad m g c ag aq h;have h':one aN ad m g=some (c,ag,aq):=by cases aN<;>first|exact h|(rename_i cc;cases cc<;>exact h)
  obtain⟨gr,aa⟩:=b2 aN ad m g c ag aq h';refine⟨gr,fun hA X Y hk V w fv W ⟨hj,p⟩ a3 q=>aa hA X Y hk V w fv W ?_ a3 q⟩;cases hd:aY.toNat - j with
  |zero=>rw[hd] at p;exact p
  |succ d=>rw[hd] at p;exact p.elim
 |aN::aS::aD,j=>by
  intro f ad m g c ag aq h;by_cases cu:aN= .cv .nilFunc
  .subst cu;simp only[KL] at h;obtain⟨gr,aa⟩:=W9 b2 b1 h0 (aS::aD) (j+1) f ad m _ c ag aq h;refine⟨(Ac.need _ _ _).trans gr,fun hA X Y hk V w fv W ⟨hj,p⟩ a3 q=>?_⟩;have dd:=Ar.need (X.of gr) Y ⟨ "ne",pNe,[.e x,.c (.int j)]⟩ (by simp);simp only[Pr.holds,pNe,ABQ,ABk,u0,u1,eve,evc,b1,U.toI] at dd;obtain⟨e1,e2,e3,e4⟩:=DG [⟨ "ne",pNe,[.e x,.c (.int j)]⟩] g ad;have hd:aY.toNat - j=(aY.toNat - (j+1))+1:=by omega
   rw[hd] at p;have:=aa hA X Y (hk.grow (Ac.need _ _ _)) V w fv W ⟨by omega,by rw[e1];exact p⟩ (by rw[e1];exact a3) (by rw[e1];exact q);refine this.mono fun e ab ⟨v, ac,q1,q2,q3,q4⟩=>⟨v, ac,q1,by rw[e1] at q2;exact q2,q3,q4⟩
  .have de:KL one x j (aN::aS::aD) ad m g=(do
     let t:=g.n;let g:=g.pushAll [⟨ "eq",oEq,[.e x,.c (.int j)]⟩];let (pa,g):=Dd g ad t true;let (y,aE,g) <-one aN pa m g;let (pb,g):=Dd g ad t false;let (A,u,g) <-KL one x (j+1) (aS::aD) pb m g;let (ag,us):=Bf (.e t) g.n aE u;let (c',dm):=Gk (g.n+us.length) (.e t) y A
     some (c',ag,g.pushAll (us++dm))):=by
    cases aN<;>first|rfl|(rename_i cc;cases cc<;>first|rfl|exact absurd rfl cu)
   simp only[de] at h;generalize b7:g.pushAll [⟨ "eq",oEq,[.e x,.c (.int j)]⟩]=g0 at h;have H:Ac g g0:=by rw[<-b7];exact Ac.push _ _
   have d0:g0.n=g.n+1:=by rw[<-b7,Bb];rfl
   generalize c8:Dd g0 ad g.n true=ba at h;obtain⟨pa,g1⟩:=ba;simp only[ABA,AA7] at h;obtain⟨⟨y,aE,au⟩,C,h⟩:=h;simp only at h;generalize c9:Dd au ad g.n false=bb at h;obtain⟨pb,g3⟩:=bb;simp only[AA7] at h;obtain⟨⟨A,u,l⟩,O,h⟩:=h;cases h;obtain⟨D,k1⟩:=Im (T:=T) c8;obtain⟨M,E⟩:=b2 aN pa m g1 y aE au C;obtain⟨a1,k3⟩:=Im (T:=T) c9;obtain⟨bi,k4⟩:=W9 b2 b1 h0 (aS::aD) (j+1) f pb m g3 A u l O;have bt:Ac l (l.pushAll ((Bf (.e g.n) l.n aE u).2++(Gk (l.n+(Bf (.e g.n) l.n aE u).2.length) (.e g.n) y A).2)):=Ac.push _ _;refine⟨((((H.trans D).trans M).trans a1).trans bi).trans bt,fun hA X Y hk V w fv W ⟨hj,p⟩ a3 q=>?_⟩;have ci:=hA.of bt;have ch:=ci.of bi;have cf:=ch.of a1;have ce:=cf.of M;have c7:=ce.of D;have hT:T g.n= .bool (decide (aY=j)):=by
    have:Agr T (g.pushAll [⟨ "eq",oEq,[.e x,.c (.int j)]⟩]):=by rw[b7];exact c7
    rw[this.new.head];simp[Ex.eval,oEq,u0,u1,eve,evc,b1,U.toI]
   obtain⟨cy,a2⟩:=k1 ce (hk.lt.grow H) (by omega);obtain⟨c1,a4⟩:=k3 ch (hk.lt.grow ((H.trans D).trans M)) (by have:=D.n;have:=M.n;omega);have cs:=hA.new;have cl:(l.pushAll ((Bf (.e g.n) l.n aE u).2++(Gk (l.n+(Bf (.e g.n) l.n aE u).2.length) (.e g.n) y A).2)).n=l.n+((Bf (.e g.n) l.n aE u).2.length+(Gk (l.n+(Bf (.e g.n) l.n aE u).2.length) (.e g.n) y A).2.length):=by
    rw[Bb,ABM]
   by_cases hc:aY=j
   .have cv:pcv T pa:=a2.2 ⟨Y,by rw[hT];simp[hc,U.toB]⟩;have hd:aY.toNat - j=0:=by omega
    rw[hd] at p;have up1:=(H.trans D).n;have:=E cf (X.of ((a1.trans bi).trans bt)) cv (cy.ok cv) V w fv W (AA.up q up1 p) (a3.up q up1) (q.mono up1);refine this.mono fun e ab ⟨v, ac,q1,q2,q3,q4⟩=>?_;obtain⟨aV,aF,s2,s3⟩:=N0 (n:=au.n) (b:=true) (az:=aE) (al:=u) (c:=y) (d:=A) (v:=v) (by simp[eve,hT,hc,U.toB]) q3 (a1.trans bi).n cs (Nat.le_of_eq cl.symm) q4;exact⟨v, aV,q1,(q2.down up1).trans q ((H.trans D).trans M).n aF,s2,s3⟩
   .have cx:pcv T pb:=a4.2 ⟨Y,by rw[hT];simp[hc,U.toB]⟩;have hd:aY.toNat - j=(aY.toNat - (j+1))+1:=by omega
    rw[hd] at p;have b5:=(((H.trans D).trans M).trans a1).n;have db:Av T g.n V m w (aS::aD) (aY.toNat - (j+1)) fv:=p;have:=k4 ci (X.of bt) cx (c1.ok cx) V w fv W ⟨by omega,Av.mono0 (AI.refl _ _ _ _ _) b5 _ _ _ db⟩ (a3.up q b5) (q.mono b5);refine this.mono fun e ab ⟨v, ac,q1,q2,q3,q4⟩=>?_;obtain⟨aV,aF,s2,s3⟩:=N0 (n:=l.n) (b:=false) (az:=aE) (al:=u) (c:=y) (d:=A) (v:=v) (by simp[eve,hT,hc,U.toB]) q3 (ABB _) cs (Nat.le_of_eq cl.symm) q4;exact⟨v, aV,q1,(q2.down b5).trans q ((((H.trans D).trans M).trans a1).trans bi).n aF,s2,s3⟩
theorem mO (q:Ca P T call)(u:DI P T.lp ap)(args:List AC):aG P T args (fun f ad m g=>O9 call ap f args ad m g) (fun g V m w f fv=>AA T g.n V m w f fv):=by
 intro f ad m g c ag aq h;by_cases aa:∃x l,f= .sel x l
 .obtain⟨x,l,rfl⟩:=aa;simp only[O9] at h;by_cases hx:∃aY,T x= .int aY/\0<=aY
  .obtain⟨aY,C,O⟩:=hx;obtain⟨gr,k⟩:=W9 (Kv q u args) C O l 0 .any ad m g c ag aq h;refine⟨gr,fun Y a5 bi hk V w fv W ⟨_,j,p,_,X⟩ a1 hm=>k Y a5 bi hk V w fv W ⟨ABh _,?_⟩ a1 hm⟩;rw[C] at p;cases p;exact X
  .
   refine⟨?_,fun Y a5 bi hk V w fv W ⟨_,j,p,e2,X⟩ a1 hm=>absurd ⟨j,p,e2⟩ hx⟩;have grow:∀(l:List AC) (j:Nat) (ad:PC) (m:Mem) (g:G) (c:AC) (ag:Mem) (aq:G),KL (Es call ap args) x j l ad m g=some (c,ag,aq)->Ac g aq:=by
    intro l;induction l with
    |nil=>intro j ad m g c ag aq h;simp[KL] at h
    |cons aN l ih=>
     intro j ad m g c ag aq h;cases l with
     |nil=>
      have h':Es call ap args aN ad m g=some (c,ag,aq):=by cases aN<;>first|exact h|(rename_i D;cases D<;>exact h)
      exact (Kv q u args aN ad m g c ag aq h').1
     |cons aS aD=>
      by_cases a4:aN= .cv .nilFunc
      .subst a4;simp only[KL] at h;exact (Ac.need _ _ _).trans (ih (j+1) ad m _ c ag aq h)
      .have b4:KL (Es call ap args) x j (aN::aS::aD) ad m g=(do
         let t:=g.n;let g:=g.pushAll [⟨ "eq",oEq,[.e x,.c (.int j)]⟩];let (H,g):=Dd g ad t true;let (y,aE,g) <-Es call ap args aN H m g;let (M,g):=Dd g ad t false;let (A,E,g) <-KL (Es call ap args) x (j+1) (aS::aD) M m g;let (ag,us):=Bf (.e t) g.n aE E;let (c',b5):=Gk (g.n+us.length) (.e t) y A
         some (c',ag,g.pushAll (us++b5))):=by
        cases aN<;>first|rfl|(rename_i D;cases D<;>first|rfl|exact absurd rfl a4)
       simp only[b4] at h;generalize b2:Dd (g.pushAll [⟨ "eq",oEq,[.e x,.c (.int j)]⟩]) ad g.n true=ba at h;obtain⟨H,g1⟩:=ba;simp only[ABA,AA7] at h;obtain⟨⟨y,aE,au⟩,C,h⟩:=h;simp only at h;generalize b3:Dd au ad g.n false=bb at h;obtain⟨M,g3⟩:=bb;simp only[AA7] at h;obtain⟨⟨A,E,g4⟩,O,h⟩:=h;cases h;exact ((((Ac.push _ _).trans (Im (T:=T) b2).1).trans (Kv q u args aN H m g1 y aE au C).1).trans (Im (T:=T) b3).1).trans ((ih (j+1) M m g3 A E g4 O).trans (Ac.push _ _))
   exact grow l 0 ad m g c ag aq h
 .have:O9 call ap f args ad m g=Es call ap args f ad m g:=by
   unfold O9;split
   .exact absurd ⟨_,_,rfl⟩ aa
   .rfl
  simp only[this] at h;exact Kv q u args f ad m g c ag aq h
theorem vK {n:Nat}{m:Mem}{a:AC}(l:∀q∈an a,q.holds T)(h:AA T n V m w a v):AA T n V m w (Z5 a) v:=by
 unfold Z5;split
 .rename_i c i o;have:=l ⟨ "t",pT,[.e c]⟩ (by simp[an]);simp only[Pr.holds,pT,ABQ,ABk,u0,eve] at this;exact h.2 (HD.2 this)
 .exact h
theorem ZK {n:Nat}{V :Nat->Option Nat}{m:Mem}{w:World}:∀{l:List AC} {W:List Value},(∀q∈KO l,q.holds T)->AF T n V m w l W->AF T n V m w (l.map Z5) W
 |[],_,_,h=>h
 |a::l,_,hq,⟨u,us,e,C,O⟩=>⟨u,us,e,vK (fun q p=>hq q (by simp[KO,p])) C,ZK (fun q p=>hq q (by simp[KO,p])) O⟩
theorem P5 {m:Mem}{l:R}{K:Act->World->Prop}{Q:Exit->Act->World->Prop}(A:∀c,o.op≠ .defer c)(h:BK T g V m w ((execOp a.eval o).run P w) l)
  (D:BD o.op=true->∃x,(execOp a.eval o).run P w= .ok x w)
  (u:∀v ab ac,AI T g.n V m w ac l.m ab->AH T (g.n+l.us.length) ac l.m ab->AA T (g.n+l.us.length) ac l.m ab l.c v->(BD o.op=true->ab=w)->K (a.put o.dst v) ab):o.wpIn (fen r) ao P a w K Q:=by
 refine J2 A ?_;obtain⟨v,ab, ac,C|⟨C,rfl⟩,O,p,q⟩:=h
 .rw[C];refine u v ab ac O p q fun y=>?_;grind
 .rw[C];refine u _ ab ac O p q fun y=>?_;grind
theorem Ix (dd:Ca P T call)(d5:DI P T.lp ap)(h:Bh P call ap Z ad s o=some aw):
  Ac s.g aw.g/\(Agr T aw.g->Ar T aw.g->pcv T ad->BN T s.g ad->∀ V a w K Q,CG T V Z s a w->
   (∀ ac v ab,CG T ac Z aw (a.put o.dst v) ab->AI T s.g.n V s.mem w ac aw.mem ab->(BD o.op=true->ab=w)->K (a.put o.dst v) ab)->EL P r ao Z o a w K Q):=by
 unfold Bh at h;simp only[ABA,AA7] at h;obtain⟨⟨run,aF⟩,hg,h⟩:=h;obtain⟨cf,d7,d8⟩:=Jf hg;simp only at h;split at h
 .cases h
 rename_i de;have hd:aF.gl.any (fun e=>((Z[e.j]?).bind (·.dst))==o.dst)=false:=by simpa using de
 split at h
 .
  cases h;refine⟨cf,fun hA _ cx hk V a w K Q Y M=>?_⟩;obtain⟨e1,e2,_,l,e3,_⟩:=RL hg hA cx hk Y;unfold EL;rw[e3 rfl];simp only[ABW,if_false];have:=l.put hd (Ac.refl _) (AI.refl T aF.g.n V aF.mem w) l.rel.mem (c:= .tup []) (v:=undef) ⟨[],rfl,rfl⟩;exact M V _ w this (by rw[show aF.mem=s.mem from e2];exact AI.refl _ _ _ _ _) (fun _=>rfl)
 .rename_i H aV;have bx:∀(au:G) (c:AC) (a2:Mem),Ac aF.g au->aw={ aF with tmps:=C8 aF.tmps o.dst (Z6 H aV c),mem:=a2,g:=au }->
    (aV≠[]->∀p,H=some p->(T p).toB=false->Agr T au->∀ V w,AH T aF.g.n V aF.mem w->∃ ac,AI T aF.g.n V aF.mem w ac a2 w/\AH T au.n ac a2 w)->
    (∀ V a w,CG T V Z aF a w->(∀c∈aV,T c= .bool true)->Agr T au->Ar T au->pcv T H->BN T aF.g H->∀K Q,(∀v ac ab,AI T aF.g.n V aF.mem w ac a2 ab->AH T au.n ac a2 ab->AA T au.n ac a2 ab c v->(BD o.op=true->ab=w)->K (a.put o.dst v) ab)->o.wpIn (fen r) ao P a w K Q)->
    Ac s.g aw.g/\(Agr T aw.g->Ar T aw.g->pcv T ad->BN T s.g ad->∀ V a w K Q,CG T V Z s a w->
     (∀ ac v ab,CG T ac Z aw (a.put o.dst v) ab->AI T s.g.n V s.mem w ac aw.mem ab->(BD o.op=true->ab=w)->K (a.put o.dst v) ab)->EL P r ao Z o a w K Q):=by
   intro au c a2 A d2 dj cy;subst d2;refine⟨cf.trans A,fun hA cv cx hk V a w K Q Y M=>?_⟩;have D:Agr T au:=hA;obtain⟨e1,e2,_,l,_,e4⟩:=RL hg (D.of A) cx hk Y;obtain⟨f1,f2,f3,f4,f5⟩:=e4 H aV rfl;have step:∀{ac ab},AI T aF.g.n V aF.mem w ac a2 ab->AI T s.g.n V s.mem w ac a2 ab:=fun aa=>by
    rw[<-show aF.mem=s.mem from e2];exact aa.down cf.n
   unfold EL;by_cases u:pcv T H
   .rw[f1.2 u];simp only[if_true];refine cy V a w l (f2 u) D cv u f3 K Q (fun v ac ab X E W k4=>?_);refine M ac _ ab (l.put hd A X E ?_) (step X) k4;by_cases bt:aV=[]
    .subst bt;rw[Ry];exact W
    .obtain⟨⟨p,rfl⟩,_⟩:=f5 bt;rw[ar bt];exact⟨ABE f3.1 A.n,fun _=>W,fun hn=>absurd u hn⟩
   .have hw:Region.wanted o (yielded Z a.tmps)=false:=by
     cases hw:Region.wanted o (yielded Z a.tmps) with
     |false=>rfl
     |true=>exact absurd (f1.1 hw) u
    rw[hw];simp only[ABW,if_false];have bt:aV≠[]:=fun h=>u (f4 h);obtain⟨⟨p,rfl⟩,_⟩:=f5 bt;have d0:(T p).toB=false:=by
     cases hb:(T p).toB with
     |false=>rfl
     |true=>exact absurd (HD.2 hb) u
    obtain⟨ac,bi,dn⟩:=dj bt p rfl d0 D V w l.rel.mem;refine M ac _ w (l.put hd A bi dn (v:=undef) ?_) (step bi) (fun _=>rfl);rw[ar bt];exact⟨ABE f3.1 A.n,fun h=>absurd h u,fun _=>rfl⟩
  have ca:∀{a2:Mem} {au:G},Ac aF.g au->(∀id,a2.at id=aF.mem.at id\/a2.at id= .gone)->(aV≠[]->∀p,H=some p->(T p).toB=false->Agr T au->∀ V w,AH T aF.g.n V aF.mem w->∃ ac,AI T aF.g.n V aF.mem w ac a2 w/\AH T au.n ac a2 w):=
   fun A hw _ _ _ _ _ V w hm=>⟨V,AI.weaken hw,(hm.mono A.n).weaken hw⟩
  have c0:∀(us:List Ex) (ps:List Pr),Ac aF.g ((aF.g.pushAll us).needAll H ps)/\(Agr T ((aF.g.pushAll us).needAll H ps)->New T aF.g.n us)/\
    (Ar T ((aF.g.pushAll us).needAll H ps)->pcv T H->∀q∈ps,q.holds T)/\((aF.g.pushAll us).needAll H ps).n=aF.g.n+us.length:=by
   intro us ps;obtain⟨q1,_⟩:=DG ps (aF.g.pushAll us) H;exact⟨(Ac.push _ _).trans (Ac.need _ _ _),fun hA=>hA.need.new,fun cv u=>Ar.need cv u,by rw[q1,Bb]⟩
  split at h
  .
   rename_i f args ay ho;simp only[AA7] at h;obtain⟨⟨c,al,au⟩,hc,h⟩:=h;obtain⟨c3,d3⟩:=mO dd d5 _ _ H aF.mem _ c al au hc;have c4:Ac aF.g (aF.g.needAll H (KO (args.toList.map (DC aV aF.tmps)))):=Ac.need _ _ _;have A:Ac aF.g au:=c4.trans c3;have en:(aF.g.needAll H (KO (args.toList.map (DC aV aF.tmps)))).n=aF.g.n:=(DG _ aF.g H).1;have run:∀ V a w,CG T V Z aF a w->(∀c∈aV,T c= .bool true)->Agr T au->Ar T au->pcv T H->BN T aF.g H->∀K Q,(∀v ac ab,AI T aF.g.n V aF.mem w ac al ab->AH T au.n ac al ab->AA T au.n ac al ab c v->(BD o.op=true->ab=w)->K (a.put o.dst v) ab)->o.wpIn (fen r) ao P a w K Q:=by
    intro V a w l a1 D O u bm K Q M;have a3:=HO l.rel a1;have db:=AF.of_map a3 args.toList;have bi:=ZK (Ar.need (O.of c3) u) db;refine oL ho (d3 D O u (bm.grow c4) V w _ _ (by show AA T _ V aF.mem w _ _;rw[en];exact a3 f) (by rw[en];exact bi) (by rw[en];exact l.rel.mem)) fun e ab hh=>?_;obtain⟨v, ac,rfl,X,E,W⟩:=hh;rw[en] at X;exact⟨v,rfl,M v ac ab X E W (fun hf=>by rw[ho] at hf;cases hf)⟩
   split at h
   .
    cases h;exact bx au c al A (by rw[Ry]) (fun h=>absurd rfl h) run
   .
    split at h
    .rename_i cs;cases h;obtain⟨b9,ch⟩:=FM cs;have b2:∀id,Mem.at (aF.mem++List.replicate (al.length - aF.mem.length) .gone) id=al.at id\/Mem.at (aF.mem++List.replicate (al.length - aF.mem.length) .gone) id= .gone:=by
      intro id;rw[QE];split
      .rename_i cj;exact .inl (ch id cj).symm
      .split
       .exact .inr rfl
       .exact .inl (Mem.at_ge (by omega)).symm
     refine bx au c _ A rfl (ca A fun id=>?_) (fun V a w l a1 D O u bm K Q M=>?_)
     .rw[QE];split
      .exact .inl rfl
      .split
       .exact .inr rfl
       .exact .inl (Mem.at_ge (by omega)).symm
     .refine run V a w l a1 D O u bm K Q (fun v ac ab X E W k4=>?_);have bi:AI T au.n ac al ab ac (aF.mem++List.replicate (al.length - aF.mem.length) .gone) ab:=AI.weaken b2;exact M v ac ab (X.trans l.rel.mem A.n bi) (E.weaken b2) (AA.mono bi E (ABB _) c v W) k4
    .
     split at h
     .rename_i p;cases h;have b7:Ac au (au.pushAll (Bf (.e p) au.n al aF.mem).2):=Ac.push _ _;have b9:(au.pushAll (Bf (.e p) au.n al aF.mem).2).n=au.n+(Bf (.e p) au.n al aF.mem).2.length:=by rw[Bb]
      refine bx _ c _ (A.trans b7) rfl (fun _ q hq hf hA V w hm=>?_) (fun V a w l a1 D O u bm K Q M=>?_)
      .cases hq;have dm:AH T aF.g.n V (sel false al aF.mem) w:=hm;obtain⟨q1,q2,-,-⟩:=O6 (T:=T) (n:=aF.g.n) (aj:=(au.pushAll (Bf (.e p) au.n al aF.mem).2).n) (w:=w) (az:=al) (al:=aF.mem) (b:=false) (aL:= .e p) (by show (T p).toB=false;exact hf) dm A.n hA.new (Nat.le_of_eq b9.symm);exact⟨_,q2,q1⟩
      .refine run V a w l a1 (D.of b7) (O.of b7) u bm K Q (fun v ac ab X E W k4=>?_);have d6:AH T au.n ac (sel true al aF.mem) ab:=E;obtain⟨q1,q2,-,-⟩:=O6 (T:=T) (n:=au.n) (aj:=(au.pushAll (Bf (.e p) au.n al aF.mem).2).n) (w:=ab) (az:=al) (al:=aF.mem) (b:=true) (aL:= .e p) (by show (T p).toB=true;exact HD.1 u) d6 (ABB _) D.new (Nat.le_of_eq b9.symm);have c5:AI T au.n ac al ab _ _ ab:=q2;exact M v _ ab (X.trans l.rel.mem A.n c5) q1 (AA.mono c5 E b7.n c v W) k4
     .cases h
  .
   rename_i c x y ho;simp only[AA7] at h;obtain⟨aO,hr,h⟩:=h;cases h;obtain⟨A,ga,gp,a5⟩:=c0 aO.us aO.ps;refine bx _ aO.c aF.mem A rfl (ca A fun id=> .inl rfl) (fun V a w l a1 D O u bm K Q M=>?_);have a3:=HO l.rel a1;have size:∀b,a.eval c= .bool b->∀t,c= .tmp t->t < a.tmps.size:=by
    intro b hb t ht;subst ht;rcases ABN t a.tmps.size with h|h
    .exact h
    .have:a.tmps.getD t undef= .bool b:=hb;rw[ABG,Array.getElem?_eq_none h] at this;cases this
   obtain⟨q,e1,e2,e3⟩:=Ql (V := V) (w:=w) hr (ga D) l.rel.mem (a3 c)
    (fun hb=>Xo (Wj l.ges hb (size _ hb)) (a3 x)) (fun hb=>Xo (Wj l.ges hb (size _ hb)) (a3 y))
   have cy:(execOp a.eval o).run P w= .ok (.value (if q then a.eval x else a.eval y)) w:=by simp[execOp,ho,e1,asBool]
   refine J2 (fun c hc=>by rw[ho] at hc;cases hc) ?_;rw[cy];refine M _ V w (AI.refl _ _ _ _ _) (l.rel.mem.mono A.n) ?_ (fun _=>rfl);rw[a5];exact e3
  .
   rename_i d9 ee;simp only[AA7] at h;obtain⟨aO,hr,h⟩:=h;obtain⟨A,ga,gp,a5⟩:=c0 aO.us aO.ps;split at h
   .
    cases h;refine bx _ aO.c aO.m A (by rw[Ry]) (fun h=>absurd rfl h) (fun V a w l a1 D O u bm K Q M=>?_);refine P5 (Qp hr) (XJ hr (ga D) (gp O u) l.rel.mem (HO l.rel a1)) (fun hf=>let⟨v,C,_⟩:=JQ hr hf (ga D) (gp O u) l.rel.mem (HO l.rel a1);⟨_,C⟩) (fun v ab ac X E W k4=>?_);rw[<-a5] at E W;exact M v ac ab X E W k4
   .split at h
    .rename_i di;cases h;refine bx _ aO.c aF.mem A rfl (ca A fun id=> .inl rfl) (fun V a w l a1 D O u bm K Q M=>?_);have a3:=HO l.rel a1;have ds:=Ti di hr (ga D) (gp O u) l.rel.mem a3;refine P5 (Qp hr) (XJ hr (ga D) (gp O u) l.rel.mem a3) (fun hf=>let⟨v,C,_⟩:=JQ hr hf (ga D) (gp O u) l.rel.mem a3;⟨_,C⟩) (fun v ab ac X E W k4=>?_);rw[<-a5] at E W;rw[ds] at X E W;exact M v ac ab X E W k4
    .split at h
     .rename_i cs;cases h;obtain⟨b9,ch⟩:=FM cs;have b2:∀id,Mem.at (aF.mem++List.replicate (aO.m.length - aF.mem.length) .gone) id=aO.m.at id\/Mem.at (aF.mem++List.replicate (aO.m.length - aF.mem.length) .gone) id= .gone:=by
       intro id;rw[QE];split
       .rename_i cj;exact .inl (ch id cj).symm
       .split
        .exact .inr rfl
        .exact .inl (Mem.at_ge (by omega)).symm
      refine bx _ aO.c _ A rfl (ca A fun id=>?_) (fun V a w l a1 D O u bm K Q M=>?_)
      .rw[QE];split
       .exact .inl rfl
       .split
        .exact .inr rfl
        .exact .inl (Mem.at_ge (by omega)).symm
      .have a3:=HO l.rel a1;refine P5 (Qp hr) (XJ hr (ga D) (gp O u) l.rel.mem a3) (fun hf=>let⟨v,C,_⟩:=JQ hr hf (ga D) (gp O u) l.rel.mem a3;⟨_,C⟩) (fun v ab ac X E W k4=>?_);have bi:AI T (aF.g.n+aO.us.length) ac aO.m ab ac (aF.mem++List.replicate (aO.m.length - aF.mem.length) .gone) ab:=AI.weaken b2;have q2:=E.weaken b2;have q3:=AA.mono bi E (ABB _) aO.c v W;rw[<-a5] at q2 q3;exact M v ac ab (X.trans l.rel.mem (Nat.le_add_right _ _) bi) q2 q3 k4
     .cases h
theorem Mc (l:Ca P T call)(p:DI P T.lp ap)(h:Bh P call ap Z ad s o=some aw):
  Ac s.g aw.g/\(Agr T aw.g->Ar T aw.g->pcv T ad->BN T s.g ad->∀ V a w K Q,CG T V Z s a w->
   (∀ ac v ab,CG T ac Z aw (a.put o.dst v) ab->AI T s.g.n V s.mem w ac aw.mem ab->K (a.put o.dst v) ab)->EL P r ao Z o a w K Q):=by
 obtain⟨C,O⟩:=Ix (r:=r) (ao:=ao) l p h;grind
theorem LA (D:Ca P T call)(a1:DI P T.lp ap){Z:Array Oper}{ad:PC}:∀{l:List Oper} {s aw:RS},DO P call ap Z ad l s=some aw->
  Ac s.g aw.g/\(Agr T aw.g->Ar T aw.g->pcv T ad->BN T s.g ad->∀(k:Nat) V a w Q,(∀j,l[j]? =Z[k+j]?)->CG T V Z s a w->
   (∀ ac y ab,CG T ac Z aw y ab->AI T s.g.n V s.mem w ac aw.mem ab->Q .normal y ab)->wpOpsIn (fen r) ao P Z Q (List.range' k l.length) a w)
 |[],s,aw,h=>by
  simp only[DO] at h;cases h;exact⟨Ac.refl _,fun _ _ _ _ k V a w Q _ Y q=>q V a w Y (AI.refl _ _ _ _ _)⟩
 |o::l,s,aw,h=>by
  simp only[DO,ABA,AA7] at h;obtain⟨aF,C,O⟩:=h;obtain⟨p,k1⟩:=Mc (r:=r) (ao:=ao) D a1 C;obtain⟨au,E⟩:=LA D a1 O;refine⟨p.trans au,fun A W X H k V a w Q M Y q=>?_⟩;have ho:Z[k]? =some o:=by simpa using (M 0).symm
  have:=k1 (A.of au) (W.of au) X H V a w (wpOpsIn (fen r) ao P Z Q (List.range' (k+1) l.length)) Q Y (fun ac v' ab a3 aa=>by
   refine E A W X (H.grow p) (k+1) ac _ ab Q (fun j=>by have:=M (j+1);simpa [Nat.add_assoc,Nat.add_comm 1 j] using this) a3 (fun aV a2 w2 a4 ba=>?_);exact q aV a2 w2 a4 (aa.trans Y.rel.mem p.n ba))
  simp only[ABa,List.range'_succ,wpOpsIn,ho];unfold EL at this;split
  .rename_i u;rw[ACE u] at this;exact this
  .rename_i u;rw[ACD u] at this;exact⟨fun _ _=>trivial,this⟩
end
def PI (Z:Array Oper)(ak:Array Bool):Prop:=
 ∀j o,Z[j]? =some o->ak.getD j false=true->∀e∈o.after,Region.binds .any e=true->ak.getD e.on false=true
theorem ND {ak:Array Bool}{D:List Nat}(p:∀(j r:Nat),D[j]? =some r->ak.getD j false=true->∀i,r.testBit i=true->ak.getD i false=true):
  ∀(ar:List Edge),(∀e∈ar,Region.binds .any e=true->ak.getD e.on false=true)->∀i,(E9 D ar).testBit i=true->ak.getD i false=true
 |[],_,i,h=>by simp[E9] at h
 |e::ar,hes,i,h=>by
  simp only[E9] at h;split at h
  .rename_i u;have l:=hes e (ABK ..) u;simp only[show∀x y,Nat.lor x y=x ||| y from fun _ _=>rfl,Nat.testBit_or,ABe] at h;rcases h with (h|h)|h
   .rw[Nat.testBit_two_pow] at h;have:e.on=i:=by simpa using h
    rw[<-this];exact l
   .cases q:D[e.on]? with
    |none=>rw[q] at h;simp at h
    |some r=>rw[q] at h;exact p e.on r q l i h
   .exact ND p ar (fun e l=>hes e (ABH _ l)) i h
  .exact ND p ar (fun e l=>hes e (ABH _ l)) i h
theorem Pp {ak:Array Bool}:∀(l:List Oper) (p:List Oper) (D:List Nat),D.length=p.length->
  (∀j o,(p++l)[j]? =some o->ak.getD j false=true->∀e∈o.after,Region.binds .any e=true->ak.getD e.on false=true)->
  (∀(j r:Nat) (o:Oper),D[j]? =some r->(p++l)[j]? =some o->(∀e∈o.after,Region.binds .any e=true->ak.getD e.on false=true)->∀i,r.testBit i=true->ak.getD i false=true)->
  (Ak l D).length=(p++l).length/\∀(j r:Nat) (o:Oper),(Ak l D)[j]? =some r->(p++l)[j]? =some o->(∀e∈o.after,Region.binds .any e=true->ak.getD e.on false=true)->∀i,r.testBit i=true->ak.getD i false=true
 |[],p,D,hlen,_,h=>⟨by simp[Ak,hlen],h⟩
 |o::l,p,D,hlen,hc,h=>by
  simp only[Ak];have e:p++o::l=(p++[o])++l:=by simp
  rw[e];refine Pp l (p++[o]) _ (by simp[hlen]) (by rw[<-e];exact hc) ?_;intro j r A q u;rw[AB7] at q;split at q
  .rename_i y;exact h j r A q (by rw[e];exact u)
  .rename_i y;have O:j=D.length:=by
    rcases ABN (j - D.length) 1 with C|C
    .omega
    .rw[ABf (by simpa using C)] at q;cases q
   subst O;simp at q;subst q;have W:A=o:=by
    rw[hlen] at u;simp at u;exact u.symm
   subst W;intro M;refine ND (fun j r q y=>?_) _ (fun e H=>M e (by simpa using H));obtain⟨o2,E⟩:∃o2,(p++A::l)[j]? =some o2:=by
    have:j < D.length:=(ABD.1 q).1;exact⟨_,ABC (by simp;omega)⟩
   exact h j r o2 q E (hc j o2 E y)
variable{Z:Array Oper}{j:Nat}
theorem D3 {ak:Array Bool}(q:PI Z ak){r:Nat}{o:Oper}(p:(Ak Z.toList [])[j]? =some r)(l:Z[j]? =some o)
  (u:∀e∈o.after,Region.binds .any e=true->ak.getD e.on false=true):∀i,r.testBit i=true->ak.getD i false=true:=
 (Pp (ak:=ak) Z.toList [] [] rfl (fun j o l=>q j o (by simpa using l)) (fun j r o p=>by simp at p)).2 j r o p (by simpa using l) u
theorem DB (Z:Array Oper):(Ak Z.toList []).length=Z.size:=by
 have:=(Pp (ak:= #[]) Z.toList [] [] rfl (fun j o _ h=>by simp at h) (fun j r o l=>by simp at l)).1;simpa using this
theorem FP:∀(l:List Nat) (k:Nat),HI l k=true->∀(j r:Nat),l[j]? =some r->∀i,r.testBit i=true->i < k+j
 |[],_,_,j,r,hr=>by simp at hr
 |r0::l,k,h,j,r,hr=>by
  simp only[HI,AA8] at h;intro i Y;cases j with
  |zero=>
   simp at hr;subst hr;have C:r0 < 2 ^ k:=by have:=h.1;rw[Nat.blt_eq] at this;exact this
   rcases ABN i k with q|p
   .omega
   .have:=Nat.testBit_lt_two_pow (x:=r0) (i:=i) (ABE C (Nat.pow_le_pow_right (by decide) p));rw[this] at Y;cases Y
  |succ j=>
   have:=FP l (k+1) h.2 j r (by simpa using hr) i Y;omega
theorem M4:∀(l:List Nat) (k h:Nat),h<=k->FD l k h<=k+l.length/\h<=FD l k h/\∀(j r:Nat),l[j]? =some r->FD l k h<=k+j->∀i,i < k+j->r.testBit i=true
 |[],k,h,hk=>⟨by simpa [FD] using hk,ABB _,fun j r p=>by simp at p⟩
 |r0::l,k,h,hk=>by
  simp only[FD];by_cases u:Nat.beq (r0+1) (2 ^ k)=true
  .rw[ACE u];obtain⟨C,O,q⟩:=M4 l (k+1) h (by omega);refine⟨by simp;omega,O,fun j r p y i Y=>?_⟩;cases j with
   |zero=>
    simp at p;subst p;have A:r0=2 ^ k - 1:=by have:=AA9 u;omega
    rw[A,Nat.testBit_two_pow_sub_one];simpa using Y
   |succ j=>exact q j r (by simpa using p) (by omega) i (by omega)
  .rw[ACD u];obtain⟨C,O,q⟩:=M4 l (k+1) (k+1) (by omega);refine⟨by simp;omega,by omega,fun j r p y i Y=>?_⟩;cases j with
   |zero=>omega
   |succ j=>exact q j r (by simpa using p) (by omega) i (by omega)
theorem Rp:∀{l:List Tmp},Ho l=true->l.Nodup
 |[],_=>List.nodup_nil
 |t::l,h=>by
  simp only[Ho,AA8] at h;refine List.nodup_cons.2 ⟨fun p=>?_,Rp h.2⟩;have:=h.1;simp[p] at this
theorem Du (h:Ho (Z.toList.filterMap (·.dst))=true){i:Nat}{p q:Oper}{d:Tmp}(Y:Z[i]? =some p)(u:Z[j]? =some q)(y:p.dst=some d)(A:q.dst=some d):i=j:=by
 have H:∀(l:List Oper) (i j:Nat) (p q:Oper),(l.filterMap (·.dst)).Nodup->l[i]? =some p->l[j]? =some q->p.dst=some d->q.dst=some d->i=j:=by
  intro l;induction l with
  |nil=>intro i j p q _ Y;simp at Y
  |cons o l E=>
   intro i j p q C Y u y A;cases i with
   |zero=>
    cases j with
    |zero=>rfl
    |succ j=>
     simp at Y u;subst Y;rw[List.filterMap_cons_some y] at C;exact absurd (List.mem_filterMap.2 ⟨q,ABZ.2 ⟨j,u⟩,A⟩) (List.nodup_cons.1 C).1
   |succ i=>
    cases j with
    |zero=>
     simp at Y u;subst u;rw[List.filterMap_cons_some A] at C;exact absurd (List.mem_filterMap.2 ⟨p,ABZ.2 ⟨i,Y⟩,y⟩) (List.nodup_cons.1 C).1
    |succ j=>
     simp at Y u;have D:(l.filterMap (·.dst)).Nodup:=by
      grind
     rw[E i j p q D Y u y A]
 exact H Z.toList i j p q (Rp h) (by simpa using Y) (by simpa using u) y A
theorem UH:∀(l:List Oper) (k:Nat) (t:Tmp) (i:Nat) (o:Oper),(∀(i j:Nat) (q u:Oper),l[i]? =some q->l[j]? =some u->q.dst=some t->u.dst=some t->i=j)->l[i]? =some o->o.dst=some t->CK (BU k l) t=some (k+i)
 |[],_,_,i,o,_,ho,_=>by simp at ho
 |o0::l,k,t,i,o,hinj,ho,hd=>by
  by_cases p:o0.dst=some t
  .have:i=0:=hinj i 0 o o0 ho (by simp) hd p;subst this;simp[BU,p,CK]
  .cases i with
   |zero=>simp at ho;subst ho;exact absurd hd p
   |succ i=>
    have W:=UH l (k+1) t i o (fun i j q u C O D E=>by have:=hinj (i+1) (j+1) q u (by simpa using C) (by simpa using O) D E;omega) (by simpa using ho) hd;rw[show k+(i+1)=k+1+i by omega,<-W];cases y:o0.dst with
    |none=>simp[BU,y]
    |some A=>
     have M:Nat.beq A t=false:=by
      cases H:Nat.beq A t with
      |false=>rfl
      |true=>exact absurd (by rw[y,AA9 H]) p
     simp[BU,y,CK,M]
theorem JY (D:List (Tmp × Nat))(ok:Nat->Bool)(s:AZ):∀(l:List Tmp) (t:Tmp) (c:AC),BH (CC D ok s l) t=some c->s.get t=some c/\∀i,CK D t=some i->ok i=true
 |[],t,c,h=>by simp[CC,BH] at h
 |t0::r,t,c,h=>by
  simp only[CC] at h;cases p:s.get t0 with
  |none=>rw[p] at h;exact JY D ok s r t c h
  |some aN=>
   rw[p] at h;have y:(BH ((t0,aN)::CC D ok s r) t=some c/\∀i,CK D t0=some i->ok i=true)\/BH (CC D ok s r) t=some c:=by
    simp only at h;cases q:CK D t0 with
    |none=>rw[q] at h;exact .inl ⟨by simpa using h,fun i Y=>by cases Y⟩
    |some i=>
     rw[q] at h;simp only at h;split at h
     .rename_i u;exact .inl ⟨h,fun i Y=>by cases Y;exact u⟩
     .exact .inr h
   rcases y with⟨C,O⟩|C
   .rw[I4] at C;split at C
    .rename_i e;subst e;cases C;exact⟨p,O⟩
    .exact JY D ok s r t c C
   .exact JY D ok s r t c C
theorem VX {S:DS}(q:Ho (Z.toList.filterMap (·.dst))=true){ok:Nat->Bool}{R:Nat}{Bt:List Tmp}{t:Tmp}{c:AC}(h:(S.masked (BU 0 Z.toList) ok R Bt).tmps.get t=some c):
  S.tmps.get t=some c/\∀(i:Nat) (o:Oper),Z[i]? =some o->o.dst=some t->ok i=true:=by
 have p:BH (CC (BU 0 Z.toList) ok S.tmps Bt) t=some c:=by
  simp only[DS.masked,AZ.get] at h;cases l:BH (CC (BU 0 Z.toList) ok S.tmps Bt) t with
  |none=>rw[l] at h;simp[Tr.get] at h
  |some d=>rw[l] at h;exact h
 obtain⟨C,O⟩:=JY _ _ _ _ _ _ p;refine⟨C,fun i o u hd=>O i ?_⟩;have:=UH Z.toList 0 t i o (fun i j y A a b c d=>Du q (by simpa using a) (by simpa using b) c d) (by simpa using u) hd;simpa using this
section
variable {P:Program}{T:Tab}{n aj:Nat}{V ac:Nat->Option Nat}{m ag:Mem}{w ab:World}
structure QI (ρ :Nat->Option Nat) (m:Mem) (ρ':Nat->Option Nat) (m':Mem):Prop where
 at':∀id,m.at id≠ .pad->m'.at id=m.at id
 rho:∀id,m.at id≠ .pad-> ρ' id= ρ id
theorem QI.safe (h:QI V m ac ag){b off:Nat}(aa:Ag T ac ag w b off):Ag T V m w b off:=by
 refine⟨aa.1,aa.2.1,fun id=>?_⟩;by_cases l:m.at id= .pad
 .rw[l];trivial
 .have:=aa.2.2 id;rw[h.at' id l,h.rho id l] at this;exact this
mutual
theorem AA.back (h:QI V m ac ag):∀(c:AC) (p v:Value) (aH:World),AA T n V m aH c p->AA T aj ac ag w c v->AA T n V m w c v
 | .any,_,_,_,_,_=>trivial
 | .anyc,_,_,_,_,hh=>hh
 | .on _ a,p,v,aH,h0,hh=>⟨h0.1,fun u=>AA.back h a p v aH (h0.2 u) (hh.2 u)⟩
 | .gd _ a,p,v,aH,h0,hh=>⟨h0.1,fun u=>AA.back h a p v aH (h0.2.1 u) (hh.2.1 u),hh.2.2⟩
 | .cb _,_,_,_,_,hh=>hh
 | .b _,_,_,_,h0,hh=>⟨h0.1,hh.2⟩
 | .nb _,_,_,_,h0,hh=>⟨h0.1,hh.2⟩
 | .ci _ _,_,_,_,_,hh=>hh
 | .i _ _ _ _,_,_,_,h0,hh=>⟨h0.1,hh.2⟩
 | .cv _,_,_,_,_,hh=>hh
 | .v _,_,_,_,h0,hh=>⟨h0.1,hh.2⟩
 | .s _,_,_,_,h0,hh=>⟨h0.1,hh.2⟩
 | .ptr id off,p,v,aH,⟨b0,_,_,h3⟩,⟨b,k1,E,_⟩=>⟨b,by rw[<-h.rho id (BM h3)];exact k1,E,h3⟩
 | .pix id base B aE x an,p,v,aH,⟨h0,b0,U,_,_,_,_,_,h3⟩,⟨_,b,j,k1,E,k3,k4,k5,_⟩=>⟨h0,b,j,by rw[<-h.rho id (BM h3)];exact k1,E,k3,k4,k5,h3⟩
 | .ro x ks,p,v,aH,h0,⟨_,k1⟩=>⟨h0.1,AX.mono (fun _ _ aa=>⟨h.safe aa,rfl⟩) (.list ks) (T x) v k1⟩
 | .rp x t off ks,p,v,aH,h0,⟨_,j,b,o,us,E,k3,k4,k5,k6⟩=>⟨h0.1,j,b,o,us,E,k3,k4,k5,Al.mono (fun _ _ aa=>⟨h.safe aa,rfl⟩) _ _ _ _ k6⟩
 | .vec id x ks,p,v,aH,⟨C,O,_,_⟩,⟨_,_,k3,k4⟩=>⟨C,O,AX.mono (fun _ _ aa=>⟨h.safe aa,rfl⟩) (.list ks) (T x) v k3,fun af e q=>by
   have:=k4 af e (by rw[h.at' id O];exact q);unfold Xd at this⊢;rw[h.rho id O] at this;exact this⟩
 | .fn f first I,p,v,aH,⟨vs0,us0,_,a1,a2⟩,⟨W,us,k1,E,k3⟩=>⟨W,us,k1,AF.back h first vs0 W aH a1 E,AF.back h I us0 us aH a2 k3⟩
 | .sel x alts,p,v,aH,⟨h0,U,a1,_,a3⟩,⟨_,j,k1,E,k3⟩=>⟨h0,j,k1,E,by
   have e:U=j:=by rw[a1] at k1;injection k1
   subst e;exact Av.back h alts U.toNat p v aH a3 k3⟩
 | .yl id,p,v,aH,⟨b0,_,_,h3⟩,⟨b,k1,E,_⟩=>⟨b,by rw[<-h.rho id (BM h3)];exact k1,E,h3⟩
 | .asl id off len,p,v,aH,⟨b0,_,_,h3⟩,⟨b,k1,E,_⟩=>⟨b,by rw[<-h.rho id (BM h3)];exact k1,E,h3⟩
 | .rsv id x ks,p,v,aH,⟨C,O,h4,_,_⟩,⟨_,_,_,k3,k4⟩=>⟨C,O,h4,k3,fun af e q=>by
   have:=k4 af e (by rw[h.at' id O];exact q);unfold V4 at this⊢;rw[h.rho id O] at this;exact this⟩
 | .mr id y,p,v,aH,⟨⟨C,O⟩,_⟩,⟨_,j,a,I,k1,E,k3,k4,k5⟩=>⟨⟨C,O⟩,j,a,I,k1,E,k3,k4,fun x ks e q=>by
   have:=k5 x ks e (by rw[h.at' id O];exact q);unfold TB at this⊢;rw[h.rho id O] at this;exact this⟩
 | .mp id y t sz off,p,v,aH,⟨⟨C,h1',O⟩,_⟩,⟨_,j,L,b,k1,E,k3,k4,k5⟩=>⟨⟨C,h1',O⟩,j,L,b,k1,E,k3,k4,fun x ks e q=>by
   have:=k5 x ks e (by rw[h.at' id O];exact q);rw[h.rho id O] at this;exact this⟩
 | .mv id,p,v,aH,⟨b0,_,_,h3⟩,⟨b,k1,E,_⟩=>⟨b,by rw[<-h.rho id (BM h3)];exact k1,E,h3⟩
 | .agg l,p,v,aH,⟨vs0,_,a1⟩,⟨W,k1,E⟩=>⟨W,k1,AF.back h l vs0 W aH a1 E⟩
 | .tup l,p,v,aH,⟨vs0,_,a1⟩,⟨W,k1,E⟩=>⟨W,k1,AF.back h l vs0 W aH a1 E⟩
theorem AF.back (h:QI V m ac ag):∀(l:List AC) (p W:List Value) (aH:World),AF T n V m aH l p->AF T aj ac ag w l W->AF T n V m w l W
 |[],_,_,_,_,hh=>hh
 |c::l,p,W,aH,⟨u0,us0,_,a1,a2⟩,⟨u,us,k1,E,k3⟩=>⟨u,us,k1,AA.back h c u0 u aH a1 E,AF.back h l us0 us aH a2 k3⟩
theorem Av.back (h:QI V m ac ag):∀(l:List AC) (j:Nat) (p v:Value) (aH:World),Av T n V m aH l j p->Av T aj ac ag w l j v->Av T n V m w l j v
 |[],_,_,_,_,h0,_=>h0.elim
 |c::_,0,p,v,aH,h0,hh=>AA.back h c p v aH h0 hh
 |_::l,j+1,p,v,aH,h0,hh=>Av.back h l j p v aH h0 hh
end
mutual
theorem AA.backF (h:QI V m ac ag):∀(c:AC) (v:Value),(AC.free c=true\/∀id,ag.at id≠ .pad->m.at id≠ .pad)->AA T n ac ag w c v->AA T n V m w c v
 | .any,_,_,_=>trivial
 | .anyc,_,_,p=>p
 | .on _ a,v,hf,p=>⟨p.1,fun D=>AA.backF h a v (hf.imp (fun q=>by simpa [AC.free] using q) id) (p.2 D)⟩
 | .gd _ a,v,hf,p=>⟨p.1,fun D=>AA.backF h a v (hf.imp (fun q=>by simpa [AC.free] using q) id) (p.2.1 D),p.2.2⟩
 | .cb _,_,_,p=>p
 | .b _,_,_,p=>p
 | .nb _,_,_,p=>p
 | .ci _ _,_,_,p=>p
 | .i _ _ _ _,_,_,p=>p
 | .cv _,_,_,p=>p
 | .v _,_,_,p=>p
 | .s _,_,_,p=>p
 | .ptr id off,v,hf,⟨b,k1,E,k3⟩=>by
  have u:=hf.resolve_left (by simp[AC.free]) id (BM k3);exact⟨b,by rw[<-h.rho id u];exact k1,E,by rw[<-h.at' id u];exact k3⟩
 | .pix id base B aE x an,v,hf,⟨h0,b,j,k1,E,k3,k4,k5,k6⟩=>by
  have u:=hf.resolve_left (by simp[AC.free]) id (BM k6);exact⟨h0,b,j,by rw[<-h.rho id u];exact k1,E,k3,k4,k5,by rw[<-h.at' id u];exact k6⟩
 | .ro x ks,v,_,⟨h0,k1⟩=>⟨h0,AX.mono (fun _ _ aa=>⟨h.safe aa,rfl⟩) (.list ks) (T x) v k1⟩
 | .rp x t off ks,v,_,⟨h0,j,b,o,us,E,k3,k4,k5,k6⟩=>⟨h0,j,b,o,us,E,k3,k4,k5,Al.mono (fun _ _ aa=>⟨h.safe aa,rfl⟩) _ _ _ _ k6⟩
 | .vec id x ks,v,hf,⟨k1,E,k3,k4⟩=>by
  have u:=hf.resolve_left (by simp[AC.free]) id E;refine⟨k1,u,AX.mono (fun _ _ aa=>⟨h.safe aa,rfl⟩) (.list ks) (T x) v k3,fun af e A=>?_⟩;have:=k4 af e (by rw[h.at' id u];exact A);unfold Xd at this⊢;rw[h.rho id u] at this;exact this
 | .fn f first I,v,hf,⟨W,us,k1,E,k3⟩=>⟨W,us,k1,AF.backF h first W (hf.imp (fun p=>by simp only[AC.free,AA8] at p;exact p.1) (fun p=>p)) E,
   AF.backF h I us (hf.imp (fun p=>by simp only[AC.free,AA8] at p;exact p.2) (fun p=>p)) k3⟩
 | .sel x alts,v,hf,⟨h0,j,k1,E,k3⟩=>⟨h0,j,k1,E,Av.backF h alts j.toNat v (hf.imp (fun p=>by simpa [AC.free] using p) (fun p=>p)) k3⟩
 | .yl id,v,hf,⟨b,k1,E,k3⟩=>by
  have u:=hf.resolve_left (by simp[AC.free]) id (BM k3);exact⟨b,by rw[<-h.rho id u];exact k1,E,by rw[<-h.at' id u];exact k3⟩
 | .asl id off len,v,hf,⟨b,k1,E,k3⟩=>by
  have u:=hf.resolve_left (by simp[AC.free]) id (BM k3);exact⟨b,by rw[<-h.rho id u];exact k1,E,by rw[<-h.at' id u];exact k3⟩
 | .rsv id x ks,v,hf,⟨k1,E,k5,k3,k4⟩=>by
  have u:=hf.resolve_left (by simp[AC.free]) id E;refine⟨k1,u,k5,k3,fun af e A=>?_⟩;have:=k4 af e (by rw[h.at' id u];exact A);unfold V4 at this⊢;rw[h.rho id u] at this;exact this
 | .mr id y,v,hf,⟨⟨C,O⟩,j,a,I,k1,E,k3,k4,k5⟩=>by
  have u:=hf.resolve_left (by simp[AC.free]) id O;refine⟨⟨C,u⟩,j,a,I,k1,E,k3,k4,fun x ks e A=>?_⟩;have:=k5 x ks e (by rw[h.at' id u];exact A);unfold TB at this⊢;rw[h.rho id u] at this;exact this
 | .mp id y t sz off,v,hf,⟨⟨C,h1',O⟩,j,L,b,k1,E,k3,k4,k5⟩=>by
  have u:=hf.resolve_left (by simp[AC.free]) id O;refine⟨⟨C,h1',u⟩,j,L,b,k1,E,k3,k4,fun x ks e A=>?_⟩;have:=k5 x ks e (by rw[h.at' id u];exact A);rw[h.rho id u] at this;exact this
 | .mv id,v,hf,⟨b,k1,E,k3⟩=>by
  have u:=hf.resolve_left (by simp[AC.free]) id (BM k3);exact⟨b,by rw[<-h.rho id u];exact k1,E,by rw[<-h.at' id u];exact k3⟩
 | .agg l,v,hf,⟨W,k1,E⟩=>⟨W,k1,AF.backF h l W (hf.imp (fun p=>by simpa [AC.free] using p) (fun p=>p)) E⟩
 | .tup l,v,hf,⟨W,k1,E⟩=>⟨W,k1,AF.backF h l W (hf.imp (fun p=>by simpa [AC.free] using p) (fun p=>p)) E⟩
theorem AF.backF (h:QI V m ac ag):∀(l:List AC) (W:List Value),(AC.freeL l=true\/∀id,ag.at id≠ .pad->m.at id≠ .pad)->AF T n ac ag w l W->AF T n V m w l W
 |[],_,_,p=>p
 |c::l,W,hf,⟨u,us,k1,E,k3⟩=>⟨u,us,k1,AA.backF h c u (hf.imp (fun p=>by simp only[AC.freeL,AA8] at p;exact p.1) (fun p=>p)) E,
   AF.backF h l us (hf.imp (fun p=>by simp only[AC.freeL,AA8] at p;exact p.2) (fun p=>p)) k3⟩
theorem Av.backF (h:QI V m ac ag):∀(l:List AC) (j:Nat) (v:Value),(AC.freeL l=true\/∀id,ag.at id≠ .pad->m.at id≠ .pad)->Av T n ac ag w l j v->Av T n V m w l j v
 |[],_,_,_,p=>p.elim
 |c::_,0,v,hf,p=>AA.backF h c v (hf.imp (fun p=>by simp only[AC.freeL,AA8] at p;exact p.1) (fun p=>p)) p
 |_::l,j+1,v,hf,p=>Av.backF h l j v (hf.imp (fun p=>by simp only[AC.freeL,AA8] at p;exact p.2) (fun p=>p)) p
end
variable{id x:Nat}{e:TypeId}
theorem AH.tok_lt (l:AH T n V m w){ks:List Kd}(p:m.at id= .tok x ks e):x < n:=by
 have:=l.blk id;rw[p] at this;exact this.1
theorem AH.row_lt (l:AH T n V m w){y:Nat}{ks:List Kd}(p:m.at id= .mrow x y ks e):x < n/\y < n:=by
 have:=l.blk id;rw[p] at this;exact this.1
theorem AI.same (aa:AI T n V m w ac ag ab)(C:AH T n V m w)(q:∀id,m.at id≠ .pad->ag.at id=m.at id):QI V m ac ag where
 at':=q
 rho:=fun id u=>by
  cases p:m.at id with
  |pad=>exact absurd p u
  |gone=>exact (aa.rho id (by rw[p];rfl)).1
  |cells l e=>exact (aa.rho id (by rw[p];rfl)).1
  |lp x M=>exact (aa.rho id (by rw[p];rfl)).1
  |mapb x ao H aJ aT=>exact (aa.rho id (by rw[p];rfl)).1
  |mrow x y ks e=>
   rcases aa.row id x y ks e p with O|⟨L,aF,af,O,_,⟨_,A,_⟩|⟨A,_⟩⟩
   .rw[q id u,p] at O;cases O
   .exact A
   .rw[q id u,p] at O;injection O with D E
    have:=(C.row_lt p).2;omega
  |tok x ks e=>
   rcases aa.tok id x ks e p with⟨_,O,_⟩|⟨_,O|⟨L,af,e',O,A,_⟩⟩
   .exact O
   .rw[q id u,p] at O;cases O
   .rw[q id u,p] at O;injection O with D E
    have:=C.tok_lt p;omega
theorem AI.forget (aa:AI T n V m w ac ag ab)(X:AH T n V m w)(b5:AH T aj ac ag ab)(hk:∀id,m.at id≠ .pad->ag.at id=m.at id):AI T n V m w V m ab/\AH T n V m ab:=by
 have A:=aa.same X hk;refine⟨⟨aa.os,aa.tape,aa.output,aa.size,fun _ h=>h,fun _ h=>⟨rfl,h⟩,fun _ _ h=>h,fun id b u ht _=>?_,aa.old,fun id x ks e p=>?_,fun id x y ks e p=>?_⟩,⟨fun id=>?_,X.inj,fun b off hb=>X.fr b off (ABS aa.size hb)⟩⟩
 .rw[u] at ht;cases ht
 .refine .inl ⟨p,rfl,fun b hb=>?_⟩;have u:m.at id≠ .pad:=by rw[p];exact fun h=>by cases h
  rcases aa.tok id x ks e p with⟨_,_,h3⟩|⟨_,O|⟨L,af,e',O,h3,_⟩⟩
  .exact h3 b hb
  .grind
  .rw[hk id u,p] at O;injection O with h4 h5
   have:=X.tok_lt p;omega
 .have u:m.at id≠ .pad:=by rw[p];exact fun h=>by cases h
  rcases aa.row id x y ks e p with O|⟨L,aF,af,O,_,⟨_,_,h5⟩|⟨h3,_⟩⟩
  iterate 3
   .grind
 .have D:=X.blk id;by_cases u:m.at id= .pad
  .rw[u];trivial
  .have C:=b5.blk id;rw[hk id u] at C;cases p:m.at id with
   |pad=>trivial
   |gone=>trivial
   |cells l e=>
    rw[p] at D C;obtain⟨b1,cc,_,_,a3⟩:=D;obtain⟨b,W,H,E,Y⟩:=C;exact⟨b,W,by rw[<-A.rho id u];exact H,E,AF.back A l cc W w a3 Y⟩
   |tok x ks e=>
    rw[p] at D C;obtain⟨M,_⟩:=D;obtain⟨_,l,H,E⟩:=C;rw[A.rho id u] at E;exact⟨M,l,H,E⟩
   |mrow x y ks e=>
    rw[p] at D C;obtain⟨M,_⟩:=D;obtain⟨_,l,H,b6,b7,E⟩:=C;rw[A.rho id u] at E;refine⟨M,l,H,b6,b7,?_⟩;rcases E with E|⟨b,W,us,q1,q2,q3,q4⟩
    .exact .inl E
    .exact .inr ⟨b,W,us,q1,q2,Ah.mono (fun _ _ aa=>⟨A.safe aa,rfl⟩) q3,q4⟩
   |mapb x ao ka aJ aT=>
    rw[p] at D C;obtain⟨M,_⟩:=D;obtain⟨_,l,b,ar,a4,H,E,Y,k4,k5,k6,k7⟩:=C;rw[A.rho id u] at E;refine⟨M,l,b,ar,a4,H,E,Y,k4,k5,fun i us e hl he=>?_,k7⟩;obtain⟨u1,u2,q1,q2,q3⟩:=k6 i us e hl he;exact⟨u1,u2,q1,CJ.mono (fun _ _ aa=>⟨A.safe aa,rfl⟩) q2,CJ.mono (fun _ _ aa=>⟨A.safe aa,rfl⟩) q3⟩
   |lp x st=>
    rw[p] at D C;obtain⟨b1,q0,_,_,_,_,_,_,bx,U,b0,_⟩:=D;obtain⟨b,q,H,E,Y,k4,k5,k6,k7,j,k8,k9⟩:=C;exact⟨b,q,by rw[<-A.rho id u];exact H,E,Y,k4,k5,k6,fun i c hc=>AA.back A c _ _ w (bx i c hc) (k7 i c hc),j,AA.back A st _ _ w b0 k8,k9⟩
end
section
variable {P:Program}{T:Tab}{call:A7}{ap:Ys}{r:Option Nat}{ao:Nat}{Z:Array Oper}{ad:PC}
theorem Hl (tmps:AZ)(a3:Option Tmp)(c:AC):(C8 tmps a3 c).n=tmps.n:=by cases a3<;>simp[C8,AZ.set_n]
variable{t j h:Nat}{o:Oper}
theorem AZ.get_set_ne (s:AZ){d:Nat}(c:AC)(h:d≠t):(s.set d c).get t=s.get t:=by
 unfold AZ.set;cases hd:Nat.blt d s.n with
 |false=>rfl
 |true=>simp only[cond_true,AZ.get,I4,ACD h]
theorem TY (tmps:AZ){a3:Option Tmp}(c:AC)(h:a3≠some t):(C8 tmps a3 c).get t=tmps.get t:=by
 cases a3 with
 |none=>rfl
 |some d=>exact AZ.get_set_ne _ _ (fun e=>h (by rw[e]))
theorem RV {s aw:RS}(h:Bh P call ap Z ad s o=some aw)(l:BD o.op=true){V :Nat->Option Nat}{a:Act}{w:World}(E:Agr T aw.g)(W:Ar T aw.g)(X:pcv T ad)(M:BN T s.g ad)(Y:CG T V Z s a w):aw.mem=s.mem:=by
 unfold Bh at h;simp only[ABA,AA7] at h;obtain⟨⟨run,aF⟩,u,h⟩:=h;obtain⟨bi,bk,p⟩:=Jf u;simp only at h;split at h
 .cases h
 split at h
 .cases h;exact p
 .rename_i A aV;split at h
  .rename_i f args ay O;rw[O] at l;cases l
  .simp only[AA7] at h;grind
  .simp only[AA7] at h;obtain⟨aO,hr,h⟩:=h;split at h
   .cases h;have q:Agr T ((aF.g.pushAll aO.us).needAll A aO.ps):=E;obtain⟨e1,e2,_,y,_,C⟩:=RL u (q.of ((Ac.push _ _).trans (Ac.need _ _ _))) X M Y;obtain⟨f1,f2,f3,D,f5⟩:=C A [] rfl;have:=Ti l hr q.need.new (Ar.need W (D rfl)) y.rel.mem (HO y.rel (fun c H=>by cases H));exact this.trans p
   .grind
theorem Lh {R:Nat}{S q:DS}{D:List (Tmp × Nat)}(h:M0 P call ap Z D ad R j o S=some q):
  ∃aw c,Bh P call ap Z ad (S.masked D R.testBit R (At Z o)) o=some aw/\q=⟨C8 S.tmps o.dst c,S.mem,aw.g,(HB aw (Hr R S.gls).length).map (fun e=>(j,e))++S.gls⟩/\
   (∀d,o.dst=some d->c=(aw.tmps.get d).getD .any)/\(BD o.op=true\/(∀id,S.mem.at id≠ .pad->aw.mem.at id=S.mem.at id)/\(AC.free c=true\/∀id,aw.mem.at id≠ .pad->S.mem.at id≠ .pad))/\
   ∀e∈HB aw (Hr R S.gls).length,e∈aw.gl/\R.testBit e.j=true:=by
 unfold M0 at h;simp only[ABA,AA7] at h;obtain⟨aw,aa,h⟩:=h;split at h
 .rename_i u;rw[AA8,ABe,AA8,ABe] at u;obtain⟨C,O⟩:=u;cases h;refine⟨aw,_,aa,rfl,fun d hd=>by rw[hd];rfl,?_,fun e y=>⟨List.mem_of_mem_take y,ABb.1 C e y⟩⟩;rcases O with O|⟨O,l⟩
  .exact .inl O
  .obtain⟨M,E⟩:=FM O;have A:∀id,S.mem.at id≠ .pad->id < S.mem.length:=fun id p=>by
    rcases ABN id S.mem.length with h|h
    .exact h
    .exact absurd (Mem.at_ge h) p
   refine .inr ⟨fun id p=>E id (A id p),?_⟩;rcases l with l|l
   .refine .inr fun id p=>?_;have H:=AA9 l;rcases ABN id aw.mem.length with h|h
    .grind
    .exact absurd (Mem.at_ge h) p
   .exact .inl l
 .cases h
structure Fm (P:Program) (T:Tab) (call:A7) (ys:Ys) (ops:Array Oper) (pc:PC) (h:Nat) (S:Nat->DS):Prop where
 le:h<=ops.size
 step:∀j o,j < h->ops[j]? =some o->∃R,(Ak ops.toList [])[j]? =some R/\M0 P call ys ops (BU 0 ops.toList) pc R j o (S j)=some (S (j+1))
 masks:HI (Ak ops.toList []) 0=true
 nodup:Ho (ops.toList.filterMap (·.dst))=true
 tail:∀j r,(Ak ops.toList [])[j]? =some r->h<=j->∀i,i < j->r.testBit i=true
 call:Ca P T call
 ys:DI P T.lp ys
 gl0:(S 0).gls=[]
theorem Fm.op {S:Nat->DS}(H:Fm P T call ap Z ad h S)(l:j < h):∃o,Z[j]? =some o:=
 ⟨_,AB2 (ABE l H.le)⟩
structure AAl (S S':DS):Prop where
 grow:Ac S.g S'.g
 mem:S'.mem=S.mem
 len:S'.tmps.n=S.tmps.n
 gls:∀p∈S.gls,p∈S'.gls
theorem Fm.later {S:Nat->DS}(H:Fm P T call ap Z ad h S)(i:Nat):∀k,i+k<=h->AAl (S i) (S (i+k))/\
  ∀t,(∀j o,i<=j->j < i+k->Z[j]? =some o->o.dst≠some t)->(S (i+k)).tmps.get t=(S i).tmps.get t
 |0,_=>⟨⟨Ac.refl _,rfl,rfl,fun _ h=>h⟩,fun _ _=>rfl⟩
 |k+1,hk=>by
  obtain⟨C,O⟩:=H.later i k (by omega);obtain⟨o,q⟩:=H.op (j:=i+k) (by omega);obtain⟨R,X,aa⟩:=H.step (i+k) o (by omega) q;obtain⟨aw,c,y,l,E,M,W⟩:=Lh aa;obtain⟨A,_⟩:=Mc (r:=none) (ao:=0) H.call H.ys y;have e:S (i+(k+1))=S (i+k+1):=rfl;refine⟨⟨?_,?_,?_,?_⟩,fun t u=>?_⟩
  .rw[e,l];exact C.grow.trans A
  .rw[e,l];exact C.mem
  .rw[e,l];simp only;rw[<-C.len,Hl]
  .intro p D;rw[e,l];exact ABL _ (C.gls p D)
  .rw[e,l];simp only;rw[<-O t (fun j o C O=>u j o C (by omega))];exact TY _ _ (u (i+k) o (by omega) (by omega) q)
theorem Fm.gls {S:Nat->DS}(H:Fm P T call ap Z ad h S):∀k,k<=h->∀p∈(S k).gls,p.1 < k/\p∈(S (p.1+1)).gls
 |0,_,p,hp=>by rw[H.gl0] at hp;cases hp
 |k+1,hk,p,hp=>by
  obtain⟨o,q⟩:=H.op (j:=k) (by omega);obtain⟨R,O,aa⟩:=H.step k o (by omega) q;obtain⟨aw,c,A,l,D,E,M⟩:=Lh aa;have u:=hp;rw[l] at hp;rcases ABm.1 hp with C|C
  .obtain⟨e,W,rfl⟩:=ACI.1 C;exact⟨Nat.lt_succ_self _,u⟩
  .obtain⟨X,y⟩:=H.gls k (by omega) p C;exact⟨by omega,y⟩
structure Mz (T:Tab) (ops:Array Oper) (h:Nat) (S:Nat->DS) (listed:Array Bool) (ρ :Nat->Option Nat) (a:Act) (w:World):Prop where
 size:listed.size=ops.size
 closed:PI ops listed
 only:∀i,listed.getD i false=true->i < h
 defers:D7 T.base ρ (S 0).mem w a.defers
 asize:a.tmps.size=(S 0).tmps.n
 mem:AH T (S 0).g.n ρ (S 0).mem w
 init:∀t c,(S 0).tmps.get t=some c->(∀i o,ops[i]? =some o->o.dst=some t->listed.getD i false=false)->AA T (S 0).g.n ρ (S 0).mem w c (a.tmps.getD t undef)
 facts:∀i o d c,listed.getD i false=true->ops[i]? =some o->o.dst=some d->(S (i+1)).tmps.get d=some c->AA T (S (i+1)).g.n ρ (S 0).mem w c (a.tmps.getD d undef)
 gfacts:∀p∈(S h).gls,listed.getD p.1 false=true->Ga T ops (S (p.1+1)).g.n a p.2/\listed.getD p.2.j false=true
variable {h:Nat}{S:Nat->DS}{ak:Array Bool}{V :Nat->Option Nat}{a:Act}{w:World}
theorem Mz.val (H:Fm P T call ap Z ad h S)(I:Mz T Z h S ak V a w){k:Nat}(Y:k<=h){t:Nat}{c:AC}(l:(S k).tmps.get t=some c)
  (M:∀i o,Z[i]? =some o->o.dst=some t->ak.getD i false=true/\i < k\/ak.getD i false=false/\k<=i):AA T (S k).g.n V (S 0).mem w c (a.tmps.getD t undef):=by
 by_cases y:∃i o,Z[i]? =some o/\o.dst=some t/\i < k
 .obtain⟨i,o,p,hd,W⟩:=y;rcases M i o p hd with⟨C,_⟩|⟨_,O⟩
  .obtain⟨X,ah⟩:=H.later (i+1) (k - (i+1)) (by omega);rw[show i+1+(k - (i+1))=k by omega] at X ah;have:=ah t (fun j A D E u q=>by
    have:=Du H.nodup p u hd q;omega)
   rw[this] at l;exact (I.facts i o t c C p hd l).up0 X.grow.n
  .omega
 .obtain⟨X,ah⟩:=H.later 0 k (by omega);rw[ABJ] at X ah;have:=ah t (fun j A D E u q=>y ⟨j,A,u,q,by omega⟩);rw[this] at l;refine (I.init t c l fun i o p hd=>?_).up0 X.grow.n;grind
theorem Mz.masked {Bt:List Tmp}(H:Fm P T call ap Z ad h S)(I:Mz T Z h S ak V a w){j R:Nat}(Y:j < h)(y:(Ak Z.toList [])[j]? =some R)(D:∀i,R.testBit i=true->ak.getD i false=true):
  CG T V Z ((S j).masked (BU 0 Z.toList) R.testBit R Bt) a w:=by
 obtain⟨X,_⟩:=H.later 0 j (by omega);rw[ABJ] at X;have M:=FP _ 0 H.masks j R y;refine⟨⟨(by simp only[DS.masked];rw[X.mem];exact I.defers),?_,fun t c A=>?_,?_⟩,fun e q=>?_⟩
 .simp only[DS.masked];rw[I.asize,X.len]
 .obtain⟨C,O⟩:=VX (R:=R) H.nodup A;simp only[DS.masked];rw[X.mem];refine I.val H (by omega) C fun i o ho hd=> .inl ?_;grind
 .simp only[DS.masked];rw[X.mem];exact I.mem.mono X.grow.n
 .simp only[DS.masked,Hr,ACI,List.mem_filter] at q;obtain⟨p,⟨W,l⟩,rfl⟩:=q;have E:=D p.1 l;have a2:p.1 < j:=by have:=M p.1 l;omega
  obtain⟨ah,_⟩:=H.later j (h - j) (by omega);rw[show j+(h - j)=h by omega] at ah;obtain⟨u,_⟩:=H.later (p.1+1) (j - (p.1+1)) (by omega);rw[show p.1+1+(j - (p.1+1))=j by omega] at u;exact (I.gfacts p (ah.gls p W) E).1.up u.grow.n
theorem Ay (ak:Array Bool)(i j:Nat)(Y:i < ak.size):(ak.setIfInBounds i true).getD j false=if j=i then true else ak.getD j false:=by
 by_cases l:j=i
 .subst l;simp[ABG,ABz,Y]
 .rw[ACD l];simp only[ABG,ABz];grind
theorem E8 {a3:Option Tmp}{t:Nat}(h:a3≠some t)(v:Value):(a.put a3 v).tmps.getD t undef=a.tmps.getD t undef:=by
 cases a3 with
 |none=>rfl
 |some d=>
  simp only[Act.put,ABG,ABz];rw[ACD (fun e=>h (by rw[e]))]
theorem Mz.comes (H:Fm P T call ap Z ad h S)(hA:Agr T (S h).g)(di:Ar T (S h).g)(ci:pcv T ad)(cl:BN T (S 0).g ad)(I:Mz T Z h S ak V a w){i:Nat}{o:Oper}(Y:i < h)(E:Z[i]? =some o)
  (cu:ak.getD i false=false) (cs:∀e∈o.after,Region.binds .any e=true->ak.getD e.on false=true) {K:Act->World->Prop} {Q:Exit->Act->World->Prop}
  (hK:∀v ab,Mz T Z h S (ak.setIfInBounds i true) V (a.put o.dst v) ab->AI T (S 0).g.n V (S 0).mem w V (S 0).mem ab->K (a.put o.dst v) ab):EL P r ao Z o a w K Q:=by
 obtain⟨R,hR,aa⟩:=H.step i o Y E;obtain⟨aw,c,a1,a2,a3,b6,cy⟩:=Lh aa;obtain⟨c0,c1⟩:=Mc (r:=r) (ao:=ao) H.call H.ys a1;have b9:=D3 I.closed hR E cs;have d0:=FP _ 0 H.masks i R hR;obtain⟨X,_⟩:=H.later 0 i (by omega);rw[ABJ] at X;obtain⟨ah,_⟩:=H.later (i+1) (h - (i+1)) (by omega);rw[show i+1+(h - (i+1))=h by omega] at ah;have hg:(S (i+1)).g=aw.g:=by rw[a2]
 have b7:Agr T aw.g:=by rw[<-hg];exact hA.of ah.grow
 have ch:Ar T aw.g:=by rw[<-hg];exact di.of ah.grow
 have a5:(S i).mem=(S 0).mem:=X.mem;have M:i < ak.size:=by rw[I.size];exact (ABF.1 E).1
 have ca:=I.masked (Bt:=At Z o) H Y hR b9;have cb:aw.mem=(S i).mem\/¬BD o.op=true:=by
  by_cases hf:BD o.op=true
  .exact .inl (RV a1 hf b7 ch ci (cl.grow X.grow) ca)
  .exact .inr hf
 have a4:∀id,(S i).mem.at id≠ .pad->aw.mem.at id=(S i).mem.at id:=by
  rcases b6 with hf|h
  .rcases cb with h|h
   .intro id _;rw[h]
   .exact absurd hf h
  .exact h.1
 have cx:AC.free c=true\/∀id,aw.mem.at id≠ .pad->(S i).mem.at id≠ .pad:=by
  rcases b6 with hf|h
  .rcases cb with h|h
   .exact .inr fun id hp=>by rw[<-h];exact hp
   .exact absurd hf h
  .exact h.2
 refine c1 b7 ch ci (cl.grow X.grow) V a w K Q ca fun ac v ab ax aK=>?_;have b3:AI T (S i).g.n V (S i).mem w ac aw.mem ab:=aK;have cc:AH T (S i).g.n V (S i).mem w:=by rw[a5];exact I.mem.mono X.grow.n
 obtain⟨f1,f2⟩:=b3.forget cc ax.rel.mem a4;have dm:=b3.same cc a4;have l:AI T (S 0).g.n V (S 0).mem w V (S 0).mem ab:=by rw[<-a5];exact f1.down X.grow.n
 have b4:∀n,AI T n V (S 0).mem w V (S 0).mem ab:=fun n=>⟨l.os,l.tape,l.output,l.size,l.mlen,l.rho,l.untr,l.fresh,l.old,fun id x ks e A=>by
  rcases l.tok id x ks e A with C|⟨_,O|⟨L,af,e',O,h3,_⟩⟩
  .exact .inl C
  .rw[A] at O;cases O
  .rw[A] at O;injection O with h4 h5
   have:=I.mem.tok_lt A;omega,fun id x y ks e A=>by
  rcases l.row id x y ks e A with O|⟨L,aF,af,O,_,⟨_,_,h5⟩|⟨h3,_⟩⟩
  .rw[A] at O;cases O
  .exact .inr ⟨x,y,ks,A,rfl,.inl ⟨rfl,rfl,h5⟩⟩
  .rw[A] at O;injection O with h4 h5
   have:=(I.mem.row_lt A).2;omega⟩
 have db:AH T (S 0).g.n V (S 0).mem ab:=by
  exact (AI.forget (ag:=aw.mem) (aj:=aw.g.n) (by rw[<-a5];exact b3.down X.grow.n) I.mem ax.rel.mem (by rw[<-a5];exact a4)).2
 refine hK v ab ⟨by simp[I.size],?_,?_,?_,?_,db,?_,?_,?_⟩ l
 .
  intro j oj u W e D hb;rw[Ay _ _ _ M] at W⊢;split
  .rfl
  .split at W
   .rename_i q;subst q;rw[E] at u;cases u;exact cs e D hb
   .exact I.closed j oj u W e D hb
 .intro j hj;rw[Ay _ _ _ M] at hj;split at hj
  .rename_i q;rw[q];exact Y
  .exact I.only j hj
 .have:=I.defers.on l;cases o.dst<;>exact this
 .have:=ax.rel.size;rw[<-I.asize];cases o.dst<;>simp[Act.put]
 .
  intro t aN hc cf;have b0:o.dst≠some t:=fun hd=>by
   have:=cf i o E hd;rw[Ay _ _ _ M,ACE rfl] at this;cases this
  rw[E8 b0];refine AA.mono0 (b4 _) (ABB _) _ _ (I.init t aN hc fun j oj u hd=>?_);have:=cf j oj u hd;rw[Ay _ _ _ M] at this;split at this
  .cases this
  .exact this
 .
  intro j oj d aN W u hd hc;rw[Ay _ _ _ M] at W;split at W
  .rename_i q;subst q;rw[E] at u;cases u;rw[a2] at hc;simp only[hd,C8] at hc;rcases AZ.get_set _ _ _ _ hc with⟨_,_,c8⟩|⟨c9,dj⟩
   .have b2:=ax.rel.at d;simp only at b2;have c7:c=(aw.tmps.get d).getD .any:=a3 d hd;rw[<-c7] at b2;rw[hg,c8,<-a5];exact AA.backF dm _ _ cx b2
   .
    have hn:=c9 rfl;have ce:¬d < a.tmps.size:=by rw[I.asize,<-X.len];exact hn
    have hv:=I.val H (by omega) dj fun i' o' de bs=>by
     have:=Du H.nodup E de hd bs;subst this;exact .inr ⟨cu,ABB _⟩
    have dk:(a.put o.dst v).tmps.getD d undef=a.tmps.getD d undef:=by
     rw[hd];simp only[Act.put,ABG,ABz,if_true,ACD ce];rw[Array.getElem?_eq_none (Nat.le_of_not_lt ce)]
    rw[dk,hg];exact AA.mono0 (b4 _) c0.n _ _ hv
  .rename_i q;have b0:o.dst≠some d:=fun bs=>q (Du H.nodup u E hd bs);rw[E8 b0];exact AA.mono0 (b4 _) (ABB _) _ _ (I.facts j oj d aN W u hd hc)
 .
  intro p hp bx;rw[Ay _ _ _ M] at bx;split at bx
  .rename_i cj;obtain⟨_,q2⟩:=H.gls h (ABB _) p hp;rw[cj,a2] at q2;rcases ABm.1 q2 with C|C
   .obtain⟨e,D,rfl⟩:=ACI.1 C;obtain⟨u1,u2⟩:=cy e D;refine⟨?_,?_⟩
    .rw[hg];exact ax.ges e u1
    .rw[Ay _ _ _ M];split
     .rfl
     .exact b9 e.j u2
   .have:=(H.gls i (by omega) p C).1;omega
  .rename_i cj;obtain⟨q1,q2⟩:=I.gfacts p hp bx;have q:p.2.j≠i:=fun e=>by rw[e,cu] at q2;cases q2
   refine⟨⟨q1.lt,q1.bool,?_,q1.imp,q1.ne⟩,by rw[Ay _ _ _ M,ACD q];exact q2⟩;have hy:yielded Z (a.put o.dst v).tmps p.2.j=yielded Z a.tmps p.2.j:=by
    cases hd:o.dst with
    |none=>rfl
    |some d=>
     refine K7 ?_ v;intro D;cases b1:Z[p.2.j]? with
     |none=>rw[b1] at D;cases D
     |some op=>
      rw[b1] at D;exact q (Du H.nodup b1 E D hd)
   rw[hy];exact q1.iff
end
section
variable {P:Program}{T:Tab}{call:A7}{ap:Ys}{r:Option Nat}{ao:Nat}{Z:Array Oper}{ad:PC}
theorem RQ {D:List Nat}:∀(ar:List Edge),∀e∈ar,Region.binds .any e=true->(E9 D ar).testBit e.on=true
 |[],e,l,_=>by cases l
 |e0::ar,e,l,hb=>by
  simp only[E9];cases l with
  |head=>
   rw[ACE hb];simp only[show∀x y,Nat.lor x y=x ||| y from fun _ _=>rfl,Nat.testBit_or,Nat.testBit_two_pow];simp
  |tail _ l=>
   have:=RQ (D:=D) ar e l hb;split
   .simp only[show∀x y,Nat.lor x y=x ||| y from fun _ _=>rfl,Nat.testBit_or,this,Bool.or_true]
   .exact this
theorem Tw:∀(l:List Oper) (p:List Oper) (D:List Nat),D.length=p.length->
  (∀(j r:Nat) (o:Oper),D[j]? =some r->(p++l)[j]? =some o->∀e∈o.after,Region.binds .any e=true->r.testBit e.on=true)->
  ∀(j r:Nat) (o:Oper),(Ak l D)[j]? =some r->(p++l)[j]? =some o->∀e∈o.after,Region.binds .any e=true->r.testBit e.on=true
 |[],p,D,_,h=>h
 |o::l,p,D,hlen,h=>by
  simp only[Ak];have e:p++o::l=(p++[o])++l:=by simp
  rw[e];refine Tw l (p++[o]) _ (by simp[hlen]) ?_;intro j r y q u;rw[AB7] at q;split at q
  .exact h j r y q (by rw[e];exact u)
  .rename_i O;have H:j=D.length:=by
    rcases ABN (j - D.length) 1 with C|C
    .omega
    .rw[ABf (by simpa using C)] at q;cases q
   subst H;simp at q;subst q;have M:y=o:=by
    rw[hlen] at u;simp at u;exact u.symm
   subst M;exact fun e E A=>RQ _ e (by simpa using E) A
variable{o:Oper}{i h:Nat}{a:Act}{w:World}{Q:Exit->Act->World->Prop}{ak:Array Bool}{V:Nat->Option Nat}
theorem XQ (y:HI (Ak Z.toList []) 0=true){k:Nat}(p:Z[k]? =some o){e:Edge}(u:e∈o.after)(q:Region.binds .any e=true):e.on < k:=by
 have l:k < (Ak Z.toList []).length:=by rw[DB];exact (ABF.1 p).1
 have C:=Tw Z.toList [] [] rfl (fun j r o A=>by simp at A) k _ o (ABC l) (by simpa using p) e u q;have:=FP _ 0 y k _ (ABC l) e.on C;omega
theorem Ov (l:Z[i]? =some o){K:Act->World->Prop}(h:EL P r ao Z o a w K Q):wpOpIn (fen r) ao P Z Q i K a w:=by
 unfold EL at h;unfold wpOpIn;simp only[l];split
 .grind
 .rename_i p;rw[ACD p] at h;exact⟨fun _ _=>trivial,h⟩
theorem iu (D:Ca P T call)(W:DI P T.lp ap)(hm:HI (Ak Z.toList []) 0=true){h:Nat}(ba:∀j r,(Ak Z.toList [])[j]? =some r->h<=j->∀i,i < j->r.testBit i=true):
  ∀{l:List Oper} {s aw:RS},DO P call ap Z ad l s=some aw->Agr T aw.g->Ar T aw.g->pcv T ad->BN T s.g ad->
   ∀(k:Nat) (ak:Array Bool) V a w Q,h<=k->k+l.length=Z.size->(∀j,l[j]? =Z[k+j]?)->ak.size=Z.size->(∀j,ak.getD j false=true↔j < k)->PI Z ak->CG T V Z s a w->
   (∀ ac a' ab,CG T ac Z aw a' ab->AI T s.g.n V s.mem w ac aw.mem ab->Q .normal a' ab)->wpAnyIn (fen r) ao P .any Z Q l.length ak a w
 |[],s,aw,aa,_,_,_,_,k,ak, V,a,w,Q,hk,hlen,hl,hsz,hlist,_,Y,hK=>by
  simp only[DO] at aa;cases aa;refine wpAnyIn_done ?_ (hK V a w Y (AI.refl _ _ _ _ _)) _;refine List.eq_nil_iff_forall_not_mem.2 fun i Y=>?_;obtain⟨C,o,p,_⟩:=mem_ready.1 Y;have:i < Z.size:=(ABF.1 p).1;have O:=(hlist i).2 (by simp at hlen;omega);rw[ABG] at C O;have bm:i < ak.size:=by omega
  rw[AB2 bm] at C O;simp only[Option.getD_some] at C O;rw[C] at O;cases O
 |o::l,s,aw,aa,hA,hob,hpc,hpk,k,ak, V,a,w,Q,hk,hlen,hl,hsz,hlist,hcl,Y,hK=>by
  simp only[DO,ABA,AA7] at aa;obtain⟨aF,C,O⟩:=aa;obtain⟨g1,k1⟩:=Mc (r:=r) (ao:=ao) D W C;have au:=(LA (r:=r) (ao:=ao) D W O).1;have p:Z[k]? =some o:=by simpa using (hl 0).symm
  have E:k < ak.size:=by simp at hlen;omega
  have b3:∀i,ak.getD i true=false->ak.getD i false=false:=fun i h=>by
   rw[ABG] at h⊢;cases hx:ak[i]? with
   |none=>rfl
   |some b=>rw[hx] at h;exact h
  have only:∀i,i∈Region.ready .any Z ak->i=k:=fun i A=>by
   obtain⟨q1,oi,u,X⟩:=mem_ready.1 A;have b5:k<=i:=by
    rcases ABN i k with h|h
    .have:=(hlist i).2 h;rw[b3 i q1] at this;cases this
    .exact h
   have a4:i < (Ak Z.toList []).length:=by rw[DB];exact (ABF.1 u).1
   rcases ABN k i with h|h
   .have q:=ba i _ (ABC a4) (by omega) k h;have:=D3 hcl (ABC a4) u X k q;have:=(hlist k).1 this;omega
   .omega
  have b0:k∈Region.ready .any Z ak->wpOpIn (fen r) ao P Z Q k (wpAnyIn (fen r) ao P .any Z Q l.length (ak.setIfInBounds k true)) a w:=fun bl=>by
   obtain⟨_,ok,u,X⟩:=mem_ready.1 bl;rw[p] at u;cases u;refine Ov p ?_;refine k1 (hA.of au) (hob.of au) hpc hpk V a w _ Q Y fun ac v ab ax aK=>?_;refine iu D W hm ba O hA hob hpc (hpk.grow g1) (k+1) _ ac _ ab Q (by omega) (by simp at hlen;omega) (fun j=>by have:=hl (j+1);simpa [Nat.add_assoc,Nat.add_comm 1 j] using this) (by simpa using hsz) (fun j=>?_) ?_ ax fun aV a2 w2 bk bs=>?_
   .rw[Ay _ _ _ E];split
    .rename_i e;subst e;simp
    .rename_i e;rw[hlist j];omega
   .intro j oj M H e y q;rw[Ay _ _ _ E] at H⊢;split
    .rfl
    .split at H
     .rename_i e2;rw[e2,p] at M;cases M;exact X e y q
     .exact hcl j oj M H e y q
   .exact hK aV a2 w2 bk (aK.trans Y.rel.mem g1.n bs)
  refine⟨fun bo=>?_,fun i A=>by have:=only i A;subst this;exact b0 A⟩;exfalso;have:k∈Region.ready .any Z ak:=by
   refine mem_ready.2 ⟨?_,o,p,fun e y q=>?_⟩
   .have h0:¬ak.getD k false=true:=fun h=>by have:=(hlist k).1 h;omega
    rw[ABG,AB2 E] at h0⊢;simpa using h0
   .exact (hlist e.on).2 (XQ hm p y q)
  rw[bo] at this;cases this
def D5 (ak:Array Bool):Nat:=ak.toList.countP (fun b=> !b)
theorem Ww:∀(l:List Bool) (i:Nat),l[i]? =some false->(l.set i true).countP (fun b=> !b)+1=l.countP (fun b=> !b)
 |[],i,h=>by simp at h
 |b::l,0,h=>by simp at h;subst h;simp
 |b::l,i+1,h=>by
  have:=Ww l i (by simpa using h);simp only[List.set_cons_succ,List.countP_cons];omega
theorem Iy (Y:i < ak.size)(h:ak.getD i false=false):D5 (ak.setIfInBounds i true)+1=D5 ak:=by
 unfold D5;rw[Array.toList_setIfInBounds];refine Ww _ i ?_;rw[ABG,AB2 Y] at h;simp at h;simp[Y,h]
theorem NA:∀(l:List Bool) (h:Nat),h<=l.length->(∀j,(l[j]?).getD false=true↔j < h)->l.countP (fun b=> !b)=l.length - h
 |[],h,_,_=>by simp
 |b::l,0,_,hl=>by
  have p:b=false:=by
   have:=hl 0;simpa using this
  subst p;have:=NA l 0 (ABh _) (fun j=>by simpa using hl (j+1));simp[this]
 |b::l,h+1,hle,hl=>by
  have p:b=true:=by
   have:=(hl 0).2 (Nat.succ_pos _);simpa using this
  subst p;have:=NA l h (by simpa using hle) (fun j=>by have:=hl (j+1);simpa using this);simp[this]
theorem Ju (p:h<=ak.size)(l:∀j,ak.getD j false=true↔j < h):D5 ak=ak.size - h:=by
 unfold D5;rw[NA ak.toList h (by simpa using p) (fun j=>by rw[<-l j,ABG];simp)];simp
theorem Mz.full {S:Nat->DS}(H:Fm P T call ap Z ad h S)(I:Mz T Z h S ak V a w)(A:∀j,j < h->ak.getD j false=true):
  CG T V Z ⟨(S h).tmps,(S h).mem,(S h).g,(S h).gls.map (·.2)⟩ a w:=by
 obtain⟨X,_⟩:=H.later 0 h (by omega);rw[ABJ] at X;refine⟨⟨(by simp only;rw[X.mem];exact I.defers),by rw[I.asize,X.len],fun t c u=>?_,?_⟩,fun e y=>?_⟩
 .simp only;rw[X.mem];refine I.val H (ABB _) u fun i o E hd=>?_;rcases ABN i h with Y|Y
  .grind
  .refine .inr ⟨?_,Y⟩;cases D:ak.getD i false with
   |false=>rfl
   |true=>have:=I.only i D;omega
 .simp only;rw[X.mem];exact I.mem.mono X.grow.n
 .obtain⟨p,l,rfl⟩:=ACI.1 y;have C:=(H.gls h (ABB _) p l).1;obtain⟨q,_⟩:=H.later (p.1+1) (h - (p.1+1)) (by omega);rw[show p.1+1+(h - (p.1+1))=h by omega] at q;exact (I.gfacts p l (A p.1 C)).1.up q.grow.n
theorem yk {S:Nat->DS}(H:Fm P T call ap Z ad h S)(hA:Agr T (S h).g)(b8:Ar T (S h).g)(b9:pcv T ad)(ca:BN T (S 0).g ad){aH:World}(b5:AH T (S 0).g.n V (S 0).mem aH)
  (hK:∀(ak:Array Bool) a w,ak.size=Z.size->(∀j,ak.getD j false=true↔j < h)->PI Z ak->CG T V Z ⟨(S h).tmps,(S h).mem,(S h).g,(S h).gls.map (·.2)⟩ a w->
   AI T (S 0).g.n V (S 0).mem aH V (S 0).mem w->wpAnyIn (fen r) ao P .any Z Q (Z.size - h) ak a w):
  ∀(aM:Nat) (ak:Array Bool) (a:Act) (w:World),Mz T Z h S ak V a w->AI T (S 0).g.n V (S 0).mem aH V (S 0).mem w->D5 ak=aM->wpAnyIn (fen r) ao P .any Z Q aM ak a w:=by
 intro aM;induction aM with
 |zero=>
  intro ak a w I A hu;by_cases l:∀j,j < h->ak.getD j false=true
  .have q:∀j,ak.getD j false=true↔j < h:=fun j=>⟨I.only j,l j⟩;have p:=Ju (by rw[I.size];exact H.le) q;rw[hu,I.size] at p;have:=hK ak a w I.size q I.closed (I.full H l) A;rw[<-p] at this;exact this
  .exfalso;simp only[Classical.not_forall] at l;obtain⟨j,M,X⟩:=l;have:=Iy (ak:=ak) (i:=j) (by rw[I.size];exact ABE M H.le) (by simpa using X);omega
 |succ aM ih=>
  intro ak a w I A hu;by_cases l:∀j,j < h->ak.getD j false=true
  .have q:∀j,ak.getD j false=true↔j < h:=fun j=>⟨I.only j,l j⟩;have p:=Ju (by rw[I.size];exact H.le) q;rw[hu,I.size] at p;have:=hK ak a w I.size q I.closed (I.full H l) A;rw[<-p] at this;exact this
  .simp only[Classical.not_forall] at l;obtain⟨j,M,X⟩:=l;have b6:∃j,j < h/\ak.getD j false=false/\∀i,i < j->ak.getD i false=true:=by
    have ce:∀n,(∃j,j < n/\j < h/\ak.getD j false=false)->∃j,j < h/\ak.getD j false=false/\∀i,i < j->ak.getD i false=true:=by
     intro n;induction n with
     |zero=>rintro⟨j,C,_⟩;omega
     |succ n cc=>
      rintro⟨j,C,O,h3⟩;by_cases u:∃j,j < n/\j < h/\ak.getD j false=false
      .exact cc u
      .have b2:j=n:=by
        rcases ABN j n with h|h
        .exact absurd ⟨j,h,O,h3⟩ u
        .omega
       subst b2;refine⟨j,O,h3,fun i Y=>?_⟩;cases b3:ak.getD i false with
       |true=>rfl
       |false=>exact absurd ⟨i,Y,by omega,b3⟩ u
    exact ce (j+1) ⟨j,Nat.lt_succ_self _,M,by simpa using X⟩
   obtain⟨U,h0,W,bt⟩:=b6;have bm:∀i,ak.getD i true=false->ak.getD i false=false:=fun i h=>by
    rw[ABG] at h⊢;cases u:ak[i]? with
    |none=>rfl
    |some b=>rw[u] at h;exact h
   have bi:U∈Region.ready .any Z ak:=by
    obtain⟨o,ho⟩:=H.op h0;refine mem_ready.2 ⟨?_,o,ho,fun e he D=>bt e.on (XQ H.masks ho he D)⟩;have b4:U < ak.size:=by rw[I.size];exact ABE h0 H.le
    rw[ABG,AB2 b4] at W⊢;simpa using W
   refine⟨(fun b7=>by rw[b7] at bi;cases bi),fun i b1=>?_⟩;obtain⟨q1,o,y,q3⟩:=mem_ready.1 b1;have a5:i < Z.size:=(ABF.1 y).1;have b0:i < h:=by
    rcases ABN i h with E|E
    .exact E
    .have ba:i < (Ak Z.toList []).length:=by rw[DB];exact a5
     have D:=H.tail i _ (ABC ba) E U (by omega);have:=D3 I.closed (ABC ba) y q3 U D;rw[W] at this;cases this
   refine Ov y (I.comes H hA b8 b9 ca b0 y (bm i q1) q3 fun v ab I' cf=>?_);refine ih _ _ ab I' (A.trans b5 (ABB _) cf) ?_;have:=Iy (ak:=ak) (i:=i) (by rw[I.size];exact a5) (bm i q1);omega
end
section
variable {P:Program}{T:Tab}{call:A7}{ap:Ys}{r:Option Nat}{ao:Nat}{Z:Array Oper}{ad:PC}
theorem Yq {Z:Array Oper}{ad:PC}{s aw:RS}{o:Oper}(h:Bh P call ap Z ad s o=some aw):aw.tmps.n=s.tmps.n:=by
 unfold Bh at h;simp only[ABA,AA7] at h;obtain⟨⟨run,aF⟩,p,h⟩:=h;obtain⟨_,l,_⟩:=Jf p;rw[<-l];simp only at h;split at h
 .cases h
 split at h
 .cases h;exact Hl ..
 .split at h
  .simp only[AA7] at h;obtain⟨⟨c,m,g⟩,_,h⟩:=h;simp only at h;split at h
   .cases h;exact Hl ..
   .split at h
    .cases h;exact Hl ..
    .split at h
     .cases h;exact Hl ..
     .cases h
  .simp only[AA7] at h;obtain⟨r,_,h⟩:=h;cases h;exact Hl ..
  .simp only[AA7] at h;obtain⟨r,_,h⟩:=h;split at h
   .cases h;exact Hl ..
   .split at h
    .cases h;exact Hl ..
    .split at h
     .cases h;exact Hl ..
     .cases h
theorem Tz {D:List (Tmp × Nat)}:∀{l:List Oper} {u:List Nat} {U:Nat} {p q:DS},heads P call ap Z D ad u l U p=some q->
  ∃S:Nat->DS,S U=p/\S (U+l.length)=q/\∀i o,l[i]? =some o->∃R,u[i]? =some R/\M0 P call ap Z D ad R (U+i) o (S (U+i))=some (S (U+i+1))
 |[],u,U,p,q,h=>by
  have E:some p=some q:=by cases u<;>exact h
  cases E;exact⟨fun _=>p,rfl,rfl,fun i o M=>by simp at M⟩
 |o::l,[],U,p,q,h=>by simp[heads] at h
 |o::l,R::u,U,p,q,h=>by
  simp only[heads,ABA,AA7] at h;obtain⟨S1,C,O⟩:=h;obtain⟨S,X,Y,q3⟩:=Tz O;refine⟨fun k=>if k=U then p else S k,by simp,?_,fun i W y=>?_⟩
  .simp only[ABa];rw[ACD (by omega),<-Y];congr 1;omega
  .cases i with
   |zero=>
    simp at y;subst y;refine⟨R,rfl,?_⟩;simp only[Nat.add_zero,if_true];rw[ACD (by omega),X];exact C
   |succ i=>
    obtain⟨A,H,this⟩:=q3 i W (by simpa using y);refine⟨A,by simpa using H,?_⟩;simp only;rw[ACD (by omega),ACD (by omega),show U+(i+1)=U+1+i by omega];exact this
theorem AI.drawn (T:Tab)(n:Nat)(V :Nat->Option Nat)(m:Mem)(w:World)(d:Nat):AI T n V m w V m { w with drawn:=d } where
 os:=rfl
 tape:=rfl
 output:=rfl
 size:=ABB _
 mlen:=fun _ h=>h
 rho:=fun _ h=>⟨rfl,h⟩
 untr:=fun _ _ h=>h
 fresh:=fun id b h l _=>by rw[h] at l;cases l
 old:=fun _ _ _=>rfl
 tok:=fun _ _ _ _ h=> .inl ⟨h,rfl,fun _ _=>rfl⟩
 row:=fun _ x y ks _ h=> .inr ⟨x,y,ks,h,rfl,.inl ⟨rfl,rfl,fun _ W _ p=>⟨W,p,rfl⟩⟩⟩
theorem AH.drawn {n:Nat}{V :Nat->Option Nat}{m:Mem}{w:World}(l:AH T n V m w)(d:Nat):AH T n V m { w with drawn:=d }:=
 ⟨fun id=>BS.step (AI.drawn T n V m w d) l (ABB _) rfl rfl (fun _ _=>rfl),l.inj,l.fr⟩
theorem vF (hm:P.follows .mixedOrders=true)(a1:Ca P T call)(a4:DI P T.lp ap){l:Loc}{g:G}{aw:RS}(h:Z8 P call ap Z ad l g=some aw):
  Ac g aw.g/\aw.tmps.n=l.tmps.n/\(Agr T aw.g->Ar T aw.g->pcv T ad->BN T g ad->∀id V a w Q,Rel T g.n V l a w->
   (∀ ac D ab,CG T ac Z aw D ab->AI T g.n V l.mem w ac aw.mem ab->Q .normal D ab)->(Code.region id Z true).wpIn (fen r) ao P Q a w):=by
 unfold Z8 at h;simp only at h;split at h
 .rename_i A;rw[AA8] at A;obtain⟨bi,cj⟩:=A;simp only[ABA,AA7] at h;obtain⟨Sh,hh,ht⟩:=h;obtain⟨t1,_,t3⟩:=M4 (Ak Z.toList []) 0 0 (ABB _);rw[ABJ,DB] at t1;generalize c2:FD (Ak Z.toList []) 0 0=hd at*;obtain⟨S,W,q2,q3⟩:=Tz hh;have ch:(Z.toList.take hd).length=hd:=by simp;omega
  rw[ABJ,ch] at q2;have H:Fm P T call ap Z ad hd S:=by
   refine⟨t1,fun j o y ho=>?_,bi,cj,fun j r hr y i Y=>t3 j r hr (by omega) i (by omega),a1,a4,by rw[W]⟩;obtain⟨R,u,this⟩:=q3 j o (by rw[AB8,ACE y];simpa using ho);grind
  obtain⟨X,_⟩:=H.later 0 hd (by omega);rw[ABJ] at X;have q:(S 0).g=g:=by rw[W]
  have aP:(S 0).mem=l.mem:=by rw[W]
  have a5:(S 0).tmps=l.tmps:=by rw[W]
  subst q2;obtain⟨au,E⟩:=LA (r:=r) (ao:=ao) a1 a4 ht;refine⟨?_,?_,fun hA bk bm bo id V a w Q u hK=>?_⟩
  .rw[<-q];exact X.grow.trans au
  .have:=(show aw.tmps.n=(S hd).tmps.n from by
    have cx:∀{l:List Oper} {s aw:RS},DO P call ap Z ad l s=some aw->aw.tmps.n=s.tmps.n:=by
     intro l;induction l with
     |nil=>intro s aw h;simp only[DO] at h;cases h;rfl
     |cons o l ih=>
      intro s aw h;simp only[DO,ABA,AA7] at h;obtain⟨aF,C,O⟩:=h;rw[ih O];exact Yq C
    exact cx ht)
   rw[this,X.len,a5]
  .have b9:Agr T (S hd).g:=hA.of au;have cs:Ar T (S hd).g:=bk.of au;refine wpIn_region_any hm ?_;have bs:=AI.drawn T (S 0).g.n V (S 0).mem w (w.drawn+1);have bb:AH T (S 0).g.n V (S 0).mem { w with drawn:=w.drawn+1 }:=by rw[q,aP];exact u.mem.drawn _
   have M:∀j,(Array.replicate Z.size false).getD j false=false:=fun j=>by
    rw[ABG,Array.getElem?_replicate];split<;>rfl
   have I0:Mz T Z hd S (Array.replicate Z.size false) V a { w with drawn:=w.drawn+1 }:=by
    refine⟨by simp,fun j o _ y=>?_,fun i Y=>?_,(by rw[aP];exact u.defers.on (AI.drawn T g.n V l.mem w (w.drawn+1))),by rw[a5];exact u.size,bb,fun t c A _=>?_,fun i o d c Y=>?_,fun p _ hp=>?_⟩
    .rw[M] at y;cases y
    .rw[M] at Y;cases Y
    .rw[a5] at A;have:=u.tmps t c A;rw[q,aP];exact AA.mono0 (by rw[<-q,<-aP];exact bs) (ABB _) _ _ this
    .rw[M] at Y;cases Y
    .rw[M] at hp;cases hp
   have cb:D5 (Array.replicate Z.size false)=Z.size:=by simp[D5,List.countP_replicate]
   refine yk H b9 cs bm (by rw[q];exact bo) bb (fun ak D ab e1 e2 e3 e4 e5=>?_) Z.size _ a _ I0 (AI.refl _ _ _ _ _) cb;have cc:(Z.toList.drop hd).length=Z.size - hd:=by simp
   have:=iu (r:=r) (ao:=ao) a1 a4 bi (fun j r hr y i Y=>t3 j r hr (by omega) i (by omega)) ht hA bk bm ((by rw[q];exact bo:BN T (S 0).g ad).grow X.grow) hd ak V D ab Q (ABB _) (by rw[cc];omega)
    (fun j=>by simp) e1 e2 e3 e4 (fun aV a2 w2 cf cu=>?_)
   .grind
   .refine hK aV a2 w2 cf ?_;rw[<-q,<-aP];have aF:AI T (S 0).g.n V (S 0).mem w V (S 0).mem ab:=bs.trans (by rw[q,aP];exact u.mem) (ABB _) e5;have s2:AI T (S hd).g.n V (S 0).mem ab aV aw.mem w2:=by rw[<-X.mem];exact cu
    exact aF.trans (by rw[q,aP];exact u.mem) X.grow.n s2
 .cases h
end
structure KA (T1 T2:Tab) (ρ :Nat->Option Nat) (m1 m2:Mem) (w:World) (nh nm:Nat):Prop where
 eq:∀x,x < nh->T2 x=T1 x
 safe:∀b off,Ag T1 ρ m1 w b off->Ag T2 ρ m2 w b off
 ptr:∀id,id < nm->(m1.at id).ptrOk=true->(m2.at id).ptrOk=true
 vec:∀id,id < nm->m1.at id≠ .pad->m2.at id≠ .pad/\∀x ks e,m2.at id= .tok x ks e->x < nh->∃ks1,m1.at id= .tok x ks1 e/\ks1.length=ks.length
 row:∀id,id < nm->m1.at id≠ .pad->m2.at id≠ .pad/\∀x y ks e,m2.at id= .mrow x y ks e->∃x1 ks1,m1.at id= .mrow x1 y ks1 e/\ks1.length=ks.length
theorem BF {a b:Nat}(h:Nat.blt a b=true):a < b:=by rwa [Nat.blt_eq] at h
section
variable {aA J:Tab}{V :Nat->Option Nat}{az al:Mem}{w:World}{nh aR av aB:Nat}
theorem KA.kd (M:KA aA J V az al w nh aR){k:Kd}{u:U}{v:Value}(h:AX (Ag aA V az w) w k u v):AX (Ag J V al w) w k u v:=
 AX.mono (fun b off aa=>⟨M.safe b off aa,rfl⟩) k u v h
mutual
theorem AA.move (M:KA aA J V az al w nh aR)(q:nh<=aB):∀(c:AC) (v:Value),AC.lt nh aR c=true->AA aA av V az w c v->AA J aB V al w c v
 | .any,_,_,_=>trivial
 | .anyc,_,_,h=>h
 | .on c a,v,hl,h=>by
  simp only[AC.lt,AA8] at hl;have hc:=BF hl.1;refine⟨ABE hc q,fun A=>AA.move M q a v hl.2 (h.2 ?_)⟩;rw[M.eq c hc] at A;exact A
 | .gd c a,v,hl,h=>by
  simp only[AC.lt,AA8] at hl;have hc:=BF hl.1;refine⟨ABE hc q,fun A=>AA.move M q a v hl.2 (h.2.1 ?_),fun A=>h.2.2 ?_⟩
  iterate 2
   .rw[M.eq c hc] at A;exact A
 | .cb _,_,_,h=>h
 | .b x,v,hl,h=>by
  have p:=BF hl;obtain⟨_,b,C,O⟩:=h;exact⟨ABE p q,b,by rw[M.eq x p];exact C,O⟩
 | .nb x,v,hl,h=>by
  have p:=BF hl;obtain⟨_,b,C,O⟩:=h;exact⟨ABE p q,b,by rw[M.eq x p];exact C,O⟩
 | .ci _ _,_,_,h=>h
 | .i k am Y x,v,hl,h=>by
  have p:=BF hl;obtain⟨_,b,C,O⟩:=h;exact⟨ABE p q,b,by rw[M.eq x p];exact C,O⟩
 | .cv _,_,_,h=>h
 | .v x,v,hl,h=>by
  have p:=BF hl;exact⟨ABE p q,by rw[M.eq x p];exact h.2.1,h.2.2⟩
 | .s x,v,hl,h=>by
  have p:=BF hl;obtain⟨_,b,C,O⟩:=h;exact⟨ABE p q,b,by rw[M.eq x p];exact C,O⟩
 | .ptr id off,v,hl,h=>by
  obtain⟨b,C,O,u⟩:=h;exact⟨b,C,O,M.ptr id (BF hl) u⟩
 | .pix id base B aE x an,v,hl,h=>by
  simp only[AC.lt,AA8] at hl;have p:=BF hl.2;obtain⟨_,b,j,C,O,u,D,h5,h6⟩:=h;exact⟨ABE p q,b,j,C,by rw[M.eq x p];exact O,u,D,h5,M.ptr id (BF hl.1) h6⟩
 | .ro x ks,v,hl,h=>by
  have p:=BF hl;exact⟨ABE p q,by rw[M.eq x p];exact M.kd h.2⟩
 | .rp x t off ks,v,hl,h=>by
  simp only[AC.lt,AA8] at hl;have p:=BF hl.1;have A:=BF hl.2;obtain⟨_,j,b,o,us,C,O,u,D,h5⟩:=h;refine⟨⟨ABE p q,ABE A q⟩,j,b,o,us,by rw[M.eq t A];exact C,O,by rw[M.eq x p];exact u,D,?_⟩;exact Al.mono (fun b off aa=>⟨M.safe b off aa,rfl⟩) _ _ _ _ h5
 | .vec id x ks,v,hl,h=>by
  simp only[AC.lt,AA8] at hl;have p:=BF hl.2;obtain⟨_,O,u,D⟩:=h;obtain⟨k1,E⟩:=M.vec id (BF hl.1) O;refine⟨ABE p q,k1,by rw[M.eq x p];exact M.kd u,fun af e H=>?_⟩;obtain⟨a2,q1,q2⟩:=E x af e H p;rcases D a2 e q1 with⟨X,ah⟩|⟨b,I,W,X,ah,l3,l4⟩
  .exact .inl ⟨X,by rw[M.eq x p];exact ah⟩
  .exact .inr ⟨b,I,W,X,by rw[M.eq x p];exact ah,l3,by rw[<-q2];exact l4⟩
 | .fn f first I,v,hl,h=>by
  simp only[AC.lt,AA8] at hl;obtain⟨W,us,C,O,u⟩:=h;exact⟨W,us,C,AF.move M q first W hl.1 O,AF.move M q I us hl.2 u⟩
 | .sel x alts,v,hl,h=>by
  simp only[AC.lt,AA8] at hl;have p:=BF hl.1;obtain⟨_,j,C,O,u⟩:=h;exact⟨ABE p q,j,by rw[M.eq x p];exact C,O,Av.move M q alts j.toNat v hl.2 u⟩
 | .yl id,v,hl,h=>by
  obtain⟨b,C,O,u⟩:=h;exact⟨b,C,O,M.ptr id (BF hl) u⟩
 | .asl id off len,v,hl,h=>by
  obtain⟨b,C,O,u⟩:=h;exact⟨b,C,O,M.ptr id (BF hl) u⟩
 | .rsv id x ks,v,hl,h=>by
  simp only[AC.lt,AA8] at hl;have p:=BF hl.2;obtain⟨_,O,h5,u,D⟩:=h;obtain⟨k1,E⟩:=M.vec id (BF hl.1) O;refine⟨ABE p q,k1,by rw[M.eq x p];exact h5,u,fun af e H=>?_⟩;obtain⟨a2,q1,q2⟩:=E x af e H p;rcases D a2 e q1 with⟨X,ah⟩|⟨b,len,I,W,X,ah,l0,l3,l4⟩
  .exact .inl ⟨X,ah⟩
  .exact .inr ⟨b,len,I,W,X,ah,l0,l3,by rw[<-q2];exact l4⟩
 | .mr id y,v,hl,h=>by
  simp only[AC.lt,AA8] at hl;have hy:=BF hl.2;obtain⟨⟨_,O⟩,j,a,I,k1,E,k3,k4,k5⟩:=h;obtain⟨q1,q2⟩:=M.row id (BF hl.1) O;refine⟨⟨ABE hy q,q1⟩,j,a,I,by rw[M.eq y hy];exact k1,E,k3,k4,fun x ks e H=>?_⟩;obtain⟨x1,a2,q3,q4⟩:=q2 x y ks e H;rcases k5 x1 a2 e q3 with l|⟨b,W,X,ah,l3,l4⟩
  .exact .inl l
  .exact .inr ⟨b,W,X,ah,l3,by rw[<-q4];exact l4⟩
 | .mp id y t sz off,v,hl,h=>by
  simp only[AC.lt,AA8] at hl;have hy:=BF hl.1.2;have A:=BF hl.2;obtain⟨⟨_,_,O⟩,j,L,b,k1,E,k3,k4,k5⟩:=h;obtain⟨q1,q2⟩:=M.row id (BF hl.1.1) O;refine⟨⟨ABE hy q,ABE A q,q1⟩,j,L,b,by rw[M.eq t A];exact k1,by rw[M.eq y hy];exact E,k3,k4,fun x ks e H=>?_⟩;obtain⟨x1,a2,q3,q4⟩:=q2 x y ks e H;exact k5 x1 a2 e q3
 | .mv id,v,hl,h=>by
  obtain⟨b,C,O,u⟩:=h;exact⟨b,C,O,M.ptr id (BF hl) u⟩
 | .agg l,v,hl,h=>by
  obtain⟨W,C,O⟩:=h;exact⟨W,C,AF.move M q l W (by simpa [AC.lt] using hl) O⟩
 | .tup l,v,hl,h=>by
  obtain⟨W,C,O⟩:=h;exact⟨W,C,AF.move M q l W (by simpa [AC.lt] using hl) O⟩
theorem AF.move (M:KA aA J V az al w nh aR)(p:nh<=aB):∀(l:List AC) (W:List Value),AC.ltL nh aR l=true->AF aA av V az w l W->AF J aB V al w l W
 |[],_,_,h=>h
 |c::l,W,hl,h=>by
  simp only[AC.ltL,AA8] at hl;obtain⟨u,us,C,O,q⟩:=h;exact⟨u,us,C,AA.move M p c u hl.1 O,AF.move M p l us hl.2 q⟩
theorem Av.move (M:KA aA J V az al w nh aR)(p:nh<=aB):∀(l:List AC) (j:Nat) (v:Value),AC.ltL nh aR l=true->Av aA av V az w l j v->Av J aB V al w l j v
 |[],_,_,_,h=>h.elim
 |c::_,0,v,hl,h=>by
  simp only[AC.ltL,AA8] at hl;exact AA.move M p c v hl.1 h
 |_::l,j+1,v,hl,h=>by
  simp only[AC.ltL,AA8] at hl;exact Av.move M p l j v hl.2 h
end
structure Cg (T1 T2:Tab) (n:Nat):Prop where
 eq:∀x,x < n->T2 x=T1 x
 fr:T2.fr=T1.fr
 lp:T2.lp=T1.lp
theorem Cg.safe {n:Nat}(S:Cg aA J n)(q:AH aA n V az w){b off:Nat}(h:Ag aA V az w b off):Ag J V az w b off:=by
 refine⟨h.1,by rw[S.fr];exact h.2.1,fun id=>?_⟩;have:=h.2.2 id;cases p:az.at id with
 |pad=>trivial
 |gone=>trivial
 |cells l e=>rw[p] at this;exact this
 |lp s C=>rw[p] at this;exact this
 |mrow x y ks e=>rw[p] at this;exact this
 |mapb x ao A aJ aT=>rw[p] at this;exact this
 |tok x ks e=>
  rw[p] at this;intro u;have:=this u;unfold CH at this⊢;rw[S.eq x (q.tok_lt p)];exact this
section
variable {n:Nat}(S:∀x,x < n->J x=aA x)(aa:∀b off,Ag aA V az w b off->Ag J V az w b off)
mutual
theorem AA.tab (S:∀x,x < n->J x=aA x)(aa:∀b off,Ag aA V az w b off->Ag J V az w b off):∀(c:AC) (v:Value),AA aA n V az w c v->AA J n V az w c v
 | .any,_,_=>trivial
 | .anyc,_,h=>h
 | .on c a,v,h=>⟨h.1,fun p=>AA.tab S aa a v (h.2 (by rw[S c h.1] at p;exact p))⟩
 | .gd c a,v,h=>⟨h.1,fun p=>AA.tab S aa a v (h.2.1 (by rw[S c h.1] at p;exact p)),fun p=>h.2.2 (by rw[S c h.1] at p;exact p)⟩
 | .cb _,_,h=>h
 | .b x,v,⟨h0,b,C,O⟩=>⟨h0,b,by rw[S x h0];exact C,O⟩
 | .nb x,v,⟨h0,b,C,O⟩=>⟨h0,b,by rw[S x h0];exact C,O⟩
 | .ci _ _,_,h=>h
 | .i k am Y x,v,⟨h0,b,C,O⟩=>⟨h0,b,by rw[S x h0];exact C,O⟩
 | .cv _,_,h=>h
 | .v x,v,⟨h0,C,O⟩=>⟨h0,by rw[S x h0];exact C,O⟩
 | .s x,v,⟨h0,b,C,O⟩=>⟨h0,b,by rw[S x h0];exact C,O⟩
 | .ptr _ _,_,h=>h
 | .pix id base B aE x an,v,⟨h0,b,j,C,O,h3⟩=>⟨h0,b,j,C,by rw[S x h0];exact O,h3⟩
 | .ro x ks,v,⟨h0,C⟩=>⟨h0,by rw[S x h0];exact AX.mono (fun b off h=>⟨aa b off h,rfl⟩) _ _ _ C⟩
 | .rp x t off ks,v,⟨h0,j,b,o,us,C,O,h3,h4,h5⟩=>⟨h0,j,b,o,us,by rw[S t h0.2];exact C,O,by rw[S x h0.1];exact h3,h4,Al.mono (fun b off h=>⟨aa b off h,rfl⟩) _ _ _ _ h5⟩
 | .vec id x ks,v,⟨h0,C,O,h3⟩=>⟨h0,C,by rw[S x h0];exact AX.mono (fun b off h=>⟨aa b off h,rfl⟩) _ _ _ O,fun af e q=>by
   have:=h3 af e q;unfold Xd at this⊢;rw[S x h0];exact this⟩
 | .fn f first I,v,⟨W,us,C,O,h3⟩=>⟨W,us,C,AF.tab S aa first W O,AF.tab S aa I us h3⟩
 | .sel x alts,v,⟨h0,j,C,O,h3⟩=>⟨h0,j,by rw[S x h0];exact C,O,Av.tab S aa alts j.toNat v h3⟩
 | .yl _,_,h=>h
 | .asl _ _ _,_,h=>h
 | .rsv id x ks,v,⟨h0,C,O,h3,h4⟩=>⟨h0,C,by rw[S x h0];exact O,h3,h4⟩
 | .mr id y,v,⟨⟨h0,C⟩,j,a,I,k1,E⟩=>⟨⟨h0,C⟩,j,a,I,by rw[S y h0];exact k1,E⟩
 | .mp id y t sz off,v,⟨⟨h0,h0',C⟩,j,L,b,k1,E,k3⟩=>⟨⟨h0,h0',C⟩,j,L,b,by rw[S t h0'];exact k1,by rw[S y h0];exact E,k3⟩
 | .mv _,_,h=>h
 | .agg l,v,⟨W,C,O⟩=>⟨W,C,AF.tab S aa l W O⟩
 | .tup l,v,⟨W,C,O⟩=>⟨W,C,AF.tab S aa l W O⟩
theorem AF.tab (S:∀x,x < n->J x=aA x)(aa:∀b off,Ag aA V az w b off->Ag J V az w b off):∀(l:List AC) (W:List Value),AF aA n V az w l W->AF J n V az w l W
 |[],_,h=>h
 |c::l,W,⟨u,us,C,O,h3⟩=>⟨u,us,C,AA.tab S aa c u O,AF.tab S aa l us h3⟩
theorem Av.tab (S:∀x,x < n->J x=aA x)(aa:∀b off,Ag aA V az w b off->Ag J V az w b off):∀(l:List AC) (j:Nat) (v:Value),Av aA n V az w l j v->Av J n V az w l j v
 |[],_,_,h=>h.elim
 |c::_,0,v,h=>AA.tab S aa c v h
 |_::l,j+1,v,h=>Av.tab S aa l j v h
end
end
theorem AH.tab {n:Nat}(S:Cg aA J n)(D:AH aA n V az w):AH J n V az w:=by
 have aa:∀b off,Ag aA V az w b off->Ag J V az w b off:=fun b off h=>S.safe D h;refine⟨fun id=>?_,D.inj,fun b off h=>by rw[S.fr];exact D.fr b off h⟩;have:=D.blk id;cases A:az.at id with
 |pad=>trivial
 |gone=>trivial
 |cells l e=>
  rw[A] at this;obtain⟨b,W,C,O,u⟩:=this;exact⟨b,W,C,O,AF.tab S.eq aa l W u⟩
 |tok x ks e=>
  rw[A] at this;obtain⟨p,l,C,O⟩:=this;refine⟨p,l,by rw[S.eq x p];exact C,?_⟩;rw[S.fr];exact O
 |mrow x y ks e=>
  rw[A] at this;obtain⟨p,l,C,a3,a5,O⟩:=this;refine⟨p,l,by rw[S.eq x p.1];exact C,by rw[S.eq y p.2];exact a3,a5,?_⟩;rw[S.fr];rcases O with O|⟨b,W,us,Y,q2,q3,q4⟩
  .exact .inl O
  .exact .inr ⟨b,W,us,Y,q2,Ah.mono (fun b off h=>⟨aa b off h,rfl⟩) q3,q4⟩
 |mapb x ao ka aJ aT=>
  rw[A] at this;obtain⟨p,l,b,ar,a4,C,O,u,E,H,M,X⟩:=this;refine⟨p,l,b,ar,a4,by rw[S.eq x p];exact C,O,u,E,H,fun i us e hl he=>?_,X⟩;obtain⟨u1,u2,Y,q2,q3⟩:=M i us e hl he;exact⟨u1,u2,Y,CJ.mono (fun b off h=>⟨aa b off h,rfl⟩) q2,CJ.mono (fun b off h=>⟨aa b off h,rfl⟩) q3⟩
 |lp s st=>
  rw[A] at this;obtain⟨b,q,C,O,u,E,H,M,X,j,h8,h9⟩:=this;refine⟨b,q,C,O,?_⟩;rw[S.lp];exact⟨u,E,H,M,fun i c hc=>AA.tab S.eq aa c _ (X i c hc),j,AA.tab S.eq aa st _ h8,h9⟩
theorem Cg.symm {n:Nat}(S:Cg aA J n):Cg J aA n:=⟨fun x l=>(S.eq x l).symm,S.fr.symm,S.lp.symm⟩
theorem AI.tab {n:Nat}{ac:Nat->Option Nat}{ag:Mem}{ab:World}(S:Cg aA J n)(W:AH aA n V az w)(aa:AI aA n V az w ac ag ab)(X:∀id L af e',ag.at id= .tok L af e'->J L=aA L):AI J n V az w ac ag ab:=
 {aa with
  tok:=fun id x ks e q=>by
   have u:=W.tok_lt q;rcases aa.tok id x ks e q with h|⟨C,O⟩
   .exact .inl h
   .refine .inr ⟨fun b H off l=>C b H off (by unfold CH at l⊢;rw[S.eq x u] at l;exact l),?_⟩;rcases O with O|⟨L,af,e',O,A,D⟩
    .exact .inl O
    .refine .inr ⟨L,af,e',O,A,fun y M=>?_⟩;rcases D y M with⟨p,E⟩|p
     .refine .inl ⟨p,?_⟩;unfold CH at E⊢;rw[S.eq x u,X id L af e' O];exact E
     .exact .inr p }
end
theorem U.same_eq {u v:U}(h:U.same u v=true):u=v:=by
 unfold U.same at h;grind
theorem Rf.same_eq {r s:Rf}(h:Rf.same r s=true):r=s:=by
 cases r<;>cases s<;>simp only[Rf.same] at h<;>first|(cases h;done)|(rw[U.same_eq h])|(rw[AA9 h])
theorem GS {a b:Option (List Pr)}{ps:List Pr}(h:QZ a b=some ps):∃x y,a=some x/\b=some y/\ps=x++y:=by
 cases a<;>cases b<;>simp only[QZ] at h<;>first|(cases h;done)|(cases h;exact⟨_,_,rfl,rfl,rfl⟩)
inductive Ki (T1 T2:Tab) (nh:Nat):Blk->Blk->Prop where
 |pad (b:Blk):Ki T1 T2 nh .pad b
 |gone {b:Blk} (h:b≠ .pad):Ki T1 T2 nh .gone b
 |cells (l l':List AC) (e:TypeId):Ki T1 T2 nh (.cells l e) (.cells l' e)
 |same (x:Nat) (ks:List Kd) (e:TypeId) (h:x < nh):Ki T1 T2 nh (.tok x ks e) (.tok x ks e)
 |tok {x x':Nat} {ks ks':List Kd} {e:TypeId} (h1:nh<=x) (h2:T2 x=T1 x') (h3:ks.length=ks'.length):Ki T1 T2 nh (.tok x ks e) (.tok x' ks' e)
 |lp (s:Nat) (st st':AC):Ki T1 T2 nh (.lp s st) (.lp s st')
 |mrow {x x' y:Nat} {ks ks':List Kd} {e:TypeId} (h1:y < nh) (h3:ks.length=ks'.length):Ki T1 T2 nh (.mrow x y ks e) (.mrow x' y ks' e)
 |mapb {x x':Nat} {kk kk' vk vk':List Kd} {ka va:Bool}:Ki T1 T2 nh (.mapb x kk ka vk va) (.mapb x' kk' ka vk' va)
section
variable {aA J:Tab}{V :Nat->Option Nat}{w:World}{nh aR av aB:Nat}{ai:List Rf}{aQ m:Mem}
variable{x:Nat}{r:Rf}{lps:List (Nat × CL)}{bc aP:Mem}{ps:List Pr}
theorem Tv (h:LL nh ai x r=true):nh<=x/\ai[x - nh]? =some r:=by
 unfold LL at h;rw[AA8] at h;refine⟨ABX h.1,?_⟩;have O:=h.2;split at O
 .rename_i p l;rw[l,Rf.same_eq O]
 .cases O
def Fc (aA J:Tab)(nh aB:Nat)(ai:List Rf):Prop:=∀j r,ai[j]? =some r->nh+j < aB/\J (nh+j)=r.eval aA
theorem Fc.at (H:Fc aA J nh aB ai)(h:LL nh ai x r=true):x < aB/\J x=r.eval aA:=by
 obtain⟨C,O⟩:=Tv h;have:=H _ _ O;grind
theorem Rh {aR:Nat}{b u:Blk}(h:Dx lps nh aR ai bc aP b u=some ps)(H:Fc aA J nh aB ai):Ki aA J nh b u/\(b= .pad->u= .pad):=by
 cases b with
 |pad=>cases u<;>simp only[Dx] at h<;>first|(cases h;done)|exact⟨.pad _,fun _=>rfl⟩
 |gone=>cases u<;>simp only[Dx] at h<;>first|(cases h;done)|exact⟨.gone (fun h=>by cases h),fun h=>by cases h⟩
 |cells l e=>
  cases u<;>simp only[Dx] at h<;>try (cases h;done)
  split at h
  .rename_i X;rw[AA9 X];exact⟨.cells _ _ _,fun h=>by cases h⟩
  .cases h
 |tok x ks e=>
  cases u<;>simp only[Dx] at h<;>try (cases h;done)
  rename_i L af e';split at h
  .rename_i p;simp only[AA8,ABe] at p;obtain⟨⟨C,O⟩,A⟩:=p;have E:=AA9 C;have M:=AA9 O;subst E;refine⟨?_,fun h=>by cases h⟩;rcases A with⟨⟨A,D⟩,W⟩|A
   .rw[<-AA9 D,<-Kd.beqs_eq _ _ W];exact .same _ _ _ (BF A)
   .obtain⟨_,q⟩:=H.at A;exact .tok (Tv A).1 (by rw[q];rfl) M
  .cases h
 |lp s st=>
  cases u<;>simp only[Dx] at h<;>try (cases h;done)
  split at h
  .rename_i p;simp only[AA8] at p;rw[AA9 p.1];exact⟨.lp _ _ _,fun h=>by cases h⟩
  .cases h
 |mrow x y ks e=>
  cases u<;>simp only[Dx] at h<;>try (cases h;done)
  split at h
  .rename_i p;simp only[AA8,ABe] at p;obtain⟨⟨⟨C,O⟩,A⟩,D⟩:=p;rw[AA9 C,<-AA9 O];refine⟨.mrow (BF A) ?_,fun h=>by cases h⟩;rcases D with⟨_,D⟩|⟨_,D⟩
   .rw[Kd.beqs_eq _ _ D]
   .exact AA9 D
  .cases h
 |mapb x ao Y aJ aT=>
  cases u<;>simp only[Dx] at h<;>try (cases h;done)
  split at h
  .rename_i p;simp only[AA8,beq_iff_eq] at p;rw[p.1.1,p.1.2];exact⟨.mapb,fun h=>by cases h⟩
  .cases h
theorem R4 {lps:List (Nat × CL)}{aR:Nat}{bc aP:Mem}:∀{l ae:Mem} {ps:List Pr},Hh lps nh aR ai bc aP l ae=some ps->l.length<=ae.length/\∀id,id < l.length->∃p,Dx lps nh aR ai bc aP (l.at id) (ae.at id)=some p/\∀q∈p,q∈ps
 |[],_,ps,h=>⟨ABh _,fun id u=>by simp at u⟩
 |_::_,[],ps,h=>by simp[Hh] at h
 |b::l,b'::ae,ps,h=>by
  simp only[Hh] at h;obtain⟨x,y,C,O,rfl⟩:=GS h;obtain⟨M,E⟩:=R4 O;refine⟨by simp;omega,fun id u=>?_⟩;cases id with
  |zero=>exact⟨x,by simpa [Mem.at] using C,fun q A=>ABR _ A⟩
  |succ id=>
   obtain⟨p,D,H⟩:=E id (by simpa using u);exact⟨p,by simpa [Mem.at] using D,fun q A=>ABL _ (H q A)⟩
def EK (aA J:Tab)(nh:Nat)(aQ m:Mem):Prop:=∀id,Ki aA J nh (aQ.at id) (m.at id)
theorem RR {aR:Nat}(h:Hh lps nh aR ai bc aP aQ m=some ps)(H:Fc aA J nh aB ai):EK aA J nh aQ m/\∀id,id < aQ.length->aQ.at id= .pad->m.at id= .pad:=by
 obtain⟨C,O⟩:=R4 h;refine⟨fun id=>?_,fun id l q=>?_⟩
 .rcases ABN id aQ.length with l|l
  .obtain⟨u,p,_⟩:=O id l;exact (Rh p H).1
  .rw[Mem.at_ge l];exact .pad _
 .obtain⟨u,p,_⟩:=O id l;exact (Rh (aA:=aA) (J:=J) p H).2 q
theorem EK.tracked (S:EK aA J nh aQ m){id:Nat}(h:(aQ.at id).tracked=true):(m.at id).tracked=true:=by
 have:=S id;generalize aQ.at id=a at this h;generalize m.at id=b at this;cases this<;>first|rfl|(cases h;done)
theorem EK.safe (S:EK aA J nh aQ m)(u:∀x,x < nh->J x=aA x)(y:J.fr=aA.fr){b off:Nat}(h:Ag aA V m w b off):Ag J V aQ w b off:=by
 refine⟨h.1,by rw[y];exact h.2.1,fun id=>?_⟩;have O:=h.2.2 id;have:=S id;generalize aQ.at id=a at this⊢;generalize m.at id=b at this O;cases this with
 |pad=>trivial
 |gone=>trivial
 |cells=>exact O
 |lp=>exact O
 |mrow=>exact O
 |mapb=>exact O
 |same x ks e A=>
  intro l;have:=O l;unfold CH at this⊢;rw[u x A];exact this
 |tok C p q=>
  intro l;have:=O l;unfold CH at this⊢;rw[p,q];exact this
theorem EK.move (S:EK aA J nh aQ m)(p:∀id,id < aQ.length->aQ.at id= .pad->m.at id= .pad)(u:∀x,x < nh->J x=aA x)(E:J.fr=aA.fr):KA aA J V m aQ w nh aQ.length where
 eq:=u
 safe:=fun b off h=>S.safe u E h
 ptr:=fun id l h=>by
  have A:aQ.at id≠ .pad:=fun e=>by rw[p id l e] at h;cases h
  have:=S id;generalize aQ.at id=a at this A⊢;generalize m.at id=b at this h;cases this<;>first|rfl|(exact absurd rfl A)|(cases h;done)
 vec:=fun id l h=>by
  refine⟨fun e=>h (p id l e),fun x ks e q H=>?_⟩;have:=S id;rw[q] at this;generalize m.at id=b at this;cases this with
  |same=>exact⟨_,rfl,rfl⟩
  |tok C=>omega
 row:=fun id l h=>by
  refine⟨fun e=>h (p id l e),fun x y ks e q=>?_⟩;have:=S id;rw[q] at this;generalize m.at id=b at this;cases this with
  |mrow C D=>exact⟨_,_,rfl,D.symm⟩
theorem Ni {h c:AC}(l:M3 nh aQ.length ai aQ m h c=some ps)(M:KA aA J V m aQ w nh aQ.length)(hn:nh<=aB)(H:Fc aA J nh aB ai)(S:EK aA J nh aQ m)(b6:∀p∈ps,p.holds aA){v:Value}
  (C:AA aA av V m w c v):AA J aB V aQ w h v:=by
 unfold M3 at l;split at l
 .rename_i q;rw[AA8] at q;have e:=AC.beq_eq _ _ q.2;subst e;exact AA.move M hn h v q.1 C
 .have put:∀{k:Kd} {x:Nat},KQ nh ai x (fit k c)=some ps->x < aB/\AX (Ag J V aQ w) w k (J x) v:=by
   intro k x u;unfold KQ at u;split at u
   .rename_i r qs hf;split at u
    .rename_i hh;cases u;obtain⟨D,E⟩:=H.at hh;exact⟨D,by rw[E];exact M.kd (cE hf C b6)⟩
    .cases u
   .cases u
  unfold sE at l;cases h with
  |any=>trivial
  |i k am Y x=>exact put l
  |b x=>exact put l
  |v x=>exact put l
  |s x=>exact put l
  |ro x ks=>exact put l
  |vec id x ks=>
   cases c with
   |vec cc L af=>
    simp only at l;split at l
    .rename_i q;simp only[AA8] at q;obtain⟨⟨⟨⟨aS,c2⟩,c3⟩,c4⟩,A⟩:=q;have e1:=AA9 aS;subst e1;obtain⟨D,E⟩:=H.at c3;have a1:J x=aA L:=by rw[E];rfl
     obtain⟨_,O,h3,h4⟩:=C;unfold p9 at A;split at A
     .rename_i y ky e aF b7 e' a3 b4;simp only[AA8] at A;obtain⟨⟨⟨d1,d2⟩,d3⟩,d4⟩:=A;have f1:=AA9 d1;have f2:=AA9 d2;have f3:=AA9 d3;have f4:=AA9 d4;subst f1;subst f2;subst f3;refine⟨D,by rw[a3];exact (fun h=>by cases h),?_,fun ce cb he=>?_⟩
      .rw[a1];have:=Kd.join_l (.list af) (.list ks) _ v (M.kd h3);rw[Kd.beq_eq _ _ c4] at this;exact this
      .rw[a3] at he;injection he with _ g1 au
       subst g1;subst au;rcases h4 b7 e b4 with⟨X,ah⟩|⟨b,I,W,X,ah,l3,l4⟩
       .exact .inl ⟨X,by rw[a1];exact ah⟩
       .exact .inr ⟨b,I,W,X,by rw[a1];exact ah,l3,by rw[f4];exact l4⟩
     .cases A
    .cases l
   |_=>cases l
  |_=>cases l
theorem Rv (M:KA aA J V m aQ w nh aQ.length)(A:nh<=aB)(H:Fc aA J nh aB ai)(S:EK aA J nh aQ m):∀{l ae:List AC} {ps:List Pr},Ml nh aQ.length ai aQ m l ae=some ps->(∀p∈ps,p.holds aA)->
  ∀W,AF aA av V m w ae W->AF J aB V aQ w l W
 |[],[],ps,_,_,W,h=>h
 |[],_::_,ps,h,_,_,_=>by simp[Ml] at h
 |_::_,[],ps,h,_,_,_=>by simp[Ml] at h
 |a::l,c::ae,ps,h,hps,W,⟨u,us,C,O,h3⟩=>by
  simp only[Ml] at h;obtain⟨x,y,D,E,rfl⟩:=GS h;exact⟨u,us,C,Ni D M A H S (fun p q=>hps p (ABR _ q)) O,Rv M A H S E (fun p q=>hps p (ABL _ q)) us h3⟩
theorem Ou:∀{t D:Tr} {ps:List Pr},MQ nh aR ai aQ m t D=some ps->∀(i:Nat) (h:AC),t.get i=some h->h= .any\/∃c p,D.get i=some c/\M3 nh aR ai aQ m h c=some p/\∀q∈p,q∈ps
 | .nil,D,ps,_,i,h,Y=>by simp[Tr.get] at Y
 | .node v l r,D,ps,hm,i,h,Y=>by
  simp only[MQ] at hm;obtain⟨x,y,C,O,rfl⟩:=GS hm;obtain⟨y1,y2,h3,h4,rfl⟩:=GS O;rw[Tr.get_step] at Y;rw[Tr.get_step D];by_cases W:i=0
  .rw[ACE W] at Y⊢;simp only[Tr.val] at Y;subst Y;unfold pl at C;split at C
   .rename_i u;cases u
   .rename_i u;cases u;exact .inl rfl
   .rename_i h' c _ u hc;cases u;exact .inr ⟨c,x,hc,C,fun q A=>ABR _ A⟩
   .cases C
  .rw[ACD W] at Y⊢;by_cases X:i % 2=1
   .rw[ACE X] at Y⊢;rcases Ou h3 (i / 2) h Y with k|⟨c,p,H,E,M⟩
    .exact .inl k
    .exact .inr ⟨c,p,H,E,fun q A=>ABL _ (ABR _ (M q A))⟩
   .rw[ACD X] at Y⊢;rcases Ou h4 (i / 2 - 1) h Y with k|⟨c,p,H,E,M⟩
    .exact .inl k
    .exact .inr ⟨c,p,H,E,fun q A=>ABL _ (ABL _ (M q A))⟩
theorem Ue:∀{t:Tr},aN nh aR t=true->∀(i:Nat) (c:AC),t.get i=some c->AC.lt nh aR c=true
 | .nil,_,i,c,Y=>by simp[Tr.get] at Y
 | .node v l r,h,i,c,Y=>by
  simp only[aN,AA8] at h;rw[Tr.get_step] at Y;by_cases p:i=0
  .rw[ACE p] at Y;simp only[Tr.val] at Y;subst Y;exact h.1.1
  .rw[ACD p] at Y;by_cases q:i % 2=1
   .rw[ACE q] at Y;exact Ue h.1.2 _ _ Y
   .rw[ACD q] at Y;exact Ue h.2 _ _ Y
theorem Wb:∀{lps:List (Nat × CL)} {s:Nat} {S:CL},Gi lps s=some S->(s,S)∈lps
 |[],_,_,h=>by simp[Gi] at h
 |(aw,S')::r,s,S,h=>by
  simp only[Gi] at h;split at h
  .rename_i l;cases h;rw[AA9 l];exact ABK ..
  .exact ABH _ (Wb h)
theorem Hd {X l:Loc}(h:Ep lps nh ai X l=some ps)(d6:∀p∈lps,aA.lp p.1=p.2)(cb:J.fr=aA.fr)(d5:J.lp=aA.lp)(ds:J.base=aA.base)
  (b2:∀x,x < nh->J x=aA x) (hn:nh<=aB) (H:Fc aA J nh aB ai) (c1:∀p∈ps,p.holds aA) {a:Act} (hR:Rel aA av V l a w):
  Rel J aB V X a w/\EK aA J nh X.mem l.mem/\∀id,id < X.mem.length->X.mem.at id= .pad->l.mem.at id= .pad:=by
 unfold Ep at h;split at h
 .rename_i hc;simp only[AA8] at hc;obtain⟨⟨aS,c2⟩,c3⟩:=hc;obtain⟨p1,p2,C,O,rfl⟩:=GS h;obtain⟨S,c0⟩:=RR (aA:=aA) (J:=J) C H;have M:KA aA J V l.mem X.mem w nh X.mem.length:=S.move c0 b2 cb;obtain⟨e4,dn⟩:=R4 C;have d7:∀p∈p1,p.holds aA:=fun p hp=>c1 p (ABR _ hp);have d8:∀p∈p2,p.holds aA:=fun p hp=>c1 p (ABL _ hp);refine⟨⟨?_,?_,fun i c Y=>?_,⟨fun id=>?_,fun id ei b t1 t2=>hR.mem.inj id ei b (S.tracked t1) (S.tracked t2),fun b off hb=>by rw[cb];exact hR.mem.fr b off hb⟩⟩,S,c0⟩
  .obtain⟨d0,Ds,d1,d2,d3⟩:=hR.defers;rw[ds];refine⟨d0,Ds,d1,d2,fun D hD=>?_⟩;obtain⟨e1,e2,e3⟩:=d3 D hD;exact⟨e1,e2,fun id ht=>e3 id (S.tracked ht)⟩
  .rw[hR.size];exact (AA9 c3).symm
  .have g1:X.tmps.t.get i=some c:=by
    have:X.tmps.loc=[]:=List.isEmpty_iff.1 aS;simpa [AZ.get,this,BH] using Y
   rcases Ou O i c g1 with rfl|⟨c',qs,k1,E,k3⟩
   .trivial
   .have au:l.tmps.get i=some c':=by
     have:l.tmps.loc=[]:=List.isEmpty_iff.1 c2;simpa [AZ.get,this,BH] using k1
    exact Ni E M hn H S (fun p hp=>d8 p (k3 p hp)) (hR.tmps i c' au)
  .rcases ABN id X.mem.length with ce|ce
   .obtain⟨qs,u,q2⟩:=dn id ce;have hb:=hR.mem.blk id;have hq:∀p∈qs,p.holds aA:=fun p hp=>d7 p (q2 p hp);generalize X.mem.at id=b at u⊢;generalize l.mem.at id=b' at u hb;cases b with
    |pad=>trivial
    |gone=>trivial
    |cells x e=>
     cases b'<;>simp only[Dx] at u<;>try (cases u;done)
     split at u
     .rename_i he;obtain⟨bb,W,y1,y2,y3⟩:=hb;rw[AA9 he];exact⟨bb,W,y1,y2,Rv M hn H S u hq W y3⟩
     .cases u
    |tok x ks e=>
     cases b'<;>simp only[Dx] at u<;>try (cases u;done)
     rename_i L af e';split at u
     .rename_i hc;simp only[AA8,ABe] at hc;obtain⟨⟨i1,i2⟩,A⟩:=hc;have e1:=AA9 i1;have e2:=AA9 i2;subst e1;obtain⟨y0,ll,y1,y2⟩:=hb;have b0:x < aB/\J x=aA L:=by
       rcases A with⟨⟨A,i4⟩,_⟩|A
       .rw[<-AA9 i4];exact⟨ABE (BF A) hn,b2 x (BF A)⟩
       .obtain⟨z1,z2⟩:=H.at A;exact⟨z1,by rw[z2];rfl⟩
      refine⟨b0.1,ll,by rw[b0.2];exact y1,?_⟩;rw[cb,e2];exact y2
     .cases u
    |mrow x y ks e=>
     cases b'<;>simp only[Dx] at u<;>try (cases u;done)
     rename_i L aF af e';split at u
     .rename_i hc;simp only[AA8,ABe] at hc;obtain⟨⟨⟨i1,i2⟩,A⟩,i4⟩:=hc;have e1:=AA9 i1;have e2:=AA9 i2;subst e1;subst e2;have hy:=BF A;obtain⟨y0,ll,y1,ev,⟨y5,y6⟩,y2⟩:=hb;have b0:x < aB/\J x=aA L/\ks.length=af.length/\∀ok us W,AT ok w af us W->AT ok w ks us W:=by
       rcases i4 with⟨⟨A,i4⟩,i5⟩|⟨⟨A,i4⟩,i5⟩
       .rw[<-AA9 i4,<-Kd.beqs_eq _ _ i5];exact⟨ABE (BF A) hn,b2 x (BF A),rfl,fun _ _ _ h=>h⟩
       .obtain⟨z1,z2⟩:=H.at A;have X:=AA9 i5;refine⟨z1,by rw[z2];rfl,X,fun ok us W h=>?_⟩;have:=h.join_l X.symm;rw[Kd.beqs_eq _ _ i4] at this;exact this
      obtain⟨k1,E,k3,k4⟩:=b0;refine⟨⟨k1,ABE hy hn⟩,ll,by rw[E];exact y1,by rw[b2 y hy];exact ev,⟨y5,fun h=>y6 (AB3.1 (by rw[<-k3,h];rfl))⟩,?_⟩;rw[cb];rcases y2 with y2|⟨bb,W,us,z1,z2,⟨R,z3,z4⟩,z5⟩
      .exact .inl y2
      .exact .inr ⟨bb,W,us,z1,z2,⟨R,z3,A9.conv (k4 _) (A9.mono (fun b off h=>⟨M.safe b off h,rfl⟩) z4)⟩,z5⟩
     .cases u
    |mapb x ao ka aJ aT=>
     cases b'<;>simp only[Dx] at u<;>try (cases u;done)
     rename_i L ej e6 er e9;split at u
     .rename_i hc;simp only[AA8,ABe,beq_iff_eq] at hc;obtain⟨⟨i1,i2⟩,i4⟩:=hc;subst i1;subst i2;obtain⟨y0,ll,bb,ar,a4,y1,y2,y3,y4,y5,y6,y7⟩:=hb;have b0:x < aB/\J x=aA L/\(∀ok us W,AT ok w ej us W->AT ok w ao us W)/\∀ok us W,AT ok w er us W->AT ok w aJ us W:=by
       rcases i4 with⟨⟨⟨A,i4⟩,i5⟩,i6⟩|⟨⟨⟨⟨A,i4⟩,i5⟩,i6⟩,i7⟩
       .rw[<-AA9 i4,<-Kd.beqs_eq _ _ i5,<-Kd.beqs_eq _ _ i6];exact⟨ABE (BF A) hn,b2 x (BF A),fun _ _ _ h=>h,fun _ _ _ h=>h⟩
       .obtain⟨z1,z2⟩:=H.at A;refine⟨z1,by rw[z2];rfl,fun ok us W h=>?_,fun ok us W h=>?_⟩
        .have:=h.join_l (AA9 i5).symm;rw[Kd.beqs_eq _ _ i4] at this;exact this
        .have:=h.join_l (AA9 i7).symm;rw[Kd.beqs_eq _ _ i6] at this;exact this
      obtain⟨k1,E,k3,k4⟩:=b0;refine⟨k1,ll,bb,ar,a4,by rw[E];exact y1,y2,y3,y4,y5,fun i us e X he=>?_,y7⟩;obtain⟨u1,u2,z1,⟨es,z2,z3⟩,⟨et,z4,z5⟩⟩:=y6 i us e X he;exact⟨u1,u2,z1,⟨es,k3 _ _ _ (AT.mono (fun b off h=>⟨M.safe b off h,rfl⟩) z2),z3⟩,⟨et,k4 _ _ _ (AT.mono (fun b off h=>⟨M.safe b off h,rfl⟩) z4),z5⟩⟩
     .cases u
    |lp s st=>
     cases b'<;>simp only[Dx] at u<;>try (cases u;done)
     rename_i aw e8;split at u
     .rename_i hc;simp only[AA8] at hc;have e1:=AA9 hc.1;subst e1;obtain⟨bb,q,y1,y2,y3,y4,y5,y6,y7,j,y8,y9⟩:=hb;have bx:=hc.2;unfold lpLt at bx;split at bx
      .rename_i S0 hS;have hT:=d6 _ (Wb hS);simp only at hT;rw[AA8] at bx;have d4:S0.tmps.loc=[]:=List.isEmpty_iff.1 bx.1;refine⟨bb,q,y1,y2,?_⟩;rw[d5];refine⟨y3,y4,y5,y6,fun i c Y=>?_,j,Ni u M hn H S hq y8,y9⟩;have hg:S0.tmps.t.get i=some c:=by
        rw[hT] at Y;simpa [AZ.get,d4,BH] using Y
       exact AA.move M hn c _ (Ue bx.2 i c hg) (y7 i c Y)
      .cases bx
     .cases u
   .rw[Mem.at_ge ce];trivial
 .cases h
theorem AI.matched {n:Nat}{a3:Nat->Option Nat}{aH:World}(S:EK aA J nh aQ m)(W:∀x,x < nh->J x=aA x)(hn:n<=nh)(bm:AH aA n a3 aP aH)(a4:∀id,aP.at id≠ .pad->aQ.at id≠ .pad)
  (h:AI aA n a3 aP aH V m w):AI J n a3 aP aH V aQ w where
 os:=h.os
 tape:=h.tape
 output:=h.output
 size:=h.size
 mlen:=a4
 rho:=fun id A=>by
  obtain⟨C,O⟩:=h.rho id A;refine⟨C,?_⟩;have l:=a4 id (BM A);have:=S id;generalize aQ.at id=a at this l⊢;generalize m.at id=b at this O;cases this<;>first|rfl|(exact absurd rfl l)|(cases O;done)
 untr:=fun id A ht=>h.untr id A (S.tracked ht)
 fresh:=fun id b A ht hr=>h.fresh id b A (S.tracked ht) hr
 old:=h.old
 tok:=fun id x ks e D=>by
  have bs:=bm.tok_lt D;have l:=a4 id (by rw[D];exact fun h=>by cases h);have aa:=S id;rcases h.tok id x ks e D with⟨q,E,u⟩|⟨q,E⟩
  .rw[q] at aa;generalize a2:aQ.at id=a at aa l;cases aa with
   |pad=>exact absurd rfl l
   |gone=>exact .inr ⟨fun b H off _=>Bq (u b H) off,.inl rfl⟩
   |same=>exact .inl ⟨rfl,E,u⟩
   |tok g1 au g3=>
    refine .inr ⟨fun b H off _=>Bq (u b H) off,.inr ⟨_,_,_,rfl,ABS hn g1,fun Y M=> .inl ⟨by rw[<-E];exact M,?_⟩⟩⟩;unfold CH;rw[au,g3,W x (by omega)];exact ABB _
  .refine .inr ⟨fun b H off ho=>q b H off (by unfold CH at ho⊢;rw[W x (by omega)] at ho;exact ho),?_⟩;rcases E with E|⟨L,af,e',E,u,k4⟩
   .rw[E] at aa;generalize a2:aQ.at id=a at aa l;cases aa with
    |pad=>exact absurd rfl l
    |gone=>exact .inl rfl
   .rw[E] at aa;generalize a2:aQ.at id=a at aa l;cases aa with
    |pad=>exact absurd rfl l
    |gone=>exact .inl rfl
    |same _ _ _ bl=>
     refine .inr ⟨_,_,_,rfl,u,fun Y M=>?_⟩;rcases k4 Y M with⟨p,X⟩|p
     .refine .inl ⟨p,?_⟩;unfold CH at X⊢;rw[W x (by omega),W L bl];exact X
     .exact .inr p
    |tok g1 au g3=>
     refine .inr ⟨_,_,_,rfl,ABS hn g1,fun Y M=>?_⟩;rcases k4 Y M with⟨p,X⟩|p
     .refine .inl ⟨p,?_⟩;unfold CH at X⊢;rw[au,g3,W x (by omega)];exact X
     .exact .inr p
 row:=fun id x y ks e D=>by
  have l:=a4 id (by rw[D];exact fun h=>by cases h);have aa:=S id;rcases h.row id x y ks e D with q|⟨L,aF,af,q,E,u⟩
  .rw[q] at aa;generalize a2:aQ.at id=a at aa l;cases aa with
   |pad=>exact absurd rfl l
   |gone=>exact .inl rfl
  .rw[q] at aa;generalize a2:aQ.at id=a at aa l;cases aa with
   |pad=>exact absurd rfl l
   |gone=>exact .inl rfl
   |mrow g1 au=>exact .inr ⟨_,_,_,rfl,au.trans E,u⟩
end
def XK.ex:XK->Exit
 | .normal=> .normal
 | .exit id=> .exit id
 | .ret=> .ret
theorem ML {T:Tab}(ad:PC):((FO ad).eval T).toB=true↔pcv T ad:=by
 cases ad with
 |none=>exact⟨fun _=>trivial,fun _=>rfl⟩
 |some c=>exact HD.symm
def Vd (T:Tab)(a b:BC):Prop:=¬(pcv T a.pc/\pcv T b.pc)
structure EC (T:Tab) (g:G) (N:Nat) (outs:List BC):Prop where
 each:∀o∈outs,C4 g o.pc/\o.l.tmps.n=N
 apart:outs.Pairwise (Vd T)
def ah (T:Tab)(n0:Nat)(V :Nat->Option Nat)(m:Mem)(w:World)(n:Nat)(L:List BC)(Q:Exit->Act->World->Prop):Prop:=
 ∀o∈L,pcv T o.pc->∀ ac l ab,AI T n0 V m w ac o.l.mem ab->Rel T n ac o.l l ab->Q o.k.ex l ab
section
variable {T:Tab}{g aq:G}{N n0 n:Nat}{V :Nat->Option Nat}{m:Mem}{w:World}{Q:Exit->Act->World->Prop}
theorem Vd.symm {a b:BC}(h:Vd T a b):Vd T b a:=fun⟨C,O⟩=>h ⟨O,C⟩
theorem EC.grow {L:List BC}(h:EC T g N L)(k:Ac g aq):EC T aq N L:=⟨fun o l=>⟨(h.each o l).1.grow k,(h.each o l).2⟩,h.apart⟩
theorem EC.perm {l ae:List BC}(h:EC T g N l)(p:l.Perm ae):EC T g N ae:=
 ⟨fun o q=>h.each o (p.mem_iff.2 q),(p.pairwise_iff (fun h=>Vd.symm h)).1 h.apart⟩
theorem Rel.up {l:Loc}{a:Act}{aj:Nat}(h:Rel T n V l a w)(p:n<=aj):Rel T aj V l a w:=
 ⟨h.defers,h.size,fun i c q=>(h.tmps i c q).up0 p,h.mem.mono p⟩
theorem LX {k:XK}:∀{l:List BC} {p:BC} {r:List BC},H6 k l=some (p,r)->p.k=k/\l.Perm (p::r)
 |[],_,_,h=>by cases h
 |o::os,p,r,h=>by
  simp only[H6] at h;split at h
  .rename_i y;cases h;exact⟨y,List.Perm.refl _⟩
  .cases u:H6 k os with
   |none=>rw[u] at h;cases h
   |some q=>
    obtain⟨A,D⟩:=q;rw[u] at h;cases h;obtain⟨C,O⟩:=LX u;exact⟨C,(O.cons o).trans (List.Perm.swap _ _ _)⟩
theorem Rm {k:XK}:∀{l:List BC},H6 k l=none->∀o∈l,o.k≠k
 |[],_,o,h=>by cases h
 |o::os,h,o',p=>by
  simp only[H6] at h;split at h
  .cases h
  .rename_i y;cases u:H6 k os with
   |none=>
    cases p with
    |head=>exact y
    |tail _ p=>exact Rm u o' p
   |some q=>rw[u] at h;cases h
theorem bW {k:XK}{l:List BC}(h:noK k l=true):∀o∈l,o.k≠k:=fun o q p=>by
 have:=ABb.1 h o q;simp[p] at this
theorem uA {s:Rf}{p:Option PC}{a b c:BC}(h:aE g s p a b=(c,aq)):Ac g aq/\(Agr T aq->C4 g a.pc->C4 g b.pc->a.l.tmps.n=N->b.l.tmps.n=N->
  (∀q,p=some q->C4 g q/\(pcv T q↔pcv T a.pc\/pcv T b.pc))->
  c.k=a.k/\c.l.tmps.n=N/\C4 aq c.pc/\(pcv T c.pc↔pcv T a.pc\/pcv T b.pc)/\
  ∀f,(s.eval T).toB=f->∀ V u w,Rel T g.n V (sel f a.l b.l) u w->∃ ac,AI T g.n V (sel f a.l b.l).mem w ac c.l.mem w/\Rel T aq.n ac c.l u w):=by
 unfold aE at h;simp only at h;have A:Ac g (g.pushAll (HY g.n s a.l b.l).2):=Ac.push _ _;split at h
 .rename_i q;cases h;refine⟨A,fun y X Y l H M=>?_⟩;obtain⟨p1,p2⟩:=M q rfl;refine⟨rfl,l,p1.grow A,p2,fun f D V u w E=>?_⟩;exact X5 D (by rw[l,H]) (ABB _) y.new (by rw[Bb];exact ABB _) E
 .cases h;have au:Ac (g.pushAll (HY g.n s a.l b.l).2) ((g.pushAll (HY g.n s a.l b.l).2).pushAll [⟨ "or",oOr,[FO a.pc,FO b.pc]⟩]):=Ac.push _ _;refine⟨A.trans au,fun y X Y l H M=>?_⟩;have W:=y.of au;have a1:=y.new.head;refine⟨rfl,l,(by show _ < _;rw[Bb (G.pushAll _ _) [_]];exact Nat.lt_succ_self _),?_,fun f D V u w E=>?_⟩
  .rw[HD,a1,<-ML (T:=T) a.pc,<-ML (T:=T) b.pc];simp[Ex.eval,oOr,u0,u1,U.toB]
  .obtain⟨ac,C,O⟩:=X5 D (by rw[l,H]) (ABB _) W.new (aj:=(g.pushAll (HY g.n s a.l b.l).2).n) (by rw[Bb];exact ABB _) E;exact⟨ac,C,O.up au.n⟩
theorem JI {s:Option Rf}{bi:Option PC}:∀{aX f r:List BC} {g aq:G},E0 s bi aX f g=(r,aq)->Ac g aq/\(Agr T aq->EC T g N (aX++f)->
  (∀q,s=some q->(∀a∈aX,pcv T a.pc->(q.eval T).toB=true)/\(∀b∈f,pcv T b.pc->(q.eval T).toB=false))->
  (∀q,bi=some q->C4 g q/\∀a∈aX,∀b∈f,a.k= .normal->b.k= .normal->(pcv T q↔pcv T a.pc\/pcv T b.pc))->
  EC T aq N r/\(∀o∈r,pcv T o.pc->∃A∈aX++f,pcv T A.pc)/\
  ∀n0 V m w Q,n0<=g.n->AH T n0 V m w->ah T n0 V m w aq.n r Q->ah T n0 V m w g.n (aX++f) Q)
 |[],f,r,g,aq,h=>by
  simp only[E0] at h;cases h;exact⟨Ac.refl _,fun _ H _ _=>⟨H,fun o l p=>⟨o,l,p⟩,fun _ _ _ _ _ _ _ h=>h⟩⟩
 |a::aX,f,r,g,aq,h=>by
  simp only[E0] at h;split at h
  .rename_i cf;cases hj:E0 s bi aX f g with
   |mk ax g1=>
    rw[hj] at h;cases h;obtain⟨g1,k1⟩:=JI (aX:=aX) hj;refine⟨g1,fun hA H aa Y=>?_⟩;have b5:EC T g N (aX++f):=⟨fun o l=>H.each o (ABH _ l),(ACK.1 H.apart).2⟩;obtain⟨q1,q2,q3⟩:=k1 hA b5 (fun q u=>⟨fun a y=>(aa q u).1 a (ABH _ y),(aa q u).2⟩) (fun q u=>⟨(Y q u).1,fun a y=>(Y q u).2 a (ABH _ y)⟩);have cv:=(ACK.1 H.apart).1;have y:=H.each a (ABK ..);refine⟨⟨?_,?_⟩,?_,?_⟩
    .intro o l;cases l with
     |head=>exact⟨y.1.grow g1,y.2⟩
     |tail _ l=>exact q1.each o l
    .refine ACK.2 ⟨fun o l M=>?_,q1.apart⟩;obtain⟨A,D,C⟩:=q2 o l M.2;exact cv A D ⟨M.1,C⟩
    .intro o l p;cases l with
     |head=>exact⟨a,ABK ..,p⟩
     |tail _ l=>
      obtain⟨A,D,C⟩:=q2 o l p;exact⟨A,ABH _ D,C⟩
    .intro n0 V m w Q b1 hm hO o l p;cases l with
     |head=>exact fun ac W ab b3 hr=>hO a (ABK ..) p ac W ab b3 (hr.up g1.n)
     |tail _ l=>exact q3 n0 V m w Q b1 hm (fun o l=>hO o (ABH _ l)) o l p
  .rename_i b a1 cf;obtain⟨cb,b6⟩:=LX cf;cases ce:aE g (s.getD (FO a.pc)) (if a.k= .normal then bi else none) a b with
   |mk c gm=>
    rw[ce] at h;simp only at h;cases hj:E0 s bi aX a1 gm with
    |mk ax g1=>
     rw[hj] at h;cases h;obtain⟨a3,k1⟩:=uA (T:=T) (N:=N) ce;obtain⟨bo,E⟩:=JI (aX:=aX) hj;refine⟨a3.trans bo,fun hA H aa Y=>?_⟩;have p:(a::aX++f).Perm (a::b::(aX++a1)):=by
      refine List.Perm.cons a ?_;exact (List.Perm.append_left aX b6).trans List.perm_middle
     have bt:=H.perm p;have cu:=hA.of bo;have b4:b∈f:=b6.mem_iff.2 (ABK ..);have cc:∀o∈a1,o∈f:=fun o l=>b6.mem_iff.2 (ABH _ l);have y:=bt.each a (ABK ..);have X:=bt.each b (ABH _ (ABK ..));have pw:=ACK.1 bt.apart;have ci:=ACK.1 pw.2;have b5:EC T gm N (aX++a1):=EC.grow ⟨fun o l=>bt.each o (ABH _ (ABH _ l)),ci.2⟩ a3;obtain⟨aS,c2,c3,c4,c5⟩:=k1 cu y.1 X.1 y.2 X.2 (fun q u=>by
      split at u
      .rename_i hk;obtain⟨z1,z2⟩:=Y q u;exact⟨z1,z2 a (ABK ..) b b4 hk (by rw[cb,hk])⟩
      .cases u)
     obtain⟨q1,q2,q3⟩:=E hA b5 (fun q u=>⟨fun a y=>(aa q u).1 a (ABH _ y),fun b X=>(aa q u).2 b (cc b X)⟩)
      (fun q u=>⟨(Y q u).1.grow a3,fun a y b X=>(Y q u).2 a (ABH _ y) b (cc b X)⟩)
     have cx:∀o,o∈(aX++a1)->o∈(a::aX++f):=fun o l=>p.mem_iff.2 (ABH _ (ABH _ l));have cy:pcv T a.pc->((s.getD (FO a.pc)).eval T).toB=true:=fun p=>by
      cases s with
      |none=>exact (ML a.pc).2 p
      |some q=>exact (aa q rfl).1 a (ABK ..) p
     have c0:pcv T b.pc->((s.getD (FO a.pc)).eval T).toB=false:=fun p=>by
      cases s with
      |none=>
       simp only[Option.getD_none];cases u:((FO a.pc).eval T).toB with
       |false=>rfl
       |true=>exact absurd ⟨(ML a.pc).1 u,p⟩ (pw.1 b (ABK ..))
      |some q=>exact (aa q rfl).2 b b4 p
     refine⟨⟨?_,?_⟩,?_,?_⟩
     .intro o l;cases l with
      |head=>exact⟨c3.grow bo,c2⟩
      |tail _ l=>exact q1.each o l
     .refine ACK.2 ⟨fun o l M=>?_,q1.apart⟩;obtain⟨A,D,C⟩:=q2 o l M.2;rcases c4.1 M.1 with O|O
      .exact pw.1 A (ABH _ D) ⟨O,C⟩
      .exact ci.1 A D ⟨O,C⟩
     .intro o l p;cases l with
      |head=>
       rcases c4.1 p with O|O
       .exact⟨a,ABK ..,O⟩
       .exact⟨b,ABL _ b4,O⟩
      |tail _ l=>
       obtain⟨A,D,C⟩:=q2 o l p;exact⟨A,cx A D,C⟩
     .intro n0 V m w Q b1 hm hO o l bb ac W ab b3 hr;have ba:=p.mem_iff.1 l;have ch:sel ((s.getD (FO a.pc)).eval T).toB a.l b.l=o.l->pcv T c.pc->o.k=a.k->Q o.k.ex W ab:=fun e M hk=>by
       obtain⟨aV,aF,s2⟩:=c5 _ rfl ac W ab (by rw[e];exact hr);rw[e] at aF;rw[hk,<-aS];exact hO c (ABK ..) M aV W ab (b3.trans hm b1 aF) (s2.up bo.n)
      cases ba with
      |head=>exact ch (by rw[cy bb];rfl) (c4.2 (.inl bb)) rfl
      |tail _ ba=>
       cases ba with
       |head=>exact ch (by rw[c0 bb];rfl) (c4.2 (.inr bb)) cb
       |tail _ ba=>exact q3 n0 V m w Q (ABS b1 a3.n) hm (fun o l=>hO o (ABH _ l)) o ba bb ac W ab b3 (hr.up a3.n)
end
def Cr (T:Tab)(K:(Exit->Act->World->Prop)->Act->World->Prop)(r:PC->Loc->G->Option (List BC × G)):Prop:=
 ∀ad l g L aq,r ad l g=some (L,aq)->Ac g aq/\(Agr T aq->C4 g ad->EC T aq l.tmps.n L/\(∀o∈L,pcv T o.pc->pcv T ad)/\
  (Ar T aq->pcv T ad->∀ V a w Q,Rel T g.n V l a w->ah T g.n V l.mem w aq.n L Q->K Q a w))
section
variable {P:Program}{T:Tab}{a9 K2:(Exit->Act->World->Prop)->Act->World->Prop}{ax aK:PC->Loc->G->Option (List BC × G)}
theorem Cr.mono (h:Cr T a9 ax)(q:∀Q a w,a9 Q a w->K2 Q a w):Cr T K2 ax:=by
 intro ad l g L aq p;obtain⟨C,O⟩:=h ad l g L aq p;grind
theorem Xp {k:XK}(h:k≠ .normal){F:Act->World->Prop}{Q:Exit->Act->World->Prop}{a:Act}{w:World}(l:Q k.ex a w):Exit.then F Q k.ex a w:=by
 cases k with
 |normal=>exact absurd rfl h
 |exit id=>exact l
 |ret=>exact l
theorem VF (C:Cr T a9 ax)(O:Cr T K2 aK):Cr T (fun Q=>a9 (Exit.then (K2 Q) Q)) (fun ad l g=>do let (L,g) <-ax ad l g;VT L g aK):=by
 intro ad l g cx aq p;simp only[ABA,AA7] at p;obtain⟨⟨L,g1⟩,ce,p⟩:=p;obtain⟨X,k1⟩:=C ad l g L g1 ce;simp only at p;unfold VT at p;split at p
 .rename_i a5;cases p;refine⟨X,fun hA M=>?_⟩;obtain⟨q1,q2,q3⟩:=k1 hA M;refine⟨q1,q2,fun A a4 V a w Q H hO=>q3 A a4 V a w _ H fun o A M ac W ab aa p=>?_⟩;exact Xp (Rm a5 o A) (hO o A M ac W ab aa p)
 .rename_i o ci a5;split at p
  .rename_i ca;simp only[ABA,AA7] at p;obtain⟨⟨b4,au⟩,bi,p⟩:=p;simp only[ABu] at p;obtain⟨cb,b2⟩:=LX a5;obtain⟨D,E⟩:=O o.pc o.l g1 b4 au bi;obtain⟨Y,k3⟩:=JI (T:=T) (N:=l.tmps.n) p;refine⟨(X.trans D).trans Y,fun hA M=>?_⟩;have bt:=hA.of Y;have b8:=bt.of D;obtain⟨q1,q2,q3⟩:=k1 b8 M;have bm:=q1.perm b2;have A:=bm.each o (ABK ..);obtain⟨aF,s2,s3⟩:=E bt A.1;rw[A.2] at aF;have pw:=ACK.1 bm.apart;have b9:EC T au l.tmps.n (ci++b4):=by
    refine⟨fun x u=>?_,ACJ.2 ⟨pw.2,aF.apart,fun x u y hy hc=>pw.1 x u ⟨s2 y hy hc.2,hc.1⟩⟩⟩;rcases ABm.1 u with u|u
    .have:=bm.each x (ABH _ u);exact⟨this.1.grow D,this.2⟩
    .exact aF.each x u
   obtain⟨t1,t2,t3⟩:=k3 hA b9 (fun q hq=>by cases hq) (fun q hq=>by cases hq);refine⟨t1,fun x u ba=>?_,fun b1 a4 V a w Q H hO=>?_⟩
   .grind
   .have bx:=t3 g.n V l.mem w Q (X.trans D).n H.mem hO;refine q3 ((b1.of Y).of D) a4 V a w _ H fun x u ba ac W ab aa p=>?_;have a2:=b2.mem_iff.1 u;cases a2 with
    |head=>
     rw[cb];refine s3 (b1.of Y) ba ac W ab Q p fun y hy cc aV b7 w2 cf bi=>?_;exact bx y (ABL _ hy) cc aV b7 w2 (aa.trans H.mem X.n cf) bi
    |tail _ a2=>
     exact Xp (bW ca x a2) (bx x (ABR _ a2) ba ac W ab aa (p.up D.n))
  .cases p
theorem rQ:∀{a b:PC},Vk a b=true->a=b
 |none,none,_=>rfl
 |some a,some b,h=>by rw[AA9 h]
 |none,some _,h=>by cases h
 |some _,none,h=>by cases h
theorem wl {a0:Code->PC->Loc->G->Option (List BC × G)}{x:Nat}{ca cb:Code}(W:Cr T a9 (a0 ca))(X:Cr T K2 (a0 cb)):
  Cr T (fun Q a w=>((T x).toB=true->a9 Q a w)/\((T x).toB=false->K2 Q a w)) (V6 a0 x ca cb):=by
 intro ad l g L aq u;unfold V6 at u;split at u
 .cases u
 rename_i ce;have hx:x < g.n:=by rw[Bool.not_eq_false,Nat.blt_eq] at ce;exact ce
 cases b5:Dd g ad x true with
 |mk pa g1=>
  simp only[b5,ABA,AA7] at u;obtain⟨⟨oa,au⟩,c8,u⟩:=u;simp only at u;cases b6:Dd au ad x false with
  |mk pb g3=>
   simp only[b6,AA7] at u;obtain⟨⟨ob,g4⟩,c9,u⟩:=u;simp only[ABu] at u;obtain⟨a5,cs⟩:=Im (T:=T) b5;obtain⟨bx,cu⟩:=W pa l g1 oa au c8;obtain⟨H,cv⟩:=Im (T:=T) b6;obtain⟨D,cx⟩:=X pb l g3 ob g4 c9;obtain⟨bb,cy⟩:=JI (T:=T) (N:=l.tmps.n) u;have ba:=a5.trans bx;have E:=ba.trans H;refine⟨(E.trans D).trans bb,fun hA hp=>?_⟩;have b3:=hA.of bb;have b2:=b3.of D;have b1:=b2.of H;have c2:=b1.of bx;obtain⟨p1,p2⟩:=cs c2 hp hx;obtain⟨p3,p4⟩:=cv b2 (hp.grow ba) (ABE hx ba.n);obtain⟨q1,q2,q3⟩:=cu b1 p1;obtain⟨q4,q5,q6⟩:=cx b3 p3;have c4:EC T g4 l.tmps.n (oa++ob):=by
    refine⟨fun y A=>?_,ACJ.2 ⟨q1.apart,q4.apart,fun y A z hz hc=>?_⟩⟩
    .rcases ABm.1 A with A|A
     .exact⟨((q1.each y A).1.grow H).grow D,(q1.each y A).2⟩
     .exact q4.each y A
    .grind
   obtain⟨t1,t2,t3⟩:=cy hA c4
    (fun q hq=>by
     cases hq;exact⟨fun a W c6=>(p2.1 (q2 a W c6)).2,fun b X c7=>(p4.1 (q5 b X c7)).2⟩)
    (fun q hq=>by
     split at hq
     .rename_i b9;cases hq;refine⟨hp.grow (E.trans D),fun a W b X _ _=>?_⟩;simp only[AA8,decide_eq_true_eq] at b9;obtain⟨⟨⟨aG,w2⟩,w3⟩,w4⟩:=b9;have one:∀{o:BC} {l:List BC} {p:PC},l.length=1->(l.any fun o=>decide (o.k= .normal)&&Vk o.pc p)=true->o∈l->o.pc=p:=by
       intro o l p C O h3;cases l with
       |nil=>cases h3
       |cons z l=>
        have:l=[]:=List.eq_nil_of_length_eq_zero (by simpa using C);subst this;simp at O h3;subst h3;exact rQ O.2
      rw[one w3 aG W,one w4 w2 X,p2,p4];cases (T x).toB<;>simp
     .cases hq)
   refine⟨t1,fun y A Y=>?_,fun c5 b8 V a w Q hR hO=>?_⟩
   .obtain⟨y0,M,C⟩:=t2 y A Y;rcases ABm.1 M with M|M
    .exact (p2.1 (q2 y0 M C)).1
    .exact (p4.1 (q5 y0 M C)).1
   .have b4:=t3 g.n V l.mem w Q (E.trans D).n hR.mem hO;have b7:=c5.of bb;refine⟨fun dd=>?_,fun db=>?_⟩
    .refine q3 (b7.of (H.trans D)) (p2.2 ⟨b8,dd⟩) V a w Q (hR.up a5.n) fun y A Y ac a' ab aa u=>?_;exact b4 y (ABR _ A) Y ac a' ab (aa.down a5.n) (u.up (H.trans D).n)
    .refine q6 b7 (p4.2 ⟨b8,db⟩) V a w Q (hR.up E.n) fun y A Y ac a' ab aa u=>?_;exact b4 y (ABL _ A) Y ac a' ab (aa.down E.n) u
end
theorem Tab.ext' {aA J:Tab}(C:∀x,aA x=J x)(O:aA.fr=J.fr)(A:aA.lp=J.lp)(D:aA.base=J.base):aA=J:=by
 obtain⟨l,u,X,p⟩:=aA;obtain⟨au,y,ah,q⟩:=J;have:l=au:=funext C;grind
theorem Er (T:Tab)(x:Nat)(u:U):(T.upd x u) x=u:=by
 show (bif Nat.beq x x then u else T x)=u;rw[(Dw x x).2 rfl];rfl
theorem C0 (T:Tab){x y:Nat}(u:U)(h:y≠x):(T.upd x u) y=T y:=by
 show (bif Nat.beq y x then u else T y)=T y;have:Nat.beq y x=false:=by
  cases l:Nat.beq y x with
  |false=>rfl
  |true=>exact absurd ((Dw _ _).1 l) h
 rw[this];rfl
theorem HK:∀(us:List U) (T:Tab) (nh x:Nat),x < nh->(T.upds nh us) x=T x
 |[],_,_,_,_=>rfl
 |u::us,T,nh,x,h=>by
  simp only[Tab.upds];rw[HK us _ _ _ (by omega),C0 _ _ (by omega)]
theorem jc:∀(us:List U) (T:Tab) (nh x:Nat),nh+us.length<=x->(T.upds nh us) x=T x
 |[],_,_,_,_=>rfl
 |u::us,T,nh,x,h=>by
  simp only[ABa] at h;simp only[Tab.upds];rw[jc us _ _ _ (by omega),C0 _ _ (by omega)]
theorem GO:∀(us:List U) (T:Tab) (nh j:Nat) (u:U),us[j]? =some u->(T.upds nh us) (nh+j)=u
 |[],_,_,_,_,h=>by simp at h
 |v::us,T,nh,j,u,h=>by
  simp only[Tab.upds];cases j with
  |zero=>
   simp at h;subst h;rw[HK us _ _ _ (by omega)];exact Er _ _ _
  |succ j=>
   rw[show nh+(j+1)=nh+1+j by omega];exact GO us _ _ j u (by simpa using h)
theorem Nm:∀(us:List U) (T:Tab) (nh:Nat),(T.upds nh us).fr=T.fr/\(T.upds nh us).lp=T.lp/\(T.upds nh us).base=T.base
 |[],_,_=>⟨rfl,rfl,rfl⟩
 |u::us,T,nh=>by
  simp only[Tab.upds];exact Nm us _ _
theorem Fa:∀(l:List (Nat × Ex)) (T:Tab),(BR T l).fr=T.fr/\(BR T l).lp=T.lp/\(BR T l).base=T.base
 |[],_=>⟨rfl,rfl,rfl⟩
 |(x,e)::r,T=>by
  simp only[BR];exact Fa r T
theorem Ng {T:Tab}:∀(fv:List Nat) (x:Nat),x∈fv->(OG fv (fv.map T.get)) x=T x
 |[],x,h=>by cases h
 |y::fv,x,h=>by
  simp only[ABQ,OG];by_cases l:x=y
  .subst l;exact Er _ _ _
  .rw[C0 _ _ l];cases h with
   |head=>exact absurd rfl l
   |tail _ h=>exact Ng fv x h
theorem G1 {aA J:Tab}:∀(l:List Rf),(∀x∈GJ l,aA x=J x)->l.map (Rf.eval aA)=l.map (Rf.eval J)
 |[],_=>rfl
 | .c u::l,h=>by
  simp only[ABQ,Rf.eval];rw[G1 l (fun x p=>h x p)]
 | .e y::l,h=>by
  simp only[ABQ,Rf.eval];rw[G1 l (fun x p=>h x (ABH _ p)),h y (ABK ..)]
 | .n y::l,h=>by
  simp only[ABQ,Rf.eval];rw[G1 l (fun x p=>h x (ABH _ p)),h y (ABK ..)]
theorem Ul {aA J:Tab}{e:Ex}(h:∀x∈GJ e.args,aA x=J x):e.eval aA=e.eval J:=by
 unfold Ex.eval;rw[G1 e.args h]
theorem EY {fv:List Nat}{nh an:Nat}{l:List Nat}(h:G4 fv nh an l=true):∀x∈l,x∈fv\/(nh<=x/\x < an):=fun x p=>by
 have:=ABb.1 h x p;simp only[ABe,AA8] at this;rcases this with C|⟨C,O⟩
 .exact .inl (by simpa using C)
 .exact .inr ⟨ABX C,BF O⟩
section
variable {fv:List Nat}{nh am:Nat}
theorem CR {T:Tab}:∀{q:List (Nat × Ex)} {an:Nat},CT fv nh am an q=true->am<=an/\(∀p∈q,am<=p.1/\p.1 < an)/\∀y,(y < am\/an<=y)->BR T q y=T y
 |[],an,h=>⟨by rw[AA9 h];exact ABB _,(fun p l=>by cases l),fun _ _=>rfl⟩
 |(x,e)::r,an,h=>by
  simp only[CT,AA8] at h;have A:=AA9 h.1.1;obtain⟨C,O,u⟩:=CR (T:=T) h.2;refine⟨by omega,fun p l=>?_,fun y D=>?_⟩
  .cases l with
   |head=>exact⟨C,by omega⟩
   |tail _ l=>have:=O p l;exact⟨this.1,by omega⟩
  .simp only[BR];rw[C0 _ _ (by omega)];exact u y (by omega)
theorem FF {T:Tab}(E:∀x∈fv,x < nh)(M:nh<=am):∀{u:List (Nat × Ex)} {an:Nat},CT fv nh am an u=true->∀p∈u,(BR T u) p.1=p.2.eval (BR T u)
 |[],_,_,p,l=>by cases l
 |(x,e)::r,an,h,p,l=>by
  simp only[CT,AA8] at h;obtain⟨C,O,_⟩:=CR (T:=T) h.2;have D:∀{e':Ex} {y:Nat},y<=x->G4 fv nh y (GJ e'.args)=true->e'.eval (BR T ((x,e)::r))=e'.eval (BR T r):=by
   intro e' y hy aa;refine Ul fun z W=>?_;simp only[BR];refine C0 _ _ ?_;rcases EY aa z W with q|q
   .have:=E z q;omega
   .omega
  cases l with
  |head=>
   have:=D (e':=e) (ABB x) h.1.2;rw[this];simp only[BR];exact Er _ _ _
  |tail _ l=>
   have A:=FF (T:=T) E M h.2 p l;have Y:=O p l;have H:G4 fv nh p.1 (GJ p.2.args)=true:=by
    have X:∀{r:List (Nat × Ex)} {an:Nat},CT fv nh am an r=true->p∈r->G4 fv nh p.1 (GJ p.2.args)=true:=by
     intro r;induction r with
     |nil=>intro an _ l;cases l
     |cons q r A=>
      intro an h l;obtain⟨x,e⟩:=q;simp only[CT,AA8] at h;cases l with
      |head=>exact h.1.2
      |tail _ l=>exact A h.2 l
    exact X h.2 l
   rw[D (e':=p.2) (y:=p.1) (by omega) H];simp only[BR];rw[C0 _ _ (by omega)];exact A
theorem QG {T:Tab}:∀{l:List (Nat × Ex)},(∀p∈l,T p.1=p.2.eval T)->BR T l=T
 |[],_=>rfl
 |(x,e)::r,h=>by
  simp only[BR];rw[QG (fun p u=>h p (ABH _ u))];refine Tab.ext' (fun y=>?_) rfl rfl rfl;by_cases q:y=x
  .subst q;rw[Er];exact (h (y,e) (ABK ..)).symm
  .exact C0 _ _ q
theorem OX {aA J:Tab}(D:∀x∈fv,x < nh)(E:nh<=am)(u:∀x,x∈fv\/(nh<=x/\x < am)->aA x=J x):∀{p:List (Nat × Ex)} {an:Nat},CT fv nh am an p=true->
  ∀x,x∈fv\/(nh<=x/\x < an)->(BR aA p) x=(BR J p) x
 |[],an,h,x,l=>by
  rw[AA9 h] at l;exact u x l
 |(y,e)::r,an,h,x,l=>by
  simp only[CT,AA8] at h;have M:=AA9 h.1.1;obtain⟨C,_,_⟩:=CR (T:=aA) h.2;have A:=OX D E u h.2;simp only[BR];by_cases q:x=y
  .subst q;rw[Er,Er];exact Ul fun z H=>A z (EY h.1.2 z H)
  .rw[C0 _ _ q,C0 _ _ q];refine A x ?_;rcases l with l|l
   .exact .inl l
   .exact .inr ⟨l.1,by omega⟩
end
variable{aW:Type}{ad:PC}
theorem ET.trans {f:aW->Option aW}{s t u:aW}(h:ET f s t)(k:ET f t u):ET f s u:=by
 induction k with
 |zero=>exact h
 |succ _ e l=>exact .succ l e
theorem QR {aW:Type}{f:aW->Option aW}:∀(n:Nat) (s t:aW),Gd f n s=some t->ET f s t
 |0,s,t,h=>by simp only[Gd] at h;cases h;exact .zero
 |n+1,s,t,h=>by
  simp only[Gd,AA7] at h;obtain⟨u,C,O⟩:=h;exact (ET.succ .zero C).trans (QR n u t O)
theorem oe {f:aW->Option aW}{s t u:aW}{n:Nat}(p:Gd f n s=some t)(q:f t=none)(h:ET f s u):∃m,Gd f m u=some t:=by
 induction h with
 |zero=>exact⟨n,p⟩
 |succ _ e y=>
  obtain⟨m,l⟩:=y;cases m with
  |zero=>simp only[Gd] at l;cases l;rw[q] at e;cases e
  |succ m=>
   simp only[Gd,e,ABd] at l;exact⟨m,l⟩
theorem it {f:aW->Option aW}{s t:aW}{n:Nat}(q:Gd f n s=some t)(u:f t=none):last f s=t:=by
 have p:∃t,ET f s t/\f t=none:=⟨t,QR n s t q,u⟩;unfold last;rw[dif_pos p];obtain⟨C,O⟩:=Classical.choose_spec p;obtain⟨m,l⟩:=oe q u C;cases m with
 |zero=>simp only[Gd] at l;injection l
 |succ m=>simp only[Gd,O,Option.bind_none] at l;cases l
theorem C4.n {g aq:G}(h:C4 g ad)(l:g.n<=aq.n):C4 aq ad:=by
 cases ad with
 |none=>trivial
 |some c=>exact ABE h l
theorem MU {T:Tab}:pcB T ad=true↔pcv T ad:=by
 cases ad with
 |none=>exact⟨fun _=>trivial,fun _=>rfl⟩
 |some c=>exact HD.symm
theorem lu {lps:List (Nat × CL)}{nh:Nat}{ai:List Rf}{q l:Loc}{ps:List Pr}(h:Ep lps nh ai q l=some ps):q.tmps.n=l.tmps.n:=by
 unfold Ep at h;split at h
 .rename_i p;simp only[AA8] at p;exact AA9 p.2
 .cases h
section
variable {P:Program}{T:Tab}{r:Option Nat}{ao:Nat}
theorem rG {c:Code}{a0:PC->Loc->G->Option (List BC × G)}(c5:∀T':Tab,T'.lp=T.lp->Cr T' (fun Q a w=>c.wpIn (fen r) ao P Q a w) a0)(p:Dg):
  Cr T (fun Q a w=>(Code.loop c).wpIn (fen r) ao P Q a w) (bU a0 p):=by
 intro ad l g L aq h;unfold bU at h;simp only[ABA,AA7] at h;obtain⟨hl,g0,⟨A,g4⟩,g1,g3,b9,⟨di,au⟩,hr,h⟩:=h;simp only at h b9 hr;split at h
 .cases h
 rename_i o g6 gi;simp only[AA7] at h;obtain⟨⟨nxt,g5⟩,g2,aZ,ee,h⟩:=h;simp only at h ee;generalize hD:({ nh:=g.n,k:=A.length,eqs:=au.eqs,pcn:=o.pc,nxt,obs:=aZ.map (Ob.mk o.pc)++au.obs,fv:=SU g.n au.eqs o.pc nxt (aZ.map (Ob.mk o.pc)++au.obs) }:Aa)=D at h;split at h
 .rename_i hc;simp only[AA8] at hc;obtain⟨⟨⟨er,c2⟩,c1⟩,f6⟩:=hc;have c2:=AA9 c2;have c1:=AA9 c1;have bk:D.nh=g.n:=by rw[<-hD]
  have ds:D.k=A.length:=by rw[<-hD]
  have e9:D.fv=SU g.n au.eqs o.pc nxt (aZ.map (Ob.mk o.pc)++au.obs):=by rw[<-hD]
  have dn:D.eqs=au.eqs:=by rw[<-hD]
  have d0:D.pcn=o.pc:=by rw[<-hD]
  have cl:D.nxt=nxt:=by rw[<-hD]
  have dv:D.obs=aZ.map (Ob.mk o.pc)++au.obs:=by rw[<-hD]
  cases h;obtain⟨gr,k0⟩:=c5 T rfl ad hl _ di au hr;have gH:g.n+A.length<=au.n:=gr.n;obtain⟨f8,b2⟩:=LX gi;have e0:∀p,p∈Jh g.n (D.heads A) g.eqs->p∈au.eqs++Jh g.n (D.heads A) g.eqs:=fun p M=>ABL _ M;refine⟨⟨by show g.n<=au.n;omega,fun p M=>e0 p ((JT _ _ _ _).2 (.inl M)),fun x W=>ABH _ (ABL _ W),gr.lps⟩,fun hA M=>?_⟩;have c0:∀p∈g.lps,T.lp p.1=p.2:=fun p M=>hA.lps p (gr.lps p M);have fn:Agr T au:=⟨fun p M=>hA.eqs p (ABR _ M),hA.lps⟩;have c4:C4 { n:=g.n+A.length,eqs:=[],obs:=[],lps:=g.lps } ad:=M.n (Nat.le_add_right _ _);obtain⟨q1,q2,_⟩:=k0 fn c4;have e2:=q1.perm b2;have pw:=ACK.1 e2.apart;have f4:hl.tmps.n=l.tmps.n:=lu b9;refine⟨⟨fun x W=>?_,pw.2⟩,fun x W bb=>q2 x (b2.mem_iff.2 (ABH _ W)) bb,fun c3 b1 V a w Q hR hO=>?_⟩
  .obtain⟨z1,z2⟩:=e2.each x (ABH _ W);exact⟨z1.n (ABB _),by rw[z2,f4]⟩
  simp only[Aa.inScope,AA8] at er;obtain⟨⟨⟨⟨b3,dj⟩,e3⟩,e4⟩,gG⟩:=er;rw[dn,bk,ds] at b3;rw[bk,d0] at dj;rw[bk,cl] at e3;rw[dv,bk] at e4;have b8:∀x∈D.fv,x < g.n:=fun x W=>by
   have:=ABb.1 gG x W;rw[bk] at this;exact BF this
  have ba:g.n<=g.n+A.length:=Nat.le_add_right _ _;let us:List U:=D.fv.map T.get;let H:List U:=A.map (Rf.eval T);let E:List U->Tab:=fun s=>BR (T.upds g.n s) au.eqs;have Y:∀s,(E s).fr=T.fr/\(E s).lp=T.lp/\(E s).base=T.base:=fun s=>by
   obtain⟨a1,a2,a3⟩:=Fa au.eqs (T.upds g.n s);obtain⟨ch,ci,cj⟩:=Nm s T g.n;exact⟨a1.trans ch,a2.trans ci,a3.trans cj⟩
  have a4:∀s x,x < g.n->E s x=T x:=fun s x W=>by
   rw[show E s x=(T.upds g.n s) x from (CR b3).2.2 x (.inl (by omega))];exact HK _ _ _ _ W
  have cv:∀s j u,s.length=A.length->s[j]? =some u->E s (g.n+j)=u:=fun s j u aa X=>by
   have cx:j < s.length:=(ABD.1 X).1;rw[show E s (g.n+j)=(T.upds g.n s) (g.n+j) from (CR b3).2.2 _ (.inl (by omega))];exact GO _ _ _ _ _ X
  have f0:∀s,∀p∈au.eqs,E s p.1=p.2.eval (E s):=fun s p M=>FF b8 ba b3 p M;have d2:∀s,Agr (E s) au:=fun s=>⟨f0 s,fun p M=>by rw[(Y s).2.1];exact hA.lps p M⟩;have b7:∀s,s.length=A.length->∀x,x∈D.fv\/(g.n<=x/\x < au.n)->(D.tab us s) x=E s x:=fun s aa x W=>by
   have e:D.tab us s=BR ((OG D.fv us).upds g.n s) au.eqs:=by unfold Aa.tab;rw[bk,dn]
   rw[e];refine OX b8 ba (fun y hy=>?_) b3 x W;rcases hy with hy|hy
   .rw[HK _ _ _ _ (b8 y hy),HK _ _ _ _ (b8 y hy)];exact Ng D.fv y hy
   .have X:y - g.n < s.length:=by omega
    have C:=GO s (OG D.fv us) g.n (y - g.n) s[y - g.n] (ABC X);have O:=GO s T g.n (y - g.n) s[y - g.n] (ABC X);rw[show g.n+(y - g.n)=y by omega] at C O;rw[C,O]
  have el:∀s,s.length=A.length->pcB (D.tab us s) D.pcn=pcB (E s) o.pc:=fun s aa=>by
   rw[d0];cases ga:o.pc with
   |none=>rfl
   |some x=>
    simp only[pcB];rw[ga] at dj;rw[b7 s aa x (EY dj x (by simp[pcL]))]
  have f7:∀s,s.length=A.length->D.nxt.map (Rf.eval (D.tab us s))=nxt.map (Rf.eval (E s)):=fun s aa=>by
   rw[cl];exact G1 nxt fun x W=>b7 s aa x (EY e3 x W)
  have ej:∀s,s.length=A.length->D.ob us s->∀q∈aZ.map (Ob.mk o.pc)++au.obs,q.holds (E s):=fun s aa fr q hq=>by
   have C:=fr q (by rw[dv];exact hq);have O:=ABb.1 e4 q hq;have h3:=EY O;intro en;have gk:pcv (D.tab us s) q.pc:=by
    cases eo:q.pc with
    |none=>trivial
    |some x=>
     rw[eo] at en;have:=b7 s aa x (h3 x (by rw[eo];exact ABR _ (by simp[pcL])));show D.tab us s x= .bool true;rw[this];exact en
   have:=C gk;unfold Pr.holds at this⊢;rw[G1 q.p.args (fun x W=>b7 s aa x (h3 x (ABL _ W)))] at this;exact this
  have ca:=c3 ⟨ad,⟨D.tg 0,D.owes,(SU g.n au.eqs o.pc nxt (aZ.map (Ob.mk o.pc)++au.obs)).map .e++A⟩⟩ (ABK ..) b1;rw[<-e9] at ca;have d5:(D.fv.map Rf.e++A).map (Rf.eval T)=us++H:=by
   simp only[ABI,List.map_map];rfl
  have ey:us.length=D.fv.length:=by simp[us]
  have et:(us++H).take D.fv.length=us:=by rw[<-ey];simp
  have d7:(us++H).drop D.fv.length=H:=by rw[<-ey];simp
  simp only[Pr.holds,Aa.owes] at ca;rw[d5,et,d7] at ca;obtain⟨⟨N,t,hN,ht⟩,d4⟩:=ca;have c7:H.length=A.length:=by simp[H]
  have cy:∀s,ET (D.step us) H s->s.length=A.length:=fun s aa=>by
   induction aa with
   |zero=>exact c7
   |succ _ e _=>
    simp only[Aa.step] at e;cases hb:pcB (D.tab us _) D.pcn with
    |false=>rw[hb] at e;cases e
    |true=>rw[hb] at e;simp only[cond_true] at e;cases e;rw[cl];simp[c2]
  have f3:last (D.step us) H=t:=it hN ht;have f1:∀j,j < A.length->T (g.n+j)=t.getD j default:=fun j X=>by
   have hm:(g.n+j,(⟨D.tg j,D.res j,D.fv.map .e++A⟩:Ex))∈Jh g.n (D.heads A) g.eqs:=by
    refine (JT _ _ _ _).2 (.inr ⟨j,_,?_,rfl⟩);unfold Aa.heads;rw[ds];simp[X]
   have:=hA.eqs _ (e0 _ hm);simp only at this;rw[this];unfold Ex.eval;simp only;rw[d5];unfold Aa.res;rw[et,d7,f3]
  have ev:t.length=A.length:=cy t (QR N H t hN);have d3:E t=T:=by
   have e:T.upds g.n t=T:=by
    obtain⟨ch,ci,cj⟩:=Nm t T g.n;refine Tab.ext' (fun x=>?_) ch ci cj;by_cases C:x < g.n
    .exact HK _ _ _ _ C
    .by_cases O:x < g.n+t.length
     .have X:x - g.n < t.length:=by omega
      have h3:=GO t T g.n (x - g.n) t[x - g.n] (ABC X);rw[show g.n+(x - g.n)=x by omega] at h3;have h4:=f1 (x - g.n) (by omega);rw[show g.n+(x - g.n)=x by omega] at h4;rw[h3,h4];simp[X]
     .exact jc _ _ _ _ (by omega)
   show BR (T.upds g.n t) au.eqs=T;rw[e];exact QG fun p M=>hA.eqs p (ABR _ M)
  have ei:∀id,l.mem.at id≠ .pad->hl.mem.at id≠ .pad:=by
   have H0:Fc T (E H) g.n (g.n+A.length) A:=fun j aO X=>by
    have cx:j < A.length:=(ABD.1 X).1;exact⟨by omega,cv H j _ c7 (by simp[H,X])⟩
   obtain⟨_,_,gd⟩:=Hd (J:=E H) b9 c0 (Y H).1 (Y H).2.1 (Y H).2.2 (a4 H) ba H0 (fun p M=>c3 ⟨ad,p⟩ (ABH _ (ABR _ (ACI.2 ⟨p,M,rfl⟩))) b1) hR;intro id C O;have f2:id < hl.mem.length:=by
    rw[c1];rcases ABN id l.mem.length with h|h
    .exact h
    .exact absurd (Mem.at_ge h) C
   exact C (gd id f2 O)
  have c8:∀s,Cg T (E s) g.n:=fun s=>⟨a4 s,(Y s).1,(Y s).2.1⟩;have e8:∀n s,ET (D.step us) H s->Gd (D.step us) n s=some t->∀ bt a1 aG,Rel (E s) (g.n+A.length) bt hl a1 aG->AI (E s) g.n V l.mem w bt hl.mem aG->Code.roundsIn (fen r) ao P c Q (n+1) a1 aG:=by
   intro n;induction n with
   |zero=>
    intro s aa a5 bt a1 aG c6 db;simp only[Gd] at a5;cases a5;rw[roundsIn_succ];obtain⟨_,_,dk⟩:=(c5 (E t) (Y t).2.1 ad hl _ di au hr).2 (d2 t) c4;refine dk (fun q hq=>ej t ev (d4 t aa) q (ABL _ hq)) ?_ bt a1 aG _ c6 fun x W bb ac a' ab dd cc=>?_
    .rw[d3];exact b1
    .cases b2.mem_iff.1 W with
     |head=>
      exfalso;have:=MU.2 bb;rw[<-el t ev] at this;simp only[Aa.step,this,cond_true] at ht;cases ht
     |tail _ ce=>
      refine Xp (bW f6 x ce) ?_;have es:=db.trans (hR.mem.tab (c8 t)) ba dd;rw[d3] at es cc bb;exact hO x ce bb ac a' ab es cc
   |succ n ih=>
    intro s aa a5 bt a1 aG c6 db;simp only[Gd,AA7] at a5;obtain⟨aw,bi,a5⟩:=a5;have c9:=cy s aa;have d9:pcB (D.tab us s) D.pcn=true/\aw=nxt.map (Rf.eval (E s)):=by
     simp only[Aa.step] at bi;cases hb:pcB (D.tab us s) D.pcn with
     |false=>rw[hb] at bi;cases bi
     |true=>
      rw[hb] at bi;simp only[cond_true] at bi;cases bi;exact⟨rfl,f7 s c9⟩
    have em:pcv (E s) o.pc:=MU.1 (by rw[<-el s c9];exact d9.1);have eq:ET (D.step us) H aw:= .succ aa bi;have gl:=cy aw eq;rw[roundsIn_succ];obtain⟨fd,_,dk⟩:=(c5 (E s) (Y s).2.1 ad hl _ di au hr).2 (d2 s) c4;have e1:=ej s c9 (d4 s aa);have ge:pcv (E s) ad:=by
     cases ad with
     |none=>trivial
     |some x=>
      show E s x= .bool true;rw[a4 s x M];exact b1
    refine dk (fun q hq=>e1 q (ABL _ hq)) ge bt a1 aG _ c6 fun x W bb ac a' ab dd cc=>?_;cases b2.mem_iff.1 W with
    |head=>
     rw[f8];show Code.roundsIn (fen r) ao P c Q (n+1) a' ab;have H1:Fc (E s) (E aw) g.n (g.n+A.length) nxt:=fun j aO X=>by
      have cx:j < nxt.length:=(ABD.1 X).1;exact⟨by omega,cv aw j _ gl (by rw[d9.2];simp[X])⟩
     have d8:∀x,x < g.n->E aw x=E s x:=fun x W=>by rw[a4 aw x W,a4 s x W]
     obtain⟨z1,z2,_⟩:=Hd (J:=E aw) ee (fun p M=>by rw[(Y s).2.1];exact c0 p M) ((Y aw).1.trans (Y s).1.symm) ((Y aw).2.1.trans (Y s).2.1.symm) ((Y aw).2.2.trans (Y s).2.2.symm) d8 ba H1
      (fun p M=>e1 ⟨o.pc,p⟩ (ABR _ (ACI.2 ⟨p,M,rfl⟩)) em) cc
     exact ih aw eq a5 ac a' ab z1 (AI.matched z2 d8 (ABB _) (hR.mem.tab (c8 s)) ei (db.trans (hR.mem.tab (c8 s)) ba dd))
    |tail _ ce=>
     exfalso;have gs:=ACK.1 (fd.perm b2).apart;exact gs.1 x ce ⟨em,bb⟩
  have H0:Fc T (E H) g.n (g.n+A.length) A:=fun j aO X=>by
   have cx:j < A.length:=(ABD.1 X).1;exact⟨by omega,cv H j _ c7 (by simp[H,X])⟩
  obtain⟨z1,z2,_⟩:=Hd (J:=E H) b9 c0 (Y H).1 (Y H).2.1 (Y H).2.2 (a4 H) ba H0 (fun p M=>c3 ⟨ad,p⟩ (ABH _ (ABR _ (ACI.2 ⟨p,M,rfl⟩))) b1) hR;exact wpIn_loop_rounds (N+1) (e8 N H .zero hN V a w z1 (AI.matched z2 (a4 H) (ABB _) hR.mem ei (AI.refl _ _ _ _ _)))
 .cases h
end
section
variable {T:Tab}{n aj:Nat}{V :Nat->Option Nat}{m:Mem}{w:World}{a:Act}
theorem Cq.refl (p:n<=aj)(b:Blk):Cq T n aj w b b:=by
 cases b with
 |pad=>exact .pad
 |gone=>exact .gone _
 |cells l e=>exact .cells fun V m W h=>AF.mono0 (AI.refl _ _ _ _ _) p _ _ h
 |tok x ks e=>exact .same _ _ _
 |lp s u=>exact .lp fun V m v h=>h.up0 p
 |mrow x y ks e=>exact .mrow (.inl rfl) rfl rfl (fun _ _ _ h=>h)
 |mapb x ao q aJ aT=>exact .mapb (.inl rfl) rfl (fun _ _ _ h=>h) (fun _ _ _ h=>h)
theorem gK {b:Nat}{W:Array Value}{e:TypeId}{l:Nat × Nat}(h:w.heap[b]? =some (.cells W e l)):w.setRow b W=w:=by
 have p:∀f:Obj->Obj,f (.cells W e l)= .cells W e l->w.heap.modify b f=w.heap:=by
  grind
 unfold World.setRow;rw[p _ rfl]
theorem YM {l ae:Loc}{s:Sl}{e:TypeId}{ks:List Kd}(M:l.tmps.loc=[])(H:T n= .list [])(aa:Ve l s=some (.cv .nilSlice))(p:Hc { l with mem:=l.mem++[.tok n ks e] } l.mem.length n ks s=some ae)(y:Rel T n V l a w):
  ae.tmps.loc=[]/\ae.tmps.n=l.tmps.n/\∃ ac,Rel T (n+1) ac ae a w/\AI T n V l.mem w ac ae.mem w:=by
 have ht:∀id,Cq T n (n+1) w (l.mem.at id) (Mem.at (l.mem++[.tok n ks e]) id):=fun id=>by
  rw[AV];split
  .rename_i he;rw[he,Mem.at_ge (ABB _)];exact .new (ABB _) (Nat.lt_succ_self _) H
  .exact Cq.refl (Nat.le_succ _) _
 have X:=Ft y.mem ht;have E:=Pw y.mem (Nat.le_succ _) ht;have D:Rel T (n+1) (CE l.mem V) ⟨l.tmps,l.mem++[.tok n ks e]⟩ a w:=Rel.on (tmps:=l.tmps) (m:=l.mem) y X (Nat.le_succ _) E;have a1:Mem.at (l.mem++[.tok n ks e]) l.mem.length= .tok n ks e:=by rw[AV,ACE rfl]
 have bo:CE l.mem V l.mem.length=none:=Ik (Mem.at_ge (ABB _));have ba:∀v,v=CV.nilSlice.value->AA T (n+1) (CE l.mem V) (l.mem++[.tok n ks e]) w (.vec l.mem.length n ks) v:=fun v hv=>by
  refine⟨Nat.lt_succ_self _,by rw[a1];exact (fun h=>by cases h),?_,fun af e he=> .inl ⟨bo,none,by rw[H];exact hv⟩⟩;rw[H];exact⟨[],rfl,ABh _,fun _=>rfl,none,0,hv,ABB _,fun h=>absurd h (by simp)⟩
 cases s with
 |tmp t=>
  simp only[Hc] at p;cases p;simp only[Ve] at aa;have b0:AA T n V l.mem w (.cv .nilSlice) (a.tmps.getD t undef):=y.tmps t _ aa;refine⟨by rw[AZ.fix_loc];exact M,AZ.fix_n _ _ _,_,⟨D.defers,?_,fun i c Y=>?_,E⟩,X⟩
  .rw[D.size];exact (AZ.fix_n _ _ _).symm
  .rcases AZ.get_fix l.tmps M t i _ Y with⟨C,O,A⟩|⟨C,O⟩
   .cases A;subst C;exact ba _ b0
   .exact D.tmps i c O
 |cell i off=>
  simp only[Hc] at p;split at p
  .rename_i c e' q;split at p
   .rename_i b1;cases p;have bm:i≠l.mem.length:=fun h=>by rw[h,a1] at q;cases q
    have bi:l.mem.at i= .cells c e':=by rw[AV,ACD bm] at q;exact q
    simp only[Ve,bi] at aa;have hb:=E.blk i;rw[q] at hb;obtain⟨b,W,C,O,A⟩:=hb;obtain⟨u,bt,bx⟩:=A.get aa;have bk:AF T (n+1) (CE l.mem V) (l.mem++[.tok n ks e]) w (c.set off (.vec l.mem.length n ks)) W:=by
     have:=A.set off (ba u bx);have e:W.set off u=W:=by
      obtain⟨bl,hu⟩:=ABD.1 bt;rw[<-hu];exact List.set_getElem_self bl
     grind
    obtain⟨aF,s2⟩:=Of E q C O bk (ABB _);rw[gK O] at aF s2;refine⟨M,rfl,_,Rel.on D aF (ABB _) s2,X.trans y.mem (Nat.le_succ _) aF⟩
   .cases p
  .cases p
 |tok=>cases p
 |st=>cases p
 |row=>cases p
theorem Wo:∀{ps:List (Sl × TypeId × List Kd)} {l ae:Loc} {g aq:G},G6 l g ps=some (ae,aq)->l.tmps.loc=[]->Ac g aq/\(Agr T aq->∀ V a w,Rel T g.n V l a w->ae.tmps.n=l.tmps.n/\∃ ac,Rel T aq.n ac ae a w/\AI T g.n V l.mem w ac ae.mem w)
 |[],l,ae,g,aq,h,_=>by
  simp only[G6] at h;cases h;exact⟨Ac.refl _,fun _ V a w p=>⟨rfl, V,p,AI.refl _ _ _ _ _⟩⟩
 |(s,e,ks)::r,l,ae,g,aq,h,hloc=>by
  simp only[G6] at h;split at h
  .rename_i aa;split at h
   .cases h
   simp only[AA7] at h;obtain⟨X,C,O⟩:=h;have a1:X.tmps.loc=[]:=by
    cases s with
    |tmp t=>simp only[Hc] at C;cases C;rw[AZ.fix_loc];exact hloc
    |cell i off=>
     simp only[Hc] at C;split at C
     .split at C
      .cases C;exact hloc
      .cases C
     .cases C
    |tok=>cases C
    |st=>cases C
    |row=>cases C
   obtain⟨u,k⟩:=Wo O a1;refine⟨(Ac.push _ _).trans u,fun y V a w p=>?_⟩;have Y:T g.n= .list []:=by
    have:=(y.of u).new.head;simpa [Ex.eval,oId,u0,Rf.eval] using this
   obtain⟨_,D, a2,E,H⟩:=YM hloc Y aa C p;have A:(g.pushAll [⟨ "id",oId,[.c (.list [])]⟩]).n=g.n+1:=by rw[Bb];rfl
   obtain⟨M, aV,W,q⟩:=k y a2 a w (by rw[A];exact E);rw[A] at q;exact⟨M.trans D, aV,W,H.trans p.mem (Nat.le_succ _) q⟩
  .cases h
theorem YR:∀{ps:List (Sl × TypeId × List Kd)} {l ae:Loc} {g aq:G},G6 l g ps=some (ae,aq)->ae.tmps.n=l.tmps.n
 |[],l,ae,g,aq,h=>by simp only[G6] at h;cases h;rfl
 |(s,e,ks)::r,l,ae,g,aq,h=>by
  simp only[G6] at h;split at h
  .split at h
   .cases h
   simp only[AA7] at h;obtain⟨X,C,O⟩:=h;rw[YR O];cases s with
   |tmp t=>simp only[Hc] at C;cases C;rw[AZ.fix_n]
   |cell i off=>
    simp only[Hc] at C;split at C
    .split at C
     .cases C;rfl
     .cases C
    .cases C
   |tok=>cases C
   |st=>cases C
   |row=>cases C
  .cases h
end
section
variable {P:Program}{T:Tab}{r:Option Nat}{ao:Nat}
variable{c:Code}{a0:PC->Loc->G->Option (List BC × G)}
theorem tT (bk:∀u:Tab,u.lp=T.lp->Cr u (fun Q a w=>c.wpIn (fen r) ao P Q a w) a0)(p:Dg):
  Cr T (fun Q a w=>(Code.loop c).wpIn (fen r) ao P Q a w) (ko a0 p):=by
 intro ad l g L aq h;unfold ko at h;split at h
 .cases h
 rename_i b0;have a3:l.tmps.loc=[]:=by
  grind
 simp only[ABA,AA7] at h;obtain⟨⟨X,g1⟩,C,O⟩:=h;simp only at O;obtain⟨q,k1⟩:=Wo (T:=T) C a3;obtain⟨y,E⟩:=rG bk (p.full l.mem.length) ad X g1 L aq O;refine⟨q.trans y,fun A hp=>?_⟩;obtain⟨H,q2,q3⟩:=E A (hp.grow q);rw[YR C] at H;refine⟨H,q2,fun a5 bb V a w Q D hO=>?_⟩;obtain⟨_, bx,W,Y⟩:=k1 (A.of y) V a w D;exact q3 a5 bb bx a w Q W fun o ho bi ac M ab bm bl=>hO o ho bi ac M ab (Y.trans D.mem q.n bm) bl
theorem sQ (u:∀q:Tab,q.lp=T.lp->Cr q (fun Q a w=>c.wpIn (fen r) ao P Q a w) a0)(p:Dg):
  Cr T (fun Q a w=>(Code.loop c).wpIn (fen r) ao P Q a w) (pk a0 p):=by
 intro ad l g L aq h;exact tT u _ ad l g L aq h
end
section
variable {T:Tab}{n aj:Nat}{V :Nat->Option Nat}{m:Mem}{w:World}{a:Act}
theorem JH {l:BC->G->Option (AC × Mem)}:∀{L:List BC} {g aq:G} {c:AC} {ag:Mem},Cv l L g=some (c,ag,aq)->Ac g aq
 |[],g,aq,c,ag,h=>by simp only[Cv] at h;cases h
 |[o],g,aq,c,ag,h=>by
  simp only[Cv,ABA,AA7] at h;obtain⟨⟨aN,aP⟩,_,h⟩:=h;cases h;exact Ac.refl _
 |o::o2::os,g,aq,c,ag,h=>by
  simp only[Cv,ABA,AA7] at h;obtain⟨⟨p,al,q⟩,C,⟨aN,aP⟩,_,h⟩:=h;cases h;exact (JH (L:=o2::os) C).trans (Ac.push _ _)
theorem QU {bb:BC->G->Option (AC × Mem)}{I:(Nat->Option Nat)->Prop}{E:XK->Act->World->Value->World->Prop}{N:Nat}
  (W:∀o g c m,bb o g=some (c,m)->Agr T g->∀ V a w,I V ->Rel T g.n V o.l a w->∃v ab ac,E o.k a w v ab/\AI T g.n V o.l.mem w ac m ab/\AH T g.n ac m ab/\AA T g.n ac m ab c v):
  ∀{L:List BC} {g aq:G} {c:AC} {ag:Mem},Cv bb L g=some (c,ag,aq)->Agr T aq->EC T g N L->
  ∀o∈L,pcv T o.pc->∀ V a w,I V ->Rel T g.n V o.l a w->∃v ab ac,E o.k a w v ab/\AI T g.n V o.l.mem w ac ag ab/\AH T aq.n ac ag ab/\AA T aq.n ac ag ab c v
 |[],g,aq,c,ag,h=>by simp only[Cv] at h;cases h
 |[o],g,aq,c,ag,h=>by
  simp only[Cv,ABA,AA7] at h;obtain⟨⟨aN,aP⟩,O,h⟩:=h;cases h;intro u _ Y p A V a w y q;simp at p;subst p;exact W _ _ _ _ O u V a w y q
 |o::o2::os,g,aq,c,ag,h=>by
  simp only[Cv,ABA,AA7] at h;obtain⟨⟨D,al,l⟩,C,⟨aN,aP⟩,O,h⟩:=h;simp only[ABu,Prod.mk.injEq] at h;obtain⟨e1,e2,e3⟩:=h;subst e1;subst e2;subst e3;have H:=JH (L:=o2::os) C;intro u hg Y p A V a w y q;have bi:Agr T l:=u.of (Ac.push _ _);have pw:=ACK.1 hg.apart;have bm:=u.new;have X:=Bb l ((Bf (FO o.pc) l.n aP al).2++(Gk (l.n+(Bf (FO o.pc) l.n aP al).2.length) (FO o.pc) aN D).2);rw[ABM] at X;cases p with
  |head=>
   have M:((FO o.pc).eval T).toB=true:=(ML o.pc).2 A;have bk:=q.up H.n;obtain⟨v,ab, b2,q1,q2,q3,q4⟩:=W _ _ _ _ O bi V a w y bk;obtain⟨ac,aF,s2,s3⟩:=N0 (n:=l.n) (b:=true) (az:=aP) (al:=al) (c:=aN) (d:=D) (v:=v) M q3 (ABB _) bm (Nat.le_of_eq X.symm) q4;exact⟨v,ab, ac,q1,(q2.trans bk.mem (ABB _) aF).down H.n,s2,s3⟩
  |tail _ p=>
   have M:((FO o.pc).eval T).toB=false:=by
    cases hq:((FO o.pc).eval T).toB with
    |false=>rfl
    |true=>exact absurd ⟨(ML o.pc).1 hq,A⟩ (pw.1 Y p)
   obtain⟨v,ab, b2,q1,q2,q3,q4⟩:=QU W (L:=o2::os) C bi ⟨fun x hx=>hg.each x (ABH _ hx),pw.2⟩ Y p A V a w y q;obtain⟨ac,aF,s2,s3⟩:=N0 (n:=l.n) (b:=false) (az:=aP) (al:=al) (c:=aN) (d:=D) (v:=v) M q3 (ABB _) bm (Nat.le_of_eq X.symm) q4;exact⟨v,ab, ac,q1,q2.trans q.mem H.n aF,s2,s3⟩
end
section
variable {P:Program}
def Tab.atBase (T:Tab)(B:Nat):Tab:={ T with base:=B }
theorem Kk (T:Tab)(B n:Nat):Cg T (T.atBase B) n:=⟨fun _ _=>rfl,rfl,rfl⟩
theorem rk (T:Tab)(B:Nat)(e:Ex):e.eval (T.atBase B)=e.eval T:=by
 unfold Ex.eval;rw[G1 (aA:=T.atBase B) (J:=T) e.args (fun _ _=>rfl)]
variable{T:Tab}{g:G}
theorem QH {B:Nat}(h:Agr T g):Agr (T.atBase B) g:=⟨fun p l=>by rw[rk];exact h.eqs p l,h.lps⟩
theorem Pk {B:Nat}{ad:PC}:pcv (T.atBase B) ad↔pcv T ad:=by cases ad<;>exact Iff.rfl
theorem Yg {B:Nat}{p:Pr}:p.holds (T.atBase B)↔p.holds T:=by
 unfold Pr.holds;rw[G1 (aA:=T.atBase B) (J:=T) p.args (fun _ _=>rfl)]
theorem WL {B:Nat}(h:Ar T g):Ar (T.atBase B) g:=fun o l p=>Yg.2 (h o l (Pk.1 p))
def pend:XK->Option Code
 | .normal=>none
 | .exit id=>some (.exit id)
 | .ret=>some .ret
end
section
variable {P:Program}{T:Tab}{call:A7}{ap:Ys}{r:Option Nat}{ao:Nat}
abbrev WK (P:Program)(T:Tab)(r:Option Nat)(ao:Nat)(c:Code)(run:PC->Loc->G->Option (List BC × G)):Prop:=Cr T (fun Q a w=>c.wpIn (fen r) ao P Q a w) run
def Rz (P:Program)(r:Option Nat)(ao:Nat)(a8:Bool)(aM:Nat)(c:Code)(Q:Exit->Act->World->Prop)(a:Act)(w:World):Prop:=
 match c,a8 with
 | .loop b,false=>Code.roundsIn (fen r) ao P b Q aM a w
 |c,_=>c.wpIn (fen r) ao P Q a w
variable{a8:Bool}{aM id:Nat}{c:Code}{Q:Exit->Act->World->Prop}{a:Act}{w:World}{ad:PC}{k:XK}{K:(Exit->Act->World->Prop)->Act->World->Prop}
theorem TA (h:Rz P r ao a8 aM c Q a w):c.wpIn (fen r) ao P Q a w:=by
 cases c<;>cases a8<;>first|exact h|exact wpIn_loop_rounds aM h
theorem je (l:∀b,c= .loop b->a8=true)(h:c.wpIn (fen r) ao P Q a w):Rz P r ao a8 aM c Q a w:=by
 cases c<;>cases a8<;>first|exact h|(have:=l _ rfl;cases this)
theorem xm {Z:Array Oper}{s aw:RS}{o:Oper}(h:Bh P call ap Z ad s o=some aw):aw.tmps.n=s.tmps.n:=Yq h
theorem eK {Z:Array Oper}{ad:PC}:∀{l:List Oper} {s aw:RS},DO P call ap Z ad l s=some aw->aw.tmps.n=s.tmps.n
 |[],s,aw,h=>by simp only[DO] at h;cases h;rfl
 |o::l,s,aw,h=>by
  simp only[DO,ABA,AA7] at h;obtain⟨aF,C,O⟩:=h;rw[eK O,xm C]
theorem EC.one {g:G}{l:Loc}{N:Nat}(u:C4 g ad)(q:l.tmps.n=N):EC T g N [⟨k,ad,l⟩]/\∀o∈([⟨k,ad,l⟩]:List BC),pcv T o.pc->pcv T ad:=by
 refine⟨⟨fun o p=>?_,by simp⟩,fun o p h=>?_⟩
 .grind
 .grind
theorem V8 (k:XK)(p:∀Q a w,Q k.ex a w->K Q a w):Cr T K (fun ad l g=>some ([⟨k,ad,l⟩],g)):=by
 intro ad l g L aq h;cases h;refine⟨Ac.refl _,fun D y=>?_⟩;obtain⟨C,O⟩:=EC.one (T:=T) (k:=k) (l:=l) y rfl;exact⟨C,O,fun _ A V a w Q u q=>p Q a w (q _ (ABi.2 rfl) A V a w (AI.refl _ _ _ _ _) u)⟩
theorem Wm (h:k≠ .exit id)(l:Q k.ex a w):Exit.inBlock id Q k.ex a w:=by
 cases k with
 |normal=>exact l
 |ret=>exact l
 |exit p=>
  simp only[XK.ex,Exit.inBlock];rw[ACD (fun e=>h (by rw[e]))];exact l
theorem rX {run:PC->Loc->G->Option (List BC × G)}(p:Cr T K run):
  Cr T (fun Q=>K (Exit.inBlock id Q)) (fun ad l g=>do
   let (L,g) <-run ad l g
   match H6 (.exit id) L with
   |none=>some (L,g)
   |some (e,W)=>if noK (.exit id) W then some (E0 none none [⟨.normal,e.pc,e.l⟩] W g) else none):=by
 intro ad l g b9 aq h;simp only[ABA,AA7] at h;obtain⟨⟨L,g1⟩,b5,h⟩:=h;obtain⟨X,k1⟩:=p ad l g L g1 b5;simp only at h;split at h
 .rename_i a3;cases h;refine⟨X,fun D A=>?_⟩;obtain⟨q1,q2,q3⟩:=k1 D A;refine⟨q1,q2,fun M a2 V a w Q H hO=>q3 M a2 V a w _ H fun o M A ac C ab aa p=>?_⟩;exact Wm (Rm a3 o M) (hO o M A ac C ab aa p)
 .rename_i e W a3;split at h
  .rename_i b3;simp only[ABu] at h;obtain⟨b1,bm⟩:=LX a3;obtain⟨Y,E⟩:=JI (T:=T) (N:=l.tmps.n) h;refine⟨X.trans Y,fun D A=>?_⟩;obtain⟨q1,q2,q3⟩:=k1 (D.of Y) A;have bb:=q1.perm bm;have he:=bb.each e (ABK ..);have pw:=ACK.1 bb.apart;have b2:EC T g1 l.tmps.n ([⟨.normal,e.pc,e.l⟩]++W):=by
    refine⟨fun x u=>?_,ACK.2 ⟨fun y hy hc=>pw.1 y hy hc,pw.2⟩⟩;cases u with
    |head=>exact he
    |tail _ u=>exact bb.each x (ABH _ u)
   obtain⟨t1,t2,t3⟩:=E D b2 (fun q hq=>by cases hq) (fun q hq=>by cases hq);refine⟨t1,fun x u a4=>?_,fun b4 a2 V a w Q H hO=>?_⟩
   .grind
   .have bl:=t3 g.n V l.mem w Q X.n H.mem hO;refine q3 (b4.of Y) a2 V a w _ H fun x u a4 ac C ab aa p=>?_;have O:=bm.mem_iff.1 u;cases O with
    |head=>
     rw[b1];simp only[XK.ex,Exit.inBlock,if_true];exact bl ⟨.normal,e.pc,e.l⟩ (ABK ..) a4 ac C ab aa p
    |tail _ O=>exact Wm (bW b3 x O) (bl x (ABH _ O) a4 ac C ab aa p)
  .cases h
end
def Tab.wf (T:Tab)(F:Nat->Nat->Prop):Tab:={ T with fr:=F }
structure Chg (T:Tab) (F F':Nat->Nat->Prop) (ρ ρ':Nat->Option Nat) (m m':Mem) (w:World):Prop where
 same:∀id,m.at id≠ .pad->m'.at id=m.at id/\ ρ' id= ρ id
 safe:∀b off,Ag (T.wf F) ρ m w b off->Ag (T.wf F') ρ' m' w b off
section
variable {T:Tab}{F a6:Nat->Nat->Prop}{n:Nat}{V ac:Nat->Option Nat}{m ag:Mem}{w:World}
mutual
theorem AA.chg (h:Chg T F a6 V ac m ag w):∀(c:AC) (v:Value),AA (T.wf F) n V m w c v->AA (T.wf a6) n ac ag w c v
 | .any,_,_=>trivial
 | .anyc,_,hh=>hh
 | .on _ a,v,hh=>⟨hh.1,fun C=>AA.chg h a v (hh.2 C)⟩
 | .gd _ a,v,hh=>⟨hh.1,fun C=>AA.chg h a v (hh.2.1 C),hh.2.2⟩
 | .cb _,_,hh=>hh
 | .b _,_,hh=>hh
 | .nb _,_,hh=>hh
 | .ci _ _,_,hh=>hh
 | .i _ _ _ _,_,hh=>hh
 | .cv _,_,hh=>hh
 | .v _,_,hh=>hh
 | .s _,_,hh=>hh
 | .ptr id off,v,⟨b,C,O,h3⟩=>⟨b,by rw[(h.same id (BM h3)).2];exact C,O,by rw[(h.same id (BM h3)).1];exact h3⟩
 | .pix id base B aE x an,v,⟨h0,b,j,C,O,h5,h6,h7,h3⟩=>⟨h0,b,j,by rw[(h.same id (BM h3)).2];exact C,O,h5,h6,h7,by rw[(h.same id (BM h3)).1];exact h3⟩
 | .ro x ks,v,⟨h0,O⟩=>⟨h0,AX.mono (fun b off aa=>⟨h.safe b off aa,rfl⟩) _ _ v O⟩
 | .rp x t off ks,v,⟨h0,j,b,o,us,O,h3,h4,h5,h6⟩=>⟨h0,j,b,o,us,O,h3,h4,h5,Al.mono (fun b off aa=>⟨h.safe b off aa,rfl⟩) _ _ _ _ h6⟩
 | .vec id x ks,v,⟨h0,hp,O,h3⟩=>⟨h0,by rw[(h.same id hp).1];exact hp,AX.mono (fun b off aa=>⟨h.safe b off aa,rfl⟩) _ _ v O,fun af e p=>by
   rw[(h.same id hp).1] at p;rcases h3 af e p with⟨X,ah⟩|⟨b,I,W,X,ah,q,u⟩
   .exact .inl ⟨by rw[(h.same id hp).2];exact X,ah⟩
   .exact .inr ⟨b,I,W,by rw[(h.same id hp).2];exact X,ah,q,u⟩⟩
 | .fn f first I,v,⟨W,us,C,O,h3⟩=>⟨W,us,C,AF.chg h first W O,AF.chg h I us h3⟩
 | .sel x alts,v,⟨h0,j,C,O,h3⟩=>⟨h0,j,C,O,Av.chg h alts j.toNat v h3⟩
 | .yl id,v,⟨b,C,O,h3⟩=>⟨b,by rw[(h.same id (BM h3)).2];exact C,O,by rw[(h.same id (BM h3)).1];exact h3⟩
 | .asl id off len,v,⟨b,C,O,h3⟩=>⟨b,by rw[(h.same id (BM h3)).2];exact C,O,by rw[(h.same id (BM h3)).1];exact h3⟩
 | .rsv id x ks,v,⟨h0,hp,O,h4,h3⟩=>⟨h0,by rw[(h.same id hp).1];exact hp,O,h4,fun af e p=>by
   rw[(h.same id hp).1] at p;rcases h3 af e p with⟨X,ah⟩|⟨b,len,I,W,X,ah,A,q,u⟩
   .exact .inl ⟨by rw[(h.same id hp).2];exact X,ah⟩
   .exact .inr ⟨b,len,I,W,by rw[(h.same id hp).2];exact X,ah,A,q,u⟩⟩
 | .mr id y,v,⟨⟨C,hp⟩,j,a,I,k1,E,k3,k4,k5⟩=>⟨⟨C,by rw[(h.same id hp).1];exact hp⟩,j,a,I,k1,E,k3,k4,fun x ks e p=>by
   rw[(h.same id hp).1] at p;rcases k5 x ks e p with⟨X,ah⟩|⟨b,W,X,ah,q,u⟩
   .exact .inl ⟨by rw[(h.same id hp).2];exact X,ah⟩
   .exact .inr ⟨b,W,by rw[(h.same id hp).2];exact X,ah,q,u⟩⟩
 | .mp id y t sz off,v,⟨⟨C,h1',hp⟩,j,L,b,k1,E,k3,k4,k5⟩=>⟨⟨C,h1',by rw[(h.same id hp).1];exact hp⟩,j,L,b,k1,E,k3,k4,fun x ks e p=>by
   rw[(h.same id hp).1] at p;rw[(h.same id hp).2];exact k5 x ks e p⟩
 | .mv id,v,⟨b,C,O,h3⟩=>⟨b,by rw[(h.same id (BM h3)).2];exact C,O,by rw[(h.same id (BM h3)).1];exact h3⟩
 | .agg l,v,⟨W,C,O⟩=>⟨W,C,AF.chg h l W O⟩
 | .tup l,v,⟨W,C,O⟩=>⟨W,C,AF.chg h l W O⟩
theorem AF.chg (h:Chg T F a6 V ac m ag w):∀(l:List AC) (W:List Value),AF (T.wf F) n V m w l W->AF (T.wf a6) n ac ag w l W
 |[],_,hh=>hh
 |c::l,_,⟨u,us,C,O,h3⟩=>⟨u,us,C,AA.chg h c u O,AF.chg h l us h3⟩
theorem Av.chg (h:Chg T F a6 V ac m ag w):∀(l:List AC) (j:Nat) (v:Value),Av (T.wf F) n V m w l j v->Av (T.wf a6) n ac ag w l j v
 |[],_,_,hh=>hh
 |c::_,0,v,hh=>AA.chg h c v hh
 |_::l,j+1,v,hh=>Av.chg h l j v hh
end
variable{id k b:Nat}{ab:World}
theorem BS.chg (h:Chg T F a6 V ac m ag w)(hp:m.at id≠ .pad)(hk:∀b,(m.at id).tracked=true-> V id=some b->(∀off,F b off)->∀off,a6 b off)(u:BS (T.wf F) n V m w id (m.at id)):BS (T.wf a6) n ac ag w id (ag.at id):=by
 rw[(h.same id hp).1];have E:=(h.same id hp).2;cases H:m.at id with
 |pad=>trivial
 |gone=>trivial
 |cells l e=>
  rw[H] at u;obtain⟨b,W,C,O,p⟩:=u;exact⟨b,W,by rw[E];exact C,O,AF.chg h l W p⟩
 |tok x ks e=>
  rw[H] at u;obtain⟨M,l,C,O⟩:=u;refine⟨M,l,C,?_⟩;rcases O with O|⟨b,W,O,p,A,D⟩
  .exact .inl (by rw[E];exact O)
  .exact .inr ⟨b,W,by rw[E];exact O,p,A,hk b (by rw[H];rfl) O D⟩
 |mrow x y ks e=>
  rw[H] at u;obtain⟨M,l,C,a3,a5,O⟩:=u;refine⟨M,l,C,a3,a5,?_⟩;rcases O with⟨O,p⟩|⟨b,W,us,O,p,A,D⟩
  .exact .inl ⟨by rw[E];exact O,p⟩
  .exact .inr ⟨b,W,us,by rw[E];exact O,p,Ah.mono (fun b off aa=>⟨h.safe b off aa,rfl⟩) A,hk b (by rw[H];rfl) O D⟩
 |mapb x ao ka aJ aT=>
  rw[H] at u;obtain⟨M,l,b,ar,a4,C,O,p,A,D,X,Y⟩:=u;refine⟨M,l,b,ar,a4,C,by rw[E];exact O,p,A,D,fun i us e hl he=>?_,Y⟩;obtain⟨u1,u2,q1,q2,q3⟩:=X i us e hl he;exact⟨u1,u2,q1,CJ.mono (fun b off aa=>⟨h.safe b off aa,rfl⟩) q2,CJ.mono (fun b off aa=>⟨h.safe b off aa,rfl⟩) q3⟩
 |lp x st=>
  rw[H] at u;obtain⟨b,q,C,O,p,A,D,X,Y,j,h8,h9⟩:=u;exact⟨b,q,by rw[E];exact C,O,p,A,D,X,fun i c hc=>AA.chg h c _ (Y i c hc),j,AA.chg h st _ h8,h9⟩
theorem AH.wf (l:AH (T.wf F) n V m w)(h:Chg T F a6 V V m m w)(q:∀b off,w.heap.size<=b->a6 b off)(u:∀id b,(m.at id).tracked=true-> V id=some b->(∀off,F b off)->∀off,a6 b off):AH (T.wf a6) n V m w:=by
 refine⟨fun id=>?_,l.inj,q⟩;by_cases p:m.at id= .pad
 .rw[p];trivial
 .exact BS.chg h p (u id) (l.blk id)
theorem AH.more (y:AH (T.wf F) n V m w)(h:Chg T F a6 V ac m ag w)(ba:m.at k= .pad)(A:∀id,m.at id= .pad->id≠k->ag.at id= .pad)(hb: ac k=some b)(a5:∀id,(m.at id).tracked=true-> V id≠some b)
  (Y:BS (T.wf a6) n ac ag w k (ag.at k)) (X:∀b off,w.heap.size<=b->a6 b off) (hk:∀id b,(m.at id).tracked=true-> V id=some b->(∀off,F b off)->∀off,a6 b off):AH (T.wf a6) n ac ag w:=by
 have E:∀id,(ag.at id).tracked=true->id=k\/((m.at id).tracked=true/\ ac id= V id):=fun id D=>by
  by_cases e:id=k
  .exact .inl e
  .by_cases l:m.at id= .pad
   .rw[A id l e] at D;cases D
   .obtain⟨C,O⟩:=h.same id l;grind
 refine⟨fun id=>?_,fun id H M t1 t2 q u=>?_,X⟩
 .by_cases e:id=k
  .rw[e];exact Y
  .by_cases l:m.at id= .pad
   .rw[A id l e];trivial
   .exact BS.chg h l (hk id) (y.blk id)
 .rcases E id t1 with C|⟨C,O⟩<;>rcases E H t2 with p|⟨p,W⟩
  .rw[C,p]
  .grind
  .grind
  .rw[O] at q;rw[W] at u;exact y.inj id H M C p q u
theorem AI.wf (h:AI (T.wf F) n V m w ac ag ab):AI (T.wf a6) n V m w ac ag ab:=⟨h.os,h.tape,h.output,h.size,h.mlen,h.rho,h.untr,h.fresh,h.old,h.tok,h.row⟩
theorem AI.more {n0:Nat}{a3:Nat->Option Nat}{aP:Mem}{aH:World}(s:AI T n0 a3 aP aH V m w)(aa:∀id,m.at id≠ .pad->ag.at id=m.at id/\ ac id= V id)(bb:m.at k= .pad)(a1:∀id,m.at id= .pad->id≠k->ag.at id= .pad)(ba:(ag.at k).ptrOk=true)(hb: ac k=some b)(hw:aH.heap.size<=b):AI T n0 a3 aP aH ac ag w:=by
 have D:∀id,aP.at id≠ .pad->m.at id≠ .pad:=s.mlen;refine⟨s.os,s.tape,s.output,s.size,fun id l=>?_,fun id l=>?_,fun id l p=>?_,fun id X l p e=>?_,s.old,fun id x ks e q=>?_,fun id x y ks e q=>?_⟩
 .grind
 .have C:=s.rho id l;obtain⟨O,A⟩:=aa id (BM C.2);grind
 .rw[(aa id (D id l)).1] at p;exact s.untr id l p
 .by_cases Y:id=k
  .grind
  .by_cases M:m.at id= .pad
   .rw[a1 id M Y] at p;cases p
   .obtain⟨O,A⟩:=aa id M;rw[O] at p;rw[A] at e;exact s.fresh id X l p e
 .have l:aP.at id≠ .pad:=by rw[q];exact fun h=>by cases h
  obtain⟨O,A⟩:=aa id (D id l);rw[O];rcases s.tok id x ks e q with⟨u,E,H⟩|⟨u,E⟩
  .grind
  .grind
 .have l:aP.at id≠ .pad:=by rw[q];exact fun h=>by cases h
  obtain⟨O,A⟩:=aa id (D id l);rw[O];rcases s.row id x y ks e q with u|⟨L,aF,af,u,E,⟨H,W,a5⟩|⟨H,W⟩⟩
  .exact .inl u
  .grind
  .grind
theorem BS.step0 (h:AI T n V m w V m ab)(A:∀b,(m.at id).tracked=true-> V id=some b->ab.heap[b]? =w.heap[b]?)(u:BS T n V m w id (m.at id)):BS T n V m ab id (m.at id):=by
 cases M:m.at id with
 |pad=>trivial
 |gone=>trivial
 |cells l e=>
  rw[M] at u A;obtain⟨b,W,C,O,p⟩:=u;exact⟨b,W,C,by rw[A b rfl C];exact O,AF.mono0 h (ABB _) l W p⟩
 |lp x st=>
  rw[M] at u A;obtain⟨b,q,C,O,p,D,E,h9,X,j,Y,h8⟩:=u;exact⟨b,q,C,by rw[A b rfl C];exact O,p,D,E,h9,fun i c hc=>AA.mono0 h (ABB _) _ _ (X i c hc),j,AA.mono0 h (ABB _) _ _ Y,h8⟩
 |tok x ks e=>
  rw[M] at u A;obtain⟨H,r,C,O⟩:=u;refine⟨H,r,C,?_⟩;rcases O with O|⟨b,W,O,p,D,E⟩
  .exact .inl O
  .exact .inr ⟨b,W,O,by rw[A b rfl O];exact p,D,E⟩
 |mrow x y ks e=>
  rw[M] at u A;obtain⟨H,r,C,a1,a2,O⟩:=u;refine⟨H,r,C,a1,a2,?_⟩;rcases O with⟨O,p⟩|⟨b,W,us,O,p,D,E⟩
  .exact .inl ⟨O,p⟩
  .exact .inr ⟨b,W,us,O,by rw[A b rfl O];exact p,Ah.mono (fun _ _ aa=>h.safe0 aa) D,E⟩
 |mapb x ao ka aJ aT=>
  rw[M] at u A;obtain⟨H,l,b,ar,a4,C,O,p,D,E,X,Y⟩:=u;refine⟨H,l,b,ar,a4,C,O,by rw[A b rfl O];exact p,D,E,fun i us e hl he=>?_,Y⟩;obtain⟨u1,u2,q1,q2,q3⟩:=X i us e hl he;exact⟨u1,u2,q1,CJ.mono (fun _ _ aa=>h.safe0 aa) q2,CJ.mono (fun _ _ aa=>h.safe0 aa) q3⟩
theorem RJ (p:AH T n V m w)(o:Obj)(aj:Nat):AI T aj V m w V m (w.alloc o):=
 ⟨rfl,rfl,rfl,by simp,fun _ h=>h,fun _ h=>⟨rfl,h⟩,fun _ _ h=>h,fun id b h q _=>(by rw[h] at q;cases q),fun k u _=>BJ w o k u,
  fun id y ks e h=> .inl ⟨h,rfl,fun b l=>BJ w o b (p.lt (by rw[h];rfl) l)⟩,
  fun id x y ks e h=> .inr ⟨x,y,ks,h,rfl,.inl ⟨rfl,rfl,fun b W l A=>⟨W,by rw[BJ w o b (p.lt (by rw[h];rfl) l)];exact A,rfl⟩⟩⟩⟩
theorem sW (l:AH (T.wf F) n V m w)(o:Obj)(h:Chg T F a6 V V m m w)(u:∀b off,w.heap.size < b->a6 b off)(y:∀id b,(m.at id).tracked=true-> V id=some b->(∀off,F b off)->∀off,a6 b off):AH (T.wf a6) n V m (w.alloc o):=by
 have C:AI (T.wf a6) n V m w V m (w.alloc o):=(RJ l o n).wf;refine⟨fun id=>?_,l.inj,fun b off p=>u b off (by simp at p;omega)⟩;by_cases q:m.at id= .pad
 .rw[q];trivial
 .exact BS.step0 C (fun b A p=>BJ w o b (l.lt A p)) (BS.chg h q (y id) (l.blk id))
theorem sc {P:Program}{t:TypeId}{a:Act}{o:Oper}{l:List AC}(h:I8 P t []=some (Sa l t []))(u:o.op= .alloc t):
  ∃W:List Value,(∀w:World,(execOp a.eval o).run P w= .ok (.value (.pointer (some ⟨w.heap.size,0,none⟩))) (w.alloc (.cells W.toArray t)))/\∀(T:Tab) (n:Nat) (V :Nat->Option Nat) (m:Mem) (w:World),AF T n V m w l W:=by
 unfold I8 at h;simp only[ABA,AA7] at h;obtain⟨i,Y,z,y,ae,q,h⟩:=h;have p:ae=l:=by
  simp only[Sa,ABu,R.mk.injEq,ACC,List.cons.injEq,Blk.cells.injEq] at h;exact h.2.1.1.1
 subst p;have A:∀(T:Tab) (n:Nat) (V :Nat->Option Nat) (m:Mem) (w:World),∃W,z.cells=(W:List Value).toArray/\AF T n V m w ae W:=fun T n V m w=>by
  obtain⟨W,C,O,_,_⟩:=DK q (MM (T:=T) (n:=n) (V := V) (m:=m) (w:=w) z);exact⟨W,C,O⟩
 refine⟨z.cells.toList,fun w=>?_,fun T n V m w=>?_⟩
 .simp[execOp,u,Instr.alloc,IG Y y,Qc]
 .obtain⟨W,C,O⟩:=A T n V m w;rw[C];exact O
end
section
variable {P:Program}{T:Tab}{call:A7}{ap:Ys}{r:Option Nat}{ao:Nat}{Z:Array Oper}{ad:PC}
theorem DZ {a b:Nat}(h:Nat.blt a b=true):a < b:=ABX h
theorem Y6 {b:Bool}{q:List Nat}{R i k:Nat}:∀{l:List Nat} {U:Nat},VQ b q R i k U l=true->∀j c,l[j]? =some c->U+j < i->(k=3->R.testBit (U+j)=true\/c=0)/\(k=2->R.testBit (U+j)=true\/c<=2\/b=true/\c<=3)
 |[],_,_,j,c,hj,_=>by simp at hj
 |aN::l,U,h,j,c,hj,hlt=>by
  simp only[VQ,AA8] at h;cases j with
  |zero=>
   simp at hj;subst hj;have C:=h.1;have u:Nat.ble i U=false:=by
    cases y:Nat.ble i U with
    |false=>rfl
    |true=>have:=ABX y;omega
   simp only[u,Bool.false_or,Nat.add_zero] at C⊢;refine⟨fun p=>?_,fun p=>?_⟩
   .subst p;simp only[show Nat.beq 3 3=true from rfl,if_true,ABe] at C;exact C.imp (fun h=>h) fun h=>AA9 h
   .subst p;simp only[show Nat.beq 2 3=false from rfl,show Nat.beq 2 2=true from rfl,ABe] at C;rcases (show R.testBit U=true\/Nat.ble aN (bif b then 3 else 2)=true by simpa using C) with h|h
    .exact .inl h
    .cases b with
     |false=>exact .inr (.inl (ABX h))
     |true=>exact .inr (.inr ⟨rfl,ABX h⟩)
  |succ j=>
   have:=Y6 h.2 j c (by simpa using hj) (by omega);rw[show U+1+j=U+(j+1) by omega] at this;exact this
theorem fP {b:Bool}{p:List Nat}:∀{l ks:List Nat} {y:Nat},aJ b p y l ks=true->∀i R k,l[i]? =some R->ks[i]? =some k->∀j c,p[j]? =some c->j < y+i->(k=3->R.testBit j=true\/c=0)/\(k=2->R.testBit j=true\/c<=2\/b=true/\c<=3)
 |[],_,_,_,i,R,k,h,_,_,_,_,_=>by simp at h
 |_::_,[],_,_,i,R,k,_,h,_,_,_,_=>by simp at h
 |R0::l,k0::ks,y,h,i,R,k,C,O,j,c,hj,hlt=>by
  simp only[aJ,AA8] at h;cases i with
  |zero=>
   simp at C O;subst C;subst O;have:=Y6 h.1 j c hj (by omega);rw[ABJ] at this;exact this
  |succ i=>exact fP h.2 i R k (by simpa using C) (by simpa using O) j c hj (by omega)
theorem dF {R:Nat}:∀{n aP:Nat} {l:List Nat},WM R n aP l=true->∀m c,l[m]? =some c->m < n->R.testBit (aP+m)=true\/c=0
 |0,_,_,_,m,c,_,h=>by omega
 |n+1,_,[],_,m,c,h,_=>by simp at h
 |n+1,aP,aN::l,h,m,c,hm,hlt=>by
  simp only[WM,AA8,ABe] at h;cases m with
  |zero=>
   simp at hm;subst hm;exact h.1.imp (fun h=>h) fun h=>AA9 h
  |succ m=>
   have:=dF h.2 m c (by simpa using hm) (by omega);rw[show aP+1+m=aP+(m+1) by omega] at this;exact this
theorem Re:∀{l:List Nat} {U j:Nat},l[j]? =some 4->U+j∈Mi U l
 |[],_,j,h=>by simp at h
 |c::l,U,j,h=>by
  cases j with
  |zero=>
   simp at h;subst h;exact ABK
  |succ j=>
   have:=Re (l:=l) (U:=U+1) (j:=j) (by simpa using h);rw[show U+1+j=U+(j+1) by omega] at this;unfold Mi;cases Nat.beq c 4 with
   |true=>exact ABH _ this
   |false=>exact this
theorem da {u q:List Nat}:∀{p ks:List Nat} {y:Nat},wides u q y p ks=true->∀i R k,p[i]? =some R->ks[i]? =some k->k≠0->k≠4->∀j∈q,j < y+i->R.testBit j=true->WM R j 0 u=true
 |[],_,_,_,i,R,k,h,_,_,_,_,_,_,_=>by simp at h
 |_::_,[],_,_,i,R,k,_,h,_,_,_,_,_,_=>by simp at h
 |R0::p,k0::ks,y,h,i,R,k,C,O,n0,n4,j,hj,hlt,hb=>by
  simp only[wides,AA8] at h;cases i with
  |zero=>
   simp at C O;subst C;subst O;have A:=h.1;have E:Nat.beq k0 0=false:=by
    cases l:Nat.beq k0 0 with
    |false=>rfl
    |true=>exact absurd (AA9 l) n0
   have H:Nat.beq k0 4=false:=by
    cases l:Nat.beq k0 4 with
    |false=>rfl
    |true=>exact absurd (AA9 l) n4
   rw[E,H,Bool.false_or,Bool.false_or] at A;have D:=ABb.1 A j hj;have M:Nat.ble y j=false:=by
    cases l:Nat.ble y j with
    |false=>rfl
    |true=>have:=ABX l;omega
   rw[M,hb] at D;simpa using D
  |succ i=>exact da h.2 i R k (by simpa using C) (by simpa using O) n0 n4 j hj (by omega) hb
mutual
theorem AC.nlt_ok {n aj:Nat}{V :Nat->Option Nat}{m:Mem}{w:World}:∀(c:AC) (z:Value),AC.nlt n c=true->AA T aj V m w c z->AA T n V m w c z
 | .any,_,_,_=>trivial
 | .anyc,_,_,h=>h
 | .on _ a,z,hc,h=>by
  simp only[AC.nlt,AA8] at hc;exact⟨DZ hc.1,fun C=>AC.nlt_ok a z hc.2 (h.2 C)⟩
 | .gd _ a,z,hc,h=>by
  simp only[AC.nlt,AA8] at hc;exact⟨DZ hc.1,fun C=>AC.nlt_ok a z hc.2 (h.2.1 C),h.2.2⟩
 | .cb _,_,_,h=>h
 | .b _,_,hc,h=>⟨DZ hc,h.2⟩
 | .nb _,_,hc,h=>⟨DZ hc,h.2⟩
 | .ci _ _,_,_,h=>h
 | .i _ _ _ _,_,hc,h=>⟨DZ hc,h.2⟩
 | .cv _,_,_,h=>h
 | .v _,_,hc,h=>⟨DZ hc,h.2⟩
 | .s _,_,hc,h=>⟨DZ hc,h.2⟩
 | .ptr _ _,_,_,h=>h
 | .pix _ _ _ _ _ _,_,hc,h=>⟨DZ hc,h.2⟩
 | .ro _ _,_,hc,h=>⟨DZ hc,h.2⟩
 | .rp _ _ _ _,_,hc,h=>by
  simp only[AC.nlt,AA8] at hc;exact⟨⟨DZ hc.1,DZ hc.2⟩,h.2⟩
 | .vec _ _ _,_,hc,h=>⟨DZ hc,h.2⟩
 | .fn _ f c,_,hc,⟨W,us,e,C,O⟩=>by
  simp only[AC.nlt,AA8] at hc;exact⟨W,us,e,AC.nltL_ok f W hc.1 C,AC.nltL_ok c us hc.2 O⟩
 | .sel _ l,z,hc,⟨_,j,e,C,O⟩=>by
  simp only[AC.nlt,AA8] at hc;exact⟨DZ hc.1,j,e,C,AC.nltA_ok l j.toNat z hc.2 O⟩
 | .yl _,_,_,h=>h
 | .asl _ _ _,_,_,h=>h
 | .rsv _ _ _,_,hc,h=>⟨DZ hc,h.2⟩
 | .mr _ _,_,hc,h=>⟨⟨DZ hc,h.1.2⟩,h.2⟩
 | .mp _ _ _ _ _,_,hc,h=>by
  simp only[AC.nlt,AA8] at hc;exact⟨⟨DZ hc.1,DZ hc.2,h.1.2.2⟩,h.2⟩
 | .mv _,_,_,h=>h
 | .agg l,_,hc,⟨W,e,C⟩=>⟨W,e,AC.nltL_ok l W hc C⟩
 | .tup l,_,hc,⟨W,e,C⟩=>⟨W,e,AC.nltL_ok l W hc C⟩
theorem AC.nltL_ok {n aj:Nat}{V :Nat->Option Nat}{m:Mem}{w:World}:∀(l:List AC) (W:List Value),AC.nltL n l=true->AF T aj V m w l W->AF T n V m w l W
 |[],_,_,h=>h
 |a::l,W,hc,⟨u,us,e,C,O⟩=>by
  simp only[AC.nltL,AA8] at hc;exact⟨u,us,e,AC.nlt_ok a u hc.1 C,AC.nltL_ok l us hc.2 O⟩
theorem AC.nltA_ok {n aj:Nat}{V :Nat->Option Nat}{m:Mem}{w:World}:∀(l:List AC) (j:Nat) (z:Value),AC.nltL n l=true->Av T aj V m w l j z->Av T n V m w l j z
 |[],_,_,_,h=>h
 |a::l,0,z,hc,h=>by
  simp only[AC.nltL,AA8] at hc;exact AC.nlt_ok a z hc.1 h
 |a::l,j+1,z,hc,h=>by
  simp only[AC.nltL,AA8] at hc;exact AC.nltA_ok l j z hc.2 h
end
theorem Vc:∀{m ag:Mem},Bj m ag=true->∀id x ks e,m.at id= .tok x ks e->ag.at id= .tok x ks e
 |[],_,_,id,x,ks,e,h=>by simp[Mem.at] at h
 |b::m,ag,hh,id,x,ks,e,h=>by
  cases id with
  |zero=>
   have p:b= .tok x ks e:=by simpa [Mem.at] using h
   subst p;cases ag with
   |nil=>simp[Bj] at hh
   |cons l ag=>
    simp only[Bj,AA8] at hh;have:=X4 _ _ hh.1;simp[Mem.at,<-this]
  |succ id=>
   have p:Mem.at m id= .tok x ks e:=by simpa [Mem.at] using h
   have q:Bj m ag.tail=true:=by
    cases b with
    |tok _ _ _=>
     cases ag with
     |nil=>simp[Bj] at hh
     |cons l ag=>simp only[Bj,AA8] at hh;exact hh.2
    |mrow _ _ _ _=>
     cases ag with
     |nil=>simp[Bj] at hh
     |cons l ag=>simp only[Bj,AA8] at hh;exact hh.2
    |_=>simpa [Bj] using hh
   have:=Vc q id x ks e p;cases ag with
   |nil=>simp[Mem.at] at this
   |cons l ag=>simpa [Mem.at] using this
section
variable {n:Nat}{V ac:Nat->Option Nat}{m ag:Mem}{w ab:World}
mutual
theorem AA.monoV (h:AI T n V m w ac ag ab){k:Nat}:∀(c:AC) (v:Value),AC.noVec c=true->AA T k V m w c v->AA T k ac ag ab c v
 | .any,_,_,_=>trivial
 | .anyc,_,_,hh=>hh
 | .on _ a,v,hc,hh=>⟨hh.1,fun C=>AA.monoV h a v hc (hh.2 C)⟩
 | .gd _ a,v,hc,hh=>⟨hh.1,fun C=>AA.monoV h a v hc (hh.2.1 C),hh.2.2⟩
 | .cb _,_,_,hh=>hh
 | .b _,_,_,hh=>hh
 | .nb _,_,_,hh=>hh
 | .ci _ _,_,_,hh=>hh
 | .i _ _ _ _,_,_,hh=>hh
 | .cv _,_,_,hh=>hh
 | .v _,_,_,hh=>hh
 | .s _,_,_,hh=>hh
 | .ptr id off,v,_,⟨b,C,O,h3⟩=>⟨b,by rw[(h.rho id h3).1];exact C,O,(h.rho id h3).2⟩
 | .pix id base B aE x an,v,_,⟨h0,b,j,C,O,h5,h6,h7,h3⟩=>⟨h0,b,j,by rw[(h.rho id h3).1];exact C,O,h5,h6,h7,(h.rho id h3).2⟩
 | .ro x ks,v,_,⟨h0,O⟩=>⟨h0,AX.mono (fun _ _ aa=>h.safe0 aa) _ _ v O⟩
 | .rp x t off ks,v,_,⟨h0,j,b,o,us,O,h3,h4,h5,h6⟩=>⟨h0,j,b,o,us,O,h3,h4,h5,Al.mono (fun _ _ aa=>h.safe0 aa) _ _ _ _ h6⟩
 | .vec _ _ _,_,hc,_=>by cases hc
 | .fn f first I,v,hc,⟨W,us,C,O,h3⟩=>by
  simp only[AC.noVec,AA8] at hc;exact⟨W,us,C,AF.monoV h first W hc.1 O,AF.monoV h I us hc.2 h3⟩
 | .sel x alts,v,hc,⟨h0,j,C,O,h3⟩=>⟨h0,j,C,O,Av.monoV h alts j.toNat v hc h3⟩
 | .yl id,v,_,⟨b,C,O,h3⟩=>⟨b,by rw[(h.rho id h3).1];exact C,O,(h.rho id h3).2⟩
 | .asl id off len,v,_,⟨b,C,O,h3⟩=>⟨b,by rw[(h.rho id h3).1];exact C,O,(h.rho id h3).2⟩
 | .rsv _ _ _,_,hc,_=>by cases hc
 | .mr _ _,_,hc,_=>by cases hc
 | .mp _ _ _ _ _,_,hc,_=>by cases hc
 | .mv id,v,_,⟨b,C,O,h3⟩=>⟨b,by rw[(h.rho id h3).1];exact C,O,(h.rho id h3).2⟩
 | .agg l,v,hc,⟨W,C,O⟩=>⟨W,C,AF.monoV h l W hc O⟩
 | .tup l,v,hc,⟨W,C,O⟩=>⟨W,C,AF.monoV h l W hc O⟩
theorem AF.monoV (h:AI T n V m w ac ag ab){k:Nat}:∀(l:List AC) (W:List Value),AC.noVecL l=true->AF T k V m w l W->AF T k ac ag ab l W
 |[],_,_,hh=>hh
 |c::l,_,hc,⟨u,us,C,O,h3⟩=>by
  simp only[AC.noVecL,AA8] at hc;exact⟨u,us,C,AA.monoV h c u hc.1 O,AF.monoV h l us hc.2 h3⟩
theorem Av.monoV (h:AI T n V m w ac ag ab){k:Nat}:∀(l:List AC) (j:Nat) (v:Value),AC.noVecL l=true->Av T k V m w l j v->Av T k ac ag ab l j v
 |[],_,_,_,hh=>hh
 |c::_,0,v,hc,hh=>by
  simp only[AC.noVecL,AA8] at hc;exact AA.monoV h c v hc.1 hh
 |_::l,j+1,v,hc,hh=>by
  simp only[AC.noVecL,AA8] at hc;exact Av.monoV h l j v hc.2 hh
end
end
variable{s:RS}{o:Oper}{x aY:AC}{al:Mem}{aO:R}{t:TypeId}{g:G}{aI:Operand->AC}
theorem SZ (m:Mem){base:List Nat}{j:Nat}{aU:Bool}{c:AC}:Ec ad base { s with mem:=m } j aU c=(Ec ad base s j aU c).map fun p=>(p.1,{ p.2 with mem:=m }):=by
 cases c<;>simp only[Ec,AB9,Option.map_none];split<;>rfl
theorem gV (m:Mem):DE Z ad { s with mem:=m } o=(DE Z ad s o).map fun p=>(p.1,{ p.2 with mem:=m }):=by
 unfold DE;cases o.guard with
 |none=>rfl
 |some g=>
  obtain⟨j,aU⟩:=g;simp only;split
  .rfl
  .cases Z[j]? with
   |none=>rfl
   |some q=>
    simp only[ABA,ABd];cases q.dst with
    |none=>rfl
    |some d=>
     simp only[ABd];cases u:s.tmps.get d with
     |none=>rfl
     |some c=>
      simp only[ABd];split
      .rfl
      .rename_i l a;cases s.gl.find? (fun e=>Nat.beq e.p l) with
       |none=>rfl
       |some e=>simp only[ABd];exact SZ m
      .exact SZ m
theorem Zf {m:Mem}(h:GY x m=some aO):aO.m=m/\GY x al=some { aO with m:=al }:=by
 unfold GY at h⊢;grind
theorem Xt {f:Nat}{m:Mem}(h:HA P t x f m=some aO):aO.m=m/\HA P t x f al=some { aO with m:=al }:=by
 unfold HA at h⊢;split at h
 .simp only[ABA,AA7] at h⊢;grind
 .cases h
theorem SA {size:Nat}{n:Rf}{m:Mem}(h:Co.aIndexSl size x aY n m g=some aO):aO.m=m/\Co.aIndexSl size x aY n al g=some { aO with m:=al }:=by
 unfold Co.aIndexSl at h⊢;simp only[ABA,AA7] at h⊢;grind
theorem XR {m:Mem}(h:Co P t x aY m g=some aO):aO.m=m/\Co P t x aY al g=some { aO with m:=al }:=by
 unfold Co at h⊢;simp only[ABA,AA7] at h⊢;obtain⟨⟨k,am,Y,n⟩,C,h⟩:=h;simp only at h;split at h
 .rename_i len e p;simp only[ABA,AA7] at h;obtain⟨i,O,h⟩:=h;split at h
  .cases h
  rename_i D;split at h
  .grind
  .rename_i y;split at h
   .simp only[ABA,AA7] at h;grind
   .cases h
 .rename_i e p;simp only[ABA,AA7] at h;obtain⟨i,O,h⟩:=h;split at h
  .rename_i l;split at h
   .grind
   .rename_i A;obtain⟨q,u⟩:=SA (al:=al) h;grind
  .rename_i l;obtain⟨q,u⟩:=SA (al:=al) h;grind
 .cases h
def Wi:Op->Bool
 | .move _| .assign _| .nilCheck _| .fieldAddr .. | .indexAddr .. =>true
 |_=>false
theorem wY {op:Op}{m:Mem}(l:Wi op=true)(h:aOp P aI op m g=some aO):aO.m=m/\aOp P aI op al g=some { aO with m:=al }:=by
 cases op<;>first
  |(cases l;done)
  |(simp only[aOp] at h⊢;cases h;exact⟨rfl,rfl⟩)
  |(simp only[aOp] at h⊢;exact Zf h)
  |(simp only[aOp] at h⊢;exact Xt h)
  |(simp only[aOp] at h⊢;exact XR h)
theorem tL {k:Nat}{op:Op}{m:Mem}(l:Wi op=true)(h:EA k P aI op m g=some aO):aO.m=m/\EA k P aI op al g=some { aO with m:=al }:=by
 unfold EA at h⊢;cases op<;>first
  |(cases l;done)
  |(split at h<;>first
    |(cases h;done)
    |exact wY l h)
theorem lP {aw:RS}(l:Wi o.op=true)(h:Bh P call ap Z ad s o=some aw):aw.mem=s.mem/\∀m,Bh P call ap Z ad { s with mem:=m } o=some { aw with mem:=m }:=by
 unfold Bh at h⊢;simp only[ABA,AA7] at h;obtain⟨⟨run,aF⟩,q,h⟩:=h;have H:=(Jf q).2.2;simp only at h;have y:∀m,DE Z ad { s with mem:=m } o=some (run,{ aF with mem:=m }):=fun m=>by rw[gV,q];rfl
 simp only[ABA,y,ABd];split at h
 .cases h
 rename_i A;simp only[A,ABW,if_false];split at h
 .grind
 .rename_i Y aV;split at h
  .rename_i f args ay p;rw[p] at l;cases l
  .rename_i p;rw[p] at l;cases l
  .rename_i op C O;simp only[AA7] at h;obtain⟨aO,E,h⟩:=h;have W:=fun al=>tL (al:=al) l E;split at h
   .grind
   .rename_i X M;split at h
    .grind
    .rename_i u;exact absurd (by cases D:o.op<;>rw[D] at l<;>first|rfl|cases l) u
end
section
variable {P:Program}{call:A7}{ap:Ys}{Z:Array Oper}{ad:PC}{az al:Mem}{g:G}{r:R}
variable{t:TypeId}
theorem Yc {p:AC}(C:(match p with| .ptr _ _=>true| .rp _ _ _ _=>true|_=>false)=true)(A:∀id,az.at id≠ .pad->al.at id=az.at id)(h:GK P t p az g=some r):r.m=az/\GK P t p al g=some { r with m:=al }:=by
 unfold GK at h⊢;cases aa:E3 P t with
 |none=>rw[aa] at h;cases h
 |some x=>
  obtain⟨size,D⟩:=x;rw[aa] at h;simp only[ABA,ABd] at h⊢;cases p with
  |ptr id off=>
   simp only at h⊢;split at h
   .rename_i l e y;rw[A id (by rw[y];exact fun h=>by cases h),y];simp only;split at h
    .rename_i u;rw[ACE u];split at h
     .rename_i q;cases h;rw[ACE q];exact⟨rfl,rfl⟩
     .rename_i q;rw[ACD q];rw[ABU] at h;obtain⟨c,u,rfl⟩:=h;rw[u];exact⟨rfl,rfl⟩
    .cases h
   .cases h
  |rp x t off ks=>
   simp only at h⊢;split at h
   .rename_i u;rw[ACE u];split at h
    .rename_i q;cases h;rw[ACE q];exact⟨rfl,rfl⟩
    .rename_i q;rw[ACD q];rw[ABU] at h;obtain⟨c,u,rfl⟩:=h;rw[u];exact⟨rfl,rfl⟩
   .cases h
  |_=>cases C
theorem ox {y:Nat}{ks:List Kd}{am Y:Option AC}(h:LJ P t (.ro y ks) am Y az g=some r):r.m=az/\LJ P t (.ro y ks) am Y al g=some { r with m:=al }:=by
 unfold LJ at h⊢;split at h
 .cases h
 .rename_i e A;cases q:P.info? e with
  |none=>rw[q] at h;cases h
  |some i=>
   rw[q] at h;simp only[ABA,ABd,Jx] at h⊢;split at h
   .rename_i u;rw[ACE u];cases am with
    |none=>
     cases Y with
     |none=>cases h
     |some b=>
      cases l:CO b with
      |none=>simp[l] at h
      |some x=>simp only[l,ABd] at h⊢;cases h;exact⟨rfl,rfl⟩
    |some a=>
     cases p:CO a with
     |none=>cases Y<;>simp[p] at h
     |some x=>
      cases Y with
      |none=>simp only[p,ABd] at h⊢;cases h;exact⟨rfl,rfl⟩
      |some b=>
       cases l:CO b with
       |none=>simp[p,l] at h
       |some z=>simp only[p,l,ABd] at h⊢;cases h;exact⟨rfl,rfl⟩
   .cases h
 .cases h
theorem bz {len:Nat}{H:List (Nat × AC)}(h:Jn P t len H az g=some r):r.m=az++[.gone]/\Jn P t len H al g=some { r with m:=al++[.gone] }:=by
 have O:∀u,DM P t len H az g=some u->∃x ks E,u.c= .vec az.length x ks/\DM P t len H al g=some { u with c:= .vec al.length x ks,m:=al++E }:=by
  intro u p;unfold DM at p⊢;split at p
  .rename_i e M;cases Y:P.info? e with
   |none=>rw[Y] at p;cases p
   |some i=>
    rw[Y] at p;simp only[ABA,ABd] at p⊢;cases C:i.zero with
    |none=>rw[C] at p;cases p
    |some z=>
     rw[C] at p;simp only[ABd] at p⊢;split at p
     .rename_i y;rw[ACE y];cases q:H.mapM (fun x=>x.2.cellsOf) with
      |none=>simp[q] at p
      |some W=>
       simp only[q,ABd] at p⊢;split at p
       .rename_i A;rw[ACE A];cases p;exact⟨_,_,_,rfl,rfl⟩
       .cases p
     .rename_i y;rw[ACD y];split at p
      .rename_i A;rw[ACE A];cases q:(Jq z).cellsOf with
       |none=>simp[q] at p
       |some l=>
        simp only[q,ABd] at p⊢;split at p
        .rename_i D;rw[ACE D];cases p;exact⟨_,_,_,rfl,rfl⟩
        .cases p
      .cases p
  .cases p
 unfold Jn at h⊢;simp only[ABA,AA7] at h;grind
theorem vW {k:Nat}{aI:Operand->AC}{op:Op}(l:Nd k aI op=true)(p:∀id,az.at id≠ .pad->al.at id=az.at id)(h:EA k P aI op az g=some r):
  (BD op=true/\r.m=az/\EA k P aI op al g=some { r with m:=al })\/(BD op=false/\r.m=az++[.gone]/\EA k P aI op al g=some { r with m:=al++[.gone] }):=by
 cases op with
 |load t x=>
  simp only[Nd] at l
  match k,h with
  |0,h=>exact .inl ⟨rfl,Yc l p h⟩
  |1,h=>nomatch h
  |k+2,h=>exact .inl ⟨rfl,Yc l p h⟩
 |slice t x am Y a2=>
  cases a2 with
  |some a2=>simp[Nd] at l
  |none=>
   simp only[Nd] at l;cases q:aI x with
   |ro y ks=>
    have u:∀h:LJ P t (aI x) (am.map aI) (Y.map aI) az g=some r,r.m=az/\LJ P t (aI x) (am.map aI) (Y.map aI) al g=some { r with m:=al }:=fun h=>by
     rw[q] at h⊢;exact ox h
    match k,h with
    |0,h=>exact .inl ⟨rfl,u h⟩
    |1,h=>cases Y<;>nomatch h
    |k+2,h=>exact .inl ⟨rfl,u h⟩
   |_=>rw[q] at l;cases l
 |buildSlice t n ps=>
  have A:k=3:=AA9 l;subst A;exact .inr ⟨rfl,bz h⟩
 |_=>simp[Nd] at l
theorem qT {s aw:RS}{o:Oper}(l:aC ap s.tmps o=true)(H:∀id,s.mem.at id≠ .pad->al.at id=s.mem.at id)(h:Bh P call ap Z ad s o=some aw):
  ∃x,(x=[]\/x=[.gone]/\BD o.op=false)/\aw.mem=s.mem++x/\Bh P call ap Z ad { s with mem:=al } o=some { aw with mem:=al++x }:=by
 unfold aC at l;rw[AA8] at l;obtain⟨C,l⟩:=l;have C:o.guard=none:=by
  cases A:o.guard with
  |none=>rfl
  |some g=>rw[A] at C;cases C
 unfold Bh DE at h⊢;simp only[C,ABA,ABd] at h⊢;split at h
 .cases h
 .rename_i M;rw[ACD M];have D:∀op,o.op=op->(∀f aX ay,op≠ .call { callee:= .value f,args:=aX,argTypes:=ay })->(∀c a b,op≠ .pick c a b)->Nd (OY ap o.dst) (DC [] s.tmps) op=true->
    ∀aO,EA (OY ap o.dst) P (DC [] s.tmps) op s.mem s.g=some aO->∃x,(x=[]\/x=[.gone]/\BD op=false)/\aO.m=s.mem++x/\EA (OY ap o.dst) P (DC [] s.tmps) op al s.g=some { aO with m:=al++x }:=by
   intro op _ _ _ l aO y;rcases vW (al:=al) l H y with⟨_,p,q⟩|⟨E,p,q⟩
   .exact⟨[],.inl rfl,by rw[p,ABx],by rw[q,ABx]⟩
   .exact⟨[.gone],.inr ⟨rfl,E⟩,p,q⟩
  cases u:o.op with
  |load t x=>
   rw[u] at h l;simp only[ABA,AA7] at h;obtain⟨aO,y,h⟩:=h;cases h;obtain⟨x,A,p,q⟩:=D _ u (fun _ _ _ h=>by cases h) (fun _ _ _ h=>by cases h) l aO y;refine⟨x,A,p,?_⟩;simp only[q];rfl
  |slice t x am Y a2=>
   rw[u] at h l;simp only[ABA,AA7] at h;obtain⟨aO,y,h⟩:=h;cases h;obtain⟨x,A,p,q⟩:=D _ u (fun _ _ _ h=>by cases h) (fun _ _ _ h=>by cases h) l aO y;refine⟨x,A,p,?_⟩;simp only[q];rfl
  |buildSlice t n ps=>
   rw[u] at h l;simp only[ABA,AA7] at h;obtain⟨aO,y,h⟩:=h;cases h;obtain⟨x,A,p,q⟩:=D _ u (fun _ _ _ h=>by cases h) (fun _ _ _ h=>by cases h) l aO y;refine⟨x,A,p,?_⟩;simp only[q];rfl
  |_=>rw[u] at l;simp[Nd] at l
end
end
end Go.Eng
end
