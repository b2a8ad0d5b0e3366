/-
  A part of the proof: the evaluator of code and its soundness.
-/
import Derived.Test.YtikbgnmcfncnaaaE1
import Derived.OrdersIn
import Derived.LoopNIn
import Derived.RangeFuncRecord
import Derived.RangeFuncIn
import Derived.RangeFuncLeaves
set_option linter.unusedVariables false
set_option linter.unusedSimpArgs false
noncomputable section
namespace Go.Eng
section
open Go Go.RowKit
def sel {aZ:Type}(b:Bool)(x y:aZ):aZ:=match b with|true=>x|false=>y
inductive Cj (T:Tab) (n n':Nat) (w:World):Blk->Blk->Prop where
 |pad:Cj T n n' w .pad .pad
 |gone (s:Blk):Cj T n n' w s .gone
 |same (x:Nat) (ks:List Kd) (e:TypeId):Cj T n n' w (.tok x ks e) (.tok x ks e)
 |cells {l l':List AC} {e:TypeId} (h:∀ ρ m vs,AB T n ρ m w l vs->AB T n' ρ m w l' vs):Cj T n n' w (.cells l e) (.cells l' e)
 |tok {x k:Nat} {ks ks':List Kd} {e:TypeId} (h1:n<=k) (h2:k < n') (h4:T k=T x) (h5:ks'.length=ks.length):Cj T n n' w (.tok x ks e) (.tok k ks' e)
 |new {k:Nat} {ks:List Kd} {e:TypeId} (h1:n<=k) (h2:k < n') (h4:T k= .list []):Cj T n n' w .pad (.tok k ks e)
 |lp {s:Nat} {st st':AC} (h:∀ ρ m v,AA T n ρ m w st v->AA T n' ρ m w st' v):Cj T n n' w (.lp s st) (.lp s st')
 |mrow {x k y:Nat} {ks ks':List Kd} {e:TypeId} (h2:k=x\/k < n') (h4:T k=T x) (h5:ks'.length=ks.length) (h6:∀ok us vs,AP ok w ks us vs->AP ok w ks' us vs):Cj T n n' w (.mrow x y ks e) (.mrow k y ks' e)
 |mapb {x k:Nat} {kk kk' vk vk':List Kd} {ka va:Bool} (h2:k=x\/k < n') (h4:T k=T x) (h5:∀ok us vs,AP ok w kk us vs->AP ok w kk' us vs) (h6:∀ok us vs,AP ok w vk us vs->AP ok w vk' us vs):Cj T n n' w (.mapb x kk ka vk va) (.mapb k kk' ka vk' va)
section
variable {T:Tab}{V :Nat->Option Nat}{m:Mem}{w:World}{b:Bool}{aB:Rf}{n ak:Nat}
theorem HY (p:(aB.eval T).toB=b)(r l:Rf):(⟨ "if",oIf,[aB,r,l]⟩:Ex).eval T=sel b (r.eval T) (l.eval T):=by
 cases b<;>simp[Ex.eval,oIf,u0,u1,u2,p,sel]
theorem pm (H:(aB.eval T).toB=b){k:Nat}{x y:Blk}(q:New T k (Do k aB x y).2)(X:n<=k)(p:k+(Do k aB x y).2.length<=ak):
  Cj T n ak w (sel b x y) (Do k aB x y).1:=by
 cases x with
 |pad=>
  cases y with
  |pad=>cases b<;>exact .pad
  |gone=>exact .gone _
  |cells l e=>exact .gone _
  |lp=>exact .gone _
  |mrow=>exact .gone _
  |mapb=>exact .gone _
  |tok aA ks e'=>
   simp only[Do] at q p⊢;simp only[List.length_singleton] at p;have e:=q.head;rw[HY H] at e;cases b with
   |true=>exact .new X (by omega) e
   |false=>exact .tok X (by omega) e rfl
 |gone=>cases y<;>exact .gone _
 |cells l e=>
  cases y with
  |pad=>exact .gone _
  |gone=>exact .gone _
  |tok=>exact .gone _
  |lp=>exact .gone _
  |mrow=>exact .gone _
  |mapb=>exact .gone _
  |cells af e'=>
   simp only[Do] at q p⊢;split
   .rename_i b0;obtain⟨ba,rfl⟩:=b0;simp only[ba,and_self,if_true] at q p;split
    .rename_i bx;simp only[bx,if_true] at q p;have a0:∀ V m W,(b=true->AB T n V m w l W)->(b=false->AB T n V m w af W)->AB T ak V m w (Ow (fun n=>mix n aB) k l af).1 W:=fun V m W k1 E=>
      Qe (fun n0 c d v _ _ a1 a2 a3 a4=>NA H (by omega) a1 a2 a3 a4) ba q p k1 E
     cases b with
     |true=>exact .cells fun V m W h=>a0 V m W (fun _=>h) (fun h=>by cases h)
     |false=>exact .cells fun V m W h=>a0 V m W (fun h=>by cases h) (fun _=>h)
    .exact .gone _
   .exact .gone _
 |lp s st=>
  cases y with
  |pad=>exact .gone _
  |gone=>exact .gone _
  |cells=>exact .gone _
  |tok=>exact .gone _
  |mrow=>exact .gone _
  |mapb=>exact .gone _
  |lp an bi=>
   simp only[Do] at q p⊢;split
   .rename_i C;have e:=tW C;subst e;simp only[C,if_true] at q p;have a0:∀ V m v,(b=true->AA T n V m w st v)->(b=false->AA T n V m w bi v)->AA T ak V m w (mix k aB st bi).1 v:=fun V m v k1 E=>NA H (by omega) q p k1 E;cases b with
    |true=>exact .lp fun V m v h=>a0 V m v (fun _=>h) (fun h=>by cases h)
    |false=>exact .lp fun V m v h=>a0 V m v (fun h=>by cases h) (fun _=>h)
   .exact .gone _
 |mrow x z ks e=>
  cases y with
  |pad=>exact .gone _
  |gone=>exact .gone _
  |cells=>exact .gone _
  |tok=>exact .gone _
  |lp=>exact .gone _
  |mapb=>exact .gone _
  |mrow aA z' ah e'=>
   simp only[Do] at q p⊢;split
   .rename_i C;simp only[C,if_true] at q p;simp only[tV] at C;have Y:=tW C.1.1;have D:=tW C.1.2;have M:=tW C.2;subst Y;subst D;split
    .rename_i u;simp only[tV] at u;have O:=tW u.1;have e5:=Kd.beqs_eq _ _ u.2;subst O;subst e5;cases b<;>exact .mrow (.inl rfl) rfl rfl (fun _ _ _ h=>h)
    .rename_i u;simp only[u] at q p;simp only[uE,if_false] at q p;simp only[List.length_singleton] at p;have e:=q.head;rw[HY H] at e;have hj:=Kd.joins_len ks ah M;cases b with
     |true=>exact .mrow (.inr (by omega)) e hj (fun _ _ _ h=>h.join_l M)
     |false=>exact .mrow (.inr (by omega)) e (by rw[hj,M]) (fun _ _ _ h=>h.join_r M)
   .exact .gone _
 |mapb x ai ka aN aU=>
  cases y with
  |pad=>exact .gone _
  |gone=>exact .gone _
  |cells=>exact .gone _
  |tok=>exact .gone _
  |lp=>exact .gone _
  |mrow=>exact .gone _
  |mapb aA b3 b2 b5 b4=>
   simp only[Do] at q p⊢;split
   .rename_i u;simp only[tV,beq_iff_eq] at u;obtain⟨⟨⟨⟨aL,c2⟩,c3⟩,c4⟩,c5⟩:=u;have Y:=tW aL;have D:=Kd.beqs_eq _ _ c2;have O:=Kd.beqs_eq _ _ c4;subst Y;subst D;subst O;subst c3;subst c5;cases b<;>exact .mapb (.inl rfl) rfl (fun _ _ _ h=>h) (fun _ _ _ h=>h)
   .rename_i u;simp only[u] at q p;split
    .rename_i hd;simp only[uE,if_false,hd,if_true] at q p;simp only[tV,beq_iff_eq] at hd;obtain⟨⟨⟨c2,c3⟩,c4⟩,c5⟩:=hd;have D:=tW c2;have O:=tW c4;subst c3;subst c5;simp only[List.length_singleton] at p;have e:=q.head;rw[HY H] at e;cases b with
     |true=>exact .mapb (.inr (by omega)) e (fun _ _ _ h=>h.join_l D) (fun _ _ _ h=>h.join_l O)
     |false=>exact .mapb (.inr (by omega)) e (fun _ _ _ h=>h.join_r D) (fun _ _ _ h=>h.join_r O)
    .exact .gone _
 |tok x ks e=>
  cases y with
  |gone=>exact .gone _
  |cells=>exact .gone _
  |lp=>exact .gone _
  |mrow=>exact .gone _
  |mapb=>exact .gone _
  |pad=>
   simp only[Do] at q p⊢;simp only[List.length_singleton] at p;have e:=q.head;rw[HY H] at e;cases b with
   |false=>exact .new X (by omega) e
   |true=>exact .tok X (by omega) e rfl
  |tok aA ah e'=>
   simp only[Do] at q p⊢;split
   .rename_i C;simp only[tV] at C;have Y:=tW C.1.1;have D:=tW C.2;have M:=Kd.beqs_eq _ _ C.1.2;subst Y;subst D;subst M;cases b<;>exact .same _ _ _
   .rename_i C;simp only[C] at q p;split
    .rename_i u;obtain⟨rfl,u⟩:=u;simp only[u,and_self,if_true,uE,if_false] at q p;simp only[List.length_singleton] at p;have e:=q.head;rw[HY H] at e;have hj:=Kd.joins_len ks ah u;cases b with
     |true=>exact .tok X (by omega) e hj
     |false=>exact .tok X (by omega) e (by rw[hj,u])
    .exact .gone _
theorem rc (id:Nat):Mem.at [] id= .pad:=rfl
theorem Qd (x:Blk)(m:Mem):Mem.at (x::m) 0=x:=rfl
theorem HT (x:Blk)(m:Mem)(id:Nat):Mem.at (x::m) (id+1)=Mem.at m id:=by simp[Mem.at]
theorem OA (m:Mem):m.headD .pad=m.at 0:=by cases m<;>rfl
theorem Uq (m:Mem)(id:Nat):Mem.at m.tail id=m.at (id+1):=by cases m with
 |nil=>rfl
 |cons x m=>exact (HT x m id).symm
theorem Vn:∀(ag:Mem) (n0 id:Nat),∃k,n0<=k/\k+(Do k aB .pad (ag.at id)).2.length<=n0+(Gg aB n0 ag).2.length/\(Gg aB n0 ag).1.at id=(Do k aB .pad (ag.at id)).1/\
  ∀T,New T n0 (Gg aB n0 ag).2->New T k (Do k aB .pad (ag.at id)).2
 |[],n0,id=>⟨n0,tY _,tY _,rfl,fun _ h=>h⟩
 |y::ag,n0,0=>by
  refine⟨n0,tY _,?_,rfl,fun T h=>?_⟩
  .simp only[Gg,tq,Qd];omega
  .simp only[Gg] at h;exact h.left
 |y::ag,n0,id+1=>by
  obtain⟨k,C,O,l,p⟩:=Vn ag (n0+(Do n0 aB .pad y).2.length) id;refine⟨k,by omega,?_,?_,fun T h=>?_⟩
  .simp only[Gg,tq,HT];omega
  .simp only[Gg,HT];exact l
  .simp only[Gg] at h;rw[HT];exact p T h.right
theorem VL:∀(au ag:Mem) (n0 id:Nat),∃k,n0<=k/\k+(Do k aB (au.at id) (ag.at id)).2.length<=n0+(Bd aB n0 au ag).2.length/\(Bd aB n0 au ag).1.at id=(Do k aB (au.at id) (ag.at id)).1/\
  ∀T,New T n0 (Bd aB n0 au ag).2->New T k (Do k aB (au.at id) (ag.at id)).2
 |[],ag,n0,id=>Vn ag n0 id
 |x::au,ag,n0,0=>by
  refine⟨n0,tY _,?_,?_,fun T h=>?_⟩
  .simp only[Bd,tq,Qd,OA];omega
  .simp only[Bd,Qd,OA]
  .simp only[Bd] at h;rw[OA] at h;exact h.left
 |x::au,ag,n0,id+1=>by
  obtain⟨k,C,O,l,p⟩:=VL au ag.tail (n0+(Do n0 aB x (ag.headD .pad)).2.length) id;rw[Uq] at O l p;refine⟨k,by omega,?_,?_,fun T h=>?_⟩
  .simp only[Bd,tq,HT];omega
  .simp only[Bd,HT];exact l
  .simp only[Bd] at h;rw[HT];exact p T h.right
def CC (m:Mem)(V :Nat->Option Nat):Nat->Option Nat:=fun id=>match m.at id with| .pad=>none|_=> V id
variable{id:Nat}{ad:Mem}
theorem HU (h:m.at id= .pad):CC m V id=none:=by simp[CC,h]
theorem CS (h:m.at id≠ .pad):CC m V id= V id:=by
 unfold CC;grind
theorem FU (_hm:AG T n V m w)(h:∀id,Cj T n ak w (m.at id) (ad.at id)):AH T n V m w (CC m V) ad w where
 os:=rfl
 tape:=rfl
 output:=rfl
 size:=tY _
 mlen:=fun id l=>by
  have:=h id;generalize m.at id=s at this l;generalize ad.at id=z at this;cases this<;>first|exact absurd rfl l|(intro h;cases h)
 rho:=fun id l=>by
  refine⟨CS (BI l),?_⟩;have:=h id;generalize m.at id=s at this l;generalize ad.at id=z at this;cases this<;>first|rfl|cases l
 untr:=fun id l H=>by
  have:=h id;generalize m.at id=s at this l;generalize ad.at id=z at this H;cases this<;>first|rfl|exact absurd rfl l|cases H
 fresh:=fun id b l _ E=>by rw[HU l] at E;cases E
 old:=fun _ _ _=>rfl
 tok:=fun id x ks e p=>by
  have:=h id;have q:m.at id≠ .pad:=by rw[p];exact fun h=>by cases h
  rw[p] at this;generalize Y:ad.at id=z at this;cases this with
  |gone=>exact .inr ⟨fun _ _ _ _=>rfl,.inl rfl⟩
  |same=>exact .inl ⟨rfl,CS q,fun _ _=>rfl⟩
  |tok C O D u=>
   rename_i k ah;refine .inr ⟨fun _ _ _ _=>rfl,.inr ⟨k,ah,e,rfl,C,fun b' M=> .inl ⟨by rw[<-CS (V := V) q];exact M,?_⟩⟩⟩;simp only[CA,D,u];exact tY _
 row:=fun id x y ks e p=>by
  have:=h id;have q:m.at id≠ .pad:=by rw[p];exact fun h=>by cases h
  rw[p] at this;generalize Y:ad.at id=z at this;cases this with
  |gone=>exact .inl rfl
  |mrow O D u h6=>exact .inr ⟨_,y,_,rfl,u,.inl ⟨rfl,CS q,fun b W _ X=>⟨W,X,rfl⟩⟩⟩
theorem A7.conv {ok:Nat->Nat->Prop}{ks ah:List Kd}(h:∀us W,AP ok w ks us W->AP ok w ah us W):∀{l:List (List U)} {aH:List (List Value)},A7 ok w ks l aH->A7 ok w ah l aH
 |[],_,hh=>hh
 |_::_,_,⟨W,vss',e,C,O⟩=>⟨W,vss',e,h _ _ C,O.conv h⟩
theorem OD (M:AG T n V m w)(hn:n<=ak)(h:∀id,Cj T n ak w (m.at id) (ad.at id)):AG T ak (CC m V) ad w where
 blk:=fun id=>by
  have X:=FU M h;have u:=M.blk id;have p:=h id;cases aa:m.at id with
  |pad=>
   rw[aa] at p;generalize hz:ad.at id=z at p;cases p with
   |pad=>trivial
   |gone=>trivial
   |new C O H=>exact⟨O,_,H,.inl (HU aa)⟩
  |gone=>
   rw[aa] at p;generalize hz:ad.at id=z at p;cases p;trivial
  |cells l e=>
   have D:m.at id≠ .pad:=by rw[aa];exact fun h=>by cases h
   rw[aa] at p u;obtain⟨b,W,C,O,Y⟩:=u;generalize hz:ad.at id=z at p;cases p with
   |gone=>trivial
   |cells hc=>
    exact⟨b,W,by rw[CS D];exact C,O,hc _ _ W (AB.mono X M (tY _) _ W Y)⟩
  |lp x st=>
   have D:m.at id≠ .pad:=by rw[aa];exact fun h=>by cases h
   rw[aa] at p u;obtain⟨b,q,C,O,Y,H,h5,h9,h6,j,h7,h8⟩:=u;generalize hz:ad.at id=z at p;cases p with
   |gone=>trivial
   |lp hc=>
    exact⟨b,q,by rw[CS D];exact C,O,Y,H,h5,h9,fun i c cc=>AA.mono X M hn _ _ (h6 i c cc),j,hc _ _ _ (AA.mono X M (tY _) _ _ h7),h8⟩
  |tok x ks e=>
   have D:m.at id≠ .pad:=by rw[aa];exact fun h=>by cases h
   rw[aa] at p u;obtain⟨h0,r,C,O⟩:=u;generalize hz:ad.at id=z at p;cases p with
   |gone=>trivial
   |same=>
    refine⟨td h0 hn,r,C,?_⟩;rw[CS D];exact O
   |tok k1 E k4 k5=>
    refine⟨E,r,by rw[k4,C],?_⟩;rw[CS D,k5];exact O
  |mrow x y ks e=>
   have D:m.at id≠ .pad:=by rw[aa];exact fun h=>by cases h
   rw[aa] at p u;obtain⟨h0,r,C,O,⟨Y,b8⟩,H⟩:=u;generalize hz:ad.at id=z at p;cases p with
   |gone=>trivial
   |mrow E k4 k5 k6=>
    refine⟨⟨?_,td h0.2 hn⟩,r,by rw[k4,C],O,⟨Y,fun h=>b8 (ur.1 (by rw[<-k5,h];rfl))⟩,?_⟩
    .rcases E with E|E
     .rw[E];exact td h0.1 hn
     .exact E
    .rw[CS D];rcases H with H|⟨b,W,us,q1,q2,⟨aH,q3,q5⟩,q4⟩
     .exact .inl H
     .exact .inr ⟨b,W,us,q1,q2,⟨aH,q3,A7.conv (k6 _) (A7.mono (fun _ _ aa=>X.safe0 aa) q5)⟩,q4⟩
  |mapb x ai ka aN aU=>
   have D:m.at id≠ .pad:=by rw[aa];exact fun h=>by cases h
   rw[aa] at p u;obtain⟨h0,l,b,aw,a3,C,O,Y,H,h5,h6,h7⟩:=u;generalize hz:ad.at id=z at p;cases p with
   |gone=>trivial
   |mapb E k4 k5 k6=>
    refine⟨?_,l,b,aw,a3,by rw[k4,C],by rw[CS D];exact O,Y,H,h5,fun i us e hl he=>?_,h7⟩
    .rcases E with E|E
     .rw[E];exact td h0 hn
     .exact E
    .obtain⟨u1,u2,q1,⟨ci,q2,q3⟩,⟨cj,q4,q5⟩⟩:=h6 i us e hl he;exact⟨u1,u2,q1,⟨ci,k5 _ _ _ (AP.mono (fun _ _ aa=>X.safe0 aa) q2),q3⟩,⟨cj,k6 _ _ _ (AP.mono (fun _ _ aa=>X.safe0 aa) q4),q5⟩⟩
 fr:=M.fr
 inj:=fun id b2 b p ch C O=>by
  have X:=FU M h;have b3:∀id,(ad.at id).tracked=true->CC m V id=some b->(m.at id).tracked=true/\ V id=some b:=by
   intro id p hr;by_cases hp:m.at id= .pad
   .rw[HU hp] at hr;cases hr
   .exact⟨X.untr id hp p,by rw[<-CS (V := V) hp];exact hr⟩
  obtain⟨a1,a2⟩:=b3 id p C;obtain⟨b6,a4⟩:=b3 b2 ch O;exact M.inj id b2 b a1 b6 a2 a4
end
theorem jZ {q p:List Kd}(h:q.length=p.length):Kd.join (.list q) (.list p)= .list (Kd.joins q p):=by
 cases q with
 |nil=>cases p with
  |nil=>rfl
  |cons=>simp at h
 |cons a l=>cases p with
  |nil=>simp at h
  |cons c af=>
   simp only[Kd.join];rw[vC h]
section
variable {T:Tab}{V :Nat->Option Nat}{m au ag:Mem}{w:World}{b:Bool}{aB:Rf}{n ak:Nat}
variable{n0 id z k:Nat}{a6:List Kd}{e:TypeId}{v:Value}{c d:AC}{ad:Mem}
theorem QF (u:(aB.eval T).toB=b)(D:n<=n0)(q:New T n0 (Bd aB n0 au ag).2)(y:n0+(Bd aB n0 au ag).2.length<=ak):
  ∀id,Cj T n ak w ((sel b au ag).at id) ((Bd aB n0 au ag).1.at id):=by
 intro id;obtain⟨k,C,O,l,p⟩:=VL (aB:=aB) au ag n0 id;rw[l];have e:(sel b au ag).at id=sel b (au.at id) (ag.at id):=by cases b<;>rfl
 rw[e];exact pm u (p T q) (by omega) (by omega)
theorem QE (a1:(aB.eval T).toB=b)(a4:New T n0 (Bd aB n0 au ag).2)(hl:n0+(Bd aB n0 au ag).2.length<=ak)(l:(Bd aB n0 au ag).1.at id= .tok z a6 e):
  (∀x q y u D E,au.at id= .tok x q D->ag.at id= .tok y u E->D=e/\E=e/\((z=x/\z=y/\a6=q/\a6=u)\/(z < ak/\T z=sel b (T x) (T y)/\q.length=u.length/\a6=Kd.joins q u)))/\
  (∀x q D,au.at id= .tok x q D->ag.at id= .pad->D=e/\a6=q/\z < ak/\T z=sel b (T x) (.list []))/\
  (∀y u E,au.at id= .pad->ag.at id= .tok y u E->E=e/\a6=u/\z < ak/\T z=sel b (.list []) (T y)):=by
 obtain⟨k,C,O,h3,h4⟩:=VL (aB:=aB) au ag n0 id;rw[h3] at l;have p:=h4 T a4;refine⟨fun x q y u D E W X=>?_,fun x q D W X=>?_,fun y u E W X=>?_⟩
 .rw[W,X] at l p O;simp only[Do] at l p O;split at l
  .rename_i H;simp only[tV] at H;have i1:=tW H.1.1;have i2:=tW H.2;have i3:=Kd.beqs_eq _ _ H.1.2;grind
  .rename_i H;simp only[H] at p O;split at l
   .rename_i hc;obtain⟨rfl,hc⟩:=hc;simp only[hc,and_self,if_true,uE,if_false] at p O;simp only[List.length_singleton] at O;injection l with Y j2 M
    refine⟨M,M,.inr ⟨by omega,?_,hc,j2.symm⟩⟩;rw[<-Y,p.head,HY a1];rfl
   .cases l
 .rw[W,X] at l p O;simp only[Do] at l p O;simp only[List.length_singleton] at O;injection l with Y j2 M
  refine⟨M,j2.symm,by omega,?_⟩;rw[<-Y,p.head,HY a1];rfl
 .rw[W,X] at l p O;simp only[Do] at l p O;simp only[List.length_singleton] at O;injection l with Y j2 M
  refine⟨M,j2.symm,by omega,?_⟩;rw[<-Y,p.head,HY a1];rfl
theorem Ia {x:Nat}{l:List Kd}(a0:AH T n V au w (CC au V) m w)(h:AA T n V au w (.vec id x l) v)(ht:au.at id= .tok x l e)(y:m.at id= .tok z a6 e)(a2:z < ak)(p:T z=T x)
  (ao:a6.length=l.length) (Y:∀ok:Nat->Nat->Prop,AT ok w (.list l) (T x) v->AT ok w (.list a6) (T x) v):AA T ak (CC au V) m w (.vec id z a6) v:=by
 obtain⟨O,q,D,E⟩:=h;refine⟨a2,by rw[y];exact (fun h=>by cases h),?_,fun ah e' u=>?_⟩
 .rw[p];exact Y _ (AT.mono (fun _ _ aa=>a0.safe0 aa) _ _ v D)
 .rw[y] at u;injection u with _ H M
  subst H;subst M;rcases E l e ht with⟨X,ae⟩|⟨C,I,W,X,ae,l3,l4⟩
  .exact .inl ⟨by rw[CS q];exact X,by rw[p];exact ae⟩
  .exact .inr ⟨C,I,W,by rw[CS q];exact X,by rw[p];exact ae,l3,by rw[ao];exact l4⟩
theorem WV (a3:(aB.eval T).toB=b)(hm:AG T n V (sel b au ag) w)(bx:n<=n0)(a2:New T n0 (Bd aB n0 au ag).2)(hl:n0+(Bd aB n0 au ag).2.length<=ak){a:AC}
  (l:Ft (Bd aB n0 au ag).1 au ag c d=some a)
  (C:AA T n V (sel b au ag) w (sel b c d) v):AA T ak (CC (sel b au ag) V) (Bd aB n0 au ag).1 w a v:=by
 have O:=FU hm (QF (n:=n) a3 bx a2 hl);have a4:∀{id:Nat} {a:AC},MB (Bd aB n0 au ag).1 id=some a->∃z ks e,(Bd aB n0 au ag).1.at id= .tok z ks e/\a= .vec id z ks:=by
  intro id a h;unfold MB at h;grind
 unfold Ft at l;simp only at l;split at l
 .rename_i id x W b5 aA bl;split at l
  .rename_i bs;have:=tW bs;subst this;split at l
   .rename_i y ky e aS b6 e' E H;split at l
    .rename_i p;simp only[tV] at p;have Y:=tW p.1.1.1;have i2:=tW p.1.1.2;have i3:=Kd.beqs_eq _ _ p.1.2;have i4:=Kd.beqs_eq _ _ p.2;subst Y;subst i2;subst i3;subst i4;obtain⟨z,a6,e2,q,rfl⟩:=a4 l;obtain⟨j1,j2,j3⟩:=(QE a3 a2 hl q).1 x W aA bl e e' E H;subst j1;subst j2;rcases j3 with⟨D,u,X,M⟩|⟨D,u,X,M⟩
     .cases b with
      |true=>
       have hx:x < n:=C.1;exact Ia O C E q (by rw[D];omega) (by rw[D]) (by rw[X]) fun ok h=>by rw[X];exact h
      |false=>
       have hx:aA < n:=C.1;exact Ia O C H q (by rw[u];omega) (by rw[u]) (by rw[M]) fun ok h=>by rw[M];exact h
     .have bj:=Kd.joins_len W bl X;have bi:=jZ X;cases b with
      |true=>exact Ia O C E q D u (by rw[M,bj]) fun ok h=>by rw[M,<-bi];exact Kd.join_l _ _ _ _ h
      |false=>exact Ia O C H q D u (by rw[M,bj,X]) fun ok h=>by rw[M,<-bi];exact Kd.join_r _ _ _ _ h
    .cases l
   .cases l
  .cases l
 .rename_i id x W;split at l
  .rename_i y ky e E H;split at l
   .rename_i p;simp only[tV] at p;have Y:=tW p.1;have i3:=Kd.beqs_eq _ _ p.2;subst Y;subst i3;obtain⟨z,a6,e2,q,rfl⟩:=a4 l;obtain⟨j1,q0,D,u⟩:=(QE a3 a2 hl q).2.1 x W e E H;subst j1;subst q0;cases b with
    |true=>exact Ia O C E q D u rfl fun ok h=>h
    |false=>
     have hv:v= .slice none 0 0:=C;subst hv;refine⟨D,by rw[q];exact (fun h=>by cases h),by rw[u];exact Gp _ _,fun ah e' _=> .inl ⟨HU H,none,by rw[u];rfl⟩⟩
   .cases l
  .cases l
 .rename_i id x W;split at l
  .rename_i y ky e E H;split at l
   .rename_i p;simp only[tV] at p;have Y:=tW p.1;have i3:=Kd.beqs_eq _ _ p.2;subst Y;subst i3;obtain⟨z,a6,e2,q,rfl⟩:=a4 l;obtain⟨j1,q0,D,u⟩:=(QE a3 a2 hl q).2.2 x W e E H;subst j1;subst q0;cases b with
    |false=>exact Ia O C H q D u rfl fun ok h=>h
    |true=>
     have hv:v= .slice none 0 0:=C;subst hv;refine⟨D,by rw[q];exact (fun h=>by cases h),by rw[u];exact Gp _ _,fun ah e' _=> .inl ⟨HU E,none,by rw[u];rfl⟩⟩
   .cases l
  .cases l
 .cases l
theorem Ur {m:Mem}:∀(r l p:Mem) (id:Nat),(Sc m au ag r l p).at id=XY m au ag (l.at id) (p.at id) (r.at id)
 |[],l,p,id=>by
  show Blk.pad=_;simp only[rc];cases l.at id<;>cases p.at id<;>rfl
 |z::r,l,p,0=>by simp only[Sc,Qd,OA]
 |z::r,l,p,id+1=>by
  simp only[Sc,HT];rw[Ur r l.tail p.tail id,Uq,Uq]
theorem Nf {m:Mem}(x y z:Blk):XY m au ag x y z=z\/∃l p af q r e,x= .cells l p/\y= .cells af q/\z= .cells r e/\XY m au ag x y z= .cells (G7 m au ag l af r) e:=by
 cases x<;>cases y<;>cases z<;>first|exact .inl rfl|exact .inr ⟨_,_,_,_,_,_,rfl,rfl,rfl,rfl⟩
theorem TH {m:Mem}(h:∀id,ad.at id=m.at id\/∃l af e,m.at id= .cells l e/\ad.at id= .cells af e):AH T k V m w V ad w where
 os:=rfl
 tape:=rfl
 output:=rfl
 size:=tY _
 mlen:=fun id p=>by
  rcases h id with e|⟨l,af,e,C,O⟩
  .rw[e];exact p
  .rw[O];exact fun h=>by cases h
 rho:=fun id p=>by
  refine⟨rfl,?_⟩;rcases h id with e|⟨l,af,e,C,O⟩
  .rw[e];exact p
  .rw[O];rfl
 untr:=fun id p u=>by
  rcases h id with e|⟨l,af,e,C,O⟩
  .rw[<-e];exact u
  .rw[C];rfl
 fresh:=fun id b p u M=>by
  rcases h id with e|⟨l,af,e,C,O⟩
  .rw[e,p] at u;cases u
  .rw[p] at C;cases C
 old:=fun _ _ _=>rfl
 tok:=fun id x ks e q=>by
  rcases h id with D|⟨l,af,E,C,O⟩
  .exact .inl ⟨by rw[D];exact q,rfl,fun _ _=>rfl⟩
  .rw[q] at C;cases C
 row:=fun id x y ks e q=>by
  rcases h id with D|⟨l,af,E,C,O⟩
  .exact .inr ⟨x,y,ks,by rw[D];exact q,rfl,.inl ⟨rfl,rfl,fun _ W _ H=>⟨W,H,rfl⟩⟩⟩
  .rw[q] at C;cases C
theorem iS {m:Mem}(p:AG T k V m w)(h:∀id,ad.at id=m.at id\/∃l af e,m.at id= .cells l e/\ad.at id= .cells af e/\∀W b, V id=some b->w.heap[b]? =some (.cells (W:List Value).toArray e (0,0))->AB T k V m w l W->AB T k V m w af W):AG T k V ad w:=by
 have u:AH T k V m w V ad w:=TH fun id=>by
  grind
 refine⟨fun id=>?_,fun id H b C O=>?_,p.fr⟩
 .have q:=p.blk id;rcases h id with e|⟨l,af,e,C,O,E⟩
  .exact BJ.step u p (tY _) e rfl (fun _ _=>rfl)
  .rw[C] at q;obtain⟨b,W,y,D,M⟩:=q;rw[O];exact⟨b,W,y,D,AB.mono u p (tY _) _ W (E W b y D M)⟩
 .have X:∀id,(ad.at id).tracked=(m.at id).tracked:=fun id=>by
   rcases h id with e|⟨l,af,e,C,O,_⟩
   .rw[e]
   .rw[C,O];rfl
  rw[X] at C O;exact p.inj id H b C O
theorem RD {m:Mem}{p E:Nat}{y aW:Nat->Option Nat}{q:Mem}(D:∀c d a v,Ft m au ag c d=some a->AA T p y q w (sel b c d) v->AA T E aW m w a v):
  ∀(l af r:List AC) (W:List Value),AB T p y q w (sel b l af) W->AB T E aW m w r W->AB T E aW m w (G7 m au ag l af r) W
 |c::l,d::af,a::r,W,C,O=>by
  obtain⟨u,us,e,Y,h4⟩:=O;have X:∃u us,W=u::us/\AA T p y q w (sel b c d) u/\AB T p y q w (sel b l af) us:=by cases b<;>exact C
  obtain⟨u',a4,e',h5,h6⟩:=X;rw[e] at e';injection e' with H M
  subst H;subst M;refine⟨u,us,e,?_,RD D l af r us h6 h4⟩;cases hx:Ft m au ag c d with
  |none=>exact Y
  |some z=>exact D c d z u hx h5
 |[],_,r,W,_,O=>by simpa [G7] using O
 |_::_,[],r,W,_,O=>by simpa [G7] using O
 |_::_,_::_,[],W,_,O=>by simpa [G7] using O
theorem NU (a1:(aB.eval T).toB=b)(q:AG T n V (sel b au ag) w)(ao:n<=n0)(bj:New T n0 (Bc aB n0 au ag).2)(hl:n0+(Bc aB n0 au ag).2.length<=ak):
  AG T ak (CC (sel b au ag) V) (Bc aB n0 au ag).1 w/\AH T n V (sel b au ag) w (CC (sel b au ag) V) (Bc aB n0 au ag).1 w/\AH T ak (CC (sel b au ag) V) (Bd aB n0 au ag).1 w (CC (sel b au ag) V) (Bc aB n0 au ag).1 w/\AG T ak (CC (sel b au ag) V) (Bd aB n0 au ag).1 w:=by
 have a0:New T n0 (Bd aB n0 au ag).2:=bj;have X:n0+(Bd aB n0 au ag).2.length<=ak:=hl;have ht:=QF (n:=n) (ak:=ak) (w:=w) a1 ao a0 X;have Y:=OD q (by omega) ht;have bl:=FU q ht;have H:∀id,(Bc aB n0 au ag).1.at id=XY (Bd aB n0 au ag).1 au ag (au.at id) (ag.at id) ((Bd aB n0 au ag).1.at id):=fun id=>Ur _ _ _ id;have a3:AH T ak (CC (sel b au ag) V) (Bd aB n0 au ag).1 w (CC (sel b au ag) V) (Bc aB n0 au ag).1 w:=TH fun id=>by
  rw[H];rcases Nf (m:=(Bd aB n0 au ag).1) (au:=au) (ag:=ag) (au.at id) (ag.at id) ((Bd aB n0 au ag).1.at id) with e|⟨l,u,af,y,r,e,_,_,D,E⟩
  .exact .inl e
  .grind
 refine⟨iS Y fun id=>?_,bl.trans q (by omega) a3,a3,Y⟩;rw[H];rcases Nf (m:=(Bd aB n0 au ag).1) (au:=au) (ag:=ag) (au.at id) (ag.at id) ((Bd aB n0 au ag).1.at id) with e|⟨l,u,af,y,r,e,C,O,D,E⟩
 .exact .inl e
 .refine .inr ⟨r,_,e,D,E,fun W bb q1 p q3=>?_⟩;have M:=q.blk id;have a2:(sel b au ag).at id= .cells (sel b l af) (sel b u y):=by cases b with|true=>exact C|false=>exact O
  rw[a2] at M;obtain⟨b3,b2,p1,p2,p3⟩:=M;have bi:(sel b au ag).at id≠ .pad:=by rw[a2];exact fun h=>by cases h
  rw[CS bi,p1] at q1;cases q1;rw[p2] at p;injection p with p
  injection p with p
  have b0:b2=W:=by simpa using p
  subst b0;exact RD (b:=b) (fun c d a v hc hv=>WV a1 q ao a0 X hc hv) l af r _ p3 q3
theorem eU {m:Mem}{r p u:Mem}(c d:AC):Ft (Sc m au ag r p u) au ag c d=Ft r au ag c d:=by
 have D:∀id,MB (Sc m au ag r p u) id=MB r id:=fun id=>by
  unfold MB;rw[Ur];rcases Nf (m:=m) (au:=au) (ag:=ag) (p.at id) (u.at id) (r.at id) with e|⟨l,E,af,H,q,e,_,_,y,C⟩
  .rw[e]
  .rw[C,y]
 unfold Ft;simp only[D]
theorem jv (y:(aB.eval T).toB=b)(u:AG T n V (sel b au ag) w)(E:n<=n0)(H:New T n0 (Bc aB n0 au ag).2)(D:n0+(Bc aB n0 au ag).2.length<=ak)
  (hk:n<=k)
  (p:New T k (Qg (Bc aB n0 au ag).1 au ag aB k c d).2)
  (l:k+(Qg (Bc aB n0 au ag).1 au ag aB k c d).2.length<=ak)
  (C:AA T n V (sel b au ag) w (sel b c d) v):AA T ak (CC (sel b au ag) V) (Bc aB n0 au ag).1 w (Qg (Bc aB n0 au ag).1 au ag aB k c d).1 v:=by
 obtain⟨_,ao,a0,W⟩:=NU y u E H D;have Y:Ft (Bc aB n0 au ag).1 au ag c d=Ft (Bd aB n0 au ag).1 au ag c d:=eU c d;unfold Qg at p l⊢;rw[Y] at p l⊢;split
 .rename_i a M;exact AA.mono a0 W (tY _) _ _ (WV y u E H D M C)
 .rename_i X;rw[X] at p l;simp only at p l;have O:=AA.mono ao u (tY _) _ _ C;refine Ug (n:=n) y (by omega) p l (fun q=>?_) (fun q=>?_)
  .subst q;exact O
  .subst q;exact O
theorem Tr.get_node (v:Option AC)(l r:Tr)(i:Nat):(Tr.node v l r).get i=if i=0 then v else if i % 2=1 then l.get (i / 2) else r.get (i / 2 - 1):=by
 rw[Tr.get_step];rfl
theorem SQ {f:Nat->AC->AC->AC × List Ex}:∀(y q:Tr) (n0:Nat),New T n0 (EU f n0 y q).2->n0+(EU f n0 y q).2.length<=ak->∀(i:Nat) (c:AC),(EU f n0 y q).1.get i=some c->
  ∃k aL p,n0<=k/\y.get i=some aL/\q.get i=some p/\c=(f k aL p).1/\New T k (f k aL p).2/\k+(f k aL p).2.length<=ak
 | .nil,q,n0,_,_,i,c,h=>by simp[EU,Tr.get] at h
 | .node v l r,.nil,n0,_,_,i,c,h=>by simp[EU,Tr.get] at h
 | .node v l r,.node v' af r',n0,hnew,hl,i,c,h=>by
  rw[Tr.get_node,Tr.get_node];have e:EU f n0 (.node v l r) (.node v' af r')=(.node (Ms f n0 v v').1 (EU f (n0+(Ms f n0 v v').2.length) l af).1 (EU f (n0+(Ms f n0 v v').2.length+(EU f (n0+(Ms f n0 v v').2.length) l af).2.length) r r').1,(Ms f n0 v v').2++((EU f (n0+(Ms f n0 v v').2.length) l af).2++(EU f (n0+(Ms f n0 v v').2.length+(EU f (n0+(Ms f n0 v v').2.length) l af).2.length) r r').2)):=rfl;rw[e] at hnew hl h;simp only[tq] at hl;rw[Tr.get_node] at h;by_cases u:i=0
  .rw[vC u] at h⊢;rw[vC u];cases v with
   |none=>cases v'<;>cases h
   |some a=>
    cases v' with
    |none=>cases h
    |some E=>
     cases h;refine⟨n0,a,E,tY _,rfl,rfl,rfl,hnew.left,?_⟩;simp only[Ms] at hl;omega
  .rw[vA u] at h⊢;rw[vA u];by_cases C:i % 2=1
   .rw[vC C] at h⊢;rw[vC C];obtain⟨k,aL,p,H,D⟩:=SQ l af _ hnew.right.left (by omega) _ c h;exact⟨k,aL,p,by omega,D⟩
   .rw[vA C] at h⊢;rw[vA C];obtain⟨k,aL,p,H,D⟩:=SQ r r' _ hnew.right.right (by omega) _ c h;exact⟨k,aL,p,by omega,D⟩
theorem AV.get_flat {s:AV}{i:Nat}(h:s.flat.get i=some c):s.get i=some c:=by
 unfold AV.flat at h;split at h
 .rename_i l;have:s.loc=[]:=by simpa using l
  simp[AV.get,this,BF,h]
 .cases h
theorem Vb (C:(aB.eval T).toB=b){X ae:Loc}(Y:X.tmps.n=ae.tmps.n)(y:n<=n0)(p:New T n0 (Gt n0 aB X ae).2)(W:n0+(Gt n0 aB X ae).2.length<=ak){a:Act}(h:Rel T n V (sel b X ae) a w):
  ∃ ab,AH T n V (sel b X ae).mem w ab (Gt n0 aB X ae).1.mem w/\Rel T ak ab (Gt n0 aB X ae).1 a w:=by
 have l:(sel b X ae).mem=sel b X.mem ae.mem:=by cases b<;>rfl
 have u:(sel b X ae).tmps=sel b X.tmps ae.tmps:=by cases b<;>rfl
 have q:=h.mem;rw[l] at q;simp only[Gt,tq] at p W⊢;obtain⟨ao,D,-,-⟩:=NU (ak:=ak) C q y p.left (by omega);rw[l];have hd:=h.defers;rw[l] at hd;refine⟨_,D,hd.on D,?_,?_,ao⟩
 .rw[h.size,u];cases b<;>simp[sel,Y]
 .intro i c H;have M:(EU (Qg (Bc aB n0 X.mem ae.mem).1 X.mem ae.mem aB) (n0+(Bc aB n0 X.mem ae.mem).2.length) X.tmps.flat ae.tmps.flat).1.get i=some c:=by
   simpa [AV.get,BF] using H
  obtain⟨k,aL,E,q1,q2,q3,q4,q5,q6⟩:=SQ (ak:=ak) _ _ _ p.right (by omega) i c M;subst q4;have O:AA T n V (sel b X.mem ae.mem) w (sel b aL E) (a.tmps.getD i undef):=by
   rw[<-l];refine h.tmps i _ ?_;rw[u];cases b
   .exact AV.get_flat q3
   .exact AV.get_flat q2
  exact jv C q y p.left (by omega) (by omega) q5 q6 O
end
section
variable {P:Program}{T:Tab}{call:Au}{r:Option Nat}{k:Nat}
def Cx (P:Program)(r:Option Nat)(k:Nat)(J:Array Oper)(o:Oper)(a:Act)(w:World)(K:Act->World->Prop)(Q:Exit->Act->World->Prop):Prop:=
 if Region.wanted o (yielded J a.tmps) then o.wpIn (fen r) k P a w K Q else K (a.put o.dst undef) w
variable{o:Oper}{a:Act}{w:World}{K:Act->World->Prop}{Q:Exit->Act->World->Prop}{g:G}{V:Nat->Option Nat}{ar:Array TypeId}
theorem Hf (l:∀c,o.op≠ .defer c)(h:o.uponIn (fen r) k P a K Q ((execOp a.eval o).run P w)):o.wpIn (fen r) k P a w K Q:=by
 refine⟨fun _ _=>trivial,?_⟩;rw[Oper.semAt_eq _ _ _ l];exact h
theorem jy {m:Mem}{l:R}(y:∀c,o.op≠ .defer c)(h:BM T g V m w ((execOp a.eval o).run P w) l)
  (u:∀v Z ab,AH T g.n V m w ab l.m Z->AG T (g.n+l.us.length) ab l.m Z->AA T (g.n+l.us.length) ab l.m Z l.c v->K (a.put o.dst v) Z):o.wpIn (fen r) k P a w K Q:=by
 refine Hf y ?_;obtain⟨v,Z, ab,C|⟨C,rfl⟩,O,p,q⟩:=h
 .rw[C];exact u v Z ab O p q
 .rw[C];exact u _ Z ab O p q
theorem lS {f:Operand}{args:Array Operand}{b:Nat}{q:Loop}(D:o.op= .call { callee:= .value f,args,argTypes:=ar })
  (u:a.eval f= .func (.yield b) #[] #[]) (l:w.heap[b]? =some (.loop q)) (y:(args.toList.map a.eval).length=q.params.size):
  (execOp a.eval o).run P w= .ok (.round b q.fn ((q.params.zip (args.toList.map a.eval).toArray).foldl (fun t (p,v)=>t.setIfInBounds p v) q.tmps) q.assign q.body) w:=by
 have E:args.map a.eval=(args.toList.map a.eval).toArray:=by rw[<-Array.toList_map,Array.toArray_toList]
 have C:(args.map a.eval).size=q.params.size:=by simpa using y
 have H:=run_yield (P:=P) (args:=args.map a.eval) l C;simp only[execOp,D,resolve,u,Deferred.ofValue,ua,uh,uZ,invoke];grind
theorem du {f:Operand}{args:Array Operand}{R:Ending->World->Prop}(u:o.op= .call { callee:= .value f,args,argTypes:=ar })
  (h:Ko P (a.eval f) (args.toList.map a.eval) w R) (H:∀e Z,R e Z->∃v,e= .returned v/\K (a.put o.dst v) Z):o.wpIn (fen r) k P a w K Q:=by
 refine Hf (fun c y=>by rw[u] at y;cases y) ?_;rcases h with⟨j,first,I,aF,C,O,l,p,D⟩|⟨b,q,C,O,l,p⟩
 .rw[gI u C O l p,Oper.uponIn_enter];refine⟨fun h=>(by cases h),aW (D.mono fun e Z E=>?_)⟩;grind
 .rw[lS u C O l,Oper.uponIn_round];refine⟨fun h=>(by cases h),RoundIn.mono (p (k - 1)) fun e Z E=>?_⟩;grind
theorem dV {az:Operand->AC}{op:Op}{m:Mem}{r:R}(M:A9 op=true)(h:aOp P az op m g=some r)(H:New T g.n r.us)(ao:∀q∈r.ps,q.holds T)(X:AG T g.n V m w)
  (p:∀x,AA T g.n V m w (az x) (a.eval x)):r.m=m:=by
 cases op<;>simp only[aOp] at h<;>simp only[A9] at M<;>try (cases M;done)
 case move x=>cases h;rfl
 case assign x=>cases h;rfl
 case pick c x y=>exact (PD h H X (p c) (fun _=>p x) (fun _=>p y)).elim fun _ h=>h.2.1
 case build t parts=>
  unfold UX at h;simp only[tX,tU] at h;obtain⟨i,_,z,_,l,_,h⟩:=h;split at h
  .simp only[tU] at h;obtain⟨_,_,af,_,h⟩:=h;cases h;rfl
  .simp only[tU] at h;obtain⟨_,_,af,_,h⟩:=h;cases h;rfl
  .cases h
 case load t x=>obtain⟨u,C,O,D⟩:=OV h H X (p x);exact O
 case nilCheck x=>
  unfold Fl at h;split at h<;>cases h<;>rfl
 case binOp op t x y yt=>obtain⟨z,C,O,D⟩:=Qq h H ao (p x) (p y) x y;exact O
 case unOp op t x=>obtain⟨z,C,O,D⟩:=Zv (P:=P) (w:=w) h H (p x);exact O
 case convert s d x=>obtain⟨z,C,O,D⟩:=Ml h H (p x);exact O
 case makeFunc aF first I=>cases h;rfl
 case fieldAddr t x f=>obtain⟨z,C,O,D,h4⟩:=Jp h (p x);exact O
 case field t x f=>obtain⟨z,C,O,D,h4⟩:=Pe h (p x);exact O
 case indexAddr t x i=>obtain⟨z,C,O,D⟩:=Jr h H ao (p x) (p i);exact O
 case index t x i=>obtain⟨z,C,O,D⟩:=Py h H ao (p x) (p i);exact O
 case extract x i=>obtain⟨z,C,O,D,h4⟩:=Mz (P:=P) h (p x);exact O
 case slice t x ap Y a2=>
  cases a2 with
  |some v=>cases M
  |none=>
   have a3:∀l:Option Operand,Nr T g.n V m w (l.map az) (l.map a.eval):=by
    intro l;cases l with
    |none=>rfl
    |some y=>exact⟨_,rfl,p y⟩
   obtain⟨z,C,O,D⟩:=P7 h H ao X (p x) (a3 ap) (a3 Y);exact O
 case call c=>
  obtain⟨a8,args,ar⟩:=c;cases a8 with
  |value f=>cases h
  |invoke x n=>cases h
  |builtin b=>
   obtain⟨args⟩:=args;simp only at h;unfold Id at h;cases b<;>simp only at M<;>try (cases M;done)
   all_goals
    split at h<;>(try (rename_i ba _;cases ba))<;>try (cases h;done)
   all_goals first
    |(simp only[Qu,tX,tU] at h
      obtain⟨_,_,_,_,h⟩:=h;cases h;rfl)
    |(simp only[tX,tU] at h
      obtain⟨t,ht,h⟩:=h;split at h<;>cases h;rfl)
    |(rename_i x E
      cases args with
      |nil=>cases E
      |cons x1 W=>
       cases W with
       |cons=>cases E
       |nil=>
        simp at E;subst E;simp only[tX,tU] at h;obtain⟨t,ht,h⟩:=h;obtain⟨z,C,O,D⟩:=VG h H X (p x1) ar ht 0;exact O)
    |(rename_i x y E
      cases args with
      |nil=>cases E
      |cons x1 W=>
       cases W with
       |nil=>cases E
       |cons x2 W=>
        cases W with
        |cons=>cases E
        |nil=>
         simp at E;obtain⟨rfl,rfl⟩:=E;obtain⟨z,C,O,D⟩:=Kp (P:=P) h H (p x1) (p x2) ar 0;exact O)
end
section
variable {P:Program}{T:Tab}{V :Nat->Option Nat}{m:Mem}{w:World}{g:G}{r:R}
variable{a:Act}{o:Oper}{az:Operand->AC}{k:Nat}
theorem Wv {b:Builtin}{args:Array Operand}{ar:Array TypeId}(ho:o.op= .call { callee:= .builtin b,args,argTypes:=ar })(h:Id P b ar (args.toList.map az) m g=some r)
  (hf:A9 o.op=true) (W:New T g.n r.us) (ba:∀q∈r.ps,q.holds T) (H:AG T g.n V m w) (D:∀x,AA T g.n V m w (az x) (a.eval x)):A8 T g V m w ((execOp a.eval o).run P w) r:=by
 rw[I5 ho];obtain⟨args⟩:=args;unfold Id at h;split at h
 .rename_i M x l;cases args with
  |nil=>cases l
  |cons u p=>
   cases p with
   |cons=>cases l
   |nil=>
    simp at l;subst l;simp only[tX,tU] at h;obtain⟨t,X,h⟩:=h;obtain⟨z,C,O,E⟩:=VG h W H (D u) ar X o.type;exact A8.pure (by simp[builtin,C]) H O E
 .rename_i M x y l;cases args with
  |nil=>cases l
  |cons u p=>
   cases p with
   |nil=>cases l
   |cons Y p=>
    cases p with
    |cons=>cases l
    |nil=>
     simp at l;obtain⟨rfl,rfl⟩:=l;obtain⟨z,C,O,E⟩:=Kp (P:=P) h W (D u) (D Y) ar o.type;exact A8.pure (by simp at C;simp[builtin,C]) H O E
 .rename_i M x y l;cases args with
  |nil=>cases l
  |cons u p=>
   cases p with
   |nil=>cases l
   |cons Y p=>
    cases p with
    |cons=>cases l
    |nil=>
     simp at l;obtain⟨rfl,rfl⟩:=l;obtain⟨z,C,O,E⟩:=Kp (P:=P) h W (D u) (D Y) ar o.type;exact A8.pure (by simp at C;simp[builtin,C]) H O E
 .rw[ho] at hf;cases hf
 .rename_i M aP aL c2 a3 l;cases args with
  |nil=>cases l
  |cons u p=>
   simp only[tx,List.cons.injEq] at l;obtain⟨rfl,l⟩:=l;obtain⟨z,C,O,E⟩:=K8 (P:=P) (w:=w) _ _ _ (p.map a.eval) g r h W (D u) (by rw[<-l];exact AB.of_map D p);refine A8.pure (v:=z) ?_ H O E;simp only[uE,if_false] at C;simp[builtin,Builtin.min_,C]
 .rename_i M aP aL c2 a3 l;cases args with
  |nil=>cases l
  |cons u p=>
   simp only[tx,List.cons.injEq] at l;obtain⟨rfl,l⟩:=l;obtain⟨z,C,O,E⟩:=K8 (P:=P) (w:=w) _ _ _ (p.map a.eval) g r h W (D u) (by rw[<-l];exact AB.of_map D p);refine A8.pure (v:=z) ?_ H O E;simp only[if_true] at C;simp[builtin,Builtin.max_,C]
 .rename_i M l;cases args with
  |nil=>cases l
  |cons u p=>
   cases p with
   |cons=>simp at l
   |nil=>
    simp at l;simp only[tX,tU] at h;obtain⟨t,X,h⟩:=h;split at h
    .rename_i e hu;cases h;have hx:=D u;rw[l] at hx;have a8:a.eval u= .slice none 0 0:=hx;refine A8.pure (v:= .int .i64 0) ?_ H rfl rfl;simp[builtin,Builtin.cap_,a8,X,run_underlying hu,goInt]
    .cases h
 .cases h
theorem oG (h:aOp P az o.op m g=some r)(hf:A9 o.op=true)(M:New T g.n r.us)(W:∀q∈r.ps,q.holds T)(E:AG T g.n V m w)(p:∀x,AA T g.n V m w (az x) (a.eval x)):
  A8 T g V m w ((execOp a.eval o).run P w) r:=by
 have a0:∀xs:Array Operand,xs.map a.eval=(xs.toList.map a.eval).toArray:=fun xs=>by rw[<-Array.toList_map,Array.toArray_toList]
 have a4:=hf;cases H:o.op<;>rw[H] at h hf<;>simp only[aOp] at h<;>simp only[A9] at hf<;>try (cases hf;done)
 case move x=>cases h;exact A8.same (v:=a.eval x) (by simp[execOp,H]) E rfl (p x)
 case assign x=>cases h;exact A8.same (v:=a.eval x) (by simp[execOp,H]) E rfl (p x)
 case pick c x y=>
  obtain⟨q,C,O,D⟩:=PD h M E (p c) (fun _=>p x) (fun _=>p y);exact A8.pure (v:=if q then a.eval x else a.eval y) (by simp[execOp,H,C,asBool]) E O D
 case build t parts=>exact WK h E H p
 case load t x=>
  obtain⟨u,C,O,D⟩:=OV h M E (p x);exact A8.pure (by simp[execOp,H,C]) E O D
 case nilCheck x=>exact Pw h W E H rfl (p x)
 case binOp op t x y yt=>
  obtain⟨z,C,O,D⟩:=Qq h M W (p x) (p y) x y;exact A8.pure (v:=z) (MF (s:=do eqGuard op t x y (a.eval x) (a.eval y);binOp op t (a.eval x) (a.eval y)) (by simp only[execOp,H]) C) E O D
 case unOp op t x=>
  obtain⟨z,C,O,D⟩:=Zv (P:=P) (w:=w) h M (p x);exact A8.pure (by simp[execOp,H,C]) E O D
 case convert s d x=>
  obtain⟨z,C,O,D⟩:=Ml h M (p x);exact A8.pure (by simp[execOp,H,C]) E O D
 case makeFunc aF first I=>
  cases h;refine A8.same (v:= .func aF (first.map a.eval) (I.map a.eval)) (by simp[execOp,H,Instr.makeFunc]) E rfl ?_;refine⟨first.toList.map a.eval,I.toList.map a.eval,by rw[a0,a0],AB.of_map p _,AB.of_map p _⟩
 case fieldAddr t x f=>
  obtain⟨z,C,O,D,X⟩:=Jp h (p x);exact A8.same (by simp[execOp,H,C]) E O X
 case field t x f=>
  obtain⟨z,C,O,D,X⟩:=Pe h (p x);exact A8.same (by simp[execOp,H,C]) E O X
 case indexAddr t x i=>
  obtain⟨z,C,O,D⟩:=Jr h M W (p x) (p i);exact A8.pure (by simp[execOp,H,C]) E O D
 case index t x i=>
  obtain⟨z,C,O,D⟩:=Py h M W (p x) (p i);rcases D with D|D
  .exact A8.same (by simp[execOp,H,C]) E O D
  .exact A8.pure (by simp[execOp,H,C]) E O D
 case slice t x ap Y a2=>
  cases a2 with
  |some v=>cases hf
  |none=>
   have a1:∀l:Option Operand,Nr T g.n V m w (l.map az) (l.map a.eval):=by
    intro l;cases l with
    |none=>rfl
    |some y=>exact⟨_,rfl,p y⟩
   obtain⟨z,C,O,D⟩:=P7 h M W E (p x) (a1 ap) (a1 Y);exact A8.pure (by simp[execOp,H,C]) E O D
 case extract x i=>
  obtain⟨z,C,O,D,X⟩:=Mz (P:=P) h (p x);exact A8.same (by simp[execOp,H,C]) E O X
 case call c=>
  obtain⟨a3,args,ar⟩:=c;cases a3 with
  |builtin b=>exact Wv H h a4 M W E p
  |value f=>cases h
  |invoke x n=>cases h
theorem Ui (h:aOp P az o.op m g=some r)(u:A9 o.op=true)(D:New T g.n r.us)(E:∀q∈r.ps,q.holds T)(y:AG T g.n V m w)(p:∀x,AA T g.n V m w (az x) (a.eval x)):
  ∃v,(execOp a.eval o).run P w= .ok (.value v) w/\AA T (g.n+r.us.length) V m w r.c v:=by
 obtain⟨v,C,_,l⟩:=oG h u D E y p;exact⟨v,C,l⟩
theorem Vc {op:Op}(h:EM k P az op m g=some r)(l:A9 op=true):aOp P az op m g=some r:=by
 unfold EM at h;split at h
 .exact h
 .split at h
  .cases l
  .cases l
  .cases l
  .cases l
  .cases h
 .split at h
  .cases l
  .exact h
theorem Hz (h:EM k P az o.op m g=some r)(l:A9 o.op=true)(y:New T g.n r.us)(C:∀q∈r.ps,q.holds T)(u:AG T g.n V m w)(p:∀x,AA T g.n V m w (az x) (a.eval x)):
  ∃v,(execOp a.eval o).run P w= .ok (.value v) w/\AA T (g.n+r.us.length) V m w r.c v:=Ui (Vc h l) l y C u p
theorem RV {op:Op}{m:Mem}{g:G}{r:R}(l:A9 op=true)(h:EM k P az op m g=some r){V :Nat->Option Nat}{w:World}(y:New T g.n r.us)(C:∀q∈r.ps,q.holds T)(u:AG T g.n V m w)
  (p:∀x,AA T g.n V m w (az x) (a.eval x)):r.m=m:=dV l (Vc h l) y C u p
theorem Ni {op:Op}(h:EM k P az op m g=some r):∀c,op≠ .defer c:=by
 intro c l;subst l;unfold EM at h;split at h<;>cases h
end
section
variable {P:Program}{T:Tab}{call:Au}{aj:Ys}{r:Option Nat}{ai:Nat}
variable{s an:RS}{aX:Bool}{c:AC}{J:Array Oper}{ac:PC}{o:Oper}{a:Act}{w:World}{g al:G}{V:Nat->Option Nat}{v:Value}
theorem PI {l:PC}{base:List Nat}{j:Nat}{run:Option (PC × List Nat)}(h:EP l base s j aX c=some (run,an)):AX s.g an.g/\an.tmps=s.tmps/\an.mem=s.mem:=by
 cases c<;>simp only[EP] at h<;>try (cases h;done)
 case cb b=>split at h<;>cases h<;>exact⟨AX.refl _,rfl,rfl⟩
 case b x=>cases h;exact⟨AX.push s.g [Cz l x aX],rfl,rfl⟩
 case nb x=>cases h;exact⟨AX.push s.g [Cz l x (!aX)],rfl,rfl⟩
theorem Hq {run:Option (PC × List Nat)}(h:Dj J ac s o=some (run,an)):AX s.g an.g/\an.tmps=s.tmps/\an.mem=s.mem:=by
 unfold Dj at h;split at h
 .cases h;exact⟨AX.refl _,rfl,rfl⟩
 .split at h
  .cases h;exact⟨AX.refl _,rfl,rfl⟩
  .simp only[tX,tU] at h;obtain⟨_,_,_,_,c,_,h⟩:=h;split at h
   .cases h;exact⟨AX.refl _,rfl,rfl⟩
   .simp only[tU] at h;obtain⟨e,_,h⟩:=h;exact PI h
   .exact PI h
theorem UE {n:Nat}{p:List GE}(D:∀e∈p,Fh T J n a e){c:Operand}(u:a.eval c= .bool aX)(H:∀t,c= .tmp t->t < a.tmps.size):∀x∈NY J p c aX,T x= .bool true:=by
 intro x l;cases c with
 |tmp t=>
  simp only[NY,vG,List.mem_filter,tV] at l;obtain⟨e,⟨C,M,hd⟩,rfl⟩:=l;have O:e.want=aX:=by simpa using M
  have y:(J[e.j]?).bind (·.dst)=some t:=by simpa using hd
  refine (D e C).iff.2 ?_;have q:=H t rfl;have E:a.tmps[t]? =some (.bool aX):=by
   have:a.tmps.getD t undef= .bool aX:=u;simp[tf,q] at this;simp[q,this]
  simp only[yielded,y,uM,E,O]
 |_=>simp[NY] at l
theorem Pn (ac:PC)(c:AC):W6 ac [] c=c:=by cases ac<;>rfl
theorem YO {p:Nat}{a0:List Nat}(h:a0≠[])(c:AC):W6 (some p) a0 c= .gd p c:=by cases a0<;>first|exact absurd rfl h|rfl
theorem Ko.mono {fv:Value}{args:List Value}{R u:Ending->World->Prop}(h:Ko P fv args w R)(y:∀e Z,R e Z->u e Z):Ko P fv args w u:=by
 rcases h with⟨k,first,I,aF,C,O,l,p,D⟩|⟨b,q,C,O,l,p⟩
 .exact .inl ⟨k,first,I,aF,C,O,l,p,D.mono y⟩
 .exact .inr ⟨b,q,C,O,l,fun k=>(p k).mono y⟩
def W2 (P:Program)(T:Tab)(args:List AC)(one:AC->PC->Mem->G->Option (AC × Mem × G))(H:G->(Nat->Option Nat)->Mem->World->AC->Value->Prop):Prop:=
 ∀f ac m g c ad al,one f ac m g=some (c,ad,al)->AX g al/\(Agr T al->Aj T al->pcv T ac->BK T g ac->∀ V w fv W,H g V m w f fv->AB T g.n V m w args W->AG T g.n V m w->Ko P fv W w (GY T g V m w c ad al))
theorem JK (a1:CL P T call)(X:Ce P T.lp aj)(args:List AC):W2 P T args (EL call aj args) (fun g V m w f fv=>AA T g.n V m w f fv):=by
 intro f ac m g c ad al h;unfold EL at h;split at h
 .rename_i k first I
  obtain⟨l,aa⟩:=a1 aj k _ ac m g c ad al X h;refine⟨l,fun C M O E V w fv W p D H=>?_⟩;obtain⟨Y,us,q,u,e3⟩:=p;obtain⟨⟨aF,q1,q2,q3⟩,hc⟩:=aa C M O E V w (Y++W++us) ((u.append D).append e3) H;exact .inl ⟨k,Y,us,aF,q,q1,q2,q3,hc⟩
 .rename_i id;split at h
  .rename_i ba st bb;simp only[tX,tU] at h;obtain⟨y,hy,h⟩:=h;obtain⟨l,aa⟩:=X T rfl ba y hy id args ac m g c ad al h;refine⟨l,fun C M O E V w fv W p D H=>?_⟩;obtain⟨b,q,u,_⟩:=p;grind
  .cases h
 .cases h
def Cu (g:G):PC->Prop
 |none=>True
 |some c=>c < g.n
theorem Cu.grow (h:Cu g ac)(k:AX g al):Cu al ac:=by
 cases ac with
 |none=>trivial
 |some c=>exact td h k.n
theorem BK.lt (h:BK T g ac):Cu g ac:=by
 cases ac with
 |none=>trivial
 |some c=>exact h.1
theorem Cu.ok (h:Cu g ac)(l:pcv T ac):BK T g ac:=by
 cases ac with
 |none=>trivial
 |some c=>exact⟨h,true,l⟩
theorem GM {c:Nat}:pcv T (some c)↔(T c).toB=true:=⟨fun h=>by rw[show T c= .bool true from h];rfl,P9⟩
theorem Hc {p:PC}{x:Nat}(h:DX g ac x aX=(p,al)):AX g al/\(Agr T al->Cu g ac->x < g.n->Cu al p/\(pcv T p↔pcv T ac/\(T x).toB=aX)):=by
 have push:∀{p al},(some g.n,g.pushAll [Cz ac x aX])=(p,al)->AX g al/\(Agr T al->Cu g ac->x < g.n->Cu al p/\(pcv T p↔pcv T ac/\(T x).toB=aX)):=by
  intro p al h;cases h;refine⟨AX.push _ _,fun l y q=>⟨by show _ < _;rw[Bb];exact Nat.lt_succ_self _,?_⟩⟩;have u:=l.new.head;rw[GM,u];cases ac with
  |none=>
   simp only[pcv,true_and];cases aX<;>simp[Cz,Ex.eval,oId,VQ,u0,eve,U.toB]
  |some c=>
   rw[GM];cases aX<;>simp[Cz,Ex.eval,QI,u0,u1,eve,evn,U.toB]
 unfold DX at h;split at h
 .cases h;refine⟨AX.refl _,fun l _ q=>⟨q,?_⟩⟩;simp only[pcv,true_and];exact⟨fun h=>by rw[h];rfl,P9⟩
 .exact push h
theorem Me {b:Bool}{aB:Rf}(u:(aB.eval T).toB=b){n n0 ak:Nat}{au ag:Mem}(p:AG T n V (sel b au ag) w){d:AC}(D:n<=n0)
  (q:New T n0 ((Bc aB n0 au ag).2++(Fw (n0+(Bc aB n0 au ag).2.length) aB c d).2))
  (E:n0+((Bc aB n0 au ag).2.length+(Fw (n0+(Bc aB n0 au ag).2.length) aB c d).2.length)<=ak)
  (h:AA T n V (sel b au ag) w (sel b c d) v):
  ∃ ab,AH T n V (sel b au ag) w ab (Bc aB n0 au ag).1 w/\AG T ak ab (Bc aB n0 au ag).1 w/\AA T ak ab (Bc aB n0 au ag).1 w (Fw (n0+(Bc aB n0 au ag).2.length) aB c d).1 v:=by
 obtain⟨C,y,-,-⟩:=NU (ak:=ak) u p D q.left (by omega);have O:=AA.mono y p (tY _) _ _ h;refine⟨_,y,C,pg (n:=n) u (by omega) q.right (by omega) (fun l=>?_) (fun l=>?_)⟩
 .subst l;exact O
 .subst l;exact O
theorem VF {args:List AC}{one:AC->PC->Mem->G->Option (AC × Mem × G)}(b3:W2 P T args one (fun g V m w f fv=>AA T g.n V m w f fv)){x:Nat}{aO:Int}(b2:T x= .int aO)(h0:0<=aO):
  ∀(ce:List AC) (j:Nat),W2 P T args (fun _ ac m g=>Ib one x j ce ac m g) (fun g V m w _ fv=>j<=aO.toNat/\Am T g.n V m w ce (aO.toNat - j) fv)
 |[],j=>fun f ac m g c ad al h=>by simp[Ib] at h
 |[aP],j=>by
  intro f ac m g c ad al h;have h':one aP ac m g=some (c,ad,al):=by cases aP<;>first|exact h|(rename_i cc;cases cc<;>exact h)
  obtain⟨gr,aa⟩:=b3 aP ac m g c ad al h';refine⟨gr,fun hA Y a0 hk V w fv W ⟨hj,p⟩ a3 q=>aa hA Y a0 hk V w fv W ?_ a3 q⟩;cases hd:aO.toNat - j with
  |zero=>rw[hd] at p;exact p
  |succ d=>rw[hd] at p;exact p.elim
 |aP::aL::av,j=>by
  intro f ac m g c ad al h;by_cases cx:aP= .cv .nilFunc
  .subst cx;simp only[Ib] at h;obtain⟨gr,aa⟩:=VF b3 b2 h0 (aL::av) (j+1) f ac m _ c ad al h;refine⟨(AX.need _ _ _).trans gr,fun hA Y a0 hk V w fv W ⟨hj,p⟩ a3 q=>?_⟩;have de:=Aj.need (Y.of gr) a0 ⟨ "ne",pNe,[.e x,.c (.int j)]⟩ (by simp);simp only[Pr.holds,pNe,tx,uW,u0,u1,eve,evc,b2,U.toI] at de;obtain⟨e1,e2,e3,e4⟩:=DB [⟨ "ne",pNe,[.e x,.c (.int j)]⟩] g ac;have hd:aO.toNat - j=(aO.toNat - (j+1))+1:=by omega
   rw[hd] at p;have:=aa hA Y a0 (hk.grow (AX.need _ _ _)) V w fv W ⟨by omega,by rw[e1];exact p⟩ (by rw[e1];exact a3) (by rw[e1];exact q);refine this.mono fun e Z ⟨v, ab,q1,q2,q3,q4⟩=>⟨v, ab,q1,by rw[e1] at q2;exact q2,q3,q4⟩
  .have di:Ib one x j (aP::aL::av) ac m g=(do
     let t:=g.n;let g:=g.pushAll [⟨ "eq",oEq,[.e x,.c (.int j)]⟩];let (pa,g):=DX g ac t true;let (y,aq,g) <-one aP pa m g;let (pb,g):=DX g ac t false;let (D,u,g) <-Ib one x (j+1) (aL::av) pb m g;let (ad,us):=Bc (.e t) g.n aq u;let (aV,dn):=Fw (g.n+us.length) (.e t) y D
     some (aV,ad,g.pushAll (us++dn))):=by
    cases aP<;>first|rfl|(rename_i cc;cases cc<;>first|rfl|exact absurd rfl cx)
   simp only[di] at h;generalize b8:g.pushAll [⟨ "eq",oEq,[.e x,.c (.int j)]⟩]=g0 at h;have M:AX g g0:=by rw[<-b8];exact AX.push _ _
   have d2:g0.n=g.n+1:=by rw[<-b8,Bb];rfl
   generalize c9:DX g0 ac g.n true=ba at h;obtain⟨pa,g1⟩:=ba;simp only[tX,tU] at h;obtain⟨⟨y,aq,ao⟩,C,h⟩:=h;simp only at h;generalize db:DX ao ac g.n false=bb at h;obtain⟨pb,g3⟩:=bb;simp only[tU] at h;obtain⟨⟨D,u,l⟩,O,h⟩:=h;cases h;obtain⟨H,k1⟩:=Hc (T:=T) c9;obtain⟨X,E⟩:=b3 aP pa m g1 y aq ao C;obtain⟨a1,k3⟩:=Hc (T:=T) db;obtain⟨bi,k4⟩:=VF b3 b2 h0 (aL::av) (j+1) f pb m g3 D u l O;have bx:AX l (l.pushAll ((Bc (.e g.n) l.n aq u).2++(Fw (l.n+(Bc (.e g.n) l.n aq u).2.length) (.e g.n) y D).2)):=AX.push _ _;refine⟨((((M.trans H).trans X).trans a1).trans bi).trans bx,fun hA Y a0 hk V w fv W ⟨hj,p⟩ a3 q=>?_⟩;have cl:=hA.of bx;have cj:=cl.of bi;have ci:=cj.of a1;have ch:=ci.of X;have c8:=ch.of H;have hT:T g.n= .bool (decide (aO=j)):=by
    have:Agr T (g.pushAll [⟨ "eq",oEq,[.e x,.c (.int j)]⟩]):=by rw[b8];exact c8
    rw[this.new.head];simp[Ex.eval,oEq,u0,u1,eve,evc,b2,U.toI]
   obtain⟨c1,a2⟩:=k1 ch (hk.lt.grow M) (by omega);obtain⟨c3,a4⟩:=k3 cj (hk.lt.grow ((M.trans H).trans X)) (by have:=H.n;have:=X.n;omega);have cv:=hA.new;have cu:(l.pushAll ((Bc (.e g.n) l.n aq u).2++(Fw (l.n+(Bc (.e g.n) l.n aq u).2.length) (.e g.n) y D).2)).n=l.n+((Bc (.e g.n) l.n aq u).2.length+(Fw (l.n+(Bc (.e g.n) l.n aq u).2.length) (.e g.n) y D).2.length):=by
    rw[Bb,tq]
   by_cases hc:aO=j
   .have cy:pcv T pa:=a2.2 ⟨a0,by rw[hT];simp[hc,U.toB]⟩;have hd:aO.toNat - j=0:=by omega
    rw[hd] at p;have up1:=(M.trans H).n;have:=E ci (Y.of ((a1.trans bi).trans bx)) cy (c1.ok cy) V w fv W (AA.up q up1 p) (a3.up q up1) (q.mono up1);refine this.mono fun e Z ⟨v, ab,q1,q2,q3,q4⟩=>?_;obtain⟨aW,aD,s2,s3⟩:=Me (n:=ao.n) (b:=true) (au:=aq) (ag:=u) (c:=y) (d:=D) (v:=v) (by simp[eve,hT,hc,U.toB]) q3 (a1.trans bi).n cv (Nat.le_of_eq cu.symm) q4;exact⟨v, aW,q1,(q2.down up1).trans q ((M.trans H).trans X).n aD,s2,s3⟩
   .have c0:pcv T pb:=a4.2 ⟨a0,by rw[hT];simp[hc,U.toB]⟩;have hd:aO.toNat - j=(aO.toNat - (j+1))+1:=by omega
    rw[hd] at p;have b6:=(((M.trans H).trans X).trans a1).n;have dd:Am T g.n V m w (aL::av) (aO.toNat - (j+1)) fv:=p;have:=k4 cl (Y.of bx) c0 (c3.ok c0) V w fv W ⟨by omega,Am.mono0 (AH.refl _ _ _ _ _) b6 _ _ _ dd⟩ (a3.up q b6) (q.mono b6);refine this.mono fun e Z ⟨v, ab,q1,q2,q3,q4⟩=>?_;obtain⟨aW,aD,s2,s3⟩:=Me (n:=l.n) (b:=false) (au:=aq) (ag:=u) (c:=y) (d:=D) (v:=v) (by simp[eve,hT,hc,U.toB]) q3 (tY _) cv (Nat.le_of_eq cu.symm) q4;exact⟨v, aW,q1,(q2.down b6).trans q ((((M.trans H).trans X).trans a1).trans bi).n aD,s2,s3⟩
theorem fk (q:CL P T call)(u:Ce P T.lp aj)(args:List AC):W2 P T args (fun f ac m g=>M4 call aj f args ac m g) (fun g V m w f fv=>AA T g.n V m w f fv):=by
 intro f ac m g c ad al h;by_cases aa:∃x l,f= .sel x l
 .obtain⟨x,l,rfl⟩:=aa;simp only[M4] at h;by_cases hx:∃aO,T x= .int aO/\0<=aO
  .obtain⟨aO,C,O⟩:=hx;obtain⟨gr,k⟩:=VF (JK q u args) C O l 0 .any ac m g c ad al h;refine⟨gr,fun hA a8 bi hk V w fv W ⟨_,j,p,_,Y⟩ a1 hm=>k hA a8 bi hk V w fv W ⟨uQ _,?_⟩ a1 hm⟩;rw[C] at p;cases p;exact Y
  .
   refine⟨?_,fun hA a8 bi hk V w fv W ⟨_,j,p,e2,Y⟩ a1 hm=>absurd ⟨j,p,e2⟩ hx⟩;have grow:∀(l:List AC) (j:Nat) (ac:PC) (m:Mem) (g:G) (c:AC) (ad:Mem) (al:G),Ib (EL call aj args) x j l ac m g=some (c,ad,al)->AX g al:=by
    intro l;induction l with
    |nil=>intro j ac m g c ad al h;simp[Ib] at h
    |cons aP l ih=>
     intro j ac m g c ad al h;cases l with
     |nil=>
      have h':EL call aj args aP ac m g=some (c,ad,al):=by cases aP<;>first|exact h|(rename_i E;cases E<;>exact h)
      exact (JK q u args aP ac m g c ad al h').1
     |cons aL av=>
      by_cases a4:aP= .cv .nilFunc
      .subst a4;simp only[Ib] at h;exact (AX.need _ _ _).trans (ih (j+1) ac m _ c ad al h)
      .have b4:Ib (EL call aj args) x j (aP::aL::av) ac m g=(do
         let t:=g.n;let g:=g.pushAll [⟨ "eq",oEq,[.e x,.c (.int j)]⟩];let (M,g):=DX g ac t true;let (y,aq,g) <-EL call aj args aP M m g;let (X,g):=DX g ac t false;let (D,H,g) <-Ib (EL call aj args) x (j+1) (aL::av) X m g;let (ad,us):=Bc (.e t) g.n aq H;let (aV,b5):=Fw (g.n+us.length) (.e t) y D
         some (aV,ad,g.pushAll (us++b5))):=by
        cases aP<;>first|rfl|(rename_i E;cases E<;>first|rfl|exact absurd rfl a4)
       simp only[b4] at h;generalize b2:DX (g.pushAll [⟨ "eq",oEq,[.e x,.c (.int j)]⟩]) ac g.n true=ba at h;obtain⟨M,g1⟩:=ba;simp only[tX,tU] at h;obtain⟨⟨y,aq,ao⟩,C,h⟩:=h;simp only at h;generalize b3:DX ao ac g.n false=bb at h;obtain⟨X,g3⟩:=bb;simp only[tU] at h;obtain⟨⟨D,H,g4⟩,O,h⟩:=h;cases h;exact ((((AX.push _ _).trans (Hc (T:=T) b2).1).trans (JK q u args aP M m g1 y aq ao C).1).trans (Hc (T:=T) b3).1).trans ((ih (j+1) X m g3 D H g4 O).trans (AX.push _ _))
   exact grow l 0 ac m g c ad al h
 .have:M4 call aj f args ac m g=EL call aj args f ac m g:=by
   unfold M4;split
   .exact absurd ⟨_,_,rfl⟩ aa
   .rfl
  simp only[this] at h;exact JK q u args f ac m g c ad al h
theorem oM {n:Nat}{m:Mem}{a:AC}(l:∀q∈Xz a,q.holds T)(h:AA T n V m w a v):AA T n V m w (XC a) v:=by
 unfold XC;split
 .rename_i c i o;have:=l ⟨ "t",pT,[.e c]⟩ (by simp[Xz]);simp only[Pr.holds,pT,tx,uW,u0,eve] at this;exact h.2 (GM.2 this)
 .exact h
theorem Vl {n:Nat}{V :Nat->Option Nat}{m:Mem}{w:World}:∀{l:List AC} {W:List Value},(∀q∈Ip l,q.holds T)->AB T n V m w l W->AB T n V m w (l.map XC) W
 |[],_,_,h=>h
 |a::l,_,hq,⟨u,us,e,C,O⟩=>⟨u,us,e,oM (fun q p=>hq q (by simp[Ip,p])) C,Vl (fun q p=>hq q (by simp[Ip,p])) O⟩
theorem O5 {m:Mem}{l:R}{K:Act->World->Prop}{Q:Exit->Act->World->Prop}(D:∀c,o.op≠ .defer c)(h:BM T g V m w ((execOp a.eval o).run P w) l)
  (E:A9 o.op=true->∃x,(execOp a.eval o).run P w= .ok x w)
  (u:∀v Z ab,AH T g.n V m w ab l.m Z->AG T (g.n+l.us.length) ab l.m Z->AA T (g.n+l.us.length) ab l.m Z l.c v->(A9 o.op=true->Z=w)->K (a.put o.dst v) Z):o.wpIn (fen r) ai P a w K Q:=by
 refine Hf D ?_;obtain⟨v,Z, ab,C|⟨C,rfl⟩,O,p,q⟩:=h
 .rw[C];refine u v Z ab O p q fun y=>?_;grind
 .rw[C];refine u _ Z ab O p q fun y=>?_;grind
theorem JO (dj:CL P T call)(d9:Ce P T.lp aj)(h:Bt P call aj J ac s o=some an):
  AX s.g an.g/\(Agr T an.g->Aj T an.g->pcv T ac->BK T s.g ac->∀ V a w K Q,Bu T V J s a w->
   (∀ ab v Z,Bu T ab J an (a.put o.dst v) Z->AH T s.g.n V s.mem w ab an.mem Z->(A9 o.op=true->Z=w)->K (a.put o.dst v) Z)->Cx P r ai J o a w K Q):=by
 unfold Bt at h;simp only[tX,tU] at h;obtain⟨⟨run,aD⟩,hg,h⟩:=h;obtain⟨cj,eb,ee⟩:=Hq hg;simp only at h;split at h
 .cases h
 rename_i dk;have hd:aD.gl.any (fun e=>((J[e.j]?).bind (·.dst))==o.dst)=false:=by simpa using dk
 split at h
 .
  cases h;refine⟨cj,fun hA _ c1 hk V a w K Q Y O=>?_⟩;obtain⟨e1,e2,_,l,e3,_⟩:=OW hg hA c1 hk Y;unfold Cx;rw[e3 rfl];simp only[uE,if_false];have:=l.put hd (AX.refl _) (AH.refl T aD.g.n V aD.mem w) l.rel.mem (c:= .tup []) (v:=undef) ⟨[],rfl,rfl⟩;exact O V _ w this (by rw[show aD.mem=s.mem from e2];exact AH.refl _ _ _ _ _) (fun _=>rfl)
 .rename_i M a0;have b1:∀(ao:G) (c:AC) (a3:Mem),AX aD.g ao->an={ aD with tmps:=Cv aD.tmps o.dst (W6 M a0 c),mem:=a3,g:=ao }->
    (a0≠[]->∀p,M=some p->(T p).toB=false->Agr T ao->∀ V w,AG T aD.g.n V aD.mem w->∃ ab,AH T aD.g.n V aD.mem w ab a3 w/\AG T ao.n ab a3 w)->
    (∀ V a w,Bu T V J aD a w->(∀c∈a0,T c= .bool true)->Agr T ao->Aj T ao->pcv T M->BK T aD.g M->∀K Q,(∀v ab Z,AH T aD.g.n V aD.mem w ab a3 Z->AG T ao.n ab a3 Z->AA T ao.n ab a3 Z c v->(A9 o.op=true->Z=w)->K (a.put o.dst v) Z)->o.wpIn (fen r) ai P a w K Q)->
    AX s.g an.g/\(Agr T an.g->Aj T an.g->pcv T ac->BK T s.g ac->∀ V a w K Q,Bu T V J s a w->
     (∀ ab v Z,Bu T ab J an (a.put o.dst v) Z->AH T s.g.n V s.mem w ab an.mem Z->(A9 o.op=true->Z=w)->K (a.put o.dst v) Z)->Cx P r ai J o a w K Q):=by
   intro ao c a3 D d6 dn c2;subst d6;refine⟨cj.trans D,fun hA c0 c1 hk V a w K Q Y O=>?_⟩;have H:Agr T ao:=hA;obtain⟨e1,e2,_,l,_,e4⟩:=OW hg (H.of D) c1 hk Y;obtain⟨f1,f2,f3,f4,f5⟩:=e4 M a0 rfl;have step:∀{ab Z},AH T aD.g.n V aD.mem w ab a3 Z->AH T s.g.n V s.mem w ab a3 Z:=fun aa=>by
    rw[<-show aD.mem=s.mem from e2];exact aa.down cj.n
   unfold Cx;by_cases u:pcv T M
   .rw[f1.2 u];simp only[if_true];refine c2 V a w l (f2 u) H c0 u f3 K Q (fun v ab Z k1 E X k4=>?_);refine O ab _ Z (l.put hd D k1 E ?_) (step k1) k4;by_cases b0:a0=[]
    .subst b0;rw[Pn];exact X
    .obtain⟨⟨p,rfl⟩,_⟩:=f5 b0;rw[YO b0];exact⟨td f3.1 D.n,fun _=>X,fun hn=>absurd u hn⟩
   .have hw:Region.wanted o (yielded J a.tmps)=false:=by
     cases hw:Region.wanted o (yielded J a.tmps) with
     |false=>rfl
     |true=>exact absurd (f1.1 hw) u
    rw[hw];simp only[uE,if_false];have b0:a0≠[]:=fun h=>u (f4 h);obtain⟨⟨p,rfl⟩,_⟩:=f5 b0;have d4:(T p).toB=false:=by
     cases hb:(T p).toB with
     |false=>rfl
     |true=>exact absurd (GM.2 hb) u
    obtain⟨ab,bj,d1⟩:=dn b0 p rfl d4 H V w l.rel.mem;refine O ab _ w (l.put hd D bj d1 (v:=undef) ?_) (step bj) (fun _=>rfl);rw[YO b0];exact⟨td f3.1 D.n,fun h=>absurd h u,fun _=>rfl⟩
  have ce:∀{a3:Mem} {ao:G},AX aD.g ao->(∀id,a3.at id=aD.mem.at id\/a3.at id= .gone)->(a0≠[]->∀p,M=some p->(T p).toB=false->Agr T ao->∀ V w,AG T aD.g.n V aD.mem w->∃ ab,AH T aD.g.n V aD.mem w ab a3 w/\AG T ao.n ab a3 w):=
   fun D hw _ _ _ _ _ V w hm=>⟨V,AH.weaken hw,(hm.mono D.n).weaken hw⟩
  have c3:∀(us:List Ex) (ps:List Pr),AX aD.g ((aD.g.pushAll us).needAll M ps)/\(Agr T ((aD.g.pushAll us).needAll M ps)->New T aD.g.n us)/\
    (Aj T ((aD.g.pushAll us).needAll M ps)->pcv T M->∀q∈ps,q.holds T)/\((aD.g.pushAll us).needAll M ps).n=aD.g.n+us.length:=by
   intro us ps;obtain⟨q1,_⟩:=DB ps (aD.g.pushAll us) M;exact⟨(AX.push _ _).trans (AX.need _ _ _),fun hA=>hA.need.new,fun c0 u=>Aj.need c0 u,by rw[q1,Bb]⟩
  split at h
  .
   rename_i f args ar ho;simp only[tU] at h;obtain⟨⟨c,ag,ao⟩,hc,h⟩:=h;obtain⟨c6,d7⟩:=fk dj d9 _ _ M aD.mem _ c ag ao hc;have c7:AX aD.g (aD.g.needAll M (Ip (args.toList.map (C0 a0 aD.tmps)))):=AX.need _ _ _;have D:AX aD.g ao:=c7.trans c6;have en:(aD.g.needAll M (Ip (args.toList.map (C0 a0 aD.tmps)))).n=aD.g.n:=(DB _ aD.g M).1;have run:∀ V a w,Bu T V J aD a w->(∀c∈a0,T c= .bool true)->Agr T ao->Aj T ao->pcv T M->BK T aD.g M->∀K Q,(∀v ab Z,AH T aD.g.n V aD.mem w ab ag Z->AG T ao.n ab ag Z->AA T ao.n ab ag Z c v->(A9 o.op=true->Z=w)->K (a.put o.dst v) Z)->o.wpIn (fen r) ai P a w K Q:=by
    intro V a w l a2 H W u bs K Q O;have a8:=GA l.rel a2;have di:=AB.of_map a8 args.toList;have bj:=Vl (Aj.need (W.of c6) u) di;refine du ho (d7 H W u (bs.grow c7) V w _ _ (by show AA T _ V aD.mem w _ _;rw[en];exact a8 f) (by rw[en];exact bj) (by rw[en];exact l.rel.mem)) fun e Z hh=>?_;obtain⟨v, ab,rfl,k1,E,X⟩:=hh;rw[en] at k1;exact⟨v,rfl,O v ab Z k1 E X (fun hf=>by rw[ho] at hf;cases hf)⟩
   split at h
   .
    cases h;exact b1 ao c ag D (by rw[Pn]) (fun h=>absurd rfl h) run
   .
    split at h
    .rename_i cx;cases h;obtain⟨cc,cl⟩:=GD cx;have b4:∀id,Mem.at (aD.mem++List.replicate (ag.length - aD.mem.length) .gone) id=ag.at id\/Mem.at (aD.mem++List.replicate (ag.length - aD.mem.length) .gone) id= .gone:=by
      intro id;rw[N9];split
      .rename_i cu;exact .inl (cl id cu).symm
      .split
       .exact .inr rfl
       .exact .inl (Mem.at_ge (by omega)).symm
     refine b1 ao c _ D rfl (ce D fun id=>?_) (fun V a w l a2 H W u bs K Q O=>?_)
     .rw[N9];split
      .exact .inl rfl
      .split
       .exact .inr rfl
       .exact .inl (Mem.at_ge (by omega)).symm
     .refine run V a w l a2 H W u bs K Q (fun v ab Z k1 E X k4=>?_);have bj:AH T ao.n ab ag Z ab (aD.mem++List.replicate (ag.length - aD.mem.length) .gone) Z:=AH.weaken b4;exact O v ab Z (k1.trans l.rel.mem D.n bj) (E.weaken b4) (AA.mono bj E (tY _) c v X) k4
    .
     split at h
     .rename_i p;cases h;have ca:AX ao (ao.pushAll (Bc (.e p) ao.n ag aD.mem).2):=AX.push _ _;have cc:(ao.pushAll (Bc (.e p) ao.n ag aD.mem).2).n=ao.n+(Bc (.e p) ao.n ag aD.mem).2.length:=by rw[Bb]
      refine b1 _ c _ (D.trans ca) rfl (fun _ q hq hf hA V w hm=>?_) (fun V a w l a2 H W u bs K Q O=>?_)
      .cases hq;have d0:AG T aD.g.n V (sel false ag aD.mem) w:=hm;obtain⟨q1,q2,-,-⟩:=NU (T:=T) (n:=aD.g.n) (ak:=(ao.pushAll (Bc (.e p) ao.n ag aD.mem).2).n) (w:=w) (au:=ag) (ag:=aD.mem) (b:=false) (aB:= .e p) (by show (T p).toB=false;exact hf) d0 D.n hA.new (Nat.le_of_eq cc.symm);exact⟨_,q2,q1⟩
      .refine run V a w l a2 (H.of ca) (W.of ca) u bs K Q (fun v ab Z k1 E X k4=>?_);have ea:AG T ao.n ab (sel true ag aD.mem) Z:=E;obtain⟨q1,q2,-,-⟩:=NU (T:=T) (n:=ao.n) (ak:=(ao.pushAll (Bc (.e p) ao.n ag aD.mem).2).n) (w:=Z) (au:=ag) (ag:=aD.mem) (b:=true) (aB:= .e p) (by show (T p).toB=true;exact GM.1 u) ea (tY _) H.new (Nat.le_of_eq cc.symm);have c8:AH T ao.n ab ag Z _ _ Z:=q2;exact O v _ Z (k1.trans l.rel.mem D.n c8) q1 (AA.mono c8 E ca.n c v X) k4
     .cases h
  .
   rename_i c x y ho;simp only[tU] at h;obtain⟨aI,hr,h⟩:=h;cases h;obtain⟨D,ga,gp,a4⟩:=c3 aI.us aI.ps;refine b1 _ aI.c aD.mem D rfl (ce D fun id=> .inl rfl) (fun V a w l a2 H W u bs K Q O=>?_);have a8:=GA l.rel a2;have size:∀b,a.eval c= .bool b->∀t,c= .tmp t->t < a.tmps.size:=by
    intro b hb t ht;subst ht;rcases tu t a.tmps.size with h|h
    .exact h
    .have:a.tmps.getD t undef= .bool b:=hb;rw[tf,Array.getElem?_eq_none h] at this;cases this
   obtain⟨q,e1,e2,e3⟩:=PD (V := V) (w:=w) hr (ga H) l.rel.mem (a8 c)
    (fun hb=>Qz (UE l.ges hb (size _ hb)) (a8 x)) (fun hb=>Qz (UE l.ges hb (size _ hb)) (a8 y))
   have c2:(execOp a.eval o).run P w= .ok (.value (if q then a.eval x else a.eval y)) w:=by simp[execOp,ho,e1,asBool]
   refine Hf (fun c hc=>by rw[ho] at hc;cases hc) ?_;rw[c2];refine O _ V w (AH.refl _ _ _ _ _) (l.rel.mem.mono D.n) ?_ (fun _=>rfl);rw[a4];exact e3
  .
   rename_i ei ej;simp only[tU] at h;obtain⟨aI,hr,h⟩:=h;obtain⟨D,ga,gp,a4⟩:=c3 aI.us aI.ps;split at h
   .
    cases h;refine b1 _ aI.c aI.m D (by rw[Pn]) (fun h=>absurd rfl h) (fun V a w l a2 H W u bs K Q O=>?_);refine O5 (Ni hr) (Ub hr (ga H) (gp W u) l.rel.mem (GA l.rel a2)) (fun hf=>let⟨v,C,_⟩:=Hz hr hf (ga H) (gp W u) l.rel.mem (GA l.rel a2);⟨_,C⟩) (fun v Z ab k1 E X k4=>?_);rw[<-a4] at E X;exact O v ab Z k1 E X k4
   .split at h
    .rename_i dm;cases h;refine b1 _ aI.c aD.mem D rfl (ce D fun id=> .inl rfl) (fun V a w l a2 H W u bs K Q O=>?_);have a8:=GA l.rel a2;have d2:=RV dm hr (ga H) (gp W u) l.rel.mem a8;refine O5 (Ni hr) (Ub hr (ga H) (gp W u) l.rel.mem a8) (fun hf=>let⟨v,C,_⟩:=Hz hr hf (ga H) (gp W u) l.rel.mem a8;⟨_,C⟩) (fun v Z ab k1 E X k4=>?_);rw[<-a4] at E X;rw[d2] at k1 E X;exact O v ab Z k1 E X k4
    .split at h
     .rename_i cx;cases h;obtain⟨cc,cl⟩:=GD cx;have b4:∀id,Mem.at (aD.mem++List.replicate (aI.m.length - aD.mem.length) .gone) id=aI.m.at id\/Mem.at (aD.mem++List.replicate (aI.m.length - aD.mem.length) .gone) id= .gone:=by
       intro id;rw[N9];split
       .rename_i cu;exact .inl (cl id cu).symm
       .split
        .exact .inr rfl
        .exact .inl (Mem.at_ge (by omega)).symm
      refine b1 _ aI.c _ D rfl (ce D fun id=>?_) (fun V a w l a2 H W u bs K Q O=>?_)
      .rw[N9];split
       .exact .inl rfl
       .split
        .exact .inr rfl
        .exact .inl (Mem.at_ge (by omega)).symm
      .have a8:=GA l.rel a2;refine O5 (Ni hr) (Ub hr (ga H) (gp W u) l.rel.mem a8) (fun hf=>let⟨v,C,_⟩:=Hz hr hf (ga H) (gp W u) l.rel.mem a8;⟨_,C⟩) (fun v Z ab k1 E X k4=>?_);have bj:AH T (aD.g.n+aI.us.length) ab aI.m Z ab (aD.mem++List.replicate (aI.m.length - aD.mem.length) .gone) Z:=AH.weaken b4;have q2:=E.weaken b4;have q3:=AA.mono bj E (tY _) aI.c v X;rw[<-a4] at q2 q3;exact O v ab Z (k1.trans l.rel.mem (Nat.le_add_right _ _) bj) q2 q3 k4
     .cases h
theorem K6 (l:CL P T call)(p:Ce P T.lp aj)(h:Bt P call aj J ac s o=some an):
  AX s.g an.g/\(Agr T an.g->Aj T an.g->pcv T ac->BK T s.g ac->∀ V a w K Q,Bu T V J s a w->
   (∀ ab v Z,Bu T ab J an (a.put o.dst v) Z->AH T s.g.n V s.mem w ab an.mem Z->K (a.put o.dst v) Z)->Cx P r ai J o a w K Q):=by
 obtain⟨C,O⟩:=JO (r:=r) (ai:=ai) l p h;grind
theorem Jn (H:CL P T call)(a1:Ce P T.lp aj){J:Array Oper}{ac:PC}:∀{l:List Oper} {s an:RS},DL P call aj J ac l s=some an->
  AX s.g an.g/\(Agr T an.g->Aj T an.g->pcv T ac->BK T s.g ac->∀(k:Nat) V a w Q,(∀j,l[j]? =J[k+j]?)->Bu T V J s a w->
   (∀ ab y Z,Bu T ab J an y Z->AH T s.g.n V s.mem w ab an.mem Z->Q .normal y Z)->wpOpsIn (fen r) ai P J Q (List.range' k l.length) a w)
 |[],s,an,h=>by
  simp only[DL] at h;cases h;exact⟨AX.refl _,fun _ _ _ _ k V a w Q _ Y q=>q V a w Y (AH.refl _ _ _ _ _)⟩
 |o::l,s,an,h=>by
  simp only[DL,tX,tU] at h;obtain⟨aD,C,O⟩:=h;obtain⟨p,k1⟩:=K6 (r:=r) (ai:=ai) H a1 C;obtain⟨ao,E⟩:=Jn H a1 O;refine⟨p.trans ao,fun D X a0 M k V a w Q W Y q=>?_⟩;have ho:J[k]? =some o:=by simpa using (W 0).symm
  have:=k1 (D.of ao) (X.of ao) a0 M V a w (wpOpsIn (fen r) ai P J Q (List.range' (k+1) l.length)) Q Y (fun ab v' Z a3 aa=>by
   refine E D X a0 (M.grow p) (k+1) ab _ Z Q (fun j=>by have:=W (j+1);simpa [Nat.add_assoc,Nat.add_comm 1 j] using this) a3 (fun aW a2 w2 a4 ba=>?_);exact q aW a2 w2 a4 (aa.trans Y.rel.mem p.n ba))
  simp only[uJ,List.range'_succ,wpOpsIn,ho];unfold Cx at this;split
  .rename_i u;rw[vC u] at this;exact this
  .rename_i u;rw[vA u] at this;exact⟨fun _ _=>trivial,this⟩
end
def NB (J:Array Oper)(listed:Array Bool):Prop:=
 ∀j o,J[j]? =some o->listed.getD j false=true->∀e∈o.after,Region.binds .any e=true->listed.getD e.on false=true
theorem LA {listed:Array Bool}{aA:List Nat}(p:∀(j r:Nat),aA[j]? =some r->listed.getD j false=true->∀i,r.testBit i=true->listed.getD i false=true):
  ∀(aw:List Edge),(∀e∈aw,Region.binds .any e=true->listed.getD e.on false=true)->∀i,(Eo aA aw).testBit i=true->listed.getD i false=true
 |[],_,i,h=>by simp[Eo] at h
 |e::aw,hes,i,h=>by
  simp only[Eo] at h;split at h
  .rename_i u;have l:=hes e (tl ..) u;simp only[show∀x y,Nat.lor x y=x ||| y from fun _ _=>rfl,Nat.testBit_or,uN] at h;rcases h with (h|h)|h
   .rw[Nat.testBit_two_pow] at h;have:e.on=i:=by simpa using h
    rw[<-this];exact l
   .cases q:aA[e.on]? with
    |none=>rw[q] at h;simp at h
    |some r=>rw[q] at h;exact p e.on r q l i h
   .exact LA p aw (fun e l=>hes e (th _ l)) i h
  .exact LA p aw (fun e l=>hes e (th _ l)) i h
theorem Np {listed:Array Bool}:∀(l:List Oper) (p:List Oper) (aA:List Nat),aA.length=p.length->
  (∀j o,(p++l)[j]? =some o->listed.getD j false=true->∀e∈o.after,Region.binds .any e=true->listed.getD e.on false=true)->
  (∀(j r:Nat) (o:Oper),aA[j]? =some r->(p++l)[j]? =some o->(∀e∈o.after,Region.binds .any e=true->listed.getD e.on false=true)->∀i,r.testBit i=true->listed.getD i false=true)->
  (AW l aA).length=(p++l).length/\∀(j r:Nat) (o:Oper),(AW l aA)[j]? =some r->(p++l)[j]? =some o->(∀e∈o.after,Region.binds .any e=true->listed.getD e.on false=true)->∀i,r.testBit i=true->listed.getD i false=true
 |[],p,aA,hlen,_,h=>⟨by simp[AW,hlen],h⟩
 |o::l,p,aA,hlen,hc,h=>by
  simp only[AW];have e:p++o::l=(p++[o])++l:=by simp
  rw[e];refine Np l (p++[o]) _ (by simp[hlen]) (by rw[<-e];exact hc) ?_;intro j r D q u;rw[uw] at q;split at q
  .rename_i y;exact h j r D q (by rw[e];exact u)
  .rename_i y;have O:j=aA.length:=by
    rcases tu (j - aA.length) 1 with C|C
    .omega
    .rw[uO (by simpa using C)] at q;cases q
   subst O;simp at q;subst q;have W:D=o:=by
    rw[hlen] at u;simp at u;exact u.symm
   subst W;intro M;refine LA (fun j r q y=>?_) _ (fun e H=>M e (by simpa using H));obtain⟨o2,E⟩:∃o2,(p++D::l)[j]? =some o2:=by
    have:j < aA.length:=(tc.1 q).1;exact⟨_,tZ (by simp;omega)⟩
   exact h j r o2 q E (hc j o2 E y)
variable{J:Array Oper}{j:Nat}
theorem CN {listed:Array Bool}(q:NB J listed){r:Nat}{o:Oper}(p:(AW J.toList [])[j]? =some r)(l:J[j]? =some o)
  (u:∀e∈o.after,Region.binds .any e=true->listed.getD e.on false=true):∀i,r.testBit i=true->listed.getD i false=true:=
 (Np (listed:=listed) J.toList [] [] rfl (fun j o l=>q j o (by simpa using l)) (fun j r o p=>by simp at p)).2 j r o p (by simpa using l) u
theorem CY (J:Array Oper):(AW J.toList []).length=J.size:=by
 have:=(Np (listed:= #[]) J.toList [] [] rfl (fun j o _ h=>by simp at h) (fun j r o l=>by simp at l)).1;simpa using this
theorem E2:∀(l:List Nat) (k:Nat),GB l k=true->∀(j r:Nat),l[j]? =some r->∀i,r.testBit i=true->i < k+j
 |[],_,_,j,r,hr=>by simp at hr
 |r0::l,k,h,j,r,hr=>by
  simp only[GB,tV] at h;intro i Y;cases j with
  |zero=>
   simp at hr;subst hr;have C:r0 < 2 ^ k:=by have:=h.1;rw[Nat.blt_eq] at this;exact this
   rcases tu i k with q|p
   .omega
   .have:=Nat.testBit_lt_two_pow (x:=r0) (i:=i) (td C (Nat.pow_le_pow_right (by decide) p));rw[this] at Y;cases Y
  |succ j=>
   have:=E2 l (k+1) h.2 j r (by simpa using hr) i Y;omega
theorem Lq:∀(l:List Nat) (k h:Nat),h<=k->Ep l k h<=k+l.length/\h<=Ep l k h/\∀(j r:Nat),l[j]? =some r->Ep l k h<=k+j->∀i,i < k+j->r.testBit i=true
 |[],k,h,hk=>⟨by simpa [Ep] using hk,tY _,fun j r p=>by simp at p⟩
 |r0::l,k,h,hk=>by
  simp only[Ep];by_cases u:Nat.beq (r0+1) (2 ^ k)=true
  .rw[vC u];obtain⟨C,O,q⟩:=Lq l (k+1) h (by omega);refine⟨by simp;omega,O,fun j r p y i Y=>?_⟩;cases j with
   |zero=>
    simp at p;subst p;have D:r0=2 ^ k - 1:=by have:=tW u;omega
    rw[D,Nat.testBit_two_pow_sub_one];simpa using Y
   |succ j=>exact q j r (by simpa using p) (by omega) i (by omega)
  .rw[vA u];obtain⟨C,O,q⟩:=Lq l (k+1) (k+1) (by omega);refine⟨by simp;omega,by omega,fun j r p y i Y=>?_⟩;cases j with
   |zero=>omega
   |succ j=>exact q j r (by simpa using p) (by omega) i (by omega)
theorem Px:∀{l:List Tmp},Fz l=true->l.Nodup
 |[],_=>List.nodup_nil
 |t::l,h=>by
  simp only[Fz,tV] at h;refine List.nodup_cons.2 ⟨fun p=>?_,Px h.2⟩;have:=h.1;simp[p] at this
theorem C3 (h:Fz (J.toList.filterMap (·.dst))=true){i:Nat}{p aq:Oper}{d:Tmp}(Y:J[i]? =some p)(q:J[j]? =some aq)(u:p.dst=some d)(y:aq.dst=some d):i=j:=by
 have H:∀(l:List Oper) (i j:Nat) (p aq:Oper),(l.filterMap (·.dst)).Nodup->l[i]? =some p->l[j]? =some aq->p.dst=some d->aq.dst=some d->i=j:=by
  intro l;induction l with
  |nil=>intro i j p aq _ Y;simp at Y
  |cons o l E=>
   intro i j p aq C Y q u y;cases i with
   |zero=>
    cases j with
    |zero=>rfl
    |succ j=>
     simp at Y q;subst Y;rw[List.filterMap_cons_some u] at C;exact absurd (List.mem_filterMap.2 ⟨aq,uH.2 ⟨j,q⟩,y⟩) (List.nodup_cons.1 C).1
   |succ i=>
    cases j with
    |zero=>
     simp at Y q;subst q;rw[List.filterMap_cons_some y] at C;exact absurd (List.mem_filterMap.2 ⟨p,uH.2 ⟨i,Y⟩,u⟩) (List.nodup_cons.1 C).1
    |succ j=>
     simp at Y q;have D:(l.filterMap (·.dst)).Nodup:=by
      grind
     rw[E i j p aq D Y q u y]
 exact H J.toList i j p aq (Px h) (by simpa using Y) (by simpa using q) u y
theorem RB:∀(l:List Oper) (k:Nat) (t:Tmp) (i:Nat) (o:Oper),(∀(i j:Nat) (q aq:Oper),l[i]? =some q->l[j]? =some aq->q.dst=some t->aq.dst=some t->i=j)->l[i]? =some o->o.dst=some t->Ay (An k l) t=some (k+i)
 |[],_,_,i,o,_,ho,_=>by simp at ho
 |o0::l,k,t,i,o,hinj,ho,hd=>by
  by_cases p:o0.dst=some t
  .have:i=0:=hinj i 0 o o0 ho (by simp) hd p;subst this;simp[An,p,Ay]
  .cases i with
   |zero=>simp at ho;subst ho;exact absurd hd p
   |succ i=>
    have W:=RB l (k+1) t i o (fun i j q aq C O D E=>by have:=hinj (i+1) (j+1) q aq (by simpa using C) (by simpa using O) D E;omega) (by simpa using ho) hd;rw[show k+(i+1)=k+1+i by omega,<-W];cases u:o0.dst with
    |none=>simp[An,u]
    |some y=>
     have M:Nat.beq y t=false:=by
      cases H:Nat.beq y t with
      |false=>rfl
      |true=>exact absurd (by rw[u,tW H]) p
     simp[An,u,Ay,M]
theorem H3 (D:List (Tmp × Nat))(ok:Nat->Bool)(s:AV):∀(l:List Tmp) (t:Tmp) (c:AC),BF (B7 D ok s l) t=some c->s.get t=some c/\∀i,Ay D t=some i->ok i=true
 |[],t,c,h=>by simp[B7,BF] at h
 |t0::r,t,c,h=>by
  simp only[B7] at h;cases p:s.get t0 with
  |none=>rw[p] at h;exact H3 D ok s r t c h
  |some aP=>
   rw[p] at h;have y:(BF ((t0,aP)::B7 D ok s r) t=some c/\∀i,Ay D t0=some i->ok i=true)\/BF (B7 D ok s r) t=some c:=by
    simp only at h;cases q:Ay D t0 with
    |none=>rw[q] at h;exact .inl ⟨by simpa using h,fun i Y=>by cases Y⟩
    |some i=>
     rw[q] at h;simp only at h;split at h
     .rename_i u;exact .inl ⟨h,fun i Y=>by cases Y;exact u⟩
     .exact .inr h
   rcases y with⟨C,O⟩|C
   .rw[IM] at C;split at C
    .rename_i e;subst e;cases C;exact⟨p,O⟩
    .exact H3 D ok s r t c C
   .exact H3 D ok s r t c C
theorem Sr {S:DS}(q:Fz (J.toList.filterMap (·.dst))=true){ok:Nat->Bool}{R:Nat}{Bs:List Tmp}{t:Tmp}{c:AC}(h:(S.masked (An 0 J.toList) ok R Bs).tmps.get t=some c):
  S.tmps.get t=some c/\∀(i:Nat) (o:Oper),J[i]? =some o->o.dst=some t->ok i=true:=by
 have p:BF (B7 (An 0 J.toList) ok S.tmps Bs) t=some c:=by
  simp only[DS.masked,AV.get] at h;cases l:BF (B7 (An 0 J.toList) ok S.tmps Bs) t with
  |none=>rw[l] at h;simp[Tr.get] at h
  |some d=>rw[l] at h;exact h
 obtain⟨C,O⟩:=H3 _ _ _ _ _ _ p;refine⟨C,fun i o u hd=>O i ?_⟩;have:=RB J.toList 0 t i o (fun i j y aq a b c d=>C3 q (by simpa using a) (by simpa using b) c d) (by simpa using u) hd;simpa using this
section
variable {P:Program}{T:Tab}{n ak:Nat}{V ab:Nat->Option Nat}{m ad:Mem}{w Z:World}
structure OC (ρ :Nat->Option Nat) (m:Mem) (ρ':Nat->Option Nat) (m':Mem):Prop where
 at':∀id,m.at id≠ .pad->m'.at id=m.at id
 rho:∀id,m.at id≠ .pad-> ρ' id= ρ id
theorem OC.safe (h:OC V m ab ad){b off:Nat}(aa:AY T ab ad w b off):AY T V m w b off:=by
 refine⟨aa.1,aa.2.1,fun id=>?_⟩;by_cases l:m.at id= .pad
 .rw[l];trivial
 .have:=aa.2.2 id;rw[h.at' id l,h.rho id l] at this;exact this
mutual
theorem AA.back (h:OC V m ab ad):∀(c:AC) (p v:Value) (aG:World),AA T n V m aG c p->AA T ak ab ad w c v->AA T n V m w c v
 | .any,_,_,_,_,_=>trivial
 | .anyc,_,_,_,_,hh=>hh
 | .on _ a,p,v,aG,h0,hh=>⟨h0.1,fun u=>AA.back h a p v aG (h0.2 u) (hh.2 u)⟩
 | .gd _ a,p,v,aG,h0,hh=>⟨h0.1,fun u=>AA.back h a p v aG (h0.2.1 u) (hh.2.1 u),hh.2.2⟩
 | .cb _,_,_,_,_,hh=>hh
 | .b _,_,_,_,h0,hh=>⟨h0.1,hh.2⟩
 | .nb _,_,_,_,h0,hh=>⟨h0.1,hh.2⟩
 | .ci _ _,_,_,_,_,hh=>hh
 | .i _ _ _ _,_,_,_,h0,hh=>⟨h0.1,hh.2⟩
 | .cv _,_,_,_,_,hh=>hh
 | .v _,_,_,_,h0,hh=>⟨h0.1,hh.2⟩
 | .s _,_,_,_,h0,hh=>⟨h0.1,hh.2⟩
 | .ptr id off,p,v,aG,⟨b0,_,_,h3⟩,⟨b,k1,E,_⟩=>⟨b,by rw[<-h.rho id (BI h3)];exact k1,E,h3⟩
 | .pix id base aD aW x aP,p,v,aG,⟨h0,b0,M,_,_,_,_,_,h3⟩,⟨_,b,j,k1,E,k3,k4,k5,_⟩=>⟨h0,b,j,by rw[<-h.rho id (BI h3)];exact k1,E,k3,k4,k5,h3⟩
 | .ro x ks,p,v,aG,h0,⟨_,k1⟩=>⟨h0.1,AT.mono (fun _ _ aa=>⟨h.safe aa,rfl⟩) (.list ks) (T x) v k1⟩
 | .rp x t off ks,p,v,aG,h0,⟨_,j,b,o,us,E,k3,k4,k5,k6⟩=>⟨h0.1,j,b,o,us,E,k3,k4,k5,Af.mono (fun _ _ aa=>⟨h.safe aa,rfl⟩) _ _ _ _ k6⟩
 | .vec id x ks,p,v,aG,⟨C,O,_,_⟩,⟨_,_,k3,k4⟩=>⟨C,O,AT.mono (fun _ _ aa=>⟨h.safe aa,rfl⟩) (.list ks) (T x) v k3,fun ah e q=>by
   have:=k4 ah e (by rw[h.at' id O];exact q);unfold VP at this⊢;rw[h.rho id O] at this;exact this⟩
 | .fn f first I,p,v,aG,⟨vs0,us0,_,a1,a2⟩,⟨W,us,k1,E,k3⟩=>⟨W,us,k1,AB.back h first vs0 W aG a1 E,AB.back h I us0 us aG a2 k3⟩
 | .sel x alts,p,v,aG,⟨h0,M,a1,_,a3⟩,⟨_,j,k1,E,k3⟩=>⟨h0,j,k1,E,by
   have e:M=j:=by rw[a1] at k1;injection k1
   subst e;exact Am.back h alts M.toNat p v aG a3 k3⟩
 | .yl id,p,v,aG,⟨b0,_,_,h3⟩,⟨b,k1,E,_⟩=>⟨b,by rw[<-h.rho id (BI h3)];exact k1,E,h3⟩
 | .asl id off len,p,v,aG,⟨b0,_,_,h3⟩,⟨b,k1,E,_⟩=>⟨b,by rw[<-h.rho id (BI h3)];exact k1,E,h3⟩
 | .rsv id x ks,p,v,aG,⟨C,O,h4,_,_⟩,⟨_,_,_,k3,k4⟩=>⟨C,O,h4,k3,fun ah e q=>by
   have:=k4 ah e (by rw[h.at' id O];exact q);unfold UZ at this⊢;rw[h.rho id O] at this;exact this⟩
 | .mr id y,p,v,aG,⟨⟨C,O⟩,_⟩,⟨_,j,a,I,k1,E,k3,k4,k5⟩=>⟨⟨C,O⟩,j,a,I,k1,E,k3,k4,fun x ks e q=>by
   have:=k5 x ks e (by rw[h.at' id O];exact q);unfold Q1 at this⊢;rw[h.rho id O] at this;exact this⟩
 | .mp id y t sz off,p,v,aG,⟨⟨C,h1',O⟩,_⟩,⟨_,j,L,b,k1,E,k3,k4,k5⟩=>⟨⟨C,h1',O⟩,j,L,b,k1,E,k3,k4,fun x ks e q=>by
   have:=k5 x ks e (by rw[h.at' id O];exact q);rw[h.rho id O] at this;exact this⟩
 | .mv id,p,v,aG,⟨b0,_,_,h3⟩,⟨b,k1,E,_⟩=>⟨b,by rw[<-h.rho id (BI h3)];exact k1,E,h3⟩
 | .agg l,p,v,aG,⟨vs0,_,a1⟩,⟨W,k1,E⟩=>⟨W,k1,AB.back h l vs0 W aG a1 E⟩
 | .tup l,p,v,aG,⟨vs0,_,a1⟩,⟨W,k1,E⟩=>⟨W,k1,AB.back h l vs0 W aG a1 E⟩
theorem AB.back (h:OC V m ab ad):∀(l:List AC) (p W:List Value) (aG:World),AB T n V m aG l p->AB T ak ab ad w l W->AB T n V m w l W
 |[],_,_,_,_,hh=>hh
 |c::l,p,W,aG,⟨u0,us0,_,a1,a2⟩,⟨u,us,k1,E,k3⟩=>⟨u,us,k1,AA.back h c u0 u aG a1 E,AB.back h l us0 us aG a2 k3⟩
theorem Am.back (h:OC V m ab ad):∀(l:List AC) (j:Nat) (p v:Value) (aG:World),Am T n V m aG l j p->Am T ak ab ad w l j v->Am T n V m w l j v
 |[],_,_,_,_,h0,_=>h0.elim
 |c::_,0,p,v,aG,h0,hh=>AA.back h c p v aG h0 hh
 |_::l,j+1,p,v,aG,h0,hh=>Am.back h l j p v aG h0 hh
end
mutual
theorem AA.backF (h:OC V m ab ad):∀(c:AC) (v:Value),(AC.free c=true\/∀id,ad.at id≠ .pad->m.at id≠ .pad)->AA T n ab ad w c v->AA T n V m w c v
 | .any,_,_,_=>trivial
 | .anyc,_,_,p=>p
 | .on _ a,v,hf,p=>⟨p.1,fun H=>AA.backF h a v (hf.imp (fun q=>by simpa [AC.free] using q) id) (p.2 H)⟩
 | .gd _ a,v,hf,p=>⟨p.1,fun H=>AA.backF h a v (hf.imp (fun q=>by simpa [AC.free] using q) id) (p.2.1 H),p.2.2⟩
 | .cb _,_,_,p=>p
 | .b _,_,_,p=>p
 | .nb _,_,_,p=>p
 | .ci _ _,_,_,p=>p
 | .i _ _ _ _,_,_,p=>p
 | .cv _,_,_,p=>p
 | .v _,_,_,p=>p
 | .s _,_,_,p=>p
 | .ptr id off,v,hf,⟨b,k1,E,k3⟩=>by
  have u:=hf.resolve_left (by simp[AC.free]) id (BI k3);exact⟨b,by rw[<-h.rho id u];exact k1,E,by rw[<-h.at' id u];exact k3⟩
 | .pix id base aD aW x aP,v,hf,⟨h0,b,j,k1,E,k3,k4,k5,k6⟩=>by
  have u:=hf.resolve_left (by simp[AC.free]) id (BI k6);exact⟨h0,b,j,by rw[<-h.rho id u];exact k1,E,k3,k4,k5,by rw[<-h.at' id u];exact k6⟩
 | .ro x ks,v,_,⟨h0,k1⟩=>⟨h0,AT.mono (fun _ _ aa=>⟨h.safe aa,rfl⟩) (.list ks) (T x) v k1⟩
 | .rp x t off ks,v,_,⟨h0,j,b,o,us,E,k3,k4,k5,k6⟩=>⟨h0,j,b,o,us,E,k3,k4,k5,Af.mono (fun _ _ aa=>⟨h.safe aa,rfl⟩) _ _ _ _ k6⟩
 | .vec id x ks,v,hf,⟨k1,E,k3,k4⟩=>by
  have u:=hf.resolve_left (by simp[AC.free]) id E;refine⟨k1,u,AT.mono (fun _ _ aa=>⟨h.safe aa,rfl⟩) (.list ks) (T x) v k3,fun ah e D=>?_⟩;have:=k4 ah e (by rw[h.at' id u];exact D);unfold VP at this⊢;rw[h.rho id u] at this;exact this
 | .fn f first I,v,hf,⟨W,us,k1,E,k3⟩=>⟨W,us,k1,AB.backF h first W (hf.imp (fun p=>by simp only[AC.free,tV] at p;exact p.1) (fun p=>p)) E,
   AB.backF h I us (hf.imp (fun p=>by simp only[AC.free,tV] at p;exact p.2) (fun p=>p)) k3⟩
 | .sel x alts,v,hf,⟨h0,j,k1,E,k3⟩=>⟨h0,j,k1,E,Am.backF h alts j.toNat v (hf.imp (fun p=>by simpa [AC.free] using p) (fun p=>p)) k3⟩
 | .yl id,v,hf,⟨b,k1,E,k3⟩=>by
  have u:=hf.resolve_left (by simp[AC.free]) id (BI k3);exact⟨b,by rw[<-h.rho id u];exact k1,E,by rw[<-h.at' id u];exact k3⟩
 | .asl id off len,v,hf,⟨b,k1,E,k3⟩=>by
  have u:=hf.resolve_left (by simp[AC.free]) id (BI k3);exact⟨b,by rw[<-h.rho id u];exact k1,E,by rw[<-h.at' id u];exact k3⟩
 | .rsv id x ks,v,hf,⟨k1,E,k5,k3,k4⟩=>by
  have u:=hf.resolve_left (by simp[AC.free]) id E;refine⟨k1,u,k5,k3,fun ah e D=>?_⟩;have:=k4 ah e (by rw[h.at' id u];exact D);unfold UZ at this⊢;rw[h.rho id u] at this;exact this
 | .mr id y,v,hf,⟨⟨C,O⟩,j,a,I,k1,E,k3,k4,k5⟩=>by
  have u:=hf.resolve_left (by simp[AC.free]) id O;refine⟨⟨C,u⟩,j,a,I,k1,E,k3,k4,fun x ks e D=>?_⟩;have:=k5 x ks e (by rw[h.at' id u];exact D);unfold Q1 at this⊢;rw[h.rho id u] at this;exact this
 | .mp id y t sz off,v,hf,⟨⟨C,h1',O⟩,j,L,b,k1,E,k3,k4,k5⟩=>by
  have u:=hf.resolve_left (by simp[AC.free]) id O;refine⟨⟨C,h1',u⟩,j,L,b,k1,E,k3,k4,fun x ks e D=>?_⟩;have:=k5 x ks e (by rw[h.at' id u];exact D);rw[h.rho id u] at this;exact this
 | .mv id,v,hf,⟨b,k1,E,k3⟩=>by
  have u:=hf.resolve_left (by simp[AC.free]) id (BI k3);exact⟨b,by rw[<-h.rho id u];exact k1,E,by rw[<-h.at' id u];exact k3⟩
 | .agg l,v,hf,⟨W,k1,E⟩=>⟨W,k1,AB.backF h l W (hf.imp (fun p=>by simpa [AC.free] using p) (fun p=>p)) E⟩
 | .tup l,v,hf,⟨W,k1,E⟩=>⟨W,k1,AB.backF h l W (hf.imp (fun p=>by simpa [AC.free] using p) (fun p=>p)) E⟩
theorem AB.backF (h:OC V m ab ad):∀(l:List AC) (W:List Value),(AC.freeL l=true\/∀id,ad.at id≠ .pad->m.at id≠ .pad)->AB T n ab ad w l W->AB T n V m w l W
 |[],_,_,p=>p
 |c::l,W,hf,⟨u,us,k1,E,k3⟩=>⟨u,us,k1,AA.backF h c u (hf.imp (fun p=>by simp only[AC.freeL,tV] at p;exact p.1) (fun p=>p)) E,
   AB.backF h l us (hf.imp (fun p=>by simp only[AC.freeL,tV] at p;exact p.2) (fun p=>p)) k3⟩
theorem Am.backF (h:OC V m ab ad):∀(l:List AC) (j:Nat) (v:Value),(AC.freeL l=true\/∀id,ad.at id≠ .pad->m.at id≠ .pad)->Am T n ab ad w l j v->Am T n V m w l j v
 |[],_,_,_,p=>p.elim
 |c::_,0,v,hf,p=>AA.backF h c v (hf.imp (fun p=>by simp only[AC.freeL,tV] at p;exact p.1) (fun p=>p)) p
 |_::l,j+1,v,hf,p=>Am.backF h l j v (hf.imp (fun p=>by simp only[AC.freeL,tV] at p;exact p.2) (fun p=>p)) p
end
variable{id x:Nat}{e:TypeId}
theorem AG.tok_lt (l:AG T n V m w){ks:List Kd}(p:m.at id= .tok x ks e):x < n:=by
 have:=l.blk id;rw[p] at this;exact this.1
theorem AG.row_lt (l:AG T n V m w){y:Nat}{ks:List Kd}(p:m.at id= .mrow x y ks e):x < n/\y < n:=by
 have:=l.blk id;rw[p] at this;exact this.1
theorem AH.same (aa:AH T n V m w ab ad Z)(D:AG T n V m w)(q:∀id,m.at id≠ .pad->ad.at id=m.at id):OC V m ab ad where
 at':=q
 rho:=fun id u=>by
  cases p:m.at id with
  |pad=>exact absurd p u
  |gone=>exact (aa.rho id (by rw[p];rfl)).1
  |cells l e=>exact (aa.rho id (by rw[p];rfl)).1
  |lp x W=>exact (aa.rho id (by rw[p];rfl)).1
  |mapb x ai M aN aU=>exact (aa.rho id (by rw[p];rfl)).1
  |mrow x y ks e=>
   rcases aa.row id x y ks e p with O|⟨aA,aS,ah,O,_,⟨_,C,_⟩|⟨C,_⟩⟩
   .rw[q id u,p] at O;cases O
   .exact C
   .rw[q id u,p] at O;injection O with E H
    have:=(D.row_lt p).2;omega
  |tok x ks e=>
   rcases aa.tok id x ks e p with⟨_,O,_⟩|⟨_,O|⟨aA,ah,e',O,C,_⟩⟩
   .exact O
   .rw[q id u,p] at O;cases O
   .rw[q id u,p] at O;injection O with E H
    have:=D.tok_lt p;omega
theorem AH.forget (aa:AH T n V m w ab ad Z)(hm:AG T n V m w)(b6:AG T ak ab ad Z)(hk:∀id,m.at id≠ .pad->ad.at id=m.at id):AH T n V m w V m Z/\AG T n V m Z:=by
 have D:=aa.same hm hk;refine⟨⟨aa.os,aa.tape,aa.output,aa.size,fun _ h=>h,fun _ h=>⟨rfl,h⟩,fun _ _ h=>h,fun id b u ht _=>?_,aa.old,fun id x ks e p=>?_,fun id x y ks e p=>?_⟩,⟨fun id=>?_,hm.inj,fun b off hb=>hm.fr b off (t8 aa.size hb)⟩⟩
 .rw[u] at ht;cases ht
 .refine .inl ⟨p,rfl,fun b hb=>?_⟩;have u:m.at id≠ .pad:=by rw[p];exact fun h=>by cases h
  rcases aa.tok id x ks e p with⟨_,_,h3⟩|⟨_,O|⟨aA,ah,e',O,h3,_⟩⟩
  .exact h3 b hb
  .grind
  .rw[hk id u,p] at O;injection O with h4 h5
   have:=hm.tok_lt p;omega
 .have u:m.at id≠ .pad:=by rw[p];exact fun h=>by cases h
  rcases aa.row id x y ks e p with O|⟨aA,aS,ah,O,_,⟨_,_,h5⟩|⟨h3,_⟩⟩
  .grind
  .grind
  .grind
 .have H:=hm.blk id;by_cases u:m.at id= .pad
  .rw[u];trivial
  .have C:=b6.blk id;rw[hk id u] at C;cases p:m.at id with
   |pad=>trivial
   |gone=>trivial
   |cells l e=>
    rw[p] at H C;obtain⟨b2,cf,_,_,bx⟩:=H;obtain⟨b,W,X,E,k3⟩:=C;exact⟨b,W,by rw[<-D.rho id u];exact X,E,AB.back D l cf W w bx k3⟩
   |tok x ks e=>
    rw[p] at H C;obtain⟨Y,_⟩:=H;obtain⟨_,l,X,E⟩:=C;rw[D.rho id u] at E;exact⟨Y,l,X,E⟩
   |mrow x y ks e=>
    rw[p] at H C;obtain⟨Y,_⟩:=H;obtain⟨_,l,X,b7,b8,E⟩:=C;rw[D.rho id u] at E;refine⟨Y,l,X,b7,b8,?_⟩;rcases E with E|⟨b,W,us,q1,q2,q3,q4⟩
    .exact .inl E
    .exact .inr ⟨b,W,us,q1,q2,Ab.mono (fun _ _ aa=>⟨D.safe aa,rfl⟩) q3,q4⟩
   |mapb x ai ka aN aU=>
    rw[p] at H C;obtain⟨Y,_⟩:=H;obtain⟨_,l,b,aw,a3,X,E,k3,k4,k5,k6,k7⟩:=C;rw[D.rho id u] at E;refine⟨Y,l,b,aw,a3,X,E,k3,k4,k5,fun i us e hl he=>?_,k7⟩;obtain⟨u1,u2,q1,q2,q3⟩:=k6 i us e hl he;exact⟨u1,u2,q1,Bw.mono (fun _ _ aa=>⟨D.safe aa,rfl⟩) q2,Bw.mono (fun _ _ aa=>⟨D.safe aa,rfl⟩) q3⟩
   |lp x st=>
    rw[p] at H C;obtain⟨b2,q0,_,_,_,_,_,_,b0,M,a8,_⟩:=H;obtain⟨b,q,X,E,k3,k4,k5,k6,k7,j,k8,k9⟩:=C;exact⟨b,q,by rw[<-D.rho id u];exact X,E,k3,k4,k5,k6,fun i c hc=>AA.back D c _ _ w (b0 i c hc) (k7 i c hc),j,AA.back D st _ _ w a8 k8,k9⟩
end
section
variable {P:Program}{T:Tab}{call:Au}{aj:Ys}{r:Option Nat}{ai:Nat}{J:Array Oper}{ac:PC}
theorem Gl (tmps:AV)(aG:Option Tmp)(c:AC):(Cv tmps aG c).n=tmps.n:=by cases aG<;>simp[Cv,AV.set_n]
variable{t j h:Nat}{o:Oper}
theorem AV.get_set_ne (s:AV){d:Nat}(c:AC)(h:d≠t):(s.set d c).get t=s.get t:=by
 unfold AV.set;cases hd:Nat.blt d s.n with
 |false=>rfl
 |true=>simp only[cond_true,AV.get,IM,vA h]
theorem Q9 (tmps:AV){aG:Option Tmp}(c:AC)(h:aG≠some t):(Cv tmps aG c).get t=tmps.get t:=by
 cases aG with
 |none=>rfl
 |some d=>exact AV.get_set_ne _ _ (fun e=>h (by rw[e]))
theorem PJ {s an:RS}(h:Bt P call aj J ac s o=some an)(l:A9 o.op=true){V :Nat->Option Nat}{a:Act}{w:World}(H:Agr T an.g)(X:Aj T an.g)(ao:pcv T ac)(O:BK T s.g ac)(Y:Bu T V J s a w):an.mem=s.mem:=by
 unfold Bt at h;simp only[tX,tU] at h;obtain⟨⟨run,aD⟩,u,h⟩:=h;obtain⟨bi,bj,p⟩:=Hq u;simp only at h;split at h
 .cases h
 split at h
 .cases h;exact p
 .rename_i C a0;split at h
  .rename_i f args ar W;rw[W] at l;cases l
  .simp only[tU] at h;grind
  .simp only[tU] at h;obtain⟨aI,hr,h⟩:=h;split at h
   .cases h;have q:Agr T ((aD.g.pushAll aI.us).needAll C aI.ps):=H;obtain⟨e1,e2,_,y,_,D⟩:=OW u (q.of ((AX.push _ _).trans (AX.need _ _ _))) ao O Y;obtain⟨f1,f2,f3,E,f5⟩:=D C [] rfl;have:=RV l hr q.need.new (Aj.need X (E rfl)) y.rel.mem (GA y.rel (fun c M=>by cases M));exact this.trans p
   .grind
theorem Jt {R:Nat}{S q:DS}{D:List (Tmp × Nat)}(h:Lm P call aj J D ac R j o S=some q):
  ∃an c,Bt P call aj J ac (S.masked D R.testBit R (As J o)) o=some an/\q=⟨Cv S.tmps o.dst c,S.mem,an.g,(Gz an (G3 R S.gls).length).map (fun e=>(j,e))++S.gls⟩/\
   (∀d,o.dst=some d->c=(an.tmps.get d).getD .any)/\(A9 o.op=true\/(∀id,S.mem.at id≠ .pad->an.mem.at id=S.mem.at id)/\(AC.free c=true\/∀id,an.mem.at id≠ .pad->S.mem.at id≠ .pad))/\
   ∀e∈Gz an (G3 R S.gls).length,e∈an.gl/\R.testBit e.j=true:=by
 unfold Lm at h;simp only[tX,tU] at h;obtain⟨an,aa,h⟩:=h;split at h
 .rename_i u;rw[tV,uN,tV,uN] at u;obtain⟨C,O⟩:=u;cases h;refine⟨an,_,aa,rfl,fun d hd=>by rw[hd];rfl,?_,fun e y=>⟨List.mem_of_mem_take y,uK.1 C e y⟩⟩;rcases O with O|⟨O,l⟩
  .exact .inl O
  .obtain⟨W,E⟩:=GD O;have H:∀id,S.mem.at id≠ .pad->id < S.mem.length:=fun id p=>by
    rcases tu id S.mem.length with h|h
    .exact h
    .exact absurd (Mem.at_ge h) p
   refine .inr ⟨fun id p=>E id (H id p),?_⟩;rcases l with l|l
   .refine .inr fun id p=>?_;have M:=tW l;rcases tu id an.mem.length with h|h
    .grind
    .exact absurd (Mem.at_ge h) p
   .exact .inl l
 .cases h
structure FM (P:Program) (T:Tab) (call:Au) (ys:Ys) (ops:Array Oper) (pc:PC) (h:Nat) (S:Nat->DS):Prop where
 le:h<=ops.size
 step:∀j o,j < h->ops[j]? =some o->∃R,(AW ops.toList [])[j]? =some R/\Lm P call ys ops (An 0 ops.toList) pc R j o (S j)=some (S (j+1))
 masks:GB (AW ops.toList []) 0=true
 nodup:Fz (ops.toList.filterMap (·.dst))=true
 tail:∀j r,(AW ops.toList [])[j]? =some r->h<=j->∀i,i < j->r.testBit i=true
 call:CL P T call
 ys:Ce P T.lp ys
 gl0:(S 0).gls=[]
theorem FM.op {S:Nat->DS}(H:FM P T call aj J ac h S)(l:j < h):∃o,J[j]? =some o:=
 ⟨_,uq (td l H.le)⟩
structure tD (S S':DS):Prop where
 grow:AX S.g S'.g
 mem:S'.mem=S.mem
 len:S'.tmps.n=S.tmps.n
 gls:∀p∈S.gls,p∈S'.gls
theorem FM.later {S:Nat->DS}(H:FM P T call aj J ac h S)(i:Nat):∀k,i+k<=h->tD (S i) (S (i+k))/\
  ∀t,(∀j o,i<=j->j < i+k->J[j]? =some o->o.dst≠some t)->(S (i+k)).tmps.get t=(S i).tmps.get t
 |0,_=>⟨⟨AX.refl _,rfl,rfl,fun _ h=>h⟩,fun _ _=>rfl⟩
 |k+1,hk=>by
  obtain⟨C,O⟩:=H.later i k (by omega);obtain⟨o,q⟩:=H.op (j:=i+k) (by omega);obtain⟨R,Y,aa⟩:=H.step (i+k) o (by omega) q;obtain⟨an,c,y,l,M,W,X⟩:=Jt aa;obtain⟨D,_⟩:=K6 (r:=none) (ai:=0) H.call H.ys y;have e:S (i+(k+1))=S (i+k+1):=rfl;refine⟨⟨?_,?_,?_,?_⟩,fun t u=>?_⟩
  .rw[e,l];exact C.grow.trans D
  .rw[e,l];exact C.mem
  .rw[e,l];simp only;rw[<-C.len,Gl]
  .intro p E;rw[e,l];exact tp _ (C.gls p E)
  .rw[e,l];simp only;rw[<-O t (fun j o C O=>u j o C (by omega))];exact Q9 _ _ (u (i+k) o (by omega) (by omega) q)
theorem FM.gls {S:Nat->DS}(H:FM P T call aj J ac h S):∀k,k<=h->∀p∈(S k).gls,p.1 < k/\p∈(S (p.1+1)).gls
 |0,_,p,hp=>by rw[H.gl0] at hp;cases hp
 |k+1,hk,p,hp=>by
  obtain⟨o,q⟩:=H.op (j:=k) (by omega);obtain⟨R,W,aa⟩:=H.step k o (by omega) q;obtain⟨an,c,D,l,E,M,O⟩:=Jt aa;have u:=hp;rw[l] at hp;rcases uY.1 hp with C|C
  .obtain⟨e,X,rfl⟩:=vG.1 C;exact⟨Nat.lt_succ_self _,u⟩
  .obtain⟨Y,y⟩:=H.gls k (by omega) p C;exact⟨by omega,y⟩
structure LU (T:Tab) (ops:Array Oper) (h:Nat) (S:Nat->DS) (listed:Array Bool) (ρ :Nat->Option Nat) (a:Act) (w:World):Prop where
 size:listed.size=ops.size
 closed:NB ops listed
 only:∀i,listed.getD i false=true->i < h
 defers:DE T.base ρ (S 0).mem w a.defers
 asize:a.tmps.size=(S 0).tmps.n
 mem:AG T (S 0).g.n ρ (S 0).mem w
 init:∀t c,(S 0).tmps.get t=some c->(∀i o,ops[i]? =some o->o.dst=some t->listed.getD i false=false)->AA T (S 0).g.n ρ (S 0).mem w c (a.tmps.getD t undef)
 facts:∀i o d c,listed.getD i false=true->ops[i]? =some o->o.dst=some d->(S (i+1)).tmps.get d=some c->AA T (S (i+1)).g.n ρ (S 0).mem w c (a.tmps.getD d undef)
 gfacts:∀p∈(S h).gls,listed.getD p.1 false=true->Fh T ops (S (p.1+1)).g.n a p.2/\listed.getD p.2.j false=true
variable {h:Nat}{S:Nat->DS}{listed:Array Bool}{V :Nat->Option Nat}{a:Act}{w:World}
theorem LU.val (H:FM P T call aj J ac h S)(I:LU T J h S listed V a w){k:Nat}(hk:k<=h){t:Nat}{c:AC}(l:(S k).tmps.get t=some c)
  (W:∀i o,J[i]? =some o->o.dst=some t->listed.getD i false=true/\i < k\/listed.getD i false=false/\k<=i):AA T (S k).g.n V (S 0).mem w c (a.tmps.getD t undef):=by
 by_cases y:∃i o,J[i]? =some o/\o.dst=some t/\i < k
 .obtain⟨i,o,p,hd,Y⟩:=y;rcases W i o p hd with⟨C,_⟩|⟨_,O⟩
  .obtain⟨X,ae⟩:=H.later (i+1) (k - (i+1)) (by omega);rw[show i+1+(k - (i+1))=k by omega] at X ae;have:=ae t (fun j D E M u q=>by
    have:=C3 H.nodup p u hd q;omega)
   rw[this] at l;exact (I.facts i o t c C p hd l).up0 X.grow.n
  .omega
 .obtain⟨X,ae⟩:=H.later 0 k (by omega);rw[tj] at X ae;have:=ae t (fun j D E M u q=>y ⟨j,D,u,q,by omega⟩);rw[this] at l;refine (I.init t c l fun i o p hd=>?_).up0 X.grow.n;grind
theorem LU.masked {Bs:List Tmp}(H:FM P T call aj J ac h S)(I:LU T J h S listed V a w){j R:Nat}(hj:j < h)(y:(AW J.toList [])[j]? =some R)(E:∀i,R.testBit i=true->listed.getD i false=true):
  Bu T V J ((S j).masked (An 0 J.toList) R.testBit R Bs) a w:=by
 obtain⟨X,_⟩:=H.later 0 j (by omega);rw[tj] at X;have W:=E2 _ 0 H.masks j R y;refine⟨⟨(by simp only[DS.masked];rw[X.mem];exact I.defers),?_,fun t c D=>?_,?_⟩,fun e q=>?_⟩
 .simp only[DS.masked];rw[I.asize,X.len]
 .obtain⟨C,O⟩:=Sr (R:=R) H.nodup D;simp only[DS.masked];rw[X.mem];refine I.val H (by omega) C fun i o ho hd=> .inl ?_;grind
 .simp only[DS.masked];rw[X.mem];exact I.mem.mono X.grow.n
 .simp only[DS.masked,G3,vG,List.mem_filter] at q;obtain⟨p,⟨Y,l⟩,rfl⟩:=q;have M:=E p.1 l;have a1:p.1 < j:=by have:=W p.1 l;omega
  obtain⟨ae,_⟩:=H.later j (h - j) (by omega);rw[show j+(h - j)=h by omega] at ae;obtain⟨u,_⟩:=H.later (p.1+1) (j - (p.1+1)) (by omega);rw[show p.1+1+(j - (p.1+1))=j by omega] at u;exact (I.gfacts p (ae.gls p Y) M).1.up u.grow.n
theorem Av (listed:Array Bool)(i j:Nat)(Y:i < listed.size):(listed.setIfInBounds i true).getD j false=if j=i then true else listed.getD j false:=by
 by_cases l:j=i
 .subst l;simp[tf,ul,Y]
 .rw[vA l];simp only[tf,ul];grind
theorem Df {aG:Option Tmp}{t:Nat}(h:aG≠some t)(v:Value):(a.put aG v).tmps.getD t undef=a.tmps.getD t undef:=by
 cases aG with
 |none=>rfl
 |some d=>
  simp only[Act.put,tf,ul];rw[vA (fun e=>h (by rw[e]))]
theorem LU.comes (H:FM P T call aj J ac h S)(hA:Agr T (S h).g)(di:Aj T (S h).g)(ci:pcv T ac)(cl:BK T (S 0).g ac)(I:LU T J h S listed V a w){i:Nat}{o:Oper}(Y:i < h)(M:J[i]? =some o)
  (cu:listed.getD i false=false) (cs:∀e∈o.after,Region.binds .any e=true->listed.getD e.on false=true) {K:Act->World->Prop} {Q:Exit->Act->World->Prop}
  (hK:∀v Z,LU T J h S (listed.setIfInBounds i true) V (a.put o.dst v) Z->AH T (S 0).g.n V (S 0).mem w V (S 0).mem Z->K (a.put o.dst v) Z):Cx P r ai J o a w K Q:=by
 obtain⟨R,hR,aa⟩:=H.step i o Y M;obtain⟨an,c,a1,a2,a3,b5,cy⟩:=Jt aa;obtain⟨c0,c1⟩:=K6 (r:=r) (ai:=ai) H.call H.ys a1;have b8:=CN I.closed hR M cs;have d1:=E2 _ 0 H.masks i R hR;obtain⟨X,_⟩:=H.later 0 i (by omega);rw[tj] at X;obtain⟨ae,_⟩:=H.later (i+1) (h - (i+1)) (by omega);rw[show i+1+(h - (i+1))=h by omega] at ae;have hg:(S (i+1)).g=an.g:=by rw[a2]
 have b6:Agr T an.g:=by rw[<-hg];exact hA.of ae.grow
 have ch:Aj T an.g:=by rw[<-hg];exact di.of ae.grow
 have a4:(S i).mem=(S 0).mem:=X.mem;have W:i < listed.size:=by rw[I.size];exact (te.1 M).1
 have ca:=I.masked (Bs:=As J o) H Y hR b8;have cb:an.mem=(S i).mem\/¬A9 o.op=true:=by
  by_cases hf:A9 o.op=true
  .exact .inl (PJ a1 hf b6 ch ci (cl.grow X.grow) ca)
  .exact .inr hf
 have bi:∀id,(S i).mem.at id≠ .pad->an.mem.at id=(S i).mem.at id:=by
  rcases b5 with hf|h
  .rcases cb with h|h
   .intro id _;rw[h]
   .exact absurd hf h
  .exact h.1
 have cx:AC.free c=true\/∀id,an.mem.at id≠ .pad->(S i).mem.at id≠ .pad:=by
  rcases b5 with hf|h
  .rcases cb with h|h
   .exact .inr fun id hp=>by rw[<-h];exact hp
   .exact absurd hf h
  .exact h.2
 refine c1 b6 ch ci (cl.grow X.grow) V a w K Q ca fun ab v Z ax aE=>?_;have b2:AH T (S i).g.n V (S i).mem w ab an.mem Z:=aE;have cc:AG T (S i).g.n V (S i).mem w:=by rw[a4];exact I.mem.mono X.grow.n
 obtain⟨f1,f2⟩:=b2.forget cc ax.rel.mem bi;have dm:=b2.same cc bi;have l:AH T (S 0).g.n V (S 0).mem w V (S 0).mem Z:=by rw[<-a4];exact f1.down X.grow.n
 have b3:∀n,AH T n V (S 0).mem w V (S 0).mem Z:=fun n=>⟨l.os,l.tape,l.output,l.size,l.mlen,l.rho,l.untr,l.fresh,l.old,fun id x ks e D=>by
  rcases l.tok id x ks e D with C|⟨_,O|⟨aA,ah,e',O,h3,_⟩⟩
  .exact .inl C
  .rw[D] at O;cases O
  .rw[D] at O;injection O with h4 h5
   have:=I.mem.tok_lt D;omega,fun id x y ks e D=>by
  rcases l.row id x y ks e D with O|⟨aA,aS,ah,O,_,⟨_,_,h5⟩|⟨h3,_⟩⟩
  .rw[D] at O;cases O
  .exact .inr ⟨x,y,ks,D,rfl,.inl ⟨rfl,rfl,h5⟩⟩
  .rw[D] at O;injection O with h4 h5
   have:=(I.mem.row_lt D).2;omega⟩
 have db:AG T (S 0).g.n V (S 0).mem Z:=by
  exact (AH.forget (ad:=an.mem) (ak:=an.g.n) (by rw[<-a4];exact b2.down X.grow.n) I.mem ax.rel.mem (by rw[<-a4];exact bi)).2
 refine hK v Z ⟨by simp[I.size],?_,?_,?_,?_,db,?_,?_,?_⟩ l
 .
  intro j aq u ao e E hb;rw[Av _ _ _ W] at ao⊢;split
  .rfl
  .split at ao
   .rename_i q;subst q;rw[M] at u;cases u;exact cs e E hb
   .exact I.closed j aq u ao e E hb
 .intro j hj;rw[Av _ _ _ W] at hj;split at hj
  .rename_i q;rw[q];exact Y
  .exact I.only j hj
 .have:=I.defers.on l;cases o.dst<;>exact this
 .have:=ax.rel.size;rw[<-I.asize];cases o.dst<;>simp[Act.put]
 .
  intro t aP hc cf;have bx:o.dst≠some t:=fun hd=>by
   have:=cf i o M hd;rw[Av _ _ _ W,vC rfl] at this;cases this
  rw[Df bx];refine AA.mono0 (b3 _) (tY _) _ _ (I.init t aP hc fun j aq u hd=>?_);have:=cf j aq u hd;rw[Av _ _ _ W] at this;split at this
  .cases this
  .exact this
 .
  intro j aq d aP ao u hd hc;rw[Av _ _ _ W] at ao;split at ao
  .rename_i q;subst q;rw[M] at u;cases u;rw[a2] at hc;simp only[hd,Cv] at hc;rcases AV.get_set _ _ _ _ hc with⟨_,_,c8⟩|⟨c9,dj⟩
   .have b1:=ax.rel.at d;simp only at b1;have c7:c=(an.tmps.get d).getD .any:=a3 d hd;rw[<-c7] at b1;rw[hg,c8,<-a4];exact AA.backF dm _ _ cx b1
   .
    have hn:=c9 rfl;have ce:¬d < a.tmps.size:=by rw[I.asize,<-X.len];exact hn
    have hv:=I.val H (by omega) dj fun i' o' de bm=>by
     have:=C3 H.nodup M de hd bm;subst this;exact .inr ⟨cu,tY _⟩
    have dk:(a.put o.dst v).tmps.getD d undef=a.tmps.getD d undef:=by
     rw[hd];simp only[Act.put,tf,ul,if_true,vA ce];rw[Array.getElem?_eq_none (Nat.le_of_not_lt ce)]
    rw[dk,hg];exact AA.mono0 (b3 _) c0.n _ _ hv
  .rename_i q;have bx:o.dst≠some d:=fun bm=>q (C3 H.nodup u M hd bm);rw[Df bx];exact AA.mono0 (b3 _) (tY _) _ _ (I.facts j aq d aP ao u hd hc)
 .
  intro p hp bt;rw[Av _ _ _ W] at bt;split at bt
  .rename_i cj;obtain⟨_,q2⟩:=H.gls h (tY _) p hp;rw[cj,a2] at q2;rcases uY.1 q2 with C|C
   .obtain⟨e,E,rfl⟩:=vG.1 C;obtain⟨u1,u2⟩:=cy e E;refine⟨?_,?_⟩
    .rw[hg];exact ax.ges e u1
    .rw[Av _ _ _ W];split
     .rfl
     .exact b8 e.j u2
   .have:=(H.gls i (by omega) p C).1;omega
  .rename_i cj;obtain⟨q1,q2⟩:=I.gfacts p hp bt;have q:p.2.j≠i:=fun e=>by rw[e,cu] at q2;cases q2
   refine⟨⟨q1.lt,q1.bool,?_,q1.imp,q1.ne⟩,by rw[Av _ _ _ W,vA q];exact q2⟩;have hy:yielded J (a.put o.dst v).tmps p.2.j=yielded J a.tmps p.2.j:=by
    cases hd:o.dst with
    |none=>rfl
    |some d=>
     refine JJ ?_ v;intro E;cases b0:J[p.2.j]? with
     |none=>rw[b0] at E;cases E
     |some op=>
      rw[b0] at E;exact q (C3 H.nodup b0 M E hd)
   rw[hy];exact q1.iff
end
section
variable {P:Program}{T:Tab}{call:Au}{aj:Ys}{r:Option Nat}{ai:Nat}{J:Array Oper}{ac:PC}
theorem PK {aA:List Nat}:∀(aw:List Edge),∀e∈aw,Region.binds .any e=true->(Eo aA aw).testBit e.on=true
 |[],e,l,_=>by cases l
 |e0::aw,e,l,hb=>by
  simp only[Eo];cases l with
  |head=>
   rw[vC hb];simp only[show∀x y,Nat.lor x y=x ||| y from fun _ _=>rfl,Nat.testBit_or,Nat.testBit_two_pow];simp
  |tail _ l=>
   have:=PK (aA:=aA) aw e l hb;split
   .simp only[show∀x y,Nat.lor x y=x ||| y from fun _ _=>rfl,Nat.testBit_or,this,Bool.or_true]
   .exact this
theorem RY:∀(l:List Oper) (p:List Oper) (aA:List Nat),aA.length=p.length->
  (∀(j r:Nat) (o:Oper),aA[j]? =some r->(p++l)[j]? =some o->∀e∈o.after,Region.binds .any e=true->r.testBit e.on=true)->
  ∀(j r:Nat) (o:Oper),(AW l aA)[j]? =some r->(p++l)[j]? =some o->∀e∈o.after,Region.binds .any e=true->r.testBit e.on=true
 |[],p,aA,_,h=>h
 |o::l,p,aA,hlen,h=>by
  simp only[AW];have e:p++o::l=(p++[o])++l:=by simp
  rw[e];refine RY l (p++[o]) _ (by simp[hlen]) ?_;intro j r y q u;rw[uw] at q;split at q
  .exact h j r y q (by rw[e];exact u)
  .rename_i O;have H:j=aA.length:=by
    rcases tu (j - aA.length) 1 with C|C
    .omega
    .rw[uO (by simpa using C)] at q;cases q
   subst H;simp at q;subst q;have M:y=o:=by
    rw[hlen] at u;simp at u;exact u.symm
   subst M;exact fun e E D=>PK _ e (by simpa using E) D
variable{o:Oper}{i h:Nat}{a:Act}{w:World}{Q:Exit->Act->World->Prop}{listed:Array Bool}{V:Nat->Option Nat}
theorem Qo (y:GB (AW J.toList []) 0=true){k:Nat}(p:J[k]? =some o){e:Edge}(u:e∈o.after)(q:Region.binds .any e=true):e.on < k:=by
 have l:k < (AW J.toList []).length:=by rw[CY];exact (te.1 p).1
 have C:=RY J.toList [] [] rfl (fun j r o D=>by simp at D) k _ o (tZ l) (by simpa using p) e u q;have:=E2 _ 0 y k _ (tZ l) e.on C;omega
theorem Gd (l:J[i]? =some o){K:Act->World->Prop}(h:Cx P r ai J o a w K Q):wpOpIn (fen r) ai P J Q i K a w:=by
 unfold Cx at h;unfold wpOpIn;simp only[l];split
 .grind
 .rename_i p;rw[vA p] at h;exact⟨fun _ _=>trivial,h⟩
theorem ck (E:CL P T call)(X:Ce P T.lp aj)(hm:GB (AW J.toList []) 0=true){h:Nat}(ba:∀j r,(AW J.toList [])[j]? =some r->h<=j->∀i,i < j->r.testBit i=true):
  ∀{l:List Oper} {s an:RS},DL P call aj J ac l s=some an->Agr T an.g->Aj T an.g->pcv T ac->BK T s.g ac->
   ∀(k:Nat) (listed:Array Bool) V a w Q,h<=k->k+l.length=J.size->(∀j,l[j]? =J[k+j]?)->listed.size=J.size->(∀j,listed.getD j false=true↔j < k)->NB J listed->Bu T V J s a w->
   (∀ ab a' Z,Bu T ab J an a' Z->AH T s.g.n V s.mem w ab an.mem Z->Q .normal a' Z)->wpAnyIn (fen r) ai P .any J Q l.length listed a w
 |[],s,an,aa,_,_,_,_,k,listed, V,a,w,Q,hk,hlen,hl,hsz,hlist,_,Y,hK=>by
  simp only[DL] at aa;cases aa;refine wpAnyIn_done ?_ (hK V a w Y (AH.refl _ _ _ _ _)) _;refine List.eq_nil_iff_forall_not_mem.2 fun i Y=>?_;obtain⟨C,o,p,_⟩:=mem_ready.1 Y;have:i < J.size:=(te.1 p).1;have O:=(hlist i).2 (by simp at hlen;omega);rw[tf] at C O;have bm:i < listed.size:=by omega
  rw[uq bm] at C O;simp only[Option.getD_some] at C O;rw[C] at O;cases O
 |o::l,s,an,aa,hA,hob,hpc,hpk,k,listed, V,a,w,Q,hk,hlen,hl,hsz,hlist,hcl,Y,hK=>by
  simp only[DL,tX,tU] at aa;obtain⟨aD,C,O⟩:=aa;obtain⟨g1,k1⟩:=K6 (r:=r) (ai:=ai) E X C;have ao:=(Jn (r:=r) (ai:=ai) E X O).1;have p:J[k]? =some o:=by simpa using (hl 0).symm
  have H:k < listed.size:=by simp at hlen;omega
  have b3:∀i,listed.getD i true=false->listed.getD i false=false:=fun i h=>by
   rw[tf] at h⊢;cases hx:listed[i]? with
   |none=>rfl
   |some b=>rw[hx] at h;exact h
  have only:∀i,i∈Region.ready .any J listed->i=k:=fun i D=>by
   obtain⟨q1,oi,u,q3⟩:=mem_ready.1 D;have b5:k<=i:=by
    rcases tu i k with h|h
    .have:=(hlist i).2 h;rw[b3 i q1] at this;cases this
    .exact h
   have a4:i < (AW J.toList []).length:=by rw[CY];exact (te.1 u).1
   rcases tu k i with h|h
   .have q:=ba i _ (tZ a4) (by omega) k h;have:=CN hcl (tZ a4) u q3 k q;have:=(hlist k).1 this;omega
   .omega
  have b1:k∈Region.ready .any J listed->wpOpIn (fen r) ai P J Q k (wpAnyIn (fen r) ai P .any J Q l.length (listed.setIfInBounds k true)) a w:=fun bl=>by
   obtain⟨_,ok,u,q3⟩:=mem_ready.1 bl;rw[p] at u;cases u;refine Gd p ?_;refine k1 (hA.of ao) (hob.of ao) hpc hpk V a w _ Q Y fun ab v Z ax aE=>?_;refine ck E X hm ba O hA hob hpc (hpk.grow g1) (k+1) _ ab _ Z Q (by omega) (by simp at hlen;omega) (fun j=>by have:=hl (j+1);simpa [Nat.add_assoc,Nat.add_comm 1 j] using this) (by simpa using hsz) (fun j=>?_) ?_ ax fun aW a2 w2 bj bt=>?_
   .rw[Av _ _ _ H];split
    .rename_i e;subst e;simp
    .rename_i e;rw[hlist j];omega
   .intro j aq W M e y q;rw[Av _ _ _ H] at M⊢;split
    .rfl
    .split at M
     .rename_i e2;rw[e2,p] at W;cases W;exact q3 e y q
     .exact hcl j aq W M e y q
   .exact hK aW a2 w2 bj (aE.trans Y.rel.mem g1.n bt)
  refine⟨fun bs=>?_,fun i D=>by have:=only i D;subst this;exact b1 D⟩;exfalso;have:k∈Region.ready .any J listed:=by
   refine mem_ready.2 ⟨?_,o,p,fun e y q=>?_⟩
   .have h0:¬listed.getD k false=true:=fun h=>by have:=(hlist k).1 h;omega
    rw[tf,uq H] at h0⊢;simpa using h0
   .exact (hlist e.on).2 (Qo hm p y q)
  rw[bs] at this;cases this
def Cd (listed:Array Bool):Nat:=listed.toList.countP (fun b=> !b)
theorem T9:∀(l:List Bool) (i:Nat),l[i]? =some false->(l.set i true).countP (fun b=> !b)+1=l.countP (fun b=> !b)
 |[],i,h=>by simp at h
 |b::l,0,h=>by simp at h;subst h;simp
 |b::l,i+1,h=>by
  have:=T9 l i (by simpa using h);simp only[List.set_cons_succ,List.countP_cons];omega
theorem Ej (Y:i < listed.size)(h:listed.getD i false=false):Cd (listed.setIfInBounds i true)+1=Cd listed:=by
 unfold Cd;rw[Array.toList_setIfInBounds];refine T9 _ i ?_;rw[tf,uq Y] at h;simp at h;simp[Y,h]
theorem LP:∀(l:List Bool) (h:Nat),h<=l.length->(∀j,(l[j]?).getD false=true↔j < h)->l.countP (fun b=> !b)=l.length - h
 |[],h,_,_=>by simp
 |b::l,0,_,hl=>by
  have p:b=false:=by
   have:=hl 0;simpa using this
  subst p;have:=LP l 0 (uQ _) (fun j=>by simpa using hl (j+1));simp[this]
 |b::l,h+1,hle,hl=>by
  have p:b=true:=by
   have:=(hl 0).2 (Nat.succ_pos _);simpa using this
  subst p;have:=LP l h (by simpa using hle) (fun j=>by have:=hl (j+1);simpa using this);simp[this]
theorem GZ (p:h<=listed.size)(l:∀j,listed.getD j false=true↔j < h):Cd listed=listed.size - h:=by
 unfold Cd;rw[LP listed.toList h (by simpa using p) (fun j=>by rw[<-l j,tf];simp)];simp
theorem LU.full {S:Nat->DS}(H:FM P T call aj J ac h S)(I:LU T J h S listed V a w)(C:∀j,j < h->listed.getD j false=true):
  Bu T V J ⟨(S h).tmps,(S h).mem,(S h).g,(S h).gls.map (·.2)⟩ a w:=by
 obtain⟨X,_⟩:=H.later 0 h (by omega);rw[tj] at X;refine⟨⟨(by simp only;rw[X.mem];exact I.defers),by rw[I.asize,X.len],fun t c u=>?_,?_⟩,fun e y=>?_⟩
 .simp only;rw[X.mem];refine I.val H (tY _) u fun i o M hd=>?_;rcases tu i h with Y|Y
  .grind
  .refine .inr ⟨?_,Y⟩;cases E:listed.getD i false with
   |false=>rfl
   |true=>have:=I.only i E;omega
 .simp only;rw[X.mem];exact I.mem.mono X.grow.n
 .obtain⟨p,l,rfl⟩:=vG.1 y;have D:=(H.gls h (tY _) p l).1;obtain⟨q,_⟩:=H.later (p.1+1) (h - (p.1+1)) (by omega);rw[show p.1+1+(h - (p.1+1))=h by omega] at q;exact (I.gfacts p l (C p.1 D)).1.up q.grow.n
theorem qS {S:Nat->DS}(H:FM P T call aj J ac h S)(hA:Agr T (S h).g)(ca:Aj T (S h).g)(cb:pcv T ac)(cc:BK T (S 0).g ac){aG:World}(b6:AG T (S 0).g.n V (S 0).mem aG)
  (hK:∀(listed:Array Bool) a w,listed.size=J.size->(∀j,listed.getD j false=true↔j < h)->NB J listed->Bu T V J ⟨(S h).tmps,(S h).mem,(S h).g,(S h).gls.map (·.2)⟩ a w->
   AH T (S 0).g.n V (S 0).mem aG V (S 0).mem w->wpAnyIn (fen r) ai P .any J Q (J.size - h) listed a w):
  ∀(aK:Nat) (listed:Array Bool) (a:Act) (w:World),LU T J h S listed V a w->AH T (S 0).g.n V (S 0).mem aG V (S 0).mem w->Cd listed=aK->wpAnyIn (fen r) ai P .any J Q aK listed a w:=by
 intro aK;induction aK with
 |zero=>
  intro listed a w I D hu;by_cases l:∀j,j < h->listed.getD j false=true
  .have q:∀j,listed.getD j false=true↔j < h:=fun j=>⟨I.only j,l j⟩;have p:=GZ (by rw[I.size];exact H.le) q;rw[hu,I.size] at p;have:=hK listed a w I.size q I.closed (I.full H l) D;rw[<-p] at this;exact this
  .exfalso;simp only[Classical.not_forall] at l;obtain⟨j,X,a0⟩:=l;have:=Ej (listed:=listed) (i:=j) (by rw[I.size];exact td X H.le) (by simpa using a0);omega
 |succ aK ih=>
  intro listed a w I D hu;by_cases l:∀j,j < h->listed.getD j false=true
  .have q:∀j,listed.getD j false=true↔j < h:=fun j=>⟨I.only j,l j⟩;have p:=GZ (by rw[I.size];exact H.le) q;rw[hu,I.size] at p;have:=hK listed a w I.size q I.closed (I.full H l) D;rw[<-p] at this;exact this
  .simp only[Classical.not_forall] at l;obtain⟨j,X,a0⟩:=l;have b7:∃j,j < h/\listed.getD j false=false/\∀i,i < j->listed.getD i false=true:=by
    have ch:∀n,(∃j,j < n/\j < h/\listed.getD j false=false)->∃j,j < h/\listed.getD j false=false/\∀i,i < j->listed.getD i false=true:=by
     intro n;induction n with
     |zero=>rintro⟨j,C,_⟩;omega
     |succ n cf=>
      rintro⟨j,C,O,h3⟩;by_cases u:∃j,j < n/\j < h/\listed.getD j false=false
      .exact cf u
      .have b3:j=n:=by
        rcases tu j n with h|h
        .exact absurd ⟨j,h,O,h3⟩ u
        .omega
       subst b3;refine⟨j,O,h3,fun i Y=>?_⟩;cases b4:listed.getD i false with
       |true=>rfl
       |false=>exact absurd ⟨i,Y,by omega,b4⟩ u
    exact ch (j+1) ⟨j,Nat.lt_succ_self _,X,by simpa using a0⟩
   obtain⟨M,h0,ao,bx⟩:=b7;have bm:∀i,listed.getD i true=false->listed.getD i false=false:=fun i h=>by
    rw[tf] at h⊢;cases u:listed[i]? with
    |none=>rfl
    |some b=>rw[u] at h;exact h
   have bi:M∈Region.ready .any J listed:=by
    obtain⟨o,ho⟩:=H.op h0;refine mem_ready.2 ⟨?_,o,ho,fun e he E=>bx e.on (Qo H.masks ho he E)⟩;have b5:M < listed.size:=by rw[I.size];exact td h0 H.le
    rw[tf,uq b5] at ao⊢;simpa using ao
   refine⟨(fun b8=>by rw[b8] at bi;cases bi),fun i b2=>?_⟩;obtain⟨q1,o,y,q3⟩:=mem_ready.1 b2;have a8:i < J.size:=(te.1 y).1;have b1:i < h:=by
    rcases tu i h with W|W
    .exact W
    .have ba:i < (AW J.toList []).length:=by rw[CY];exact a8
     have E:=H.tail i _ (tZ ba) W M (by omega);have:=CN I.closed (tZ ba) y q3 M E;rw[ao] at this;cases this
   refine Gd y (I.comes H hA ca cb cc b1 y (bm i q1) q3 fun v Z I' ci=>?_);refine ih _ _ Z I' (D.trans b6 (tY _) ci) ?_;have:=Ej (listed:=listed) (i:=i) (by rw[I.size];exact a8) (bm i q1);omega
end
section
variable {P:Program}{T:Tab}{call:Au}{aj:Ys}{r:Option Nat}{ai:Nat}{J:Array Oper}{ac:PC}
theorem Vt {J:Array Oper}{ac:PC}{s an:RS}{o:Oper}(h:Bt P call aj J ac s o=some an):an.tmps.n=s.tmps.n:=by
 unfold Bt at h;simp only[tX,tU] at h;obtain⟨⟨run,aD⟩,p,h⟩:=h;obtain⟨_,l,_⟩:=Hq p;rw[<-l];simp only at h;split at h
 .cases h
 split at h
 .cases h;exact Gl ..
 .split at h
  .simp only[tU] at h;obtain⟨⟨c,m,g⟩,_,h⟩:=h;simp only at h;split at h
   .cases h;exact Gl ..
   .split at h
    .cases h;exact Gl ..
    .split at h
     .cases h;exact Gl ..
     .cases h
  .simp only[tU] at h;obtain⟨r,_,h⟩:=h;cases h;exact Gl ..
  .simp only[tU] at h;obtain⟨r,_,h⟩:=h;split at h
   .cases h;exact Gl ..
   .split at h
    .cases h;exact Gl ..
    .split at h
     .cases h;exact Gl ..
     .cases h
theorem Rc {D:List (Tmp × Nat)}:∀{l:List Oper} {u:List Nat} {M:Nat} {p q:DS},heads P call aj J D ac u l M p=some q->
  ∃S:Nat->DS,S M=p/\S (M+l.length)=q/\∀i o,l[i]? =some o->∃R,u[i]? =some R/\Lm P call aj J D ac R (M+i) o (S (M+i))=some (S (M+i+1))
 |[],u,M,p,q,h=>by
  have H:some p=some q:=by cases u<;>exact h
  cases H;exact⟨fun _=>p,rfl,rfl,fun i o X=>by simp at X⟩
 |o::l,[],M,p,q,h=>by simp[heads] at h
 |o::l,R::u,M,p,q,h=>by
  simp only[heads,tX,tU] at h;obtain⟨S1,C,O⟩:=h;obtain⟨S,q1,q2,q3⟩:=Rc O;refine⟨fun k=>if k=M then p else S k,by simp,?_,fun i Y y=>?_⟩
  .simp only[uJ];rw[vA (by omega),<-q2];congr 1;omega
  .cases i with
   |zero=>
    simp at y;subst y;refine⟨R,rfl,?_⟩;simp only[Nat.add_zero,if_true];rw[vA (by omega),q1];exact C
   |succ i=>
    obtain⟨E,W,this⟩:=q3 i Y (by simpa using y);refine⟨E,by simpa using W,?_⟩;simp only;rw[vA (by omega),vA (by omega),show M+(i+1)=M+1+i by omega];exact this
theorem AH.drawn (T:Tab)(n:Nat)(V :Nat->Option Nat)(m:Mem)(w:World)(d:Nat):AH T n V m w V m { w with drawn:=d } where
 os:=rfl
 tape:=rfl
 output:=rfl
 size:=tY _
 mlen:=fun _ h=>h
 rho:=fun _ h=>⟨rfl,h⟩
 untr:=fun _ _ h=>h
 fresh:=fun id b h l _=>by rw[h] at l;cases l
 old:=fun _ _ _=>rfl
 tok:=fun _ _ _ _ h=> .inl ⟨h,rfl,fun _ _=>rfl⟩
 row:=fun _ x y ks _ h=> .inr ⟨x,y,ks,h,rfl,.inl ⟨rfl,rfl,fun _ W _ p=>⟨W,p,rfl⟩⟩⟩
theorem AG.drawn {n:Nat}{V :Nat->Option Nat}{m:Mem}{w:World}(l:AG T n V m w)(d:Nat):AG T n V m { w with drawn:=d }:=
 ⟨fun id=>BJ.step (AH.drawn T n V m w d) l (tY _) rfl rfl (fun _ _=>rfl),l.inj,l.fr⟩
theorem lw (hm:P.follows .mixedOrders=true)(a1:CL P T call)(a4:Ce P T.lp aj){l:Loc}{g:G}{an:RS}(h:XD P call aj J ac l g=some an):
  AX g an.g/\an.tmps.n=l.tmps.n/\(Agr T an.g->Aj T an.g->pcv T ac->BK T g ac->∀id V a w Q,Rel T g.n V l a w->
   (∀ ab M Z,Bu T ab J an M Z->AH T g.n V l.mem w ab an.mem Z->Q .normal M Z)->(Code.region id J true).wpIn (fen r) ai P Q a w):=by
 unfold XD at h;simp only at h;split at h
 .rename_i D;rw[tV] at D;obtain⟨bi,cs⟩:=D;simp only[tX,tU] at h;obtain⟨Sh,hh,ht⟩:=h;obtain⟨t1,_,t3⟩:=Lq (AW J.toList []) 0 0 (tY _);rw[tj,CY] at t1;generalize c4:Ep (AW J.toList []) 0 0=hd at*;obtain⟨S,q1,q2,q3⟩:=Rc hh;have cj:(J.toList.take hd).length=hd:=by simp;omega
  rw[tj,cj] at q2;have H:FM P T call aj J ac hd S:=by
   refine⟨t1,fun j o y ho=>?_,bi,cs,fun j r hr y i Y=>t3 j r hr (by omega) i (by omega),a1,a4,by rw[q1]⟩;obtain⟨R,u,this⟩:=q3 j o (by rw[ux,vC y];simpa using ho);grind
  obtain⟨X,_⟩:=H.later 0 hd (by omega);rw[tj] at X;have q:(S 0).g=g:=by rw[q1]
  have aM:(S 0).mem=l.mem:=by rw[q1]
  have a8:(S 0).tmps=l.tmps:=by rw[q1]
  subst q2;obtain⟨ao,E⟩:=Jn (r:=r) (ai:=ai) a1 a4 ht;refine⟨?_,?_,fun hA bj bm bs id V a w Q u hK=>?_⟩
  .rw[<-q];exact X.grow.trans ao
  .have:=(show an.tmps.n=(S hd).tmps.n from by
    have c0:∀{l:List Oper} {s an:RS},DL P call aj J ac l s=some an->an.tmps.n=s.tmps.n:=by
     intro l;induction l with
     |nil=>intro s an h;simp only[DL] at h;cases h;rfl
     |cons o l ih=>
      intro s an h;simp only[DL,tX,tU] at h;obtain⟨aD,C,O⟩:=h;rw[ih O];exact Vt C
    exact c0 ht)
   rw[this,X.len,a8]
  .have cb:Agr T (S hd).g:=hA.of ao;have cv:Aj T (S hd).g:=bj.of ao;refine wpIn_region_any hm ?_;have bt:=AH.drawn T (S 0).g.n V (S 0).mem w (w.drawn+1);have bb:AG T (S 0).g.n V (S 0).mem { w with drawn:=w.drawn+1 }:=by rw[q,aM];exact u.mem.drawn _
   have W:∀j,(Array.replicate J.size false).getD j false=false:=fun j=>by
    rw[tf,Array.getElem?_replicate];split<;>rfl
   have I0:LU T J hd S (Array.replicate J.size false) V a { w with drawn:=w.drawn+1 }:=by
    refine⟨by simp,fun j o _ y=>?_,fun i Y=>?_,(by rw[aM];exact u.defers.on (AH.drawn T g.n V l.mem w (w.drawn+1))),by rw[a8];exact u.size,bb,fun t c D _=>?_,fun i o d c Y=>?_,fun p _ hp=>?_⟩
    .rw[W] at y;cases y
    .rw[W] at Y;cases Y
    .rw[a8] at D;have:=u.tmps t c D;rw[q,aM];exact AA.mono0 (by rw[<-q,<-aM];exact bt) (tY _) _ _ this
    .rw[W] at Y;cases Y
    .rw[W] at hp;cases hp
   have ce:Cd (Array.replicate J.size false)=J.size:=by simp[Cd,List.countP_replicate]
   refine qS H cb cv bm (by rw[q];exact bs) bb (fun listed M Z e1 e2 e3 e4 e5=>?_) J.size _ a _ I0 (AH.refl _ _ _ _ _) ce;have cf:(J.toList.drop hd).length=J.size - hd:=by simp
   have:=ck (r:=r) (ai:=ai) a1 a4 bi (fun j r hr y i Y=>t3 j r hr (by omega) i (by omega)) ht hA bj bm ((by rw[q];exact bs:BK T (S 0).g ac).grow X.grow) hd listed V M Z Q (tY _) (by rw[cf];omega)
    (fun j=>by simp) e1 e2 e3 e4 (fun aW a2 w2 ci cx=>?_)
   .grind
   .refine hK aW a2 w2 ci ?_;rw[<-q,<-aM];have aD:AH T (S 0).g.n V (S 0).mem w V (S 0).mem Z:=bt.trans (by rw[q,aM];exact u.mem) (tY _) e5;have s2:AH T (S hd).g.n V (S 0).mem Z aW an.mem w2:=by rw[<-X.mem];exact cx
    exact aD.trans (by rw[q,aM];exact u.mem) X.grow.n s2
 .cases h
end
structure Il (T1 T2:Tab) (ρ :Nat->Option Nat) (m1 m2:Mem) (w:World) (nh nm:Nat):Prop where
 eq:∀x,x < nh->T2 x=T1 x
 safe:∀b off,AY T1 ρ m1 w b off->AY T2 ρ m2 w b off
 ptr:∀id,id < nm->(m1.at id).ptrOk=true->(m2.at id).ptrOk=true
 vec:∀id,id < nm->m1.at id≠ .pad->m2.at id≠ .pad/\∀x ks e,m2.at id= .tok x ks e->x < nh->∃ks1,m1.at id= .tok x ks1 e/\ks1.length=ks.length
 row:∀id,id < nm->m1.at id≠ .pad->m2.at id≠ .pad/\∀x y ks e,m2.at id= .mrow x y ks e->∃x1 ks1,m1.at id= .mrow x1 y ks1 e/\ks1.length=ks.length
theorem BC {a b:Nat}(h:Nat.blt a b=true):a < b:=by rwa [Nat.blt_eq] at h
section
variable {aC A:Tab}{V :Nat->Option Nat}{au ag:Mem}{w:World}{nh aR am ay:Nat}
theorem Il.kd (M:Il aC A V au ag w nh aR){k:Kd}{u:U}{v:Value}(h:AT (AY aC V au w) w k u v):AT (AY A V ag w) w k u v:=
 AT.mono (fun b off aa=>⟨M.safe b off aa,rfl⟩) k u v h
mutual
theorem AA.move (M:Il aC A V au ag w nh aR)(q:nh<=ay):∀(c:AC) (v:Value),AC.lt nh aR c=true->AA aC am V au w c v->AA A ay V ag w c v
 | .any,_,_,_=>trivial
 | .anyc,_,_,h=>h
 | .on c a,v,hl,h=>by
  simp only[AC.lt,tV] at hl;have hc:=BC hl.1;refine⟨td hc q,fun D=>AA.move M q a v hl.2 (h.2 ?_)⟩;rw[M.eq c hc] at D;exact D
 | .gd c a,v,hl,h=>by
  simp only[AC.lt,tV] at hl;have hc:=BC hl.1;refine⟨td hc q,fun D=>AA.move M q a v hl.2 (h.2.1 ?_),fun D=>h.2.2 ?_⟩
  .rw[M.eq c hc] at D;exact D
  .rw[M.eq c hc] at D;exact D
 | .cb _,_,_,h=>h
 | .b x,v,hl,h=>by
  have p:=BC hl;obtain⟨_,b,C,O⟩:=h;exact⟨td p q,b,by rw[M.eq x p];exact C,O⟩
 | .nb x,v,hl,h=>by
  have p:=BC hl;obtain⟨_,b,C,O⟩:=h;exact⟨td p q,b,by rw[M.eq x p];exact C,O⟩
 | .ci _ _,_,_,h=>h
 | .i k ap Y x,v,hl,h=>by
  have p:=BC hl;obtain⟨_,b,C,O⟩:=h;exact⟨td p q,b,by rw[M.eq x p];exact C,O⟩
 | .cv _,_,_,h=>h
 | .v x,v,hl,h=>by
  have p:=BC hl;exact⟨td p q,by rw[M.eq x p];exact h.2.1,h.2.2⟩
 | .s x,v,hl,h=>by
  have p:=BC hl;obtain⟨_,b,C,O⟩:=h;exact⟨td p q,b,by rw[M.eq x p];exact C,O⟩
 | .ptr id off,v,hl,h=>by
  obtain⟨b,C,O,u⟩:=h;exact⟨b,C,O,M.ptr id (BC hl) u⟩
 | .pix id base aD aW x aP,v,hl,h=>by
  simp only[AC.lt,tV] at hl;have p:=BC hl.2;obtain⟨_,b,j,C,O,u,H,h5,h6⟩:=h;exact⟨td p q,b,j,C,by rw[M.eq x p];exact O,u,H,h5,M.ptr id (BC hl.1) h6⟩
 | .ro x ks,v,hl,h=>by
  have p:=BC hl;exact⟨td p q,by rw[M.eq x p];exact M.kd h.2⟩
 | .rp x t off ks,v,hl,h=>by
  simp only[AC.lt,tV] at hl;have p:=BC hl.1;have D:=BC hl.2;obtain⟨_,j,b,o,us,C,O,u,H,h5⟩:=h;refine⟨⟨td p q,td D q⟩,j,b,o,us,by rw[M.eq t D];exact C,O,by rw[M.eq x p];exact u,H,?_⟩;exact Af.mono (fun b off aa=>⟨M.safe b off aa,rfl⟩) _ _ _ _ h5
 | .vec id x ks,v,hl,h=>by
  simp only[AC.lt,tV] at hl;have p:=BC hl.2;obtain⟨_,O,u,H⟩:=h;obtain⟨k1,E⟩:=M.vec id (BC hl.1) O;refine⟨td p q,k1,by rw[M.eq x p];exact M.kd u,fun ah e he=>?_⟩;obtain⟨a1,q1,q2⟩:=E x ah e he p;rcases H a1 e q1 with⟨X,ae⟩|⟨b,I,W,X,ae,l3,l4⟩
  .exact .inl ⟨X,by rw[M.eq x p];exact ae⟩
  .exact .inr ⟨b,I,W,X,by rw[M.eq x p];exact ae,l3,by rw[<-q2];exact l4⟩
 | .fn f first I,v,hl,h=>by
  simp only[AC.lt,tV] at hl;obtain⟨W,us,C,O,u⟩:=h;exact⟨W,us,C,AB.move M q first W hl.1 O,AB.move M q I us hl.2 u⟩
 | .sel x alts,v,hl,h=>by
  simp only[AC.lt,tV] at hl;have p:=BC hl.1;obtain⟨_,j,C,O,u⟩:=h;exact⟨td p q,j,by rw[M.eq x p];exact C,O,Am.move M q alts j.toNat v hl.2 u⟩
 | .yl id,v,hl,h=>by
  obtain⟨b,C,O,u⟩:=h;exact⟨b,C,O,M.ptr id (BC hl) u⟩
 | .asl id off len,v,hl,h=>by
  obtain⟨b,C,O,u⟩:=h;exact⟨b,C,O,M.ptr id (BC hl) u⟩
 | .rsv id x ks,v,hl,h=>by
  simp only[AC.lt,tV] at hl;have p:=BC hl.2;obtain⟨_,O,h5,u,H⟩:=h;obtain⟨k1,E⟩:=M.vec id (BC hl.1) O;refine⟨td p q,k1,by rw[M.eq x p];exact h5,u,fun ah e he=>?_⟩;obtain⟨a1,q1,q2⟩:=E x ah e he p;rcases H a1 e q1 with⟨X,ae⟩|⟨b,len,I,W,X,ae,l0,l3,l4⟩
  .exact .inl ⟨X,ae⟩
  .exact .inr ⟨b,len,I,W,X,ae,l0,l3,by rw[<-q2];exact l4⟩
 | .mr id y,v,hl,h=>by
  simp only[AC.lt,tV] at hl;have hy:=BC hl.2;obtain⟨⟨_,O⟩,j,a,I,k1,E,k3,k4,k5⟩:=h;obtain⟨q1,q2⟩:=M.row id (BC hl.1) O;refine⟨⟨td hy q,q1⟩,j,a,I,by rw[M.eq y hy];exact k1,E,k3,k4,fun x ks e he=>?_⟩;obtain⟨x1,a1,q3,q4⟩:=q2 x y ks e he;rcases k5 x1 a1 e q3 with l|⟨b,W,X,ae,l3,l4⟩
  .exact .inl l
  .exact .inr ⟨b,W,X,ae,l3,by rw[<-q4];exact l4⟩
 | .mp id y t sz off,v,hl,h=>by
  simp only[AC.lt,tV] at hl;have hy:=BC hl.1.2;have D:=BC hl.2;obtain⟨⟨_,_,O⟩,j,L,b,k1,E,k3,k4,k5⟩:=h;obtain⟨q1,q2⟩:=M.row id (BC hl.1.1) O;refine⟨⟨td hy q,td D q,q1⟩,j,L,b,by rw[M.eq t D];exact k1,by rw[M.eq y hy];exact E,k3,k4,fun x ks e he=>?_⟩;obtain⟨x1,a1,q3,q4⟩:=q2 x y ks e he;exact k5 x1 a1 e q3
 | .mv id,v,hl,h=>by
  obtain⟨b,C,O,u⟩:=h;exact⟨b,C,O,M.ptr id (BC hl) u⟩
 | .agg l,v,hl,h=>by
  obtain⟨W,C,O⟩:=h;exact⟨W,C,AB.move M q l W (by simpa [AC.lt] using hl) O⟩
 | .tup l,v,hl,h=>by
  obtain⟨W,C,O⟩:=h;exact⟨W,C,AB.move M q l W (by simpa [AC.lt] using hl) O⟩
theorem AB.move (M:Il aC A V au ag w nh aR)(p:nh<=ay):∀(l:List AC) (W:List Value),AC.ltL nh aR l=true->AB aC am V au w l W->AB A ay V ag w l W
 |[],_,_,h=>h
 |c::l,W,hl,h=>by
  simp only[AC.ltL,tV] at hl;obtain⟨u,us,C,O,q⟩:=h;exact⟨u,us,C,AA.move M p c u hl.1 O,AB.move M p l us hl.2 q⟩
theorem Am.move (M:Il aC A V au ag w nh aR)(p:nh<=ay):∀(l:List AC) (j:Nat) (v:Value),AC.ltL nh aR l=true->Am aC am V au w l j v->Am A ay V ag w l j v
 |[],_,_,_,h=>h.elim
 |c::_,0,v,hl,h=>by
  simp only[AC.ltL,tV] at hl;exact AA.move M p c v hl.1 h
 |_::l,j+1,v,hl,h=>by
  simp only[AC.ltL,tV] at hl;exact Am.move M p l j v hl.2 h
end
structure By (T1 T2:Tab) (n:Nat):Prop where
 eq:∀x,x < n->T2 x=T1 x
 fr:T2.fr=T1.fr
 lp:T2.lp=T1.lp
theorem By.safe {n:Nat}(S:By aC A n)(q:AG aC n V au w){b off:Nat}(h:AY aC V au w b off):AY A V au w b off:=by
 refine⟨h.1,by rw[S.fr];exact h.2.1,fun id=>?_⟩;have:=h.2.2 id;cases p:au.at id with
 |pad=>trivial
 |gone=>trivial
 |cells l e=>rw[p] at this;exact this
 |lp s D=>rw[p] at this;exact this
 |mrow x y ks e=>rw[p] at this;exact this
 |mapb x ai C aN aU=>rw[p] at this;exact this
 |tok x ks e=>
  rw[p] at this;intro u;have:=this u;unfold CA at this⊢;rw[S.eq x (q.tok_lt p)];exact this
section
variable {n:Nat}(S:By aC A n)(aa:∀b off,AY aC V au w b off->AY A V au w b off)
mutual
theorem AA.tab (S:By aC A n)(aa:∀b off,AY aC V au w b off->AY A V au w b off):∀(c:AC) (v:Value),AA aC n V au w c v->AA A n V au w c v
 | .any,_,_=>trivial
 | .anyc,_,h=>h
 | .on c a,v,h=>⟨h.1,fun p=>AA.tab S aa a v (h.2 (by rw[S.eq c h.1] at p;exact p))⟩
 | .gd c a,v,h=>⟨h.1,fun p=>AA.tab S aa a v (h.2.1 (by rw[S.eq c h.1] at p;exact p)),fun p=>h.2.2 (by rw[S.eq c h.1] at p;exact p)⟩
 | .cb _,_,h=>h
 | .b x,v,⟨h0,b,C,O⟩=>⟨h0,b,by rw[S.eq x h0];exact C,O⟩
 | .nb x,v,⟨h0,b,C,O⟩=>⟨h0,b,by rw[S.eq x h0];exact C,O⟩
 | .ci _ _,_,h=>h
 | .i k ap Y x,v,⟨h0,b,C,O⟩=>⟨h0,b,by rw[S.eq x h0];exact C,O⟩
 | .cv _,_,h=>h
 | .v x,v,⟨h0,C,O⟩=>⟨h0,by rw[S.eq x h0];exact C,O⟩
 | .s x,v,⟨h0,b,C,O⟩=>⟨h0,b,by rw[S.eq x h0];exact C,O⟩
 | .ptr _ _,_,h=>h
 | .pix id base aD aW x aP,v,⟨h0,b,j,C,O,h3⟩=>⟨h0,b,j,C,by rw[S.eq x h0];exact O,h3⟩
 | .ro x ks,v,⟨h0,C⟩=>⟨h0,by rw[S.eq x h0];exact AT.mono (fun b off h=>⟨aa b off h,rfl⟩) _ _ _ C⟩
 | .rp x t off ks,v,⟨h0,j,b,o,us,C,O,h3,h4,h5⟩=>⟨h0,j,b,o,us,by rw[S.eq t h0.2];exact C,O,by rw[S.eq x h0.1];exact h3,h4,Af.mono (fun b off h=>⟨aa b off h,rfl⟩) _ _ _ _ h5⟩
 | .vec id x ks,v,⟨h0,C,O,h3⟩=>⟨h0,C,by rw[S.eq x h0];exact AT.mono (fun b off h=>⟨aa b off h,rfl⟩) _ _ _ O,fun ah e q=>by
   have:=h3 ah e q;unfold VP at this⊢;rw[S.eq x h0];exact this⟩
 | .fn f first I,v,⟨W,us,C,O,h3⟩=>⟨W,us,C,AB.tab S aa first W O,AB.tab S aa I us h3⟩
 | .sel x alts,v,⟨h0,j,C,O,h3⟩=>⟨h0,j,by rw[S.eq x h0];exact C,O,Am.tab S aa alts j.toNat v h3⟩
 | .yl _,_,h=>h
 | .asl _ _ _,_,h=>h
 | .rsv id x ks,v,⟨h0,C,O,h3,h4⟩=>⟨h0,C,by rw[S.eq x h0];exact O,h3,h4⟩
 | .mr id y,v,⟨⟨h0,C⟩,j,a,I,k1,E⟩=>⟨⟨h0,C⟩,j,a,I,by rw[S.eq y h0];exact k1,E⟩
 | .mp id y t sz off,v,⟨⟨h0,h0',C⟩,j,L,b,k1,E,k3⟩=>⟨⟨h0,h0',C⟩,j,L,b,by rw[S.eq t h0'];exact k1,by rw[S.eq y h0];exact E,k3⟩
 | .mv _,_,h=>h
 | .agg l,v,⟨W,C,O⟩=>⟨W,C,AB.tab S aa l W O⟩
 | .tup l,v,⟨W,C,O⟩=>⟨W,C,AB.tab S aa l W O⟩
theorem AB.tab (S:By aC A n)(aa:∀b off,AY aC V au w b off->AY A V au w b off):∀(l:List AC) (W:List Value),AB aC n V au w l W->AB A n V au w l W
 |[],_,h=>h
 |c::l,W,⟨u,us,C,O,h3⟩=>⟨u,us,C,AA.tab S aa c u O,AB.tab S aa l us h3⟩
theorem Am.tab (S:By aC A n)(aa:∀b off,AY aC V au w b off->AY A V au w b off):∀(l:List AC) (j:Nat) (v:Value),Am aC n V au w l j v->Am A n V au w l j v
 |[],_,_,h=>h.elim
 |c::_,0,v,h=>AA.tab S aa c v h
 |_::l,j+1,v,h=>Am.tab S aa l j v h
end
end
theorem AG.tab {n:Nat}(S:By aC A n)(E:AG aC n V au w):AG A n V au w:=by
 have aa:∀b off,AY aC V au w b off->AY A V au w b off:=fun b off h=>S.safe E h;refine⟨fun id=>?_,E.inj,fun b off h=>by rw[S.fr];exact E.fr b off h⟩;have:=E.blk id;cases D:au.at id with
 |pad=>trivial
 |gone=>trivial
 |cells l e=>
  rw[D] at this;obtain⟨b,W,C,O,u⟩:=this;exact⟨b,W,C,O,AB.tab S aa l W u⟩
 |tok x ks e=>
  rw[D] at this;obtain⟨p,l,C,O⟩:=this;refine⟨p,l,by rw[S.eq x p];exact C,?_⟩;rw[S.fr];exact O
 |mrow x y ks e=>
  rw[D] at this;obtain⟨p,l,C,a2,a4,O⟩:=this;refine⟨p,l,by rw[S.eq x p.1];exact C,by rw[S.eq y p.2];exact a2,a4,?_⟩;rw[S.fr];rcases O with O|⟨b,W,us,q1,q2,q3,q4⟩
  .exact .inl O
  .exact .inr ⟨b,W,us,q1,q2,Ab.mono (fun b off h=>⟨aa b off h,rfl⟩) q3,q4⟩
 |mapb x ai ka aN aU=>
  rw[D] at this;obtain⟨p,l,b,aw,a3,C,O,u,H,M,X,Y⟩:=this;refine⟨p,l,b,aw,a3,by rw[S.eq x p];exact C,O,u,H,M,fun i us e hl he=>?_,Y⟩;obtain⟨u1,u2,q1,q2,q3⟩:=X i us e hl he;exact⟨u1,u2,q1,Bw.mono (fun b off h=>⟨aa b off h,rfl⟩) q2,Bw.mono (fun b off h=>⟨aa b off h,rfl⟩) q3⟩
 |lp s st=>
  rw[D] at this;obtain⟨b,q,C,O,u,H,M,X,Y,j,h8,h9⟩:=this;refine⟨b,q,C,O,?_⟩;rw[S.lp];exact⟨u,H,M,X,fun i c hc=>AA.tab S aa c _ (Y i c hc),j,AA.tab S aa st _ h8,h9⟩
theorem By.symm {n:Nat}(S:By aC A n):By A aC n:=⟨fun x l=>(S.eq x l).symm,S.fr.symm,S.lp.symm⟩
theorem AH.tab {n:Nat}{ab:Nat->Option Nat}{ad:Mem}{Z:World}(S:By aC A n)(X:AG aC n V au w)(aa:AH aC n V au w ab ad Z)(Y:∀id aA ah e',ad.at id= .tok aA ah e'->A aA=aC aA):AH A n V au w ab ad Z:=
 {aa with
  tok:=fun id x ks e q=>by
   have u:=X.tok_lt q;rcases aa.tok id x ks e q with h|⟨C,O⟩
   .exact .inl h
   .refine .inr ⟨fun b M off l=>C b M off (by unfold CA at l⊢;rw[S.eq x u] at l;exact l),?_⟩;rcases O with O|⟨aA,ah,e',O,D,H⟩
    .exact .inl O
    .refine .inr ⟨aA,ah,e',O,D,fun y W=>?_⟩;rcases H y W with⟨p,E⟩|p
     .refine .inl ⟨p,?_⟩;unfold CA at E⊢;rw[S.eq x u,Y id aA ah e' O];exact E
     .exact .inr p }
end
theorem U.same_eq {u v:U}(h:U.same u v=true):u=v:=by
 unfold U.same at h;grind
theorem Rf.same_eq {r s:Rf}(h:Rf.same r s=true):r=s:=by
 cases r<;>cases s<;>simp only[Rf.same] at h<;>first|(cases h;done)|(rw[U.same_eq h])|(rw[tW h])
theorem Fm {a b:Option (List Pr)}{ps:List Pr}(h:Nv a b=some ps):∃x y,a=some x/\b=some y/\ps=x++y:=by
 cases a<;>cases b<;>simp only[Nv] at h<;>first|(cases h;done)|(cases h;exact⟨_,_,rfl,rfl,rfl⟩)
inductive JD (T1 T2:Tab) (nh:Nat):Blk->Blk->Prop where
 |pad (b:Blk):JD T1 T2 nh .pad b
 |gone {b:Blk} (h:b≠ .pad):JD T1 T2 nh .gone b
 |cells (l l':List AC) (e:TypeId):JD T1 T2 nh (.cells l e) (.cells l' e)
 |same (x:Nat) (ks:List Kd) (e:TypeId) (h:x < nh):JD T1 T2 nh (.tok x ks e) (.tok x ks e)
 |tok {x x':Nat} {ks ks':List Kd} {e:TypeId} (h1:nh<=x) (h2:T2 x=T1 x') (h3:ks.length=ks'.length):JD T1 T2 nh (.tok x ks e) (.tok x' ks' e)
 |lp (s:Nat) (st st':AC):JD T1 T2 nh (.lp s st) (.lp s st')
 |mrow {x x' y:Nat} {ks ks':List Kd} {e:TypeId} (h1:y < nh) (h3:ks.length=ks'.length):JD T1 T2 nh (.mrow x y ks e) (.mrow x' y ks' e)
 |mapb {x x':Nat} {kk kk' vk vk':List Kd} {ka va:Bool}:JD T1 T2 nh (.mapb x kk ka vk va) (.mapb x' kk' ka vk' va)
section
variable {aC A:Tab}{V :Nat->Option Nat}{w:World}{nh aR am ay:Nat}{rs:List Rf}{aQ m:Mem}
variable{x:Nat}{r:Rf}{lps:List (Nat × CO)}{bc aM:Mem}{ps:List Pr}
theorem RN (h:JT nh rs x r=true):nh<=x/\rs[x - nh]? =some r:=by
 unfold JT at h;rw[tV] at h;refine⟨uF h.1,?_⟩;have O:=h.2;split at O
 .rename_i p l;rw[l,Rf.same_eq O]
 .cases O
def Ev (aC A:Tab)(nh ay:Nat)(rs:List Rf):Prop:=∀j r,rs[j]? =some r->nh+j < ay/\A (nh+j)=r.eval aC
theorem Ev.at (H:Ev aC A nh ay rs)(h:JT nh rs x r=true):x < ay/\A x=r.eval aC:=by
 obtain⟨C,O⟩:=RN h;have:=H _ _ O;grind
theorem PY {aR:Nat}{b u:Blk}(h:Dp lps nh aR rs bc aM b u=some ps)(H:Ev aC A nh ay rs):JD aC A nh b u/\(b= .pad->u= .pad):=by
 cases b with
 |pad=>cases u<;>simp only[Dp] at h<;>first|(cases h;done)|exact⟨.pad _,fun _=>rfl⟩
 |gone=>cases u<;>simp only[Dp] at h<;>first|(cases h;done)|exact⟨.gone (fun h=>by cases h),fun h=>by cases h⟩
 |cells l e=>
  cases u<;>simp only[Dp] at h<;>try (cases h;done)
  split at h
  .rename_i Y;rw[tW Y];exact⟨.cells _ _ _,fun h=>by cases h⟩
  .cases h
 |tok x ks e=>
  cases u<;>simp only[Dp] at h<;>try (cases h;done)
  rename_i aA ah e';split at h
  .rename_i p;simp only[tV,uN] at p;obtain⟨⟨C,O⟩,D⟩:=p;have M:=tW C;have W:=tW O;subst M;refine⟨?_,fun h=>by cases h⟩;rcases D with⟨⟨D,E⟩,X⟩|D
   .rw[<-tW E,<-Kd.beqs_eq _ _ X];exact .same _ _ _ (BC D)
   .obtain⟨_,q⟩:=H.at D;exact .tok (RN D).1 (by rw[q];rfl) W
  .cases h
 |lp s st=>
  cases u<;>simp only[Dp] at h<;>try (cases h;done)
  split at h
  .rename_i p;simp only[tV] at p;rw[tW p.1];exact⟨.lp _ _ _,fun h=>by cases h⟩
  .cases h
 |mrow x y ks e=>
  cases u<;>simp only[Dp] at h<;>try (cases h;done)
  split at h
  .rename_i p;simp only[tV,uN] at p;obtain⟨⟨⟨C,O⟩,D⟩,E⟩:=p;rw[tW C,<-tW O];refine⟨.mrow (BC D) ?_,fun h=>by cases h⟩;rcases E with⟨_,E⟩|⟨_,E⟩
   .rw[Kd.beqs_eq _ _ E]
   .exact tW E
  .cases h
 |mapb x ai ka aN aU=>
  cases u<;>simp only[Dp] at h<;>try (cases h;done)
  split at h
  .rename_i p;simp only[tV,beq_iff_eq] at p;rw[p.1.1,p.1.2];exact⟨.mapb,fun h=>by cases h⟩
  .cases h
theorem P3 {lps:List (Nat × CO)}{aR:Nat}{bc aM:Mem}:∀{l af:Mem} {ps:List Pr},Gq lps nh aR rs bc aM l af=some ps->l.length<=af.length/\∀id,id < l.length->∃p,Dp lps nh aR rs bc aM (l.at id) (af.at id)=some p/\∀q∈p,q∈ps
 |[],_,ps,h=>⟨uQ _,fun id u=>by simp at u⟩
 |_::_,[],ps,h=>by simp[Gq] at h
 |b::l,b'::af,ps,h=>by
  simp only[Gq] at h;obtain⟨x,y,C,O,rfl⟩:=Fm h;obtain⟨W,E⟩:=P3 O;refine⟨by simp;omega,fun id u=>?_⟩;cases id with
  |zero=>exact⟨x,by simpa [Mem.at] using C,fun q D=>tz _ D⟩
  |succ id=>
   obtain⟨p,H,M⟩:=E id (by simpa using u);exact⟨p,by simpa [Mem.at] using H,fun q D=>tp _ (M q D)⟩
def EA (aC A:Tab)(nh:Nat)(aQ m:Mem):Prop:=∀id,JD aC A nh (aQ.at id) (m.at id)
theorem PL {aR:Nat}(h:Gq lps nh aR rs bc aM aQ m=some ps)(H:Ev aC A nh ay rs):EA aC A nh aQ m/\∀id,id < aQ.length->aQ.at id= .pad->m.at id= .pad:=by
 obtain⟨C,O⟩:=P3 h;refine⟨fun id=>?_,fun id l q=>?_⟩
 .rcases tu id aQ.length with l|l
  .obtain⟨u,p,_⟩:=O id l;exact (PY p H).1
  .rw[Mem.at_ge l];exact .pad _
 .obtain⟨u,p,_⟩:=O id l;exact (PY (aC:=aC) (A:=A) p H).2 q
theorem EA.tracked (S:EA aC A nh aQ m){id:Nat}(h:(aQ.at id).tracked=true):(m.at id).tracked=true:=by
 have:=S id;generalize aQ.at id=a at this h;generalize m.at id=b at this;cases this<;>first|rfl|(cases h;done)
theorem EA.safe (S:EA aC A nh aQ m)(u:∀x,x < nh->A x=aC x)(y:A.fr=aC.fr){b off:Nat}(h:AY aC V m w b off):AY A V aQ w b off:=by
 refine⟨h.1,by rw[y];exact h.2.1,fun id=>?_⟩;have O:=h.2.2 id;have:=S id;generalize aQ.at id=a at this⊢;generalize m.at id=b at this O;cases this with
 |pad=>trivial
 |gone=>trivial
 |cells=>exact O
 |lp=>exact O
 |mrow=>exact O
 |mapb=>exact O
 |same x ks e D=>
  intro l;have:=O l;unfold CA at this⊢;rw[u x D];exact this
 |tok C p q=>
  intro l;have:=O l;unfold CA at this⊢;rw[p,q];exact this
theorem EA.move (S:EA aC A nh aQ m)(p:∀id,id < aQ.length->aQ.at id= .pad->m.at id= .pad)(u:∀x,x < nh->A x=aC x)(H:A.fr=aC.fr):Il aC A V m aQ w nh aQ.length where
 eq:=u
 safe:=fun b off h=>S.safe u H h
 ptr:=fun id l h=>by
  have D:aQ.at id≠ .pad:=fun e=>by rw[p id l e] at h;cases h
  have:=S id;generalize aQ.at id=a at this D⊢;generalize m.at id=b at this h;cases this<;>first|rfl|(exact absurd rfl D)|(cases h;done)
 vec:=fun id l h=>by
  refine⟨fun e=>h (p id l e),fun x ks e q M=>?_⟩;have:=S id;rw[q] at this;generalize m.at id=b at this;cases this with
  |same=>exact⟨_,rfl,rfl⟩
  |tok C=>omega
 row:=fun id l h=>by
  refine⟨fun e=>h (p id l e),fun x y ks e q=>?_⟩;have:=S id;rw[q] at this;generalize m.at id=b at this;cases this with
  |mrow C E=>exact⟨_,_,rfl,E.symm⟩
theorem MJ {h c:AC}(l:LW nh aQ.length rs aQ m h c=some ps)(M:Il aC A V m aQ w nh aQ.length)(hn:nh<=ay)(H:Ev aC A nh ay rs)(S:EA aC A nh aQ m)(b7:∀p∈ps,p.holds aC){v:Value}
  (D:AA aC am V m w c v):AA A ay V aQ w h v:=by
 unfold LW at l;split at l
 .rename_i q;rw[tV] at q;have e:=AC.beq_eq _ _ q.2;subst e;exact AA.move M hn h v q.1 D
 .have put:∀{k:Kd} {x:Nat},Ik nh rs x (fit k c)=some ps->x < ay/\AT (AY A V aQ w) w k (A x) v:=by
   intro k x u;unfold Ik at u;split at u
   .rename_i r qs hf;split at u
    .rename_i hh;cases u;obtain⟨k1,E⟩:=H.at hh;exact⟨k1,by rw[E];exact M.kd (Xa hf D b7)⟩
    .cases u
   .cases u
  unfold iT at l;cases h with
  |any=>trivial
  |i k ap Y x=>exact put l
  |b x=>exact put l
  |v x=>exact put l
  |s x=>exact put l
  |ro x ks=>exact put l
  |vec id x ks=>
   cases c with
   |vec cf aA ah=>
    simp only at l;split at l
    .rename_i q;simp only[tV] at q;obtain⟨⟨⟨⟨aL,c2⟩,c3⟩,c4⟩,C⟩:=q;have e1:=tW aL;subst e1;obtain⟨k1,E⟩:=H.at c3;have a1:A x=aC aA:=by rw[E];rfl
     obtain⟨_,O,h3,h4⟩:=D;unfold kE at C;split at C
     .rename_i y ky e aS b8 e' a3 b5;simp only[tV] at C;obtain⟨⟨⟨d1,d2⟩,d3⟩,d4⟩:=C;have f1:=tW d1;have f2:=tW d2;have f3:=tW d3;have f4:=tW d4;subst f1;subst f2;subst f3;refine⟨k1,by rw[a3];exact (fun h=>by cases h),?_,fun ch ce he=>?_⟩
      .rw[a1];have:=Kd.join_l (.list ah) (.list ks) _ v (M.kd h3);rw[Kd.beq_eq _ _ c4] at this;exact this
      .rw[a3] at he;injection he with _ g1 ao
       subst g1;subst ao;rcases h4 b8 e b5 with⟨X,ae⟩|⟨b,I,W,X,ae,l3,l4⟩
       .exact .inl ⟨X,by rw[a1];exact ae⟩
       .exact .inr ⟨b,I,W,X,by rw[a1];exact ae,l3,by rw[f4];exact l4⟩
     .cases C
    .cases l
   |_=>cases l
  |_=>cases l
theorem PW (M:Il aC A V m aQ w nh aQ.length)(D:nh<=ay)(H:Ev aC A nh ay rs)(S:EA aC A nh aQ m):∀{l af:List AC} {ps:List Pr},LX nh aQ.length rs aQ m l af=some ps->(∀p∈ps,p.holds aC)->
  ∀W,AB aC am V m w af W->AB A ay V aQ w l W
 |[],[],ps,_,_,W,h=>h
 |[],_::_,ps,h,_,_,_=>by simp[LX] at h
 |_::_,[],ps,h,_,_,_=>by simp[LX] at h
 |a::l,c::af,ps,h,hps,W,⟨u,us,C,O,h3⟩=>by
  simp only[LX] at h;obtain⟨x,y,X,E,rfl⟩:=Fm h;exact⟨u,us,C,MJ X M D H S (fun p q=>hps p (tz _ q)) O,PW M D H S E (fun p q=>hps p (tp _ q)) us h3⟩
theorem Mu:∀{t H:Tr} {ps:List Pr},Kx nh aR rs aQ m t H=some ps->∀(i:Nat) (h:AC),t.get i=some h->h= .any\/∃c p,H.get i=some c/\LW nh aR rs aQ m h c=some p/\∀q∈p,q∈ps
 | .nil,H,ps,_,i,h,Y=>by simp[Tr.get] at Y
 | .node v l r,H,ps,hm,i,h,Y=>by
  simp only[Kx] at hm;obtain⟨x,y,C,O,rfl⟩:=Fm hm;obtain⟨y1,y2,h3,h4,rfl⟩:=Fm O;rw[Tr.get_step] at Y;rw[Tr.get_step H];by_cases X:i=0
  .rw[vC X] at Y⊢;simp only[Tr.val] at Y;subst Y;unfold jX at C;split at C
   .rename_i u;cases u
   .rename_i u;cases u;exact .inl rfl
   .rename_i h' c _ u hc;cases u;exact .inr ⟨c,x,hc,C,fun q D=>tz _ D⟩
   .cases C
  .rw[vA X] at Y⊢;by_cases h5:i % 2=1
   .rw[vC h5] at Y⊢;rcases Mu h3 (i / 2) h Y with k|⟨c,p,M,E,W⟩
    .exact .inl k
    .exact .inr ⟨c,p,M,E,fun q D=>tp _ (tz _ (W q D))⟩
   .rw[vA h5] at Y⊢;rcases Mu h4 (i / 2 - 1) h Y with k|⟨c,p,M,E,W⟩
    .exact .inl k
    .exact .inr ⟨c,p,M,E,fun q D=>tp _ (tp _ (W q D))⟩
theorem R1:∀{t:Tr},ZX nh aR t=true->∀(i:Nat) (c:AC),t.get i=some c->AC.lt nh aR c=true
 | .nil,_,i,c,Y=>by simp[Tr.get] at Y
 | .node v l r,h,i,c,Y=>by
  simp only[ZX,tV] at h;rw[Tr.get_step] at Y;by_cases p:i=0
  .rw[vC p] at Y;simp only[Tr.val] at Y;subst Y;exact h.1.1
  .rw[vA p] at Y;by_cases q:i % 2=1
   .rw[vC q] at Y;exact R1 h.1.2 _ _ Y
   .rw[vA q] at Y;exact R1 h.2 _ _ Y
theorem TL:∀{lps:List (Nat × CO)} {s:Nat} {S:CO},Fe lps s=some S->(s,S)∈lps
 |[],_,_,h=>by simp[Fe] at h
 |(an,S')::r,s,S,h=>by
  simp only[Fe] at h;split at h
  .rename_i l;cases h;rw[tW l];exact tl ..
  .exact th _ (TL h)
theorem Gs {hl l:Loc}(h:ES lps nh rs hl l=some ps)(d8:∀p∈lps,aC.lp p.1=p.2)(ce:A.fr=aC.fr)(d7:A.lp=aC.lp)(d4:A.base=aC.base)
  (b3:∀x,x < nh->A x=aC x) (hn:nh<=ay) (H:Ev aC A nh ay rs) (c2:∀p∈ps,p.holds aC) {a:Act} (hR:Rel aC am V l a w):
  Rel A ay V hl a w/\EA aC A nh hl.mem l.mem/\∀id,id < hl.mem.length->hl.mem.at id= .pad->l.mem.at id= .pad:=by
 unfold ES at h;split at h
 .rename_i hc;simp only[tV] at hc;obtain⟨⟨aL,c8⟩,c3⟩:=hc;obtain⟨p1,p2,C,O,rfl⟩:=Fm h;obtain⟨S,c1⟩:=PL (aC:=aC) (A:=A) C H;have M:Il aC A V l.mem hl.mem w nh hl.mem.length:=S.move c1 b3 ce;obtain⟨e0,dv⟩:=P3 C;have d9:∀p∈p1,p.holds aC:=fun p hp=>c2 p (tz _ hp);have ea:∀p∈p2,p.holds aC:=fun p hp=>c2 p (tp _ hp);refine⟨⟨?_,?_,fun i c Y=>?_,⟨fun id=>?_,fun id ei b t1 t2=>hR.mem.inj id ei b (S.tracked t1) (S.tracked t2),fun b off hb=>by rw[ce];exact hR.mem.fr b off hb⟩⟩,S,c1⟩
  .obtain⟨d0,Ds,d1,d2,d3⟩:=hR.defers;rw[d4];refine⟨d0,Ds,d1,d2,fun D hD=>?_⟩;obtain⟨e1,e2,e3⟩:=d3 D hD;exact⟨e1,e2,fun id ht=>e3 id (S.tracked ht)⟩
  .rw[hR.size];exact (tW c3).symm
  .have g1:hl.tmps.t.get i=some c:=by
    have:hl.tmps.loc=[]:=List.isEmpty_iff.1 aL;simpa [AV.get,this,BF] using Y
   rcases Mu O i c g1 with rfl|⟨aV,qs,k1,E,k3⟩
   .trivial
   .have ao:l.tmps.get i=some aV:=by
     have:l.tmps.loc=[]:=List.isEmpty_iff.1 c8;simpa [AV.get,this,BF] using k1
    exact MJ E M hn H S (fun p hp=>ea p (k3 p hp)) (hR.tmps i aV ao)
  .rcases tu id hl.mem.length with ch|ch
   .obtain⟨qs,u,q2⟩:=dv id ch;have hb:=hR.mem.blk id;have hq:∀p∈qs,p.holds aC:=fun p hp=>d9 p (q2 p hp);generalize hl.mem.at id=b at u⊢;generalize l.mem.at id=b' at u hb;cases b with
    |pad=>trivial
    |gone=>trivial
    |cells x e=>
     cases b'<;>simp only[Dp] at u<;>try (cases u;done)
     split at u
     .rename_i he;obtain⟨bb,W,y1,y2,y3⟩:=hb;rw[tW he];exact⟨bb,W,y1,y2,PW M hn H S u hq W y3⟩
     .cases u
    |tok x ks e=>
     cases b'<;>simp only[Dp] at u<;>try (cases u;done)
     rename_i aA ah e';split at u
     .rename_i hc;simp only[tV,uN] at hc;obtain⟨⟨i1,i2⟩,X⟩:=hc;have e1:=tW i1;have e2:=tW i2;subst e1;obtain⟨y0,ll,y1,y2⟩:=hb;have b1:x < ay/\A x=aC aA:=by
       rcases X with⟨⟨X,i4⟩,_⟩|X
       .rw[<-tW i4];exact⟨td (BC X) hn,b3 x (BC X)⟩
       .obtain⟨z1,z2⟩:=H.at X;exact⟨z1,by rw[z2];rfl⟩
      refine⟨b1.1,ll,by rw[b1.2];exact y1,?_⟩;rw[ce,e2];exact y2
     .cases u
    |mrow x y ks e=>
     cases b'<;>simp only[Dp] at u<;>try (cases u;done)
     rename_i aA aS ah e';split at u
     .rename_i hc;simp only[tV,uN] at hc;obtain⟨⟨⟨i1,i2⟩,X⟩,i4⟩:=hc;have e1:=tW i1;have e2:=tW i2;subst e1;subst e2;have hy:=BC X;obtain⟨y0,ll,y1,et,⟨y5,y6⟩,y2⟩:=hb;have b1:x < ay/\A x=aC aA/\ks.length=ah.length/\∀ok us W,AP ok w ah us W->AP ok w ks us W:=by
       rcases i4 with⟨⟨X,i4⟩,i5⟩|⟨⟨X,i4⟩,i5⟩
       .rw[<-tW i4,<-Kd.beqs_eq _ _ i5];exact⟨td (BC X) hn,b3 x (BC X),rfl,fun _ _ _ h=>h⟩
       .obtain⟨z1,z2⟩:=H.at X;have hl:=tW i5;refine⟨z1,by rw[z2];rfl,hl,fun ok us W h=>?_⟩;have:=h.join_l hl.symm;rw[Kd.beqs_eq _ _ i4] at this;exact this
      obtain⟨k1,E,k3,k4⟩:=b1;refine⟨⟨k1,td hy hn⟩,ll,by rw[E];exact y1,by rw[b3 y hy];exact et,⟨y5,fun h=>y6 (ur.1 (by rw[<-k3,h];rfl))⟩,?_⟩;rw[ce];rcases y2 with y2|⟨bb,W,us,z1,z2,⟨aH,z3,z4⟩,z5⟩
      .exact .inl y2
      .exact .inr ⟨bb,W,us,z1,z2,⟨aH,z3,A7.conv (k4 _) (A7.mono (fun b off h=>⟨M.safe b off h,rfl⟩) z4)⟩,z5⟩
     .cases u
    |mapb x ai ka aN aU=>
     cases b'<;>simp only[Dp] at u<;>try (cases u;done)
     rename_i aA ej e5 eq e8;split at u
     .rename_i hc;simp only[tV,uN,beq_iff_eq] at hc;obtain⟨⟨i1,i2⟩,i4⟩:=hc;subst i1;subst i2;obtain⟨y0,ll,bb,aw,a3,y1,y2,y3,y4,y5,y6,y7⟩:=hb;have b1:x < ay/\A x=aC aA/\(∀ok us W,AP ok w ej us W->AP ok w ai us W)/\∀ok us W,AP ok w eq us W->AP ok w aN us W:=by
       rcases i4 with⟨⟨⟨X,i4⟩,i5⟩,i6⟩|⟨⟨⟨⟨X,i4⟩,i5⟩,i6⟩,i7⟩
       .rw[<-tW i4,<-Kd.beqs_eq _ _ i5,<-Kd.beqs_eq _ _ i6];exact⟨td (BC X) hn,b3 x (BC X),fun _ _ _ h=>h,fun _ _ _ h=>h⟩
       .obtain⟨z1,z2⟩:=H.at X;refine⟨z1,by rw[z2];rfl,fun ok us W h=>?_,fun ok us W h=>?_⟩
        .have:=h.join_l (tW i5).symm;rw[Kd.beqs_eq _ _ i4] at this;exact this
        .have:=h.join_l (tW i7).symm;rw[Kd.beqs_eq _ _ i6] at this;exact this
      obtain⟨k1,E,k3,k4⟩:=b1;refine⟨k1,ll,bb,aw,a3,by rw[E];exact y1,y2,y3,y4,y5,fun i us e hl he=>?_,y7⟩;obtain⟨u1,u2,z1,⟨er,z2,z3⟩,⟨es,z4,z5⟩⟩:=y6 i us e hl he;exact⟨u1,u2,z1,⟨er,k3 _ _ _ (AP.mono (fun b off h=>⟨M.safe b off h,rfl⟩) z2),z3⟩,⟨es,k4 _ _ _ (AP.mono (fun b off h=>⟨M.safe b off h,rfl⟩) z4),z5⟩⟩
     .cases u
    |lp s st=>
     cases b'<;>simp only[Dp] at u<;>try (cases u;done)
     rename_i an e7;split at u
     .rename_i hc;simp only[tV] at hc;have e1:=tW hc.1;subst e1;obtain⟨bb,q,y1,y2,y3,y4,y5,y6,y7,j,y8,y9⟩:=hb;have b0:=hc.2;unfold lpLt at b0;split at b0
      .rename_i S0 hS;have hT:=d8 _ (TL hS);simp only at hT;rw[tV] at b0;have d6:S0.tmps.loc=[]:=List.isEmpty_iff.1 b0.1;refine⟨bb,q,y1,y2,?_⟩;rw[d7];refine⟨y3,y4,y5,y6,fun i c Y=>?_,j,MJ u M hn H S hq y8,y9⟩;have hg:S0.tmps.t.get i=some c:=by
        rw[hT] at Y;simpa [AV.get,d6,BF] using Y
       exact AA.move M hn c _ (R1 b0.2 i c hg) (y7 i c Y)
      .cases b0
     .cases u
   .rw[Mem.at_ge ch];trivial
 .cases h
theorem AH.matched {n:Nat}{aT:Nat->Option Nat}{aG:World}(S:EA aC A nh aQ m)(X:∀x,x < nh->A x=aC x)(hn:n<=nh)(bl:AG aC n aT aM aG)(a3:∀id,aM.at id≠ .pad->aQ.at id≠ .pad)
  (h:AH aC n aT aM aG V m w):AH A n aT aM aG V aQ w where
 os:=h.os
 tape:=h.tape
 output:=h.output
 size:=h.size
 mlen:=a3
 rho:=fun id D=>by
  obtain⟨C,O⟩:=h.rho id D;refine⟨C,?_⟩;have l:=a3 id (BI D);have:=S id;generalize aQ.at id=a at this l⊢;generalize m.at id=b at this O;cases this<;>first|rfl|(exact absurd rfl l)|(cases O;done)
 untr:=fun id D ht=>h.untr id D (S.tracked ht)
 fresh:=fun id b D ht hr=>h.fresh id b D (S.tracked ht) hr
 old:=h.old
 tok:=fun id x ks e H=>by
  have bs:=bl.tok_lt H;have l:=a3 id (by rw[H];exact fun h=>by cases h);have aa:=S id;rcases h.tok id x ks e H with⟨q,E,u⟩|⟨q,E⟩
  .rw[q] at aa;generalize a2:aQ.at id=a at aa l;cases aa with
   |pad=>exact absurd rfl l
   |gone=>exact .inr ⟨fun b M off _=>Be (u b M) off,.inl rfl⟩
   |same=>exact .inl ⟨rfl,E,u⟩
   |tok g1 ao g3=>
    refine .inr ⟨fun b M off _=>Be (u b M) off,.inr ⟨_,_,_,rfl,t8 hn g1,fun b' W=> .inl ⟨by rw[<-E];exact W,?_⟩⟩⟩;unfold CA;rw[ao,g3,X x (by omega)];exact tY _
  .refine .inr ⟨fun b M off ho=>q b M off (by unfold CA at ho⊢;rw[X x (by omega)] at ho;exact ho),?_⟩;rcases E with E|⟨aA,ah,e',E,u,k4⟩
   .rw[E] at aa;generalize a2:aQ.at id=a at aa l;cases aa with
    |pad=>exact absurd rfl l
    |gone=>exact .inl rfl
   .rw[E] at aa;generalize a2:aQ.at id=a at aa l;cases aa with
    |pad=>exact absurd rfl l
    |gone=>exact .inl rfl
    |same _ _ _ bj=>
     refine .inr ⟨_,_,_,rfl,u,fun b' W=>?_⟩;rcases k4 b' W with⟨p,Y⟩|p
     .refine .inl ⟨p,?_⟩;unfold CA at Y⊢;rw[X x (by omega),X aA bj];exact Y
     .exact .inr p
    |tok g1 ao g3=>
     refine .inr ⟨_,_,_,rfl,t8 hn g1,fun b' W=>?_⟩;rcases k4 b' W with⟨p,Y⟩|p
     .refine .inl ⟨p,?_⟩;unfold CA at Y⊢;rw[ao,g3,X x (by omega)];exact Y
     .exact .inr p
 row:=fun id x y ks e H=>by
  have l:=a3 id (by rw[H];exact fun h=>by cases h);have aa:=S id;rcases h.row id x y ks e H with q|⟨aA,aS,ah,q,E,u⟩
  .rw[q] at aa;generalize a2:aQ.at id=a at aa l;cases aa with
   |pad=>exact absurd rfl l
   |gone=>exact .inl rfl
  .rw[q] at aa;generalize a2:aQ.at id=a at aa l;cases aa with
   |pad=>exact absurd rfl l
   |gone=>exact .inl rfl
   |mrow g1 ao=>exact .inr ⟨_,_,_,rfl,ao.trans E,u⟩
end
def XK.ex:XK->Exit
 | .normal=> .normal
 | .exit id=> .exit id
 | .ret=> .ret
theorem Kn {T:Tab}(ac:PC):((E5 ac).eval T).toB=true↔pcv T ac:=by
 cases ac with
 |none=>exact⟨fun _=>trivial,fun _=>rfl⟩
 |some c=>exact GM.symm
def UQ (T:Tab)(a b:BA):Prop:=¬(pcv T a.pc/\pcv T b.pc)
structure D3 (T:Tab) (g:G) (N:Nat) (outs:List BA):Prop where
 each:∀o∈outs,Cu g o.pc/\o.l.tmps.n=N
 apart:outs.Pairwise (UQ T)
def ZS (T:Tab)(n0:Nat)(V :Nat->Option Nat)(m:Mem)(w:World)(n:Nat)(M:List BA)(Q:Exit->Act->World->Prop):Prop:=
 ∀o∈M,pcv T o.pc->∀ ab l Z,AH T n0 V m w ab o.l.mem Z->Rel T n ab o.l l Z->Q o.k.ex l Z
section
variable {T:Tab}{g al:G}{N n0 n:Nat}{V :Nat->Option Nat}{m:Mem}{w:World}{Q:Exit->Act->World->Prop}
theorem UQ.symm {a b:BA}(h:UQ T a b):UQ T b a:=fun⟨C,O⟩=>h ⟨O,C⟩
theorem D3.grow {M:List BA}(h:D3 T g N M)(k:AX g al):D3 T al N M:=⟨fun o l=>⟨(h.each o l).1.grow k,(h.each o l).2⟩,h.apart⟩
theorem D3.perm {l af:List BA}(h:D3 T g N l)(p:l.Perm af):D3 T g N af:=
 ⟨fun o q=>h.each o (p.mem_iff.2 q),(p.pairwise_iff (fun h=>UQ.symm h)).1 h.apart⟩
theorem Rel.up {l:Loc}{a:Act}{ak:Nat}(h:Rel T n V l a w)(p:n<=ak):Rel T ak V l a w:=
 ⟨h.defers,h.size,fun i c q=>(h.tmps i c q).up0 p,h.mem.mono p⟩
theorem Jl {k:XK}:∀{l:List BA} {p:BA} {r:List BA},G5 k l=some (p,r)->p.k=k/\l.Perm (p::r)
 |[],_,_,h=>by cases h
 |o::os,p,r,h=>by
  simp only[G5] at h;split at h
  .rename_i y;cases h;exact⟨y,List.Perm.refl _⟩
  .cases u:G5 k os with
   |none=>rw[u] at h;cases h
   |some q=>
    obtain⟨D,E⟩:=q;rw[u] at h;cases h;obtain⟨C,O⟩:=Jl u;exact⟨C,(O.cons o).trans (List.Perm.swap _ _ _)⟩
theorem QQ {k:XK}:∀{l:List BA},G5 k l=none->∀o∈l,o.k≠k
 |[],_,o,h=>by cases h
 |o::os,h,o',p=>by
  simp only[G5] at h;split at h
  .cases h
  .rename_i y;cases u:G5 k os with
   |none=>
    cases p with
    |head=>exact y
    |tail _ p=>exact QQ u o' p
   |some q=>rw[u] at h;cases h
theorem ZM {k:XK}{l:List BA}(h:noK k l=true):∀o∈l,o.k≠k:=fun o q p=>by
 have:=uK.1 h o q;simp[p] at this
theorem nE {s:Rf}{p:Option PC}{a b c:BA}(h:XA g s p a b=(c,al)):AX g al/\(Agr T al->Cu g a.pc->Cu g b.pc->a.l.tmps.n=N->b.l.tmps.n=N->
  (∀q,p=some q->Cu g q/\(pcv T q↔pcv T a.pc\/pcv T b.pc))->
  c.k=a.k/\c.l.tmps.n=N/\Cu al c.pc/\(pcv T c.pc↔pcv T a.pc\/pcv T b.pc)/\
  ∀H,(s.eval T).toB=H->∀ V u w,Rel T g.n V (sel H a.l b.l) u w->∃ ab,AH T g.n V (sel H a.l b.l).mem w ab c.l.mem w/\Rel T al.n ab c.l u w):=by
 unfold XA at h;simp only at h;have D:AX g (g.pushAll (Gt g.n s a.l b.l).2):=AX.push _ _;split at h
 .rename_i q;cases h;refine⟨D,fun y ha hb l W X=>?_⟩;obtain⟨p1,p2⟩:=X q rfl;refine⟨rfl,l,p1.grow D,p2,fun H E V u w M=>?_⟩;exact Vb E (by rw[l,W]) (tY _) y.new (by rw[Bb];exact tY _) M
 .cases h;have ao:AX (g.pushAll (Gt g.n s a.l b.l).2) ((g.pushAll (Gt g.n s a.l b.l).2).pushAll [⟨ "or",oOr,[E5 a.pc,E5 b.pc]⟩]):=AX.push _ _;refine⟨D.trans ao,fun y ha hb l W X=>?_⟩;have Y:=y.of ao;have a2:=y.new.head;refine⟨rfl,l,(by show _ < _;rw[Bb (G.pushAll _ _) [_]];exact Nat.lt_succ_self _),?_,fun H E V u w M=>?_⟩
  .rw[GM,a2,<-Kn (T:=T) a.pc,<-Kn (T:=T) b.pc];simp[Ex.eval,oOr,u0,u1,U.toB]
  .obtain⟨ab,C,O⟩:=Vb E (by rw[l,W]) (tY _) Y.new (ak:=(g.pushAll (Gt g.n s a.l b.l).2).n) (by rw[Bb];exact tY _) M;exact⟨ab,C,O.up ao.n⟩
theorem Hv {s:Option Rf}{bi:Option PC}:∀{as H r:List BA} {g al:G},El s bi as H g=(r,al)->AX g al/\(Agr T al->D3 T g N (as++H)->
  (∀q,s=some q->(∀a∈as,pcv T a.pc->(q.eval T).toB=true)/\(∀b∈H,pcv T b.pc->(q.eval T).toB=false))->
  (∀q,bi=some q->Cu g q/\∀a∈as,∀b∈H,a.k= .normal->b.k= .normal->(pcv T q↔pcv T a.pc\/pcv T b.pc))->
  D3 T al N r/\(∀o∈r,pcv T o.pc->∃D∈as++H,pcv T D.pc)/\
  ∀n0 V m w Q,n0<=g.n->AG T n0 V m w->ZS T n0 V m w al.n r Q->ZS T n0 V m w g.n (as++H) Q)
 |[],H,r,g,al,h=>by
  simp only[El] at h;cases h;exact⟨AX.refl _,fun _ W _ _=>⟨W,fun o l p=>⟨o,l,p⟩,fun _ _ _ _ _ _ _ h=>h⟩⟩
 |a::as,H,r,g,al,h=>by
  simp only[El] at h;split at h
  .rename_i ci;cases hj:El s bi as H g with
   |mk ax g1=>
    rw[hj] at h;cases h;obtain⟨g1,k1⟩:=Hv (as:=as) hj;refine⟨g1,fun hA W aa hn=>?_⟩;have b6:D3 T g N (as++H):=⟨fun o l=>W.each o (th _ l),(vJ.1 W.apart).2⟩;obtain⟨q1,q2,q3⟩:=k1 hA b6 (fun q u=>⟨fun a y=>(aa q u).1 a (th _ y),(aa q u).2⟩) (fun q u=>⟨(hn q u).1,fun a y=>(hn q u).2 a (th _ y)⟩);have cy:=(vJ.1 W.apart).1;have y:=W.each a (tl ..);refine⟨⟨?_,?_⟩,?_,?_⟩
    .intro o l;cases l with
     |head=>exact⟨y.1.grow g1,y.2⟩
     |tail _ l=>exact q1.each o l
    .refine vJ.2 ⟨fun o l X=>?_,q1.apart⟩;obtain⟨D,M,C⟩:=q2 o l X.2;exact cy D M ⟨X.1,C⟩
    .intro o l p;cases l with
     |head=>exact⟨a,tl ..,p⟩
     |tail _ l=>
      obtain⟨D,M,C⟩:=q2 o l p;exact⟨D,th _ M,C⟩
    .intro n0 V m w Q b2 hm hO o l p;cases l with
     |head=>exact fun ab Y Z b4 hr=>hO a (tl ..) p ab Y Z b4 (hr.up g1.n)
     |tail _ l=>exact q3 n0 V m w Q b2 hm (fun o l=>hO o (th _ l)) o l p
  .rename_i b a1 ci;obtain⟨ce,b7⟩:=Jl ci;cases ch:XA g (s.getD (E5 a.pc)) (if a.k= .normal then bi else none) a b with
   |mk c gm=>
    rw[ch] at h;simp only at h;cases hj:El s bi as a1 gm with
    |mk ax g1=>
     rw[hj] at h;cases h;obtain⟨a3,k1⟩:=nE (T:=T) (N:=N) ch;obtain⟨bs,E⟩:=Hv (as:=as) hj;refine⟨a3.trans bs,fun hA W aa hn=>?_⟩;have p:(a::as++H).Perm (a::b::(as++a1)):=by
      refine List.Perm.cons a ?_;exact (List.Perm.append_left as b7).trans List.perm_middle
     have bx:=W.perm p;have cx:=hA.of bs;have b5:b∈H:=b7.mem_iff.2 (tl ..);have cf:∀o∈a1,o∈H:=fun o l=>b7.mem_iff.2 (th _ l);have y:=bx.each a (tl ..);have hb:=bx.each b (th _ (tl ..));have pw:=vJ.1 bx.apart;have cl:=vJ.1 pw.2;have b6:D3 T gm N (as++a1):=D3.grow ⟨fun o l=>bx.each o (th _ (th _ l)),cl.2⟩ a3;obtain⟨aL,c2,c3,c4,c5⟩:=k1 cx y.1 hb.1 y.2 hb.2 (fun q u=>by
      split at u
      .rename_i hk;obtain⟨z1,z2⟩:=hn q u;exact⟨z1,z2 a (tl ..) b b5 hk (by rw[ce,hk])⟩
      .cases u)
     obtain⟨q1,q2,q3⟩:=E hA b6 (fun q u=>⟨fun a y=>(aa q u).1 a (th _ y),fun b hb=>(aa q u).2 b (cf b hb)⟩)
      (fun q u=>⟨(hn q u).1.grow a3,fun a y b hb=>(hn q u).2 a (th _ y) b (cf b hb)⟩)
     have c0:∀o,o∈(as++a1)->o∈(a::as++H):=fun o l=>p.mem_iff.2 (th _ (th _ l));have c1:pcv T a.pc->((s.getD (E5 a.pc)).eval T).toB=true:=fun p=>by
      cases s with
      |none=>exact (Kn a.pc).2 p
      |some q=>exact (aa q rfl).1 a (tl ..) p
     have c6:pcv T b.pc->((s.getD (E5 a.pc)).eval T).toB=false:=fun p=>by
      cases s with
      |none=>
       simp only[Option.getD_none];cases u:((E5 a.pc).eval T).toB with
       |false=>rfl
       |true=>exact absurd ⟨(Kn a.pc).1 u,p⟩ (pw.1 b (tl ..))
      |some q=>exact (aa q rfl).2 b b5 p
     refine⟨⟨?_,?_⟩,?_,?_⟩
     .intro o l;cases l with
      |head=>exact⟨c3.grow bs,c2⟩
      |tail _ l=>exact q1.each o l
     .refine vJ.2 ⟨fun o l X=>?_,q1.apart⟩;obtain⟨D,M,C⟩:=q2 o l X.2;rcases c4.1 X.1 with O|O
      .exact pw.1 D (th _ M) ⟨O,C⟩
      .exact cl.1 D M ⟨O,C⟩
     .intro o l p;cases l with
      |head=>
       rcases c4.1 p with O|O
       .exact⟨a,tl ..,O⟩
       .exact⟨b,tp _ b5,O⟩
      |tail _ l=>
       obtain⟨D,M,C⟩:=q2 o l p;exact⟨D,c0 D M,C⟩
     .intro n0 V m w Q b2 hm hO o l bb ab Y Z b4 hr;have ba:=p.mem_iff.1 l;have cj:sel ((s.getD (E5 a.pc)).eval T).toB a.l b.l=o.l->pcv T c.pc->o.k=a.k->Q o.k.ex Y Z:=fun e X hk=>by
       obtain⟨aW,aD,s2⟩:=c5 _ rfl ab Y Z (by rw[e];exact hr);rw[e] at aD;rw[hk,<-aL];exact hO c (tl ..) X aW Y Z (b4.trans hm b2 aD) (s2.up bs.n)
      cases ba with
      |head=>exact cj (by rw[c1 bb];rfl) (c4.2 (.inl bb)) rfl
      |tail _ ba=>
       cases ba with
       |head=>exact cj (by rw[c6 bb];rfl) (c4.2 (.inr bb)) ce
       |tail _ ba=>exact q3 n0 V m w Q (t8 b2 a3.n) hm (fun o l=>hO o (th _ l)) o ba bb ab Y Z b4 (hr.up a3.n)
end
def Cf (T:Tab)(K:(Exit->Act->World->Prop)->Act->World->Prop)(r:PC->Loc->G->Option (List BA × G)):Prop:=
 ∀ac l g M al,r ac l g=some (M,al)->AX g al/\(Agr T al->Cu g ac->D3 T al l.tmps.n M/\(∀o∈M,pcv T o.pc->pcv T ac)/\
  (Aj T al->pcv T ac->∀ V a w Q,Rel T g.n V l a w->ZS T g.n V l.mem w al.n M Q->K Q a w))
section
variable {P:Program}{T:Tab}{a9 K2:(Exit->Act->World->Prop)->Act->World->Prop}{ax aE:PC->Loc->G->Option (List BA × G)}
theorem Cf.mono (h:Cf T a9 ax)(q:∀Q a w,a9 Q a w->K2 Q a w):Cf T K2 ax:=by
 intro ac l g M al p;obtain⟨C,O⟩:=h ac l g M al p;grind
theorem U0 {k:XK}(h:k≠ .normal){F:Act->World->Prop}{Q:Exit->Act->World->Prop}{a:Act}{w:World}(l:Q k.ex a w):Exit.then F Q k.ex a w:=by
 cases k with
 |normal=>exact absurd rfl h
 |exit id=>exact l
 |ret=>exact l
theorem Sd (C:Cf T a9 ax)(O:Cf T K2 aE):Cf T (fun Q=>a9 (Exit.then (K2 Q) Q)) (fun ac l g=>do let (M,g) <-ax ac l g;TE M g aE):=by
 intro ac l g c1 al p;simp only[tX,tU] at p;obtain⟨⟨M,g1⟩,ci,p⟩:=p;obtain⟨a0,k1⟩:=C ac l g M g1 ci;simp only at p;unfold TE at p;split at p
 .rename_i ba;cases p;refine⟨a0,fun hA X=>?_⟩;obtain⟨q1,q2,q3⟩:=k1 hA X;refine⟨q1,q2,fun D a8 V a w Q W hO=>q3 D a8 V a w _ W fun o D X ab Y Z aa p=>?_⟩;exact U0 (QQ ba o D) (hO o D X ab Y Z aa p)
 .rename_i o cs ba;split at p
  .rename_i ce;simp only[tX,tU] at p;obtain⟨⟨b6,ao⟩,bj,p⟩:=p;simp only[ug] at p;obtain⟨cf,b4⟩:=Jl ba;obtain⟨H,E⟩:=O o.pc o.l g1 b6 ao bj;obtain⟨a1,k3⟩:=Hv (T:=T) (N:=l.tmps.n) p;refine⟨(a0.trans H).trans a1,fun hA X=>?_⟩;have b0:=hA.of a1;have cb:=b0.of H;obtain⟨q1,q2,q3⟩:=k1 cb X;have bs:=q1.perm b4;have D:=bs.each o (tl ..);obtain⟨aD,s2,s3⟩:=E b0 D.1;rw[D.2] at aD;have pw:=vJ.1 bs.apart;have cc:D3 T ao l.tmps.n (cs++b6):=by
    refine⟨fun x u=>?_,vH.2 ⟨pw.2,aD.apart,fun x u y hy hc=>pw.1 x u ⟨s2 y hy hc.2,hc.1⟩⟩⟩;rcases uY.1 u with u|u
    .have:=bs.each x (th _ u);exact⟨this.1.grow H,this.2⟩
    .exact aD.each x u
   obtain⟨t1,t2,t3⟩:=k3 hA cc (fun q hq=>by cases hq) (fun q hq=>by cases hq);refine⟨t1,fun x u bb=>?_,fun b3 a8 V a w Q W hO=>?_⟩
   .grind
   .have b1:=t3 g.n V l.mem w Q (a0.trans H).n W.mem hO;refine q3 ((b3.of a1).of H) a8 V a w _ W fun x u bb ab Y Z aa p=>?_;have a3:=b4.mem_iff.1 u;cases a3 with
    |head=>
     rw[cf];refine s3 (b3.of a1) bb ab Y Z Q p fun y hy ch aW a2 w2 cj bj=>?_;exact b1 y (tp _ hy) ch aW a2 w2 (aa.trans W.mem a0.n cj) bj
    |tail _ a3=>
     exact U0 (ZM ce x a3) (b1 x (tz _ a3) bb ab Y Z aa (p.up H.n))
  .cases p
theorem jn:∀{a b:PC},UK a b=true->a=b
 |none,none,_=>rfl
 |some a,some b,h=>by rw[tW h]
 |none,some _,h=>by cases h
 |some _,none,h=>by cases h
theorem l6 {a5:Code->PC->Loc->G->Option (List BA × G)}{x:Nat}{ca cb:Code}(Y:Cf T a9 (a5 ca))(hb:Cf T K2 (a5 cb)):
  Cf T (fun Q a w=>((T x).toB=true->a9 Q a w)/\((T x).toB=false->K2 Q a w)) (UP a5 x ca cb):=by
 intro ac l g M al u;unfold UP at u;split at u
 .cases u
 rename_i ci;have hx:x < g.n:=by rw[Bool.not_eq_false,Nat.blt_eq] at ci;exact ci
 cases b7:DX g ac x true with
 |mk pa g1=>
  simp only[b7,tX,tU] at u;obtain⟨⟨oa,ao⟩,dd,u⟩:=u;simp only at u;cases b8:DX ao ac x false with
  |mk pb g3=>
   simp only[b8,tU] at u;obtain⟨⟨ob,g4⟩,de,u⟩:=u;simp only[ug] at u;obtain⟨ba,cx⟩:=Hc (T:=T) b7;obtain⟨b1,b2⟩:=Y pa l g1 oa ao dd;obtain⟨W,c0⟩:=Hc (T:=T) b8;obtain⟨E,c1⟩:=hb pb l g3 ob g4 de;obtain⟨bi,c2⟩:=Hv (T:=T) (N:=l.tmps.n) u;have bb:=ba.trans b1;have H:=bb.trans W;refine⟨(H.trans E).trans bi,fun hA hp=>?_⟩;have b5:=hA.of bi;have b4:=b5.of E;have b3:=b4.of W;have c5:=b3.of b1;obtain⟨p1,p2⟩:=cx c5 hp hx;obtain⟨p3,p4⟩:=c0 b4 (hp.grow bb) (td hx bb.n);obtain⟨q1,q2,q3⟩:=b2 b3 p1;obtain⟨q4,q5,q6⟩:=c1 b5 p3;have c7:D3 T g4 l.tmps.n (oa++ob):=by
    refine⟨fun y D=>?_,vH.2 ⟨q1.apart,q4.apart,fun y D z hz hc=>?_⟩⟩
    .rcases uY.1 D with D|D
     .exact⟨((q1.each y D).1.grow W).grow E,(q1.each y D).2⟩
     .exact q4.each y D
    .grind
   obtain⟨t1,t2,t3⟩:=c2 hA c7
    (fun q hq=>by
     cases hq;exact⟨fun a Y c9=>(p2.1 (q2 a Y c9)).2,fun b hb db=>(p4.1 (q5 b hb db)).2⟩)
    (fun q hq=>by
     split at hq
     .rename_i cf;cases hq;refine⟨hp.grow (H.trans E),fun a Y b hb _ _=>?_⟩;simp only[tV,decide_eq_true_eq] at cf;obtain⟨⟨⟨aJ,w2⟩,w3⟩,w4⟩:=cf;have one:∀{o:BA} {l:List BA} {p:PC},l.length=1->(l.any fun o=>decide (o.k= .normal)&&UK o.pc p)=true->o∈l->o.pc=p:=by
       intro o l p C O h3;cases l with
       |nil=>cases h3
       |cons z l=>
        have:l=[]:=List.eq_nil_of_length_eq_zero (by simpa using C);subst this;simp at O h3;subst h3;exact jn O.2
      rw[one w3 aJ Y,one w4 w2 hb,p2,p4];cases (T x).toB<;>simp
     .cases hq)
   refine⟨t1,fun y D a1=>?_,fun c8 ce V a w Q hR hO=>?_⟩
   .obtain⟨y0,X,C⟩:=t2 y D a1;rcases uY.1 X with X|X
    .exact (p2.1 (q2 y0 X C)).1
    .exact (p4.1 (q5 y0 X C)).1
   .have b6:=t3 g.n V l.mem w Q (H.trans E).n hR.mem hO;have cc:=c8.of bi;refine⟨fun dj=>?_,fun di=>?_⟩
    .refine q3 (cc.of (W.trans E)) (p2.2 ⟨ce,dj⟩) V a w Q (hR.up ba.n) fun y D a1 ab a' Z aa u=>?_;exact b6 y (tz _ D) a1 ab a' Z (aa.down ba.n) (u.up (W.trans E).n)
    .refine q6 cc (p4.2 ⟨ce,di⟩) V a w Q (hR.up H.n) fun y D a1 ab a' Z aa u=>?_;exact b6 y (tp _ D) a1 ab a' Z (aa.down H.n) u
end
theorem Tab.ext' {aC A:Tab}(C:∀x,aC x=A x)(O:aC.fr=A.fr)(D:aC.lp=A.lp)(E:aC.base=A.base):aC=A:=by
 obtain⟨l,u,X,p⟩:=aC;obtain⟨ao,y,ae,q⟩:=A;have:l=ao:=funext C;grind
theorem ET (T:Tab)(x:Nat)(u:U):(T.upd x u) x=u:=by
 show (bif Nat.beq x x then u else T x)=u;rw[(Dl x x).2 rfl];rfl
theorem Ct (T:Tab){x y:Nat}(u:U)(h:y≠x):(T.upd x u) y=T y:=by
 show (bif Nat.beq y x then u else T y)=T y;have:Nat.beq y x=false:=by
  cases l:Nat.beq y x with
  |false=>rfl
  |true=>exact absurd ((Dl _ _).1 l) h
 rw[this];rfl
theorem GC:∀(us:List U) (T:Tab) (nh x:Nat),x < nh->(T.upds nh us) x=T x
 |[],_,_,_,_=>rfl
 |u::us,T,nh,x,h=>by
  simp only[Tab.upds];rw[GC us _ _ _ (by omega),Ct _ _ (by omega)]
theorem cZ:∀(us:List U) (T:Tab) (nh x:Nat),nh+us.length<=x->(T.upds nh us) x=T x
 |[],_,_,_,_=>rfl
 |u::us,T,nh,x,h=>by
  simp only[uJ] at h;simp only[Tab.upds];rw[cZ us _ _ _ (by omega),Ct _ _ (by omega)]
theorem Ff:∀(us:List U) (T:Tab) (nh j:Nat) (u:U),us[j]? =some u->(T.upds nh us) (nh+j)=u
 |[],_,_,_,_,h=>by simp at h
 |v::us,T,nh,j,u,h=>by
  simp only[Tab.upds];cases j with
  |zero=>
   simp at h;subst h;rw[GC us _ _ _ (by omega)];exact ET _ _ _
  |succ j=>
   rw[show nh+(j+1)=nh+1+j by omega];exact Ff us _ _ j u (by simpa using h)
theorem Mb:∀(us:List U) (T:Tab) (nh:Nat),(T.upds nh us).fr=T.fr/\(T.upds nh us).lp=T.lp/\(T.upds nh us).base=T.base
 |[],_,_=>⟨rfl,rfl,rfl⟩
 |u::us,T,nh=>by
  simp only[Tab.upds];exact Mb us _ _
theorem FH:∀(l:List (Nat × Ex)) (T:Tab),(BS T l).fr=T.fr/\(BS T l).lp=T.lp/\(BS T l).base=T.base
 |[],_=>⟨rfl,rfl,rfl⟩
 |(x,e)::r,T=>by
  simp only[BS];exact FH r T
theorem MP {T:Tab}:∀(fv:List Nat) (x:Nat),x∈fv->(Md fv (fv.map T.get)) x=T x
 |[],x,h=>by cases h
 |y::fv,x,h=>by
  simp only[tx,Md];by_cases l:x=y
  .subst l;exact ET _ _ _
  .rw[Ct _ _ l];cases h with
   |head=>exact absurd rfl l
   |tail _ h=>exact MP fv x h
theorem Fb {aC A:Tab}:∀(l:List Rf),(∀x∈FY l,aC x=A x)->l.map (Rf.eval aC)=l.map (Rf.eval A)
 |[],_=>rfl
 | .c u::l,h=>by
  simp only[tx,Rf.eval];rw[Fb l (fun x p=>h x p)]
 | .e y::l,h=>by
  simp only[tx,Rf.eval];rw[Fb l (fun x p=>h x (th _ p)),h y (tl ..)]
 | .n y::l,h=>by
  simp only[tx,Rf.eval];rw[Fb l (fun x p=>h x (th _ p)),h y (tl ..)]
theorem Rw {aC A:Tab}{e:Ex}(h:∀x∈FY e.args,aC x=A x):e.eval aC=e.eval A:=by
 unfold Ex.eval;rw[Fb e.args h]
theorem EN {fv:List Nat}{nh aO:Nat}{l:List Nat}(h:GH fv nh aO l=true):∀x∈l,x∈fv\/(nh<=x/\x < aO):=fun x p=>by
 have:=uK.1 h x p;simp only[uN,tV] at this;rcases this with C|⟨C,O⟩
 .exact .inl (by simpa using C)
 .exact .inr ⟨uF C,BC O⟩
section
variable {fv:List Nat}{nh ap:Nat}
theorem CJ {T:Tab}:∀{q:List (Nat × Ex)} {aO:Nat},CK fv nh ap aO q=true->ap<=aO/\(∀p∈q,ap<=p.1/\p.1 < aO)/\∀y,(y < ap\/aO<=y)->BS T q y=T y
 |[],aO,h=>⟨by rw[tW h];exact tY _,(fun p l=>by cases l),fun _ _=>rfl⟩
 |(x,e)::r,aO,h=>by
  simp only[CK,tV] at h;have D:=tW h.1.1;obtain⟨C,O,u⟩:=CJ (T:=T) h.2;refine⟨by omega,fun p l=>?_,fun y E=>?_⟩
  .cases l with
   |head=>exact⟨C,by omega⟩
   |tail _ l=>have:=O p l;exact⟨this.1,by omega⟩
  .simp only[BS];rw[Ct _ _ (by omega)];exact u y (by omega)
theorem Er {T:Tab}(H:∀x∈fv,x < nh)(W:nh<=ap):∀{u:List (Nat × Ex)} {aO:Nat},CK fv nh ap aO u=true->∀p∈u,(BS T u) p.1=p.2.eval (BS T u)
 |[],_,_,p,l=>by cases l
 |(x,e)::r,aO,h,p,l=>by
  simp only[CK,tV] at h;obtain⟨C,O,_⟩:=CJ (T:=T) h.2;have E:∀{e':Ex} {y:Nat},y<=x->GH fv nh y (FY e'.args)=true->e'.eval (BS T ((x,e)::r))=e'.eval (BS T r):=by
   intro e' y hy aa;refine Rw fun z X=>?_;simp only[BS];refine Ct _ _ ?_;rcases EN aa z X with q|q
   .have:=H z q;omega
   .omega
  cases l with
  |head=>
   have:=E (e':=e) (tY x) h.1.2;rw[this];simp only[BS];exact ET _ _ _
  |tail _ l=>
   have D:=Er (T:=T) H W h.2 p l;have hb:=O p l;have M:GH fv nh p.1 (FY p.2.args)=true:=by
    have Y:∀{r:List (Nat × Ex)} {aO:Nat},CK fv nh ap aO r=true->p∈r->GH fv nh p.1 (FY p.2.args)=true:=by
     intro r;induction r with
     |nil=>intro aO _ l;cases l
     |cons q r D=>
      intro aO h l;obtain⟨x,e⟩:=q;simp only[CK,tV] at h;cases l with
      |head=>exact h.1.2
      |tail _ l=>exact D h.2 l
    exact Y h.2 l
   rw[E (e':=p.2) (y:=p.1) (by omega) M];simp only[BS];rw[Ct _ _ (by omega)];exact D
theorem Oj {T:Tab}:∀{l:List (Nat × Ex)},(∀p∈l,T p.1=p.2.eval T)->BS T l=T
 |[],_=>rfl
 |(x,e)::r,h=>by
  simp only[BS];rw[Oj (fun p u=>h p (th _ u))];refine Tab.ext' (fun y=>?_) rfl rfl rfl;by_cases q:y=x
  .subst q;rw[ET];exact (h (y,e) (tl ..)).symm
  .exact Ct _ _ q
theorem Mt {aC A:Tab}(E:∀x∈fv,x < nh)(H:nh<=ap)(u:∀x,x∈fv\/(nh<=x/\x < ap)->aC x=A x):∀{p:List (Nat × Ex)} {aO:Nat},CK fv nh ap aO p=true->
  ∀x,x∈fv\/(nh<=x/\x < aO)->(BS aC p) x=(BS A p) x
 |[],aO,h,x,l=>by
  rw[tW h] at l;exact u x l
 |(y,e)::r,aO,h,x,l=>by
  simp only[CK,tV] at h;have O:=tW h.1.1;obtain⟨C,_,_⟩:=CJ (T:=aC) h.2;have D:=Mt E H u h.2;simp only[BS];by_cases q:x=y
  .subst q;rw[ET,ET];exact Rw fun z M=>D z (EN h.1.2 z M)
  .rw[Ct _ _ q,Ct _ _ q];refine D x ?_;rcases l with l|l
   .exact .inl l
   .exact .inr ⟨l.1,by omega⟩
end
variable{aZ:Type}{ac:PC}
theorem EI.trans {f:aZ->Option aZ}{s t u:aZ}(h:EI f s t)(k:EI f t u):EI f s u:=by
 induction k with
 |zero=>exact h
 |succ _ e l=>exact .succ l e
theorem No {aZ:Type}{f:aZ->Option aZ}:∀(n:Nat) (s t:aZ),Fk f n s=some t->EI f s t
 |0,s,t,h=>by simp only[Fk] at h;cases h;exact .zero
 |n+1,s,t,h=>by
  simp only[Fk,tU] at h;obtain⟨u,C,O⟩:=h;exact (EI.succ .zero C).trans (No n u t O)
theorem eG {f:aZ->Option aZ}{s t u:aZ}{n:Nat}(p:Fk f n s=some t)(q:f t=none)(h:EI f s u):∃m,Fk f m u=some t:=by
 induction h with
 |zero=>exact⟨n,p⟩
 |succ _ e y=>
  obtain⟨m,l⟩:=y;cases m with
  |zero=>simp only[Fk] at l;cases l;rw[q] at e;cases e
  |succ m=>
   simp only[Fk,e,uM] at l;exact⟨m,l⟩
theorem ct {f:aZ->Option aZ}{s t:aZ}{n:Nat}(q:Fk f n s=some t)(u:f t=none):fC f s=t:=by
 have p:∃t,EI f s t/\f t=none:=⟨t,No n s t q,u⟩;unfold fC;rw[dif_pos p];obtain⟨C,O⟩:=Classical.choose_spec p;obtain⟨m,l⟩:=eG q u C;cases m with
 |zero=>simp only[Fk] at l;injection l
 |succ m=>simp only[Fk,O,Option.bind_none] at l;cases l
theorem Cu.n {g al:G}(h:Cu g ac)(l:g.n<=al.n):Cu al ac:=by
 cases ac with
 |none=>trivial
 |some c=>exact td h l
theorem Kt {T:Tab}:pcB T ac=true↔pcv T ac:=by
 cases ac with
 |none=>exact⟨fun _=>trivial,fun _=>rfl⟩
 |some c=>exact GM.symm
theorem fg {lps:List (Nat × CO)}{nh:Nat}{rs:List Rf}{q l:Loc}{ps:List Pr}(h:ES lps nh rs q l=some ps):q.tmps.n=l.tmps.n:=by
 unfold ES at h;split at h
 .rename_i p;simp only[tV] at p;exact tW p.2
 .cases h
section
variable {P:Program}{T:Tab}{r:Option Nat}{ai:Nat}
theorem kW {c:Code}{a5:PC->Loc->G->Option (List BA × G)}(c9:∀T':Tab,T'.lp=T.lp->Cf T' (fun Q a w=>c.wpIn (fen r) ai P Q a w) a5)(p:Dr):
  Cf T (fun Q a w=>(Code.loop c).wpIn (fen r) ai P Q a w) (Zf a5 p):=by
 intro ac l g M al h;unfold Zf at h;simp only[tX,tU] at h;obtain⟨hl,g6,⟨H,he⟩,g7,ha,ce,⟨dn,ao⟩,hr,h⟩:=h;simp only at h ce hr;split at h
 .cases h
 rename_i o hg gl;simp only[tU] at h;obtain⟨⟨nxt,hf⟩,g8,a8,ek,h⟩:=h;simp only at h ek;generalize hD:({ nh:=g.n,k:=H.length,eqs:=ao.eqs,pcn:=o.pc,nxt,obs:=a8.map (Ob.mk o.pc)++ao.obs,fv:=PQ g.n ao.eqs o.pc nxt (a8.map (Ob.mk o.pc)++ao.obs) }:Ac)=D at h;split at h
 .rename_i hc;simp only[tV] at hc;obtain⟨⟨⟨et,c6⟩,c5⟩,f6⟩:=hc;have c6:=tW c6;have c5:=tW c5;have bm:D.nh=g.n:=by rw[<-hD]
  have d3:D.k=H.length:=by rw[<-hD]
  have fi:D.fv=PQ g.n ao.eqs o.pc nxt (a8.map (Ob.mk o.pc)++ao.obs):=by rw[<-hD]
  have d2:D.eqs=ao.eqs:=by rw[<-hD]
  have d5:D.pcn=o.pc:=by rw[<-hD]
  have cx:D.nxt=nxt:=by rw[<-hD]
  have d4:D.obs=a8.map (Ob.mk o.pc)++ao.obs:=by rw[<-hD]
  cases h;obtain⟨gr,k0⟩:=c9 T rfl ac hl _ dn ao hr;have g5:g.n+H.length<=ao.n:=gr.n;obtain⟨f8,b5⟩:=Jl gl;have e2:∀p,p∈Hh g.n (D.heads H) g.eqs->p∈ao.eqs++Hh g.n (D.heads H) g.eqs:=fun p X=>tp _ X;refine⟨⟨by show g.n<=ao.n;omega,fun p X=>e2 p ((IF _ _ _ _).2 (.inl X)),fun x Y=>th _ (tp _ Y),gr.lps⟩,fun hA X=>?_⟩;have c4:∀p∈g.lps,T.lp p.1=p.2:=fun p X=>hA.lps p (gr.lps p X);have fn:Agr T ao:=⟨fun p X=>hA.eqs p (tz _ X),hA.lps⟩;have c8:Cu { n:=g.n+H.length,eqs:=[],obs:=[],lps:=g.lps } ac:=X.n (Nat.le_add_right _ _);obtain⟨q1,q2,_⟩:=k0 fn c8;have e4:=q1.perm b5;have pw:=vJ.1 e4.apart;have f4:hl.tmps.n=l.tmps.n:=fg ce;refine⟨⟨fun x Y=>?_,pw.2⟩,fun x Y bj=>q2 x (b5.mem_iff.2 (th _ Y)) bj,fun c7 b4 V a w Q hR hO=>?_⟩
  .obtain⟨z1,z2⟩:=e4.each x (th _ Y);exact⟨z1.n (tY _),by rw[z2,f4]⟩
  simp only[Ac.inScope,tV] at et;obtain⟨⟨⟨⟨b6,dv⟩,e5⟩,e6⟩,g4⟩:=et;rw[d2,bm,d3] at b6;rw[bm,d5] at dv;rw[bm,cx] at e5;rw[d4,bm] at e6;have cc:∀x∈D.fv,x < g.n:=fun x Y=>by
   have:=uK.1 g4 x Y;rw[bm] at this;exact BC this
  have bi:g.n<=g.n+H.length:=Nat.le_add_right _ _;let us:List U:=D.fv.map T.get;let W:List U:=H.map (Rf.eval T);let E:List U->Tab:=fun s=>BS (T.upds g.n s) ao.eqs;have a1:∀s,(E s).fr=T.fr/\(E s).lp=T.lp/\(E s).base=T.base:=fun s=>by
   obtain⟨a2,e8,a3⟩:=FH ao.eqs (T.upds g.n s);obtain⟨cs,b2,b3⟩:=Mb s T g.n;exact⟨a2.trans cs,e8.trans b2,a3.trans b3⟩
  have ba:∀s x,x < g.n->E s x=T x:=fun s x Y=>by
   rw[show E s x=(T.upds g.n s) x from (CJ b6).2.2 x (.inl (by omega))];exact GC _ _ _ _ Y
  have c1:∀s j u,s.length=H.length->s[j]? =some u->E s (g.n+j)=u:=fun s j u aa hj=>by
   have c2:j < s.length:=(tc.1 hj).1;rw[show E s (g.n+j)=(T.upds g.n s) (g.n+j) from (CJ b6).2.2 _ (.inl (by omega))];exact Ff _ _ _ _ _ hj
  have f0:∀s,∀p∈ao.eqs,E s p.1=p.2.eval (E s):=fun s p X=>Er cc bi b6 p X;have d7:∀s,Agr (E s) ao:=fun s=>⟨f0 s,fun p X=>by rw[(a1 s).2.1];exact hA.lps p X⟩;have cb:∀s,s.length=H.length->∀x,x∈D.fv\/(g.n<=x/\x < ao.n)->(D.tab us s) x=E s x:=fun s aa x Y=>by
   have e:D.tab us s=BS ((Md D.fv us).upds g.n s) ao.eqs:=by unfold Ac.tab;rw[bm,d2]
   rw[e];refine Mt cc bi (fun y hy=>?_) b6 x Y;rcases hy with hy|hy
   .rw[GC _ _ _ _ (cc y hy),GC _ _ _ _ (cc y hy)];exact MP D.fv y hy
   .have hj:y - g.n < s.length:=by omega
    have C:=Ff s (Md D.fv us) g.n (y - g.n) s[y - g.n] (tZ hj);have O:=Ff s T g.n (y - g.n) s[y - g.n] (tZ hj);rw[show g.n+(y - g.n)=y by omega] at C O;rw[C,O]
  have en:∀s,s.length=H.length->pcB (D.tab us s) D.pcn=pcB (E s) o.pc:=fun s aa=>by
   rw[d5];cases ga:o.pc with
   |none=>rfl
   |some x=>
    simp only[pcB];rw[ga] at dv;rw[cb s aa x (EN dv x (by simp[pcL]))]
  have f7:∀s,s.length=H.length->D.nxt.map (Rf.eval (D.tab us s))=nxt.map (Rf.eval (E s)):=fun s aa=>by
   rw[cx];exact Fb nxt fun x Y=>cb s aa x (EN e5 x Y)
  have em:∀s,s.length=H.length->D.ob us s->∀q∈a8.map (Ob.mk o.pc)++ao.obs,q.holds (E s):=fun s aa fr q hq=>by
   have C:=fr q (by rw[d4];exact hq);have O:=uK.1 e6 q hq;have h3:=EN O;intro eq;have gm:pcv (D.tab us s) q.pc:=by
    cases er:q.pc with
    |none=>trivial
    |some x=>
     rw[er] at eq;have:=cb s aa x (h3 x (by rw[er];exact tz _ (by simp[pcL])));show D.tab us s x= .bool true;rw[this];exact eq
   have:=C gm;unfold Pr.holds at this⊢;rw[Fb q.p.args (fun x Y=>cb s aa x (h3 x (tp _ Y)))] at this;exact this
  have cf:=c7 ⟨ac,⟨D.tg 0,D.owes,(PQ g.n ao.eqs o.pc nxt (a8.map (Ob.mk o.pc)++ao.obs)).map .e++H⟩⟩ (tl ..) b4;rw[<-fi] at cf;have ea:(D.fv.map Rf.e++H).map (Rf.eval T)=us++W:=by
   simp only[ti,List.map_map];rfl
  have e1:us.length=D.fv.length:=by simp[us]
  have ey:(us++W).take D.fv.length=us:=by rw[<-e1];simp
  have ee:(us++W).drop D.fv.length=W:=by rw[<-e1];simp
  simp only[Pr.holds,Ac.owes] at cf;rw[ea,ey,ee] at cf;obtain⟨⟨N,t,hN,ht⟩,d9⟩:=cf;have dd:W.length=H.length:=by simp[W]
  have c3:∀s,EI (D.step us) W s->s.length=H.length:=fun s aa=>by
   induction aa with
   |zero=>exact dd
   |succ _ e _=>
    simp only[Ac.step] at e;cases hb:pcB (D.tab us _) D.pcn with
    |false=>rw[hb] at e;cases e
    |true=>rw[hb] at e;simp only[cond_true] at e;cases e;rw[cx];simp[c6]
  have f3:fC (D.step us) W=t:=ct hN ht;have f1:∀j,j < H.length->T (g.n+j)=t.getD j default:=fun j hj=>by
   have hm:(g.n+j,(⟨D.tg j,D.res j,D.fv.map .e++H⟩:Ex))∈Hh g.n (D.heads H) g.eqs:=by
    refine (IF _ _ _ _).2 (.inr ⟨j,_,?_,rfl⟩);unfold Ac.heads;rw[d3];simp[hj]
   have:=hA.eqs _ (e2 _ hm);simp only at this;rw[this];unfold Ex.eval;simp only;rw[ea];unfold Ac.res;rw[ey,ee,f3]
  have e0:t.length=H.length:=c3 t (No N W t hN);have d8:E t=T:=by
   have e:T.upds g.n t=T:=by
    obtain⟨cs,b2,b3⟩:=Mb t T g.n;refine Tab.ext' (fun x=>?_) cs b2 b3;by_cases C:x < g.n
    .exact GC _ _ _ _ C
    .by_cases O:x < g.n+t.length
     .have hj:x - g.n < t.length:=by omega
      have h3:=Ff t T g.n (x - g.n) t[x - g.n] (tZ hj);rw[show g.n+(x - g.n)=x by omega] at h3;have h4:=f1 (x - g.n) (by omega);rw[show g.n+(x - g.n)=x by omega] at h4;rw[h3,h4];simp[hj]
     .exact cZ _ _ _ _ (by omega)
   show BS (T.upds g.n t) ao.eqs=T;rw[e];exact Oj fun p X=>hA.eqs p (tz _ X)
  have el:∀id,l.mem.at id≠ .pad->hl.mem.at id≠ .pad:=by
   have H0:Ev T (E W) g.n (g.n+H.length) H:=fun j aI hj=>by
    have c2:j < H.length:=(tc.1 hj).1;exact⟨by omega,c1 W j _ dd (by simp[W,hj])⟩
   obtain⟨_,_,gd⟩:=Gs (A:=E W) ce c4 (a1 W).1 (a1 W).2.1 (a1 W).2.2 (ba W) bi H0 (fun p X=>c7 ⟨ac,p⟩ (th _ (tz _ (vG.2 ⟨p,X,rfl⟩))) b4) hR;intro id C O;have f2:id < hl.mem.length:=by
    rw[c5];rcases tu id l.mem.length with h|h
    .exact h
    .exact absurd (Mem.at_ge h) C
   exact C (gd id f2 O)
  have de:∀s,By T (E s) g.n:=fun s=>⟨ba s,(a1 s).1,(a1 s).2.1⟩;have fd:∀n s,EI (D.step us) W s->Fk (D.step us) n s=some t->∀ b1 a2 aJ,Rel (E s) (g.n+H.length) b1 hl a2 aJ->AH (E s) g.n V l.mem w b1 hl.mem aJ->Code.roundsIn (fen r) ai P c Q (n+1) a2 aJ:=by
   intro n;induction n with
   |zero=>
    intro s aa bb b1 a2 aJ db dj;simp only[Fk] at bb;cases bb;rw[roundsIn_succ];obtain⟨_,_,d0⟩:=(c9 (E t) (a1 t).2.1 ac hl _ dn ao hr).2 (d7 t) c8;refine d0 (fun q hq=>em t e0 (d9 t aa) q (tp _ hq)) ?_ b1 a2 aJ _ db fun x Y bj ab a' Z dk ci=>?_
    .rw[d8];exact b4
    .cases b5.mem_iff.1 Y with
     |head=>
      exfalso;have:=Kt.2 bj;rw[<-en t e0] at this;simp only[Ac.step,this,cond_true] at ht;cases ht
     |tail _ cj=>
      refine U0 (ZM f6 x cj) ?_;have ev:=dj.trans (hR.mem.tab (de t)) bi dk;rw[d8] at ev ci bj;exact hO x cj bj ab a' Z ev ci
   |succ n ih=>
    intro s aa bb b1 a2 aJ db dj;simp only[Fk,tU] at bb;obtain⟨an,bl,bb⟩:=bb;have di:=c3 s aa;have ej:pcB (D.tab us s) D.pcn=true/\an=nxt.map (Rf.eval (E s)):=by
     simp only[Ac.step] at bl;cases hb:pcB (D.tab us s) D.pcn with
     |false=>rw[hb] at bl;cases bl
     |true=>
      rw[hb] at bl;simp only[cond_true] at bl;cases bl;exact⟨rfl,f7 s di⟩
    have eo:pcv (E s) o.pc:=Kt.1 (by rw[<-en s di];exact ej.1);have es:EI (D.step us) W an:= .succ aa bl;have gn:=c3 an es;rw[roundsIn_succ];obtain⟨fj,_,d0⟩:=(c9 (E s) (a1 s).2.1 ac hl _ dn ao hr).2 (d7 s) c8;have e3:=em s di (d9 s aa);have gk:pcv (E s) ac:=by
     cases ac with
     |none=>trivial
     |some x=>
      show E s x= .bool true;rw[ba s x X];exact b4
    refine d0 (fun q hq=>e3 q (tp _ hq)) gk b1 a2 aJ _ db fun x Y bj ab a' Z dk ci=>?_;cases b5.mem_iff.1 Y with
    |head=>
     rw[f8];show Code.roundsIn (fen r) ai P c Q (n+1) a' Z;have H1:Ev (E s) (E an) g.n (g.n+H.length) nxt:=fun j aI hj=>by
      have c2:j < nxt.length:=(tc.1 hj).1;exact⟨by omega,c1 an j _ gn (by rw[ej.2];simp[hj])⟩
     have ei:∀x,x < g.n->E an x=E s x:=fun x Y=>by rw[ba an x Y,ba s x Y]
     obtain⟨z1,z2,_⟩:=Gs (A:=E an) ek (fun p X=>by rw[(a1 s).2.1];exact c4 p X) ((a1 an).1.trans (a1 s).1.symm) ((a1 an).2.1.trans (a1 s).2.1.symm) ((a1 an).2.2.trans (a1 s).2.2.symm) ei bi H1
      (fun p X=>e3 ⟨o.pc,p⟩ (tz _ (vG.2 ⟨p,X,rfl⟩)) eo) ci
     exact ih an es bb ab a' Z z1 (AH.matched z2 ei (tY _) (hR.mem.tab (de s)) el (dj.trans (hR.mem.tab (de s)) bi dk))
    |tail _ cj=>
     exfalso;have g1:=vJ.1 (fj.perm b5).apart;exact g1.1 x cj ⟨eo,bj⟩
  have H0:Ev T (E W) g.n (g.n+H.length) H:=fun j aI hj=>by
   have c2:j < H.length:=(tc.1 hj).1;exact⟨by omega,c1 W j _ dd (by simp[W,hj])⟩
  obtain⟨z1,z2,_⟩:=Gs (A:=E W) ce c4 (a1 W).1 (a1 W).2.1 (a1 W).2.2 (ba W) bi H0 (fun p X=>c7 ⟨ac,p⟩ (th _ (tz _ (vG.2 ⟨p,X,rfl⟩))) b4) hR;exact wpIn_loop_rounds (N+1) (fd N W .zero hN V a w z1 (AH.matched z2 (ba W) (tY _) hR.mem el (AH.refl _ _ _ _ _)))
 .cases h
end
section
variable {T:Tab}{n ak:Nat}{V :Nat->Option Nat}{m:Mem}{w:World}{a:Act}
theorem Cj.refl (p:n<=ak)(b:Blk):Cj T n ak w b b:=by
 cases b with
 |pad=>exact .pad
 |gone=>exact .gone _
 |cells l e=>exact .cells fun V m W h=>AB.mono0 (AH.refl _ _ _ _ _) p _ _ h
 |tok x ks e=>exact .same _ _ _
 |lp s u=>exact .lp fun V m v h=>h.up0 p
 |mrow x y ks e=>exact .mrow (.inl rfl) rfl rfl (fun _ _ _ h=>h)
 |mapb x ai q aN aU=>exact .mapb (.inl rfl) rfl (fun _ _ _ h=>h) (fun _ _ _ h=>h)
theorem cB {b:Nat}{W:Array Value}{e:TypeId}{l:Nat × Nat}(h:w.heap[b]? =some (.cells W e l)):w.setRow b W=w:=by
 have p:∀f:Obj->Obj,f (.cells W e l)= .cells W e l->w.heap.modify b f=w.heap:=by
  grind
 unfold World.setRow;rw[p _ rfl]
theorem VZ {l af:Loc}{s:Sl}{e:TypeId}{ks:List Kd}(X:l.tmps.loc=[])(M:T n= .list [])(aa:UC l s=some (.cv .nilSlice))(p:Gf { l with mem:=l.mem++[.tok n ks e] } l.mem.length n ks s=some af)(y:Rel T n V l a w):
  af.tmps.loc=[]/\af.tmps.n=l.tmps.n/\∃ ab,Rel T (n+1) ab af a w/\AH T n V l.mem w ab af.mem w:=by
 have ht:∀id,Cj T n (n+1) w (l.mem.at id) (Mem.at (l.mem++[.tok n ks e]) id):=fun id=>by
  rw[AS];split
  .rename_i he;rw[he,Mem.at_ge (tY _)];exact .new (tY _) (Nat.lt_succ_self _) M
  .exact Cj.refl (Nat.le_succ _) _
 have ao:=FU y.mem ht;have H:=OD y.mem (Nat.le_succ _) ht;have E:Rel T (n+1) (CC l.mem V) ⟨l.tmps,l.mem++[.tok n ks e]⟩ a w:=Rel.on (tmps:=l.tmps) (m:=l.mem) y ao (Nat.le_succ _) H;have a0:Mem.at (l.mem++[.tok n ks e]) l.mem.length= .tok n ks e:=by rw[AS,vC rfl]
 have bm:CC l.mem V l.mem.length=none:=HU (Mem.at_ge (tY _));have a8:∀v,v=CV.nilSlice.value->AA T (n+1) (CC l.mem V) (l.mem++[.tok n ks e]) w (.vec l.mem.length n ks) v:=fun v hv=>by
  refine⟨Nat.lt_succ_self _,by rw[a0];exact (fun h=>by cases h),?_,fun ah e he=> .inl ⟨bm,none,by rw[M];exact hv⟩⟩;rw[M];exact⟨[],rfl,uQ _,fun _=>rfl,none,0,hv,tY _,fun h=>absurd h (by simp)⟩
 cases s with
 |tmp t=>
  simp only[Gf] at p;cases p;simp only[UC] at aa;have b0:AA T n V l.mem w (.cv .nilSlice) (a.tmps.getD t undef):=y.tmps t _ aa;refine⟨by rw[AV.fix_loc];exact X,AV.fix_n _ _ _,_,⟨E.defers,?_,fun i c Y=>?_,H⟩,ao⟩
  .rw[E.size];exact (AV.fix_n _ _ _).symm
  .rcases AV.get_fix l.tmps X t i _ Y with⟨C,O,D⟩|⟨C,O⟩
   .cases D;subst C;exact a8 _ b0
   .exact E.tmps i c O
 |cell i off=>
  simp only[Gf] at p;split at p
  .rename_i c e' q;split at p
   .rename_i b1;cases p;have bl:i≠l.mem.length:=fun h=>by rw[h,a0] at q;cases q
    have bb:l.mem.at i= .cells c e':=by rw[AS,vA bl] at q;exact q
    simp only[UC,bb] at aa;have hb:=H.blk i;rw[q] at hb;obtain⟨b,W,C,O,D⟩:=hb;obtain⟨u,bt,bx⟩:=D.get aa;have bi:AB T (n+1) (CC l.mem V) (l.mem++[.tok n ks e]) w (c.set off (.vec l.mem.length n ks)) W:=by
     have:=D.set off (a8 u bx);have e:W.set off u=W:=by
      obtain⟨bj,hu⟩:=tc.1 bt;rw[<-hu];exact List.set_getElem_self bj
     grind
    obtain⟨aD,s2⟩:=Mv H q C O bi (tY _);rw[cB O] at aD s2;refine⟨X,rfl,_,Rel.on E aD (tY _) s2,ao.trans y.mem (Nat.le_succ _) aD⟩
   .cases p
  .cases p
 |tok=>cases p
 |st=>cases p
 |row=>cases p
theorem TM:∀{ps:List (Sl × TypeId × List Kd)} {l af:Loc} {g al:G},GF l g ps=some (af,al)->l.tmps.loc=[]->AX g al/\(Agr T al->∀ V a w,Rel T g.n V l a w->af.tmps.n=l.tmps.n/\∃ ab,Rel T al.n ab af a w/\AH T g.n V l.mem w ab af.mem w)
 |[],l,af,g,al,h,_=>by
  simp only[GF] at h;cases h;exact⟨AX.refl _,fun _ V a w p=>⟨rfl, V,p,AH.refl _ _ _ _ _⟩⟩
 |(s,e,ks)::r,l,af,g,al,h,hloc=>by
  simp only[GF] at h;split at h
  .rename_i aa;split at h
   .cases h
   simp only[tU] at h;obtain⟨X,C,O⟩:=h;have a0:X.tmps.loc=[]:=by
    cases s with
    |tmp t=>simp only[Gf] at C;cases C;rw[AV.fix_loc];exact hloc
    |cell i off=>
     simp only[Gf] at C;split at C
     .split at C
      .cases C;exact hloc
      .cases C
     .cases C
    |tok=>cases C
    |st=>cases C
    |row=>cases C
   obtain⟨u,k⟩:=TM O a0;refine⟨(AX.push _ _).trans u,fun y V a w p=>?_⟩;have hT:T g.n= .list []:=by
    have:=(y.of u).new.head;simpa [Ex.eval,oId,u0,Rf.eval] using this
   obtain⟨_,E, a1,H,M⟩:=VZ hloc hT aa C p;have D:(g.pushAll [⟨ "id",oId,[.c (.list [])]⟩]).n=g.n+1:=by rw[Bb];rfl
   obtain⟨W, aW,Y,q⟩:=k y a1 a w (by rw[D];exact H);rw[D] at q;exact⟨W.trans E, aW,Y,M.trans p.mem (Nat.le_succ _) q⟩
  .cases h
theorem WI:∀{ps:List (Sl × TypeId × List Kd)} {l af:Loc} {g al:G},GF l g ps=some (af,al)->af.tmps.n=l.tmps.n
 |[],l,af,g,al,h=>by simp only[GF] at h;cases h;rfl
 |(s,e,ks)::r,l,af,g,al,h=>by
  simp only[GF] at h;split at h
  .split at h
   .cases h
   simp only[tU] at h;obtain⟨X,C,O⟩:=h;rw[WI O];cases s with
   |tmp t=>simp only[Gf] at C;cases C;rw[AV.fix_n]
   |cell i off=>
    simp only[Gf] at C;split at C
    .split at C
     .cases C;rfl
     .cases C
    .cases C
   |tok=>cases C
   |st=>cases C
   |row=>cases C
  .cases h
end
section
variable {P:Program}{T:Tab}{r:Option Nat}{ai:Nat}
variable{c:Code}{a5:PC->Loc->G->Option (List BA × G)}
theorem mG (bj:∀u:Tab,u.lp=T.lp->Cf u (fun Q a w=>c.wpIn (fen r) ai P Q a w) a5)(p:Dr):
  Cf T (fun Q a w=>(Code.loop c).wpIn (fen r) ai P Q a w) (eh a5 p):=by
 intro ac l g M al h;unfold eh at h;split at h
 .cases h
 rename_i b1;have a3:l.tmps.loc=[]:=by
  grind
 simp only[tX,tU] at h;obtain⟨⟨X,g1⟩,C,O⟩:=h;simp only at O;obtain⟨q,k1⟩:=TM (T:=T) C a3;obtain⟨y,E⟩:=kW bj (p.full l.mem.length) ac X g1 M al O;refine⟨q.trans y,fun D hp=>?_⟩;obtain⟨W,q2,q3⟩:=E D (hp.grow q);rw[WI C] at W;refine⟨W,q2,fun a8 bb V a w Q H hO=>?_⟩;obtain⟨_, b0,b2,b3⟩:=k1 (D.of y) V a w H;exact q3 a8 bb b0 a w Q b2 fun o ho bi ab Y Z bm bl=>hO o ho bi ab Y Z (b3.trans H.mem q.n bm) bl
theorem jG (u:∀q:Tab,q.lp=T.lp->Cf q (fun Q a w=>c.wpIn (fen r) ai P Q a w) a5)(p:Dr):
  Cf T (fun Q a w=>(Code.loop c).wpIn (fen r) ai P Q a w) (j6 a5 p):=by
 intro ac l g M al h;exact mG u _ ac l g M al h
end
section
variable {T:Tab}{n ak:Nat}{V :Nat->Option Nat}{m:Mem}{w:World}{a:Act}
theorem Hi {l:BA->G->Option (AC × Mem)}:∀{M:List BA} {g al:G} {c:AC} {ad:Mem},Cm l M g=some (c,ad,al)->AX g al
 |[],g,al,c,ad,h=>by simp only[Cm] at h;cases h
 |[o],g,al,c,ad,h=>by
  simp only[Cm,tX,tU] at h;obtain⟨⟨aP,aM⟩,_,h⟩:=h;cases h;exact AX.refl _
 |o::o2::os,g,al,c,ad,h=>by
  simp only[Cm,tX,tU] at h;obtain⟨⟨p,ag,q⟩,C,⟨aP,aM⟩,_,h⟩:=h;cases h;exact (Hi (M:=o2::os) C).trans (AX.push _ _)
theorem Ot {bb:BA->G->Option (AC × Mem)}{I:(Nat->Option Nat)->Prop}{E:XK->Act->World->Value->World->Prop}{N:Nat}
  (Y:∀o g c m,bb o g=some (c,m)->Agr T g->∀ V a w,I V ->Rel T g.n V o.l a w->∃v Z ab,E o.k a w v Z/\AH T g.n V o.l.mem w ab m Z/\AG T g.n ab m Z/\AA T g.n ab m Z c v):
  ∀{M:List BA} {g al:G} {c:AC} {ad:Mem},Cm bb M g=some (c,ad,al)->Agr T al->D3 T g N M->
  ∀o∈M,pcv T o.pc->∀ V a w,I V ->Rel T g.n V o.l a w->∃v Z ab,E o.k a w v Z/\AH T g.n V o.l.mem w ab ad Z/\AG T al.n ab ad Z/\AA T al.n ab ad Z c v
 |[],g,al,c,ad,h=>by simp only[Cm] at h;cases h
 |[o],g,al,c,ad,h=>by
  simp only[Cm,tX,tU] at h;obtain⟨⟨aP,aM⟩,X,h⟩:=h;cases h;intro u _ o' p D V a w y q;simp at p;subst p;exact Y _ _ _ _ X u V a w y q
 |o::o2::os,g,al,c,ad,h=>by
  simp only[Cm,tX,tU] at h;obtain⟨⟨H,ag,l⟩,C,⟨aP,aM⟩,X,h⟩:=h;simp only[ug,Prod.mk.injEq] at h;obtain⟨e1,e2,e3⟩:=h;subst e1;subst e2;subst e3;have O:=Hi (M:=o2::os) C;intro u hg o' p D V a w y q;have bi:Agr T l:=u.of (AX.push _ _);have pw:=vJ.1 hg.apart;have bm:=u.new;have ao:=Bb l ((Bc (E5 o.pc) l.n aM ag).2++(Fw (l.n+(Bc (E5 o.pc) l.n aM ag).2.length) (E5 o.pc) aP H).2);rw[tq] at ao;cases p with
  |head=>
   have W:((E5 o.pc).eval T).toB=true:=(Kn o.pc).2 D;have bj:=q.up O.n;obtain⟨v,Z, b3,q1,q2,q3,q4⟩:=Y _ _ _ _ X bi V a w y bj;obtain⟨ab,aD,s2,s3⟩:=Me (n:=l.n) (b:=true) (au:=aM) (ag:=ag) (c:=aP) (d:=H) (v:=v) W q3 (tY _) bm (Nat.le_of_eq ao.symm) q4;exact⟨v,Z, ab,q1,(q2.trans bj.mem (tY _) aD).down O.n,s2,s3⟩
  |tail _ p=>
   have W:((E5 o.pc).eval T).toB=false:=by
    cases hq:((E5 o.pc).eval T).toB with
    |false=>rfl
    |true=>exact absurd ⟨(Kn o.pc).1 hq,D⟩ (pw.1 o' p)
   obtain⟨v,Z, b3,q1,q2,q3,q4⟩:=Ot Y (M:=o2::os) C bi ⟨fun x hx=>hg.each x (th _ hx),pw.2⟩ o' p D V a w y q;obtain⟨ab,aD,s2,s3⟩:=Me (n:=l.n) (b:=false) (au:=aM) (ag:=ag) (c:=aP) (d:=H) (v:=v) W q3 (tY _) bm (Nat.le_of_eq ao.symm) q4;exact⟨v,Z, ab,q1,q2.trans q.mem O.n aD,s2,s3⟩
end
section
variable {P:Program}
def Tab.atBase (T:Tab)(B:Nat):Tab:={ T with base:=B }
theorem JE (T:Tab)(B n:Nat):By T (T.atBase B) n:=⟨fun _ _=>rfl,rfl,rfl⟩
theorem iU (T:Tab)(B:Nat)(e:Ex):e.eval (T.atBase B)=e.eval T:=by
 unfold Ex.eval;rw[Fb (aC:=T.atBase B) (A:=T) e.args (fun _ _=>rfl)]
variable{T:Tab}{g:G}
theorem OP {B:Nat}(h:Agr T g):Agr (T.atBase B) g:=⟨fun p l=>by rw[iU];exact h.eqs p l,h.lps⟩
theorem OI {B:Nat}{ac:PC}:pcv (T.atBase B) ac↔pcv T ac:=by cases ac<;>exact Iff.rfl
theorem Vp {B:Nat}{p:Pr}:p.holds (T.atBase B)↔p.holds T:=by
 unfold Pr.holds;rw[Fb (aC:=T.atBase B) (A:=T) p.args (fun _ _=>rfl)]
theorem Tc {B:Nat}(h:Aj T g):Aj (T.atBase B) g:=fun o l p=>Vp.2 (h o l (OI.1 p))
def pend:XK->Option Code
 | .normal=>none
 | .exit id=>some (.exit id)
 | .ret=>some .ret
end
section
variable {P:Program}{T:Tab}{call:Au}{aj:Ys}{r:Option Nat}{ai:Nat}
abbrev TX (P:Program)(T:Tab)(r:Option Nat)(ai:Nat)(c:Code)(run:PC->Loc->G->Option (List BA × G)):Prop:=Cf T (fun Q a w=>c.wpIn (fen r) ai P Q a w) run
def Pt (P:Program)(r:Option Nat)(ai:Nat)(a7:Bool)(aK:Nat)(c:Code)(Q:Exit->Act->World->Prop)(a:Act)(w:World):Prop:=
 match c,a7 with
 | .loop b,false=>Code.roundsIn (fen r) ai P b Q aK a w
 |c,_=>c.wpIn (fen r) ai P Q a w
variable{a7:Bool}{aK id:Nat}{c:Code}{Q:Exit->Act->World->Prop}{a:Act}{w:World}{ac:PC}{k:XK}{K:(Exit->Act->World->Prop)->Act->World->Prop}
theorem Ql (h:Pt P r ai a7 aK c Q a w):c.wpIn (fen r) ai P Q a w:=by
 cases c<;>cases a7<;>first|exact h|exact wpIn_loop_rounds aK h
theorem dI (l:∀b,c= .loop b->a7=true)(h:c.wpIn (fen r) ai P Q a w):Pt P r ai a7 aK c Q a w:=by
 cases c<;>cases a7<;>first|exact h|(have:=l _ rfl;cases this)
theorem qC {J:Array Oper}{s an:RS}{o:Oper}(h:Bt P call aj J ac s o=some an):an.tmps.n=s.tmps.n:=Vt h
theorem X9 {J:Array Oper}{ac:PC}:∀{l:List Oper} {s an:RS},DL P call aj J ac l s=some an->an.tmps.n=s.tmps.n
 |[],s,an,h=>by simp only[DL] at h;cases h;rfl
 |o::l,s,an,h=>by
  simp only[DL,tX,tU] at h;obtain⟨aD,C,O⟩:=h;rw[X9 O,qC C]
theorem D3.one {g:G}{l:Loc}{N:Nat}(u:Cu g ac)(q:l.tmps.n=N):D3 T g N [⟨k,ac,l⟩]/\∀o∈([⟨k,ac,l⟩]:List BA),pcv T o.pc->pcv T ac:=by
 refine⟨⟨fun o p=>?_,by simp⟩,fun o p h=>?_⟩
 .grind
 .grind
theorem S5 (k:XK)(p:∀Q a w,Q k.ex a w->K Q a w):Cf T K (fun ac l g=>some ([⟨k,ac,l⟩],g)):=by
 intro ac l g M al h;cases h;refine⟨AX.refl _,fun E y=>?_⟩;obtain⟨C,O⟩:=D3.one (T:=T) (k:=k) (l:=l) y rfl;exact⟨C,O,fun _ D V a w Q u q=>p Q a w (q _ (uT.2 rfl) D V a w (AH.refl _ _ _ _ _) u)⟩
theorem Tk (h:k≠ .exit id)(l:Q k.ex a w):Exit.inBlock id Q k.ex a w:=by
 cases k with
 |normal=>exact l
 |ret=>exact l
 |exit p=>
  simp only[XK.ex,Exit.inBlock];rw[vA (fun e=>h (by rw[e]))];exact l
theorem ij {run:PC->Loc->G->Option (List BA × G)}(p:Cf T K run):
  Cf T (fun Q=>K (Exit.inBlock id Q)) (fun ac l g=>do
   let (M,g) <-run ac l g
   match G5 (.exit id) M with
   |none=>some (M,g)
   |some (e,Y)=>if noK (.exit id) Y then some (El none none [⟨.normal,e.pc,e.l⟩] Y g) else none):=by
 intro ac l g cb al h;simp only[tX,tU] at h;obtain⟨⟨M,g1⟩,b6,h⟩:=h;obtain⟨ao,k1⟩:=p ac l g M g1 b6;simp only at h;split at h
 .rename_i a3;cases h;refine⟨ao,fun H C=>?_⟩;obtain⟨q1,q2,q3⟩:=k1 H C;refine⟨q1,q2,fun W a2 V a w Q O hO=>q3 W a2 V a w _ O fun o W C ab D Z aa p=>?_⟩;exact Tk (QQ a3 o W) (hO o W C ab D Z aa p)
 .rename_i e Y a3;split at h
  .rename_i b4;simp only[ug] at h;obtain⟨b2,bm⟩:=Jl a3;obtain⟨a0,E⟩:=Hv (T:=T) (N:=l.tmps.n) h;refine⟨ao.trans a0,fun H C=>?_⟩;obtain⟨q1,q2,q3⟩:=k1 (H.of a0) C;have bb:=q1.perm bm;have he:=bb.each e (tl ..);have pw:=vJ.1 bb.apart;have b3:D3 T g1 l.tmps.n ([⟨.normal,e.pc,e.l⟩]++Y):=by
    refine⟨fun x u=>?_,vJ.2 ⟨fun y hy hc=>pw.1 y hy hc,pw.2⟩⟩;cases u with
    |head=>exact he
    |tail _ u=>exact bb.each x (th _ u)
   obtain⟨t1,t2,t3⟩:=E H b3 (fun q hq=>by cases hq) (fun q hq=>by cases hq);refine⟨t1,fun x u a4=>?_,fun b5 a2 V a w Q O hO=>?_⟩
   .grind
   .have bl:=t3 g.n V l.mem w Q ao.n O.mem hO;refine q3 (b5.of a0) a2 V a w _ O fun x u a4 ab D Z aa p=>?_;have X:=bm.mem_iff.1 u;cases X with
    |head=>
     rw[b2];simp only[XK.ex,Exit.inBlock,if_true];exact bl ⟨.normal,e.pc,e.l⟩ (tl ..) a4 ab D Z aa p
    |tail _ X=>exact Tk (ZM b4 x X) (bl x (th _ X) a4 ab D Z aa p)
  .cases h
end
def Tab.wf (T:Tab)(F:Nat->Nat->Prop):Tab:={ T with fr:=F }
structure Chg (T:Tab) (F F':Nat->Nat->Prop) (ρ ρ':Nat->Option Nat) (m m':Mem) (w:World):Prop where
 same:∀id,m.at id≠ .pad->m'.at id=m.at id/\ ρ' id= ρ id
 safe:∀b off,AY (T.wf F) ρ m w b off->AY (T.wf F') ρ' m' w b off
section
variable {T:Tab}{F aY:Nat->Nat->Prop}{n:Nat}{V ab:Nat->Option Nat}{m ad:Mem}{w:World}
mutual
theorem AA.chg (h:Chg T F aY V ab m ad w):∀(c:AC) (v:Value),AA (T.wf F) n V m w c v->AA (T.wf aY) n ab ad w c v
 | .any,_,_=>trivial
 | .anyc,_,hh=>hh
 | .on _ a,v,hh=>⟨hh.1,fun C=>AA.chg h a v (hh.2 C)⟩
 | .gd _ a,v,hh=>⟨hh.1,fun C=>AA.chg h a v (hh.2.1 C),hh.2.2⟩
 | .cb _,_,hh=>hh
 | .b _,_,hh=>hh
 | .nb _,_,hh=>hh
 | .ci _ _,_,hh=>hh
 | .i _ _ _ _,_,hh=>hh
 | .cv _,_,hh=>hh
 | .v _,_,hh=>hh
 | .s _,_,hh=>hh
 | .ptr id off,v,⟨b,C,O,h3⟩=>⟨b,by rw[(h.same id (BI h3)).2];exact C,O,by rw[(h.same id (BI h3)).1];exact h3⟩
 | .pix id base aD aW x aP,v,⟨h0,b,j,C,O,h5,h6,h7,h3⟩=>⟨h0,b,j,by rw[(h.same id (BI h3)).2];exact C,O,h5,h6,h7,by rw[(h.same id (BI h3)).1];exact h3⟩
 | .ro x ks,v,⟨h0,O⟩=>⟨h0,AT.mono (fun b off aa=>⟨h.safe b off aa,rfl⟩) _ _ v O⟩
 | .rp x t off ks,v,⟨h0,j,b,o,us,O,h3,h4,h5,h6⟩=>⟨h0,j,b,o,us,O,h3,h4,h5,Af.mono (fun b off aa=>⟨h.safe b off aa,rfl⟩) _ _ _ _ h6⟩
 | .vec id x ks,v,⟨h0,hp,O,h3⟩=>⟨h0,by rw[(h.same id hp).1];exact hp,AT.mono (fun b off aa=>⟨h.safe b off aa,rfl⟩) _ _ v O,fun ah e p=>by
   rw[(h.same id hp).1] at p;rcases h3 ah e p with⟨X,ae⟩|⟨b,I,W,X,ae,q,u⟩
   .exact .inl ⟨by rw[(h.same id hp).2];exact X,ae⟩
   .exact .inr ⟨b,I,W,by rw[(h.same id hp).2];exact X,ae,q,u⟩⟩
 | .fn f first I,v,⟨W,us,C,O,h3⟩=>⟨W,us,C,AB.chg h first W O,AB.chg h I us h3⟩
 | .sel x alts,v,⟨h0,j,C,O,h3⟩=>⟨h0,j,C,O,Am.chg h alts j.toNat v h3⟩
 | .yl id,v,⟨b,C,O,h3⟩=>⟨b,by rw[(h.same id (BI h3)).2];exact C,O,by rw[(h.same id (BI h3)).1];exact h3⟩
 | .asl id off len,v,⟨b,C,O,h3⟩=>⟨b,by rw[(h.same id (BI h3)).2];exact C,O,by rw[(h.same id (BI h3)).1];exact h3⟩
 | .rsv id x ks,v,⟨h0,hp,O,h4,h3⟩=>⟨h0,by rw[(h.same id hp).1];exact hp,O,h4,fun ah e p=>by
   rw[(h.same id hp).1] at p;rcases h3 ah e p with⟨X,ae⟩|⟨b,len,I,W,X,ae,D,q,u⟩
   .exact .inl ⟨by rw[(h.same id hp).2];exact X,ae⟩
   .exact .inr ⟨b,len,I,W,by rw[(h.same id hp).2];exact X,ae,D,q,u⟩⟩
 | .mr id y,v,⟨⟨C,hp⟩,j,a,I,k1,E,k3,k4,k5⟩=>⟨⟨C,by rw[(h.same id hp).1];exact hp⟩,j,a,I,k1,E,k3,k4,fun x ks e p=>by
   rw[(h.same id hp).1] at p;rcases k5 x ks e p with⟨X,ae⟩|⟨b,W,X,ae,q,u⟩
   .exact .inl ⟨by rw[(h.same id hp).2];exact X,ae⟩
   .exact .inr ⟨b,W,by rw[(h.same id hp).2];exact X,ae,q,u⟩⟩
 | .mp id y t sz off,v,⟨⟨C,h1',hp⟩,j,L,b,k1,E,k3,k4,k5⟩=>⟨⟨C,h1',by rw[(h.same id hp).1];exact hp⟩,j,L,b,k1,E,k3,k4,fun x ks e p=>by
   rw[(h.same id hp).1] at p;rw[(h.same id hp).2];exact k5 x ks e p⟩
 | .mv id,v,⟨b,C,O,h3⟩=>⟨b,by rw[(h.same id (BI h3)).2];exact C,O,by rw[(h.same id (BI h3)).1];exact h3⟩
 | .agg l,v,⟨W,C,O⟩=>⟨W,C,AB.chg h l W O⟩
 | .tup l,v,⟨W,C,O⟩=>⟨W,C,AB.chg h l W O⟩
theorem AB.chg (h:Chg T F aY V ab m ad w):∀(l:List AC) (W:List Value),AB (T.wf F) n V m w l W->AB (T.wf aY) n ab ad w l W
 |[],_,hh=>hh
 |c::l,_,⟨u,us,C,O,h3⟩=>⟨u,us,C,AA.chg h c u O,AB.chg h l us h3⟩
theorem Am.chg (h:Chg T F aY V ab m ad w):∀(l:List AC) (j:Nat) (v:Value),Am (T.wf F) n V m w l j v->Am (T.wf aY) n ab ad w l j v
 |[],_,_,hh=>hh
 |c::_,0,v,hh=>AA.chg h c v hh
 |_::l,j+1,v,hh=>Am.chg h l j v hh
end
variable{id k b:Nat}{Z:World}
theorem BJ.chg (h:Chg T F aY V ab m ad w)(hp:m.at id≠ .pad)(hk:∀b,(m.at id).tracked=true-> V id=some b->(∀off,F b off)->∀off,aY b off)(u:BJ (T.wf F) n V m w id (m.at id)):BJ (T.wf aY) n ab ad w id (ad.at id):=by
 rw[(h.same id hp).1];have H:=(h.same id hp).2;cases M:m.at id with
 |pad=>trivial
 |gone=>trivial
 |cells l e=>
  rw[M] at u;obtain⟨b,W,C,O,p⟩:=u;exact⟨b,W,by rw[H];exact C,O,AB.chg h l W p⟩
 |tok x ks e=>
  rw[M] at u;obtain⟨X,l,C,O⟩:=u;refine⟨X,l,C,?_⟩;rcases O with O|⟨b,W,O,p,D,E⟩
  .exact .inl (by rw[H];exact O)
  .exact .inr ⟨b,W,by rw[H];exact O,p,D,hk b (by rw[M];rfl) O E⟩
 |mrow x y ks e=>
  rw[M] at u;obtain⟨X,l,C,a2,a4,O⟩:=u;refine⟨X,l,C,a2,a4,?_⟩;rcases O with⟨O,p⟩|⟨b,W,us,O,p,D,E⟩
  .exact .inl ⟨by rw[H];exact O,p⟩
  .exact .inr ⟨b,W,us,by rw[H];exact O,p,Ab.mono (fun b off aa=>⟨h.safe b off aa,rfl⟩) D,hk b (by rw[M];rfl) O E⟩
 |mapb x ai ka aN aU=>
  rw[M] at u;obtain⟨X,l,b,aw,a3,C,O,p,D,E,Y,h7⟩:=u;refine⟨X,l,b,aw,a3,C,by rw[H];exact O,p,D,E,fun i us e hl he=>?_,h7⟩;obtain⟨u1,u2,q1,q2,q3⟩:=Y i us e hl he;exact⟨u1,u2,q1,Bw.mono (fun b off aa=>⟨h.safe b off aa,rfl⟩) q2,Bw.mono (fun b off aa=>⟨h.safe b off aa,rfl⟩) q3⟩
 |lp x st=>
  rw[M] at u;obtain⟨b,q,C,O,p,D,E,Y,h7,j,h8,h9⟩:=u;exact⟨b,q,by rw[H];exact C,O,p,D,E,Y,fun i c hc=>AA.chg h c _ (h7 i c hc),j,AA.chg h st _ h8,h9⟩
theorem AG.wf (l:AG (T.wf F) n V m w)(h:Chg T F aY V V m m w)(q:∀b off,w.heap.size<=b->aY b off)(u:∀id b,(m.at id).tracked=true-> V id=some b->(∀off,F b off)->∀off,aY b off):AG (T.wf aY) n V m w:=by
 refine⟨fun id=>?_,l.inj,q⟩;by_cases p:m.at id= .pad
 .rw[p];trivial
 .exact BJ.chg h p (u id) (l.blk id)
theorem AG.more (y:AG (T.wf F) n V m w)(h:Chg T F aY V ab m ad w)(a8:m.at k= .pad)(D:∀id,m.at id= .pad->id≠k->ad.at id= .pad)(hb: ab k=some b)(a4:∀id,(m.at id).tracked=true-> V id≠some b)
  (ao:BJ (T.wf aY) n ab ad w k (ad.at k)) (Y:∀b off,w.heap.size<=b->aY b off) (hk:∀id b,(m.at id).tracked=true-> V id=some b->(∀off,F b off)->∀off,aY b off):AG (T.wf aY) n ab ad w:=by
 have H:∀id,(ad.at id).tracked=true->id=k\/((m.at id).tracked=true/\ ab id= V id):=fun id E=>by
  by_cases e:id=k
  .exact .inl e
  .by_cases l:m.at id= .pad
   .rw[D id l e] at E;cases E
   .obtain⟨C,O⟩:=h.same id l;grind
 refine⟨fun id=>?_,fun id M W t1 t2 q u=>?_,Y⟩
 .by_cases e:id=k
  .rw[e];exact ao
  .by_cases l:m.at id= .pad
   .rw[D id l e];trivial
   .exact BJ.chg h l (hk id) (y.blk id)
 .rcases H id t1 with C|⟨C,O⟩<;>rcases H M t2 with p|⟨p,X⟩
  .rw[C,p]
  .grind
  .grind
  .rw[O] at q;rw[X] at u;exact y.inj id M W C p q u
theorem AH.wf (h:AH (T.wf F) n V m w ab ad Z):AH (T.wf aY) n V m w ab ad Z:=⟨h.os,h.tape,h.output,h.size,h.mlen,h.rho,h.untr,h.fresh,h.old,h.tok,h.row⟩
theorem AH.more {n0:Nat}{aT:Nat->Option Nat}{aM:Mem}{aG:World}(s:AH T n0 aT aM aG V m w)(aa:∀id,m.at id≠ .pad->ad.at id=m.at id/\ ab id= V id)(a4:m.at k= .pad)(a0:∀id,m.at id= .pad->id≠k->ad.at id= .pad)(a3:(ad.at k).ptrOk=true)(hb: ab k=some b)(hw:aG.heap.size<=b):AH T n0 aT aM aG ab ad w:=by
 have E:∀id,aM.at id≠ .pad->m.at id≠ .pad:=s.mlen;refine⟨s.os,s.tape,s.output,s.size,fun id l=>?_,fun id l=>?_,fun id l p=>?_,fun id Y l p e=>?_,s.old,fun id x ks e q=>?_,fun id x y ks e q=>?_⟩
 .grind
 .have C:=s.rho id l;obtain⟨O,D⟩:=aa id (BI C.2);grind
 .rw[(aa id (E id l)).1] at p;exact s.untr id l p
 .by_cases e2:id=k
  .grind
  .by_cases W:m.at id= .pad
   .rw[a0 id W e2] at p;cases p
   .obtain⟨O,D⟩:=aa id W;rw[O] at p;rw[D] at e;exact s.fresh id Y l p e
 .have l:aM.at id≠ .pad:=by rw[q];exact fun h=>by cases h
  obtain⟨O,D⟩:=aa id (E id l);rw[O];rcases s.tok id x ks e q with⟨u,H,M⟩|⟨u,H⟩
  .grind
  .grind
 .have l:aM.at id≠ .pad:=by rw[q];exact fun h=>by cases h
  obtain⟨O,D⟩:=aa id (E id l);rw[O];rcases s.row id x y ks e q with u|⟨aA,aS,ah,u,H,⟨M,X,a1⟩|⟨M,X⟩⟩
  .exact .inl u
  .grind
  .grind
theorem BJ.step0 (h:AH T n V m w V m Z)(D:∀b,(m.at id).tracked=true-> V id=some b->Z.heap[b]? =w.heap[b]?)(u:BJ T n V m w id (m.at id)):BJ T n V m Z id (m.at id):=by
 cases X:m.at id with
 |pad=>trivial
 |gone=>trivial
 |cells l e=>
  rw[X] at u D;obtain⟨b,W,C,O,p⟩:=u;exact⟨b,W,C,by rw[D b rfl C];exact O,AB.mono0 h (tY _) l W p⟩
 |lp x st=>
  rw[X] at u D;obtain⟨b,q,C,O,p,E,H,h9,Y,j,h7,h8⟩:=u;exact⟨b,q,C,by rw[D b rfl C];exact O,p,E,H,h9,fun i c hc=>AA.mono0 h (tY _) _ _ (Y i c hc),j,AA.mono0 h (tY _) _ _ h7,h8⟩
 |tok x ks e=>
  rw[X] at u D;obtain⟨M,r,C,O⟩:=u;refine⟨M,r,C,?_⟩;rcases O with O|⟨b,W,O,p,E,H⟩
  .exact .inl O
  .exact .inr ⟨b,W,O,by rw[D b rfl O];exact p,E,H⟩
 |mrow x y ks e=>
  rw[X] at u D;obtain⟨M,r,C,a0,a1,O⟩:=u;refine⟨M,r,C,a0,a1,?_⟩;rcases O with⟨O,p⟩|⟨b,W,us,O,p,E,H⟩
  .exact .inl ⟨O,p⟩
  .exact .inr ⟨b,W,us,O,by rw[D b rfl O];exact p,Ab.mono (fun _ _ aa=>h.safe0 aa) E,H⟩
 |mapb x ai ka aN aU=>
  rw[X] at u D;obtain⟨M,l,b,aw,a3,C,O,p,E,H,Y,h7⟩:=u;refine⟨M,l,b,aw,a3,C,O,by rw[D b rfl O];exact p,E,H,fun i us e hl he=>?_,h7⟩;obtain⟨u1,u2,q1,q2,q3⟩:=Y i us e hl he;exact⟨u1,u2,q1,Bw.mono (fun _ _ aa=>h.safe0 aa) q2,Bw.mono (fun _ _ aa=>h.safe0 aa) q3⟩
theorem OO (p:AG T n V m w)(o:Obj)(ak:Nat):AH T ak V m w V m (w.alloc o):=
 ⟨rfl,rfl,rfl,by simp,fun _ h=>h,fun _ h=>⟨rfl,h⟩,fun _ _ h=>h,fun id b h q _=>(by rw[h] at q;cases q),fun k u _=>BB w o k u,
  fun id y ks e h=> .inl ⟨h,rfl,fun b l=>BB w o b (p.lt (by rw[h];rfl) l)⟩,
  fun id x y ks e h=> .inr ⟨x,y,ks,h,rfl,.inl ⟨rfl,rfl,fun b W l C=>⟨W,by rw[BB w o b (p.lt (by rw[h];rfl) l)];exact C,rfl⟩⟩⟩⟩
theorem jN (l:AG (T.wf F) n V m w)(o:Obj)(h:Chg T F aY V V m m w)(u:∀b off,w.heap.size < b->aY b off)(y:∀id b,(m.at id).tracked=true-> V id=some b->(∀off,F b off)->∀off,aY b off):AG (T.wf aY) n V m (w.alloc o):=by
 have D:AH (T.wf aY) n V m w V m (w.alloc o):=(OO l o n).wf;refine⟨fun id=>?_,l.inj,fun b off p=>u b off (by simp at p;omega)⟩;by_cases q:m.at id= .pad
 .rw[q];trivial
 .exact BJ.step0 D (fun b C p=>BB w o b (l.lt C p)) (BJ.chg h q (y id) (l.blk id))
theorem kN {P:Program}{t:TypeId}{a:Act}{o:Oper}{l:List AC}(h:IP P t []=some (Pa l t []))(u:o.op= .alloc t):
  ∃W:List Value,(∀w:World,(execOp a.eval o).run P w= .ok (.value (.pointer (some ⟨w.heap.size,0,none⟩))) (w.alloc (.cells W.toArray t)))/\∀(T:Tab) (n:Nat) (V :Nat->Option Nat) (m:Mem) (w:World),AB T n V m w l W:=by
 unfold IP at h;simp only[tX,tU] at h;obtain⟨i,Y,z,y,af,q,h⟩:=h;have p:af=l:=by
  simp only[Pa,ug,R.mk.injEq,u9,List.cons.injEq,Blk.cells.injEq] at h;exact h.2.1.1.1
 subst p;have D:∀(T:Tab) (n:Nat) (V :Nat->Option Nat) (m:Mem) (w:World),∃W,z.cells=(W:List Value).toArray/\AB T n V m w af W:=fun T n V m w=>by
  obtain⟨W,C,O,_,_⟩:=CP q (Hb (T:=T) (n:=n) (V := V) (m:=m) (w:=w) z);exact⟨W,C,O⟩
 refine⟨z.cells.toList,fun w=>?_,fun T n V m w=>?_⟩
 .simp[execOp,u,Instr.alloc,HI Y y,Od]
 .obtain⟨W,C,O⟩:=D T n V m w;rw[C];exact O
end
end
end Go.Eng
end
