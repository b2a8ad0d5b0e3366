/-
  A part of the proof: the evaluator of code and its soundness.
-/
import Derived.Test.YtikbgnmcfncnaaaE0
import Derived.Laws.Pointers
import Derived.Lib.AppendZeros
import Derived.RangeFuncRecord
set_option linter.unusedVariables false
set_option linter.unusedSimpArgs false
noncomputable section
namespace Go.Eng
section
open Go Go.RowKit
section
variable {P:Program}{T:Tab}{n ak:Nat}{V ab:Nat->Option Nat}{m ad:Mem}{w Z:World}{g:G}{r:R}
variable{id:Nat}{e:TypeId}{l:List (List U)}
theorem Qv (z:AG T n V m w)(bt:n < ak){y:Nat}{ky ks:List Kd}(N:m.at id= .tok y ky e)(E:∀j,j≠id-> ab j= V j)
  (os:Z.os=w.os) (tape:Z.tape=w.tape) (output:Z.output=w.output) (size:w.heap.size<=Z.heap.size)
  (ag:∀k,k < w.heap.size-> V id≠some k->Z.heap[k]? =w.heap[k]?)
  (b2:∀b, V id=some b->∀off,off < CA T y ky->Z.cell? ⟨b,off,none⟩=w.cell? ⟨b,off,none⟩)
  (bj:∀b', ab id=some b'->(V id=some b'/\CA T y ky<=CA T n ks)\/w.heap.size<=b')
  {q:List (List U)} (hT:T n= .list q) (bl: ab id=none\/∃b W, ab id=some b/\Z.heap[b]? =some (.cells W e (0,0))/\q.length*ks.length<=W.size/\∀off,T.fr b off):
  AH T n V m w ab (m.set id (.tok n ks e)) Z/\AG T ak ab (m.set id (.tok n ks e)) Z:=by
 have bs:m.at id≠ .pad:=by rw[N];exact fun h=>by cases h
 have D:∀j,Mem.at (m.set id (.tok n ks e)) j=if j=id then .tok n ks e else m.at j:=fun j=>Dn m id (.tok n ks e) j bs
 have K:(m.at id).tracked=true:=by rw[N];rfl
 have aa:AH T n V m w ab (m.set id (.tok n ks e)) Z:={
  os:=os
  tape:=tape
  output:=output
  size:=size
  mlen:=fun j h=>by rw[D j];split<;>first|exact (fun h=>by cases h)|exact h
  rho:=fun j h=>by
   have p:j≠id:=fun e'=>by subst e';rw[N] at h;cases h
   grind
  untr:=fun j h i=>by
   grind
  fresh:=fun j b h i A=>by
   rw[D j] at i;split at i
   .grind
   .rw[h] at i;cases i
  old:=fun k hk bx=>ag k hk (bx id K)
  tok:=fun j x kx e' h=>by
   by_cases p:j=id
   .grind
   .refine .inl ⟨by rw[D j,vA p];exact h,E j p,fun b A=>ag b (z.lt (by rw[h];rfl) A) (fun H=>?_)⟩;exact p (z.inj j id b (by rw[h];rfl) K A H)
  row:=fun j x aS kx e' h=>by
   have p:j≠id:=fun e'=>by subst e';rw[N] at h;cases h
   refine .inr ⟨x,aS,kx,by rw[D j,vA p];exact h,rfl,.inl ⟨rfl,E j p,fun b W A hv=>⟨W,?_,rfl⟩⟩⟩;rw[ag b (z.lt (by rw[h];rfl) A) (fun H=>p (z.inj j id b (by rw[h];rfl) K A H))];exact hv }
 refine⟨aa,⟨fun j=>?_,fun j j' b i b0 C O=>?_,fun b off h=>z.fr b off (t8 aa.size h)⟩⟩
 .by_cases p:j=id
  .subst p;rw[D j,vC rfl];exact⟨bt,q,hT,bl⟩
  .by_cases i:(m.at j).tracked=true
   .refine BJ.step aa z (by omega) (by rw[D j,vA p]) (E j p) (fun b A=>ag b (z.lt i A) (fun H=>p (z.inj j id b i K A H)))
   .rw[D j,vA p];cases M:m.at j with
    |pad=>trivial
    |gone=>trivial
    |cells=>rw[M] at i;exact absurd rfl i
    |lp=>rw[M] at i;exact absurd rfl i
    |tok=>rw[M] at i;exact absurd rfl i
    |mrow=>rw[M] at i;exact absurd rfl i
    |mapb=>rw[M] at i;exact absurd rfl i
 .have tr:∀k,(Mem.at (m.set id (.tok n ks e)) k).tracked=true->(m.at k).tracked=true:=fun k hk=>by
   grind
  have one:∀j b,(m.at j).tracked=true->j≠id-> ab j=some b-> ab id=some b->False:=by
   intro j b i p C O;rw[E j p] at C;rcases bj b O with⟨h3,_⟩|h3
   .exact p (z.inj j id b i K C h3)
   .have:=z.lt i C;omega
  by_cases p:j=id
  .grind
  .by_cases bm:j'=id
   .grind
   .rw[E j p] at C;rw[E j' bm] at O;exact z.inj j j' b (tr j i) (tr j' b0) C O
theorem YS (H:AG T n V m w)(ao:n < ak){ks:List Kd}{a:Option Addr}(D:T n= .list l)(M:AT (AY T V m w) w (.list ks) (.list l) (.slice a l.length l.length)):
  ∃ ab,AH T n V m w ab (m++[.tok n ks e]) w/\AG T ak ab (m++[.tok n ks e]) w/\AA T ak ab (m++[.tok n ks e]) w (.vec m.length n ks) (.slice a l.length l.length):=by
 let ab:Nat->Option Nat:=fun j=>if j=m.length then none else V j
 have same: ab m.length=none:=by simp[ab]
 have z:∀j,j≠m.length-> ab j= V j:=fun j h=>by simp[ab,h]
 have A:m.at m.length= .pad:=Mem.at_ge (tY _);have aa:AH T n V m w ab (m++[.tok n ks e]) w:={
  os:=rfl
  tape:=rfl
  output:=rfl
  size:=tY _
  mlen:=fun id h=>by rw[AS];split<;>first|exact (fun h=>by cases h)|exact h
  rho:=fun id h=>by
   have:id≠m.length:=fun e=>by subst e;exact BI h A
   rw[AS,vA this];grind
  untr:=fun id h i=>by
   have:id≠m.length:=fun e=>by subst e;exact h A
   rw[AS,vA this] at i;exact i
  fresh:=fun id b h i K=>by
   by_cases e:id=m.length
   .grind
   .rw[AS,vA e,h] at i;cases i
  old:=fun k hk _=>rfl
  tok:=fun id y ky e h=>by
   have:id≠m.length:=fun e=>by subst e;rw[A] at h;cases h
   exact .inl ⟨by rw[AS,vA this];exact h,z _ this,fun b hb=>rfl⟩
  row:=fun id aA aS ky e h=>by
   have:id≠m.length:=fun e=>by subst e;rw[A] at h;cases h
   exact .inr ⟨aA,aS,ky,by rw[AS,vA this];exact h,rfl,.inl ⟨rfl,z _ this,fun b W hb M=>⟨W,M,rfl⟩⟩⟩ }
 have N:Mem.at (m++[.tok n ks e]) m.length= .tok n ks e:=by rw[AS,vC rfl]
 refine⟨ab,aa,⟨fun id=>?_,fun id a5 b i a3 K a1=>?_,fun b off h=>H.fr b off h⟩,ao,by rw[N];exact (fun h=>by cases h),?_,fun ah e' E=> .inl ⟨same,a,by rw[D];rfl⟩⟩
 .by_cases p:id=m.length
  .subst p;rw[N];exact⟨ao,_,D,.inl same⟩
  .by_cases i:(m.at id).tracked=true
   .exact BJ.step aa H (by omega) (by rw[AS,vA p]) (z _ p) (fun b hb=>rfl)
   .rw[AS,vA p];cases q:m.at id with
    |pad=>trivial
    |gone=>trivial
    |cells=>rw[q] at i;exact absurd rfl i
    |lp=>rw[q] at i;exact absurd rfl i
    |tok=>rw[q] at i;exact absurd rfl i
    |mrow=>rw[q] at i;exact absurd rfl i
    |mapb=>rw[q] at i;exact absurd rfl i
 .by_cases p:id=m.length
  .grind
  .by_cases E:a5=m.length
   .grind
   .rw[AS,vA p] at i;rw[AS,vA E] at a3;rw[z _ p] at K;rw[z _ E] at a1;exact H.inj id a5 b i a3 K a1
 .rw[D];exact AT.mono (fun _ _ h=>aa.safe0 h) _ _ _ M
theorem Uj (i:AG T n V m w)(j:n < ak){ks:List Kd}(h:T n= .list []):
  ∃ ab,AH T n V m w ab (m++[.tok n ks e]) w/\AG T ak ab (m++[.tok n ks e]) w/\AA T ak ab (m++[.tok n ks e]) w (.vec m.length n ks) (.slice none 0 0):=
 YS i j h (Gp _ _)
theorem DQ {t aR:TypeId}{i:TypeInfo}(z:P.underlying t=some (.slice e))(Y:P.info? e=some i)(base a:Option Addr)(p j c:Nat)(h:p<=j):
  (Builtin.append_ #[t,t] aR #[.slice base p j,.slice a 0 c]).run P w= .ok (.slice base p j) w:=by
 have q:(Builtin.firstCells i.size 0 (.slice a 0 c)).run P w= .ok #[] w:=by
  cases a with
  |none=>simp[Builtin.firstCells]
  |some a=>simp[Builtin.firstCells,loadCells,loadCellsFrom]
 cases base<;>simp[Builtin.append_,run_underlying z,sizeOf,typeInfo,Y,Builtin.lenOf,h,q,storeCells]
theorem NF (W:List Value)(z:Array Value)(p:Nat)(h:p < W.length):(W.toArray++z)[p]? =W[p]? :=by
 grind
theorem MW (hm:AG T n V m w)(aa:AH T n V m w ab ad Z)(ao:AG T ak ab ad Z)(a3:n < ak){b I:Nat}{ks:List Kd}{W:List Value}{H:Array Value}(a1:ks≠[])
  (i:ad.at id= .tok n ks e) (A: ab id=some b) (M:∀p,p < l.length*ks.length->T.fr b p) (hv:Ab (AY T V m w) w ks l W) (N:l.length<=AD) (j:T n= .list l) (q:Z.heap[b]? =some (.cells H e (0,0)))
  (E:∀p,p < l.length*ks.length->H[p]? =W[p]?) (K:l.length<=I) (bc:I*ks.length<=H.size):
  AA T ak ab ad Z (.vec id n ks) (.slice (some ⟨b,0,none⟩) l.length I):=by
 have a8:CA T n ks=l.length*ks.length:=by simp[CA,j,U.toL]
 refine⟨a3,by rw[i];exact (fun h=>by cases h),⟨l,j,N,fun h=>absurd h a1,some ⟨b,0,none⟩,I,rfl,K,fun _=>⟨b,0,rfl,?_⟩⟩,fun ah e' D=>?_⟩
 .refine hv.holds (o:=0) (fun b off ho=>aa.safe hm ho) (fun p z=>⟨?_,?_⟩)
  .rw[tj];refine X7 (te.1 q).1 (M p z) i A (fun bl bi bb=>ao.inj bl id b bi (by rw[i];rfl) bb A) (by rw[a8];exact z)
  .simp only[World.cell?,q,tj];exact E p z
 .rw[i] at D;cases D;exact .inr ⟨b,I,H,A,by simp[j,U.toL],q,bc⟩
end
section
variable {P:Program}{T:Tab}{n ak:Nat}{V ab:Nat->Option Nat}{m ad:Mem}{w Z:World}{g:G}{r:R}
theorem gB {k b:Nat}(i:0 < b)(h:k*b<=140737488355328):k<=AD/\(k:Int)<=9223372036854775807:=by
 have:k<=k*b:=Nat.le_mul_of_pos_right _ i;simp only[AD];omega
theorem TA {h E:List Kd}{s:Nat}(aa:0 < s)(O:E.length=s)(C:h.length=s):(Gu h E).length=s:=by
 cases h with
 |nil=>simp at C;omega
 |cons a h=>
  cases E with
  |nil=>simp at O;omega
  |cons b E=>
   simp only[Gu];rw[Kd.joins_len _ _ (by omega)];exact C
theorem Hy {ok:Nat->Nat->Prop}{ks:List Kd}{u:U}{v:Value}(h:AT ok w (.list ks) u v):
  ∃l a I,u= .list l/\v= .slice a l.length I/\l.length<=I/\(ks=[]->l=[])/\∃W,Ab ok w ks l W/\(0 < l.length->∃b o,a=some ⟨b,o,none⟩/\∀j u,W[j]? =some u->w.cell? ⟨b,o+j,none⟩=some u):=by
 obtain⟨l,p,_,A,a,I,C,O,q⟩:=h;refine⟨l,a,I,p,C,O,A,?_⟩;rcases uo l.length with i|i
 .have:l=[]:=ur.1 i;subst this;exact⟨[],Ab.nil _ _,fun h=>by simp at h⟩
 .obtain⟨b,o,D,z⟩:=q i;obtain⟨W,E,H⟩:=Ab.of_holds z;grind
def Src (T:Tab)(V :Nat->Option Nat)(m:Mem)(w:World)(ks:List Kd)(u:U)(v:Value):Prop:=
 ∃l a I,u= .list l/\v= .slice a l.length I/\l.length<=I/\(ks=[]->l=[])/\∃W,Ab (AY T V m w) w ks l W/\(0 < l.length->∃b o,a=some ⟨b,o,none⟩/\∀j u,W[j]? =some u->w.cell? ⟨b,o+j,none⟩=some u)
theorem dE {ar:Array TypeId}{s:AC}{E:List Kd}{aE:Rf}{v u:Value}(h:gh P ar s E aE m g=some r)(eq:New T g.n r.us)(et:∀q∈r.ps,q.holds T)(hm:AG T g.n V m w)(aa:AA T g.n V m w s v)(hx:Src T V m w E (aE.eval T) u)(aR:TypeId):
  ∃z Z ab,(Builtin.append_ ar aR #[v,u]).run P w= .ok z Z/\AH T g.n V m w ab r.m Z/\AG T (g.n+r.us.length) ab r.m Z/\AA T (g.n+r.us.length) ab r.m Z r.c z:=by
 unfold gh at h;simp only[tX,tU] at h;obtain⟨t,hi,h⟩:=h;split at h
 .rename_i e ht;simp only[tU] at h;obtain⟨i,Y,z,hz,⟨k1,ax⟩,cs,h⟩:=h;simp only at h;split at h
  .rename_i hc;obtain⟨gs,gp,ei,b8,ha,cy⟩:=hc;obtain rfl:ar= #[t,t]:=by
    have:=Fx _ _ gs;exact Array.ext' this
   have hg:=FR cs aa;obtain⟨ae,db,c2,c1,rfl,_,_,A,e2,dj⟩:=hx;have W:A.length=ae.length*i.size:=by rw[e2.len,b8]
   cases s<;>try simp only at h
   case cv e5=>
    cases e5<;>try simp only at h
    case nilSlice=>
     cases h;simp only[Io] at cs;cases cs;have hv:v= .slice none 0 0:=aa;subst hv;have hT:T g.n= .list ae:=by
      have:=eq.head;rw[this];simp[Ex.eval,Rr,u0,u1,evc,c1,U.toL]
     have b1:=et ⟨ "fits " ++toString i.bytes,Gy i.bytes,[.c (.list []),aE]⟩ (by simp);simp only[Pr.holds,Gy,u0,u1,tx,uW,evc,c1,U.toL,ub,tj] at b1;have hb:=gB ei b1;have d2:Gu [] E=E:=rfl;rcases uo ae.length with M|M
     .have:ae=[]:=ur.1 M;subst this;obtain⟨ab,f1,f2,f3⟩:=Uj (ak:=g.n+1) (e:=e) (ks:=Gu [] E) hm (by omega) hT;exact⟨_,w, ab,DQ ht Y none db 0 0 c2 (tY _),f1,f2,f3⟩
     .obtain⟨b,o,rfl,ca⟩:=dj M;have bm:=run_append_nil (P:=P) w t aR e i z ht Y hz ⟨b,o,none⟩ ae.length c2 A W (fun j y hj=>by rw[B8];exact ca j y hj) M hb.2 (by omega);have b0:=grownCap_ge w ae.length 0 e;have c6:E≠[]:=fun h=>by rw[h] at b8;simp at b8;omega
      obtain⟨ab,f1,f2,f3⟩:=VE (e:=e) (ak:=g.n+1) hm (by omega) c6 e2 hb.1 hT (.inr rfl) (H:=A.toArray++Builtin.zeroCells z.cells (grownCap w ae.length 0 e - ae.length)) (I:=grownCap w ae.length 0 e)
       (fun p D=>NF A _ p (by rw[e2.len];exact D)) b0 (by
        simp only[Array.size_append,uv,size_zeroCells,cy,W,b8];rw[<-uL];exact uG _ (by omega))
      exact⟨_,_, ab,bm,f1,f2,f3⟩
    all_goals cases h
   case vec id y kv=>
    split at h
    .rename_i aS hl e' b6;split at h
     .rename_i hc;obtain⟨rfl,rfl,b7,f4⟩:=hc;have:=Kd.beqs_eq _ _ f4;subst this;cases h;simp only[Io] at cs;cases cs;obtain⟨hk,gd,ev,ga⟩:=aa;obtain⟨X,a1,aL,cc,cu,f8,gl,a5,e1,di⟩:=Hy ev;have bi:T g.n= .list (X++ae):=by
       rw[eq.head];simp[Ex.eval,Rr,u0,u1,eve,cc,c1,U.toL]
      have b1:=et ⟨ "fits " ++toString i.bytes,Gy i.bytes,[.e y,aE]⟩ (by simp);simp only[Pr.holds,Gy,u0,u1,tx,uW,eve,cc,c1,U.toL] at b1;have hb:=gB ei b1;have es:CA T y k1=X.length*k1.length:=by simp[CA,cc,U.toL]
      have c6:E≠[]:=fun h=>by rw[h] at b8;simp at b8;omega
      have gk:k1≠[]:=fun h=>by rw[h] at b7;simp at b7;omega
      have e6:∀b I,v= .slice (some ⟨b,0,none⟩) X.length I->∀j x,a5[j]? =some x->w.cell? ⟨b,0+j,none⟩=some x:=by
       intro b I e3 j x hj;rw[cu] at e3;cases e3;have f0:0 < X.length:=by
        have h9:=(tc.1 hj).1;rw[e1.len] at h9;rcases uo X.length with h0|h0
        .rw[h0] at h9;simp at h9
        .exact h0
       obtain⟨b',o',he,ca⟩:=di f0;cases he;exact ca j x hj
      have c9:=e1.app e2 gl c6 (fun _=>by omega);have a8:=TA gp b8 b7;generalize f6:Gu k1 E=ks at*;have cl:ks≠[]:=fun h=>by rw[h] at a8;simp at a8;omega
      have bj:a5.length=X.length*i.size:=by rw[e1.len,b7]
      have bb:(X++ae).length=X.length+ae.length:=tq;have gm:CA T g.n ks=(X.length+ae.length)*i.size:=by simp[CA,bi,U.toL,a8]
      have en:CA T y k1<=CA T g.n ks:=by rw[es,gm,b7];exact uG _ (by omega)
      have ci:Mem.at (m.set id (.tok g.n ks e)) id= .tok g.n ks e:=by rw[Dn m id _ id gd,vC rfl]
      have gr:(m.at id).tracked=true:=by rw[b6];rfl
      rcases ga k1 e b6 with⟨c7,cb,d4⟩|⟨b,I,B,b2,rfl,ce,c4⟩
      .
       have fi:(T y).toL=X:=by rw[cc];rfl
       rw[fi] at d4;obtain⟨rfl,rfl⟩:cb=a1/\aL=X.length:=by rw[d4] at cu;cases cu;exact⟨rfl,rfl⟩
       subst d4;rcases uo ae.length with M|M
       .have:ae=[]:=ur.1 M;subst this;have d5:A=[]:=by simpa using W
        subst d5;simp only[uj,ub,Nat.add_zero] at*;obtain⟨f1,f2⟩:=Qv (ab:= V) (Z:=w) (ak:=g.n+1) (ks:=ks) hm (by omega) b6 (fun _ _=>rfl) rfl rfl rfl (tY _) (fun _ _ _=>rfl) (fun _ _ _ _=>rfl) (fun b' K=>by rw[c7] at K;cases K) bi (.inl c7);refine⟨_,w, V,DQ ht Y cb db X.length X.length c2 (tY _),f1,f2,?_⟩;refine⟨by simp,by rw[ci];exact (fun h=>by cases h),?_,fun hn g8 hf=> .inl ⟨c7,cb,by rw[bi];rfl⟩⟩;rw[bi];refine⟨X,rfl,hb.1,fun h=>absurd h cl,cb,X.length,rfl,tY _,fun D=>?_⟩;obtain⟨dd,o1,ee,cj⟩:=di D;refine⟨dd,o1,ee,?_⟩;obtain⟨af,d7,_,_,a',aV,e7,_,e8⟩:=ev;rw[cc] at d7;cases d7;cases e7;obtain⟨b',o',d8,e9⟩:=e8 D;rw[ee] at d8;cases d8;intro i' g6 fv;have fd:=e9 i' g6 fv;have em:k1.length=E.length:=by omega
        have d2:ks=Kd.joins k1 E:=by
         rw[<-f6];cases k1 with
         |nil=>exact absurd rfl gk
         |cons=>cases E with
          |nil=>exact absurd rfl c6
          |cons=>rfl
        have d9:=Kd.joins_l k1 E em _ _ _ fd;have f5:ks.length=k1.length:=by rw[d2,Kd.joins_len _ _ em]
        rw[<-d2] at d9;rw[f5];exact Af.mono (fun _ _ aa=>f1.safe0 aa) _ _ _ _ d9
       .obtain⟨b3,o2,rfl,ca⟩:=dj M;have cf:∀j y,A[j]? =some y->w.cell? ((⟨b3,o2,none⟩:Addr).add j)=some y:=fun j y hj=>by rw[B8];exact ca j y hj
        obtain⟨N,H,gn,ea,fn,e0⟩:∃N H,(Builtin.append_ #[t,t] aR #[.slice cb X.length X.length,.slice (some ⟨b3,o2,none⟩) ae.length c2]).run P w= .ok (.slice (some ⟨w.heap.size,0,none⟩) (X.length+ae.length) N) (w.drew.alloc (.cells H e))/\X.length+ae.length<=N/\
          (∀p,p < (X.length+ae.length)*i.size->H[p]? =(a5++A)[p]?)/\N*i.size<=H.size:=by
         rcases uo X.length with h0|h0
         .have g1:a5=[]:=by rw[<-ur,bj,h0,Nat.zero_mul]
          subst g1;rw[h0];cases cb with
          |none=>
           have bm:=run_append_nil (P:=P) w t aR e i z ht Y hz ⟨b3,o2,none⟩ ae.length c2 A W cf M (by have:=hb.2;omega) (by rw[h0,tj] at b1;omega);have b0:=grownCap_ge w ae.length 0 e;refine⟨_,_,by rw[tj];exact bm,by omega,fun p D=>?_,?_⟩
           .rw[tj] at D;exact NF A _ p (by rw[W];exact D)
           .simp only[Array.size_append,uv,size_zeroCells,cy,W];rw[<-uL];exact uG _ (by omega)
          |some a=>
           have bm:=run_append_grow (P:=P) w t aR e i z ht Y hz a 0 0 [] (by simp) (fun j y hj=>by simp at hj) ⟨b3,o2,none⟩ ae.length c2 A W cf (by omega) (by rw[h0] at hb;exact hb.2) (growslice_fits (by omega) (by rw[h0] at b1;exact b1));have b0:=grownCap_ge w (0+ae.length) 0 e;refine⟨_,_,bm,b0,fun p D=>?_,?_⟩
           .have:=NF ([]++A) (Builtin.zeroCells z.cells (grownCap w (0+ae.length) 0 e - (0+ae.length))) p (by simp[W];rw[tj] at D;exact D);simpa using this
           .simp only[Array.size_append,uv,size_zeroCells,cy,W,ub,tj];rw[<-uL];refine uG _ ?_;rw[tj] at b0;omega
         .obtain⟨dd,o1,rfl,cj⟩:=di h0;have bm:=run_append_grow (P:=P) w t aR e i z ht Y hz ⟨dd,o1,none⟩ X.length X.length a5 bj (fun j y hj=>by rw[B8];exact cj j y hj) ⟨b3,o2,none⟩ ae.length c2 A W cf (by omega) hb.2 (growslice_fits (by omega) b1);have b0:=grownCap_ge w (X.length+ae.length) X.length e;refine⟨_,_,bm,b0,fun p D=>?_,?_⟩
          .have:=NF (a5++A) (Builtin.zeroCells z.cells (grownCap w (X.length+ae.length) X.length e - (X.length+ae.length))) p (by rw[tq,bj,W,<-uL];exact D);simpa using this
          .simp only[Array.size_append,uv,size_zeroCells,cy,bj,W];rw[<-uL,<-uL];exact uG _ (by omega)
        have b4:=Cq w.drew (.cells H e);obtain⟨f1,f2⟩:=Qv (ab:=CI V id w.heap.size) (Z:=w.drew.alloc (.cells H e)) (ak:=g.n+1) (ks:=ks) hm (by omega) b6 (fun j hj=>Ao _ _ _ hj) rfl rfl rfl (by simp)
         (fun k M _=>BB w.drew _ k M) (fun b' K off _=>by rw[c7] at K;cases K) (fun b' K=>by rw[Ap] at K;cases K;exact .inr (tY _)) bi
         (.inr ⟨w.heap.size,_,Ap _ _ _,b4,by
          rw[bb,a8];exact t8 (uG _ ea) e0,fun off=>hm.fr _ off (tY _)⟩)
        refine⟨_,_,_,gn,f1,f2,?_⟩;have:=MW (I:=N) hm f1 f2 (by omega) cl ci (Ap _ _ _) (fun p _=>hm.fr _ p (tY _)) c9 (by rw[bb];exact hb.1) bi b4 (fun p D=>fn p (by rw[a8,bb] at D;exact D)) (by rw[bb];exact ea) (by rw[a8];exact e0);rw[bb] at this;exact this
      .
       have dn:(T y).toL=X:=by rw[cc];rfl
       rw[dn] at cu;simp only[dn];have f7:X.length<=I:=by cases cu;exact f8
       have c5:∀off,T.fr b off:=by
        have c3:=hm.blk id;rw[b6] at c3;obtain⟨_,lx,_,c3⟩:=c3;rcases c3 with q1|⟨b',_,q1,_,_,q4⟩
        .rw[b2] at q1;cases q1
        .rw[b2] at q1;cases q1;exact q4
       rw[b7] at c4;have d1:(X.length+ae.length)<=I->(X.length+ae.length)*i.size<=B.size:=fun h=>t8 (uG _ h) c4;have cj:∀j x,a5[j]? =some x->w.cell? ⟨b,0+j,none⟩=some x:=e6 b I (by rw[dn]);have ek:∀p,p < a5.length->B[p]? =a5[p]? :=by
        intro p D;have:=cj p a5[p] (tZ D);rw[tj] at this;simp only[World.cell?,ce] at this;rw[tZ D];simpa using this
       rcases uo ae.length with M|M
       .have:ae=[]:=ur.1 M;subst this;have d5:A=[]:=by simpa using W
        subst d5;simp only[uj,ub,Nat.add_zero] at*;obtain⟨f1,f2⟩:=Qv (ab:= V) (Z:=w) (ak:=g.n+1) (ks:=ks) hm (by omega) b6 (fun _ _=>rfl) rfl rfl rfl (tY _) (fun _ _ _=>rfl) (fun _ _ _ _=>rfl) (fun b' K=> .inl ⟨K,en⟩) bi
         (.inr ⟨b,B,b2,ce,by rw[a8];exact d1 (by omega),c5⟩)
        refine⟨_,w, V,DQ ht Y _ db X.length I c2 f7,f1,f2,?_⟩;exact MW (I:=I) hm f1 f2 (by omega) cl ci b2 (fun p _=>c5 p) c9 hb.1 bi ce (fun p D=>ek p (by rw[bj];rw[a8] at D;exact D)) (by omega) (by rw[a8];exact c4)
       .obtain⟨b3,o2,rfl,ca⟩:=dj M;have cf:∀j y,A[j]? =some y->w.cell? ((⟨b3,o2,none⟩:Addr).add j)=some y:=fun j y hj=>by rw[B8];exact ca j y hj
        by_cases c8:X.length+ae.length<=I
        .
         have fs:X.length*i.size+A.length<=B.size:=by
          rw[W,<-uL];exact d1 c8
         have bm:=run_append_room (P:=P) w t aR e i ht Y b X.length I B ce ⟨b3,o2,none⟩ ae.length c2 A W cf e2.ones c8 fs;have b4:=setRow_heap w b B (B.toList.take (X.length*i.size)++A++B.toList.drop (X.length*i.size+A.length)).toArray e (0,0) ce;have el:∀p,p < X.length*i.size->(B.toList.take (X.length*i.size)++A++B.toList.drop (X.length*i.size+A.length)).toArray[p]? =B[p]? :=by
          intro p D;simp only[List.getElem?_toArray,uU];rw[tv (by simp;omega),ux,vC D];simp
         have ey:(B.toList.take (X.length*i.size)++A++B.toList.drop (X.length*i.size+A.length)).toArray.size=B.size:=by
          simp only[uv,tq,uX,ue,Array.length_toList];omega
         obtain⟨f1,f2⟩:=Qv (ab:= V) (Z:=w.setRow b (B.toList.take (X.length*i.size)++A++B.toList.drop (X.length*i.size+A.length)).toArray) (ak:=g.n+1) (ks:=ks) hm (by omega) b6 (fun _ _=>rfl) rfl rfl rfl (by simp)
          (fun k _ M=>DD w b _ k (fun he=>M (by rw[he];exact b2))) (fun b' K off ho=>by
           rw[b2] at K;cases K;simp only[World.cell?,b4,ce];exact el off (by rw[es,b7] at ho;exact ho)) (fun b' K=> .inl ⟨K,en⟩) bi
          (.inr ⟨b,_,b2,b4,by rw[bb,a8,ey];exact d1 c8,c5⟩)
         refine⟨_,_, V,bm,f1,f2,?_⟩;have:=MW (I:=I) hm f1 f2 (by omega) cl ci b2 (fun p _=>c5 p) c9 (by rw[bb];exact hb.1) bi b4 (fun p D=>by
          rw[a8,bb] at D;by_cases d3:p < X.length*i.size
          .rw[el p d3,ek p (by rw[bj];exact d3),tv (by rw[bj];exact d3)]
          .have hh:p < X.length*i.size+A.length:=by rw[W,<-uL];exact D
           simp only[List.getElem?_toArray,uU];have eo:(B.toList.take (X.length*i.size)).length=X.length*i.size:=by simp;omega
           rw[tw (by rw[eo];omega),eo,tv (by omega),tw (by rw[bj];omega),bj]) (by rw[bb];exact c8) (by rw[a8,ey];exact c4)
         rw[bb] at this;exact this
        .
         have bm:=run_append_grow (P:=P) w t aR e i z ht Y hz ⟨b,0,none⟩ X.length I a5 bj (fun j y hj=>by rw[B8];exact cj j y hj) ⟨b3,o2,none⟩ ae.length c2 A W cf (by omega) hb.2 (growslice_fits (by omega) b1);have b0:=grownCap_ge w (X.length+ae.length) I e;have b4:=Cq w.drew (.cells (a5.toArray++A.toArray++Builtin.zeroCells z.cells (grownCap w (X.length+ae.length) I e - (X.length+ae.length))) e);have fj:(a5.toArray++A.toArray++Builtin.zeroCells z.cells (grownCap w (X.length+ae.length) I e - (X.length+ae.length))).size=(X.length+ae.length)*i.size+(grownCap w (X.length+ae.length) I e - (X.length+ae.length))*i.size:=by
          simp[size_zeroCells,cy,bj,W,uL]
         have ej:grownCap w (X.length+ae.length) I e*i.size<=(a5.toArray++A.toArray++Builtin.zeroCells z.cells (grownCap w (X.length+ae.length) I e - (X.length+ae.length))).size:=by
          rw[fj,<-uL];exact uG _ (by omega)
         have fr:=hm.lt gr b2;obtain⟨f1,f2⟩:=Qv (ab:=CI V id w.heap.size) (Z:=w.drew.alloc (.cells (a5.toArray++A.toArray++Builtin.zeroCells z.cells (grownCap w (X.length+ae.length) I e - (X.length+ae.length))) e)) (ak:=g.n+1) (ks:=ks) hm (by omega) b6 (fun j hj=>Ao _ _ _ hj) rfl rfl rfl (by simp)
          (fun k M _=>BB w.drew _ k M) (fun b' K off _=>by rw[b2] at K;cases K;exact Be (BB w.drew _ b fr) off) (fun b' K=>by rw[Ap] at K;cases K;exact .inr (tY _)) bi
          (.inr ⟨w.heap.size,_,Ap _ _ _,b4,by
           rw[bb,a8];exact t8 (uG _ b0) ej,fun off=>hm.fr _ off (tY _)⟩)
         refine⟨_,_,_,bm,f1,f2,?_⟩;have:=MW (I:=grownCap w (X.length+ae.length) I e) hm f1 f2 (by omega) cl ci (Ap _ _ _) (fun p _=>hm.fr _ p (tY _)) c9 (by rw[bb];exact hb.1) bi b4 (fun p D=>by
          have:=NF (a5++A) (Builtin.zeroCells z.cells (grownCap w (X.length+ae.length) I e - (X.length+ae.length))) p (by rw[tq,bj,W,<-uL];rw[a8,bb] at D;exact D);simpa using this) (by rw[bb];exact b0) (by rw[a8];exact ej)
         rw[bb] at this;exact this
     .cases h
    .cases h
   all_goals cases h
  .cases h
 .cases h
end
section
variable {P:Program}{T:Tab}{V :Nat->Option Nat}{m:Mem}{w:World}{g:G}{r:R}
theorem FO (op:BinOp)(t:TypeId)(x y:Operand){a b:Value}(h:∀av,a≠ .agg av)(Y:a≠ .nilIface):(eqGuard op t x y a b).run P w= .ok () w:=by
 unfold eqGuard;cases op<;>simp<;>(split<;>first|rfl|exact absurd rfl Y|exact absurd rfl (h _)|simp)
variable{c d:AC}{t:TypeId}{u v:Value}{k:IntKind}{X C ae O ap Y:Int}{ax:Rf}
theorem pC {n:Nat}{p q:Bool}{rs:List Rf}(h:ceq c d=some (none,rs))(A:(IG c).isSome=true)(H:AA T n V m w c (.bool p))(hd:AA T n V m w d (.bool q)):rs.map (Rf.eval T)=[.bool p,.bool q]:=by
 unfold ceq at h;split at h
 .rename_i K X C am E ae O ay z D;cases c<;>simp[IG] at A<;>simp[CE] at z
 .split at h
  .cases h
  .rename_i K am E ay ao z D;obtain⟨i,M,N,_⟩:=D6 z H;obtain⟨j,W,e4,_⟩:=D6 D hd;grind
  .cases c<;>simp[IG] at A<;>simp[Rv] at h
theorem iW {neg:Bool}(h:aEq P neg t c d m g=some r)(a8:New T g.n r.us)(H:AA T g.n V m w c u)(hd:AA T g.n V m w d v)(x y:Operand):
  ∃z,(do eqGuard (if neg then .neq else .eql) t x y u v;binOp (if neg then .neq else .eql) t u v:Sem Value).run P w= .ok z w/\r.m=m/\AA T (g.n+r.us.length) V m w r.c z:=by
 have ao:∀(k:Option Bool) (rs:List Rf) (b:Bool),(if neg then mkB g m (k.map not) ⟨ "nes",eN,rs⟩ else mkB g m k ⟨ "eqs",fM,rs⟩)=r->(∀q,k=some q->b=q)->(k=none->FX (rs.map (Rf.eval T))=b)->
   r.m=m/\AA T (g.n+r.us.length) V m w r.c (.bool (if neg then !b else b)):=by
  intro k rs b hr hk hn;cases neg with
  |true=>
   simp only[if_true] at hr⊢;subst hr;refine⟨Qp,K3 a8 (fun h=>?_) (fun q E=>?_)⟩
   .cases k with
    |none=>simp[Ex.eval,eN,hn rfl]
    |some k=>cases h
   .cases k with
    |none=>cases E
    |some k=>rw[hk k rfl];simpa using E
  |false=>
   simp only[uE,if_false] at hr⊢;subst hr;exact⟨Qp,K3 a8 (fun h=>by simp[Ex.eval,fM,hn h]) hk⟩
 unfold aEq at h;simp only at h;split at h
 .rename_i l af;obtain⟨us,rfl,hl⟩:=H;obtain⟨W,rfl,b0⟩:=hd;split at h
  .rename_i ks bt;split at h
   .rename_i a3;simp only[tV,Bool.not_eq_true'] at a3;simp only[uC] at h;obtain⟨⟨k,rs⟩,C,O⟩:=h;obtain⟨b,j,i,e3⟩:=dL C a3.1.2 hl b0;have bm:∀us:List Value,Aw P t us= .agg us.toArray:=by
     intro us;have:=a3.1.1;unfold CB at this;unfold Aw;grind
    have bc:=KT (P:=P) (w:=w) 12 10000 t ks us W b (by omega) bt j;rw[bm,bm] at bc;obtain⟨A,D⟩:=ao k rs b O i (fun h=>(e3 h).1);refine⟨_,?_,A,D⟩;simp only[ua,run_eqGuard_agg w _ t x y us.toArray W.toArray a3.2,uZ];cases neg with
    |true=>simp[run_neq_struct,bc]
    |false=>simp[run_eql_struct,bc]
   .cases h
  .cases h
 .have j:u= .pointer none:=H;have i:v= .pointer none:=hd;subst j;subst i;split at h
  .rename_i e K;have M:P.underlying t=some (.pointer (P.pointee t)):=by simp[Program.pointee,K]
   simp only[uy,ug] at h;obtain⟨A,D⟩:=ao (some true) [] true h (fun q E=>by cases E;rfl) (fun h=>by cases h);refine⟨_,?_,A,D⟩;simp only[ua,FO _ t x y (a:= .pointer none) (b:= .pointer none) (fun _ h=>by cases h) (fun h=>by cases h),uZ];cases neg with
   |true=>simp[run_neq_pointer_nil w t none M]
   |false=>simp[run_eql_pointer_nil w t none M]
  .cases h
 .obtain⟨b,_,j,_⟩:=H;have i:v= .pointer none:=hd;subst j;subst i;split at h
  .rename_i e K;have M:P.underlying t=some (.pointer (P.pointee t)):=by simp[Program.pointee,K]
   simp only[uy,ug] at h;obtain⟨A,D⟩:=ao (some false) [] false h (fun q E=>by cases E;rfl) (fun h=>by cases h);refine⟨_,?_,A,D⟩;simp only[ua,FO _ t x y (a:= .pointer _) (b:= .pointer none) (fun _ h=>by cases h) (fun h=>by cases h),uZ];cases neg with
   |true=>simp[run_neq_pointer_nil w t _ M]
   |false=>simp[run_eql_pointer_nil w t _ M]
  .cases h
 .split at h
  .rename_i K;split at h
   .rename_i hb;simp only[uC] at h;obtain⟨⟨k,rs⟩,C,O⟩:=h;obtain⟨b,j,i,e3⟩:=X0 C H hd;obtain⟨⟨z1,z2⟩,hz⟩:=Option.isSome_iff_exists.1 hb;obtain⟨_,N,_⟩:=(D6 hz H);rcases j with⟨_,_,_,rfl,_⟩|⟨p,q,rfl,rfl,rfl⟩|⟨_,_,rfl,_⟩
    .cases N
    rotate_left 1
    .cases N
    .have bs:r.m=m/\AA T (g.n+r.us.length) V m w r.c (.bool (if neg then !(p==q) else (p==q))):=by
      have bj:k=none->rs.map (Rf.eval T)=[.bool p,.bool q]:=fun hk=>by subst hk;exact pC C hb H hd
      cases neg with
      |true=>
       simp only[if_true] at O⊢;subst O;refine⟨Qp,K3 a8 (fun h=>?_) (fun q' E=>?_)⟩
       .cases k with
        |none=>simp[Ex.eval,nl,bj rfl,u0,u1,U.toB]
        |some k=>cases h
       .cases k with
        |none=>cases E
        |some k=>rw[i k rfl];simpa using E
      |false=>
       simp only[uE,if_false] at O⊢;subst O;exact⟨Qp,K3 a8 (fun h=>by simp[Ex.eval,ml,bj h,u0,u1,U.toB]) i⟩
     obtain⟨A,D⟩:=bs;refine⟨_,?_,A,D⟩;simp only[ua,FO _ t x y (a:= .bool p) (b:= .bool q) (fun _ h=>by cases h) (fun h=>by cases h),uZ];cases neg with
     |true=>simp[run_neq_bool w t p q K]
     |false=>simp[run_eql_bool w t p q K]
   .cases h
  .rename_i K;split at h
   .rename_i hb;simp only[uC] at h;obtain⟨⟨k,rs⟩,C,O⟩:=h;obtain⟨b,j,i,e3⟩:=X0 C H hd;obtain⟨⟨z1,z2⟩,hz⟩:=Option.isSome_iff_exists.1 hb;obtain⟨_,N,_⟩:=(Ix hz H);rcases j with⟨_,_,_,rfl,_⟩|⟨_,_,rfl,_⟩|⟨p,q,rfl,rfl,rfl⟩
    .cases N
    .cases N
    .obtain⟨A,D⟩:=ao k rs (decide (p=q)) O i (fun h=>(e3 h).1);refine⟨_,?_,A,D⟩;simp only[ua,FO _ t x y (a:= .string p) (b:= .string q) (fun _ h=>by cases h) (fun h=>by cases h),uZ];cases neg with
     |true=>simp[binOp,Op.stringOp,IS]
     |false=>simp[binOp,Op.stringOp,IS]
   .cases h
  .cases h
theorem oW {op:BinOp}{aE:Rf}{v:Vx}{ps:List Pr}(h:Sx op k X C ax ae O aE=some ((ap,Y,v),ps)):∀y,v= .rf (.e y)->ax= .e y\/aE= .e y:=by
 intro y z;subst z;have i:∀q p e ap Y,rng k q p e=(ap,Y,Vx.rf (.e y))->False:=by
  intro q p e ap Y j;unfold rng at j;split at j<;>cases j
 cases op<;>simp only[Sx] at h
 case add=>
  cases C:(if (ae=0/\O=0)/\k.min<=X/\C<=k.max then (X,C,Vx.rf ax) else if (X=0/\C=0)/\k.min<=ae/\O<=k.max then (ae,O,Vx.rf aE) else rng k (X+ae) (C+O) (ex2 "add" nQ ax aE));rw[C] at h;cases h;split at C
  .cases C;exact .inl rfl
  .split at C
   .cases C;exact .inr rfl
   .exact (i _ _ _ _ _ C).elim
 case sub=>
  cases C:(if (ae=0/\O=0)/\k.min<=X/\C<=k.max then (X,C,Vx.rf ax) else rng k (X - O) (C - ae) (ex2 "sub" pF ax aE));rw[C] at h;cases h;split at C
  .cases C;exact .inl rfl
  .exact (i _ _ _ _ _ C).elim
 case mul=>
  simp only[ug,Prod.mk.injEq] at h;exact (i _ _ _ _ _ h.1).elim
 case quo=>
  split at h
  .split at h
   .simp only[ug,Prod.mk.injEq] at h;exact (i _ _ _ _ _ h.1).elim
   .split at h
    .simp only[ug,Prod.mk.injEq] at h;exact (i _ _ _ _ _ h.1).elim
    .simp only[ug,Prod.mk.injEq] at h;exact (i _ _ _ _ _ h.1).elim
  .cases h
 case rem=>
  split at h
  .split at h<;>cases h
  .cases h
 case and=>
  split at h
  .split at h<;>cases h
  .cases h
 all_goals cases h
theorem j8 {op:BinOp}{v:Vx}(h:QU op k X C ax ae O=some (ap,Y,v)):∀y,v= .rf (.e y)->False:=by
 intro y i;subst i;unfold QU at h;split at h
 .split at h
  .simp only[ug] at h;unfold rng at h;split at h<;>cases h
  .cases h
  .cases h
 .cases h
theorem ZE {n:Nat}{y:Nat}(h:CE c=some (k,ap,Y,.e y))(i:AA T n V m w c v):y < n:=cE h i y rfl
theorem Qq {op:BinOp}(h:Xu P op t c d m g=some r)(A:New T g.n r.us)(bc:∀q∈r.ps,q.holds T)(D:AA T g.n V m w c u)(hd:AA T g.n V m w d v)(x y:Operand):
  ∃z,(do eqGuard op t x y u v;binOp op t u v:Sem Value).run P w= .ok z w/\r.m=m/\AA T (g.n+r.us.length) V m w r.c z:=by
 unfold Xu at h;split at h
 .rename_i k X C ax k' ae O aE hx H;obtain⟨am,rfl,K,N,b1⟩:=Bg hx D;obtain⟨ay,rfl,M,W,b2⟩:=Bg H hd;have hg:=FO (P:=P) (w:=w) op t x y (a:= .int k am) (b:= .int k' ay) (fun _ h=>by cases h) (fun h=>by cases h);split at h
  .rename_i ap Y n p;cases h;obtain⟨n0,j,i⟩:=lY (E:=k') p K N b1 W b2 P t w;exact⟨_,by simp only[ua,hg,uZ];exact j,JB,Gc A i.val i.lo i.hi (fun z hz=>(j8 p z hz).elim)⟩
  split at h
  .rename_i hk;subst hk;split at h
   .rename_i ap Y n ps p;cases h;obtain⟨n0,j,i⟩:=nS p K M N b1 W b2 (by rw[rk] at bc;exact bc) P t w;refine⟨_,by simp only[ua,hg,uZ];exact j,JB,Gc A i.val i.lo i.hi (fun z hz=>?_)⟩;rcases oW p z hz with rfl|rfl
    .exact ZE hx D
    .exact ZE H hd
   .split at h
    .rename_i kn b bm;cases h;obtain⟨b0,j,i,e3⟩:=ql (k:=k) bm K M N b1 W b2 P t w;refine⟨_,by simp only[ua,hg,uZ];exact j,Qp,K3 A (fun _=>i) ?_⟩;split
     .rename_i bl;have:=AC.beq_eq _ _ bl;subst this;rw[hx] at H;cases H;rw[K] at M;cases M;have bt:(op= .eql->b0=true)/\(op= .neq->b0=false):=by
       refine⟨fun ho=>?_,fun ho=>?_⟩<;>subst ho
       .have:=j;simp[binOp,Op.intCmp] at this;exact this
       .have:=j;simp[binOp,Op.intCmp] at this;exact this
      grind
     .exact e3
    .cases h
  .cases h
 .split at h
  .exact iW (neg:=false) h A D hd x y
  .exact iW (neg:=true) h A D hd x y
  .cases h
theorem AB.of_map {n:Nat}{az:Operand->AC}{a:Act}(h:∀x,AA T n V m w (az x) (a.eval x)):∀xs:List Operand,AB T n V m w (xs.map az) (xs.map a.eval)
 |[]=>rfl
 |x::xs=>⟨_,_,rfl,h x,AB.of_map h xs⟩
theorem I5 {a:Act}{o:Oper}{b:Builtin}{args:Array Operand}{ar:Array TypeId}(h:o.op= .call { callee:= .builtin b,args,argTypes:=ar }):
  (execOp a.eval o).run P w=(builtin b ar o.type (args.map fun| .const _=>true|_=>false) (args.map a.eval)).run P w:=by
 simp only[execOp,h,resolve,invoke,ua,uh,uZ];rfl
theorem VG (h:pL P t c m g=some r)(D:New T g.n r.us)(hm:AG T g.n V m w)(p:AA T g.n V m w c v)(ar:Array TypeId)(q:ar[0]? =some t)(aR:TypeId):
  ∃z,(Builtin.len_ ar aR #[v]).run P w= .ok z w/\r.m=m/\AA T (g.n+r.us.length) V m w r.c z:=by
 unfold pL at h;split at h
 .rename_i e i;split at h
  .cases h;rw[show v=_ from p];exact⟨.int .i64 0,by simp[Builtin.len_,q,run_underlying i,CV.value,goInt],rfl,rfl⟩
  .cases h;obtain⟨⟨M,_⟩,j,a,I,C,⟨O,N⟩,rfl,_⟩:=p;exact⟨.int .i64 j,by simp[Builtin.len_,q,run_underlying i,goInt];omega,rfl,M,j,C,rfl,O,N⟩
  .cases h;obtain⟨b,_,rfl,_⟩:=p;exact⟨.int .i64 _,by simp[Builtin.len_,q,run_underlying i,goInt],rfl,rfl⟩
  .split at h
   .rename_i ks rl hq;cases h;obtain⟨l,hl,H,_,a,I,rfl,_,_⟩:=FR hq p;refine⟨.int .i64 l.length,by simp[Builtin.len_,q,run_underlying i,goInt],JB,?_⟩;exact Gc D (by simp[Vx.eval,Ex.eval,Pz,u0,hl,U.toL]) (by omega) (by omega) (fun y A=>by cases A)
   .cases h
 .rename_i i;split at h
  .rename_i s;cases h;rw[show v=_ from p];exact⟨.int .i64 s.size,by simp[Builtin.len_,q,run_underlying i,CV.value,goInt],rfl,rfl⟩
  .rename_i y;cases h;obtain⟨A,s,aa,rfl,H⟩:=p;refine⟨.int .i64 s.size,by simp[Builtin.len_,q,run_underlying i,goInt],JB,?_⟩;exact Gc D (by simp[Vx.eval,Ex.eval,eC,u0,aa,U.toS,Rf.eval]) (by omega) (by omega) (fun y A=>by cases A)
  .cases h
 .rename_i kt et i;split at h
  .rename_i id;split at h
   .rename_i a2 ai ka aN aU a1;cases h;obtain⟨b,bc,rfl,_⟩:=p;have E:=hm.blk id;rw[a1] at E;obtain⟨bl,l,b',aw,a6,W,K,hb,a5,H,_⟩:=E;rw[bc] at K;cases K;have ao:(getObj b).run P w= .ok (.map aw.toArray a6) w:=by simp[getObj,Sem.run,hb]
    refine⟨.int .i64 l.length,by simp[Builtin.len_,q,run_underlying i,ao,goInt,a5],JB,?_⟩;exact Gc D (by simp[Vx.eval,Ex.eval,Pz,u0,Rf.eval,W,U.toL]) (by omega) (by omega) (fun y A=>by cases A)
   .cases h
  .cases h
 .cases h
end
section
variable {P:Program}{T:Tab}{n ak:Nat}{V ab:Nat->Option Nat}{m ad:Mem}{w Z:World}{g:G}{r:R}
theorem YJ (z:AG T n V m w)(b0:n<=ak){id x y aA aS:Nat}{ks ah:List Kd}{e:TypeId}(ag:m.at id= .mrow x y ks e)(b5:aA < ak)(b6:aS < ak)(cb:n<=aS)(E:∀j,j≠id-> ab j= V j)
  (os:Z.os=w.os) (tape:Z.tape=w.tape) (output:Z.output=w.output) (size:w.heap.size<=Z.heap.size)
  (ao:∀k,k < w.heap.size-> V id≠some k->Z.heap[k]? =w.heap[k]?)
  (bl:∀b', ab id=some b'-> V id=some b'\/w.heap.size<=b') (ca:ah.length=ks.length) (bt:ah≠[])
  {q:List (List U)} (hT:T aA= .list q) (bj:T aS= .int q.length) (hq:q.length<=AD)
  (bm:(ab id=none/\q=[])\/∃b W us, ab id=some b/\Z.heap[b]? =some (.cells (W++us:List Value).toArray e (0,0))/\Ab (AY T V m w) w ah q W/\∀off,T.fr b off):
  AH T n V m w ab (m.set id (.mrow aA aS ah e)) Z/\AG T ak ab (m.set id (.mrow aA aS ah e)) Z:=by
 have bx:m.at id≠ .pad:=by rw[ag];exact fun h=>by cases h
 have D:∀j,Mem.at (m.set id (.mrow aA aS ah e)) j=if j=id then .mrow aA aS ah e else m.at j:=fun j=>Dn m id (.mrow aA aS ah e) j bx
 have K:(m.at id).tracked=true:=by rw[ag];rfl
 have aa:AH T n V m w ab (m.set id (.mrow aA aS ah e)) Z:={
  os:=os
  tape:=tape
  output:=output
  size:=size
  mlen:=fun j h=>by rw[D j];split<;>first|exact (fun h=>by cases h)|exact h
  rho:=fun j h=>by
   have p:j≠id:=fun e'=>by subst e';rw[ag] at h;cases h
   grind
  untr:=fun j h i=>by
   grind
  fresh:=fun j b h i A=>by
   rw[D j] at i;split at i
   .grind
   .rw[h] at i;cases i
  old:=fun k hk b1=>ao k hk (b1 id K)
  tok:=fun j x kx e' h=>by
   have p:j≠id:=fun e'=>by subst e';rw[ag] at h;cases h
   refine .inl ⟨by rw[D j,vA p];exact h,E j p,fun b A=>ao b (z.lt (by rw[h];rfl) A) (fun H=>?_)⟩;exact p (z.inj j id b (by rw[h];rfl) K A H)
  row:=fun j x2 y2 kx e' h=>by
   by_cases p:j=id
   .grind
   .refine .inr ⟨x2,y2,kx,by rw[D j,vA p];exact h,rfl,.inl ⟨rfl,E j p,fun b W A hv=>⟨W,?_,rfl⟩⟩⟩;rw[ao b (z.lt (by rw[h];rfl) A) (fun H=>p (z.inj j id b (by rw[h];rfl) K A H))];exact hv }
 refine⟨aa,⟨fun j=>?_,fun j j' b i b3 C O=>?_,fun b off h=>z.fr b off (t8 aa.size h)⟩⟩
 .by_cases p:j=id
  .subst p;rw[D j,vC rfl];refine⟨⟨b5,b6⟩,q,hT,bj,⟨hq,bt⟩,?_⟩;rcases bm with h|⟨b,W,us,C,O,N,h4⟩
   .exact .inl h
   .exact .inr ⟨b,W,us,C,O,Ab.mono (fun _ _ h=>aa.safe0 h) N,h4⟩
  .by_cases i:(m.at j).tracked=true
   .refine BJ.step aa z b0 (by rw[D j,vA p]) (E j p) (fun b A=>ao b (z.lt i A) (fun H=>p (z.inj j id b i K A H)))
   .rw[D j,vA p];cases M:m.at j with
    |pad=>trivial
    |gone=>trivial
    |cells=>rw[M] at i;exact absurd rfl i
    |lp=>rw[M] at i;exact absurd rfl i
    |tok=>rw[M] at i;exact absurd rfl i
    |mrow=>rw[M] at i;exact absurd rfl i
    |mapb=>rw[M] at i;exact absurd rfl i
 .have tr:∀k,(Mem.at (m.set id (.mrow aA aS ah e)) k).tracked=true->(m.at k).tracked=true:=fun k hk=>by
   grind
  have one:∀j b,(m.at j).tracked=true->j≠id-> ab j=some b-> ab id=some b->False:=by
   intro j b i p C O;rw[E j p] at C;rcases bl b O with N|N
   .exact p (z.inj j id b i K C N)
   .have:=z.lt i C;omega
  by_cases p:j=id
  .grind
  .by_cases bs:j'=id
   .grind
   .rw[E j p] at C;rw[E j' bs] at O;exact z.inj j j' b (tr j i) (tr j' b3) C O
theorem Ru {ar:Array TypeId}{id y:Nat}{E:List Kd}{aE:Rf}{v u:Value}(h:W5 P ar id y E aE m g=some r)(di:New T g.n r.us)(el:∀q∈r.ps,q.holds T)(hm:AG T g.n V m w)(aa:AA T g.n V m w (.mr id y) v)(hx:Src T V m w E (aE.eval T) u)(aR:TypeId):
  ∃z Z ab,(Builtin.append_ ar aR #[v,u]).run P w= .ok z Z/\AH T g.n V m w ab r.m Z/\AG T (g.n+r.us.length) ab r.m Z/\AA T (g.n+r.us.length) ab r.m Z r.c z:=by
 unfold W5 at h;simp only[tX,tU] at h;obtain⟨t,e5,h⟩:=h;split at h
 .rename_i e ht;simp only[tU] at h;obtain⟨i,Y,z,hz,h⟩:=h;split at h
  .rename_i x aS k1 e' bc;split at h
   .rename_i hc;obtain⟨⟨rfl,rfl⟩,eq,en,d2,b8,bj,cv⟩:=hc;cases h;obtain rfl:ar= #[t,t]:=Array.ext' (Fx _ _ eq);obtain⟨ae,dk,c2,c4,rfl,_,_,D,e2,dn⟩:=hx;have ao:D.length=ae.length*i.size:=by rw[e2.len,b8]
    obtain⟨⟨e7,ek⟩,j,b6,I,d0,⟨ey,e0⟩,rfl,⟨ev,_⟩,cj⟩:=aa;have db:=hm.blk id;rw[bc] at db;obtain⟨⟨e6,_⟩,X,c7,c8,⟨e4,_⟩,dd⟩:=db;have d9:j=X.length:=by rw[d0] at c8;exact U.int.inj c8
    subst d9;simp only[Int.toNat_natCast] at*;have ca:T g.n= .list (X++ae):=by
     rw[di.head];simp[Ex.eval,Rr,u0,u1,eve,c7,c4,U.toL]
    have bs:(X++ae).length=X.length+ae.length:=tq;have cb:T (g.n+1)= .int (X++ae).length:=by
     have:=di 1 ⟨ "len",Pz,[.e g.n]⟩ rfl;rw[this];simp only[Ex.eval,Pz,u0,tx,uW,eve,ca,U.toL]
    have b0:=el ⟨ "fits " ++toString i.bytes,Gy i.bytes,[.e x,aE]⟩ (by simp);simp only[Pr.holds,Gy,u0,u1,tx,uW,eve,c7,c4,U.toL] at b0;have hb:=gB d2 b0;have bx:=TA en b8 bj;have ee:E≠[]:=fun h=>by rw[h] at b8;simp at b8;omega
    generalize ea:Gu k1 E=ks at*;have ci:ks≠[]:=fun h=>by rw[h] at bx;simp at bx;omega
    have c9:Mem.at (m.set id (.mrow g.n (g.n+1) ks e)) id= .mrow g.n (g.n+1) ks e:=by rw[Dn m id _ id ek,vC rfl]
    have mk:∀{ab:Nat->Option Nat} {Z:World} {a:Option Addr} {N:Nat},AH T g.n V m w ab (m.set id (.mrow g.n (g.n+1) ks e)) Z->X.length+ae.length<=N->Q1 ab Z id ks e a N->
      AA T (g.n+2) ab (m.set id (.mrow g.n (g.n+1) ks e)) Z (.mr id (g.n+1)) (.slice a (X.length+ae.length) N):=by
     intro ab Z a N _ hN hL;refine⟨⟨by omega,by rw[c9];exact fun h=>by cases h⟩,((X++ae).length:Nat),a,N,cb,⟨by omega,by have:=hb.1;rw[bs];omega⟩,by rw[bs,Int.toNat_natCast],⟨by rw[bs];omega,fun hp=>?_⟩,fun x2 e8 e2 M=>?_⟩
     .rcases hL with⟨_,q⟩|⟨b,W,_,q,_⟩
      .rw[bs] at hp;omega
      .exact⟨b,q⟩
     rw[c9] at M;cases M;exact hL
    have cs:∀{p:List Value},Ab (AY T V m w) w k1 X p->Ab (AY T V m w) w ks (X++ae) (p++D):=fun e1=>by
     rw[<-ea];exact e1.app e2 (fun h=>by rw[h] at bj;simp at bj;omega) ee (fun _=>by omega)
    rcases uo ae.length with M|M
    .
     have:ae=[]:=ur.1 M;subst this;have er:D=[]:=by simpa using ao
     subst er;simp only[uj,ub,Nat.add_zero] at*;have f:=YJ (ab:= V) (Z:=w) (ak:=g.n+2) (aA:=g.n) (aS:=g.n+1) (ah:=ks) hm (by omega) bc (by omega) (by omega) (by omega) (fun _ _=>rfl) rfl rfl rfl (tY _) (fun _ _ _=>rfl) (fun b' bl=> .inl bl) (by omega) ci ca cb hb.1
      (by
       rcases dd with h|⟨b,W,us,K,q2,q3,q4⟩
       .exact .inl h
       .exact .inr ⟨b,W,us,K,q2,cs q3,q4⟩)
     refine⟨_,w, V,DQ ht Y b6 dk X.length I c2 (by omega),f.1,f.2,mk f.1 (by omega) ?_⟩;rcases cj x k1 e bc with q|⟨b,W,K,q2,q3,q4⟩
     .exact .inl q
     .exact .inr ⟨b,W,K,q2,q3,by rw[bx,<-bj];exact q4⟩
    .obtain⟨b2,o2,rfl,d5⟩:=dn M;have cc:∀j y,D[j]? =some y->w.cell? ((⟨b2,o2,none⟩:Addr).add j)=some y:=fun j y hj=>by rw[B8];exact d5 j y hj
     have grow:∀{p:List Value},Ab (AY T V m w) w k1 X p->∀{N:Nat} {H:Array Value} {z0:Value},(Builtin.append_ #[t,t] aR #[.slice b6 X.length I,.slice (some ⟨b2,o2,none⟩) ae.length c2]).run P w= .ok z0 (w.drew.alloc (.cells H e))->
       z0= .slice (some ⟨w.heap.size,0,none⟩) (X.length+ae.length) N->X.length+ae.length<=N->H.toList.take ((X.length+ae.length)*i.size)=p++D->N*i.size<=H.size->
       ∃z Z ab,(Builtin.append_ #[t,t] aR #[.slice b6 X.length I,.slice (some ⟨b2,o2,none⟩) ae.length c2]).run P w= .ok z Z/\AH T g.n V m w ab (m.set id (.mrow g.n (g.n+1) ks e)) Z/\AG T (g.n+2) ab (m.set id (.mrow g.n (g.n+1) ks e)) Z/\AA T (g.n+2) ab (m.set id (.mrow g.n (g.n+1) ks e)) Z (.mr id (g.n+1)) z:=by
      intro p K N H z0 a1 et hN d1 eo;subst et;have b3:=Cq w.drew (.cells H e);have f:=YJ (ab:=CI V id w.heap.size) (Z:=w.drew.alloc (.cells H e)) (ak:=g.n+2) (aA:=g.n) (aS:=g.n+1) (ah:=ks) hm (by omega) bc (by omega) (by omega) (by omega) (fun j hj=>Ao _ _ _ hj) rfl rfl rfl (by simp)
       (fun k M _=>BB w.drew _ k M) (fun b' bl=>by rw[Ap] at bl;cases bl;exact .inr (tY _)) (by omega) ci ca cb (by rw[bs];exact hb.1)
       (.inr ⟨w.heap.size,p++D,H.toList.drop ((X.length+ae.length)*i.size),Ap _ _ _,by
        rw[<-d1,ui,Array.toArray_toList];exact b3,cs K,fun off=>hm.fr _ off (tY _)⟩)
      exact⟨_,_,_,a1,f.1,f.2,mk f.1 hN (.inr ⟨w.heap.size,_,Ap _ _ _,rfl,b3,by rw[bx];exact eo⟩)⟩
     have c1:∀(p:List Value) (A:Array Value),p.length=X.length*i.size->(p.toArray++D.toArray++A).toList.take ((X.length+ae.length)*i.size)=p++D:=by
      intro p A hl;rw[Array.toList_append,Array.toList_append];simp only[List.toList_toArray];apply List.take_left';rw[tq,hl,ao,uL]
     rcases dd with⟨ei,rfl⟩|⟨b,p,ag,b4,ce,q3,d8⟩
     .
      rcases cj x k1 e bc with⟨_,d4⟩|⟨b,W,K,_⟩
      .subst d4;cases b6 with
       |none=>
        have a1:=run_append_nil (P:=P) w t aR e i z ht Y hz ⟨b2,o2,none⟩ ae.length c2 D ao cc M (by have:=hb.2;simp at this;omega) (by simp at b0;omega);have bm:=grownCap_ge w ae.length 0 e;refine grow (N:=grownCap w ae.length 0 e) (Ab.nil _ _) a1 (by simp) (by simpa using bm) ?_ ?_
        .have:=c1 [] (Builtin.zeroCells z.cells (grownCap w ae.length 0 e - ae.length)) (by simp);simpa using this
        .simp only[Array.size_append,uv,size_zeroCells,cv,ao];rw[<-uL];exact uG _ (by omega)
       |some a=>
        have a1:=run_append_grow (P:=P) w t aR e i z ht Y hz a 0 0 [] (by simp) (fun j y hj=>by simp at hj) ⟨b2,o2,none⟩ ae.length c2 D ao cc (by omega) (by have:=hb.2;simpa using this) (growslice_fits (by omega) (by simpa using b0));have bm:=grownCap_ge w (0+ae.length) 0 e;refine grow (N:=grownCap w (0+ae.length) 0 e) (Ab.nil _ _) a1 (by simp) (by simpa using bm) ?_ ?_
        .have:=c1 [] (Builtin.zeroCells z.cells (grownCap w (0+ae.length) 0 e - (0+ae.length))) (by simp);simpa using this
        .simp only[Array.size_append,uv,size_zeroCells,cv,ao,ub,tj];rw[<-uL];refine uG _ ?_;rw[tj] at bm;omega
      .rw[ei] at K;cases K
     .have cf:p.length=X.length*i.size:=by rw[q3.len,bj]
      rcases cj x k1 e bc with⟨K,_⟩|⟨b',B,K,rfl,q5,q6⟩
      .rw[b4] at K;cases K
      .rw[b4] at K;cases K;rw[ce] at q5;cases q5;rw[bj] at q6;have d6:∀j x,p[j]? =some x->w.cell? ((⟨b,0,none⟩:Addr).add j)=some x:=fun j x hj=>by
        rw[B8,tj,Fa ce,tv (tc.1 hj).1];exact hj
       by_cases cl:X.length+ae.length<=I
       .
        have de:X.length*i.size+D.length<=(p++ag).toArray.size:=by
         rw[ao,<-uL];exact t8 (uG _ cl) q6
        have a1:=run_append_room (P:=P) w t aR e i ht Y b X.length I (p++ag).toArray ce ⟨b2,o2,none⟩ ae.length c2 D ao cc e2.ones cl de;have e3:((p++ag).toArray.toList.take (X.length*i.size)++D++(p++ag).toArray.toList.drop (X.length*i.size+D.length))=(p++D)++ag.drop D.length:=by
         simp only[List.toList_toArray];rw[<-cf,List.take_left' rfl,List.drop_length_add_append]
        rw[e3] at a1;have b3:=setRow_heap w b (p++ag).toArray ((p++D)++ag.drop D.length).toArray e (0,0) ce;have em:((p++D)++ag.drop D.length).toArray.size=(p++ag).toArray.size:=by
         simp only[uv,tq,ue] at de⊢;omega
        have f:=YJ (ab:= V) (Z:=w.setRow b ((p++D)++ag.drop D.length).toArray) (ak:=g.n+2) (aA:=g.n) (aS:=g.n+1) (ah:=ks) hm (by omega) bc (by omega) (by omega) (by omega) (fun _ _=>rfl) rfl rfl rfl (by simp)
         (fun k _ M=>DD w b _ k (fun he=>M (by rw[he];exact b4))) (fun b' bl=> .inl bl) (by omega) ci ca cb (by rw[bs];exact hb.1)
         (.inr ⟨b,p++D,ag.drop D.length,b4,b3,cs q3,d8⟩)
        exact⟨_,_,_,a1,f.1,f.2,mk f.1 cl (.inr ⟨b,_,b4,rfl,b3,by rw[bx,em];exact q6⟩)⟩
       .have a1:=run_append_grow (P:=P) w t aR e i z ht Y hz ⟨b,0,none⟩ X.length I p cf d6 ⟨b2,o2,none⟩ ae.length c2 D ao cc (by omega) hb.2 (growslice_fits (by omega) b0);have bm:=grownCap_ge w (X.length+ae.length) I e;refine grow q3 a1 rfl bm (c1 p _ cf) ?_;simp only[Array.size_append,uv,size_zeroCells,cv,cf,ao];rw[<-uL,<-uL];exact uG _ (by omega)
   .cases h
  .cases h
 .cases h
end
section
variable {P:Program}{T:Tab}{n ak:Nat}{V ab:Nat->Option Nat}{m ad:Mem}{w Z:World}{g:G}{r:R}
def Qa (s:Nat):Nat->List Value->List (List Value)
 |0,_=>[]
 |k+1,l=>l.take s::Qa s k (l.drop s)
theorem Gj (s:Nat):∀(k:Nat) (l:List AC),(CW s k l).length=k
 |0,_=>rfl
 |k+1,l=>by simp[CW,Gj s k]
theorem Mh (s:Nat):∀(k:Nat) (l:List AC),k*s<=l.length->∀x∈CW s k l,x.length=s
 |0,_,_=>by simp[CW]
 |k+1,l,h=>by
  intro x i;have O:k*s+s<=l.length:=by rw[<-Nat.succ_mul];exact h
  simp only[CW,List.mem_cons] at i;rcases i with rfl|i
  .rw[uX];omega
  .exact Mh s k (l.drop s) (by rw[ue];omega) x i
theorem Tb (s:Nat):∀(k:Nat) (l:List Value),k*s<=l.length->(Qa s k l).flatten=l.take (k*s)
 |0,_,_=>by simp[Qa]
 |k+1,l,h=>by
  have O:k*s+s<=l.length:=by rw[<-Nat.succ_mul];exact h
  simp only[Qa,vF];rw[Tb s k (l.drop s) (by rw[ue];omega),Nat.succ_mul,Nat.add_comm (k*s) s,List.take_add]
theorem PH (s:Nat):∀(k:Nat) (l:List AC) (W:List Value),AB T n V m w l W->((CW s k l).all fun l=>l.all AC.atom)=true->Qh T n V m w (CW s k l) (Qa s k W)
 |0,_,_,_,_=>rfl
 |k+1,l,W,h,ha=>by
  simp only[CW,List.all_cons,tV] at ha;exact⟨_,_,rfl,ha.1,h.take s,PH s k (l.drop s) (W.drop s) (h.drop s) ha.2⟩
variable{s x:AC}{u v:Value}{I:Nat}{ar:Array TypeId}{t:TypeId}
theorem qH {id off len s:Nat}{l:List AC}{E:TypeId}(hm:AG T n V m w)(N:m.at id= .cells l E)(hx:AA T n V m w (.asl id off len) u)
  (C:off+len*s<=l.length) (O:0 < s) (h3:0 < len) (H:((CW s len (l.drop off)).all fun l=>l.all AC.atom)=true):
  (Cy (CW s len (l.drop off))).length=s/\Src T V m w (Cy (CW s len (l.drop off))) (.list ((CW s len (l.drop off)).map fun l=>l.map fun c=>(BY c).2.eval T)) u:=by
 obtain⟨b,K,rfl,hp⟩:=hx;have p:=hm.blk id;rw[N] at p;obtain⟨z,W,i,M,q⟩:=p;obtain rfl:b=z:=by rw[K] at i;exact Option.some.inj i
 have bb:W.length=l.length:=q.length;have hr:=PH s len (l.drop off) (W.drop off) (q.drop off) H;have hn:CW s len (l.drop off)≠[]:=fun h=>by
  have:=Gj s len (l.drop off);grind
 obtain⟨A,D⟩:=P5 O hr (Mh s len (l.drop off) (by rw[ue];omega)) hn;refine⟨A,_,some ⟨b,off,none⟩,len,rfl,?_,?_,?_,(Qa s len (W.drop off)).flatten,D,fun _=>⟨b,off,rfl,fun j x hj=>?_⟩⟩
 .rw[List.length_map,Gj]
 .rw[List.length_map,Gj];exact tY _
 .grind
 .rw[Tb s len (W.drop off) (by rw[ue];omega)] at hj;rw[Fa M];grind
theorem Uv (hm:AG T n V m w)(bj:n < ak){e:TypeId}{ks:List Kd}(bi:ks≠[])(q:T n= .list [])
  {aJ:World} (hd:aJ=w\/aJ=w.drew) {H:Array Value} {len:Nat} (bb:len<=I) (hl:len<=68719476736) (bm:I*ks.length<=H.size):
  ∃ ab,AH T n V m w ab (m++[.tok n ks e]) (aJ.alloc (.cells H e))/\AG T ak ab (m++[.tok n ks e]) (aJ.alloc (.cells H e))/\
   AA T ak ab (m++[.tok n ks e]) (aJ.alloc (.cells H e)) (.rsv m.length n ks) (.slice (some ⟨w.heap.size,0,none⟩) len I):=by
 obtain⟨ab,E,K,M,N⟩:=Yy (ak:=ak) (e:=e) (ks:=ks) (l:=[]) (W:=[]) hm bj bi (Ab.nil _ _) (by simp[AD]) q hd (H:=H) (I:=I) (fun p hp=>by simp at hp) (uQ _) bm;refine⟨ab,K,M,?_⟩;obtain⟨g0,g1,ao,g3⟩:=N;refine⟨g0,g1,q,⟨_,_,_,rfl⟩,fun ah e' he=>?_⟩;rcases g3 ah e' he with⟨h,j⟩|⟨b,bs,W,h,j,z,A⟩
 .rw[E] at h;cases h
 .obtain⟨i,e2,D⟩:=Value.slice.inj j;obtain rfl:w.heap.size=b:=by injection i with i;injection i
  subst D;exact .inr ⟨_,len,I,W,h,rfl,⟨bb,hl⟩,z,A⟩
theorem bB (h:SG P ar s x m g=some r)(bi:New T g.n r.us)(b3:∀q∈r.ps,q.holds T)(A:AG T g.n V m w)(aa:AA T g.n V m w s v)(hx:AA T g.n V m w x u)(aR:TypeId):
  ∃z Z ab,(Builtin.append_ ar aR #[v,u]).run P w= .ok z Z/\AH T g.n V m w ab r.m Z/\AG T (g.n+r.us.length) ab r.m Z/\AA T (g.n+r.us.length) ab r.m Z r.c z:=by
 unfold SG at h;split at h
 .rename_i id off len;split at h
  .rename_i l e0 b0;simp only[tX,tU] at h;obtain⟨t,cj,h⟩:=h;split at h
   .rename_i e M;simp only[tU] at h;obtain⟨i,Y,h⟩:=h;split at h
    .rename_i hc;obtain⟨C,O,h3,h4,h5⟩:=hc;simp only[tU] at h;obtain⟨r0,d0,h⟩:=h;cases h;obtain⟨c2,c3⟩:=qH A b0 hx C O h3 h5;have p:T g.n= .list ((CW i.size len (l.drop off)).map fun l=>l.map fun c=>(BY c).2.eval T):=by
      have e1:=bi.head;have e2:=PR (T:=T) (s:=i.size) ((CW i.size len (l.drop off)).map fun l=>l.map fun c=>(BY c).2) (fun af hl=>by
       simp only[vG] at hl;obtain⟨ae,di,rfl⟩:=hl;rw[List.length_map];exact Mh i.size len (l.drop off) (by rw[ue];omega) ae di)
      rw[e1];simp only[Ex.eval,Yx,UJ];simp only[List.length_map,Gj] at e2;rw[e2];simp[List.map_map,Function.comp_def]
     have dm:AG T (g.n+1) V m w:=A.mono (by omega);have d3:AA T (g.n+1) V m w s v:=aa.up A (by omega);have dn:New T (g.n+1) r0.us:=fun j u hj=>by
      have:=bi (j+1) u (by simpa using hj);grind
     obtain⟨z,Z, ab,k1,E,k3,k4⟩:=dE (g:={ g with n:=g.n+1 }) d0 dn b3 dm d3 (u:=u) (by rw[show (Rf.e g.n).eval T=T g.n from rfl,p];exact c3) aR;have en:g.n+(r0.us.length+1)=g.n+1+r0.us.length:=by omega
     exact⟨z,Z, ab,k1,E.down (by show g.n<=g.n+1;omega),by simp only[uJ];rw[en];exact k3,by simp only[uJ];rw[en];exact k4⟩
    .cases h
   .cases h
  .cases h
 .rename_i id y N;simp only[tX,tU] at h;obtain⟨t,cj,h⟩:=h;split at h
  .rename_i e aS ky ey ht b0;simp only[tU] at h;obtain⟨i,Y,z,hz,h⟩:=h;split at h
   .rename_i hc;obtain⟨b4,es,cc,c8,rfl,de,K,b7⟩:=hc;cases h;obtain rfl:ar= #[t,t]:=by
     have:=Fx _ _ b4;exact Array.ext' this
    have hv:v= .slice none 0 0:=aa;subst hv;have b2:N≠[]:=fun h=>by rw[h] at K;simp at K;omega
    have p:T g.n= .list []:=by rw[bi.head];rfl
    obtain⟨hy,eq,el,⟨eb,e4,ei,ev⟩,dk⟩:=hx;have cs:∀a c,∃z Z ab,(Builtin.append_ #[t,t] aR #[.slice none 0 0,.slice a 0 c]).run P w= .ok z Z/\AH T g.n V m w ab (m++[.tok g.n N e]) Z/\AG T (g.n+1) ab (m++[.tok g.n N e]) Z/\AA T (g.n+1) ab (m++[.tok g.n N e]) Z (.rsv m.length g.n N) z:=by
     intro a c;obtain⟨ab,f1,f2,g0,g1,ao,g3⟩:=Uj (ak:=g.n+1) (e:=e) (ks:=N) A (by omega) p;refine⟨_,w, ab,DQ ht Y none a 0 0 c (tY _),f1,f2,g0,g1,p,⟨_,_,_,rfl⟩,fun ah e' he=>?_⟩;rcases g3 ah e' he with⟨a1,a3⟩|⟨b,c0,W,a1,a3,cv,cx⟩
     .exact .inl ⟨a1,rfl⟩
     .cases a3
    rcases dk ky ey b0 with⟨_,M⟩|⟨b,len,I,W,hb,M,⟨dj,cf⟩,c9,ce⟩
    .subst M;exact cs none 0
    .subst M;rcases uo len with D|D
     .subst D;exact cs _ I
     .have d4:len*i.size<=W.size:=by
       rw[de] at ce;exact t8 (uG _ dj) ce
      have d2:=run_append_nil (P:=P) w t aR e i z ht Y hz ⟨b,0,none⟩ len I (W.toList.take (len*i.size)) (by rw[uX,Array.length_toList];omega) (fun j x hj=>by
       have dd:=(tc.1 hj).1;rw[uX] at dd;rw[List.getElem?_take_of_lt (by omega)] at hj;rw[B8,tj,Fa (W:=W.toList) (by rw[Array.toArray_toList];exact c9)];exact hj) D (by omega) (t8 (Nat.mul_le_mul cf c8) (by decide))
      have bt:=grownCap_ge w len 0 e;obtain⟨ab,f1,f2,f3⟩:=Uv (e:=e) (ak:=g.n+1) (len:=len) A (by omega) b2 p (.inr rfl) (H:=(W.toList.take (len*i.size)).toArray++Builtin.zeroCells z.cells (grownCap w len 0 e - len)) (I:=grownCap w len 0 e) bt cf (by
       simp only[Array.size_append,uv,size_zeroCells,b7,uX,Array.length_toList,Nat.min_eq_left d4,K];rw[<-uL];exact uG _ (by omega))
      grind
   .cases h
  .cases h
 .rename_i x _ _;split at h
  .rename_i k e5 eo rn db;simp only[tX,tU] at h;obtain⟨t,cj,tn,et,h⟩:=h;split at h
   .rename_i e kn M cl;simp only[tU] at h;obtain⟨i,Y,z,hz,l,hl,h⟩:=h;split at h
    .rename_i hc;obtain⟨b4,dv,K,b7,cc⟩:=hc;cases h;obtain rfl:ar= #[t,tn]:=Array.ext' (Fx _ _ b4);have hv:v= .slice none 0 0:=aa;subst hv;obtain⟨n,rfl,er,_,_⟩:=Bg db hx;have hp:=b3 _ (uT.2 rfl);simp only[Pr.holds,Du,tx,uW,u0,er,U.toI] at hp;obtain⟨p0,p1⟩:=hp;obtain⟨n,rfl⟩:∃k:Nat,n=k:=⟨n.toNat,by omega⟩;have p:T g.n= .list []:=by rw[bi.head];rfl
     have b2:(l.map fun c=>(BY c).1)≠[]:=fun h=>by rw[h] at K;simp at K;omega
     rcases uo n with D|D
     .subst D;obtain⟨ab,f1,f2,g0,g1,ao,g3⟩:=Uj (ak:=g.n+1) (e:=e) (ks:=l.map fun c=>(BY c).1) A (by omega) p;refine⟨.slice none 0 0,w, ab,?_,f1,f2,g0,g1,p,⟨_,_,_,rfl⟩,fun ah e' he=>?_⟩
      .have d5:IntKind.i64.wrap 0=0:=by decide
       simp[Builtin.append_,run_underlying M,run_underlying cl,sizeOf,typeInfo,Y,asInt,asIntOf,d5]
      .rcases g3 ah e' he with⟨a1,a3⟩|⟨b,c0,W,a1,a3,cv,cx⟩
       .exact .inl ⟨a1,rfl⟩
       .cases a3
     .have d2:=Go.Lib.run_append_nil_zeros (P:=P) w t tn aR e i z k kn M cl Y hz n D dv (by omega) (t8 (Nat.mul_le_mul (show n<=68719476736 by omega) cc) (by decide));have bt:=grownCap_ge w n 0 e;obtain⟨ab,f1,f2,f3⟩:=Uv (e:=e) (ak:=g.n+1) (len:=n) A (by omega) b2 p (.inr rfl) (H:=Builtin.zeroCells z.cells n++Builtin.zeroCells z.cells (grownCap w n 0 e - n)) (I:=grownCap w n 0 e) bt (by omega) (by
       simp only[Array.size_append,size_zeroCells,b7,K];rw[<-uL];exact uG _ (by omega))
      grind
    .cases h
   .cases h
  .simp only[tX,tU] at h;obtain⟨⟨E,aE⟩,d1,h⟩:=h;exact dE h bi b3 A aa (Hy (FR d1 hx)) aR
theorem gD (h:VM P ar s x m g=some r)(j:New T g.n r.us)(p:∀q∈r.ps,q.holds T)(i:AG T g.n V m w)(aa:AA T g.n V m w s v)(A:AA T g.n V m w x u)(aR:TypeId):
  ∃z Z ab,(Builtin.append_ ar aR #[v,u]).run P w= .ok z Z/\AH T g.n V m w ab r.m Z/\AG T (g.n+r.us.length) ab r.m Z/\AA T (g.n+r.us.length) ab r.m Z r.c z:=by
 unfold VM at h;split at h
 .simp only[tX,tU] at h;obtain⟨⟨E,aE⟩,D,h⟩:=h;exact Ru h j p i aa (Hy (FR D A)) aR
 .exact bB h j p i aa A aR
theorem Dh {v:Int}{k:IntKind}{y:Nat}{c:BoundsCode}(h:0<=v)(C:v<=y):(Instr.sliceBound (.int k v) y c).run P w= .ok v.toNat w:=by
 simp[Instr.sliceBound,asIntOf,h,C]
theorem dg {ok:Nat->Nat->Prop}{ks:List Kd}{l:List (List U)}{a:Option Addr}{ap Y size:Nat}(q:ks≠[])(N:size=ks.length)(H:l.length<=AD)(K:ap<=Y)(D:Y<=l.length)(A:l.length<=I)
  (j:0 < l.length->∃b o,a=some ⟨b,o,none⟩/\∀i us,l[i]? =some us->Af ok w ks b (o+i*ks.length) us):
  AT ok w (.list ks) (.list ((l.take Y).drop ap)) (.slice (if I=ap then a else a.map (·.add (ap*size))) (Y - ap) (I - ap)):=by
 have p:((l.take Y).drop ap).length=Y - ap:=by rw[ue,uX];omega
 refine⟨_,rfl,by omega,fun h=>absurd h q,(if I=ap then a else a.map (·.add (ap*size))),I - ap,by rw[p],by omega,fun M=>?_⟩;obtain⟨b,o,rfl,z⟩:=j (by omega);refine⟨b,o+ap*size,?_,fun i us E=>?_⟩
 .rw[vA (by omega)];simp only[uy,B8]
 .grind
def Nr (T:Tab)(n:Nat)(V :Nat->Option Nat)(m:Mem)(w:World):Option AC->Option Value->Prop
 |none,v=>v=none
 |some c,v=>∃u,v=some u/\AA T n V m w c u
theorem P7 {ap Y:Option AC}{Q aT:Option Value}(h:Jo P t x ap Y m g=some r)(bi:New T g.n r.us)(bj:∀q∈r.ps,q.holds T)(hm:AG T g.n V m w)(hx:AA T g.n V m w x v)
  (M:Nr T g.n V m w ap Q) (K:Nr T g.n V m w Y aT):
  ∃z,(Instr.sliceAt t v Q aT none).run P w= .ok z w/\r.m=m/\AA T (g.n+r.us.length) V m w r.c z:=by
 unfold Jo at h;split at h
 .rename_i k e E;split at h
  .rename_i id off;split at h
   .rename_i b5;cases h;obtain⟨i,Y⟩:=Option.isSome_iff_exists.1 b5;obtain⟨b,N,rfl,p⟩:=hx;obtain rfl:Q=none:=M;obtain rfl:aT=none:=K;refine⟨.slice (some ⟨b,off,none⟩) k k,?_,rfl,b,N,rfl,p⟩;simp only[Instr.sliceAt,ua,run_underlying E,uZ,Instr.sureAddr,uh,Instr.sliceBounds,BN Y,Nat.zero_mul,Nat.sub_zero,B8,Nat.add_zero,ite_self]
   .cases h
  .cases h
 .rename_i e E;have b4:∀v ap Y,(Instr.sliceAt t v ap Y none).run P w=(Instr.slice t v ap Y none).run P w:=by
   intro v ap Y;simp only[Instr.sliceAt,ua,run_underlying E,uZ]
  rw[b4];simp only[tX,tU] at h;obtain⟨i,ag,h⟩:=h;split at h
  .rename_i k n0;split at h
   .rename_i hn;subst hn;cases h;obtain rfl:v= .slice none 0 0:=hx;obtain rfl:Q=none:=M;obtain⟨u,rfl,A⟩:=K;obtain rfl:u= .int k 0:=A;refine⟨.slice none 0 0,?_,rfl,rfl⟩;simp[Instr.slice,run_underlying E,Instr.sliceBounds,Dh,BN ag]
   .cases h
  .rename_i id y ks k n0;split at h
   .rename_i hn;subst hn;cases h;obtain⟨hy,ca,a5,⟨bm,c2,ao,rfl⟩,b6⟩:=hx;obtain rfl:Q=none:=M;obtain⟨u,rfl,A⟩:=K;obtain rfl:u= .int k 0:=A;refine⟨.slice (if ao=0 then bm else bm.map (·.add (0*i.size))) 0 ao,?_,rfl,hy,ca,?_,fun ah e' he=>?_⟩
    .simp[Instr.slice,run_underlying E,Instr.sliceBounds,Dh,BN ag]
    .rw[a5];exact⟨[],rfl,uQ _,fun _=>rfl,_,ao,rfl,uQ _,fun h=>by simp at h⟩
    .rcases b6 ah e' he with⟨X,ae⟩|⟨b,len,I,W,X,ae,⟨l3,_⟩,l4,l5⟩
     .cases ae;exact .inl ⟨X,none,by rw[a5];rfl⟩
     .cases ae;refine .inr ⟨b,ao,W,X,?_,l4,l5⟩;rw[a5];simp[U.toL,B8]
   .cases h
  .rename_i x ap Y _ _;simp only[tU] at h;obtain⟨⟨ks,r0⟩,cb,h⟩:=h;simp only at h;split at h
   .rename_i hc;obtain⟨bl,cx⟩:=hc;have b8:ks≠[]:=fun h=>by rw[h] at bl;simp at bl;omega
    obtain⟨l,H,b7,hk,a,I,rfl,b2,h3⟩:=FR cb hx;have bb:∀{f:List U->U} {tg:Tg} {rs:List Rf} {cl:List Ex},New T g.n (⟨tg,f,rs⟩::cl)->T g.n=f (rs.map (Rf.eval T)):=fun h=>h.head;have a3:∀(ap Y:Nat) (af:List (List U)),ap<=Y->Y<=l.length->af=(l.take Y).drop ap->T g.n= .list af->AA T (g.n+1) V m w (.ro g.n ks) (.slice (if I=ap then a else a.map (·.add (ap*i.size))) (Y - ap) (I - ap)):=by
     intro ap Y af C O h4 h5;refine⟨by omega,?_⟩;rw[h5,h4];exact dg b8 bl b7 C O b2 h3
    split at h
    .
     simp only[tU] at h;obtain⟨⟨k,X,C,rb⟩,N,h⟩:=h;cases h;obtain rfl:Q=none:=M;obtain⟨u,rfl,A⟩:=K;obtain⟨j,rfl,D,_,_⟩:=Bg N A;have p:=bj _ (uT.2 rfl);simp only[Pr.holds,KM,tx,uW,u0,u1,H,D,U.toI,U.toL] at p;refine⟨_,?_,rfl,a3 0 j.toNat (l.take j.toNat) (uQ _) (by omega) rfl ((bb bi).trans ?_)⟩
     .simp only[Instr.slice,ua,run_underlying E,uZ,Instr.sliceBounds,uh,Dh (P:=P) (w:=w) (k:=k) (c:= .sliceAcap) p.1 (show j<=(I:Int) by omega),BN ag,if_true]
     .simp[O0,u0,u1,H,D,U.toI,U.toL]
    .simp only[tU] at h;obtain⟨⟨k,X,C,ra⟩,ha,h⟩:=h;cases h;obtain rfl:aT=none:=K;obtain⟨u,rfl,A⟩:=M;obtain⟨j,rfl,D,_,_⟩:=Bg ha A;have p:=bj _ (uT.2 rfl);simp only[Pr.holds,KM,tx,uW,u0,u1,H,D,U.toI,U.toL] at p;refine⟨_,?_,rfl,a3 j.toNat l.length (l.drop j.toNat) (by omega) (tY _) (by rw[uz]) ((bb bi).trans ?_)⟩
     .simp only[Instr.slice,ua,run_underlying E,uZ,Instr.sliceBounds,uh,Dh (P:=P) (w:=w) (k:=k) (c:= .sliceB) p.1 p.2,BN ag,Option.isSome_none,uE,if_false]
     .simp[fV,u0,u1,H,D,U.toI,U.toL]
    .simp only[tU] at h;obtain⟨⟨k,X,C,ra⟩,ha,⟨k',c0,cs,rb⟩,N,h⟩:=h;cases h;obtain⟨u,rfl,A⟩:=M;obtain⟨j,rfl,D,_,_⟩:=Bg ha A;obtain⟨u,rfl,A⟩:=K;obtain⟨q,rfl,eq,_,_⟩:=Bg N A;have p:=bj _ (uT.2 rfl);simp only[Pr.holds,nT,tx,uW,u0,u1,u2,H,D,eq,U.toI,U.toL] at p;refine⟨_,?_,rfl,a3 j.toNat q.toNat ((l.take q.toNat).drop j.toNat) (by omega) (by omega) rfl ((bb bi).trans ?_)⟩
     .have hq:(q.toNat:Int)=q:=by omega
      simp only[Instr.slice,ua,run_underlying E,uZ,Instr.sliceBounds,uh,Dh (P:=P) (w:=w) (k:=k') (c:= .sliceAcap) (show 0<=q by omega) (show q<=(I:Int) by omega),Dh (P:=P) (w:=w) (k:=k) (c:= .sliceB) p.1 (show j<=((q.toNat:Nat):Int) by omega),BN ag,if_true,Option.isSome_none,uE,if_false]
     .simp[oB,u0,u1,u2,H,D,eq,U.toI,U.toL]
    .cases h
   .cases h
 .cases h
theorem Wd {a:Act}{o:Oper}{x y:Operand}{aD p:AC}(h:OG P t aD p m g=some r)(bs:New T g.n r.us)(bx:∀q∈r.ps,q.holds T)(hm:AG T g.n V m w)
  (ho:o.op= .makeSlice t x y) (hx:AA T g.n V m w aD (a.eval x)) (hy:AA T g.n V m w p (a.eval y)):BM T g V m w ((execOp a.eval o).run P w) r:=by
 unfold OG at h;split at h
 .rename_i e hu;simp only[tX,tU] at h;obtain⟨i,Y,z,hz,⟨k,l0,A,aI⟩,N,l,hl,h⟩:=h;simp only at h;split at h
  .rename_i hc;obtain⟨bb,rfl,ce,D,cf,ca⟩:=hc;cases h;obtain rfl:aD=p:=AC.beq_eq _ _ bb;obtain⟨n,en,K,_,_⟩:=Bg N hx;obtain⟨ak,ao,M,_,_⟩:=Bg N hy;obtain rfl:n=ak:=by rw[K] at M;injection M
   have W:=bx _ (uT.2 rfl);simp only[Pr.holds,Du,tx,uW,u0,K,U.toI] at W;obtain⟨p0,p1⟩:=W;have hT:T g.n= .list []:=by rw[bs.head];rfl
   have hw:IntKind.i64.wrap n=n:=by
    exact EX .i64 n (by rw[show IntKind.i64.min= -9223372036854775808 from rfl];omega) (by rw[show IntKind.i64.max=9223372036854775807 from rfl];omega)
   have cc:i.bytes*n<=2 ^ 48:=by
    have:(i.bytes:Int)*n<=1024*68719476736:=Int.mul_le_mul (by omega) p1 p0 (by decide);omega
   have E:∃j:Array Value,j.size=n.toNat*i.size/\(execOp a.eval o).run P w= .ok (.value (.slice (some ⟨w.heap.size,0,none⟩) n.toNat n.toNat)) (w.alloc (.cells j e)):=by
    have b1:(typeInfo e).run P w= .ok i w:=by simp[typeInfo,Y]
    have bi:¬(i.bytes*n > 2 ^ 48):=by omega
    have bj:¬(n < 0):=by omega
    simp only[execOp,ho,Instr.makeSlice,ua,run_underlying hu,uZ,asInt,asIntOf,en,ao,uh,b1,hw,bi,bj,decide_false,Bool.or_self,uE,gt_iff_lt,Int.lt_irrefl,if_false,run_askRoom,BN Y];by_cases A:n.toNat*i.size=0
    .refine⟨(Array.range (n.toNat*i.size)).map (fun x=>(#[]:Array Value)[x % (#[]:Array Value).size]!),by simp,?_⟩;simp only[A,if_true,uh,uZ,newRow];simp
    .refine⟨(Array.range (n.toNat*i.size)).map (fun x=>z.cells[x % z.cells.size]!),by simp,?_⟩;simp only[A,if_false,ua,HI Y hz,uh,uZ,newRow];simp
   obtain⟨j,b0,E⟩:=E;have bm:(l.map fun c=>(BY c).1)≠[]:=fun h=>by rw[h] at D;simp at D;omega
   obtain⟨ab,f1,f2,f3⟩:=Uv (e:=e) (ak:=g.n+1) (len:=n.toNat) (I:=n.toNat) hm (by omega) bm hT (.inl rfl) (H:=j) (tY _) (by omega) (by rw[D,b0];exact tY _);exact⟨_,_, ab,.inl E,f1,f2,f3⟩
  .cases h
 .cases h
theorem qM {i:Bool}{z:Value}(h:(if i then Builtin.max_ ar t #[v,u] else Builtin.min_ ar t #[v,u]).run P w= .ok z w):
  ((if i then Builtin.max2 else Builtin.min2) v u).run P w= .ok z w:=by
 cases i with
 |true=>simpa [Builtin.max_] using h
 |false=>simpa [Builtin.min_] using h
theorem K8 {q:Bool}:∀(l:List AC) (x:AC) (v:Value) (us:List Value) (g:G) (r:R),Qu q x l m g=some r->New T g.n r.us->AA T g.n V m w x v->AB T g.n V m w l us->
  ∃z,(us.foldlM (if q then Builtin.max2 else Builtin.min2) v).run P w= .ok z w/\r.m=m/\AA T (g.n+r.us.length) V m w r.c z
 |[],x,v,us,g,r,h,hnew,hx,hl=>by
  obtain rfl:us=[]:=hl;cases h;exact⟨v,by simp,rfl,hx⟩
 |y::l,x,v,us,g,r,h,hnew,hx,hl=>by
  obtain⟨u,p,rfl,M,A⟩:=hl;simp only[Qu,tX,tU] at h;obtain⟨ax,H,aE,K,h⟩:=h;cases h;obtain⟨z,N,E,W⟩:=Kp (P:=P) H (fun j u i=>hnew j u (by rw[tv (tc.1 i).1];exact i)) hx M #[] 0;have D:AB T (g.n+ax.us.length) V m w l p:=AB.mono0 (AH.refl T g.n V m w) (by omega) l p A;obtain⟨z2,q1,q2,q3⟩:=K8 l ax.c z p { g with n:=g.n+ax.us.length } aE K (fun j u i=>by
   have:=hnew (ax.us.length+j) u (by rw[tw (by omega),Nat.add_sub_cancel_left];exact i);rw[<-Nat.add_assoc] at this;exact this) W D
  refine⟨z2,?_,rfl,?_⟩
  .simp only[List.foldlM_cons,ua,qM N,uZ];exact q1
  .simp only[tq];rw[<-Nat.add_assoc];exact q3
end
section
variable {P:Program}{T:Tab}{n ak:Nat}{V ab:Nat->Option Nat}{m ad:Mem}{w Z:World}{g:G}{r:R}
variable{x Y a2:AC}{y:Nat}{e t:TypeId}{a:Act}{o:Oper}{ap:Option AC}{v aT a9:Value}{Q:Option Value}
theorem Zb (z:AG T n V m w){x:Nat}(A:x < ak)(hy:y < ak)(bi:n<=ak){ks:List Kd}{l:List (List U)}{W us:List Value}(bc:ks≠[])(hv:Ab (AY T V m w) w ks l W)(hk:l.length<=AD)(hT:T x= .list l)(ag:T y= .int l.length)
  {aJ:World} (hd:aJ=w\/aJ=w.drew) {I:Nat} (bm:l.length<=I) (bj:I*ks.length<=(W++us).length):
  ∃ ab,AH T n V m w ab (m++[.mrow x y ks e]) (aJ.alloc (.cells (W++us).toArray e))/\AG T ak ab (m++[.mrow x y ks e]) (aJ.alloc (.cells (W++us).toArray e))/\
   AA T ak ab (m++[.mrow x y ks e]) (aJ.alloc (.cells (W++us).toArray e)) (.mr m.length y) (.slice (some ⟨w.heap.size,0,none⟩) l.length I):=by
 have N:aJ.heap=w.heap:=by rcases hd with rfl|rfl<;>rfl
 have j:=IJ (T:=T) z (.cells (W++us).toArray e) (.mrow x y ks e);have aa:AH T n V m w (CI V m.length w.heap.size) (m++[.mrow x y ks e]) (aJ.alloc (.cells (W++us).toArray e)):=by
  rcases hd with rfl|rfl
  .exact j
  .exact⟨j.os,j.tape,j.output,j.size,j.mlen,j.rho,j.untr,j.fresh,j.old,j.tok,j.row⟩
 have M:Mem.at (m++[.mrow x y ks e]) m.length= .mrow x y ks e:=by rw[AS,vC rfl]
 have ao:(aJ.alloc (.cells (W++us).toArray e)).heap[w.heap.size]? =some (.cells (W++us).toArray e (0,0)):=by
  rw[<-N];exact Cq _ _
 have a8:∀id D b,(Mem.at (m++[.mrow x y ks e]) id).tracked=true->(Mem.at (m++[.mrow x y ks e]) D).tracked=true->CI V m.length w.heap.size id=some b->CI V m.length w.heap.size D=some b->id=D:=by
  intro id D b i K H E;rw[AS] at i K;by_cases q:id=m.length
  .by_cases p:D=m.length
   .omega
   .rw[vA p] at K;subst q;rw[Ap] at H;cases H;rw[Ao _ _ _ p] at E;have:=z.lt K E;omega
  .rw[vA q] at i;rw[Ao _ _ _ q] at H;by_cases p:D=m.length
   .subst p;rw[Ap] at E;cases E;have:=z.lt i H;omega
   .rw[vA p] at K;rw[Ao _ _ _ p] at E;exact z.inj id D b i K H E
 refine⟨_,aa,⟨fun id=>?_,a8,fun b off h=>z.fr b off (t8 aa.size h)⟩,⟨hy,by rw[M];exact (fun h=>by cases h)⟩,l.length,some ⟨w.heap.size,0,none⟩,I,ag,⟨by omega,by omega⟩,by simp,⟨by omega,fun _=>⟨_,rfl⟩⟩,fun aA ah e' p=>?_⟩
 .by_cases q:id=m.length
  .subst q;rw[M];exact⟨⟨A,hy⟩,_,hT,ag,⟨hk,bc⟩,.inr ⟨w.heap.size,W,us,Ap _ _ _,ao,Ab.mono (fun _ _ h=>aa.safe0 h) hv,fun off=>z.fr _ off (tY _)⟩⟩
  .by_cases i:(m.at id).tracked=true
   .refine BJ.step aa z bi (by rw[AS,vA q]) (Ao _ _ _ q) (fun b hb=>?_);have:=z.lt i hb;rw[BB _ _ _ (by rw[N];exact this),N]
   .rw[AS,vA q];cases A:m.at id with
    |pad=>trivial
    |gone=>trivial
    |cells=>rw[A] at i;exact absurd rfl i
    |lp=>rw[A] at i;exact absurd rfl i
    |tok=>rw[A] at i;exact absurd rfl i
    |mrow=>rw[A] at i;exact absurd rfl i
    |mapb=>rw[A] at i;exact absurd rfl i
 .rw[M] at p;cases p;exact .inr ⟨w.heap.size,_,Ap _ _ _,rfl,ao,by simpa using bj⟩
theorem ZC (E:AG T n V m w){x:Nat}(q:x < ak)(hy:y < ak)(bc:n<=ak){ks:List Kd}{a:Option Addr}(bb:ks≠[])(hT:T x= .list [])(K:T y= .int 0):
  ∃ ab,AH T n V m w ab (m++[.mrow x y ks e]) w/\AG T ak ab (m++[.mrow x y ks e]) w/\AA T ak ab (m++[.mrow x y ks e]) w (.mr m.length y) (.slice a 0 0):=by
 let ab:Nat->Option Nat:=fun j=>if j=m.length then none else V j
 have same: ab m.length=none:=by simp[ab]
 have z:∀j,j≠m.length-> ab j= V j:=fun j h=>by simp[ab,h]
 have A:m.at m.length= .pad:=Mem.at_ge (tY _);have aa:AH T n V m w ab (m++[.mrow x y ks e]) w:={
  os:=rfl
  tape:=rfl
  output:=rfl
  size:=tY _
  mlen:=fun id h=>by rw[AS];split<;>first|exact (fun h=>by cases h)|exact h
  rho:=fun id h=>by
   have:id≠m.length:=fun e=>by subst e;exact BI h A
   rw[AS,vA this];grind
  untr:=fun id h i=>by
   have:id≠m.length:=fun e=>by subst e;exact h A
   rw[AS,vA this] at i;exact i
  fresh:=fun id b h i H=>by
   by_cases e:id=m.length
   .grind
   .rw[AS,vA e,h] at i;cases i
  old:=fun k hk _=>rfl
  tok:=fun id y ky e h=>by
   have:id≠m.length:=fun e=>by subst e;rw[A] at h;cases h
   exact .inl ⟨by rw[AS,vA this];exact h,z _ this,fun b N=>rfl⟩
  row:=fun id aA aS ky e h=>by
   have:id≠m.length:=fun e=>by subst e;rw[A] at h;cases h
   exact .inr ⟨aA,aS,ky,by rw[AS,vA this];exact h,rfl,.inl ⟨rfl,z _ this,fun b W N hv=>⟨W,hv,rfl⟩⟩⟩ }
 have M:Mem.at (m++[.mrow x y ks e]) m.length= .mrow x y ks e:=by rw[AS,vC rfl]
 refine⟨ab,aa,⟨fun id=>?_,fun id a3 b i ao H ag=>?_,fun b off h=>E.fr b off h⟩,⟨hy,by rw[M];exact (fun h=>by cases h)⟩,0,a,0,K,⟨by omega,by omega⟩,rfl,⟨by omega,fun h=>by omega⟩,fun aA ah e' D=> .inl ⟨same,rfl⟩⟩
 .by_cases p:id=m.length
  .subst p;rw[M];exact⟨⟨q,hy⟩,_,hT,K,⟨uQ _,bb⟩,.inl ⟨same,rfl⟩⟩
  .by_cases i:(m.at id).tracked=true
   .exact BJ.step aa E bc (by rw[AS,vA p]) (z _ p) (fun b N=>rfl)
   .rw[AS,vA p];cases q:m.at id with
    |pad=>trivial
    |gone=>trivial
    |cells=>rw[q] at i;exact absurd rfl i
    |lp=>rw[q] at i;exact absurd rfl i
    |tok=>rw[q] at i;exact absurd rfl i
    |mrow=>rw[q] at i;exact absurd rfl i
    |mapb=>rw[q] at i;exact absurd rfl i
 .by_cases p:id=m.length
  .grind
  .by_cases D:a3=m.length
   .grind
   .rw[AS,vA p] at i;rw[AS,vA D] at ao;rw[z _ p] at H;rw[z _ D] at ag;exact E.inj id a3 b i ao H ag
theorem Kl {ks:List Kd}(h:NX P e=some ks):∃i z l,P.info? e=some i/\i.zero=some z/\(Iu z).cellsOf=some l/\l.length=i.size/\0 < i.size/\ks=l.map (fun c=>(BY c).1)/\ks≠[]:=by
 unfold NX at h;simp only[tX,tU] at h;obtain⟨i,Y,z,q,l,p,h⟩:=h;split at h
 .rename_i j;cases h;refine⟨i,z,l,Y,q,p,j.1,j.2,rfl,fun h=>?_⟩;have O:l.length=0:=by simpa using vD List.length h
  grind
 .cases h
theorem Ry {ks:List Kd}{us:List Ex}(h:New T g.n ((Ga ks e m g).us++us)):T g.n= .list []/\T (g.n+1)= .int 0:=by
 refine⟨by rw[h.left.head];rfl,?_⟩;have:=h 1 ⟨ "id",oId,[.c (.int 0)]⟩ rfl;rw[this];rfl
theorem PN {len:Nat}{parts:Array (Nat × Operand)}(h:Hk P t len parts.size m g=some r)(D:New T g.n r.us)(q:AG T g.n V m w)
  (H:o.op= .buildSlice t len parts):BM T g V m w ((execOp a.eval o).run P w) r:=by
 unfold Hk at h;split at h
 .rename_i e N;split at h
  .rename_i j;obtain⟨rfl,K⟩:=j;simp only[uC] at h;obtain⟨ks,p,h⟩:=h;subst h;obtain⟨i,z,l,Y,hz,hl,a1,a3,_,A⟩:=Kl p;have M:parts= #[]:=Array.eq_empty_of_size_eq_zero K;subst M;obtain⟨C,O⟩:=Ry (us:=[]) (by simpa using D);obtain⟨ab,W,E,k3⟩:=Zb (e:=e) (ak:=g.n+2) (x:=g.n) (y:=g.n+1) (us:=[]) q (by omega) (by omega) (by omega) A (Ab.nil _ _) (uQ _) C O (.inl rfl) (I:=0) (uQ _) (by simp);refine⟨_,_, ab,.inl ?_,W,E,k3⟩;simp[execOp,H,Instr.buildSlice,run_underlying N,BN Y,Instr.fill,newRow];grind
  .cases h
 .cases h
theorem Q7 (h:P.underlying t=some (.slice e))(v:Value)(ap Y a2:Option Value):(Instr.sliceAt t v ap Y a2).run P w=(Instr.slice t v ap Y a2).run P w:=by
 simp only[Instr.sliceAt,ua,run_underlying h,uZ]
theorem Wl (h:Nk P t x ap Y a2 m g=some r)(W:New T g.n r.us)(K:AG T g.n V m w)(hx:AA T g.n V m w x v)
  (H:Nr T g.n V m w ap Q) (A:AA T g.n V m w Y aT) (M:AA T g.n V m w a2 a9):
  ∃z ab,(Instr.sliceAt t v Q (some aT) (some a9)).run P w= .ok z w/\AH T g.n V m w ab r.m w/\AG T (g.n+r.us.length) ab r.m w/\AA T (g.n+r.us.length) ab r.m w r.c z:=by
 unfold Nk at h;split at h
 .rename_i e k n0 j;split at h
  .rename_i q;obtain⟨p,rfl,ag⟩:=q;have:=AC.beq_eq _ _ p;subst this;simp only[uC] at h;obtain⟨ks,D,h⟩:=h;subst h;obtain⟨i,z,l,Y,hz,hl,bc,bi,_,N⟩:=Kl D;obtain⟨C,O⟩:=Ry (us:=[]) (by simpa using W);obtain⟨⟨kx,rx⟩,ao⟩:=Option.isSome_iff_exists.1 ag;obtain⟨l0,_,_,_,a,I,rfl,a8,_⟩:=FR ao hx;obtain rfl:Q=none:=H;obtain rfl:aT= .int k 0:=A;obtain rfl:a9= .int k 0:=M;obtain⟨ab,k1,E,k3⟩:=ZC (e:=e) (ak:=g.n+2) (x:=g.n) (y:=g.n+1) (a:=a) K (by omega) (by omega) (by omega) N C O;refine⟨_, ab,?_,k1,E,k3⟩;rw[Q7 j];simp[Instr.slice,run_underlying j,Instr.sliceBounds,Dh,BN Y]
  .cases h
 .cases h
theorem RG {ar:Array TypeId}{s:AC}{u:Value}(h:LL P ar s x m g=some r)(A:New T g.n r.us)(ao:∀q∈r.ps,q.holds T)(p:AG T g.n V m w)(aa:AA T g.n V m w s v)(hx:AA T g.n V m w x u)(aR:TypeId):
  ∃z Z ab,(Builtin.append_ ar aR #[v,u]).run P w= .ok z Z/\AH T g.n V m w ab r.m Z/\AG T (g.n+r.us.length) ab r.m Z/\AA T (g.n+r.us.length) ab r.m Z r.c z:=by
 unfold LL at h;simp only[tX,tU] at h;obtain⟨t,b0,h⟩:=h;split at h
 .rename_i e hu;simp only[tU] at h;obtain⟨ks,W,⟨E,aE⟩,a1,H,M,h⟩:=h;cases h;obtain⟨i,z,l,Y,hz,hl,bt,bx,_,ag⟩:=Kl W;obtain⟨C,O⟩:=Ry A;have hv:v= .slice none 0 0:=aa;subst hv;obtain⟨K,D,bb,k3⟩:=ZC (e:=e) (ak:=g.n+2) (x:=g.n) (y:=g.n+1) (a:=none) p (by omega) (by omega) (by omega) ag C O;have a8:AA T (g.n+2) K (m++[.mrow g.n (g.n+1) ks e]) w x u:=AA.mono0 D (by omega) _ _ hx;obtain⟨z',Z, ab,q1,q2,q3,q4⟩:=Ru (g:={ g with n:=g.n+2 }) (T:=T) (V := K) (w:=w) M (fun j u N=>by
   have:=A (j+2) u (by simpa [Ga] using N);rwa [show g.n+(j+2)=g.n+2+j by omega] at this) ao bb k3 (Hy (FR a1 a8)) aR
  have en:g.n+((Ga ks e m g).us++H.us).length=g.n+2+H.us.length:=by simp[Ga];omega
  refine⟨z',Z, ab,q1,D.trans p (show g.n<=g.n+2 by omega) q2,?_,?_⟩
  .grind
  .grind
 .cases h
theorem hG (h:Ud P t x ap Y a2 m g=some r)(bj:New T g.n r.us)(bl:∀q∈r.ps,q.holds T)(N:AG T g.n V m w)(hx:AA T g.n V m w x v)
  (ca:Nr T g.n V m w ap Q) (bb:AA T g.n V m w Y aT) (cb:AA T g.n V m w a2 a9):
  ∃z ab,(Instr.sliceAt t v Q (some aT) (some a9)).run P w= .ok z w/\AH T g.n V m w ab r.m w/\AG T (g.n+r.us.length) ab r.m w/\AA T (g.n+r.us.length) ab r.m w r.c z:=by
 unfold Ud at h;split at h
 .rename_i e W;simp only[tX,tU] at h;obtain⟨i,bc,⟨k,X,C,rb⟩,hb,h⟩:=h;simp only at h;split at h
  .rename_i b4;have:=AC.beq_eq _ _ b4;subst this;obtain rfl:Q=none:=ca;obtain⟨j,rfl,E,_,_⟩:=Bg hb bb;obtain⟨j',rfl,ao,_,_⟩:=Bg hb cb;obtain rfl:j=j':=by rw[E] at ao;exact U.int.inj ao
   rw[Q7 W];split at h
   .rename_i k' n0;split at h
    .rename_i hn;subst hn;cases h;obtain rfl:v= .slice none 0 0:=hx;have:Value.int k j= .int k' 0:=bb;cases this;refine⟨.slice none 0 0, V,?_,AH.refl _ _ _ _ _,N,rfl⟩;simp[Instr.slice,run_underlying W,Instr.sliceBounds,Dh,BN bc]
    .cases h
   .rename_i x Y _ _;simp only[tU] at h;obtain⟨⟨ks,r0⟩,ch,h⟩:=h;simp only at h;split at h
    .rename_i hc;obtain⟨bs,c4⟩:=hc;have ce:ks≠[]:=fun h=>by rw[h] at bs;simp at bs;omega
     obtain⟨l,H,c3,hk,a,I,rfl,c0,h3⟩:=FR ch hx;have a8:∀(p:(⟨ "take",KM,[r0,rb]⟩:Pr).holds T),(Instr.slice t (.slice a l.length I) none (some (.int k j)) (some (.int k j))).run P w= .ok (.slice a (l.take j.toNat).length (l.take j.toNat).length) w/\(0<=j/\j<=l.length):=by
      intro p;simp only[Pr.holds,KM,u0,u1,tx,uW,H,E,U.toL,U.toI] at p;refine⟨?_,p⟩;have M:(l.take j.toNat).length=j.toNat:=by rw[uX];omega
      rw[M];have b1:(Instr.sliceBound (.int k j) I .slice3Acap).run P w= .ok j.toNat w:=Dh p.1 (by omega);have b2:(Instr.sliceBound (.int k j) j.toNat .slice3B).run P w= .ok j.toNat w:=Dh p.1 (by omega);simp only[Instr.slice,ua,run_underlying W,uZ,Instr.sliceBounds,b1,b2,uh,BN bc,if_true,Nat.sub_zero,Nat.zero_mul];split
      .rfl
      .obtain⟨b,o,rfl,_⟩:=h3 (by omega);simp[B8]
     have bi:∀(D:0<=j/\j<=l.length),AT (AY T V m w) w (.list ks) (.list (l.take j.toNat)) (.slice a (l.take j.toNat).length (l.take j.toNat).length):=by
      intro D;have M:(l.take j.toNat).length=j.toNat:=by rw[uX];omega
      refine⟨_,rfl,by rw[M];omega,fun h=>absurd h ce,a,_,rfl,tY _,fun p=>?_⟩;grind
     split at h
     .rename_i id y kv _;split at h
      .rename_i aS c7 e' b7;split at h
       .rename_i b6;obtain⟨⟨rfl,rfl⟩,b8⟩:=b6;have:=Kd.beqs_eq _ _ b8;subst this;cases h;obtain⟨bm,D⟩:=a8 (bl _ (uT.2 rfl));have A:T g.n= .list (l.take j.toNat):=by
         rw[bj.head];simp[Ex.eval,O0,u0,u1,H,E,U.toL,U.toI]
        obtain⟨c5,cf,_,_⟩:=hx;let ab:Nat->Option Nat:=fun q=>if q=id then none else V q
        have same: ab id=none:=by simp[ab]
        have cl:∀q,q≠id-> ab q= V q:=fun q h=>by simp[ab,h]
        obtain⟨K,f2⟩:=Qv (ab:= ab) (Z:=w) (ak:=g.n+1) (ks:=ks) N (by omega) b7 cl rfl rfl rfl (tY _) (fun _ _ _=>rfl) (fun _ _ _ _=>rfl) (fun b' a5=>by rw[same] at a5;cases a5) A (.inl same);have b3:Mem.at (m.set id (.tok g.n ks e)) id= .tok g.n ks e:=by rw[Dn m id _ id cf,vC rfl]
        refine⟨_, ab,bm,K,f2,by simp,by rw[b3];exact (fun h=>by cases h),?_,fun c6 cx c1=> .inl ⟨same,a,by rw[A];rfl⟩⟩;rw[A];exact AT.mono (fun _ _ aa=>K.safe0 aa) _ _ _ (bi D)
       .cases h
      .cases h
     .cases h;obtain⟨bm,D⟩:=a8 (bl _ (uT.2 rfl));have A:T g.n= .list (l.take j.toNat):=by
       rw[bj.head];simp[Ex.eval,O0,u0,u1,H,E,U.toL,U.toI]
      obtain⟨ab,K,f2,f3⟩:=YS (ak:=g.n+1) (e:=e) (ks:=ks) N (by omega) A (bi D);grind
    .cases h
  .cases h
 .cases h
theorem Vy (A:List Value)(i:0 < A.length):∀n:Nat,(List.range (n*A.length)).map (fun x=>A.toArray[x % A.toArray.size]!)=(List.replicate n A).flatten
 |0=>by simp
 |n+1=>by
  have j:=Vy A i n;rw[show (n+1)*A.length=A.length+n*A.length by rw[uL];omega,List.range_add,ti,List.map_map,List.replicate_succ,vF,<-j];congr 1
  .apply List.ext_getElem?;intro k;rw[uP];by_cases h:k < A.length
   .rw[List.getElem?_range h];simp[Nat.mod_eq_of_lt h,h]
   .rw[uO (by simp;omega),uO (by omega)];rfl
  .apply List.map_congr_left;intro x _;simp
theorem A7.rep {ok:Nat->Nat->Prop}{ks:List Kd}{us:List U}{W:List Value}(h:AP ok w ks us W):∀n:Nat,A7 ok w ks (List.replicate n us) (List.replicate n W)
 |0=>rfl
 |n+1=>⟨W,List.replicate n W,rfl,h,A7.rep h n⟩
theorem bV {x y:Operand}{aD D:AC}(h:Rz P t aD D m g=some r)(ag:New T g.n r.us)(b3:∀q∈r.ps,q.holds T)(hm:AG T g.n V m w)
  (ho:o.op= .makeSlice t x y) (hx:AA T g.n V m w aD (a.eval x)) (hy:AA T g.n V m w D (a.eval y)):BM T g V m w ((execOp a.eval o).run P w) r:=by
 unfold Rz at h;split at h
 .rename_i e hu;simp only[tX,tU] at h;obtain⟨i,Y,z,hz,⟨k,l0,p,aI⟩,N,l,hl,h⟩:=h;simp only at h;split at h
  .rename_i hc;obtain⟨bi,rfl,cs,W,a3,cj⟩:=hc;cases h;obtain rfl:aD=D:=AC.beq_eq _ _ bi;obtain⟨n,en,j,_,_⟩:=Bg N hx;obtain⟨ak,a8,H,_,_⟩:=Bg N hy;obtain rfl:n=ak:=by rw[j] at H;injection H
   have hp:=b3 _ (uT.2 rfl);simp only[Pr.holds,Du,tx,uW,u0,j,U.toI] at hp;obtain⟨p0,p1⟩:=hp;have hT:T g.n= .list (List.replicate n.toNat (l.map fun c=>(BY c).2.eval T)):=by
    rw[ag.head];simp[Ex.eval,pB,u0,j,U.toI,List.map_map]
   have bc:T (g.n+1)= .int (List.replicate n.toNat (l.map fun c=>(BY c).2.eval T)).length:=by
    have:=ag 1 ⟨ "id",oId,[aI]⟩ rfl;rw[this];simp[Ex.eval,oId,u0,j];omega
   have hw:IntKind.i64.wrap n=n:=by
    exact EX .i64 n (by rw[show IntKind.i64.min= -9223372036854775808 from rfl];omega) (by rw[show IntKind.i64.max=9223372036854775807 from rfl];omega)
   have cl:i.bytes*n<=2 ^ 48:=by
    have:(i.bytes:Int)*n<=1024*68719476736:=Int.mul_le_mul (by omega) p1 p0 (by decide);omega
   obtain⟨A,z1,z2,z3,z4⟩:=CP hl (Hb (T:=T) (n:=g.n) (V := V) (m:=m) (w:=w) z);have cv:A.length=i.size:=by rw[z1] at a3;simpa using a3
   have b4:(execOp a.eval o).run P w= .ok (.value (.slice (some ⟨w.heap.size,0,none⟩) n.toNat n.toNat)) (w.alloc (.cells (List.replicate n.toNat A).flatten.toArray e)):=by
    have b5:(typeInfo e).run P w= .ok i w:=by simp[typeInfo,Y]
    have bl:¬(i.bytes*n > 2 ^ 48):=by omega
    have bm:¬(n < 0):=by omega
    simp only[execOp,ho,Instr.makeSlice,ua,run_underlying hu,uZ,asInt,asIntOf,en,a8,uh,b5,hw,bl,bm,decide_false,Bool.or_self,uE,gt_iff_lt,Int.lt_irrefl,if_false,run_askRoom,BN Y];by_cases p:n.toNat*i.size=0
    .have b0:n.toNat=0:=by rcases Nat.mul_eq_zero.1 p with h|h<;>omega
     simp only[p,if_true,uh,uZ,newRow,b0];simp;grind
    .have hr:=Vy A (by omega) n.toNat;have he:(Array.range (n.toNat*i.size)).map (fun x=>z.cells[x % z.cells.size]!)=(List.replicate n.toNat A).flatten.toArray:=by
      grind
     simp only[p,if_false,ua,HI Y hz,uh,uZ,newRow,he];simp
   have b1:(l.map fun c=>(BY c).1)≠[]:=fun h=>by rw[h] at W;simp at W;omega
   have a1:Ab (AY T V m w) w (l.map fun c=>(BY c).1) (List.replicate n.toNat (l.map fun c=>(BY c).2.eval T)) (List.replicate n.toNat A).flatten:=⟨_,rfl,A7.rep (AP.ofC z3 z2) _⟩;obtain⟨ab,K,M,E⟩:=Zb (e:=e) (ak:=g.n+2) (x:=g.n) (y:=g.n+1) (us:=[]) hm (by omega) (by omega) (by omega) b1 a1 (by simp[AD];omega) hT bc (.inl rfl) (I:=n.toNat) (by simp) (by rw[uj,a1.len];simp);rw[uj] at K M E;rw[List.length_replicate] at E;exact⟨_,_, ab,.inl b4,K,M,E⟩
  .cases h
 .cases h
theorem Qh.flat:∀{i:List (List AC)} {aH:List (List Value)},Qh T n V m w i aH->AB T n V m w i.flatten aH.flatten
 |[],_,h=>by rw[show _=[] from h];exact rfl
 |l::i,_,⟨W,vss',e,_,O,h3⟩=>by subst e;exact O.append h3.flat
theorem Uf {len:Nat}{az:Operand->AC}{parts:Array (Nat × Operand)}(h:M0 P t len (parts.toList.map fun (i,x)=>(i,az x)) m=some r)(hm:AG T g.n V m w)
  (ho:o.op= .buildSlice t len parts) (b1:∀x,AA T g.n V m w (az x) (a.eval x)):BM T g V m w ((execOp a.eval o).run P w) r:=by
 unfold M0 at h;split at h
 .rename_i e hu;simp only[tX,tU] at h;obtain⟨i,Y,z,hz,h⟩:=h;split at h
  .rename_i hc;obtain⟨q,c0,cy,cv⟩:=hc;have q:=Fx _ _ q;simp only[tU] at h;obtain⟨D,ag,h⟩:=h;split at h
   .rename_i bt;cases h;have b4:((parts.toList.map fun (p:Nat × Operand)=>(az p.2,a.eval p.2))).mapM (fun p=>p.1.cellsOf)=some D:=by
     rw[List.mapM_map] at ag⊢;exact ag
    obtain⟨aH,f1,M,f3,f4⟩:=dC (T:=T) (n:=g.n) (V := V) (m:=m) (w:=w) (by
     intro p hp;simp only[vG] at hp;obtain⟨p',_,rfl⟩:=hp;exact b1 p'.2) b4
    simp only[List.length_map] at M;have ao:parts.toList.length=len:=by
     have:=vD List.length q;simpa using this
    have b5:D.length=len:=by
     have:=(ER _ _ _ ag).1;simpa [ao] using this
    have cx:∀l∈D,l.length=i.size:=fun l hl=>by simpa using uK.1 bt l hl
    have ce:∀v∈aH,v.length=i.size:=by
     intro v hv;obtain⟨j,hj⟩:=List.getElem?_of_mem hv;have N:j < D.length:=by rw[b5,<-ao,<-M];exact (tc.1 hj).1
     rw[f4 j _ v (tZ N) hj];grind
    have ch:∀A:Array Value,((Array.range (len*i.size)).map (fun x=>A[x % A.size]!)).toList.length=(0+aH.length)*i.size:=by
     grind
    have b2:∀A:Array Value,Instr.fill (fun j=>some (j*i.size,i.size)) ((Array.range (len*i.size)).map (fun x=>A[x % A.size]!)) (parts.map fun (j,x)=>(j,a.eval x)).toList=some aH.flatten.toArray:=by
     intro A;have:=PS i.size (parts.map fun (j,x)=>(j,a.eval x)).toList aH 0 ((Array.range (len*i.size)).map (fun x=>A[x % A.size]!)).toList (by simp[M]) (fun j k v W H q2=>by
      simp only[Array.toList_map,uP,uC] at H;obtain⟨⟨p1,p2⟩,K,e2⟩:=H;cases e2;refine⟨?_,f3 j (az p2,a.eval p2) W (by simp only[uP,K,uy]) q2⟩;have e3:(parts.toList.map fun (p:Nat × Operand)=>(p.1,az p.2)).map (·.1)=parts.toList.map (·.1):=by simp
      have e4:=q;rw[e3] at e4;have e5:(parts.toList.map (·.1))[j]? =some p1:=by simp only[uP,K,uy]
      rw[e4] at e5;have N:j < len:=by rw[<-ao];exact (tc.1 K).1
      simp[N] at e5;omega) ce (ch A)
     rw[Array.toArray_toList] at this;rw[this];simp
    have ca:¬(len*i.size=0):=by
     intro h;rcases Nat.mul_eq_zero.1 h with h|h<;>omega
    have b8:(execOp a.eval o).run P w= .ok (.value (.slice (some ⟨w.heap.size,0,none⟩) len len)) (w.alloc (.cells aH.flatten.toArray e)):=by
     have hb:¬(len*i.size > 2 ^ 24):=by omega
     simp only[execOp,ho,Instr.buildSlice,ua,run_underlying hu,uZ,BN Y,Sem.run_ite,hb,if_false,ca,HI Y hz,uh,b2];simp[newRow]
    obtain⟨k1,E,k3⟩:=Q8 hm f1.flat e;obtain⟨b,H,q2,q3⟩:=k3;refine⟨_,_,_,.inl b8,k1,E,b,H,?_,q3⟩;cases q2;rfl
   .cases h
  .cases h
 .cases h
end
theorem kZ (a b:ByteArray):(a==b)=decide (a=b):=by
 cases a with|mk a=>cases b with|mk b=>
 show (a==b)=_;grind
section
variable {P:Program}{w:World}
theorem jj {d:Nat}{t:TypeId}{ks:List Ek}(h:Bo P d t=some ks):∃i,P.info? t=some i:=by
 cases Y:P.info? t with
 |some i=>exact⟨i,rfl⟩
 |none=>
  cases d with
  |zero=>cases h
  |succ d=>simp[Bo,Program.underlying,Y] at h
theorem Iy (A:Bool):∀(d D:Nat) (t:TypeId) (ks:List Ek) (us:List Value),d<=D->Bo P d t=some ks->us.length=ks.length->
  (Instr.checkKey A D t (Aw P t us)).run P w= .ok () w
 |0,_,_,_,_,_,h,_=>by cases h
 |d+1,0,_,_,_,hd,_,_=>by omega
 |d+1,D+1,t,ks,us,hd,h,hl=>by
  simp only[Bo] at h;split at h
  .rename_i q;simp[Instr.checkKey,run_underlying q]
  .rename_i k q;simp[Instr.checkKey,run_underlying q]
  .rename_i q;simp[Instr.checkKey,run_underlying q]
  .rename_i fs q;split at h
   .cases h
   .simp only[Aw,q,Instr.checkKey,ua,run_underlying q,uZ];rw[<-Array.forIn_toList];have ag:0+ks.length<=us.length:=by omega
    clear hl;generalize 0=off at h ag;generalize fs.toList=L at h;induction L generalizing off ks with
    |nil=>simp
    |cons f L K=>
     simp only[GO,tX] at h;split at h
     .rename_i hc;simp only[tU] at h;obtain⟨p,C,h⟩:=h;split at h
      .rename_i z;simp only[tU] at h;obtain⟨E,O,h⟩:=h;cases h;simp only[tq] at ag;obtain⟨rfl,hn⟩:=hc;have M:=It (w:=w) C z us f.offset (by omega);have N:=Iy A d D f.type p ((us.drop f.offset).take p.length) (by omega) C (by rw[uX,ue];omega);simp only[List.forIn_cons,ua,hn,ne_eq,not_false_eq_true,if_true,M,uZ,N,uh];exact K E _ (by omega) O
      .cases h
     .cases h
  .rename_i n e q;simp only[tX,tU] at h;obtain⟨p,C,h⟩:=h;split at h
   .rename_i z;cases h;obtain⟨i,Y⟩:=jj C;simp only[Aw,q,Instr.checkKey,ua,run_underlying q,uZ];simp only[Std.Legacy.Range.forIn_eq_forIn_range',Std.Legacy.Range.size,Nat.sub_zero,Nat.add_one_sub_one,Nat.div_one];have hz:i.size=p.length:=by
     have:=z;simp[Program.cellsOf,Y] at this;exact this
    have a8:us.length=n*p.length:=by rw[hl];simp
    have H:∀j∈List.range' 0 n,j < n:=fun j W=>by
     have:=List.mem_range'_1.1 W;omega
    generalize List.range' 0 n=au at H;induction au with
    |nil=>simp
    |cons j au K=>
     have W:=H j (by simp);have b:j*p.length+p.length<=us.length:=by
      have:(j+1)*p.length<=n*p.length:=uG _ (by omega);rw[uL,Nat.one_mul] at this;omega
     have M:=It (w:=w) C z us (j*p.length) b;have N:=Iy A d D e p ((us.drop (j*p.length)).take p.length) (by omega) C (by rw[uX,ue];omega);simp only[List.forIn_cons,ua,run_sizeOf w Y,z,uZ,M,N,uh];exact K fun y hy=>H y (by simp[hy])
   .cases h
  .cases h
def IK (G:Nat)(k:List U):List MapEntry->List (List U)->Nat->Option (Nat × Value)
 |e::aw,r::l,i=>bif BX (r.take G) k then some (i,e.val) else IK G k aw l (i+1)
 |_,_,_=>none
theorem Vm {G:Nat}{k:List U}:∀{aw:List MapEntry} {l:List (List U)} (i:Nat),aw.length=l.length->IK G k aw l i=(aw[Ah G l k]?).map fun e=>(i+Ah G l k,e.val)
 |[],[],i,_=>rfl
 |e::aw,r::l,i,h=>by
  simp only[IK,Ah,List.findIdx_cons];cases p:BX (r.take G) k with
  |true=>simp
  |false=>
   have j:=Vm (G:=G) (k:=k) (aw:=aw) (l:=l) (i+1) (by simpa using h);simp only[cond_false];rw[j];simp only[Ah,List.getElem?_cons_succ];congr 1;funext e;rw[show i+1+List.findIdx (fun r=>BX (List.take G r) k) l=i+(List.findIdx (fun r=>BX (List.take G r) k) l+1) by omega]
 |[],_::_,_,h=>by simp at h
 |_::_,[],_,h=>by simp at h
def Mg (P:Program)(h:TypeId)(ks:List Ek)(G:Nat)(i:List Value)(k:List U):List MapEntry->List (List U)->Prop
 |[],[]=>True
 |e::aw,r::l=>(∃az,e.key=Aw P h az/\KE ks i az (BX (r.take G) k))/\Mg P h ks G i k aw l
 |_,_=>False
theorem Mg.len {i:TypeId}{ks:List Ek}{G:Nat}{j:List Value}{k:List U}:∀{aw:List MapEntry} {l:List (List U)},Mg P i ks G j k aw l->aw.length=l.length
 |[],[],_=>rfl
 |_::_,_::_,h=>by simp[Mg.len h.2]
 |[],_::_,h=>h.elim
 |_::_,[],h=>h.elim
theorem dp {h:TypeId}{ks:List Ek}{us W:List Value}{q:Bool}(i:Bo P 12 h=some ks)(j:KE ks us W q):(Op.equal h (Aw P h us) (Aw P h W)).run P w= .ok q w:=
 KT 12 _ h ks us W q (by decide) i j
theorem PP {j:TypeId}{ks:List Ek}{G:Nat}{q:List Value}{k:List U}(p:Bo P 12 j=some ks):∀{aw:List MapEntry} {l:List (List U)} (i:Nat),Mg P j ks G q k aw l->
  (Instr.findAsking j (Aw P j q) aw i).run P w= .ok (IK G k aw l i) w
 |[],[],i,_=>by simp[Instr.findAsking,IK]
 |e::aw,r::l,i,h=>by
  obtain⟨⟨az,C,O⟩,z⟩:=h;simp only[Instr.findAsking,ua,C,dp p O,uZ,IK];cases BX (r.take G) k with
  |true=>simp
  |false=>
   simp only[uE,if_false,cond_false];exact PP p (i+1) z
 |[],_::_,_,h=>h.elim
 |_::_,[],_,h=>h.elim
theorem So {A:TypeId}{ks:List Ek}{G:Nat}{D:List Value}{k:List U}{kd:TypeDesc}(z:Bo P 12 A=some ks)(p:P.underlying A=some kd):∀{aw:List MapEntry} {l:List (List U)} (i:Nat),Mg P A ks G D k aw l->
  Instr.findNow kd (Aw P A D) aw i=some (IK G k aw l i)\/Instr.findNow kd (Aw P A D) aw i=none
 |[],[],i,_=> .inl rfl
 |e::aw,r::l,i,h=>by
  obtain⟨⟨az,C,O⟩,E⟩:=h;have H:=So z p (i+1) E;have aa:Instr.sameNow kd (Aw P A D) e.key=some (BX (r.take G) k)\/Instr.sameNow kd (Aw P A D) e.key=none:=by
   rw[C];simp only[Bo] at z;split at z
   .rename_i j;rw[j] at p;cases p;cases z;generalize BX (r.take G) k=q at O;cases O with
    |bool a b O=>cases O;left;simp[Aw,j,Instr.sameNow]
   .rename_i ai j;rw[j] at p;cases p;cases z;generalize BX (r.take G) k=q at O;cases O with
    |int M a b O=>cases O;left;simp[Aw,j,Instr.sameNow]
   .rename_i j;rw[j] at p;cases p;cases z;generalize BX (r.take G) k=q at O;cases O with
    |str a b O=>
     cases O;left;simp only[Aw,j,List.headD_cons,Instr.sameNow,Bool.and_true,kZ]
   .rename_i K j;rw[j] at p;cases p;right;rfl
   .rename_i n e j;rw[j] at p;cases p;right;rfl
   .cases z
  rcases aa with aa|aa
  .simp only[Instr.findNow,aa,IK];cases BX (r.take G) k with
   |true=>left;rfl
   |false=>exact H
  .right;simp only[Instr.findNow,aa]
 |[],_::_,_,h=>h.elim
 |_::_,[],_,h=>h.elim
theorem Sp {i:TypeId}{ks:List Ek}{G:Nat}{q:List Value}{k:List U}(p:Bo P 12 i=some ks){aw:List MapEntry}{l:List (List U)}(h:Mg P i ks G q k aw l):
  (Instr.findKey i (Aw P i q) aw).run P w= .ok ((aw[Ah G l k]?).map fun e=>(Ah G l k,e.val)) w:=by
 obtain⟨kd,j⟩:∃kd,P.underlying i=some kd:=by
  cases j:P.underlying i with
  |some kd=>exact⟨kd,rfl⟩
  |none=>simp[Bo,j] at p
 have z:IK G k aw l 0=(aw[Ah G l k]?).map fun e=>(Ah G l k,e.val):=by
  have:=Vm (G:=G) (k:=k) 0 h.len;simpa using this
 rw[<-z];simp only[Instr.findKey,ua,run_underlying j,uZ];rcases So p j 0 h with C|C
 .rw[C];simp
 .rw[C];exact PP p 0 h
theorem KE.same {ks us W q}(h:KE ks us W q):q=true->us=W:=by
 induction h with
 |nil=>exact fun _=>rfl
 |int k a b _ i=>intro h;rw[tV,beq_iff_eq] at h;rw[h.1,i h.2]
 |bool a b _ i=>intro h;rw[tV,beq_iff_eq] at h;rw[h.1,i h.2]
 |str a b _ i=>intro h;rw[tV,decide_eq_true_eq] at h;rw[h.1,i h.2]
theorem KE.bits {ks us W q}(h:KE ks us W q)(n:Nat):∀x∈us,Instr.sameBits n x x=true:=by
 induction h with
 |nil=>simp
 |int k a b _ j=>
  intro x i;rcases List.mem_cons.1 i with rfl|i
  .simp[Instr.sameBits]
  .exact j x i
 |bool a b _ j=>
  intro x i;rcases List.mem_cons.1 i with rfl|i
  .simp[Instr.sameBits]
  .exact j x i
 |str a b _ j=>
  intro x i;rcases List.mem_cons.1 i with rfl|i
  .simp[Instr.sameBits,kZ]
  .exact j x i
theorem nC {z:TypeId}{ks:List Ek}{us W:List Value}(q:Bo P 12 z=some ks)(h:KE ks us W true):(Instr.keyThatStays (Aw P z W) (Aw P z us)).run P w= .ok (Aw P z us) w:=by
 have e:=h.same rfl;subst e;have H:Instr.sameBits 10000 (Aw P z us) (Aw P z us)=true:=by
  have D:Instr.sameBits 10000 (.agg us.toArray) (.agg us.toArray)=true:=by
   have:=h.bits 9999;simp only[Instr.sameBits,beq_self_eq_true,Bool.true_and,uK];intro p j;have M:∀(l:List Value) (p:Value × Value),p∈l.zip l->p.1=p.2/\p.1∈l:=by
    intro l;induction l with
    |nil=>intro p j;simp at j
    |cons a l E=>
     intro p j;simp only[List.zip_cons_cons,List.mem_cons] at j;rcases j with rfl|j
     .exact⟨rfl,by simp⟩
     .exact⟨(E p j).1,th _ (E p j).2⟩
   grind
  simp only[Bo] at q;split at q
  .rename_i i;cases q;have A:=h.length.1
   match us,A with
   |[x],_=>simp only[Aw,i,List.headD_cons];exact h.bits 10000 x (by simp)
  .rename_i k i;cases q;have A:=h.length.1
   match us,A with
   |[x],_=>simp only[Aw,i,List.headD_cons];exact h.bits 10000 x (by simp)
  .rename_i i;cases q;have A:=h.length.1
   match us,A with
   |[x],_=>simp only[Aw,i,List.headD_cons];exact h.bits 10000 x (by simp)
  .rename_i K i;simp only[Aw,i];exact D
  .rename_i n e i;simp only[Aw,i];exact D
  .cases q
 simp[Instr.keyThatStays,H]
end
theorem Xa {T:Tab}{n:Nat}{V :Nat->Option Nat}{m:Mem}{w:World}{k:Kd}{c:AC}{v:Value}{r:Rf}{ps:List Pr}(h:fit k c=some (r,ps))(E:AA T n V m w c v)(z:∀p∈ps,p.holds T):
  AT (AY T V m w) w k (r.eval T) v:=by
 unfold fit at h;cases aa:FG c with
 |none=>rw[aa] at h;cases k<;>cases h
 |some K=>
  obtain⟨q,ax⟩:=K;rw[aa] at h;have base:=HX aa E;have join:(if Kd.beq (Kd.join q k) k&& !k.isAny then some (ax,([]:List Pr)) else none)=some (r,ps)->AT (AY T V m w) w k (r.eval T) v:=by
   intro h;split at h
   .rename_i j;cases h;rw[tV] at j;have:=Kd.join_l q k _ v base;rw[Kd.beq_eq _ _ j.1] at this;exact this
   .cases h
  cases k with
  |int k0 ap Y=>
   cases q with
   |int k' a1 W=>
    simp only at h;split at h
    .rename_i H;subst H;obtain⟨i,C,O,M,N⟩:=base;injection h with h
     injection h with A D
     subst A;subst D;refine⟨i,C,O,?_⟩;split at z
     .rename_i j;exact⟨by omega,by omega⟩
     .have:=z _ (uT.2 rfl);simp only[Pr.holds,Du,tx,uW,u0,C,U.toI] at this;exact this
    .cases h
   |_=>exact join h
  |_=>exact join h
section
variable {P:Program}{T:Tab}{n ak:Nat}{V :Nat->Option Nat}{m:Mem}{w:World}{g:G}{r:R}
variable{a7:Bool}{v F a4:Value}{t:TypeId}{ai:List Kd}{b a6:Nat}{aw:Array MapEntry}{aD ba:AC}
theorem Kc {c:AC}{l:List AC}(h:Ig a7 c=some l)(i:AA T n V m w c v):∃W,AB T n V m w l W/\(if a7 then v= .agg (W:List Value).toArray else W=[v]):=by
 cases a7 with
 |true=>
  cases c<;>simp only[Ig] at h<;>first|(cases h;done)|skip
  cases h;obtain⟨W,C,O⟩:=i;exact⟨W,O,by simpa using C⟩
 |false=>
  have e:l=[c]:=by cases c<;>simp only[Ig] at h<;>first|(cases h;rfl)|cases h
  subst e;exact⟨[v],⟨v,[],rfl,i,rfl⟩,by simp⟩
theorem NJ:∀{ks:List Kd} {l:List AC} {rs:List Rf} {ps:List Pr} {W:List Value},Mw ks l=some (rs,ps)->AB T n V m w l W->(∀p∈ps,p.holds T)->AP (AY T V m w) w ks (rs.map (Rf.eval T)) W
 |[],[],rs,ps,W,h,hl,_=>by
  simp only[Mw] at h;cases h;exact⟨rfl,hl⟩
 |k::ks,c::l,rs,ps,W,h,hl,hp=>by
  simp only[Mw,tX,tU] at h;obtain⟨⟨ax,q⟩,C,⟨aE,z⟩,O,h⟩:=h;cases h;obtain⟨u,us,rfl,j,E⟩:=hl;exact⟨_,_,_,_,rfl,rfl,Xa C j fun p i=>hp p (tz _ i),NJ O E fun p i=>hp p (tp _ i)⟩
 |[],_::_,_,_,_,h,_,_=>by simp[Mw] at h
 |_::_,[],_,_,_,h,_,_=>by simp[Mw] at h
theorem Oy {W:List Value}(h:CB P t=a7)(i:if a7 then v= .agg W.toArray else W=[v]):v=Aw P t W:=by
 subst h;unfold CB at i;unfold Aw;grind
theorem gz {ok M:Nat->Nat->Prop}{Z:World}:∀{ai:List Kd} {ks:List Ek} {us i:List U} {W j:List Value},ai.map K5=ks.map some->AP ok w ai us W->AP M Z ai i j->KE ks W j (BX i us)
 |[],[],us,i,W,j,_,⟨C,O⟩,⟨h3,h4⟩=>by subst C O h3 h4;exact .nil
 |k::ai,e::ks,us,i,W,j,h,⟨u,us1,v,vs1,e1,p,C,O⟩,⟨u',us1',v',vs1',e3,e4,h3,h4⟩=>by
  subst e1 p e3 e4;simp only[tx,List.cons.injEq] at h;have q:=gz h.2 O h4;cases k with
  |int k ap Y=>
   have e:=h.1;simp only[K5,ug] at e;subst e;obtain⟨a,rfl,rfl,_⟩:=C;obtain⟨b,rfl,rfl,_⟩:=h3;have e:(BX (.int b::us1') (.int a::us1))=((a==b)&&BX us1' us1):=by
    simp only[BX,U.eqv];congr 1;by_cases e:a=b
    .rw[e];simp
    .have p:¬b=a:=fun h=>e h.symm;simp[e,p]
   rw[e];exact .int k a b q
  |bool=>
   have e:=h.1;simp only[K5,ug] at e;subst e;obtain⟨a,rfl,rfl⟩:=C;obtain⟨b,rfl,rfl⟩:=h3;have e:(BX (.bool b::us1') (.bool a::us1))=((a==b)&&BX us1' us1):=by
    simp only[BX,U.eqv];congr 1;cases a<;>cases b<;>rfl
   rw[e];exact .bool a b q
  |str=>
   have e:=h.1;simp only[K5,ug] at e;subst e;obtain⟨a,rfl,rfl,_⟩:=C;obtain⟨b,rfl,rfl,_⟩:=h3;have e:(BX (.str b::us1') (.str a::us1))=(decide (a=b)&&BX us1' us1):=by
    simp only[BX,U.eqv];congr 1;by_cases e:a=b
    .simp[e]
    .rw[decide_eq_false e,decide_eq_false fun h=>e h.symm]
   rw[e];exact .str a b q
  |val=>have e:=h.1;simp[K5] at e
  |any=>have e:=h.1;simp[K5] at e
  |list _=>have e:=h.1;simp[K5] at e
 |[],_::_,_,_,_,_,h,_,_=>by simp at h
 |_::_,[],_,_,_,_,h,_,_=>by simp at h
theorem Rm {ok M:Nat->Nat->Prop}{A:TypeId}{ks:List Ek}{ai aN:List Kd}{z aU:Bool}(p:ai.map K5=ks.map some)(j:CB P A=z){D:List U}{E:List Value}(q:AP ok w ai D E):∀{aw:List MapEntry} {l:List (List U)},aw.length=l.length->
  (∀(i:Nat) (us:List U) (e:MapEntry),l[i]? =some us->aw[i]? =some e->∃u1 u2,us=u1++u2/\Bw M w ai z u1 e.key/\Bw M w aN aU u2 e.val)->Mg P A ks ai.length E D aw l
 |[],[],_,_=>trivial
 |e::aw,us::l,hl,h=>by
  refine⟨?_,Rm p j q (by simpa using hl) fun i us e C O=>h (i+1) us e (by simpa using C) (by simpa using O)⟩;obtain⟨u1,u2,rfl,⟨W,O,H⟩,_⟩:=h 0 us e rfl rfl;have K:u1.length=ai.length:=O.len.2;refine⟨W,Oy j H,?_⟩;rw[List.take_left' K];exact gz p q O
 |[],_::_,hl,_=>by simp at hl
 |_::_,[],hl,_=>by simp at hl
theorem Vf {i:TypeId}{j:Bool}(h:PB P i ai j=true):CB P i=j/\∃ks,Bo P 12 i=some ks/\ai.map K5=ks.map some:=by
 unfold PB at h;grind
theorem kT {ks:List Ek}(h:ai.map K5=ks.map some):ks.length=ai.length:=by
 have:=vD List.length h;simpa using this.symm
theorem US (h:w.heap[b]? =some (.map aw a6)):(getObj b).run P w= .ok (.map aw a6) w:=by simp[getObj,Sem.run,h]
theorem Sf (o:Obj)(h:w.heap[b]? =some (.map aw a6)):(setObj b o).run P w= .ok () (w.putObj b o):=by simp[setObj,Sem.run,h,World.putObj]
theorem New.tail {us:List Ex}{u:Ex}(h:New T n (u::us)):New T (n+1) us:=fun j x i=>by
 have:=h (j+1) x (by simpa using i);rw[show n+1+j=n+(j+1) by omega];exact this
theorem WC {x G:Nat}{rs:List Rf}:∀{ks:List Kd} {A:List Rf} {n0 c:Nat},A.length=ks.length->(G2 x G rs n0 c ks A).2.length=ks.length/\(G2 x G rs n0 c ks A).1.length=ks.length
 |[],[],_,_,_=>⟨rfl,rfl⟩
 |k::ks,z::A,n0,c,h=>by
  obtain⟨C,O⟩:=WC (x:=x) (G:=G) (rs:=rs) (ks:=ks) (A:=A) (n0:=n0+1) (c:=c+1) (by simpa using h);simp only[G2,uJ];exact⟨by omega,by omega⟩
 |[],_::_,_,_,h=>by simp at h
 |_::_,[],_,_,h=>by simp at h
theorem Z9 {x G:Nat}{rs:List Rf}{N:Nat}:∀{ks:List Kd} {A:List Rf} {n0 c:Nat} {i:List U} {W:List Value},A.length=ks.length->AP (AY T V m w) w ks i W->New T n0 (G2 x G rs n0 c ks A).2->n0+ks.length<=N->
  (∀(j:Nat) u z,i[j]? =some u->A[j]? =some z->TW G (c+j) (T x::z.eval T::rs.map (Rf.eval T))=u)->AB T N V m w (G2 x G rs n0 c ks A).1 W
 |[],[],_,_,i,W,_,h,_,_,_=>h.2
 |k::ks,z::A,n0,c,i,W,hl,⟨u,us',v,vs',e1,e2,C,O⟩,hn,hN,hg=>by
  subst e1 e2;simp only[G2,uJ] at hn hN⊢;have p:T n0=u:=by
   rw[hn.head];exact (vD (coC (kdC k)) (hg 0 u z rfl rfl)).trans (Yt C)
  refine⟨v,vs',rfl,EY (by omega) (by rw[p];exact C),Z9 (by simpa using hl) O hn.tail (by omega) fun j u z q D=>?_⟩;rw[show c+1+j=c+(j+1) by omega];exact hg (j+1) u z (by simpa using q) (by simpa using D)
 |[],_::_,_,_,_,_,h,_,_,_,_=>by simp at h
 |_::_,[],_,_,_,_,h,_,_,_,_=>by simp at h
theorem eI {ok:Bool}(h:U4 P t aD ba ok m g=some r)(a8:New T g.n r.us)(b7:∀q∈r.ps,q.holds T)(hm:AG T g.n V m w)(hx:AA T g.n V m w aD F)(Y:AA T g.n V m w ba a4):
  ∃z,(Instr.lookup t F a4 ok).run P w= .ok z w/\r.m=m/\AA T (g.n+r.us.length) V m w r.c z:=by
 unfold U4 at h;split at h
 .rename_i kt et id hu;split at h
  .rename_i a2 ai ka aN aU c2;split at h
   .rename_i c4;simp only[tX,tU] at h;obtain⟨kc,c3,⟨rs,ps⟩,cy,i,c1,z,hz,zc,de,⟨A,qs⟩,c0,h⟩:=h;simp only at h;split at h
    .rename_i bb;have bb:qs=[]:=by cases qs with|nil=>rfl|cons _ _=>cases bb
     subst bb;obtain⟨bm,ks,hf,b3⟩:=Vf c4;have c9:r.ps=ps:=by cases ok<;>(simp only[uE,if_true,if_false] at h;cases h;rfl)
     rw[c9] at b7;obtain⟨kv,k1,E⟩:=Kc c3 Y;have kC:=NJ cy k1 b7;have bl:=Oy bm E;obtain⟨zv,z1,z2⟩:=Kc de (Hb (T:=T) (n:=g.n) (V := V) (m:=m) (w:=w) z);have zC:=NJ c0 z1 (fun p hp=>by cases hp);obtain⟨b,c8,rfl,_⟩:=hx;have bs:=hm.blk id;rw[c2] at bs;obtain⟨d8,l,b',aw,a6,hT,b8,hb,a5,d7,bx,_⟩:=bs;rw[c8] at b8;cases b8;have cu:=Rm (P:=P) (w:=w) b3 bm kC a5 bx;have M:=Sp (w:=w) hf cu;have bt:=Iy (P:=P) (w:=w) aw.toArray.isEmpty 12 10000 kt ks kv (by decide) hf (by rw[kT b3];exact kC.len.1);have b1:=US (P:=P) hb;have cc:A.length=aN.length:=by have:=zC.len.2;simpa using this
     have bc:∀(a:U) (dm:List U),u0 (a::dm)=a:=fun _ _=>rfl;obtain⟨ws,W,fv,ag,aJ,w2,w3,w4⟩:∃(ws:List U) (W:List Value) (fv:Value) (b2:Bool),AP (AY T V m w) w aN ws W/\(if aU then fv= .agg W.toArray else W=[fv])/\
       (b2=decide (Ah ai.length l (rs.map (Rf.eval T)) < l.length)/\(Instr.lookup t (.map (some b)) a4 ok).run P w= .ok (if ok then .tuple #[fv,.bool b2] else fv) w)/\
       ∀(j:Nat) u z,ws[j]? =some u->A[j]? =some z->TW ai.length (0+j) (T a2::z.eval T::rs.map (Rf.eval T))=u:=by
      cases D:aw[Ah ai.length l (rs.map (Rf.eval T))]? with
      |some e=>
       have H:Ah ai.length l (rs.map (Rf.eval T)) < l.length:=by rw[<-a5];exact (tc.1 D).1
       have b4:=tZ H;obtain⟨u1,u2,e1,⟨eb,e2,_⟩,dn,e4,e5⟩:=bx _ _ e b4 D;refine⟨u2,dn,e.val,true,e4,e5,⟨(decide_eq_true H).symm,?_⟩,fun j u z q1 q2=>?_⟩
       .rw[D] at M;simp only[Instr.lookup,ua,run_underlying hu,uZ,b1,uh,bl,bt,M,uy]
       .simp only[TW,bc,hT,U.toL,List.drop_succ_cons,List.drop_zero];rw[decide_eq_true H];simp only[cond_true];rw[uD (l:=l),b4,Option.getD_some,e1,uD,tw (by rw[e2.len.2];omega),e2.len.2,show ai.length+(0+j) - ai.length=j by omega,q1];rfl
      |none=>
       have b6:¬Ah ai.length l (rs.map (Rf.eval T)) < l.length:=fun H=>by
        rw[<-a5] at H;rw[tZ H] at D;cases D
       refine⟨A.map (Rf.eval T),zv,z,false,zC,z2,⟨(decide_eq_false b6).symm,?_⟩,fun j u z q1 q2=>?_⟩
       .rw[D] at M;simp only[Instr.lookup,ua,run_underlying hu,uZ,b1,uh,bl,bt,M,Option.map_none,HI c1 hz]
       .simp only[TW,bc,hT,U.toL,List.drop_succ_cons,List.drop_zero];rw[decide_eq_false b6];simp only[cond_false];rw[uP,q2] at q1;exact Option.some.inj q1
     obtain⟨d0,ci⟩:=w3;have b5:=WC (x:=a2) (G:=ai.length) (rs:=rs) (n0:=g.n) (c:=0) cc;have cb:∀N,g.n+aN.length<=N->New T g.n (G2 a2 ai.length rs g.n 0 aN A).2->AA T N V m w (if aU then AC.agg (G2 a2 ai.length rs g.n 0 aN A).1 else (G2 a2 ai.length rs g.n 0 aN A).1.headD .any) fv:=by
      intro N hN hn;have K:=Z9 (N:=N) cc aJ hn hN w4;cases aU with
      |true=>
       simp only[if_true] at w2⊢;exact⟨W,w2,K⟩
      |false=>
       simp only[uE,if_false] at w2⊢;subst w2;generalize (G2 a2 ai.length rs g.n 0 aN A).1=L at K;cases L with
       |nil=>exact absurd K (by simp[AB])
       |cons c L=>
        obtain⟨u,us,e,C,_⟩:=K;cases e;exact C
     cases ok with
     |false=>
      simp only[uE,if_false] at h;cases h;exact⟨fv,ci,rfl,cb _ (by simp only[b5.1];omega) a8⟩
     |true=>
      simp only[if_true] at h;cases h;refine⟨_,ci,rfl,[fv,.bool ag],by simp,⟨fv,[.bool ag],rfl,cb _ (by simp only[tq,b5.1];omega) a8.left,.bool ag,[],rfl,⟨by simp only[tq,uJ,ub];omega,ag,?_,rfl⟩,rfl⟩⟩;rw[a8.right.head,d0];simp only[Ex.eval,ew,tx,bc,Rf.eval,hT,U.toL,List.tail_cons]
    .cases h
   .cases h
  .cases h
 .cases h
theorem cA {a:Act}{o:Oper}(h:SC P t m g=some r)(a1:New T g.n r.us)(q:AG T g.n V m w)(ho:o.op= .makeMap t none):BM T g V m w ((execOp a.eval o).run P w) r:=by
 unfold SC at h;split at h
 .rename_i kt et hu;simp only[tX,tU] at h;obtain⟨ai,_,aN,_,h⟩:=h;cases h;have hT:T g.n= .list []:=by rw[a1.head];rfl
  generalize N:Blk.mapb g.n ai (CB P kt) aN (CB P et)=B;have aa:=IJ (T:=T) q (.map #[] 0) B;have a5:g.n<=g.n+1:=by omega
  have W:Mem.at (m++[B]) m.length=B:=by rw[AS,vC rfl]
  have a3:(w.alloc (.map #[] 0)).heap[w.heap.size]? =some (.map #[] 0):=Cq _ _;refine⟨.map (some w.heap.size),w.alloc (.map #[] 0),CI V m.length w.heap.size,.inl (by simp[execOp,ho,Instr.makeMap]),aa,⟨fun id=>?_,?_,fun b off K=>q.fr b off (t8 aa.size K)⟩,⟨w.heap.size,Ap _ _ _,rfl,by rw[W,<-N];rfl⟩⟩
  .by_cases p:id=m.length
   .subst p;rw[W,<-N];exact⟨by simp,[],w.heap.size,[],0,hT,Ap _ _ _,a3,rfl,by simp,fun i us e C=>by simp at C,0,rfl,fun i e C=>by simp at C⟩
   .by_cases j:(m.at id).tracked=true
    .refine BJ.step aa q a5 (by rw[AS,vA p]) (Ao _ _ _ p) (fun b K=>?_);exact BB _ _ _ (q.lt j K)
    .rw[AS,vA p];cases H:m.at id with
     |pad=>trivial
     |gone=>trivial
     |cells=>rw[H] at j;exact absurd rfl j
     |lp=>rw[H] at j;exact absurd rfl j
     |tok=>rw[H] at j;exact absurd rfl j
     |mrow=>rw[H] at j;exact absurd rfl j
     |mapb=>rw[H] at j;exact absurd rfl j
  .intro id M b j E D A;rw[AS] at j E;by_cases p:id=m.length
   .by_cases z:M=m.length
    .omega
    .rw[vA z] at E;subst p;rw[Ap] at D;cases D;rw[Ao _ _ _ z] at A;have:=q.lt E A;omega
   .rw[vA p] at j;rw[Ao _ _ _ p] at D;by_cases z:M=m.length
    .subst z;rw[Ap] at A;cases A;have:=q.lt j D;omega
    .rw[vA z] at E;rw[Ao _ _ _ z] at A;exact q.inj id M b j E D A
 .cases h
theorem qj {id:Nat}{o:Obj}{B:Blk}(M:B.ptrOk=true)(z:AG T n V m w)(H:(m.at id).ptrOk=true)(A:(m.at id).tracked=true)(K: V id=some b)(a1:n<=ak)
  (bj:AH T n V m w V (m.set id B) (w.putObj b o)->BJ T ak V (m.set id B) (w.putObj b o) id B):AH T n V m w V (m.set id B) (w.putObj b o)/\AG T ak V (m.set id B) (w.putObj b o):=by
 have ao:m.at id≠ .pad:=fun e=>by rw[e] at A;cases A
 have q:=fun j=>Dn m id B j ao;have ag:B≠ .pad:=fun e=>by rw[e] at M;cases M
 have aa:AH T n V m w V (m.set id B) (w.putObj b o):={
  os:=rfl
  tape:=rfl
  output:=rfl
  size:=by simp
  mlen:=fun j h=>by rw[q j];split<;>first|exact ag|exact h
  rho:=fun j h=>by rw[q j];split<;>first|exact⟨rfl,M⟩|exact⟨rfl,h⟩
  untr:=fun j h i=>by
   grind
  fresh:=fun j c h i bl=>by
   rw[q j] at i;split at i
   .grind
   .rw[h] at i;cases i
  old:=fun k hk a3=>World.putObj_heap_other (fun e=>a3 id A (by rw[e];exact K))
  tok:=fun j x ks e h=>by
   have p:j≠id:=fun e=>by rw[<-e,h] at H;cases H
   refine .inl ⟨by rw[q j,vA p];exact h,rfl,fun N D=>?_⟩;exact World.putObj_heap_other (fun e=>p (z.inj j id b (by rw[h];rfl) A (by rw[<-e];exact D) K))
  row:=fun j x y ks e h=>by
   have p:j≠id:=fun e=>by rw[<-e,h] at H;cases H
   refine .inr ⟨x,y,ks,by rw[q j,vA p];exact h,rfl,.inl ⟨rfl,rfl,fun N W D hv=>⟨W,?_,rfl⟩⟩⟩;rw[World.putObj_heap_other (fun e=>p (z.inj j id b (by rw[h];rfl) A (by rw[<-e];exact D) K))];exact hv }
 refine⟨aa,⟨fun j=>?_,fun j j' c t1 t2 C O=>?_,fun c off h=>z.fr c off (t8 aa.size h)⟩⟩
 .by_cases p:j=id
  .grind
  .by_cases i:(m.at j).tracked=true
   .exact BJ.step aa z a1 (by rw[q j,vA p]) rfl (fun N D=>World.putObj_heap_other (fun e=>p (z.inj j id b i A (by rw[<-e];exact D) K)))
   .rw[q j,vA p];cases E:m.at j with
    |pad=>trivial
    |gone=>trivial
    |cells=>rw[E] at i;exact absurd rfl i
    |lp=>rw[E] at i;exact absurd rfl i
    |tok=>rw[E] at i;exact absurd rfl i
    |mrow=>rw[E] at i;exact absurd rfl i
    |mapb=>rw[E] at i;exact absurd rfl i
 .have old:∀{j},(Mem.at (m.set id B) j).tracked=true->(m.at j).tracked=true:=fun {j} i=>by
   grind
  exact z.inj j j' c (old t1) (old t2) C O
theorem Wx {G:AC}{j:Value}(h:Nm P t aD ba G m g=some r)(de:New T g.n r.us)(bc:∀q∈r.ps,q.holds T)(hm:AG T g.n V m w)(hx:AA T g.n V m w aD F)(Y:AA T g.n V m w ba a4)(hv:AA T g.n V m w G j):
  ∃Z,(Instr.mapUpdate t F a4 j).run P w= .ok () Z/\AH T g.n V m w V r.m Z/\AG T (g.n+r.us.length) V r.m Z/\r.c= .any:=by
 unfold Nm at h;split at h
 .rename_i D et id hu;split at h
  .rename_i a2 ai M aN aU bx;split at h
   .rename_i c7;simp only[tX,tU] at h;obtain⟨kc,c6,⟨rs,ps⟩,c3,vc,dm,⟨W,qs⟩,c4,h⟩:=h;cases h;simp only at bc;obtain⟨bs,ks,hf,b0⟩:=Vf c7;obtain⟨z,k1,E⟩:=Kc c6 Y;have kC:=NJ c3 k1 fun p hp=>bc p (by simp[hp]);have b5:=Oy bs E;obtain⟨zv,z1,z2⟩:=Kc dm hv;have zC:=NJ c4 z1 fun p hp=>bc p (by simp[hp]);obtain⟨b,b3,rfl,_⟩:=hx;have ca:=hm.blk id;rw[bx] at ca;obtain⟨ei,l,b',aw,a6,hT,cl,hb,K,db,cc,base,c2,d9⟩:=ca;rw[b3] at cl;cases cl;have a3:=bc ⟨ "fits 1",Gy 1,[.e a2,.c (.list [[]])]⟩ (by simp);have a3:l.length+1<=AD:=by
     simp only[Pr.holds,Gy,tx,uW] at a3;have e1:u0 [Rf.eval T (.e a2),Rf.eval T (.c (.list [[]]))]=T a2:=rfl;have H:u1 [Rf.eval T (.e a2),Rf.eval T (.c (.list [[]]))]= .list [[]]:=rfl;rw[e1,H,hT] at a3;simpa [U.toL,AD] using a3
    have c0:=Rm (P:=P) (w:=w) b0 bs kC K cc;have bb:=Sp (w:=w) hf c0;have cb:=Iy (P:=P) (w:=w) false 12 10000 D ks z (by decide) hf (by rw[kT b0];exact kC.len.1);have ce:=US (P:=P) hb;have ch:=(te.1 hb).1;have cf:(rs.map (Rf.eval T)).length=ai.length:=kC.len.2;have c1:T g.n= .list (BG ai.length l (rs.map (Rf.eval T)) (W.map (Rf.eval T))):=by
     rw[de.head];simp only[Ex.eval,gW,tx,ti,Rf.eval];have e1:u0 (T a2::(rs.map (Rf.eval T)++W.map (Rf.eval T)))=T a2:=rfl;have H:List.tail (T a2::(rs.map (Rf.eval T)++W.map (Rf.eval T)))=rs.map (Rf.eval T)++W.map (Rf.eval T):=rfl;have e3:rs.map (fun x=>Rf.eval T x)=rs.map (Rf.eval T):=rfl;rw[show (List.map (Rf.eval T) rs++List.map (Rf.eval T) W)=rs.map (Rf.eval T)++W.map (Rf.eval T) from rfl,e1,H,hT,List.take_left' cf,List.drop_left' cf];rfl
    have eb:Bw (AY T V m w) w ai M (rs.map (Rf.eval T)) a4:=⟨z,kC,E⟩;have ek:Bw (AY T V m w) w aN aU (W.map (Rf.eval T)) j:=⟨zv,zC,z2⟩;have b6:∀(A:List MapEntry) (N:Nat),A.length=(BG ai.length l (rs.map (Rf.eval T)) (W.map (Rf.eval T))).length->A.length<=AD->
      (∀(i:Nat) (us:List U) (e:MapEntry),(BG ai.length l (rs.map (Rf.eval T)) (W.map (Rf.eval T)))[i]? =some us->A[i]? =some e->∃u1 u2,us=u1++u2/\Bw (AY T V m w) w ai M u1 e.key/\Bw (AY T V m w) w aN aU u2 e.val)->
      (∃base,N=base+A.length/\∀(i:Nat) (e:MapEntry),A[i]? =some e->e.born=base+i)->
      AH T g.n V m w V (m.set id (.mapb g.n ai M aN aU)) (w.putObj b (.map A.toArray N))/\AG T (g.n+1) V (m.set id (.mapb g.n ai M aN aU)) (w.putObj b (.map A.toArray N)):=by
     intro A N q1 q2 q3 q4;refine qj rfl hm (by rw[bx];rfl) (by rw[bx];rfl) b3 (by omega) fun aa=>⟨by omega,_,b,A,N,c1,b3,World.putObj_heap_same ch,q1,by omega,fun i us e C O=>?_,q4⟩;obtain⟨u1,u2,g1,ao,g3⟩:=q3 i us e C O;exact⟨u1,u2,g1,Bw.mono (fun _ _ h=>aa.safe0 h) ao,Bw.mono (fun _ _ h=>aa.safe0 h) g3⟩
    cases he:aw[Ah ai.length l (rs.map (Rf.eval T))]? with
    |some e=>
     have ci:Ah ai.length l (rs.map (Rf.eval T)) < l.length:=by rw[<-K];exact (tc.1 he).1
     have b1:BG ai.length l (rs.map (Rf.eval T)) (W.map (Rf.eval T))=l.set (Ah ai.length l (rs.map (Rf.eval T))) (rs.map (Rf.eval T)++W.map (Rf.eval T)):=by
      unfold BG;grind
     rw[he] at bb;have c8:=tZ ci;obtain⟨u1,u2,e1,⟨az,H,e3⟩,e4⟩:=cc _ _ e c8 he;have hq:BX u1 (rs.map (Rf.eval T))=true:=by
      have c9:List.findIdx (fun r=>BX (r.take ai.length) (rs.map (Rf.eval T))) l < l.length:=ci;have:=List.findIdx_getElem (p:=fun r=>BX (r.take ai.length) (rs.map (Rf.eval T))) (xs:=l) (w:=c9);have e5:l[List.findIdx (fun r=>BX (r.take ai.length) (rs.map (Rf.eval T))) l]=u1++u2:=e1;rw[e5,List.take_left' H.len.2] at this;exact this
     have b7:KE ks z az (BX u1 (rs.map (Rf.eval T))):=gz b0 kC H;rw[hq] at b7;have cv:=Oy bs e3;have dj:=nC (w:=w) hf b7;generalize ea:Ah ai.length l (rs.map (Rf.eval T))=aO at*;have c5:(aw.toArray[aO]?).map (·.key)=some (Aw P D az):=by simp[he,cv]
     have dd:(aw.toArray.modify aO fun e=>{ e with key:=Aw P D z,val:=j })=(aw.modify aO fun e=>{ e with key:=Aw P D z,val:=j }).toArray:=by simp
     have ee:∀i:Nat,(aw.modify aO fun e=>{ e with key:=Aw P D z,val:=j })[i]? =if aO=i then (aw[i]?).map (fun e=>{ e with key:=Aw P D z,val:=j }) else aw[i]? :=fun i=>by
      grind
     have h3:∀(i:Nat) (us:List U) (e:MapEntry),(BG ai.length l (rs.map (Rf.eval T)) (W.map (Rf.eval T)))[i]? =some us->(aw.modify aO fun e=>{ e with key:=Aw P D z,val:=j })[i]? =some e->∃u1 u2,us=u1++u2/\Bw (AY T V m w) w ai M u1 e.key/\Bw (AY T V m w) w aN aU u2 e.val:=by
      grind
     have h4:∀(i:Nat) (e:MapEntry),(aw.modify aO fun e=>{ e with key:=Aw P D z,val:=j })[i]? =some e->e.born=base+i:=by
      grind
     obtain⟨f1,f2⟩:=b6 (aw.modify aO fun e=>{ e with key:=Aw P D z,val:=j }) a6 (by rw[b1];simp[K]) (by simp[K];exact db) h3 ⟨base,by simp;exact c2,h4⟩;refine⟨_,?_,f1,f2,rfl⟩;simp only[Instr.mapUpdate,ua,run_underlying hu,uZ,ce,b5,cb,bb,uy,c5,Option.getD_some,dj];rw[Sf _ hb,dd]
    |none=>
     have ej:¬Ah ai.length l (rs.map (Rf.eval T)) < l.length:=fun ch=>by
      grind
     have b1:BG ai.length l (rs.map (Rf.eval T)) (W.map (Rf.eval T))=l++[rs.map (Rf.eval T)++W.map (Rf.eval T)]:=by
      unfold BG;grind
     rw[he] at bb;have h3:∀(i:Nat) (us:List U) (e:MapEntry),(BG ai.length l (rs.map (Rf.eval T)) (W.map (Rf.eval T)))[i]? =some us->(aw++[{ key:=a4,val:=j,born:=a6 }])[i]? =some e->∃u1 u2,us=u1++u2/\Bw (AY T V m w) w ai M u1 e.key/\Bw (AY T V m w) w aN aU u2 e.val:=by
      grind
     have h4:∀(i:Nat) (e:MapEntry),(aw++[{ key:=a4,val:=j,born:=a6 }])[i]? =some e->e.born=base+i:=by
      grind
     obtain⟨f1,f2⟩:=b6 (aw++[{ key:=a4,val:=j,born:=a6 }]) (a6+1) (by rw[b1];simp[K]) (by simp[K];exact a3) h3 ⟨base,by simp;omega,h4⟩;refine⟨_,?_,f1,f2,rfl⟩;simp only[Instr.mapUpdate,ua,run_underlying hu,uZ,ce,b5,cb,bb,Option.map_none];rw[Sf _ hb];simp
   .cases h
  .cases h
 .cases h
end
section
variable {T:Tab}{n:Nat}{V :Nat->Option Nat}{m:Mem}{w:World}
theorem AH.weaken {ag:Mem}(h:∀id,ag.at id=m.at id\/ag.at id= .gone):AH T n V m w V ag w where
 os:=rfl
 tape:=rfl
 output:=rfl
 size:=tY _
 mlen:=fun id j=>by
  rcases h id with e|e
  .rw[e];exact j
  .rw[e];exact fun h=>by cases h
 rho:=fun id j=>by
  refine⟨rfl,?_⟩;rcases h id with e|e
  .rw[e];exact j
  .rw[e];rfl
 untr:=fun id _ i=>by
  rcases h id with e|e
  .rw[<-e];exact i
  .rw[e] at i;cases i
 fresh:=fun id b j i _=>by
  rcases h id with e|e
  .rw[e,j] at i;cases i
  .rw[e] at i;cases i
 old:=fun _ _ _=>rfl
 tok:=fun id x ks e p=>by
  rcases h id with e'|e'
  .exact .inl ⟨by rw[e'];exact p,rfl,fun _ _=>rfl⟩
  .exact .inr ⟨fun _ _ _ _=>rfl,.inl e'⟩
 row:=fun id x y ks e p=>by
  rcases h id with e'|e'
  .exact .inr ⟨x,y,ks,by rw[e'];exact p,rfl,.inl ⟨rfl,rfl,fun _ W _ q=>⟨W,q,rfl⟩⟩⟩
  .exact .inl e'
theorem AG.weaken (i:AG T n V m w){ag:Mem}(h:∀id,ag.at id=m.at id\/ag.at id= .gone):AG T n V ag w where
 fr:=i.fr
 blk:=fun id=>by
  rcases h id with e|e
  .exact BJ.step (AH.weaken h) i (tY _) e rfl (fun _ _=>rfl)
  .rw[e];trivial
 inj:=fun id q b j p C O=>by
  refine i.inj id q b ?_ ?_ C O
  .rcases h id with e|e
   .rw[<-e];exact j
   .rw[e] at j;cases j
  .rcases h q with e|e
   .rw[<-e];exact p
   .rw[e] at p;cases p
theorem rD {m:Mem}{b:Blk}(id:Nat):Mem.at (m++[.gone]) id=Mem.at (m++[b]) id\/Mem.at (m++[.gone]) id= .gone:=by
 unfold Mem.at;grind
end
section
variable {P:Program}{T:Tab}{V :Nat->Option Nat}{m:Mem}{w:World}{g:G}{r:R}
variable{a:Act}{o:Oper}{az:Operand->AC}{t:TypeId}
theorem am {b:Builtin}{args:Array Operand}{ar:Array TypeId}(ho:o.op= .call { callee:= .builtin b,args,argTypes:=ar })(h:Id P b ar (args.toList.map az) m g=some r)
  (K:New T g.n r.us) (a5:∀q∈r.ps,q.holds T) (E:AG T g.n V m w) (A:∀x,AA T g.n V m w (az x) (a.eval x)):BM T g V m w ((execOp a.eval o).run P w) r:=by
 rw[I5 ho];obtain⟨args⟩:=args;unfold Id at h;split at h
 .rename_i H x i;cases args with
  |nil=>cases i
  |cons p j=>
   cases j with
   |cons=>cases i
   |nil=>
    simp at i;subst i;simp only[tX,tU] at h;obtain⟨t,N,h⟩:=h;obtain⟨z,C,O,D⟩:=VG h K E (A p) ar N o.type;exact BM.pure (by simp[builtin,C]) E O D
 .rename_i H x y i;cases args with
  |nil=>cases i
  |cons p j=>
   cases j with
   |nil=>cases i
   |cons M j=>
    cases j with
    |cons=>cases i
    |nil=>
     simp at i;obtain⟨rfl,rfl⟩:=i;obtain⟨z,C,O,D⟩:=Kp (P:=P) h K (A p) (A M) ar o.type;exact BM.pure (by simp at C;simp[builtin,C]) E O D
 .rename_i H x y i;cases args with
  |nil=>cases i
  |cons p j=>
   cases j with
   |nil=>cases i
   |cons M j=>
    cases j with
    |cons=>cases i
    |nil=>
     simp at i;obtain⟨rfl,rfl⟩:=i;obtain⟨z,C,O,D⟩:=Kp (P:=P) h K (A p) (A M) ar o.type;exact BM.pure (by simp at C;simp[builtin,C]) E O D
 .rename_i H x y i;cases args with
  |nil=>cases i
  |cons p j=>
   cases j with
   |nil=>cases i
   |cons M j=>
    cases j with
    |cons=>cases i
    |nil=>
     simp at i;obtain⟨rfl,rfl⟩:=i;obtain⟨z,Z, ab,C,O,D,h4⟩:=gD h K a5 E (A p) (A M) o.type;exact⟨z,Z, ab,.inl (by simp[builtin,C]),O,D,h4⟩
 .rename_i H aP aL c2 a3 i;cases args with
  |nil=>cases i
  |cons p j=>
   simp only[tx,List.cons.injEq] at i;obtain⟨rfl,i⟩:=i;obtain⟨z,C,O,D⟩:=K8 (P:=P) (w:=w) _ _ _ (j.map a.eval) g r h K (A p) (by rw[<-i];exact AB.of_map A j);refine BM.pure (v:=z) ?_ E O D;simp only[uE,if_false] at C;simp[builtin,Builtin.min_,C]
 .rename_i H aP aL c2 a3 i;cases args with
  |nil=>cases i
  |cons p j=>
   simp only[tx,List.cons.injEq] at i;obtain⟨rfl,i⟩:=i;obtain⟨z,C,O,D⟩:=K8 (P:=P) (w:=w) _ _ _ (j.map a.eval) g r h K (A p) (by rw[<-i];exact AB.of_map A j);refine BM.pure (v:=z) ?_ E O D;simp only[if_true] at C;simp[builtin,Builtin.max_,C]
 .rename_i H i;cases args with
  |nil=>cases i
  |cons p j=>
   cases j with
   |cons=>simp at i
   |nil=>
    simp at i;simp only[tX,tU] at h;obtain⟨t,N,h⟩:=h;split at h
    .rename_i e hu;cases h;have W:=A p;rw[i] at W;have bb:a.eval p= .slice none 0 0:=W;refine BM.pure (v:= .int .i64 0) ?_ E rfl rfl;simp[builtin,Builtin.cap_,bb,N,run_underlying hu,goInt]
    .cases h
 .cases h
theorem jU (h:aOp P az o.op m g=some r)(E:New T g.n r.us)(K:∀q∈r.ps,q.holds T)(p:AG T g.n V m w)(j:∀x,AA T g.n V m w (az x) (a.eval x)):
  BM T g V m w ((execOp a.eval o).run P w) r:=by
 have N:∀xs:Array Operand,xs.map a.eval=(xs.toList.map a.eval).toArray:=fun xs=>by rw[<-Array.toList_map,Array.toArray_toList]
 cases D:o.op<;>rw[D] at h<;>simp only[aOp] at h
 case move x=>cases h;exact BM.same (v:=a.eval x) (by simp[execOp,D]) p rfl (j x)
 case assign x=>cases h;exact BM.same (v:=a.eval x) (by simp[execOp,D]) p rfl (j x)
 case pick c x y=>
  obtain⟨q,C,O,A⟩:=PD h E p (j c) (fun _=>j x) (fun _=>j y);exact BM.pure (v:=if q then a.eval x else a.eval y) (by simp[execOp,D,C,asBool]) p O A
 case alloc t=>exact iq h p D
 case box t x=>exact qa h p D (j x)
 case build t parts=>exact (WK h p D j).res p
 case buildSlice t len parts=>exact NT h E p D j
 case load t x=>
  obtain⟨u,C,O,A⟩:=OV h E p (j x);exact BM.pure (by simp[execOp,D,C]) p O A
 case store t x y=>
  obtain⟨Z,C,O,A,H⟩:=iD h E p (j x) (j y);exact⟨undef,Z, V,.inr ⟨by simp[execOp,D,C],rfl⟩,O,A,by rw[H];exact trivial⟩
 case nilCheck x=>exact (Pw h K p D rfl (j x)).res p
 case binOp op t x y yt=>
  obtain⟨z,C,O,A⟩:=Qq h E K (j x) (j y) x y;exact BM.pure (v:=z) (MF (s:=do eqGuard op t x y (a.eval x) (a.eval y);binOp op t (a.eval x) (a.eval y)) (by simp only[execOp,D]) C) p O A
 case unOp op t x=>
  obtain⟨z,C,O,A⟩:=Zv (P:=P) (w:=w) h E (j x);exact BM.pure (by simp[execOp,D,C]) p O A
 case convert s d x=>
  obtain⟨z,C,O,A⟩:=Ml h E (j x);exact BM.pure (by simp[execOp,D,C]) p O A
 case makeFunc aF first I=>
  cases h;refine BM.same (v:= .func aF (first.map a.eval) (I.map a.eval)) (by simp[execOp,D,Instr.makeFunc]) p rfl ?_;refine⟨first.toList.map a.eval,I.toList.map a.eval,by rw[N,N],AB.of_map j _,AB.of_map j _⟩
 case fieldAddr t x f=>
  obtain⟨z,C,O,A,H⟩:=Jp h (j x);exact BM.same (by simp[execOp,D,C]) p O H
 case field t x f=>
  obtain⟨z,C,O,A,H⟩:=Pe h (j x);exact BM.same (by simp[execOp,D,C]) p O H
 case indexAddr t x i=>
  obtain⟨z,C,O,A⟩:=Jr h E K (j x) (j i);exact BM.pure (by simp[execOp,D,C]) p O A
 case makeMap t rv=>
  cases rv with
  |none=>exact cA h E p D
  |some _=>cases h
 case lookup t x aO ok=>
  obtain⟨z,C,O,A⟩:=eI h E K p (j x) (j aO);exact BM.pure (by simp[execOp,D,C]) p O A
 case mapUpdate t x aO v=>
  obtain⟨Z,C,O,A,H⟩:=Wx h E K p (j x) (j aO) (j v);exact⟨undef,Z, V,.inr ⟨by simp[execOp,D,C],rfl⟩,O,A,by rw[H];exact trivial⟩
 case index t x i=>
  obtain⟨z,C,O,A⟩:=Py h E K (j x) (j i);rcases A with A|A
  .exact BM.same (by simp[execOp,D,C]) p O A
  .exact BM.pure (by simp[execOp,D,C]) p O A
 case slice t x ap Y a2=>
  cases a2 with
  |some v=>
   cases Y with
   |none=>cases h
   |some Y=>
    have M:Nr T g.n V m w (ap.map az) (ap.map a.eval):=by
     cases ap with
     |none=>rfl
     |some y=>exact⟨_,rfl,j y⟩
    obtain⟨z, ab,C,O,A,H⟩:=hG h E K p (j x) M (j Y) (j v);exact⟨z,w, ab,.inl (by simp[execOp,D,C]),O,A,H⟩
  |none=>
   have M:∀l:Option Operand,Nr T g.n V m w (l.map az) (l.map a.eval):=by
    intro l;cases l with
    |none=>rfl
    |some y=>exact⟨_,rfl,j y⟩
   obtain⟨z,C,O,A⟩:=P7 h E K p (j x) (M ap) (M Y);exact BM.pure (by simp[execOp,D,C]) p O A
 case makeSlice t x y=>exact Wd h E K p D (j x) (j y)
 case extract x i=>
  obtain⟨z,C,O,A,H⟩:=Mz (P:=P) h (j x);exact BM.same (by simp[execOp,D,C]) p O H
 case call c=>
  obtain⟨W,args,ar⟩:=c;cases W with
  |builtin b=>exact am D h E K p j
  |value f=>cases h
  |invoke x n=>cases h
 all_goals cases h
theorem UY {len:Nat}{parts:List (Nat × AC)}(h:DG P t len parts m g=some r):∃x ks e,r.c= .vec m.length x ks/\r.m=m++[.tok x ks e]:=by
 unfold DG at h;split at h
 .simp only[tX,tU] at h;obtain⟨i,Y,z,j,h⟩:=h;split at h
  .simp only[tU] at h;grind
  .split at h
   .simp only[tU] at h;grind
   .cases h
 .cases h
theorem bA {len:Nat}{parts:Array (Nat × Operand)}(h:Iq P t len (parts.toList.map fun (i,x)=>(i,az x)) m g=some r)(N:New T g.n r.us)(D:AG T g.n V m w)
  (W:o.op= .buildSlice t len parts) (M:∀x,AA T g.n V m w (az x) (a.eval x)):BM T g V m w ((execOp a.eval o).run P w) r:=by
 unfold Iq at h;simp only[tX,tU] at h;obtain⟨q,z,h⟩:=h;obtain⟨x,ks,e,A,K⟩:=UY z;rw[A] at h;cases h;obtain⟨v,Z, ab,k1,E,H,j⟩:=NT z N D W M;rw[K] at E H j;rw[A] at j;have k5:AA T (g.n+q.us.length) ab (m++[.tok x ks e]) Z (.ro x ks) v:=⟨j.1,j.2.2.1⟩;have p:=fun id=>rD (m:=m) (b:= .tok x ks e) id;exact⟨v,Z, ab,k1,E.trans D (Nat.le_add_right _ q.us.length) (AH.weaken (n:=g.n+q.us.length) p),H.weaken p,AA.mono0 (AH.weaken p) (tY _) _ _ k5⟩
theorem Ub {k:Nat}(h:EM k P az o.op m g=some r)(A:New T g.n r.us)(E:∀q∈r.ps,q.holds T)(p:AG T g.n V m w)(i:∀x,AA T g.n V m w (az x) (a.eval x)):
  BM T g V m w ((execOp a.eval o).run P w) r:=by
 unfold EM at h;split at h
 .exact jU h A E p i
 .split at h
  .rename_i t n c j;exact bV h A E p j (i n) (i c)
  .rename_i t len parts j;exact PN h A p j
  .rename_i t x ap Y a2 j;have N:Nr T g.n V m w (ap.map az) (ap.map a.eval):=by
    cases ap with
    |none=>rfl
    |some y=>exact⟨_,rfl,i y⟩
   obtain⟨z, ab,C,O,H,K⟩:=Wl h A p (i x) N (i Y) (i a2);exact⟨z,w, ab,.inl (by simp[execOp,j,C]),O,H,K⟩
  .rename_i args ar j;obtain⟨args⟩:=args;split at h
   .rename_i s x D;rw[I5 j];cases args with
    |nil=>cases D
    |cons W M=>
     cases M with
     |nil=>cases D
     |cons x2 M=>
      cases M with
      |cons=>cases D
      |nil=>
       simp at D;obtain⟨rfl,rfl⟩:=D;obtain⟨z,Z, ab,C,O,H,K⟩:=RG h A E p (i W) (i x2) o.type;exact⟨z,Z, ab,.inl (by simp[builtin,C]),O,H,K⟩
   .cases h
  .cases h
 .split at h
  .rename_i t len parts j;split at h
   .exact bA h A p j i
   .exact Uf h p j i
  .exact jU h A E p i
end
structure Loc where
 tmps:AV
 mem:Mem
inductive XK where
 |normal
 |exit (id:Nat)
 |ret
 deriving DecidableEq
abbrev YF:=Nat->List AC->PC->Mem->G->Option (AC × Mem × G)
structure Ys where
 get:Nat->Option YF
 mu:Tmp->Nat
instance:CoeFun Ys (fun _=>Nat->Option YF):=⟨Ys.get⟩
def Ys.none:Ys:=⟨fun _=>Option.none,fun _=>0⟩
def SN (aj:Ys):Option Tmp->Nat
 |some t=>aj.mu t
 |none=>0
abbrev Au:=Ys->FuncId->List AC->PC->Mem->G->Option (AC × Mem × G)
structure BA where
 k:XK
 pc:PC
 l:Loc
structure GE where
 j:Nat
 want:Bool
 p:Nat
 imp:List Nat
def OQ (a0:List Nat):AC->AC
 | .on c a=>if a0.contains c then a else .on c a
 | .gd c a=>if a0.contains c then a else .gd c a
 |a=>a
def C0 (a0:List Nat)(tmps:AV):Operand->AC
 | .tmp t=>OQ a0 ((tmps.get t).getD .any)
 | .const v=>Iu v
 | .global _=> .any
 | .func f=> .fn (.func f) [] []
def E5:PC->Rf
 |none=> .c (.bool true)
 |some c=> .e c
def Cz (ac:PC)(x:Nat)(aX:Bool):Ex:=
 match ac with
 |none=>if aX then ⟨ "id",oId,[.e x]⟩ else ⟨ "not",VQ,[.e x]⟩
 |some c=>⟨ "and",QI,[.e c,if aX then .e x else .n x]⟩
structure RS where
 tmps:AV
 mem:Mem
 g:G
 gl:List GE
def EP (ac:PC)(base:List Nat)(s:RS)(j:Nat)(aX:Bool):AC->Option (Option (PC × List Nat) × RS)
 | .cb b=>if b=aX then some (some (ac,base),s) else some (none,s)
 | .b x=>some (some (some s.g.n,s.g.n::base),{ s with g:=s.g.pushAll [Cz ac x aX],gl:=⟨j,aX,s.g.n,s.g.n::base⟩::s.gl })
 | .nb x=>some (some (some s.g.n,s.g.n::base),{ s with g:=s.g.pushAll [Cz ac x (!aX)],gl:=⟨j,aX,s.g.n,s.g.n::base⟩::s.gl })
 |_=>none
def Dj (J:Array Oper)(ac:PC)(s:RS)(o:Oper):Option (Option (PC × List Nat) × RS):=
 match o.guard with
 |none=>some (some (ac,[]),s)
 |some (j,aX)=>
  match s.gl.filter (fun e=>Nat.beq e.j j&&(e.want==aX)) with
  |e::aw=>some (some (some e.p,e.imp++(aw.map (·.imp)).flatten),s)
  |[]=>do
   let aq<-J[j]?;let d<-aq.dst;let c<-s.tmps.get d
   match c with
   | .tup []=>some (none,s)
   | .gd c a=>do
    let e<-s.gl.find? (fun e=>Nat.beq e.p c)
    EP (some c) e.imp s j aX a
   |a=>EP ac [] s j aX a
def A9:Op->Bool
 | .move _| .assign _| .pick .. | .build .. | .load .. | .nilCheck _| .binOp .. | .unOp .. | .convert .. | .makeFunc .. | .fieldAddr .. | .field .. | .indexAddr .. | .index .. | .extract .. | .slice _ _ _ _ none=>true
 | .call { callee:= .builtin .cap,.. }| .call { callee:= .builtin .len,.. }| .call { callee:= .builtin .min,.. }| .call { callee:= .builtin .max,.. }=>true
 |_=>false
def Blk.beq:Blk->Blk->Bool
 | .pad,.pad=>true
 | .gone,.gone=>true
 | .cells l e,.cells af e'=>AC.beqL l af&&Nat.beq e e'
 | .tok x ks e,.tok aA ah e'=>Nat.beq x aA&&Kd.beqs ks ah&&Nat.beq e e'
 | .lp x a,.lp aA a'=>Nat.beq x aA&&AC.beq a a'
 | .mrow x y ks e,.mrow aA aS ah e'=>Nat.beq x aA&&Nat.beq y aS&&Kd.beqs ks ah&&Nat.beq e e'
 | .mapb x ai ka aN aU,.mapb aA kk' ka' vk' va'=>Nat.beq x aA&&Kd.beqs ai kk'&&(ka==ka')&&Kd.beqs aN vk'&&(aU==va')
 |_,_=>false
def GL:Mem->Mem->Bool
 |[],_=>true
 |b::m,b'::ad=>Blk.beq b b'&&GL m ad
 |_,_=>false
def NY (J:Array Oper)(h:List GE)(c:Operand)(aX:Bool):List Nat:=
 match c with
 | .tmp t=>(h.filter fun e=>(e.want==aX)&&(((J[e.j]?).bind (·.dst))==some t)).map (·.p)
 |_=>[]
def Do (n:Nat)(b:Rf):Blk->Blk->Blk × List Ex
 | .cells l e,.cells af e'=>
  if l.length=af.length/\e=e' then
   let (r,us):=Ow (fun n=>mix n b) n l af
   if r.all AC.atom then (.cells r e,us) else (.gone,us)
  else (.gone,[])
 | .tok x ks e,.tok aA ah e'=>
  if Nat.beq x aA&&Kd.beqs ks ah&&Nat.beq e e' then (.tok x ks e,[])
  else if e=e'/\ks.length=ah.length then (.tok n (Kd.joins ks ah) e,[⟨ "if",oIf,[b,.e x,.e aA]⟩]) else (.gone,[])
 | .tok x ks e,.pad=>(.tok n ks e,[⟨ "if",oIf,[b,.e x,.c (.list [])]⟩])
 | .pad,.tok x ks e=>(.tok n ks e,[⟨ "if",oIf,[b,.c (.list []),.e x]⟩])
 | .lp x a,.lp aA a'=>
  if Nat.beq x aA then
   let (c,us):=mix n b a a'
   (.lp x c,us)
  else (.gone,[])
 | .mrow x y ks e,.mrow aA aS ah e'=>
  if Nat.beq y aS&&Nat.beq e e'&&Nat.beq ks.length ah.length then
   if Nat.beq x aA&&Kd.beqs ks ah then (.mrow x y ks e,[]) else (.mrow n y (Kd.joins ks ah) e,[⟨ "if",oIf,[b,.e x,.e aA]⟩])
  else (.gone,[])
 | .mapb x ai ka aN aU,.mapb aA kk' ka' vk' va'=>
  if Nat.beq x aA&&Kd.beqs ai kk'&&(ka==ka')&&Kd.beqs aN vk'&&(aU==va') then (.mapb x ai ka aN aU,[])
  else if Nat.beq ai.length kk'.length&&(ka==ka')&&Nat.beq aN.length vk'.length&&(aU==va') then (.mapb n (Kd.joins ai kk') ka (Kd.joins aN vk') aU,[⟨ "if",oIf,[b,.e x,.e aA]⟩])
  else (.gone,[])
 | .pad,.pad=>(.pad,[])
 |_,_=>(.gone,[])
def Gg (b:Rf):Nat->Mem->Mem × List Ex
 |_,[]=>([],[])
 |n,y::ad=>
  let (z,us):=Do n b .pad y;let (r,h):=Gg b (n+us.length) ad
  (z::r,us++h)
def Bd (b:Rf):Nat->Mem->Mem->Mem × List Ex
 |n,[],ad=>Gg b n ad
 |n,x::m,ad=>
  let (z,us):=Do n b x (ad.headD .pad);let (r,h):=Bd b (n+us.length) m ad.tail
  (z::r,us++h)
def MB (m:Mem)(id:Nat):Option AC:=match m.at id with| .tok z ks _=>some (.vec id z ks)|_=>none
def Ft (m au ag:Mem)(c d:AC):Option AC:=
 match c,d with
 | .vec id x ks,.vec id' aA ah=>
  if Nat.beq id id' then
   match au.at id,ag.at id with
   | .tok y ky _,.tok aS ky' _=>if Nat.beq x y&&Nat.beq aA aS&&Kd.beqs ks ky&&Kd.beqs ah ky' then MB m id else none
   |_,_=>none
  else none
 | .vec id x ks,.cv .nilSlice=>
  match au.at id,ag.at id with
  | .tok y ky _,.pad=>if Nat.beq x y&&Kd.beqs ks ky then MB m id else none
  |_,_=>none
 | .cv .nilSlice,.vec id x ks=>
  match au.at id,ag.at id with
  | .pad,.tok y ky _=>if Nat.beq x y&&Kd.beqs ks ky then MB m id else none
  |_,_=>none
 |_,_=>none
def G7 (m au ag:Mem):List AC->List AC->List AC->List AC
 |c::l,d::af,a::r=>(Ft m au ag c d).getD a::G7 m au ag l af r
 |_,_,r=>r
def XY (m au ag:Mem):Blk->Blk->Blk->Blk
 | .cells l _,.cells af _,.cells r e=> .cells (G7 m au ag l af r) e
 |_,_,z=>z
def Sc (m au ag:Mem):Mem->Mem->Mem->Mem
 |z::r,b1,b2=>XY m au ag (b1.headD .pad) (b2.headD .pad) z::Sc m au ag r b1.tail b2.tail
 |[],_,_=>[]
def Bc (b:Rf)(n:Nat)(au ag:Mem):Mem × List Ex:=
 let (r,us):=Bd b n au ag
 (Sc r au ag r au ag,us)
def Ms (f:Nat->AC->AC->AC × List Ex)(n:Nat):Option AC->Option AC->Option AC × List Ex
 |some a,some b=>let (c,us):=f n a b;(some c,us)
 |_,_=>(none,[])
def EU (f:Nat->AC->AC->AC × List Ex):Nat->Tr->Tr->Tr × List Ex
 |n,.node v l r,.node v' af r'=>
  let (c,us):=Ms f n v v';let (ae,h):=EU f (n+us.length) l af;let (aE,i):=EU f (n+us.length+h.length) r r'
  (.node c ae aE,us++(h++i))
 |_,_,_=>(.nil,[])
def AV.flat (s:AV):Tr:=if s.loc.isEmpty then s.t else .nil
def Qg (m au ag:Mem)(b:Rf)(n:Nat)(c d:AC):AC × List Ex:=
 match Ft m au ag c d with
 |some a=>(a,[])
 |none=>My n b c d
def Gt (n:Nat)(b:Rf)(X ae:Loc):Loc × List Ex:=
 let (m,us):=Bc b n X.mem ae.mem;let (t,h):=EU (Qg m X.mem ae.mem b) (n+us.length) X.tmps.flat ae.tmps.flat
 (⟨⟨X.tmps.n,[],t⟩,m⟩,us++h)
def DX (g:G)(ac:PC)(x:Nat)(aX:Bool):PC × G:=
 match ac,aX with
 |none,true=>(some x,g)
 |ac,aX=>(some g.n,g.pushAll [Cz ac x aX])
def Ib (one:AC->PC->Mem->G->Option (AC × Mem × G))(x:Nat):Nat->List AC->PC->Mem->G->Option (AC × Mem × G)
 |_,[],_,_,_=>none
 |_,[c],ac,m,g=>one c ac m g
 |j,.cv .nilFunc::av,ac,m,g=>Ib one x (j+1) av ac m (g.needAll ac [⟨ "ne",pNe,[.e x,.c (.int j)]⟩])
 |j,c::av,ac,m,g=>do
  let t:=g.n;let g:=g.pushAll [⟨ "eq",oEq,[.e x,.c (.int j)]⟩];let (h,g):=DX g ac t true;let (ca,aq,g) <-one c h m g;let (i,g):=DX g ac t false;let (cb,mb,g) <-Ib one x (j+1) av i m g;let (ad,us):=Bc (.e t) g.n aq mb;let (aV,p):=Fw (g.n+us.length) (.e t) ca cb
  some (aV,ad,g.pushAll (us++p))
def EL (call:Au)(aj:Ys)(args:List AC)(f:AC)(ac:PC)(m:Mem)(g:G):Option (AC × Mem × G):=
 match f with
 | .fn (.func k) first I=>call aj k (first++args++I) ac m g
 | .yl id=>
  match m.at id with
  | .lp stamp _=>do
   let y<-aj stamp
   y id args ac m g
  |_=>none
 |_=>none
def M4 (call:Au)(aj:Ys)(f:AC)(args:List AC)(ac:PC)(m:Mem)(g:G):Option (AC × Mem × G):=
 match f with
 | .sel x alts=>Ib (EL call aj args) x 0 alts ac m g
 |f=>EL call aj args f ac m g
def W6 (ac:PC)(a0:List Nat)(c:AC):AC:=
 match ac,a0 with
 |some p,_::_=> .gd p c
 |_,_=>c
def Cv (tmps:AV)(aG:Option Tmp)(c:AC):AV:=
 match aG with
 |some d=>tmps.set d c
 |none=>tmps
def XC:AC->AC
 | .on _ (.ptr i o)=> .ptr i o
 |a=>a
def Xz:AC->List Pr
 | .on c (.ptr _ _)=>[⟨ "t",pT,[.e c]⟩]
 |_=>[]
def Ip:List AC->List Pr
 |[]=>[]
 |a::l=>Xz a++Ip l
def Bt (P:Program)(call:Au)(aj:Ys)(J:Array Oper)(ac:PC)(s:RS)(o:Oper):Option RS:=do
 let (run,s) <-Dj J ac s o
 if s.gl.any (fun e=>((J[e.j]?).bind (·.dst))==o.dst) then none else
 let put (c:AC):AV:=Cv s.tmps o.dst c
 match run with
 |none=>some { s with tmps:=put (.tup []) }
 |some (pc',a0)=>
  let az:=C0 a0 s.tmps;let h (c:AC):AC:=W6 pc' a0 c
  match o.op with
  | .call { callee:= .value f,args,.. }=>do
   let (c,m,g) <-M4 call aj (az f) ((args.toList.map az).map XC) pc' s.mem (s.g.needAll pc' (Ip (args.toList.map az)))
   match a0 with
   |[]=>some { s with tmps:=put c,mem:=m,g }
   |_=>if GL s.mem m then some { s with tmps:=put (h c),mem:=s.mem++List.replicate (m.length - s.mem.length) .gone,g } else
    match pc' with
    |some p=>some { s with tmps:=put (h c),mem:=(Bc (.e p) g.n m s.mem).1,g:=g.pushAll (Bc (.e p) g.n m s.mem).2 }
    |none=>none
  | .pick c a b=>do
   let r<-XE (az c) (OQ (NY J s.gl c true) (az a)) (OQ (NY J s.gl c false) (az b)) s.mem s.g
   some { s with tmps:=put (h r.c),g:=(s.g.pushAll r.us).needAll pc' r.ps }
  |op=>do
   let r<-EM (match a0 with|[]=>SN aj o.dst|_=>0) P az op s.mem s.g
   match a0 with
   |[]=>some { s with tmps:=put r.c,mem:=r.m,g:=(s.g.pushAll r.us).needAll pc' r.ps }
   |_=>if A9 op then some { s with tmps:=put (h r.c),g:=(s.g.pushAll r.us).needAll pc' r.ps } else
    if GL s.mem r.m then some { s with tmps:=put (h r.c),mem:=s.mem++List.replicate (r.m.length - s.mem.length) .gone,g:=(s.g.pushAll r.us).needAll pc' r.ps } else none
def DL (P:Program)(call:Au)(aj:Ys)(J:Array Oper)(ac:PC):List Oper->RS->Option RS
 |[],s=>some s
 |o::l,s=>do
  let s<-Bt P call aj J ac s o
  DL P call aj J ac l s
def Eo (aA:List Nat):List Edge->Nat
 |[]=>0
 |e::aw=>if Region.binds .any e then Nat.lor (Nat.lor (2 ^ e.on) ((aA[e.on]?).getD 0)) (Eo aA aw) else Eo aA aw
def AW:List Oper->List Nat->List Nat
 |[],aA=>aA
 |o::l,aA=>AW l (aA++[Eo aA o.after.toList])
structure DS where
 tmps:AV
 mem:Mem
 g:G
 gls:List (Nat × GE)
def As (J:Array Oper)(o:Oper):List Tmp:=
 (o.op.operands.toList.filterMap fun x=>match x with| .tmp t=>some t|_=>none)++
  (match o.guard with|some (j,_)=>(match J[j]? with|some aq=>aq.dst.toList|none=>[])|none=>[])
def Ay:List (Tmp × Nat)->Tmp->Option Nat
 |[],_=>none
 |(t',i)::r,t=>bif Nat.beq t' t then some i else Ay r t
def An:Nat->List Oper->List (Tmp × Nat)
 |_,[]=>[]
 |i,o::l=>match o.dst with|some t=>(t,i)::An (i+1) l|none=>An (i+1) l
def B7 (D:List (Tmp × Nat))(ok:Nat->Bool)(s:AV):List Tmp->List (Nat × AC)
 |[]=>[]
 |t::r=>match s.get t with
  |some c=>if (match Ay D t with|some i=>ok i|none=>true) then (t,c)::B7 D ok s r else B7 D ok s r
  |none=>B7 D ok s r
def G3 (R:Nat)(gls:List (Nat × GE)):List GE:=(gls.filter fun p=>R.testBit p.1).map (·.2)
mutual
def AC.free:AC->Bool
 | .ptr .. | .pix .. | .vec .. | .yl _| .asl .. | .rsv .. | .mr .. | .mp .. | .mv _=>false
 | .on _ a| .gd _ a=>AC.free a
 | .fn _ f c=>AC.freeL f&&AC.freeL c
 | .agg l| .tup l| .sel _ l=>AC.freeL l
 |_=>true
def AC.freeL:List AC->Bool
 |[]=>true
 |a::l=>AC.free a&&AC.freeL l
end
def DS.masked (S:DS)(D:List (Tmp × Nat))(ok:Nat->Bool)(R:Nat)(Bs:List Tmp):RS:=⟨⟨S.tmps.n,B7 D ok S.tmps Bs,.nil⟩,S.mem,S.g,G3 R S.gls⟩
def Gz (s:RS)(n:Nat):List GE:=s.gl.take (s.gl.length - n)
def Fg (tmps:AV):Option Tmp->AC
 |some d=>(tmps.get d).getD .any
 |none=> .any
def Lm (P:Program)(call:Au)(aj:Ys)(J:Array Oper)(D:List (Tmp × Nat))(ac:PC)(R j:Nat)(o:Oper)(S:DS):Option DS:=do
 let an<-Bt P call aj J ac (S.masked D R.testBit R (As J o)) o;let c:=Fg an.tmps o.dst
 if (Gz an (G3 R S.gls).length).all (fun e=>R.testBit e.j)&&(A9 o.op||(GL S.mem an.mem&&(Nat.beq an.mem.length S.mem.length||AC.free c))) then
  some ⟨Cv S.tmps o.dst c,S.mem,an.g,(Gz an (G3 R S.gls).length).map (fun e=>(j,e))++S.gls⟩
 else none
def heads (P:Program)(call:Au)(aj:Ys)(J:Array Oper)(D:List (Tmp × Nat))(ac:PC):List Nat->List Oper->Nat->DS->Option DS
 |R::Rs,o::l,j,S=>do
  let h<-Lm P call aj J D ac R j o S
  heads P call aj J D ac Rs l (j+1) h
 |_,[],_,S=>some S
 |[],_,_,_=>none
def Ep:List Nat->Nat->Nat->Nat
 |[],_,h=>h
 |r::rs,j,h=>Ep rs (j+1) (if Nat.beq (r+1) (2 ^ j) then h else j+1)
def GB:List Nat->Nat->Bool
 |[],_=>true
 |r::rs,j=>Nat.blt r (2 ^ j)&&GB rs (j+1)
def Fz:List Tmp->Bool
 |[]=>true
 |t::l=> !l.contains t&&Fz l
def XD (P:Program)(call:Au)(aj:Ys)(J:Array Oper)(ac:PC)(l:Loc)(g:G):Option RS:=
 let i:=AW J.toList [];let h:=Ep i 0 0
 if GB i 0&&Fz (J.toList.filterMap (·.dst)) then do
  let S<-heads P call aj J (An 0 J.toList) ac i (J.toList.take h) 0 ⟨l.tmps,l.mem,g,[]⟩
  DL P call aj J ac (J.toList.drop h) ⟨S.tmps,S.mem,S.g,S.gls.map (·.2)⟩
 else none
mutual
def AC.nlt (n:Nat):AC->Bool
 | .on c a| .gd c a=>Nat.blt c n&&AC.nlt n a
 | .b x| .nb x| .i _ _ _ x| .v x| .s x| .ro x _| .vec _ x _| .rsv _ x _=>Nat.blt x n
 | .pix _ _ _ _ x _=>Nat.blt x n
 | .rp x t _ _=>Nat.blt x n&&Nat.blt t n
 | .mr _ y=>Nat.blt y n
 | .mp _ y t _ _=>Nat.blt y n&&Nat.blt t n
 | .fn _ f c=>AC.nltL n f&&AC.nltL n c
 | .sel x l=>Nat.blt x n&&AC.nltL n l
 | .agg l| .tup l=>AC.nltL n l
 |_=>true
def AC.nltL (n:Nat):List AC->Bool
 |[]=>true
 |a::l=>AC.nlt n a&&AC.nltL n l
end
def tP:BinOp->Bool| .add=>true| .sub=>true|_=>false
def W0 (n:Nat)(t:AV)(o:Oper)(c:AC):Bool:=
 match o.op with
 | .binOp _ _ x y _=>(CE (C0 [] t x)).isSome&&(CE (C0 [] t y)).isSome&&AC.nlt n (C0 [] t x)&&AC.nlt n (C0 [] t y)&&(CE c).isSome
 |_=>true
def AL (L:Bool)(D:List (Tmp × Nat))(o:Oper):Nat:=
 match o.op with
 | .call { callee:= .value (.func _),.. }=>if L then 2 else 3
 | .buildSlice _ n _=>if L&&Nat.blt 0 n then 2 else 3
 | .move x| .assign x=>if o.guard.isNone&&(match x with| .tmp t=>(Ay D t).isNone|_=>true) then 0 else 1
 | .extract x _=>if o.guard.isNone&&(match x with| .tmp t=>(Ay D t).isNone|_=>true) then 0 else 2
 | .nilCheck _| .fieldAddr .. | .indexAddr .. =>1
 | .alloc _=>if o.guard.isNone then 4 else 3
 | .binOp op _ x y _=>if o.guard.isNone&&(tP op&&(match x with| .tmp t=>(Ay D t).isNone|_=>true)&&(match y with| .tmp t=>(Ay D t).isNone|_=>true)) then 0 else 2
 |op=>if A9 op then 2 else 3
def AQ:Nat->List Oper->List (Tmp × Nat)
 |_,[]=>[]
 |i,o::l=>match o.op,o.dst with
  | .alloc _,some t=>(t,i)::AQ (i+1) l
  |_,_=>AQ (i+1) l
def Tw (b:Bool)(h:List Nat)(R i k:Nat):Nat->List Nat->Bool
 |_,[]=>true
 |j,c::r=>(Nat.ble i j||(if Nat.beq k 3 then R.testBit j||Nat.beq c 0 else if Nat.beq k 2 then R.testBit j||Nat.ble c (bif b then 3 else 2) else true))&&Tw b h R i k (j+1) r
def XB (b:Bool)(h:List Nat):Nat->List Nat->List Nat->Bool
 |i,R::Rs,k::ks=>Tw b h R i k 0 h&&XB b h (i+1) Rs ks
 |_,_,_=>true
def Te (R:Nat):Nat->Nat->List Nat->Bool
 |0,_,_=>true
 |n+1,m,c::r=>(R.testBit m||Nat.beq c 0)&&Te R n (m+1) r
 |_+1,_,[]=>true
def LS:Nat->List Nat->List Nat
 |_,[]=>[]
 |j,c::r=>bif Nat.beq c 4 then j::LS (j+1) r else LS (j+1) r
def wides (p h:List Nat):Nat->List Nat->List Nat->Bool
 |i,R::Rs,k::ks=>(Nat.beq k 0||Nat.beq k 4||h.all fun j=>Nat.ble i j|| !R.testBit j||Te R j 0 p)&&wides p h (i+1) Rs ks
 |_,_,_=>true
def Bf:Mem->Mem->Bool
 |[],_=>true
 | .tok x ks e::m,b::ad=>Blk.beq (.tok x ks e) b&&Bf m ad
 | .tok _ _ _::_,[]=>false
 | .mrow _ y ks e::m,b::ad=>(match b with| .mrow _ aS ah e'=>Nat.beq y aS&&Nat.beq ks.length ah.length&&Nat.beq e e'|_=>false)&&Bf m ad
 | .mrow _ _ _ _::_,[]=>false
 |_::m,ad=>Bf m ad.tail
mutual
def AC.noVec:AC->Bool
 | .on _ a| .gd _ a=>AC.noVec a
 | .vec _ _ _| .rsv _ _ _| .mr _ _| .mp _ _ _ _ _=>false
 | .fn _ f c=>AC.noVecL f&&AC.noVecL c
 | .sel _ l=>AC.noVecL l
 | .agg l| .tup l=>AC.noVecL l
 |_=>true
def AC.noVecL:List AC->Bool
 |[]=>true
 |a::l=>AC.noVec a&&AC.noVecL l
end
def okG (h:List Nat)(R j i:Nat):Bool:=R.testBit i||(h.getD i 0).testBit j
def QZ:Blk->Blk
 | .cells l e=> .cells (l.map fun _=> .any) e
 |b=>b
def isTg (tg:List Tmp):Option Tmp->Bool
 |some d=>tg.contains d
 |none=>false
def Km (tg:List Tmp)(aG:Option Tmp)(m ad:Mem):Mem:=
 if isTg tg aG then m++(ad.drop m.length).map QZ else ad
def M1:List Tmp->Option Nat
 |[]=>none
 |t::_=>if Nat.ble 1000000 t then some (t - 1000000) else none
def HG (tg:List Tmp)(k:Nat)(m:Mem):Mem:=match M1 tg with|some n=>bif Nat.beq k 2 then m.take n else m|none=>m
def L8 (k:Nat)(az:Operand->AC):Op->Bool
 | .load _ x=>(match az x with| .ptr _ _=>true| .rp _ _ _ _=>true|_=>false)
 | .slice _ x _ _ none=>(match az x with| .ro _ _=>true|_=>false)
 | .buildSlice _ _ _=>Nat.beq k 3
 |_=>false
def W8 (aj:Ys)(t:AV)(o:Oper):Bool:=o.guard.isNone&&L8 (SN aj o.dst) (C0 [] t) o.op
def eg (R j:Nat):Bool:=Nat.beq (R+1) (2 ^ j)
def iQ (aC:Bool)(aj:Ys)(t:AV)(tg:List Tmp)(k:Nat)(o:Oper)(m ad:Mem)(c:AC):Bool:=
 match M1 tg with
 |none=>true
 |some n=>(aC&&Nat.blt k 4)&&(if Nat.beq k 3 then Nat.ble n m.length&&GL (m.take n) ad else if Nat.beq k 2 then W8 aj t o&&AC.noVec c else true)
def TG (L aC:Bool)(tg:List Tmp)(P:Program)(call:Au)(aj:Ys)(J:Array Oper)(D i:List (Tmp × Nat))(h:List Nat)(ac:PC)(R j:Nat)(o:Oper)(S:DS):Option DS:=do
 let k:=AL L i o;let an<-Bt P call aj J ac { S.masked D (okG h R j) R (As J o) with mem:=HG tg k S.mem } o;let c:=Fg an.tmps o.dst
 if ((Gz an (G3 R S.gls).length).all (fun e=>R.testBit e.j)&&((if Nat.ble 3 k then (aC||Bf S.mem an.mem) else if Nat.beq k 0 then AC.nlt an.g.n c&&W0 S.g.n (S.masked D (okG h R j) R (As J o)).tmps o c else true)&&(!aC||Nat.ble 2 k||AC.noVec (Fg (Cv S.tmps o.dst c) o.dst)||eg R j)&&(!Nat.beq k 4||(match o.dst with|some d=>Nat.blt d S.tmps.n|none=>false)))&&(!Nat.beq k 2||A9 o.op||(GL (HG tg k S.mem) an.mem&&(Nat.beq an.mem.length (HG tg k S.mem).length||AC.free c))))&&iQ aC aj (S.masked D (okG h R j) R (As J o)).tmps tg k o S.mem an.mem (Fg (Cv S.tmps o.dst c) o.dst) then
  some ⟨Cv S.tmps o.dst c,if Nat.ble 3 k then (if Nat.beq k 4 then Km tg o.dst S.mem an.mem else an.mem) else S.mem,an.g,(Gz an (G3 R S.gls).length).map (fun e=>(j,e))++S.gls⟩
 else none
def P2 (L aC:Bool)(tg:List Tmp)(P:Program)(call:Au)(aj:Ys)(J:Array Oper)(D h:List (Tmp × Nat))(i:List Nat)(ac:PC):List Nat->List Oper->Nat->DS->Option DS
 |R::Rs,o::l,j,S=>do
  let p<-TG L aC tg P call aj J D h i ac R j o S
  P2 L aC tg P call aj J D h i ac Rs l (j+1) p
 |_,[],_,S=>some S
 |[],_,_,_=>none
def FJ (L aC:Bool)(tg:List Tmp)(P:Program)(call:Au)(aj:Ys)(J:Array Oper)(ac:PC)(l:Loc)(g:G):Option RS:=
 let h:=AW J.toList [];let D:=An 0 J.toList;let j:=AQ 0 J.toList;let i:=J.toList.map (AL L j)
 if (GB h 0&&Fz (J.toList.filterMap (·.dst))&&XB (M1 tg).isSome i 0 h i)&&wides i (LS 0 i) 0 h i then do
  let S<-P2 L aC tg P call aj J D j h ac h J.toList 0 ⟨l.tmps,l.mem,g,[]⟩
  some ⟨S.tmps,S.mem,S.g,S.gls.map (·.2)⟩
 else none
def BD (o:Oper):Bool:=
 match o.op with
 | .store _ (.tmp _) (.tmp _)| .store _ (.tmp _) (.const _)=>o.guard.isNone&&o.dst.isNone
 |_=>false
def BT (o:Oper):Oper:=if BD o then { o with op:= .move (.const (.bool true)) } else o
def Nc (o:Oper):Option Tmp:=if BD o then (match o.op with| .store _ (.tmp t) _=>some t|_=>none) else none
def Sw (D:List (Tmp × Nat))(R:Nat)(t:Tmp):Bool:=match Ay D t with|some k=>R.testBit k|none=>true
def Qx (D h:List (Tmp × Nat))(R:Nat)(o:Oper):Bool:=
 match o.op with
 | .store _ (.tmp t) x=> !BD o||(Sw D R t&&decide (Ay D t=Ay h t)&&(match x with| .tmp y=>Sw D R y&&(Ay h y).isNone|_=>true))
 |_=>true
def OJ (D h:List (Tmp × Nat)):List Nat->List Oper->Bool
 |R::Rs,o::l=>Qx D h R o&&OJ D h Rs l
 |_,[]=>true
 |[],_=>false
def CU (P:Program)(tmps:AV)(o:Oper):Option (Nat × Nat × List AC):=
 match o.op with
 | .store aR (.tmp t) x=>
  match tmps.get t,(C0 [] tmps x).cellsOf,P.info? aR with
  |some (.ptr id off),some av,some i=>if av.length=i.size then some (id,off,av) else none
  |_,_,_=>none
 |_=>none
def Fd:List AC->Bool
 |[]=>true
 | .any::l=>Fd l
 |_=>false
def HF (P:Program)(tmps:AV):List Oper->List Nat->Mem->Option Mem
 |[],_,m=>some m
 |o::l,seen,m=>
  if BD o then
   match CU P tmps o with
   |some (id,off,av)=>
    match m.at id with
    | .cells c e=>if Fd c&& !seen.contains id&&Nat.ble (off+av.length) c.length then HF P tmps l (id::seen) (m.set id (.cells (c.take off++av++c.drop (off+av.length)) e)) else none
    |_=>none
   |none=>none
  else HF P tmps l seen m
def Dk (tmps:AV):List Oper->Mem->Mem
 |[],m=>m
 |o::l,m=>match Nc o with
  |some t=>(match tmps.get t with
   |some (.ptr id _)=>Dk tmps l (m.set id (QZ (m.at id)))
   |_=>Dk tmps l m)
  |none=>Dk tmps l m
def loud (L:Bool)(D:List (Tmp × Nat))(o:Oper):Nat:=if Nat.beq (AL L D o) 2&& !A9 o.op then 3 else AL L D o
def OS:Nat->List Nat->Nat->Nat
 |_,[],K=>K
 |j,k::r,K=>OS (j+1) r (if Nat.beq k 3 then j+1 else K)
def pR (h:List (Tmp × Nat))(K:Nat)(o:Oper):Bool:=
 match Nc o with
 |some t=>Nat.beq K 0||(match Ay h t with|some k=>Nat.ble K k|none=>false)
 |none=>true
def new3 (P:Program)(tmps:AV)(n:Nat)(o:Oper):Bool:=
 !BD o||(match CU P tmps o with|some (id,_,_)=>Nat.ble n id|none=>false)
def Ja (L aC:Bool)(P:Program)(call:Au)(aj:Ys)(J:Array Oper)(ac:PC)(l:Loc)(g:G):Option RS:=
 let aB:=(J.toList.map BT).toArray;let D:=An 0 J.toList;let h:=AQ 0 J.toList;let tg:=J.toList.filterMap Nc;let K:=OS 0 (aB.toList.map (loud L (AQ 0 aB.toList))) 0
 if (!tg.isEmpty&&OJ D h (AW J.toList []) J.toList)&&J.toList.all (pR h K) then do
  let s<-FJ L aC tg P call aj aB ac ⟨l.tmps,Dk l.tmps J.toList l.mem⟩ g;let m<-HF P s.tmps J.toList [] s.mem
  if Nat.beq K 0||J.toList.all (new3 P s.tmps (Dk l.tmps J.toList l.mem).length) then some { s with mem:=m } else none
 else none
def UW (P:Program)(call:Au)(aj:Ys)(J:Array Oper)(ac:PC)(l:Loc)(g:G):List Nat->Option RS
 |[]=>none
 |n::r=>
  match (match n with
   |0=>FJ false false [] P call aj J ac l g
   |1=>FJ false true [] P call aj J ac l g
   |2=>Ja false false P call aj J ac l g
   |3=>Ja false true P call aj J ac l g
   |4=>FJ true false [] P call aj J ac l g
   |5=>Ja true false P call aj J ac l g
   |6=>FJ true true [] P call aj J ac l g
   |7=>Ja true true P call aj J ac l g
   |_=>FJ true true [1000000+l.mem.length] P call aj J ac l g) with
  |some s=>some s
  |none=>UW P call aj J ac l g r
def co (P:Program)(call:Au)(aj:Ys)(J:Array Oper)(h:Bool)(ac:PC)(l:Loc)(g:G):Option RS:=
 if h then (match XD P call aj J ac l g with|some s=>some s|none=>UW P call aj J ac l g [0,1,2,3,4,5,6,7,8]) else DL P call aj J ac J.toList ⟨l.tmps,l.mem,g,[]⟩
def XA (g:G)(sel:Rf)(ac:Option PC)(a b:BA):BA × G:=
 let (l,us):=Gt g.n sel a.l b.l;let g:=g.pushAll us
 match ac with
 |some p=>(⟨a.k,p,l⟩,g)
 |none=>
  let al:=g.pushAll [⟨ "or",oOr,[E5 a.pc,E5 b.pc]⟩]
  (⟨a.k,some g.n,l⟩,al)
def G5 (k:XK):List BA->Option (BA × List BA)
 |[]=>none
 |o::os=>if o.k=k then some (o,os) else (G5 k os).map fun (p,r)=>(p,o::r)
def noK (k:XK)(M:List BA):Bool:=M.all fun o=> !decide (o.k=k)
def El (sel:Option Rf)(h:Option PC):List BA->List BA->G->List BA × G
 |[],H,g=>(H,g)
 |a::as,H,g=>
  match G5 a.k H with
  |none=>
   let (r,g):=El sel h as H g
   (a::r,g)
  |some (b,H)=>
   let (c,g):=XA g (sel.getD (E5 a.pc)) (if a.k= .normal then h else none) a b;let (r,g):=El sel h as H g
   (c::r,g)
def UK:PC->PC->Bool
 |none,none=>true
 |some a,some b=>Nat.beq a b
 |_,_=>false
def UP (a5:Code->PC->Loc->G->Option (List BA × G))(x:Nat)(a b:Code)(ac:PC)(l:Loc)(g:G):Option (List BA × G):=if Nat.blt x g.n=false then none else do
 let (h,g):=DX g ac x true;let (oa,g) <-a5 a h l g;let (i,g):=DX g ac x false;let (ob,g) <-a5 b i l g;let j:=(oa.any fun o=>decide (o.k= .normal)&&UK o.pc h)&&(ob.any fun o=>decide (o.k= .normal)&&UK o.pc i)&&oa.length=1&&ob.length=1
 some (El (some (.e x)) (if j then some ac else none) oa ob g)
def TE (M:List BA)(g:G)(next:PC->Loc->G->Option (List BA × G)):Option (List BA × G):=
 match G5 .normal M with
 |none=>some (M,g)
 |some (o,rest)=>do
  if noK .normal rest then
   let (outs',g) <-next o.pc o.l g
   some (El none none rest outs' g)
  else none
inductive Sl where
 |tmp (t:Nat)
 |cell (id off:Nat)
 |tok (id:Nat)
 |st (id:Nat)
 |row (id:Nat)
 deriving DecidableEq
structure Dr where
 pre:List (Sl × TypeId × List Kd):=[]
 slots:List (Sl × Kd):=[]
 vecs:List (Sl × Nat × Nat):=[]
 kills:List Nat:=[]
def UC (l:Loc):Sl->Option AC
 | .tmp t=>l.tmps.get t
 | .cell id off=>match l.mem.at id with
  | .cells c _=>c[off]?
  |_=>none
 | .tok id=>match l.mem.at id with
  | .tok x ks _=>some (.ro x ks)
  |_=>none
 | .st id=>match l.mem.at id with
  | .lp _ a=>some a
  |_=>none
 | .row id=>match l.mem.at id with
  | .mrow x _ ks _=>some (.ro x ks)
  | .mapb x ai _ aN _=>some (.ro x (ai++aN))
  |_=>none
def QJ:Kd->Nat->AC
 | .int k ap Y,x=> .i k ap Y x
 |k,x=>Ju k x
def tK (l:Loc)(k:Kd)(x:Nat):Sl->Option Loc
 | .tmp t=>some { l with tmps:=l.tmps.fix t (some (QJ k x)) }
 | .cell id off=>match l.mem.at id with
  | .cells c e=>if off < c.length then some { l with mem:=l.mem.set id (.cells (c.set off (QJ k x)) e) } else none
  |_=>none
 | .tok id=>match l.mem.at id,k with
  | .tok _ ks e,.list ah=>if ks.length=ah.length then some { l with mem:=l.mem.set id (.tok x ah e) } else none
  |_,_=>none
 | .st id=>match l.mem.at id with
  | .lp s _=>some { l with mem:=l.mem.set id (.lp s (QJ k x)) }
  |_=>none
 | .row id=>match l.mem.at id,k with
  | .mrow _ y ks e,.list ah=>if ks.length=ah.length then some { l with mem:=l.mem.set id (.mrow x y ah e) } else none
  | .mapb _ ai ka aN aU,.list ah=>if ai.length+aN.length=ah.length then some { l with mem:=l.mem.set id (.mapb x (ah.take ai.length) ka (ah.drop ai.length) aU) } else none
  |_,_=>none
def iA (l:Loc):Nat->List (Sl × Kd)->Option Loc
 |_,[]=>some l
 |x,(s,k)::r=>do
  let l<-tK l k x s
  iA l (x+1) r
def Gf (l:Loc)(id x:Nat)(ks:List Kd):Sl->Option Loc
 | .tmp t=>some { l with tmps:=l.tmps.fix t (some (.vec id x ks)) }
 | .cell i off=>match l.mem.at i with
  | .cells c e=>if off < c.length then some { l with mem:=l.mem.set i (.cells (c.set off (.vec id x ks)) e) } else none
  |_=>none
 |_=>none
def cK (l:Loc)(nh:Nat)(h:List (Sl × Kd)):List (Sl × Nat × Nat)->Option Loc
 |[]=>some l
 |(s,id,j)::r=>do
  let (sj,kj) <-h[j]?
  match sj,kj with
  | .tok id',.list ks=>if id=id' then (Gf l id (nh+j) ks s).bind fun l=>cK l nh h r else none
  |_,_=>none
def fits (l:Loc):List (Sl × Kd)->Option (List Rf × List Pr)
 |[]=>some ([],[])
 |(s,k)::r=>do
  let c<-UC l s;let (x,ps) <-fit k c;let (xs,ps') <-fits l r
  some (x::xs,ps++ps')
def GF (l:Loc)(g:G):List (Sl × TypeId × List Kd)->Option (Loc × G)
 |[]=>some (l,g)
 |(s,e,ks)::r=>
  match UC l s with
  |some (.cv .nilSlice)=>
   if ks.isEmpty then none else (Gf { l with mem:=l.mem++[.tok g.n ks e] } l.mem.length g.n ks s).bind fun af=>GF af (g.pushAll [⟨ "id",oId,[.c (.list [])]⟩]) r
  |_=>none
def pV (tmps:AV):List Nat->AV
 |[]=>tmps
 |t::r=>pV (tmps.fix t none) r
def cz (p:Dr)(nh:Nat)(l:Loc):Option Loc:=do
 let l<-iA l nh p.slots;let l<-cK l nh p.slots p.vecs
 some { l with tmps:=pV l.tmps p.kills }
mutual
def AC.lt (nh aR:Nat):AC->Bool
 | .any| .anyc| .cb _| .ci _ _| .cv _=>true
 | .on c a=>Nat.blt c nh&&AC.lt nh aR a
 | .gd c a=>Nat.blt c nh&&AC.lt nh aR a
 | .b x=>Nat.blt x nh
 | .nb x=>Nat.blt x nh
 | .i _ _ _ x=>Nat.blt x nh
 | .v x=>Nat.blt x nh
 | .s x=>Nat.blt x nh
 | .ro x _=>Nat.blt x nh
 | .ptr id _=>Nat.blt id aR
 | .pix id _ _ _ x _=>Nat.blt id aR&&Nat.blt x nh
 | .rp x t _ _=>Nat.blt x nh&&Nat.blt t nh
 | .vec id x _=>Nat.blt id aR&&Nat.blt x nh
 | .fn _ f c=>AC.ltL nh aR f&&AC.ltL nh aR c
 | .sel x l=>Nat.blt x nh&&AC.ltL nh aR l
 | .yl id=>Nat.blt id aR
 | .asl id _ _=>Nat.blt id aR
 | .rsv id x _=>Nat.blt id aR&&Nat.blt x nh
 | .mr id y=>Nat.blt id aR&&Nat.blt y nh
 | .mp id y t _ _=>Nat.blt id aR&&Nat.blt y nh&&Nat.blt t nh
 | .mv id=>Nat.blt id aR
 | .agg l=>AC.ltL nh aR l
 | .tup l=>AC.ltL nh aR l
def AC.ltL (nh aR:Nat):List AC->Bool
 |[]=>true
 |a::l=>AC.lt nh aR a&&AC.ltL nh aR l
end
def ZX (nh aR:Nat):Tr->Bool
 | .nil=>true
 | .node v l r=>(match v with|some c=>AC.lt nh aR c|none=>true)&&ZX nh aR l&&ZX nh aR r
def U.same:U->U->Bool
 | .int a,.int b=>decide (a=b)
 | .bool a,.bool b=>a==b
 | .str a,.str b=>decide (a=b)
 | .list [],.list []=>true
 | .val .nilFunc,.val .nilFunc=>true
 | .val .nilIface,.val .nilIface=>true
 | .val (.pointer none),.val (.pointer none)=>true
 | .val (.map none),.val (.map none)=>true
 |_,_=>false
def Rf.same:Rf->Rf->Bool
 | .c u,.c v=>U.same u v
 | .e x,.e y=>Nat.beq x y
 | .n x,.n y=>Nat.beq x y
 |_,_=>false
def JT (nh:Nat)(rs:List Rf)(x:Nat)(r:Rf):Bool:=
 Nat.ble nh x&&(match rs[x - nh]? with
  |some h=>Rf.same h r
  |none=>false)
def Ik (nh:Nat)(rs:List Rf)(x:Nat):Option (Rf × List Pr)->Option (List Pr)
 |some (r,ps)=>if JT nh rs x r then some ps else none
 |none=>none
def kE (m:Mem)(id x:Nat)(aQ:Mem)(h:Nat):Bool:=
 match aQ.at id,m.at id with
 | .tok y ky e,.tok aS ky' e'=>Nat.beq y h&&Nat.beq aS x&&Nat.beq e e'&&Nat.beq ky.length ky'.length
 |_,_=>false
def iT (nh aR:Nat)(rs:List Rf)(aQ m:Mem)(h c:AC):Option (List Pr):=
 match h with
 | .any=>some []
 | .i k ap Y x=>Ik nh rs x (fit (.int k ap Y) c)
 | .b x=>Ik nh rs x (fit .bool c)
 | .v x=>Ik nh rs x (fit .val c)
 | .s x=>Ik nh rs x (fit .str c)
 | .ro x ks=>Ik nh rs x (fit (.list ks) c)
 | .vec id x ks=>
  match c with
  | .vec id' aA ah=>if Nat.beq id id'&&Nat.blt id aR&&JT nh rs x (.e aA)&&Kd.beq (Kd.join (.list ah) (.list ks)) (.list ks)&&kE m id aA aQ x then some [] else none
  |_=>none
 |_=>none
def LW (nh aR:Nat)(rs:List Rf)(aQ m:Mem)(h c:AC):Option (List Pr):=
 if AC.lt nh aR h&&AC.beq h c then some [] else iT nh aR rs aQ m h c
def Nv:Option (List Pr)->Option (List Pr)->Option (List Pr)
 |some a,some b=>some (a++b)
 |_,_=>none
def LX (nh aR:Nat)(rs:List Rf)(aQ m:Mem):List AC->List AC->Option (List Pr)
 |[],[]=>some []
 |h::l,c::af=>Nv (LW nh aR rs aQ m h c) (LX nh aR rs aQ m l af)
 |_,_=>none
def Fe:List (Nat × CO)->Nat->Option CO
 |[],_=>none
 |(s,S)::r,x=>if Nat.beq s x then some S else Fe r x
def lpLt (lps:List (Nat × CO))(nh aR s:Nat):Bool:=
 match Fe lps s with
 |some S=>S.tmps.loc.isEmpty&&ZX nh aR S.tmps.t
 |none=>false
def Dp (lps:List (Nat × CO))(nh aR:Nat)(rs:List Rf)(aQ m:Mem):Blk->Blk->Option (List Pr)
 | .pad,.pad=>some []
 | .gone,b=>(match b with| .pad=>none|_=>some [])
 | .cells l e,.cells af e'=>if Nat.beq e e' then LX nh aR rs aQ m l af else none
 | .tok x ks e,.tok aA ah e'=>if Nat.beq e e'&&Nat.beq ks.length ah.length&&((Nat.blt x nh&&Nat.beq x aA&&Kd.beqs ks ah)||JT nh rs x (.e aA)) then some [] else none
 | .lp s st,.lp an st'=>if Nat.beq s an&&lpLt lps nh aR s then LW nh aR rs aQ m st st' else none
 | .mrow x y ks e,.mrow aA aS ah e'=>if (Nat.beq e e'&&Nat.beq y aS&&Nat.blt y nh)&&((Nat.blt x nh&&Nat.beq x aA&&Kd.beqs ks ah)||(JT nh rs x (.e aA)&&Kd.beqs (Kd.joins ah ks) ks&&Nat.beq ks.length ah.length)) then some [] else none
 | .mapb x ai ka aN aU,.mapb aA kk' ka' vk' va'=>if ((ka==ka')&&(aU==va'))&&((Nat.blt x nh&&Nat.beq x aA&&Kd.beqs ai kk'&&Kd.beqs aN vk')||(JT nh rs x (.e aA)&&Kd.beqs (Kd.joins kk' ai) ai&&Nat.beq ai.length kk'.length&&Kd.beqs (Kd.joins vk' aN) aN&&Nat.beq aN.length vk'.length)) then some [] else none
 |_,_=>none
def Gq (lps:List (Nat × CO))(nh aR:Nat)(rs:List Rf)(aQ m:Mem):Mem->Mem->Option (List Pr)
 |[],_=>some []
 |b::l,b'::af=>Nv (Dp lps nh aR rs aQ m b b') (Gq lps nh aR rs aQ m l af)
 |_,_=>none
def jX (nh aR:Nat)(rs:List Rf)(aQ m:Mem):Option AC->Option AC->Option (List Pr)
 |none,_=>some []
 |some .any,_=>some []
 |some h,some c=>LW nh aR rs aQ m h c
 |_,_=>none
def Kx (nh aR:Nat)(rs:List Rf)(aQ m:Mem):Tr->Tr->Option (List Pr)
 | .nil,_=>some []
 | .node v l r,t=>Nv (jX nh aR rs aQ m v t.val) (Nv (Kx nh aR rs aQ m l t.lt) (Kx nh aR rs aQ m r t.rt))
def ES (lps:List (Nat × CO))(nh:Nat)(rs:List Rf)(h l:Loc):Option (List Pr):=
 if h.tmps.loc.isEmpty&&l.tmps.loc.isEmpty&&Nat.beq h.tmps.n l.tmps.n then
  Nv (Gq lps nh h.mem.length rs h.mem l.mem h.mem l.mem) (Kx nh h.mem.length rs h.mem l.mem h.tmps.t l.tmps.t)
 else none
def Tab.upd (T:Tab)(x:Nat)(u:U):Tab:={ T with get:=fun y=>bif Nat.beq y x then u else T.get y }
def BS (T:Tab):List (Nat × Ex)->Tab
 |[]=>T
 |(x,e)::r=>let h:=BS T r;h.upd x (e.eval h)
def Tab.upds (T:Tab):Nat->List U->Tab
 |_,[]=>T
 |x,u::us=>(T.upd x u).upds (x+1) us
def Md:List Nat->List U->Tab
 |x::xs,u::us=>(Md xs us).upd x u
 |_,_=>⟨fun _=>default,fun _ _=>True,fun _=>⟨default, #[],.skip,.skip,[]⟩,0⟩
def pcB (T:Tab):PC->Bool
 |none=>true
 |some c=>(T c).toB
structure Ac where
 nh:Nat
 k:Nat
 eqs:List (Nat × Ex)
 pcn:PC
 nxt:List Rf
 obs:List Ob
 fv:List Nat
def Ac.tab (D:Ac)(us aa:List U):Tab:=BS ((Md D.fv us).upds D.nh aa) D.eqs
def Ac.step (D:Ac)(us aa:List U):Option (List U):=
 let T:=D.tab us aa
 bif pcB T D.pcn then some (D.nxt.map (Rf.eval T)) else none
def Ac.ob (D:Ac)(us aa:List U):Prop:=∀o∈D.obs,o.holds (D.tab us aa)
def Fk {aZ:Type}(f:aZ->Option aZ):Nat->aZ->Option aZ
 |0,s=>some s
 |n+1,s=>(f s).bind (Fk f n)
inductive EI {α:Type} (f:α->Option α) (s:α):α->Prop where
 |zero:EI f s s
 |succ {t u:α}:EI f s t->f t=some u->EI f s u
def Ends {aZ:Type}(f:aZ->Option aZ)(s:aZ):Prop:=∃n t,Fk f n s=some t/\f t=none
open Classical in
def fC {aZ:Type}(f:aZ->Option aZ)(s:aZ):aZ:=if h:∃t,EI f s t/\f t=none then Classical.choose h else s
def Ac.res (D:Ac)(j:Nat)(us:List U):U:=(fC (D.step (us.take D.fv.length)) (us.drop D.fv.length)).getD j default
def Ac.owes (D:Ac)(us:List U):Prop:=
 Ends (D.step (us.take D.fv.length)) (us.drop D.fv.length)/\∀aa,EI (D.step (us.take D.fv.length)) (us.drop D.fv.length) aa->D.ob (us.take D.fv.length) aa
def FY:List Rf->List Nat
 |[]=>[]
 | .c _::r=>FY r
 | .e x::r=>x::FY r
 | .n x::r=>x::FY r
def ip (aA:List Nat):List Nat->List Nat
 |[]=>aA
 |x::r=>ip (if aA.contains x then aA else aA++[x]) r
def pcL:PC->List Nat|none=>[]|some c=>[c]
def PQ (nh:Nat)(h:List (Nat × Ex))(pcn:PC)(nxt:List Rf)(i:List Ob):List Nat:=
 ip [] ((((h.map fun p=>FY p.2.args).flatten++pcL pcn++FY nxt++(i.map fun o=>pcL o.pc++FY o.p.args).flatten)).filter fun x=>Nat.blt x nh)
def GH (fv:List Nat)(nh aO:Nat)(l:List Nat):Bool:=l.all fun x=>fv.contains x||(Nat.ble nh x&&Nat.blt x aO)
def CK (fv:List Nat)(nh ap:Nat):Nat->List (Nat × Ex)->Bool
 |aO,[]=>Nat.beq aO ap
 |aO,(x,e)::r=>Nat.beq (x+1) aO&&GH fv nh x (FY e.args)&&CK fv nh ap x r
def Ac.inScope (D:Ac)(aO:Nat):Bool:=
 CK D.fv D.nh (D.nh+D.k) aO D.eqs&&GH D.fv D.nh aO (pcL D.pcn)&&GH D.fv D.nh aO (FY D.nxt)&&D.obs.all (fun o=>GH D.fv D.nh aO (pcL o.pc++FY o.p.args))&&D.fv.all (fun x=>Nat.blt x D.nh)
def Ac.tg (D:Ac)(j:Nat):Tg:= .loop j D.nh D.k (D.eqs.map fun p=>(p.1,p.2.tag,p.2.args)) D.pcn D.nxt D.fv (D.obs.map fun o=>(o.pc,o.p.tag,o.p.args))
def Ac.heads (D:Ac)(H:List Rf):List Ex:=(List.range D.k).map fun j=>⟨D.tg j,D.res j,D.fv.map .e++H⟩
def Dr.full (p:Dr)(aM:Nat):Dr:=
 {p with
  slots:=p.slots++p.pre.zipIdx.map fun (x:(Sl × TypeId × List Kd) × Nat)=>(Sl.tok (aM+x.2),Kd.list x.1.2.2)
  vecs:=p.vecs++p.pre.zipIdx.map fun (x:(Sl × TypeId × List Kd) × Nat)=>(x.1.1,aM+x.2,p.slots.length+x.2) }
def Zf (a5:PC->Loc->G->Option (List BA × G))(p:Dr)(ac:PC)(l:Loc)(g:G):Option (List BA × G):=do
 let h<-cz p g.n l;let (H,_) <-fits l p.slots;let i<-ES g.lps g.n H h l;let (M,ao) <-a5 ac h { n:=g.n+H.length,eqs:=[],obs:=[],lps:=g.lps }
 match G5 .normal M with
 |none=>none
 |some (o,rest)=>do
  let (nxt,_) <-fits o.l p.slots;let a8<-ES g.lps g.n nxt h o.l;let obs:=a8.map (Ob.mk o.pc)++ao.obs;let D:Ac:={ nh:=g.n,k:=H.length,eqs:=ao.eqs,pcn:=o.pc,nxt,obs,fv:=PQ g.n ao.eqs o.pc nxt obs }
  if D.inScope ao.n&&Nat.beq nxt.length H.length&&Nat.beq h.mem.length l.mem.length&&noK .normal rest then
   some (rest,{ n:=ao.n,eqs:=ao.eqs++Hh g.n (D.heads H) g.eqs,obs:=⟨ac,⟨D.tg 0,D.owes,D.fv.map .e++H⟩⟩::(i.map (Ob.mk ac)++g.obs),lps:=ao.lps })
  else none
def eh (a5:PC->Loc->G->Option (List BA × G))(p:Dr)(ac:PC)(l:Loc)(g:G):Option (List BA × G):=do
 if l.tmps.loc.isEmpty=false then none else
 let (af,al) <-GF l g p.pre
 Zf a5 (p.full l.mem.length) ac af al
def sR (a b:AC):Option Kd:=
 match FG a,FG b with
 |some (k,_),some (k',_)=>match Kd.join k k' with
  | .int k _ _=>some (.int k k.min k.max)
  | .any=>none
  |k=>some k
 |_,_=>none
def ZG (f:Nat->Nat):Tr->Tr->List (Nat × AC × Option AC)
 | .nil,_=>[]
 | .node v l r,t=>
  (match v with
   |none|some .any=>[]
   |some a=>match t.val with
    |some b=>if AC.beq a b then [] else [(f 0,a,some b)]
    |none=>[(f 0,a,none)])++(ZG (fun j=>f (2*j+1)) l t.lt++ZG (fun j=>f (2*j+2)) r t.rt)
def V8 (id:Nat):Nat->List AC->List AC->List (Sl × AC × AC)
 |o,a::l,b::af=>(if AC.beq a b then [] else [(Sl.cell id o,a,b)])++V8 id (o+1) l af
 |_,_,_=>[]
def cn:Nat->Mem->Mem->List (Sl × AC × AC)
 |id,b::m,b'::ad=>(match b,b' with
   | .cells l _,.cells af _=>V8 id 0 l af
   | .tok x ks _,.tok aA ah _=>if Nat.beq x aA then [] else [(Sl.tok id,.ro x ks,.ro aA ah)]
   | .lp _ a,.lp _ a'=>if AC.beq a a' then [] else [(Sl.st id,a,a')]
   | .mrow x _ ks _,.mrow aA _ ah _=>if Nat.beq x aA then [] else [(Sl.row id,.ro x ks,.ro aA ah)]
   | .mapb x ai _ aN _,.mapb aA kk' _ vk' _=>if Nat.beq x aA then [] else [(Sl.row id,.ro x (ai++aN),.ro aA (kk'++vk'))]
   |_,_=>[])++cn (id+1) m ad
 |_,_,_=>[]
def kX (aR:Nat):AC->AC->Option Nat
 | .vec id _ _,.vec id' _ _=>if Nat.beq id id'&&Nat.blt id aR then some id else none
 |_,_=>none
def s7 (m:Mem)(id:Nat):Option TypeId:=match m.at id with| .tok _ _ e=>some e|_=>none
mutual
def Kd.wide:Kd->Kd
 | .int k _ _=> .int k k.min k.max
 | .list ks=> .list (Kd.wides ks)
 |k=>k
def Kd.wides:List Kd->List Kd
 |[]=>[]
 |k::ks=>Kd.wide k::Kd.wides ks
end
def tE (aR:Nat)(ad:Mem)(p:Dr)(s:Sl)(a b:AC):Dr:=
 if p.slots.any (fun x=>decide (x.1=s))||p.pre.any (fun x=>decide (x.1=s)) then p else
 match kX aR a b with
 |some _=>p
 |none=>match a,b with
  | .cv .nilSlice,.vec id _ ks=>if Nat.blt id aR then p else match s7 ad id with
   |some e=>{ p with pre:=p.pre++[(s,e,Kd.wides ks)] }
   |none=>p
  |a,b=>match sR a b,s with
   |some _,.st id=>{ p with slots:=p.slots++[(.st id,.int .i64 0 65536)] }
   |some k,.row id=>{ p with slots:=p.slots++[(.row id,Kd.wide k)] }
   |some k,_=>{ p with slots:=p.slots++[(s,k)] }
   |none,.tmp t=>{ p with kills:=p.kills++[t] }
   |none,_=>p
def jO (aR:Nat)(ad:Mem):List (Sl × AC × AC)->Dr->Dr
 |[],p=>p
 |(s,a,b)::r,p=>jO aR ad r (tE aR ad p s a b)
def re (p:Dr)(id:Nat):Nat:=p.slots.findIdx fun x=>decide (x.1=Sl.tok id)
def cd (aR:Nat):List (Sl × AC × AC)->Dr->Dr
 |[],p=>p
 |(s,a,b)::r,p=>cd aR r (match kX aR a b with
  |some id=>if p.vecs.any (fun x=>decide (x.1=s)) then p else { p with vecs:=p.vecs++[(s,id,re p id)] }
  |none=>p)
def mq (d:List (Nat × AC × Option AC)):List (Sl × AC × AC):=d.filterMap fun x=>x.2.2.map fun b=>(Sl.tmp x.1,x.2.1,b)
def pZ (d:List (Nat × AC × Option AC)):List Nat:=d.filterMap fun x=>match x.2.2 with|none=>some x.1|some _=>none
def SF (p:Dr):Nat:=p.pre.length+p.slots.length+p.vecs.length+p.kills.length
def jt (a5:PC->Loc->G->Option (List BA × G))(ac:PC)(l:Loc)(g:G):Nat->Dr->Dr
 |0,p=>p
 |n+1,p=>
  match GF l g p.pre with
  |none=>p
  |some (af,al)=>
   let q:=p.full l.mem.length
   match cz q al.n af with
   |none=>p
   |some i=>match a5 ac i { n:=al.n+q.slots.length,eqs:=[],obs:=[],lps:=al.lps } with
    |none=>p
    |some (M,_)=>match G5 .normal M with
     |none=>p
     |some (o,_)=>
      let d:=ZG (fun j=>j) i.tmps.t o.l.tmps.t;let ds:=mq d++cn 0 l.mem o.l.mem;let h:=jO l.mem.length o.l.mem ds p;let h:=cd l.mem.length ds h;let h:={ h with kills:=h.kills++(pZ d).filter fun t=> !h.kills.contains t }
      if Nat.beq (SF h) (SF p) then p else jt a5 ac l g n h
def j6 (a5:PC->Loc->G->Option (List BA × G))(p:Dr)(ac:PC)(l:Loc)(g:G):Option (List BA × G):=eh a5 (if Nat.beq (SF p) 0 then jt a5 ac l g 6 p else p) ac l g
mutual
def GV:Code->List YB
 | .seq a b=>GV a++GV b
 | .cond _ a b=>GV a++GV b
 | .block id c=>(GV c).filter fun j=>match j with| .exit i=> !Nat.beq i id| .ret=>true
 | .loop c=>GV c
 | .scope c=>GV c
 | .exit id=>[.exit id]
 | .ret=>[.ret]
 | .rangeFunc _ _ a b=>GV a++GV b
 |_=>[]
end
def Cm (h:BA->G->Option (AC × Mem)):List BA->G->Option (AC × Mem × G)
 |[],_=>none
 |[o],g=>do
  let (c,m) <-h o g
  some (c,m,g)
 |o::os,g=>do
  let (aV,ad,g) <-Cm h os g;let (c,aM) <-h o g;let (m,us):=Bc (E5 o.pc) g.n aM ad;let (c,i):=Fw (g.n+us.length) (E5 o.pc) c aV
  some (c,m,g.pushAll (us++i))
structure DI where
 keep:Nat
 plan:Nat->Option Dr
 nar:Nat->Option (Tmp × Int × Int)
 mu:Tmp->Nat:=fun _=>0
 frz:Nat->Bool:=fun _=>false
def CD (h:Option (Tmp × Int × Int))(ac:PC)(t:AV)(g:G):AV × G:=
 match h with
 |none=>(t,g)
 |some (i,ap,Y)=>
  match t.get i with
  |some (.i k _ _ x)=>(t.set i (.i k ap Y x),g.needAll ac [⟨ "between " ++toString ap++ " " ++toString Y,Du ap Y,[.e x]⟩])
  |_=>(t,g)
mutual
def LO (m:Mem):AC->AC
 | .mr id y=>match m.at id with
  | .mrow x aS ks _=>if Nat.beq y aS then .ro x ks else .mr id y
  |_=> .mr id y
 | .on c a=> .on c (LO m a)
 | .gd c a=> .gd c (LO m a)
 | .fn f a b=> .fn f (Pq m a) (Pq m b)
 | .agg l=> .agg (Pq m l)
 | .tup l=> .tup (Pq m l)
 |a=>a
def Pq (m:Mem):List AC->List AC
 |[]=>[]
 |a::l=>LO m a::Pq m l
end
def frzB (m:Mem):Blk->Blk
 | .cells l e=> .cells (Pq m l) e
 | .mrow _ _ _ _=> .gone
 |b=>b
def QS (m:Mem):Mem:=m.map (frzB m)
def Th (m:Mem):Tr->Tr
 | .nil=> .nil
 | .node v l r=> .node (v.map (LO m)) (Th m l) (Th m r)
def fI (m:Mem)(s:AV):AV:={ s with loc:=s.loc.map fun p=>(p.1,LO m p.2),t:=Th m s.t }
def KU (b:Bool)(l:Loc):Loc:=if b then ⟨fI l.mem l.tmps,QS l.mem⟩ else l
def Ys.add (aj:Ys)(h:Nat)(y:YF):Ys:={ aj with get:=fun s=>if Nat.beq s h then some y else aj s }
def pP (a5:PC->Loc->G->Option (List BA × G))(ac:PC)(l:Loc)(g:G):Option (List BA × G):=
 match a5 ac l g with
 |some (M,al)=>if noK .normal M then some (M,al) else none
 |none=>none
def Bj (P:Program)(call:Au)(aY:DI)(h:Bool)(aj:Ys):Nat->Nat->Code->PC->Loc->G->Option (List BA × G)
 |0,_,_,_,_,_=>none
 |aK+1,blk,c,ac,l,g=>
  match c with
  | .skip| .label _=>some ([⟨.normal,ac,l⟩],g)
  | .region id J draw=>do
   let s<-co P call aj J draw ac l g
   some ([⟨.normal,ac,KU (aY.frz id) ⟨(CD (aY.nar id) ac s.tmps s.g).1.commit aY.keep,s.mem⟩⟩],(CD (aY.nar id) ac s.tmps s.g).2)
  | .seq a b=>do
   let (M,g) <-Bj P call aY h aj aK blk a ac l g
   TE M g (Bj P call aY h aj aK blk b)
  | .cond c a b=>
   match C0 [] l.tmps c with
   | .cb t=>Bj P call aY h aj aK blk (if t then a else b) ac l g
   | .b x=>UP (Bj P call aY h aj aK blk) x a b ac l g
   | .nb x=>UP (Bj P call aY h aj aK blk) x b a ac l g
   |_=>none
  | .block id c=>do
    let (M,g) <-Bj P call aY h aj aK id c ac l g
    match G5 (.exit id) M with
    |none=>some (M,g)
    |some (e,rest)=>
     if noK (.exit id) rest then
      some (El none none [⟨.normal,e.pc,e.l⟩] rest g)
     else none
  | .loop c=>
   match aY.plan blk with
   |some p=>match pP (Bj P call aY h aj aK blk c) ac l g with
    |some r=>some r
    |none=>j6 (Bj P call aY h aj aK blk c) p ac l g
   |none=>do
    let (M,g) <-Bj P call aY h aj aK blk c ac l g
    TE M g (Bj P call aY h aj aK blk (.loop c))
  | .scope c=>Bj P call aY h aj aK blk c ac l g
  | .exit id=>some ([⟨.exit id,ac,l⟩],g)
  | .ret=>some ([⟨.ret,ac,l⟩],g)
  |_=>none
def Kq (P:Program)(l:Loc)(g:G):ResultVar->Option (AC × List Ex)
 | .tmp t=>some ((l.tmps.get t).getD .any,[])
 | .cell a t=>(Of P t ((l.tmps.get a).getD .any) l.mem g).bind fun r=>match r.ps,r.us with
  |[],[]=>some (r.c,[])
  |_,_=>none
def Rq (P:Program)(aF:Func)(l:Loc)(g:G):Option AC:=do
 let rs<-aF.results.toList.mapM (Kq P l g)
 match rs with
 |[(c,_)]=>some c
 |rs=>some (.tup (rs.map (·.1)))
def JU (P:Program)(aF:Func)(o:BA)(g:G):Option (AC × Mem):=
 if o.k= .ret\/o.k= .normal then (Rq P aF o.l g).map fun c=>(c,o.l.mem) else none
def MT:Nat->List AC->Tr->Tr
 |_,[],t=>t
 |i,c::r,t=>MT (i+1) r (Tr.setF 16 t i (some c))
def Gw (n:Nat)(args:List AC):AV:=⟨n,[],MT 0 args .nil⟩
def eF (P:Program)(call:Au)(Aa:FuncId->DI)(aK:Nat):Au:=fun aj f args ac m g=>do
 let aF<-P.funcs[f]?;let c<-aF.body
 if aF.name== "runtime.NumGoroutine" ||Nat.blt aF.ntmps args.length then none else
 let (M,g) <-Bj P call (Aa f) false { aj with mu:=(Aa f).mu } aK 0 c ac ⟨Gw aF.ntmps args,m⟩ g
 Cm (JU P aF) M g
def FL (P:Program)(bf:FuncId->Option Au)(Aa:FuncId->DI)(aK:Nat):Nat->Au
 |0=>fun _ _ _ _ _ _=>none
 |d+1=>fun aj f=>match bf f with
  |some c=>c aj f
  |none=>eF P (FL P bf Aa aK d) Aa aK aj f
structure AX (g g':G):Prop where
 n:g.n<=g'.n
 eqs:∀p∈g.eqs,p∈g'.eqs
 obs:∀o∈g.obs,o∈g'.obs
 lps:∀p∈g.lps,p∈g'.lps
theorem AX.refl (g:G):AX g g:=⟨tY _,fun _ h=>h,fun _ h=>h,fun _ h=>h⟩
theorem AX.trans {a b c:G}(h:AX a b)(k:AX b c):AX a c:=
 ⟨t8 h.n k.n,fun x i=>k.eqs x (h.eqs x i),fun x i=>k.obs x (h.obs x i),fun x i=>k.lps x (h.lps x i)⟩
variable{T:Tab}{g al:G}{ac:PC}{ps:List Pr}{x:Nat}{aX:Bool}{e:AC}
theorem Agr.of (h:Agr T al)(k:AX g al):Agr T g:=⟨fun p i=>h.eqs p (k.eqs p i),fun p i=>h.lps p (k.lps p i)⟩
theorem Aj.of (h:Aj T al)(k:AX g al):Aj T g:=fun o i=>h o (k.obs o i)
theorem Bb (g:G)(us:List Ex):(g.pushAll us).n=g.n+us.length:=by cases us<;>simp[G.pushAll]
theorem aV (g:G)(us:List Ex):(g.pushAll us).obs=g.obs:=by cases us<;>rfl
theorem aa (g:G)(us:List Ex):(g.pushAll us).lps=g.lps:=by cases us<;>rfl
theorem AX.push (g:G)(us:List Ex):AX g (g.pushAll us):=by
 refine⟨by rw[Bb];omega,fun p h=>?_,fun o i=>by rw[aV];exact i,fun p h=>by rw[aa];exact h⟩;cases us with
 |nil=>exact h
 |cons u us=>exact (IF _ _ _ _).2 (.inl h)
theorem Agr.new {us:List Ex}(h:Agr T (g.pushAll us)):New T g.n us:=fun j u i=>by
 cases us with
 |nil=>simp at i
 |cons v us=>exact h.eqs (g.n+j,u) ((IF _ _ _ _).2 (.inr ⟨j,u,i,rfl⟩))
theorem DB (ps:List Pr)(g:G)(ac:PC):(g.needAll ac ps).n=g.n/\(g.needAll ac ps).eqs=g.eqs/\(g.needAll ac ps).lps=g.lps/\((g.needAll ac ps).obs=ps.map (Ob.mk ac)++g.obs):=by
 cases ps<;>exact⟨rfl,rfl,rfl,rfl⟩
theorem AX.need (g:G)(ac:PC)(ps:List Pr):AX g (g.needAll ac ps):=by
 obtain⟨C,O,i,j⟩:=DB ps g ac;exact⟨by omega,fun p h=>by rw[O];exact h,fun o q=>by rw[j];exact tp _ q,fun p h=>by rw[i];exact h⟩
theorem Agr.need (h:Agr T (g.needAll ac ps)):Agr T g:=h.of (AX.need g ac ps)
theorem Aj.need (h:Aj T (g.needAll ac ps))(j:pcv T ac):∀p∈ps,p.holds T:=fun p q=>by
 obtain⟨_,_,_,i⟩:=DB ps g ac;exact h ⟨ac,p⟩ (by rw[i];exact tz _ (vG.2 ⟨p,q,rfl⟩)) j
def BK (T:Tab)(g:G):PC->Prop
 |none=>True
 |some c=>c < g.n/\∃b,T c= .bool b
theorem BK.grow (h:BK T g ac)(k:AX g al):BK T al ac:=by
 cases ac with
 |none=>trivial
 |some c=>exact⟨td h.1 k.n,h.2⟩
theorem TV {h:Bool}(q:BK T g ac)(j:T x= .bool h):∃b,(Cz ac x aX).eval T= .bool b/\(b=true↔pcv T ac/\h=aX):=by
 cases ac with
 |none=>
  refine⟨if aX then h else !h,?_,?_⟩
  .cases aX<;>simp[Cz,Ex.eval,oId,VQ,u0,eve,j,U.toB]
  .cases aX<;>cases h<;>simp[pcv]
 |some c=>
  obtain⟨_,i,p⟩:=q;refine⟨i&&(if aX then h else !h),?_,?_⟩
  .cases aX<;>simp[Cz,Ex.eval,QI,u0,u1,eve,evn,j,p,U.toB]
  .cases aX<;>cases h<;>cases i<;>simp[pcv,p]
theorem Tf (p:BK T g ac)(i:¬pcv T ac):∃b,(Cz ac x aX).eval T= .bool b/\b=false:=by
 cases ac with
 |none=>exact absurd trivial i
 |some c=>
  obtain⟨_,j,h⟩:=p;cases j with
  |true=>exact absurd h i
  |false=>exact⟨false,by simp[Cz,Ex.eval,QI,u0,eve,h,U.toB],rfl⟩
theorem IM (i j:Nat)(c:AC)(r:List (Nat × AC)):BF ((i,c)::r) j=if i=j then some c else BF r j:=by
 simp only[BF];by_cases h:i=j
 .subst h;simp
 .have:Nat.beq i j=false:=by
   cases p:Nat.beq i j with
   |false=>rfl
   |true=>exact absurd (tW p) h
  simp[this,h]
theorem AV.get_set (s:AV)(d i:Nat)(c:AC)(h:(s.set d c).get i=some e):(i=d/\d < s.n/\e=c)\/((d=i->¬d < s.n)/\s.get i=some e):=by
 unfold AV.set at h;cases hd:Nat.blt d s.n with
 |false=>
  rw[hd] at h;refine .inr ⟨fun _ j=>?_,h⟩;rw[<-Nat.blt_eq] at j;rw[j] at hd;cases hd
 |true=>
  rw[hd] at h;have j:d < s.n:=by rwa [Nat.blt_eq] at hd
  simp only[cond_true,AV.get,IM] at h;by_cases e':d=i
  .subst e';simp at h;exact .inl ⟨rfl,j,h.symm⟩
  .rw[vA e'] at h;exact .inr ⟨fun p=>absurd p e',h⟩
theorem AV.set_n (s:AV)(d:Nat)(c:AC):(s.set d c).n=s.n:=by
 unfold AV.set;grind
theorem Dl (i j:Nat):Nat.beq i j=true↔i=j:=⟨tW,fun h=>by subst h;simp⟩
theorem Tr.get_step (t:Tr)(i:Nat):t.get i=if i=0 then t.val else if i % 2=1 then t.lt.get (i / 2) else t.rt.get (i / 2 - 1):=by
 cases t with
 |nil=>simp[Tr.get,Tr.val,Tr.lt,Tr.rt]
 |node v l r=>
  simp only[Tr.get,Tr.val,Tr.lt,Tr.rt];by_cases j:i=0
  .subst j;simp
  .have q:Nat.beq i 0=false:=by
    cases p:Nat.beq i 0 with
    |false=>rfl
    |true=>exact absurd ((Dl _ _).1 p) j
   rw[q,vA j];by_cases C:i % 2=1
   .have h:Nat.beq (i % 2) 1=true:=(Dl _ _).2 C;rw[h,vC C];rfl
   .have h:Nat.beq (i % 2) 1=false:=by
     cases p:Nat.beq (i % 2) 1 with
     |false=>rfl
     |true=>exact absurd ((Dl _ _).1 p) C
    rw[h,vA C];rfl
theorem Tr.get_setF:∀(f:Nat) (t:Tr) (d i:Nat) (c:Option AC) (e:AC),(Tr.setF f t d c).get i=some e->(i=d/\c=some e)\/(i≠d/\t.get i=some e)
 |0,t,d,i,c,e,h=>by simp[Tr.setF,Tr.get] at h
 |f+1,t,d,i,c,e,h=>by
  rw[Tr.get_step t i];simp only[Tr.setF] at h;by_cases q:d=0
  .subst q;rw[show Nat.beq 0 0=true from rfl] at h;simp only[cond_true] at h;rw[Tr.get_step] at h;by_cases Y:i=0
   .subst Y;exact .inl ⟨rfl,by simpa [Tr.val] using h⟩
   .rw[vA Y] at h⊢;exact .inr ⟨Y,h⟩
  .have E:Nat.beq d 0=false:=by
    cases A:Nat.beq d 0 with
    |false=>rfl
    |true=>exact absurd ((Dl _ _).1 A) q
   rw[E] at h;by_cases C:d % 2=1
   .have z:Nat.beq (d % 2) 1=true:=(Dl _ _).2 C;rw[z] at h;simp only[cond_true,cond_false] at h;rw[Tr.get_step] at h;by_cases Y:i=0
    .subst Y;exact .inr ⟨fun h=>q h.symm,by rw[vC rfl] at h⊢;exact h⟩
    .rw[vA Y] at h⊢;by_cases p:i % 2=1
     .rw[vC p] at h⊢;rcases Tr.get_setF f _ _ _ _ _ h with⟨O,j⟩|⟨O,j⟩
      .exact .inl ⟨by omega,j⟩
      .exact .inr ⟨fun D=>O (by omega),j⟩
     .rw[vA p] at h⊢;exact .inr ⟨fun D=>p (by omega),h⟩
   .have z:Nat.beq (d % 2) 1=false:=by
     cases A:Nat.beq (d % 2) 1 with
     |false=>rfl
     |true=>exact absurd ((Dl _ _).1 A) C
    rw[z] at h;simp only[cond_false] at h;rw[Tr.get_step] at h;by_cases Y:i=0
    .subst Y;exact .inr ⟨fun h=>q h.symm,by rw[vC rfl] at h⊢;exact h⟩
    .rw[vA Y] at h⊢;by_cases p:i % 2=1
     .rw[vC p] at h⊢;exact .inr ⟨fun D=>C (by omega),h⟩
     .rw[vA p] at h⊢;rcases Tr.get_setF f _ _ _ _ _ h with⟨O,j⟩|⟨O,j⟩
      .exact .inl ⟨by omega,j⟩
      .exact .inr ⟨fun D=>O (by omega),j⟩
theorem RX (keep:Nat):∀(l:List (Nat × AC)) (t:Tr) (i:Nat) (e:AC),(NH keep l t).get i=some e->BF l i=some e\/(BF l i=none/\t.get i=some e)
 |[],t,i,e,h=> .inr ⟨rfl,h⟩
 |(j,c)::r,t,i,e,h=>by
  rw[IM];simp only[NH] at h;have p:=RX keep r t i e;split at h
  .rcases Tr.get_setF _ _ _ _ _ _ h with⟨C,O⟩|⟨C,O⟩
   .rw[vC C.symm];exact .inl O
   .rw[vA (fun e=>C e.symm)];exact p O
  .split at h
   .rename_i z;by_cases q:j=i
    .subst q;rw[z] at h;cases h
    .rw[vA q];exact p h
   .rcases Tr.get_setF _ _ _ _ _ _ h with⟨C,O⟩|⟨C,O⟩
    .cases O
    .rw[vA (fun e=>C e.symm)];exact p O
theorem AV.get_commit (s:AV)(keep i:Nat)(h:(s.commit keep).get i=some e):s.get i=some e:=by
 have j:(NH keep s.loc s.t).get i=some e:=h;rcases RX _ _ _ _ _ j with C|⟨C,O⟩
 .simp[AV.get,C]
 .simp[AV.get,C,O]
theorem AV.get_fix (s:AV)(p:s.loc=[])(d i:Nat)(c:Option AC)(h:(s.fix d c).get i=some e):(i=d/\d < s.n/\c=some e)\/((d=i->¬d < s.n)/\s.get i=some e):=by
 unfold AV.fix at h;cases hd:Nat.blt d s.n with
 |false=>
  rw[hd] at h;refine .inr ⟨fun _ j=>?_,h⟩;rw[<-Nat.blt_eq] at j;rw[j] at hd;cases hd
 |true=>
  rw[hd] at h;have j:d < s.n:=by rwa [Nat.blt_eq] at hd
  simp only[cond_true,AV.get,p,BF] at h⊢;rcases Tr.get_setF _ _ _ _ _ _ h with⟨C,O⟩|⟨C,O⟩
  .exact .inl ⟨C,j,O⟩
  .exact .inr ⟨fun e=>absurd e.symm C,O⟩
theorem AV.fix_n (s:AV)(d:Nat)(c:Option AC):(s.fix d c).n=s.n:=by
 unfold AV.fix;grind
theorem AV.fix_loc (s:AV)(d:Nat)(c:Option AC):(s.fix d c).loc=s.loc:=by
 unfold AV.fix;grind
theorem AV.commit_n (s:AV)(keep:Nat):(s.commit keep).n=s.n:=rfl
section
variable {P:Program}{T:Tab}{n ak:Nat}{V ab:Nat->Option Nat}{m ad:Mem}{w Z:World}{a:Act}
def DE (B:Nat)(V :Nat->Option Nat)(m:Mem)(w:World)(ds:List Deferred):Prop:=
 B<=w.heap.size/\∃h:List Nat,ds=h.map (fun D=>{ target:= .collected D,args:= #[] })/\h.Nodup/\∀D∈h,B<=D/\w.heap[D]? =some (.deferred (some []))/\∀id,(m.at id).tracked=true-> V id≠some D
theorem DE.nil {B:Nat}(V :Nat->Option Nat)(m:Mem)(w:World)(i:B<=w.heap.size):DE B V m w []:=⟨i,[],rfl,List.nodup_nil,fun D h=>by simp at h⟩
theorem DE.on {B:Nat}{ds:List Deferred}(h:DE B V m w ds)(aa:AH T n V m w ab ad Z):DE B ab ad Z ds:=by
 obtain⟨p,j,C,O,z⟩:=h;refine⟨t8 p aa.size,j,C,O,fun D A=>?_⟩;obtain⟨N,i,E⟩:=z D A;have K:=(te.1 i).1;refine⟨N,by rw[aa.old D K E];exact i,fun id M H=>?_⟩;rcases aa.back M H with q|⟨W,q2⟩
 .omega
 .exact E id W q2
structure Rel (T:Tab) (n:Nat) (ρ :Nat->Option Nat) (l:Loc) (a:Act) (w:World):Prop where
 defers:DE T.base ρ l.mem w a.defers
 size:a.tmps.size=l.tmps.n
 tmps:∀i c,l.tmps.get i=some c->AA T n ρ l.mem w c (a.tmps.getD i undef)
 mem:AG T n ρ l.mem w
variable{l:Loc}{tmps:AV}{c:AC}{v:Value}{a0:List Nat}{J:Array Oper}
theorem Rel.at (h:Rel T n V l a w)(t:Nat):AA T n V l.mem w ((l.tmps.get t).getD .any) (a.tmps.getD t undef):=by
 cases i:l.tmps.get t with
 |none=>exact trivial
 |some c=>exact h.tmps t c i
theorem Rel.on (h:Rel T n V ⟨tmps,m⟩ a w)(aa:AH T n V m w ab ad Z)(q:n<=ak)(p:AG T ak ab ad Z):Rel T ak ab ⟨tmps,ad⟩ a Z:=
 ⟨h.defers.on aa,h.size,fun i c j=>AA.mono aa h.mem q c _ (h.tmps i c j),p⟩
theorem Rel.put (h:Rel T n V ⟨tmps,m⟩ a w)(aG:Option Tmp)(p:AA T n V m w c v):
  Rel T n V ⟨Cv tmps aG c,m⟩ (a.put aG v) w:=by
 cases aG with
 |none=>exact h
 |some d=>
  have z:a.tmps.size=tmps.n:=h.size;refine⟨h.defers,by simp[Act.put,Cv,AV.set_n,z],fun i e q=>?_,h.mem⟩;rcases AV.get_set _ _ _ _ q with⟨C,O,j⟩|⟨C,O⟩
  .subst C;subst j;simp only[Act.put,tf,ul,if_true];rw[vC (by omega)];exact p
  .have:=h.tmps i e O;simp only[Act.put,tf,ul] at this⊢;by_cases hd:d=i
   .have:=C hd;subst hd;rw[vC rfl,vA (by omega)];have j:=h.tmps d e O;rw[tf,Array.getElem?_eq_none (by omega)] at j;exact j
   .rw[vA hd];exact this
theorem Rel.less {s:AV}(h:Rel T n V l a w)(p:s.n=l.tmps.n)(aa:∀i c,s.get i=some c->l.tmps.get i=some c):Rel T n V ⟨s,l.mem⟩ a w:=
 ⟨h.defers,by rw[h.size];exact p.symm,fun i c j=>h.tmps i c (aa i c j),h.mem⟩
theorem Qz (j:∀c∈a0,T c= .bool true)(h:AA T n V m w c v):AA T n V m w (OQ a0 c) v:=by
 cases c<;>try exact h
 case on c d=>
  simp only[OQ];split
  .rename_i i;exact h.2 (j c (by simpa using i))
  .exact h
 case gd c d=>
  simp only[OQ];split
  .rename_i i;exact h.2.1 (j c (by simpa using i))
  .exact h
theorem GA (h:Rel T n V ⟨tmps,m⟩ a w)(i:∀c∈a0,T c= .bool true)(x:Operand):AA T n V m w (C0 a0 tmps x) (a.eval x):=by
 cases x with
 |tmp t=>exact Qz i (h.at t)
 |const v=>exact Hb v
 |global g=>exact trivial
 |func f=>exact⟨[],[],rfl,rfl,rfl⟩
structure Fh (T:Tab) (ops:Array Oper) (n:Nat) (a:Act) (e:GE):Prop where
 lt:e.p < n
 bool:∃b,T e.p= .bool b
 iff:T e.p= .bool true↔yielded ops a.tmps e.j=some e.want
 imp:T e.p= .bool true->∀c∈e.imp,T c= .bool true
 ne:e.imp≠[]
structure Bu (T:Tab) (ρ :Nat->Option Nat) (ops:Array Oper) (s:RS) (a:Act) (w:World):Prop where
 rel:Rel T s.g.n ρ ⟨s.tmps,s.mem⟩ a w
 ges:∀e∈s.gl,Fh T ops s.g.n a e
theorem Fh.up {e:GE}(h:Fh T J n a e)(i:n<=ak):Fh T J ak a e:=⟨td h.lt i,h.bool,h.iff,h.imp,h.ne⟩
theorem br {q:PC}{base:List Nat}{s an:RS}{j:Nat}{aX:Bool}{run:Option (PC × List Nat)}(h:EP q base s j aX c=some (run,an))(hA:Agr T an.g)(K:BK T s.g q)
  (Y:Bu T V J s a w) (N:yielded J a.tmps j=(match v with| .bool b=>some b|_=>none)) (M:pcv T q->AA T s.g.n V s.mem w c v) (bl:¬pcv T q->v=undef) (bi:pcv T q->∀c∈base,T c= .bool true):
  an.tmps=s.tmps/\an.mem=s.mem/\AX s.g an.g/\Bu T V J an a w/\(run=none->yielded J a.tmps j≠some aX)/\
   (∀i a0,run=some (i,a0)->(yielded J a.tmps j=some aX↔pcv T i)/\(pcv T i->∀c∈a0,T c= .bool true)/\BK T an.g i/\((a0=[]/\i=q/\base=[])\/a0≠[]/\((∃p,i=some p)\/(i=q/\a0=base)))):=by
 have bm:v=undef->yielded J a.tmps j=none:=fun e=>by rw[N,e];rfl
 have ag:∀(x:Nat) (pol:Bool),(pcv T q->x < s.g.n/\∃D,T x= .bool D/\v= .bool (if pol then D else !D))->
   (some (some (some s.g.n,s.g.n::base),{ s with g:=s.g.pushAll [Cz q x (if pol then aX else !aX)],gl:=⟨j,aX,s.g.n,s.g.n::base⟩::s.gl }):Option (Option (PC × List Nat) × RS))=some (run,an)->
   an.tmps=s.tmps/\an.mem=s.mem/\AX s.g an.g/\Bu T V J an a w/\(run=none->yielded J a.tmps j≠some aX)/\
   (∀i a0,run=some (i,a0)->(yielded J a.tmps j=some aX↔pcv T i)/\(pcv T i->∀c∈a0,T c= .bool true)/\BK T an.g i/\((a0=[]/\i=q/\base=[])\/a0≠[]/\((∃p,i=some p)\/(i=q/\a0=base)))):=by
  intro x pol hx z;cases z;have bc:Agr T (s.g.pushAll [Cz q x (if pol then aX else !aX)]):=hA;have a3:T s.g.n=(Cz q x (if pol then aX else !aX)).eval T:=bc.new.head;have ao:∃b,T s.g.n= .bool b:=by
   rw[a3];by_cases A:pcv T q
   .obtain⟨C,D,O,E⟩:=hx A;obtain⟨b,e,_⟩:=TV (aX:=if pol then aX else !aX) K O;exact⟨b,e⟩
   .obtain⟨b,e,_⟩:=Tf (x:=x) (aX:=if pol then aX else !aX) K A;exact⟨b,e⟩
  have a8:T s.g.n= .bool true↔yielded J a.tmps j=some aX:=by
   rw[a3];by_cases A:pcv T q
   .obtain⟨C,D,O,E⟩:=hx A;rw[N,E];obtain⟨b,e,this⟩:=TV (aX:=if pol then aX else !aX) K O;rw[e];constructor
    .intro z;have:=(this.1 (by injection z)).2;cases pol<;>simp at this⊢ <;>simp[this]
    .intro z;have H:D=(if pol then aX else !aX):=by cases pol<;>simp at z⊢ <;>simp[<-z]
     rw[this.2 ⟨A,H⟩]
   .rw[bm (bl A)];obtain⟨b,e,H⟩:=Tf (x:=x) (aX:=if pol then aX else !aX) K A;grind
  have a1:T s.g.n= .bool true->∀c∈s.g.n::base,T c= .bool true:=by
   grind
  have bj:Fh T J (s.g.pushAll [Cz q x (if pol then aX else !aX)]).n a ⟨j,aX,s.g.n,s.g.n::base⟩:=⟨by rw[Bb];simp,ao,a8,a1,fun h=>by cases h⟩;refine⟨rfl,rfl,(show AX s.g (s.g.pushAll [Cz q x (if pol then aX else !aX)]) from AX.push _ _),⟨?_,fun e z=>?_⟩,(fun h=>by cases h),fun i a0 z=>?_⟩
  .exact Y.rel.on (AH.refl _ _ _ _ _) (by rw[Bb];omega) (Y.rel.mem.mono (by rw[Bb];omega))
  .cases z with
   |head=>exact bj
   |tail _ z=>exact (Y.ges e z).up (by rw[Bb];omega)
  .cases z;exact⟨a8.symm,a1,⟨by rw[Bb];simp,ao⟩,.inr ⟨(fun h=>by cases h),.inl ⟨_,rfl⟩⟩⟩
 cases c<;>simp only[EP] at h<;>try (cases h;done)
 case cb b=>
  split at h
  .rename_i H;cases h;refine⟨rfl,rfl,AX.refl _,Y,(fun h=>by cases h),fun i a0 z=>?_⟩;cases z;refine⟨?_,bi,K,?_⟩
   case refine_2=>
    grind
   constructor
   .grind
   .intro A;have:=M A;rw[N,show v=_ from this,H]
  .rename_i H;cases h;refine⟨rfl,rfl,AX.refl _,Y,fun _ W=>?_,fun i a0 z=>by cases z⟩;by_cases A:pcv T q
   .have:=M A;rw[N,show v=_ from this] at W;simp at W;exact H W
   .grind
 case b x=>exact ag x true (fun A=>by obtain⟨C,D,O,E⟩:=M A;exact⟨C,D,O,by simpa using E⟩) (by simpa using h)
 case nb x=>exact ag x false (fun A=>by obtain⟨C,D,O,E⟩:=M A;exact⟨C,D,O,by simpa using E⟩) (by simpa using h)
end
def fen (r:Option Nat):Fence:={ Fence.wide with round:=r }
theorem aW {r:Option Nat}{k:Nat}{P:Program}{f:FuncId}{args:Array Value}{w:World}{R:Ending->World->Prop}(h:Calls P f args w R):CallsIn (fen r) k P f args w R:=
 (callsIn_wide (n:=k)).2 h
def Ko (P:Program)(fv:Value)(args:List Value)(w:World)(R:Ending->World->Prop):Prop:=
 (∃(k:FuncId) (first I:List Value) (aF:Func),fv= .func (.func k) first.toArray I.toArray/\P.funcs[k]? =some aF/\aF.body.isSome=true/\(aF.name== "runtime.NumGoroutine")=false/\Calls P k (first++args++I).toArray w R)\/
 ∃(b:Nat) (q:Loop),fv= .func (.yield b) #[] #[]/\w.heap[b]? =some (.loop q)/\args.length=q.params.size/\
  ∀k,RoundIn Fence.wide k P b q.fn ((q.params.zip args.toArray).foldl (fun t (p,v)=>t.setIfInBounds p v) q.tmps) q.assign q.body w R
def GY (T:Tab)(g:G)(V :Nat->Option Nat)(m:Mem)(w:World)(c:AC)(ad:Mem)(al:G):Ending->World->Prop:=
 fun e Z=>∃v ab,e= .returned v/\AH T g.n V m w ab ad Z/\AG T al.n ab ad Z/\AA T al.n ab ad Z c v
def YfOK (P:Program)(T:Tab)(i:Nat)(y:YF):Prop:=
 ∀id args ac m g c ad al,y id args ac m g=some (c,ad,al)->AX g al/\(Agr T al->Aj T al->pcv T ac->BK T g ac->∀h,m.at id= .lp i h->∀ V w W,AB T g.n V m w args W->AG T g.n V m w->
  ∀b, V id=some b->Ko P (.func (.yield b) #[] #[]) W w (GY T g V m w c ad al))
def YsOK (P:Program)(T:Tab)(aj:Ys):Prop:=∀h y,aj h=some y->YfOK P T h y
def Ce (P:Program)(h:Nat->CO)(aj:Ys):Prop:=∀T:Tab,T.lp=h->YsOK P T aj
def CL (P:Program)(T:Tab)(call:Au):Prop:=
 ∀aj k args ac m g c ad al,Ce P T.lp aj->call aj k args ac m g=some (c,ad,al)->AX g al/\(Agr T al->Aj T al->pcv T ac->BK T g ac->∀ V w W,AB T g.n V m w args W->AG T g.n V m w->
  (∃aF,P.funcs[k]? =some aF/\aF.body.isSome=true/\(aF.name== "runtime.NumGoroutine")=false)/\
  Calls P k (W:List Value).toArray w (GY T g V m w c ad al))
section
variable {P:Program}{T:Tab}{n ak:Nat}{V ab:Nat->Option Nat}{m ad:Mem}{w Z:World}{a:Act}
variable{J:Array Oper}{s:RS}{o:Oper}{aG:Option Tmp}
theorem OW {ac:PC}{an:RS}{run:Option (PC × List Nat)}(h:Dj J ac s o=some (run,an))(hA:Agr T an.g)(a1:pcv T ac)(hk:BK T s.g ac)(Y:Bu T V J s a w):
  an.tmps=s.tmps/\an.mem=s.mem/\AX s.g an.g/\Bu T V J an a w/\(run=none->Region.wanted o (yielded J a.tmps)=false)/\
   (∀i a0,run=some (i,a0)->(Region.wanted o (yielded J a.tmps)=true↔pcv T i)/\(pcv T i->∀c∈a0,T c= .bool true)/\BK T an.g i/\
    (a0=[]->pcv T i)/\(a0≠[]->(∃p,i=some p)/\∃q,o.guard=some q)):=by
 unfold Dj at h;cases hg:o.guard with
 |none=>
  rw[hg] at h;cases h;refine⟨rfl,rfl,AX.refl _,Y,(fun h=>by cases h),fun i a0 A=>?_⟩;cases A;exact⟨by simp[Region.wanted,hg,a1],fun _ c z=>(by cases z),hk,fun _=>a1,fun h=>absurd rfl h⟩
 |some jw=>
  obtain⟨j,aX⟩:=jw;have a5:(Region.wanted o (yielded J a.tmps)=true↔yielded J a.tmps j=some aX):=by simp[Region.wanted,hg]
  rw[hg] at h;simp only at h;split at h
  .rename_i e aw A;cases h;have b2:∀x∈e::aw,x∈s.gl/\x.j=j/\x.want=aX:=by
    intro x hx;rw[<-A] at hx;obtain⟨C,O⟩:=List.mem_filter.1 hx;simp only[tV] at O;exact⟨C,tW O.1,by simpa using O.2⟩
   obtain⟨bl,hj,M⟩:=b2 e (tl ..);have D:=Y.ges e bl;refine⟨rfl,rfl,AX.refl _,Y,(fun h=>by cases h),fun i a0 A=>?_⟩;cases A;refine⟨?_,?_,⟨D.lt,D.bool⟩,fun h=>?_,fun _=>⟨⟨_,rfl⟩,_,rfl⟩⟩
   .rw[a5,<-hj,<-M];exact D.iff.symm
   .intro hp c z;rcases uY.1 z with z|z
    .exact D.imp hp c z
    .obtain⟨l,hl,z⟩:=List.mem_flatten.1 z;obtain⟨x,hx,rfl⟩:=vG.1 hl;obtain⟨k1,E,k3⟩:=b2 x (th _ hx);have b3:=Y.ges x k1;refine b3.imp (b3.iff.2 ?_) c z;rw[E,k3,<-hj,<-M];exact D.iff.1 hp
   .exact absurd (List.append_eq_nil_iff.1 h).1 D.ne
  .rename_i c5;simp only[tX,tU] at h;obtain⟨aq,cs,d,hd,c,z,h⟩:=h;have hv:=Y.rel.tmps d c z;have hy:yielded J a.tmps j=(match a.tmps.getD d undef with| .bool b=>some b|_=>none):=by
    simp only[yielded,cs,uM,hd];rcases tu d a.tmps.size with bj|bj
    .have bi:a.tmps[d]? =some (a.tmps.getD d undef):=by simp[tf,bj]
     rw[bi];generalize a.tmps.getD d undef=v;cases v<;>rfl
    .have bi:a.tmps[d]? =none:=Array.getElem?_eq_none bj;rw[tf,bi];rfl
   have b0:∀(H:PC) (base:List Nat) (aV:AC),EP H base s j aX aV=some (run,an)->BK T s.g H->(pcv T H->AA T s.g.n V s.mem w aV (a.tmps.getD d undef))->(¬pcv T H->a.tmps.getD d undef=undef)->(pcv T H->∀c∈base,T c= .bool true)->
     ((H=ac/\base=[])\/(base≠[]/\∃p,H=some p))->
     an.tmps=s.tmps/\an.mem=s.mem/\AX s.g an.g/\Bu T V J an a w/\(run=none->Region.wanted o (yielded J a.tmps)=false)/\
     (∀i a0,run=some (i,a0)->(Region.wanted o (yielded J a.tmps)=true↔pcv T i)/\(pcv T i->∀c∈a0,T c= .bool true)/\BK T an.g i/\
      (a0=[]->pcv T i)/\(a0≠[]->(∃p,i=some p)/\∃q,(some (j,aX):Option (Nat × Bool))=some q)):=by
    intro H base aV C O h3 h4 h5 h6;obtain⟨k1,E,k3,k4,k5,k6⟩:=br C hA O Y hy h3 h4 h5;refine⟨k1,E,k3,k4,fun hn=>?_,fun i a0 A=>?_⟩
    .have:=k5 hn;cases M:Region.wanted o (yielded J a.tmps) with
     |false=>rfl
     |true=>exact absurd (a5.1 M) this
    .obtain⟨q1,q2,q3,q4⟩:=k6 i a0 A;refine⟨a5.trans q1,q2,q3,fun cj=>?_,fun N=>⟨?_,_,rfl⟩⟩
     .rcases q4 with⟨_,K,e2⟩|⟨N,_⟩
      .rcases h6 with⟨e3,_⟩|⟨e3,_⟩
       .rw[K,e3];exact a1
       .exact absurd e2 e3
      .exact absurd cj N
     .rcases q4 with⟨K,_⟩|⟨_,q5|⟨q5,q6⟩⟩
      .exact absurd K N
      .exact q5
      .rcases h6 with⟨_,e4⟩|⟨_,e5⟩
       .rw[q6,e4] at N;exact absurd rfl N
       .rw[q5];exact e5
   split at h
   .
    cases h;obtain⟨W,K,e2⟩:=hv;rw[show W=[] from e2] at K;refine⟨rfl,rfl,AX.refl _,Y,fun _=>?_,fun i a0 A=>by cases A⟩;cases M:Region.wanted o (yielded J a.tmps) with
    |false=>rfl
    |true=>
     have:=a5.1 M;rw[hy,K] at this;cases this
   .rename_i cc aV;simp only[tU] at h;obtain⟨e,A,h⟩:=h;have bl:=List.mem_of_find?_eq_some A;have cu:=List.find?_some A;have hp:e.p=cc:=tW cu;subst hp;have D:=Y.ges e bl;exact b0 (some e.p) e.imp aV h ⟨D.lt,D.bool⟩ hv.2.1 hv.2.2 D.imp (.inr ⟨D.ne,_,rfl⟩)
   .exact b0 ac [] c h hk (fun _=>hv) (fun hn=>absurd a1 hn) (fun _ c z=>by cases z) (.inl ⟨rfl,rfl⟩)
theorem JJ {j:Nat}(h:((J[j]?).bind (·.dst))≠aG)(v:Value):yielded J (a.put aG v).tmps j=yielded J a.tmps j:=by
 cases aG with
 |none=>rfl
 |some d=>
  simp only[yielded,Act.put];cases hd:(J[j]?).bind (·.dst) with
  |none=>rfl
  |some e=>
   have p:d≠e:=fun i=>by rw[hd,i] at h;exact h rfl
   simp only[uM,ul,p,if_false]
theorem V6:∀(x y:Blk),Blk.beq x y=true->x=y
 | .pad,y,h=>by cases y<;>simp_all [Blk.beq]
 | .gone,y,h=>by cases y<;>simp_all [Blk.beq]
 | .cells l e,y,h=>by
  cases y<;>simp[Blk.beq] at h;rw[AC.beqL_eq l _ h.1,h.2]
 | .tok x ks e,y,h=>by
  cases y<;>simp[Blk.beq] at h;rw[h.1.1,Kd.beqs_eq ks _ h.1.2,h.2]
 | .lp x a,y,h=>by
  cases y<;>simp[Blk.beq] at h;rw[h.1,AC.beq_eq a _ h.2]
 | .mrow x z ks e,y,h=>by
  cases y<;>simp[Blk.beq] at h;rw[h.1.1.1,h.1.1.2,Kd.beqs_eq ks _ h.1.2,h.2]
 | .mapb x ai ka aN aU,y,h=>by
  cases y<;>simp[Blk.beq] at h;rw[h.1.1.1.1,Kd.beqs_eq ai _ h.1.1.1.2,h.1.1.2,Kd.beqs_eq aN _ h.1.2,h.2]
theorem GD:∀{m ad:Mem},GL m ad=true->m.length<=ad.length/\∀id,id < m.length->ad.at id=m.at id
 |[],_,_=>⟨uQ _,fun id h=>by simp at h⟩
 |_::_,[],h=>by cases h
 |x::m,y::ad,h=>by
  simp only[GL,tV] at h;obtain⟨C,O⟩:=GD h.2;refine⟨by simp;omega,fun id i=>?_⟩;cases id with
  |zero=>simp[Mem.at,V6 _ _ h.1]
  |succ id=>
   have:=O id (by simpa using i);simpa [Mem.at] using this
theorem N9 (m:Mem)(k:Nat)(id:Nat):Mem.at (m++List.replicate k .gone) id=if id < m.length then m.at id else if id < m.length+k then .gone else .pad:=by
 unfold Mem.at;grind
theorem gI {f:Operand}{args:Array Operand}{ar:Array TypeId}{k:FuncId}{first I:List Value}{aF:Func}(q:o.op= .call { callee:= .value f,args,argTypes:=ar })
  (p:a.eval f= .func (.func k) first.toArray I.toArray) (C:P.funcs[k]? =some aF) (O:aF.body.isSome=true) (i:(aF.name== "runtime.NumGoroutine")=false):
  (execOp a.eval o).run P w= .ok (.enter k (first++(args.toList.map a.eval)++I).toArray) w:=by
 have j:aF.body.isNone=false:=by cases z:aF.body with|none=>rw[z] at O;cases O|some=>rfl
 have h:first.toArray++args.map a.eval++I.toArray=(first++(args.toList.map a.eval)++I).toArray:=by
  apply Array.ext';simp
 simp only[execOp,q,resolve,p,Deferred.ofValue,ua,uh,uZ,invoke,callFunc,run_program,C,i,j,uE,if_false,h]
theorem Bu.put (Y:Bu T V J s a w)(hd:s.gl.any (fun e=>((J[e.j]?).bind (·.dst))==aG)=false){al:G}(i:AX s.g al){h:Mem}
  (aa:AH T s.g.n V s.mem w ab h Z) (q:AG T al.n ab h Z) {c:AC} {v:Value} (j:AA T al.n ab h Z c v):
  Bu T ab J { s with tmps:=Cv s.tmps aG c,mem:=h,g:=al } (a.put aG v) Z:=by
 refine⟨(Y.rel.on aa i.n q).put aG j,fun e p=>?_⟩;have C:=(Y.ges e p).up i.n;have z:((J[e.j]?).bind (·.dst))≠aG:=by
  grind
 exact⟨C.lt,C.bool,by rw[JJ z];exact C.iff,C.imp,C.ne⟩
end
end
end Go.Eng
end
