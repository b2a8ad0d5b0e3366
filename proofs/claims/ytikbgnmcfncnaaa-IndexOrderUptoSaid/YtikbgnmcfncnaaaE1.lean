/-
  A part of the proof: the evaluator of code and its soundness.
-/
import Derived.Test.YtikbgnmcfncnaaaE0
import Derived.Laws.Pointers
import Derived.Lib.AppendZeros
import Derived.RangeFuncRecord
set_option linter.unusedVariables false
set_option linter.unusedSimpArgs false
noncomputable section
namespace Go.Eng
section
open Go Go.RowKit
section
variable {P:Program}{T:Tab}{n aj:Nat}{V ac:Nat->Option Nat}{m ag:Mem}{w ab:World}{g:G}{r:R}
variable{id:Nat}{e:TypeId}{l:U'}
theorem TI (z:AH T n V m w)(bt:n < aj){y:Nat}{ky ks:List Kd}(al:m.at id= .tok y ky e)(E:∀j,j≠id-> ac j= V j)
  (os:ab.os=w.os) (tape:ab.tape=w.tape) (output:ab.output=w.output) (size:w.heap.size<=ab.heap.size)
  (aw:∀k,k < w.heap.size-> V id≠some k->ab.heap[k]? =w.heap[k]?)
  (b2:∀b, V id=some b->∀off,off < CH T y ky->ab.cell? ⟨b,off,none⟩=w.cell? ⟨b,off,none⟩)
  (bl:∀b', ac id=some b'->(V id=some b'/\CH T y ky<=CH T n ks)\/w.heap.size<=b')
  {q:U'} (hT:T n= .list q) (bm: ac id=none\/∃b W, ac id=some b/\ab.heap[b]? =some (.cells W e (0,0))/\q.length*ks.length<=W.size/\∀off,T.fr b off):
  AI T n V m w ac (m.set id (.tok n ks e)) ab/\AH T aj ac (m.set id (.tok n ks e)) ab:=by
 have bs:m.at id≠ .pad:=by rw[al];exact fun h=>by cases h
 have D:∀j,Mem.at (m.set id (.tok n ks e)) j=if j=id then .tok n ks e else m.at j:=fun j=>Gq m id (.tok n ks e) j bs
 have M:(m.at id).tracked=true:=by rw[al];rfl
 have aa:AI T n V m w ac (m.set id (.tok n ks e)) ab:={
  os:=os
  tape:=tape
  output:=output
  size:=size
  mlen:=fun j h=>by rw[D j];split<;>first|exact (fun h=>by cases h)|exact h
  rho:=fun j h=>by
   have p:j≠id:=fun e'=>by subst e';rw[al] at h;cases h
   grind
  untr:=fun j h i=>by
   grind
  fresh:=fun j b h i A=>by
   rw[D j] at i;split at i
   .grind
   .rw[h] at i;cases i
  old:=fun k hk bx=>aw k hk (bx id M)
  tok:=fun j x kx e' h=>by
   by_cases p:j=id
   .grind
   .refine .inl ⟨by rw[D j,ACD p];exact h,E j p,fun b A=>aw b (z.lt (by rw[h];rfl) A) (fun F=>?_)⟩;exact p (z.inj j id b (by rw[h];rfl) M A F)
  row:=fun j x aF kx e' h=>by
   have p:j≠id:=fun e'=>by subst e';rw[al] at h;cases h
   refine .inr ⟨x,aF,kx,by rw[D j,ACD p];exact h,rfl,.inl ⟨rfl,E j p,fun b W A hv=>⟨W,?_,rfl⟩⟩⟩;rw[aw b (z.lt (by rw[h];rfl) A) (fun F=>p (z.inj j id b (by rw[h];rfl) M A F))];exact hv }
 refine⟨aa,⟨fun j=>?_,fun j j' b i b0 C O=>?_,fun b off h=>z.fr b off (ABS aa.size h)⟩⟩
 .by_cases p:j=id
  .subst p;rw[D j,ACE rfl];exact⟨bt,q,hT,bm⟩
  .by_cases i:(m.at j).tracked=true
   .refine BS.step aa z (by omega) (by rw[D j,ACD p]) (E j p) (fun b A=>aw b (z.lt i A) (fun F=>p (z.inj j id b i M A F)))
   .rw[D j,ACD p];cases N:m.at j with
    |pad=>trivial
    |gone=>trivial
    |cells=>rw[N] at i;exact absurd rfl i
    |lp=>rw[N] at i;exact absurd rfl i
    |tok=>rw[N] at i;exact absurd rfl i
    |mrow=>rw[N] at i;exact absurd rfl i
    |mapb=>rw[N] at i;exact absurd rfl i
 .have tr:∀k,(Mem.at (m.set id (.tok n ks e)) k).tracked=true->(m.at k).tracked=true:=fun k hk=>by
   grind
  have one:∀j b,(m.at j).tracked=true->j≠id-> ac j=some b-> ac id=some b->False:=by
   intro j b i p C O;rw[E j p] at C;rcases bl b O with⟨h3,_⟩|h3
   .exact p (z.inj j id b i M C h3)
   .have:=z.lt i C;omega
  by_cases p:j=id
  .grind
  .by_cases bo:j'=id
   .grind
   .rw[E j p] at C;rw[E j' bo] at O;exact z.inj j j' b (tr j i) (tr j' b0) C O
theorem fK (F:AH T n V m w)(a0:n < aj){ks:List Kd}{a:Option Addr}(D:T n= .list l)(N:AX (Ag T V m w) w (.list ks) (.list l) (.slice a l.length l.length)):
  ∃ ac,AI T n V m w ac (m++[.tok n ks e]) w/\AH T aj ac (m++[.tok n ks e]) w/\AA T aj ac (m++[.tok n ks e]) w (.vec m.length n ks) (.slice a l.length l.length):=by
 let ac:Nat->Option Nat:=fun j=>if j=m.length then none else V j
 have same: ac m.length=none:=by simp[ac]
 have z:∀j,j≠m.length-> ac j= V j:=fun j h=>by simp[ac,h]
 have A:m.at m.length= .pad:=Mem.at_ge (ABB _);have aa:AI T n V m w ac (m++[.tok n ks e]) w:={
  os:=rfl
  tape:=rfl
  output:=rfl
  size:=ABB _
  mlen:=fun id h=>by rw[AV];split<;>first|exact (fun h=>by cases h)|exact h
  rho:=fun id h=>by
   have:id≠m.length:=fun e=>by subst e;exact BM h A
   rw[AV,ACD this];grind
  untr:=fun id h i=>by
   have:id≠m.length:=fun e=>by subst e;exact h A
   rw[AV,ACD this] at i;exact i
  fresh:=fun id b h i M=>by
   by_cases e:id=m.length
   .grind
   .rw[AV,ACD e,h] at i;cases i
  old:=fun k hk _=>rfl
  tok:=fun id y ky e h=>by
   have:id≠m.length:=fun e=>by subst e;rw[A] at h;cases h
   exact .inl ⟨by rw[AV,ACD this];exact h,z _ this,fun b hb=>rfl⟩
  row:=fun id L aF ky e h=>by
   have:id≠m.length:=fun e=>by subst e;rw[A] at h;cases h
   exact .inr ⟨L,aF,ky,by rw[AV,ACD this];exact h,rfl,.inl ⟨rfl,z _ this,fun b W hb N=>⟨W,N,rfl⟩⟩⟩ }
 have al:Mem.at (m++[.tok n ks e]) m.length= .tok n ks e:=by rw[AV,ACE rfl]
 refine⟨ac,aa,⟨fun id=>?_,fun id a9 b i a4 M a1=>?_,fun b off h=>F.fr b off h⟩,a0,by rw[al];exact (fun h=>by cases h),?_,fun af e' E=> .inl ⟨same,a,by rw[D];rfl⟩⟩
 .by_cases p:id=m.length
  .subst p;rw[al];exact⟨a0,_,D,.inl same⟩
  .by_cases i:(m.at id).tracked=true
   .exact BS.step aa F (by omega) (by rw[AV,ACD p]) (z _ p) (fun b hb=>rfl)
   .rw[AV,ACD p];cases q:m.at id with
    |pad=>trivial
    |gone=>trivial
    |cells=>rw[q] at i;exact absurd rfl i
    |lp=>rw[q] at i;exact absurd rfl i
    |tok=>rw[q] at i;exact absurd rfl i
    |mrow=>rw[q] at i;exact absurd rfl i
    |mapb=>rw[q] at i;exact absurd rfl i
 .by_cases p:id=m.length
  .grind
  .by_cases E:a9=m.length
   .grind
   .rw[AV,ACD p] at i;rw[AV,ACD E] at a4;rw[z _ p] at M;rw[z _ E] at a1;exact F.inj id a9 b i a4 M a1
 .rw[D];exact AX.mono (fun _ _ h=>aa.safe0 h) _ _ _ N
theorem Xa (i:AH T n V m w)(j:n < aj){ks:List Kd}(h:T n= .list []):
  ∃ ac,AI T n V m w ac (m++[.tok n ks e]) w/\AH T aj ac (m++[.tok n ks e]) w/\AA T aj ac (m++[.tok n ks e]) w (.vec m.length n ks) (.slice none 0 0):=
 fK i j h (HX _ _)
theorem DR {t az:TypeId}{i:TypeInfo}(z:P.underlying t=some (.slice e))(Y:P.info? e=some i)(base a:Option Addr)(p j c:Nat)(h:p<=j):
  (Builtin.append_ #[t,t] az #[.slice base p j,.slice a 0 c]).run P w= .ok (.slice base p j) w:=by
 have q:(Builtin.firstCells i.size 0 (.slice a 0 c)).run P w= .ok #[] w:=by
  cases a with
  |none=>simp[Builtin.firstCells]
  |some a=>simp[Builtin.firstCells,loadCells,loadCellsFrom]
 cases base<;>simp[Builtin.append_,run_underlying z,sizeOf,typeInfo,Y,Builtin.lenOf,h,q,storeCells]
theorem PT (W:List Value)(z:Array Value)(p:Nat)(h:p < W.length):(W.toArray++z)[p]? =W[p]? :=by
 grind
theorem OE (hm:AH T n V m w)(aa:AI T n V m w ac ag ab)(a0:AH T aj ac ag ab)(a4:n < aj){b I:Nat}{ks:List Kd}{W:List Value}{A:Array Value}(a1:ks≠[])
  (i:ag.at id= .tok n ks e) (D: ac id=some b) (N:∀p,p < l.length*ks.length->T.fr b p) (hv:Ah (Ag T V m w) w ks l W) (hk:l.length<=AB) (j:T n= .list l) (q:ab.heap[b]? =some (.cells A e (0,0)))
  (F:∀p,p < l.length*ks.length->A[p]? =W[p]?) (M:l.length<=I) (bi:I*ks.length<=A.size):
  AA T aj ac ag ab (.vec id n ks) (.slice (some ⟨b,0,none⟩) l.length I):=by
 have ba:CH T n ks=l.length*ks.length:=by simp[CH,j,U.toL]
 refine⟨a4,by rw[i];exact (fun h=>by cases h),⟨l,j,hk,fun h=>absurd h a1,some ⟨b,0,none⟩,I,rfl,M,fun _=>⟨b,0,rfl,?_⟩⟩,fun af e' E=>?_⟩
 .refine hv.holds (o:=0) (fun b off ho=>aa.safe hm ho) (fun p z=>⟨?_,?_⟩)
  .rw[ABJ];refine bK (ABF.1 q).1 (N p z) i D (fun bm bk bc=>a0.inj bm id b bk (by rw[i];rfl) bc D) (by rw[ba];exact z)
  .simp only[World.cell?,q,ABJ];exact F p z
 .rw[i] at E;cases E;exact .inr ⟨b,I,A,D,by simp[j,U.toL],q,bi⟩
end
section
variable {P:Program}{T:Tab}{n aj:Nat}{V ac:Nat->Option Nat}{m ag:Mem}{w ab:World}{g:G}{r:R}
theorem lS {k b:Nat}(i:0 < b)(h:k*b<=140737488355328):k<=AB/\(k:Int)<=9223372036854775807:=by
 have:k<=k*b:=Nat.le_mul_of_pos_right _ i;simp only[AB];omega
theorem VZ {h E:List Kd}{s:Nat}(aa:0 < s)(O:E.length=s)(C:h.length=s):(HW h E).length=s:=by
 cases h with
 |nil=>simp at C;omega
 |cons a h=>
  cases E with
  |nil=>simp at O;omega
  |cons b E=>
   simp only[HW];rw[Kd.joins_len _ _ (by omega)];exact C
theorem Iz {ok:Nat->Nat->Prop}{ks:List Kd}{u:U}{v:Value}(h:AX ok w (.list ks) u v):
  ∃l a I,u= .list l/\v= .slice a l.length I/\l.length<=I/\(ks=[]->l=[])/\∃W,Ah ok w ks l W/\(0 < l.length->∃b o,a=some ⟨b,o,none⟩/\∀j u,W[j]? =some u->w.cell? ⟨b,o+j,none⟩=some u):=by
 obtain⟨l,p,_,A,a,I,C,O,q⟩:=h;refine⟨l,a,I,p,C,O,A,?_⟩;rcases AB1 l.length with i|i
 .have:l=[]:=AB3.1 i;subst this;exact⟨[],Ah.nil _ _,fun h=>by simp at h⟩
 .obtain⟨b,o,D,z⟩:=q i;obtain⟨W,E,F⟩:=Ah.of_holds z;grind
def Src (T:Tab)(V :Nat->Option Nat)(m:Mem)(w:World)(ks:List Kd)(u:U)(v:Value):Prop:=
 ∃l a I,u= .list l/\v= .slice a l.length I/\l.length<=I/\(ks=[]->l=[])/\∃W,Ah (Ag T V m w) w ks l W/\(0 < l.length->∃b o,a=some ⟨b,o,none⟩/\∀j u,W[j]? =some u->w.cell? ⟨b,o+j,none⟩=some u)
theorem jx {ay:Array TypeId}{s:AC}{E:List Kd}{aK:Rf}{v u:Value}(h:mj P ay s E aK m g=some r)(es:New T g.n r.us)(ey:∀q∈r.ps,q.holds T)(hm:AH T g.n V m w)(aa:AA T g.n V m w s v)(hx:Src T V m w E (aK.eval T) u)(az:TypeId):
  ∃z ab ac,(Builtin.append_ ay az #[v,u]).run P w= .ok z ab/\AI T g.n V m w ac r.m ab/\AH T (g.n+r.us.length) ac r.m ab/\AA T (g.n+r.us.length) ac r.m ab r.c z:=by
 unfold mj at h;simp only[ABA,AA7] at h;obtain⟨t,hg,h⟩:=h;split at h
 .rename_i e ht;simp only[AA7] at h;obtain⟨i,Y,z,hz,⟨k1,ax⟩,cs,h⟩:=h;simp only at h;split at h
  .rename_i hc;obtain⟨gC,gs,ej,b9,g8,cy⟩:=hc;obtain rfl:ay= #[t,t]:=by
    have:=Gg _ _ gC;exact Array.ext' this
   have ha:=Fs cs aa;obtain⟨ah,db,c2,c1,rfl,_,_,D,e2,dj⟩:=hx;have aw:D.length=ah.length*i.size:=by rw[e2.len,b9]
   cases s<;>try simp only at h
   case cv e7=>
    cases e7<;>try simp only at h
    case nilSlice=>
     cases h;simp only[Jx] at cs;cases cs;have hv:v= .slice none 0 0:=aa;subst hv;have hT:T g.n= .list ah:=by
      have:=es.head;rw[this];simp[Ex.eval,Uo,u0,u1,evc,c1,U.toL]
     have b2:=ey ⟨ "fits " ++toString i.bytes,Hy i.bytes,[.c (.list []),aK]⟩ (by simp);simp only[Pr.holds,Hy,u0,u1,ABQ,ABk,evc,c1,U.toL,ABp,ABJ] at b2;have hb:=lS ej b2;have d1:HW [] E=E:=rfl;rcases AB1 ah.length with hk|hk
     .have:ah=[]:=AB3.1 hk;subst this;obtain⟨ac,f1,f2,f3⟩:=Xa (aj:=g.n+1) (e:=e) (ks:=HW [] E) hm (by omega) hT;exact⟨_,w, ac,DR ht Y none db 0 0 c2 (ABB _),f1,f2,f3⟩
     .obtain⟨b,o,rfl,ca⟩:=dj hk;have bs:=run_append_nil (P:=P) w t az e i z ht Y hz ⟨b,o,none⟩ ah.length c2 D aw (fun j y hj=>by rw[CD];exact ca j y hj) hk hb.2 (by omega);have b1:=grownCap_ge w ah.length 0 e;have c6:E≠[]:=fun h=>by rw[h] at b9;simp at b9;omega
      obtain⟨ac,f1,f2,f3⟩:=XH (e:=e) (aj:=g.n+1) hm (by omega) c6 e2 hb.1 hT (.inr rfl) (A:=D.toArray++Builtin.zeroCells z.cells (grownCap w ah.length 0 e - ah.length)) (I:=grownCap w ah.length 0 e)
       (fun p M=>PT D _ p (by rw[e2.len];exact M)) b1 (by
        simp only[Array.size_append,AB6,size_zeroCells,cy,aw,b9];rw[<-ABc];exact ABY _ (by omega))
      exact⟨_,_, ac,bs,f1,f2,f3⟩
    all_goals cases h
   case vec id y kv=>
    split at h
    .rename_i aF hi e' b7;split at h
     .rename_i hc;obtain⟨rfl,rfl,b8,f8⟩:=hc;have:=Kd.beqs_eq _ _ f8;subst this;cases h;simp only[Jx] at cs;cases cs;obtain⟨hh,gl,e0,gk⟩:=aa;obtain⟨X,a1,aS,cc,cu,gi,gn,ba,e1,di⟩:=Iz e0;have bl:T g.n= .list (X++ah):=by
       rw[es.head];simp[Ex.eval,Uo,u0,u1,eve,cc,c1,U.toL]
      have b2:=ey ⟨ "fits " ++toString i.bytes,Hy i.bytes,[.e y,aK]⟩ (by simp);simp only[Pr.holds,Hy,u0,u1,ABQ,ABk,eve,cc,c1,U.toL] at b2;have hb:=lS ej b2;have ev:CH T y k1=X.length*k1.length:=by simp[CH,cc,U.toL]
      have c6:E≠[]:=fun h=>by rw[h] at b9;simp at b9;omega
      have gm:k1≠[]:=fun h=>by rw[h] at b8;simp at b8;omega
      have e8:∀b I,v= .slice (some ⟨b,0,none⟩) X.length I->∀j x,ba[j]? =some x->w.cell? ⟨b,0+j,none⟩=some x:=by
       intro b I e5 j x hj;rw[cu] at e5;cases e5;have f7:0 < X.length:=by
        have h9:=(ABD.1 hj).1;rw[e1.len] at h9;rcases AB1 X.length with h0|h0
        .rw[h0] at h9;simp at h9
        .exact h0
       obtain⟨b',o',he,ca⟩:=di f7;cases he;exact ca j x hj
      have c9:=e1.app e2 gn c6 (fun _=>by omega);have bc:=VZ gs b9 b8;generalize gd:HW k1 E=ks at*;have cl:ks≠[]:=fun h=>by rw[h] at bc;simp at bc;omega
      have bm:ba.length=X.length*i.size:=by rw[e1.len,b8]
      have bi:(X++ah).length=X.length+ah.length:=ABM;have gp:CH T g.n ks=(X.length+ah.length)*i.size:=by simp[CH,bl,U.toL,bc]
      have eq:CH T y k1<=CH T g.n ks:=by rw[ev,gp,b8];exact ABY _ (by omega)
      have ci:Mem.at (m.set id (.tok g.n ks e)) id= .tok g.n ks e:=by rw[Gq m id _ id gl,ACE rfl]
      have gv:(m.at id).tracked=true:=by rw[b7];rfl
      rcases gk k1 e b7 with⟨c7,a0,d3⟩|⟨b,I,F,b3,rfl,ce,c4⟩
      .
       have fs:(T y).toL=X:=by rw[cc];rfl
       rw[fs] at d3;obtain⟨rfl,rfl⟩:a0=a1/\aS=X.length:=by rw[d3] at cu;cases cu;exact⟨rfl,rfl⟩
       subst d3;rcases AB1 ah.length with hk|hk
       .have:ah=[]:=AB3.1 hk;subst this;have d4:D=[]:=by simpa using aw
        subst d4;simp only[ABx,ABp,Nat.add_zero] at*;obtain⟨f1,f2⟩:=TI (ac:= V) (ab:=w) (aj:=g.n+1) (ks:=ks) hm (by omega) b7 (fun _ _=>rfl) rfl rfl rfl (ABB _) (fun _ _ _=>rfl) (fun _ _ _ _=>rfl) (fun b' W=>by rw[c7] at W;cases W) bl (.inl c7);refine⟨_,w, V,DR ht Y a0 db X.length X.length c2 (ABB _),f1,f2,?_⟩;refine⟨by simp,by rw[ci];exact (fun h=>by cases h),?_,fun hl g7 g9=> .inl ⟨c7,a0,by rw[bl];rfl⟩⟩;rw[bl];refine⟨X,rfl,hb.1,fun h=>absurd h cl,a0,X.length,rfl,ABB _,fun M=>?_⟩;obtain⟨dd,o1,ei,cj⟩:=di M;refine⟨dd,o1,ei,?_⟩;obtain⟨ae,d6,_,_,a',c',e9,_,fd⟩:=e0;rw[cc] at d6;cases d6;cases e9;obtain⟨b',o',d7,fn⟩:=fd M;rw[ei] at d7;cases d7;intro i' g4 f6;have fr:=fn i' g4 f6;have eo:k1.length=E.length:=by omega
        have d1:ks=Kd.joins k1 E:=by
         rw[<-gd];cases k1 with
         |nil=>exact absurd rfl gm
         |cons=>cases E with
          |nil=>exact absurd rfl c6
          |cons=>rfl
        have d8:=Kd.joins_l k1 E eo _ _ _ fr;have ga:ks.length=k1.length:=by rw[d1,Kd.joins_len _ _ eo]
        rw[<-d1] at d8;rw[ga];exact Al.mono (fun _ _ aa=>f1.safe0 aa) _ _ _ _ d8
       .obtain⟨b4,o2,rfl,ca⟩:=dj hk;have cf:∀j y,D[j]? =some y->w.cell? ((⟨b4,o2,none⟩:Addr).add j)=some y:=fun j y hj=>by rw[CD];exact ca j y hj
        obtain⟨N,A,gr,d9,f0,e4⟩:∃N A,(Builtin.append_ #[t,t] az #[.slice a0 X.length X.length,.slice (some ⟨b4,o2,none⟩) ah.length c2]).run P w= .ok (.slice (some ⟨w.heap.size,0,none⟩) (X.length+ah.length) N) (w.drew.alloc (.cells A e))/\X.length+ah.length<=N/\
          (∀p,p < (X.length+ah.length)*i.size->A[p]? =(ba++D)[p]?)/\N*i.size<=A.size:=by
         rcases AB1 X.length with h0|h0
         .have gH:ba=[]:=by rw[<-AB3,bm,h0,Nat.zero_mul]
          subst gH;rw[h0];cases a0 with
          |none=>
           have bs:=run_append_nil (P:=P) w t az e i z ht Y hz ⟨b4,o2,none⟩ ah.length c2 D aw cf hk (by have:=hb.2;omega) (by rw[h0,ABJ] at b2;omega);have b1:=grownCap_ge w ah.length 0 e;refine⟨_,_,by rw[ABJ];exact bs,by omega,fun p M=>?_,?_⟩
           .rw[ABJ] at M;exact PT D _ p (by rw[aw];exact M)
           .simp only[Array.size_append,AB6,size_zeroCells,cy,aw];rw[<-ABc];exact ABY _ (by omega)
          |some a=>
           have bs:=run_append_grow (P:=P) w t az e i z ht Y hz a 0 0 [] (by simp) (fun j y hj=>by simp at hj) ⟨b4,o2,none⟩ ah.length c2 D aw cf (by omega) (by rw[h0] at hb;exact hb.2) (growslice_fits (by omega) (by rw[h0] at b2;exact b2));have b1:=grownCap_ge w (0+ah.length) 0 e;refine⟨_,_,bs,b1,fun p M=>?_,?_⟩
           .have:=PT ([]++D) (Builtin.zeroCells z.cells (grownCap w (0+ah.length) 0 e - (0+ah.length))) p (by simp[aw];rw[ABJ] at M;exact M);simpa using this
           .simp only[Array.size_append,AB6,size_zeroCells,cy,aw,ABp,ABJ];rw[<-ABc];refine ABY _ ?_;rw[ABJ] at b1;omega
         .obtain⟨dd,o1,rfl,cj⟩:=di h0;have bs:=run_append_grow (P:=P) w t az e i z ht Y hz ⟨dd,o1,none⟩ X.length X.length ba bm (fun j y hj=>by rw[CD];exact cj j y hj) ⟨b4,o2,none⟩ ah.length c2 D aw cf (by omega) hb.2 (growslice_fits (by omega) b2);have b1:=grownCap_ge w (X.length+ah.length) X.length e;refine⟨_,_,bs,b1,fun p M=>?_,?_⟩
          .have:=PT (ba++D) (Builtin.zeroCells z.cells (grownCap w (X.length+ah.length) X.length e - (X.length+ah.length))) p (by rw[ABM,bm,aw,<-ABc];exact M);simpa using this
          .simp only[Array.size_append,AB6,size_zeroCells,cy,bm,aw];rw[<-ABc,<-ABc];exact ABY _ (by omega)
        have b5:=C2 w.drew (.cells A e);obtain⟨f1,f2⟩:=TI (ac:=CS V id w.heap.size) (ab:=w.drew.alloc (.cells A e)) (aj:=g.n+1) (ks:=ks) hm (by omega) b7 (fun j hj=>As _ _ _ hj) rfl rfl rfl (by simp)
         (fun k hk _=>BJ w.drew _ k hk) (fun b' W off _=>by rw[c7] at W;cases W) (fun b' W=>by rw[Au] at W;cases W;exact .inr (ABB _)) bl
         (.inr ⟨w.heap.size,_,Au _ _ _,b5,by
          rw[bi,bc];exact ABS (ABY _ d9) e4,fun off=>hm.fr _ off (ABB _)⟩)
        refine⟨_,_,_,gr,f1,f2,?_⟩;have:=OE (I:=N) hm f1 f2 (by omega) cl ci (Au _ _ _) (fun p _=>hm.fr _ p (ABB _)) c9 (by rw[bi];exact hb.1) bl b5 (fun p M=>f0 p (by rw[bc,bi] at M;exact M)) (by rw[bi];exact d9) (by rw[bc];exact e4);rw[bi] at this;exact this
      .
       have dn:(T y).toL=X:=by rw[cc];rfl
       rw[dn] at cu;simp only[dn];have ge:X.length<=I:=by cases cu;exact gi
       have c5:∀off,T.fr b off:=by
        have c3:=hm.blk id;rw[b7] at c3;obtain⟨_,lx,_,c3⟩:=c3;rcases c3 with q1|⟨b',_,q1,_,_,q4⟩
        .rw[b3] at q1;cases q1
        .rw[b3] at q1;cases q1;exact q4
       rw[b8] at c4;have d0:(X.length+ah.length)<=I->(X.length+ah.length)*i.size<=F.size:=fun h=>ABS (ABY _ h) c4;have cj:∀j x,ba[j]? =some x->w.cell? ⟨b,0+j,none⟩=some x:=e8 b I (by rw[dn]);have em:∀p,p < ba.length->F[p]? =ba[p]? :=by
        intro p M;have:=cj p ba[p] (ABC M);rw[ABJ] at this;simp only[World.cell?,ce] at this;rw[ABC M];simpa using this
       rcases AB1 ah.length with hk|hk
       .have:ah=[]:=AB3.1 hk;subst this;have d4:D=[]:=by simpa using aw
        subst d4;simp only[ABx,ABp,Nat.add_zero] at*;obtain⟨f1,f2⟩:=TI (ac:= V) (ab:=w) (aj:=g.n+1) (ks:=ks) hm (by omega) b7 (fun _ _=>rfl) rfl rfl rfl (ABB _) (fun _ _ _=>rfl) (fun _ _ _ _=>rfl) (fun b' W=> .inl ⟨W,eq⟩) bl
         (.inr ⟨b,F,b3,ce,by rw[bc];exact d0 (by omega),c5⟩)
        refine⟨_,w, V,DR ht Y _ db X.length I c2 ge,f1,f2,?_⟩;exact OE (I:=I) hm f1 f2 (by omega) cl ci b3 (fun p _=>c5 p) c9 hb.1 bl ce (fun p M=>em p (by rw[bm];rw[bc] at M;exact M)) (by omega) (by rw[bc];exact c4)
       .obtain⟨b4,o2,rfl,ca⟩:=dj hk;have cf:∀j y,D[j]? =some y->w.cell? ((⟨b4,o2,none⟩:Addr).add j)=some y:=fun j y hj=>by rw[CD];exact ca j y hj
        by_cases c8:X.length+ah.length<=I
        .
         have f5:X.length*i.size+D.length<=F.size:=by
          rw[aw,<-ABc];exact d0 c8
         have bs:=run_append_room (P:=P) w t az e i ht Y b X.length I F ce ⟨b4,o2,none⟩ ah.length c2 D aw cf e2.ones c8 f5;have b5:=setRow_heap w b F (F.toList.take (X.length*i.size)++D++F.toList.drop (X.length*i.size+D.length)).toArray e (0,0) ce;have en:∀p,p < X.length*i.size->(F.toList.take (X.length*i.size)++D++F.toList.drop (X.length*i.size+D.length)).toArray[p]? =F[p]? :=by
          intro p M;simp only[List.getElem?_toArray,ABj];rw[ABO (by simp;omega),AB8,ACE M];simp
         have e3:(F.toList.take (X.length*i.size)++D++F.toList.drop (X.length*i.size+D.length)).toArray.size=F.size:=by
          simp only[AB6,ABM,ABl,ABs,Array.length_toList];omega
         obtain⟨f1,f2⟩:=TI (ac:= V) (ab:=w.setRow b (F.toList.take (X.length*i.size)++D++F.toList.drop (X.length*i.size+D.length)).toArray) (aj:=g.n+1) (ks:=ks) hm (by omega) b7 (fun _ _=>rfl) rfl rfl rfl (by simp)
          (fun k _ hk=>DH w b _ k (fun he=>hk (by rw[he];exact b3))) (fun b' W off ho=>by
           rw[b3] at W;cases W;simp only[World.cell?,b5,ce];exact en off (by rw[ev,b8] at ho;exact ho)) (fun b' W=> .inl ⟨W,eq⟩) bl
          (.inr ⟨b,_,b3,b5,by rw[bi,bc,e3];exact d0 c8,c5⟩)
         refine⟨_,_, V,bs,f1,f2,?_⟩;have:=OE (I:=I) hm f1 f2 (by omega) cl ci b3 (fun p _=>c5 p) c9 (by rw[bi];exact hb.1) bl b5 (fun p M=>by
          rw[bc,bi] at M;by_cases d2:p < X.length*i.size
          .rw[en p d2,em p (by rw[bm];exact d2),ABO (by rw[bm];exact d2)]
          .have hf:p < X.length*i.size+D.length:=by rw[aw,<-ABc];exact M
           simp only[List.getElem?_toArray,ABj];have er:(F.toList.take (X.length*i.size)).length=X.length*i.size:=by simp;omega
           rw[ABP (by rw[er];omega),er,ABO (by omega),ABP (by rw[bm];omega),bm]) (by rw[bi];exact c8) (by rw[bc,e3];exact c4)
         rw[bi] at this;exact this
        .
         have bs:=run_append_grow (P:=P) w t az e i z ht Y hz ⟨b,0,none⟩ X.length I ba bm (fun j y hj=>by rw[CD];exact cj j y hj) ⟨b4,o2,none⟩ ah.length c2 D aw cf (by omega) hb.2 (growslice_fits (by omega) b2);have b1:=grownCap_ge w (X.length+ah.length) I e;have b5:=C2 w.drew (.cells (ba.toArray++D.toArray++Builtin.zeroCells z.cells (grownCap w (X.length+ah.length) I e - (X.length+ah.length))) e);have fv:(ba.toArray++D.toArray++Builtin.zeroCells z.cells (grownCap w (X.length+ah.length) I e - (X.length+ah.length))).size=(X.length+ah.length)*i.size+(grownCap w (X.length+ah.length) I e - (X.length+ah.length))*i.size:=by
          simp[size_zeroCells,cy,bm,aw,ABc]
         have el:grownCap w (X.length+ah.length) I e*i.size<=(ba.toArray++D.toArray++Builtin.zeroCells z.cells (grownCap w (X.length+ah.length) I e - (X.length+ah.length))).size:=by
          rw[fv,<-ABc];exact ABY _ (by omega)
         have f4:=hm.lt gv b3;obtain⟨f1,f2⟩:=TI (ac:=CS V id w.heap.size) (ab:=w.drew.alloc (.cells (ba.toArray++D.toArray++Builtin.zeroCells z.cells (grownCap w (X.length+ah.length) I e - (X.length+ah.length))) e)) (aj:=g.n+1) (ks:=ks) hm (by omega) b7 (fun j hj=>As _ _ _ hj) rfl rfl rfl (by simp)
          (fun k hk _=>BJ w.drew _ k hk) (fun b' W off _=>by rw[b3] at W;cases W;exact Bq (BJ w.drew _ b f4) off) (fun b' W=>by rw[Au] at W;cases W;exact .inr (ABB _)) bl
          (.inr ⟨w.heap.size,_,Au _ _ _,b5,by
           rw[bi,bc];exact ABS (ABY _ b1) el,fun off=>hm.fr _ off (ABB _)⟩)
         refine⟨_,_,_,bs,f1,f2,?_⟩;have:=OE (I:=grownCap w (X.length+ah.length) I e) hm f1 f2 (by omega) cl ci (Au _ _ _) (fun p _=>hm.fr _ p (ABB _)) c9 (by rw[bi];exact hb.1) bl b5 (fun p M=>by
          have:=PT (ba++D) (Builtin.zeroCells z.cells (grownCap w (X.length+ah.length) I e - (X.length+ah.length))) p (by rw[ABM,bm,aw,<-ABc];rw[bc,bi] at M;exact M);simpa using this) (by rw[bi];exact b1) (by rw[bc];exact el)
         rw[bi] at this;exact this
     .cases h
    .cases h
   all_goals cases h
  .cases h
 .cases h
end
section
variable {P:Program}{T:Tab}{V :Nat->Option Nat}{m:Mem}{w:World}{g:G}{r:R}
theorem GC (op:BinOp)(t:TypeId)(x y:Operand){a b:Value}(h:∀aD,a≠ .agg aD)(Y:a≠ .nilIface):(eqGuard op t x y a b).run P w= .ok () w:=by
 unfold eqGuard;cases op<;>simp<;>(split<;>first|rfl|exact absurd rfl Y|exact absurd rfl (h _)|simp)
variable{c d:AC}{t:TypeId}{u v:Value}{k:IntKind}{X C ah O am Y:Int}{ax:Rf}
theorem vu {n:Nat}{p q:Bool}{ai:List Rf}(h:ceq c d=some (none,ai))(A:(Jk c).isSome=true)(F:AA T n V m w c (.bool p))(hd:AA T n V m w d (.bool q)):ai.map (Rf.eval T)=[.bool p,.bool q]:=by
 unfold ceq at h;split at h
 .rename_i M X C av E ah O aB z D;cases c<;>simp[Jk] at A<;>simp[CO] at z
 .split at h
  .cases h
  .rename_i M av E aB a0 z D;obtain⟨i,N,W,_⟩:=EF z F;obtain⟨j,e3,e4,_⟩:=EF D hd;grind
  .cases c<;>simp[Jk] at A<;>simp[UX] at h
theorem rB {neg:Bool}(h:aEq P neg t c d m g=some r)(ba:New T g.n r.us)(F:AA T g.n V m w c u)(hd:AA T g.n V m w d v)(x y:Operand):
  ∃z,(do eqGuard (if neg then .neq else .eql) t x y u v;binOp (if neg then .neq else .eql) t u v:Sem Value).run P w= .ok z w/\r.m=m/\AA T (g.n+r.us.length) V m w r.c z:=by
 have a0:∀(k:Option Bool) (ai:List Rf) (b:Bool),(if neg then mkB g m (k.map not) ⟨ "nes",ot,ai⟩ else mkB g m k ⟨ "eqs",kD,ai⟩)=r->(∀q,k=some q->b=q)->(k=none->GI (ai.map (Rf.eval T))=b)->
   r.m=m/\AA T (g.n+r.us.length) V m w r.c (.bool (if neg then !b else b)):=by
  intro k ai b hr hk hn;cases neg with
  |true=>
   simp only[if_true] at hr⊢;subst hr;refine⟨TN,NZ ba (fun h=>?_) (fun q E=>?_)⟩
   .cases k with
    |none=>simp[Ex.eval,ot,hn rfl]
    |some k=>cases h
   .cases k with
    |none=>cases E
    |some k=>rw[hk k rfl];simpa using E
  |false=>
   simp only[ABW,if_false] at hr⊢;subst hr;exact⟨TN,NZ ba (fun h=>by simp[Ex.eval,kD,hn h]) hk⟩
 unfold aEq at h;simp only at h;split at h
 .rename_i l ae;obtain⟨us,rfl,hl⟩:=F;obtain⟨W,rfl,b0⟩:=hd;split at h
  .rename_i ks bt;split at h
   .rename_i a4;simp only[AA8,Bool.not_eq_true'] at a4;simp only[ABU] at h;obtain⟨⟨k,ai⟩,C,O⟩:=h;obtain⟨b,j,i,e3⟩:=io C a4.1.2 hl b0;have bo:∀us:List Value,A6 P t us= .agg us.toArray:=by
     intro us;have:=a4.1.1;unfold CF at this;unfold A6;grind
    have bi:=L7 (P:=P) (w:=w) 12 10000 t ks us W b (by omega) bt j;rw[bo,bo] at bi;obtain⟨A,D⟩:=a0 k ai b O i (fun h=>(e3 h).1);refine⟨_,?_,A,D⟩;simp only[ABo,run_eqGuard_agg w _ t x y us.toArray W.toArray a4.2,ABn];cases neg with
    |true=>simp[run_neq_struct,bi]
    |false=>simp[run_eql_struct,bi]
   .cases h
  .cases h
 .have j:u= .pointer none:=F;have i:v= .pointer none:=hd;subst j;subst i;split at h
  .rename_i e M;have N:P.underlying t=some (.pointer (P.pointee t)):=by simp[Program.pointee,M]
   simp only[AB9,ABu] at h;obtain⟨A,D⟩:=a0 (some true) [] true h (fun q E=>by cases E;rfl) (fun h=>by cases h);refine⟨_,?_,A,D⟩;simp only[ABo,GC _ t x y (a:= .pointer none) (b:= .pointer none) (fun _ h=>by cases h) (fun h=>by cases h),ABn];cases neg with
   |true=>simp[run_neq_pointer_nil w t none N]
   |false=>simp[run_eql_pointer_nil w t none N]
  .cases h
 .obtain⟨b,_,j,_⟩:=F;have i:v= .pointer none:=hd;subst j;subst i;split at h
  .rename_i e M;have N:P.underlying t=some (.pointer (P.pointee t)):=by simp[Program.pointee,M]
   simp only[AB9,ABu] at h;obtain⟨A,D⟩:=a0 (some false) [] false h (fun q E=>by cases E;rfl) (fun h=>by cases h);refine⟨_,?_,A,D⟩;simp only[ABo,GC _ t x y (a:= .pointer _) (b:= .pointer none) (fun _ h=>by cases h) (fun h=>by cases h),ABn];cases neg with
   |true=>simp[run_neq_pointer_nil w t _ N]
   |false=>simp[run_eql_pointer_nil w t _ N]
  .cases h
 .split at h
  .rename_i M;split at h
   .rename_i hb;simp only[ABU] at h;obtain⟨⟨k,ai⟩,C,O⟩:=h;obtain⟨b,j,i,e3⟩:=dz C F hd;obtain⟨⟨z1,z2⟩,hz⟩:=Option.isSome_iff_exists.1 hb;obtain⟨_,al,_⟩:=(EF hz F);rcases j with⟨_,_,_,rfl,_⟩|⟨p,q,rfl,rfl,rfl⟩|⟨_,_,rfl,_⟩
    .cases al
    rotate_left 1
    .cases al
    .have bs:r.m=m/\AA T (g.n+r.us.length) V m w r.c (.bool (if neg then !(p==q) else (p==q))):=by
      have bl:k=none->ai.map (Rf.eval T)=[.bool p,.bool q]:=fun hk=>by subst hk;exact vu C hb F hd
      cases neg with
      |true=>
       simp only[if_true] at O⊢;subst O;refine⟨TN,NZ ba (fun h=>?_) (fun q' E=>?_)⟩
       .cases k with
        |none=>simp[Ex.eval,vC,bl rfl,u0,u1,U.toB]
        |some k=>cases h
       .cases k with
        |none=>cases E
        |some k=>rw[i k rfl];simpa using E
      |false=>
       simp only[ABW,if_false] at O⊢;subst O;exact⟨TN,NZ ba (fun h=>by simp[Ex.eval,vZ,bl h,u0,u1,U.toB]) i⟩
     obtain⟨A,D⟩:=bs;refine⟨_,?_,A,D⟩;simp only[ABo,GC _ t x y (a:= .bool p) (b:= .bool q) (fun _ h=>by cases h) (fun h=>by cases h),ABn];cases neg with
     |true=>simp[run_neq_bool w t p q M]
     |false=>simp[run_eql_bool w t p q M]
   .cases h
  .rename_i M;split at h
   .rename_i hb;simp only[ABU] at h;obtain⟨⟨k,ai⟩,C,O⟩:=h;obtain⟨b,j,i,e3⟩:=dz C F hd;obtain⟨⟨z1,z2⟩,hz⟩:=Option.isSome_iff_exists.1 hb;obtain⟨_,al,_⟩:=(Jt hz F);rcases j with⟨_,_,_,rfl,_⟩|⟨_,_,rfl,_⟩|⟨p,q,rfl,rfl,rfl⟩
    .cases al
    .cases al
    .obtain⟨A,D⟩:=a0 k ai (decide (p=q)) O i (fun h=>(e3 h).1);refine⟨_,?_,A,D⟩;simp only[ABo,GC _ t x y (a:= .string p) (b:= .string q) (fun _ h=>by cases h) (fun h=>by cases h),ABn];cases neg with
     |true=>simp[binOp,Op.stringOp,JO]
     |false=>simp[binOp,Op.stringOp,JO]
   .cases h
  .cases h
theorem wP {op:BinOp}{aK:Rf}{v:Vx}{ps:List Pr}(h:VN op k X C ax ah O aK=some ((am,Y,v),ps)):∀y,v= .rf (.e y)->ax= .e y\/aK= .e y:=by
 intro y z;subst z;have i:∀q p e am Y,rng k q p e=(am,Y,Vx.rf (.e y))->False:=by
  intro q p e am Y j;unfold rng at j;split at j<;>cases j
 cases op<;>simp only[VN] at h
 case add=>
  cases C:(if (ah=0/\O=0)/\k.min<=X/\C<=k.max then (X,C,Vx.rf ax) else if (X=0/\C=0)/\k.min<=ah/\O<=k.max then (ah,O,Vx.rf aK) else rng k (X+ah) (C+O) (ex2 "add" th ax aK));rw[C] at h;cases h;split at C
  .cases C;exact .inl rfl
  .split at C
   .cases C;exact .inr rfl
   .exact (i _ _ _ _ _ C).elim
 case sub=>
  cases C:(if (ah=0/\O=0)/\k.min<=X/\C<=k.max then (X,C,Vx.rf ax) else rng k (X - O) (C - ah) (ex2 "sub" u4 ax aK));rw[C] at h;cases h;split at C
  .cases C;exact .inl rfl
  .exact (i _ _ _ _ _ C).elim
 case mul=>
  simp only[ABu,Prod.mk.injEq] at h;exact (i _ _ _ _ _ h.1).elim
 case quo=>
  split at h
  .split at h
   .simp only[ABu,Prod.mk.injEq] at h;exact (i _ _ _ _ _ h.1).elim
   .split at h
    iterate 2
     .simp only[ABu,Prod.mk.injEq] at h;exact (i _ _ _ _ _ h.1).elim
  .cases h
 case rem=>
  split at h
  .split at h<;>cases h
  .cases h
 case and=>
  split at h
  .split at h<;>cases h
  .cases h
 all_goals cases h
theorem qE {op:BinOp}{v:Vx}(h:SV op k X C ax ah O=some (am,Y,v)):∀y,v= .rf (.e y)->False:=by
 intro y i;subst i;unfold SV at h;split at h
 .split at h
  .simp only[ABu] at h;unfold rng at h;split at h<;>cases h
  .cases h
  .cases h
 .cases h
theorem cH {n:Nat}{y:Nat}(h:CO c=some (k,am,Y,.e y))(i:AA T n V m w c v):y < n:=jy h i y rfl
theorem S3 {op:BinOp}(h:ae P op t c d m g=some r)(A:New T g.n r.us)(bi:∀q∈r.ps,q.holds T)(D:AA T g.n V m w c u)(hd:AA T g.n V m w d v)(x y:Operand):
  ∃z,(do eqGuard op t x y u v;binOp op t u v:Sem Value).run P w= .ok z w/\r.m=m/\AA T (g.n+r.us.length) V m w r.c z:=by
 unfold ae at h;split at h
 .rename_i k X C ax k' ah O aK hx F;obtain⟨av,rfl,M,W,b1⟩:=Bk hx D;obtain⟨aB,rfl,N,al,b2⟩:=Bk F hd;have hg:=GC (P:=P) (w:=w) op t x y (a:= .int k av) (b:= .int k' aB) (fun _ h=>by cases h) (fun h=>by cases h);split at h
  .rename_i am Y n p;cases h;obtain⟨n0,j,i⟩:=qQ (E:=k') p M W b1 al b2 P t w;exact⟨_,by simp only[ABo,hg,ABn];exact j,K4,Hk A i.val i.lo i.hi (fun z hz=>(qE p z hz).elim)⟩
  split at h
  .rename_i hk;subst hk;split at h
   .rename_i am Y n ps p;cases h;obtain⟨n0,j,i⟩:=tZ p M N W b1 al b2 (by rw[AAW] at bi;exact bi) P t w;refine⟨_,by simp only[ABo,hg,ABn];exact j,K4,Hk A i.val i.lo i.hi (fun z hz=>?_)⟩;rcases wP p z hz with rfl|rfl
    .exact cH hx D
    .exact cH F hd
   .split at h
    .rename_i kn b bo;cases h;obtain⟨b0,j,i,e3⟩:=yD (k:=k) bo M N W b1 al b2 P t w;refine⟨_,by simp only[ABo,hg,ABn];exact j,TN,NZ A (fun _=>i) ?_⟩;split
     .rename_i bm;have:=AC.beq_eq _ _ bm;subst this;rw[hx] at F;cases F;rw[M] at N;cases N;have bt:(op= .eql->b0=true)/\(op= .neq->b0=false):=by
       refine⟨fun ho=>?_,fun ho=>?_⟩<;>subst ho
       iterate 2
        .have:=j;simp[binOp,Op.intCmp] at this;exact this
      grind
     .exact e3
    .cases h
  .cases h
 .split at h
  .exact rB (neg:=false) h A D hd x y
  .exact rB (neg:=true) h A D hd x y
  .cases h
theorem AF.of_map {n:Nat}{aI:Operand->AC}{a:Act}(h:∀x,AA T n V m w (aI x) (a.eval x)):∀xs:List Operand,AF T n V m w (xs.map aI) (xs.map a.eval)
 |[]=>rfl
 |x::xs=>⟨_,_,rfl,h x,AF.of_map h xs⟩
theorem KV {a:Act}{o:Oper}{b:Builtin}{args:Array Operand}{ay:Array TypeId}(h:o.op= .call { callee:= .builtin b,args,argTypes:=ay }):
  (execOp a.eval o).run P w=(builtin b ay o.type (args.map fun| .const _=>true|_=>false) (args.map a.eval)).run P w:=by
 simp only[execOp,h,resolve,invoke,ABo,ABv,ABn];rfl
theorem XW (h:wj P t c m g=some r)(D:New T g.n r.us)(hm:AH T g.n V m w)(p:AA T g.n V m w c v)(ay:Array TypeId)(q:ay[0]? =some t)(az:TypeId):
  ∃z,(Builtin.len_ ay az #[v]).run P w= .ok z w/\r.m=m/\AA T (g.n+r.us.length) V m w r.c z:=by
 unfold wj at h;split at h
 .rename_i e i;split at h
  .cases h;rw[show v=_ from p];exact⟨.int .i64 0,by simp[Builtin.len_,q,run_underlying i,CV.value,goInt],rfl,rfl⟩
  .cases h;obtain⟨⟨N,_⟩,j,a,I,C,⟨O,W⟩,rfl,_⟩:=p;exact⟨.int .i64 j,by simp[Builtin.len_,q,run_underlying i,goInt];omega,rfl,N,j,C,rfl,O,W⟩
  .cases h;obtain⟨b,_,rfl,_⟩:=p;exact⟨.int .i64 _,by simp[Builtin.len_,q,run_underlying i,goInt],rfl,rfl⟩
  .split at h
   .rename_i ks rl hq;cases h;obtain⟨l,hl,F,_,a,I,rfl,_,_⟩:=Fs hq p;refine⟨.int .i64 l.length,by simp[Builtin.len_,q,run_underlying i,goInt],K4,?_⟩;exact Hk D (by simp[Vx.eval,Ex.eval,Sp,u0,hl,U.toL]) (by omega) (by omega) (fun y A=>by cases A)
   .cases h
 .rename_i i;split at h
  .rename_i s;cases h;rw[show v=_ from p];exact⟨.int .i64 s.size,by simp[Builtin.len_,q,run_underlying i,CV.value,goInt],rfl,rfl⟩
  .rename_i y;cases h;obtain⟨A,s,aa,rfl,F⟩:=p;refine⟨.int .i64 s.size,by simp[Builtin.len_,q,run_underlying i,goInt],K4,?_⟩;exact Hk D (by simp[Vx.eval,Ex.eval,ng,u0,aa,U.toS,Rf.eval]) (by omega) (by omega) (fun y A=>by cases A)
  .cases h
 .rename_i kt et i;split at h
  .rename_i id;split at h
   .rename_i a2 ao ka aJ aT a1;cases h;obtain⟨b,bi,rfl,_⟩:=p;have E:=hm.blk id;rw[a1] at E;obtain⟨bm,l,b',ar,a6,hT,M,hb,a9,F,_⟩:=E;rw[bi] at M;cases M;have a0:(getObj b).run P w= .ok (.map ar.toArray a6) w:=by simp[getObj,Sem.run,hb]
    refine⟨.int .i64 l.length,by simp[Builtin.len_,q,run_underlying i,a0,goInt,a9],K4,?_⟩;exact Hk D (by simp[Vx.eval,Ex.eval,Sp,u0,Rf.eval,hT,U.toL]) (by omega) (by omega) (fun y A=>by cases A)
   .cases h
  .cases h
 .cases h
end
section
variable {P:Program}{T:Tab}{n aj:Nat}{V ac:Nat->Option Nat}{m ag:Mem}{w ab:World}{g:G}{r:R}
theorem cS (z:AH T n V m w)(b0:n<=aj){id x y L aF:Nat}{ks af:List Kd}{e:TypeId}(aw:m.at id= .mrow x y ks e)(b5:L < aj)(b6:aF < aj)(b9:n<=aF)(E:∀j,j≠id-> ac j= V j)
  (os:ab.os=w.os) (tape:ab.tape=w.tape) (output:ab.output=w.output) (size:w.heap.size<=ab.heap.size)
  (a0:∀k,k < w.heap.size-> V id≠some k->ab.heap[k]? =w.heap[k]?)
  (bm:∀b', ac id=some b'-> V id=some b'\/w.heap.size<=b') (b8:af.length=ks.length) (bt:af≠[])
  {q:U'} (hT:T L= .list q) (bl:T aF= .int q.length) (hq:q.length<=AB)
  (bo:(ac id=none/\q=[])\/∃b W us, ac id=some b/\ab.heap[b]? =some (.cells (W++us:List Value).toArray e (0,0))/\Ah (Ag T V m w) w af q W/\∀off,T.fr b off):
  AI T n V m w ac (m.set id (.mrow L aF af e)) ab/\AH T aj ac (m.set id (.mrow L aF af e)) ab:=by
 have bx:m.at id≠ .pad:=by rw[aw];exact fun h=>by cases h
 have D:∀j,Mem.at (m.set id (.mrow L aF af e)) j=if j=id then .mrow L aF af e else m.at j:=fun j=>Gq m id (.mrow L aF af e) j bx
 have M:(m.at id).tracked=true:=by rw[aw];rfl
 have aa:AI T n V m w ac (m.set id (.mrow L aF af e)) ab:={
  os:=os
  tape:=tape
  output:=output
  size:=size
  mlen:=fun j h=>by rw[D j];split<;>first|exact (fun h=>by cases h)|exact h
  rho:=fun j h=>by
   have p:j≠id:=fun e'=>by subst e';rw[aw] at h;cases h
   grind
  untr:=fun j h i=>by
   grind
  fresh:=fun j b h i A=>by
   rw[D j] at i;split at i
   .grind
   .rw[h] at i;cases i
  old:=fun k hk b1=>a0 k hk (b1 id M)
  tok:=fun j x kx e' h=>by
   have p:j≠id:=fun e'=>by subst e';rw[aw] at h;cases h
   refine .inl ⟨by rw[D j,ACD p];exact h,E j p,fun b A=>a0 b (z.lt (by rw[h];rfl) A) (fun F=>?_)⟩;exact p (z.inj j id b (by rw[h];rfl) M A F)
  row:=fun j aZ y2 kx e' h=>by
   by_cases p:j=id
   .grind
   .refine .inr ⟨aZ,y2,kx,by rw[D j,ACD p];exact h,rfl,.inl ⟨rfl,E j p,fun b W A hv=>⟨W,?_,rfl⟩⟩⟩;rw[a0 b (z.lt (by rw[h];rfl) A) (fun F=>p (z.inj j id b (by rw[h];rfl) M A F))];exact hv }
 refine⟨aa,⟨fun j=>?_,fun j j' b i b3 C O=>?_,fun b off h=>z.fr b off (ABS aa.size h)⟩⟩
 .by_cases p:j=id
  .subst p;rw[D j,ACE rfl];refine⟨⟨b5,b6⟩,q,hT,bl,⟨hq,bt⟩,?_⟩;rcases bo with h|⟨b,W,us,C,O,h3,h4⟩
   .exact .inl h
   .exact .inr ⟨b,W,us,C,O,Ah.mono (fun _ _ h=>aa.safe0 h) h3,h4⟩
  .by_cases i:(m.at j).tracked=true
   .refine BS.step aa z b0 (by rw[D j,ACD p]) (E j p) (fun b A=>a0 b (z.lt i A) (fun F=>p (z.inj j id b i M A F)))
   .rw[D j,ACD p];cases N:m.at j with
    |pad=>trivial
    |gone=>trivial
    |cells=>rw[N] at i;exact absurd rfl i
    |lp=>rw[N] at i;exact absurd rfl i
    |tok=>rw[N] at i;exact absurd rfl i
    |mrow=>rw[N] at i;exact absurd rfl i
    |mapb=>rw[N] at i;exact absurd rfl i
 .have tr:∀k,(Mem.at (m.set id (.mrow L aF af e)) k).tracked=true->(m.at k).tracked=true:=fun k hk=>by
   grind
  have one:∀j b,(m.at j).tracked=true->j≠id-> ac j=some b-> ac id=some b->False:=by
   intro j b i p C O;rw[E j p] at C;rcases bm b O with h3|h3
   .exact p (z.inj j id b i M C h3)
   .have:=z.lt i C;omega
  by_cases p:j=id
  .grind
  .by_cases bs:j'=id
   .grind
   .rw[E j p] at C;rw[E j' bs] at O;exact z.inj j j' b (tr j i) (tr j' b3) C O
theorem Uq {ay:Array TypeId}{id y:Nat}{E:List Kd}{aK:Rf}{v u:Value}(h:aH P ay id y E aK m g=some r)(di:New T g.n r.us)(en:∀q∈r.ps,q.holds T)(hm:AH T g.n V m w)(aa:AA T g.n V m w (.mr id y) v)(hx:Src T V m w E (aK.eval T) u)(az:TypeId):
  ∃z ab ac,(Builtin.append_ ay az #[v,u]).run P w= .ok z ab/\AI T g.n V m w ac r.m ab/\AH T (g.n+r.us.length) ac r.m ab/\AA T (g.n+r.us.length) ac r.m ab r.c z:=by
 unfold aH at h;simp only[ABA,AA7] at h;obtain⟨t,e7,h⟩:=h;split at h
 .rename_i e ht;simp only[AA7] at h;obtain⟨i,Y,z,hz,h⟩:=h;split at h
  .rename_i x aF k1 e' bk;split at h
   .rename_i hc;obtain⟨⟨rfl,rfl⟩,es,eq,d1,b9,bm,cv⟩:=hc;cases h;obtain rfl:ay= #[t,t]:=Array.ext' (Gg _ _ es);obtain⟨ah,dk,c2,c4,rfl,_,_,M,e2,dn⟩:=hx;have a1:M.length=ah.length*i.size:=by rw[e2.len,b9]
    obtain⟨⟨e9,em⟩,j,b7,I,dv,⟨e4,e5⟩,rfl,⟨e0,_⟩,cj⟩:=aa;have db:=hm.blk id;rw[bk] at db;obtain⟨⟨e8,_⟩,X,c7,c8,⟨e6,_⟩,dd⟩:=db;have d8:j=X.length:=by rw[dv] at c8;exact U.int.inj c8
    subst d8;simp only[Int.toNat_natCast] at*;have ca:T g.n= .list (X++ah):=by
     rw[di.head];simp[Ex.eval,Uo,u0,u1,eve,c7,c4,U.toL]
    have bt:(X++ah).length=X.length+ah.length:=ABM;have cb:T (g.n+1)= .int (X++ah).length:=by
     have:=di 1 ⟨ "len",Sp,[.e g.n]⟩ rfl;rw[this];simp only[Ex.eval,Sp,u0,ABQ,ABk,eve,ca,U.toL]
    have b1:=en ⟨ "fits " ++toString i.bytes,Hy i.bytes,[.e x,aK]⟩ (by simp);simp only[Pr.holds,Hy,u0,u1,ABQ,ABk,eve,c7,c4,U.toL] at b1;have hb:=lS d1 b1;have b0:=VZ eq b9 bm;have ei:E≠[]:=fun h=>by rw[h] at b9;simp at b9;omega
    generalize d9:HW k1 E=ks at*;have ci:ks≠[]:=fun h=>by rw[h] at b0;simp at b0;omega
    have c9:Mem.at (m.set id (.mrow g.n (g.n+1) ks e)) id= .mrow g.n (g.n+1) ks e:=by rw[Gq m id _ id em,ACE rfl]
    have mk:∀{ac:Nat->Option Nat} {ab:World} {a:Option Addr} {N:Nat},AI T g.n V m w ac (m.set id (.mrow g.n (g.n+1) ks e)) ab->X.length+ah.length<=N->TB ac ab id ks e a N->
      AA T (g.n+2) ac (m.set id (.mrow g.n (g.n+1) ks e)) ab (.mr id (g.n+1)) (.slice a (X.length+ah.length) N):=by
     intro ac ab a N _ hN hL;refine⟨⟨by omega,by rw[c9];exact fun h=>by cases h⟩,((X++ah).length:Nat),a,N,cb,⟨by omega,by have:=hb.1;rw[bt];omega⟩,by rw[bt,Int.toNat_natCast],⟨by rw[bt];omega,fun hp=>?_⟩,fun aZ fd e2 hk=>?_⟩
     .rcases hL with⟨_,q⟩|⟨b,W,_,q,_⟩
      .rw[bt] at hp;omega
      .exact⟨b,q⟩
     rw[c9] at hk;cases hk;exact hL
    have cs:∀{p:List Value},Ah (Ag T V m w) w k1 X p->Ah (Ag T V m w) w ks (X++ah) (p++M):=fun e1=>by
     rw[<-d9];exact e1.app e2 (fun h=>by rw[h] at bm;simp at bm;omega) ei (fun _=>by omega)
    rcases AB1 ah.length with hk|hk
    .
     have:ah=[]:=AB3.1 hk;subst this;have et:M=[]:=by simpa using a1
     subst et;simp only[ABx,ABp,Nat.add_zero] at*;have f:=cS (ac:= V) (ab:=w) (aj:=g.n+2) (L:=g.n) (aF:=g.n+1) (af:=ks) hm (by omega) bk (by omega) (by omega) (by omega) (fun _ _=>rfl) rfl rfl rfl (ABB _) (fun _ _ _=>rfl) (fun b' bo=> .inl bo) (by omega) ci ca cb hb.1
      (by
       rcases dd with h|⟨b,W,us,q1,q2,q3,q4⟩
       .exact .inl h
       .exact .inr ⟨b,W,us,q1,q2,cs q3,q4⟩)
     refine⟨_,w, V,DR ht Y b7 dk X.length I c2 (by omega),f.1,f.2,mk f.1 (by omega) ?_⟩;rcases cj x k1 e bk with q|⟨b,W,q1,q2,q3,q4⟩
     .exact .inl q
     .exact .inr ⟨b,W,q1,q2,q3,by rw[b0,<-bm];exact q4⟩
    .obtain⟨b2,o2,rfl,d4⟩:=dn hk;have cc:∀j y,M[j]? =some y->w.cell? ((⟨b2,o2,none⟩:Addr).add j)=some y:=fun j y hj=>by rw[CD];exact d4 j y hj
     have grow:∀{p:List Value},Ah (Ag T V m w) w k1 X p->∀{N:Nat} {A:Array Value} {z0:Value},(Builtin.append_ #[t,t] az #[.slice b7 X.length I,.slice (some ⟨b2,o2,none⟩) ah.length c2]).run P w= .ok z0 (w.drew.alloc (.cells A e))->
       z0= .slice (some ⟨w.heap.size,0,none⟩) (X.length+ah.length) N->X.length+ah.length<=N->A.toList.take ((X.length+ah.length)*i.size)=p++M->N*i.size<=A.size->
       ∃z ab ac,(Builtin.append_ #[t,t] az #[.slice b7 X.length I,.slice (some ⟨b2,o2,none⟩) ah.length c2]).run P w= .ok z ab/\AI T g.n V m w ac (m.set id (.mrow g.n (g.n+1) ks e)) ab/\AH T (g.n+2) ac (m.set id (.mrow g.n (g.n+1) ks e)) ab/\AA T (g.n+2) ac (m.set id (.mrow g.n (g.n+1) ks e)) ab (.mr id (g.n+1)) z:=by
      intro p q1 N A z0 a4 ey hN d0 er;subst ey;have b4:=C2 w.drew (.cells A e);have f:=cS (ac:=CS V id w.heap.size) (ab:=w.drew.alloc (.cells A e)) (aj:=g.n+2) (L:=g.n) (aF:=g.n+1) (af:=ks) hm (by omega) bk (by omega) (by omega) (by omega) (fun j hj=>As _ _ _ hj) rfl rfl rfl (by simp)
       (fun k hk _=>BJ w.drew _ k hk) (fun b' bo=>by rw[Au] at bo;cases bo;exact .inr (ABB _)) (by omega) ci ca cb (by rw[bt];exact hb.1)
       (.inr ⟨w.heap.size,p++M,A.toList.drop ((X.length+ah.length)*i.size),Au _ _ _,by
        rw[<-d0,ABw,Array.toArray_toList];exact b4,cs q1,fun off=>hm.fr _ off (ABB _)⟩)
      exact⟨_,_,_,a4,f.1,f.2,mk f.1 hN (.inr ⟨w.heap.size,_,Au _ _ _,rfl,b4,by rw[b0];exact er⟩)⟩
     have c1:∀(p:List Value) (D:Array Value),p.length=X.length*i.size->(p.toArray++M.toArray++D).toList.take ((X.length+ah.length)*i.size)=p++M:=by
      intro p D hl;rw[Array.toList_append,Array.toList_append];simp only[List.toList_toArray];apply List.take_left';rw[ABM,hl,a1,ABc]
     rcases dd with⟨ej,rfl⟩|⟨b,p,a0,b5,ce,q3,d7⟩
     .
      rcases cj x k1 e bk with⟨_,d3⟩|⟨b,W,q1,_⟩
      .subst d3;cases b7 with
       |none=>
        have a4:=run_append_nil (P:=P) w t az e i z ht Y hz ⟨b2,o2,none⟩ ah.length c2 M a1 cc hk (by have:=hb.2;simp at this;omega) (by simp at b1;omega);have bs:=grownCap_ge w ah.length 0 e;refine grow (N:=grownCap w ah.length 0 e) (Ah.nil _ _) a4 (by simp) (by simpa using bs) ?_ ?_
        .have:=c1 [] (Builtin.zeroCells z.cells (grownCap w ah.length 0 e - ah.length)) (by simp);simpa using this
        .simp only[Array.size_append,AB6,size_zeroCells,cv,a1];rw[<-ABc];exact ABY _ (by omega)
       |some a=>
        have a4:=run_append_grow (P:=P) w t az e i z ht Y hz a 0 0 [] (by simp) (fun j y hj=>by simp at hj) ⟨b2,o2,none⟩ ah.length c2 M a1 cc (by omega) (by have:=hb.2;simpa using this) (growslice_fits (by omega) (by simpa using b1));have bs:=grownCap_ge w (0+ah.length) 0 e;refine grow (N:=grownCap w (0+ah.length) 0 e) (Ah.nil _ _) a4 (by simp) (by simpa using bs) ?_ ?_
        .have:=c1 [] (Builtin.zeroCells z.cells (grownCap w (0+ah.length) 0 e - (0+ah.length))) (by simp);simpa using this
        .simp only[Array.size_append,AB6,size_zeroCells,cv,a1,ABp,ABJ];rw[<-ABc];refine ABY _ ?_;rw[ABJ] at bs;omega
      .rw[ej] at q1;cases q1
     .have cf:p.length=X.length*i.size:=by rw[q3.len,bm]
      rcases cj x k1 e bk with⟨q1,_⟩|⟨b',F,q1,rfl,q5,q6⟩
      .rw[b5] at q1;cases q1
      .rw[b5] at q1;cases q1;rw[ce] at q5;cases q5;rw[bm] at q6;have d5:∀j x,p[j]? =some x->w.cell? ((⟨b,0,none⟩:Addr).add j)=some x:=fun j x hj=>by
        rw[CD,ABJ,Gr ce,ABO (ABD.1 hj).1];exact hj
       by_cases cl:X.length+ah.length<=I
       .
        have de:X.length*i.size+M.length<=(p++a0).toArray.size:=by
         rw[a1,<-ABc];exact ABS (ABY _ cl) q6
        have a4:=run_append_room (P:=P) w t az e i ht Y b X.length I (p++a0).toArray ce ⟨b2,o2,none⟩ ah.length c2 M a1 cc e2.ones cl de;have e3:((p++a0).toArray.toList.take (X.length*i.size)++M++(p++a0).toArray.toList.drop (X.length*i.size+M.length))=(p++M)++a0.drop M.length:=by
         simp only[List.toList_toArray];rw[<-cf,List.take_left' rfl,List.drop_length_add_append]
        rw[e3] at a4;have b4:=setRow_heap w b (p++a0).toArray ((p++M)++a0.drop M.length).toArray e (0,0) ce;have eo:((p++M)++a0.drop M.length).toArray.size=(p++a0).toArray.size:=by
         simp only[AB6,ABM,ABs] at de⊢;omega
        have f:=cS (ac:= V) (ab:=w.setRow b ((p++M)++a0.drop M.length).toArray) (aj:=g.n+2) (L:=g.n) (aF:=g.n+1) (af:=ks) hm (by omega) bk (by omega) (by omega) (by omega) (fun _ _=>rfl) rfl rfl rfl (by simp)
         (fun k _ hk=>DH w b _ k (fun he=>hk (by rw[he];exact b5))) (fun b' bo=> .inl bo) (by omega) ci ca cb (by rw[bt];exact hb.1)
         (.inr ⟨b,p++M,a0.drop M.length,b5,b4,cs q3,d7⟩)
        exact⟨_,_,_,a4,f.1,f.2,mk f.1 cl (.inr ⟨b,_,b5,rfl,b4,by rw[b0,eo];exact q6⟩)⟩
       .have a4:=run_append_grow (P:=P) w t az e i z ht Y hz ⟨b,0,none⟩ X.length I p cf d5 ⟨b2,o2,none⟩ ah.length c2 M a1 cc (by omega) hb.2 (growslice_fits (by omega) b1);have bs:=grownCap_ge w (X.length+ah.length) I e;refine grow q3 a4 rfl bs (c1 p _ cf) ?_;simp only[Array.size_append,AB6,size_zeroCells,cv,cf,a1];rw[<-ABc,<-ABc];exact ABY _ (by omega)
   .cases h
  .cases h
 .cases h
end
section
variable {P:Program}{T:Tab}{n aj:Nat}{V ac:Nat->Option Nat}{m ag:Mem}{w ab:World}{g:G}{r:R}
def S8 (s:Nat):Nat->List Value->List (List Value)
 |0,_=>[]
 |k+1,l=>l.take s::S8 s k (l.drop s)
theorem Hj (s:Nat):∀(k:Nat) (l:List AC),(Cb s k l).length=k
 |0,_=>rfl
 |k+1,l=>by simp[Cb,Hj s k]
theorem OT (s:Nat):∀(k:Nat) (l:List AC),k*s<=l.length->∀x∈Cb s k l,x.length=s
 |0,_,_=>by simp[Cb]
 |k+1,l,h=>by
  intro x i;have O:k*s+s<=l.length:=by rw[<-Nat.succ_mul];exact h
  simp only[Cb,List.mem_cons] at i;rcases i with rfl|i
  .rw[ABl];omega
  .exact OT s k (l.drop s) (by rw[ABs];omega) x i
theorem Vr (s:Nat):∀(k:Nat) (l:List Value),k*s<=l.length->(S8 s k l).flatten=l.take (k*s)
 |0,_,_=>by simp[S8]
 |k+1,l,h=>by
  have O:k*s+s<=l.length:=by rw[<-Nat.succ_mul];exact h
  simp only[S8,ACH];rw[Vr s k (l.drop s) (by rw[ABs];omega),Nat.succ_mul,Nat.add_comm (k*s) s,List.take_add]
theorem RX (s:Nat):∀(k:Nat) (l:List AC) (W:List Value),AF T n V m w l W->((Cb s k l).all fun l=>l.all AC.atom)=true->Sw T n V m w (Cb s k l) (S8 s k W)
 |0,_,_,_,_=>rfl
 |k+1,l,W,h,ha=>by
  simp only[Cb,List.all_cons,AA8] at ha;exact⟨_,_,rfl,ha.1,h.take s,RX s k (l.drop s) (W.drop s) (h.drop s) ha.2⟩
variable{s x:AC}{u v:Value}{I:Nat}{ay:Array TypeId}{t:TypeId}
theorem xV {id off len s:Nat}{l:List AC}{E:TypeId}(hm:AH T n V m w)(al:m.at id= .cells l E)(hx:AA T n V m w (.asl id off len) u)
  (C:off+len*s<=l.length) (O:0 < s) (h3:0 < len) (F:((Cb s len (l.drop off)).all fun l=>l.all AC.atom)=true):
  (C7 (Cb s len (l.drop off))).length=s/\Src T V m w (C7 (Cb s len (l.drop off))) (.list ((Cb s len (l.drop off)).map fun l=>l.map fun c=>(BX c).2.eval T)) u:=by
 obtain⟨b,M,rfl,hp⟩:=hx;have p:=hm.blk id;rw[al] at p;obtain⟨z,W,i,N,q⟩:=p;obtain rfl:b=z:=by rw[M] at i;exact Option.some.inj i
 have bc:W.length=l.length:=q.length;have hr:=RX s len (l.drop off) (W.drop off) (q.drop off) F;have hn:Cb s len (l.drop off)≠[]:=fun h=>by
  have:=Hj s len (l.drop off);grind
 obtain⟨A,D⟩:=Sd O hr (OT s len (l.drop off) (by rw[ABs];omega)) hn;refine⟨A,_,some ⟨b,off,none⟩,len,rfl,?_,?_,?_,(S8 s len (W.drop off)).flatten,D,fun _=>⟨b,off,rfl,fun j x hj=>?_⟩⟩
 .rw[List.length_map,Hj]
 .rw[List.length_map,Hj];exact ABB _
 .grind
 .rw[Vr s len (W.drop off) (by rw[ABs];omega)] at hj;rw[Gr N];grind
theorem XU (hm:AH T n V m w)(bk:n < aj){e:TypeId}{ks:List Kd}(bi:ks≠[])(q:T n= .list [])
  {aG:World} (hd:aG=w\/aG=w.drew) {A:Array Value} {len:Nat} (ba:len<=I) (hl:len<=68719476736) (bm:I*ks.length<=A.size):
  ∃ ac,AI T n V m w ac (m++[.tok n ks e]) (aG.alloc (.cells A e))/\AH T aj ac (m++[.tok n ks e]) (aG.alloc (.cells A e))/\
   AA T aj ac (m++[.tok n ks e]) (aG.alloc (.cells A e)) (.rsv m.length n ks) (.slice (some ⟨w.heap.size,0,none⟩) len I):=by
 obtain⟨ac,F,M,N,f3⟩:=eJ (aj:=aj) (e:=e) (ks:=ks) (l:=[]) (W:=[]) hm bk bi (Ah.nil _ _) (by simp[AB]) q hd (A:=A) (I:=I) (fun p hp=>by simp at hp) (ABh _) bm;refine⟨ac,M,N,?_⟩;obtain⟨g0,g1,au,g3⟩:=f3;refine⟨g0,g1,q,⟨_,_,_,rfl⟩,fun af e' he=>?_⟩;rcases g3 af e' he with⟨h,j⟩|⟨b,bo,W,h,j,z,D⟩
 .rw[F] at h;cases h
 .obtain⟨i,e2,E⟩:=Value.slice.inj j;obtain rfl:w.heap.size=b:=by injection i with i;injection i
  subst E;exact .inr ⟨_,len,I,W,h,rfl,⟨ba,hl⟩,z,D⟩
theorem gQ (h:U9 P ay s x m g=some r)(bi:New T g.n r.us)(b2:∀q∈r.ps,q.holds T)(D:AH T g.n V m w)(aa:AA T g.n V m w s v)(hx:AA T g.n V m w x u)(az:TypeId):
  ∃z ab ac,(Builtin.append_ ay az #[v,u]).run P w= .ok z ab/\AI T g.n V m w ac r.m ab/\AH T (g.n+r.us.length) ac r.m ab/\AA T (g.n+r.us.length) ac r.m ab r.c z:=by
 unfold U9 at h;split at h
 .rename_i id off len;split at h
  .rename_i l e0 bx;simp only[ABA,AA7] at h;obtain⟨t,ch,h⟩:=h;split at h
   .rename_i e N;simp only[AA7] at h;obtain⟨i,Y,h⟩:=h;split at h
    .rename_i hc;obtain⟨C,O,h3,h4,h5⟩:=hc;simp only[AA7] at h;obtain⟨r0,dn,h⟩:=h;cases h;obtain⟨c2,c3⟩:=xV D bx hx C O h3 h5;have p:T g.n= .list ((Cb i.size len (l.drop off)).map fun l=>l.map fun c=>(BX c).2.eval T):=by
      have e1:=bi.head;have e2:=SC (T:=T) (s:=i.size) ((Cb i.size len (l.drop off)).map fun l=>l.map fun c=>(BX c).2) (fun ae hl=>by
       simp only[ACI] at hl;obtain⟨ah,dd,rfl⟩:=hl;rw[List.length_map];exact OT i.size len (l.drop off) (by rw[ABs];omega) ah dd)
      rw[e1];simp only[Ex.eval,dX,VK];simp only[List.length_map,Hj] at e2;rw[e2];simp[List.map_map,Function.comp_def]
     have dj:AH T (g.n+1) V m w:=D.mono (by omega);have d0:AA T (g.n+1) V m w s v:=aa.up D (by omega);have dk:New T (g.n+1) r0.us:=fun j u hj=>by
      have:=bi (j+1) u (by simpa using hj);grind
     obtain⟨z,ab, ac,k1,E,k3,k4⟩:=jx (g:={ g with n:=g.n+1 }) dn dk b2 dj d0 (u:=u) (by rw[show (Rf.e g.n).eval T=T g.n from rfl,p];exact c3) az;have en:g.n+(r0.us.length+1)=g.n+1+r0.us.length:=by omega
     exact⟨z,ab, ac,k1,E.down (by show g.n<=g.n+1;omega),by simp only[ABa];rw[en];exact k3,by simp only[ABa];rw[en];exact k4⟩
    .cases h
   .cases h
  .cases h
 .rename_i id y kr;simp only[ABA,AA7] at h;obtain⟨t,ch,h⟩:=h;split at h
  .rename_i e aF ky ey ht bx;simp only[AA7] at h;obtain⟨i,Y,z,hz,h⟩:=h;split at h
   .rename_i hc;obtain⟨b3,es,ca,c6,rfl,db,M,b6⟩:=hc;cases h;obtain rfl:ay= #[t,t]:=by
     have:=Gg _ _ b3;exact Array.ext' this
    have hv:v= .slice none 0 0:=aa;subst hv;have b1:kr≠[]:=fun h=>by rw[h] at M;simp at M;omega
    have p:T g.n= .list []:=by rw[bi.head];rfl
    obtain⟨hy,eq,el,⟨d8,e4,ee,ev⟩,di⟩:=hx;have cj:∀a c,∃z ab ac,(Builtin.append_ #[t,t] az #[.slice none 0 0,.slice a 0 c]).run P w= .ok z ab/\AI T g.n V m w ac (m++[.tok g.n kr e]) ab/\AH T (g.n+1) ac (m++[.tok g.n kr e]) ab/\AA T (g.n+1) ac (m++[.tok g.n kr e]) ab (.rsv m.length g.n kr) z:=by
     intro a c;obtain⟨ac,f1,f2,g0,g1,au,g3⟩:=Xa (aj:=g.n+1) (e:=e) (ks:=kr) D (by omega) p;refine⟨_,w, ac,DR ht Y none a 0 0 c (ABB _),f1,f2,g0,g1,p,⟨_,_,_,rfl⟩,fun af e' he=>?_⟩;rcases g3 af e' he with⟨a1,a0⟩|⟨b,cx,W,a1,a0,cs,a4⟩
     .exact .inl ⟨a1,rfl⟩
     .cases a0
    rcases di ky ey bx with⟨_,N⟩|⟨b,len,I,W,hb,N,⟨de,cc⟩,c7,cb⟩
    .subst N;exact cj none 0
    .subst N;rcases AB1 len with F|F
     .subst F;exact cj _ I
     .have d1:len*i.size<=W.size:=by
       rw[db] at cb;exact ABS (ABY _ de) cb
      have dv:=run_append_nil (P:=P) w t az e i z ht Y hz ⟨b,0,none⟩ len I (W.toList.take (len*i.size)) (by rw[ABl,Array.length_toList];omega) (fun j x hj=>by
       have c9:=(ABD.1 hj).1;rw[ABl] at c9;rw[List.getElem?_take_of_lt (by omega)] at hj;rw[CD,ABJ,Gr (W:=W.toList) (by rw[Array.toArray_toList];exact c7)];exact hj) F (by omega) (ABS (Nat.mul_le_mul cc c6) (by decide))
      have bs:=grownCap_ge w len 0 e;obtain⟨ac,f1,f2,f3⟩:=XU (e:=e) (aj:=g.n+1) (len:=len) D (by omega) b1 p (.inr rfl) (A:=(W.toList.take (len*i.size)).toArray++Builtin.zeroCells z.cells (grownCap w len 0 e - len)) (I:=grownCap w len 0 e) bs cc (by
       simp only[Array.size_append,AB6,size_zeroCells,b6,ABl,Array.length_toList,Nat.min_eq_left d1,M];rw[<-ABc];exact ABY _ (by omega))
      grind
   .cases h
  .cases h
 .rename_i x _ _;split at h
  .rename_i k e5 eo rn c8;simp only[ABA,AA7] at h;obtain⟨t,ch,tn,et,h⟩:=h;split at h
   .rename_i e kn N ci;simp only[AA7] at h;obtain⟨i,Y,z,hz,l,hl,h⟩:=h;split at h
    .rename_i hc;obtain⟨b3,dm,M,b6,ca⟩:=hc;cases h;obtain rfl:ay= #[t,tn]:=Array.ext' (Gg _ _ b3);have hv:v= .slice none 0 0:=aa;subst hv;obtain⟨n,rfl,er,_,_⟩:=Bk c8 hx;have hp:=b2 _ (ABi.2 rfl);simp only[Pr.holds,Dy,ABQ,ABk,u0,er,U.toI] at hp;obtain⟨p0,p1⟩:=hp;obtain⟨n,rfl⟩:∃k:Nat,n=k:=⟨n.toNat,by omega⟩;have p:T g.n= .list []:=by rw[bi.head];rfl
     have b1:(l.map fun c=>(BX c).1)≠[]:=fun h=>by rw[h] at M;simp at M;omega
     rcases AB1 n with F|F
     .subst F;obtain⟨ac,f1,f2,g0,g1,au,g3⟩:=Xa (aj:=g.n+1) (e:=e) (ks:=l.map fun c=>(BX c).1) D (by omega) p;refine⟨.slice none 0 0,w, ac,?_,f1,f2,g0,g1,p,⟨_,_,_,rfl⟩,fun af e' he=>?_⟩
      .have d2:IntKind.i64.wrap 0=0:=by decide
       simp[Builtin.append_,run_underlying N,run_underlying ci,sizeOf,typeInfo,Y,asInt,asIntOf,d2]
      .rcases g3 af e' he with⟨a1,a0⟩|⟨b,cx,W,a1,a0,cs,a4⟩
       .exact .inl ⟨a1,rfl⟩
       .cases a0
     .have dv:=Go.Lib.run_append_nil_zeros (P:=P) w t tn az e i z k kn N ci Y hz n F dm (by omega) (ABS (Nat.mul_le_mul (show n<=68719476736 by omega) ca) (by decide));have bs:=grownCap_ge w n 0 e;obtain⟨ac,f1,f2,f3⟩:=XU (e:=e) (aj:=g.n+1) (len:=n) D (by omega) b1 p (.inr rfl) (A:=Builtin.zeroCells z.cells n++Builtin.zeroCells z.cells (grownCap w n 0 e - n)) (I:=grownCap w n 0 e) bs (by omega) (by
       simp only[Array.size_append,size_zeroCells,b6,M];rw[<-ABc];exact ABY _ (by omega))
      grind
    .cases h
   .cases h
  .simp only[ABA,AA7] at h;obtain⟨⟨E,aK⟩,ds,h⟩:=h;exact jx h bi b2 D aa (Iz (Fs ds hx)) az
theorem ow (h:XS P ay s x m g=some r)(j:New T g.n r.us)(p:∀q∈r.ps,q.holds T)(i:AH T g.n V m w)(aa:AA T g.n V m w s v)(A:AA T g.n V m w x u)(az:TypeId):
  ∃z ab ac,(Builtin.append_ ay az #[v,u]).run P w= .ok z ab/\AI T g.n V m w ac r.m ab/\AH T (g.n+r.us.length) ac r.m ab/\AA T (g.n+r.us.length) ac r.m ab r.c z:=by
 unfold XS at h;split at h
 .simp only[ABA,AA7] at h;obtain⟨⟨E,aK⟩,D,h⟩:=h;exact Uq h j p i aa (Iz (Fs D A)) az
 .exact gQ h j p i aa A az
theorem Dq {v:Int}{k:IntKind}{y:Nat}{c:BoundsCode}(h:0<=v)(C:v<=y):(Instr.sliceBound (.int k v) y c).run P w= .ok v.toNat w:=by
 simp[Instr.sliceBound,asIntOf,h,C]
theorem li {ok:Nat->Nat->Prop}{ks:List Kd}{l:U'}{a:Option Addr}{am Y size:Nat}(q:ks≠[])(W:size=ks.length)(F:l.length<=AB)(M:am<=Y)(D:Y<=l.length)(A:l.length<=I)
  (j:0 < l.length->∃b o,a=some ⟨b,o,none⟩/\∀i us,l[i]? =some us->Al ok w ks b (o+i*ks.length) us):
  AX ok w (.list ks) (.list ((l.take Y).drop am)) (.slice (if I=am then a else a.map (·.add (am*size))) (Y - am) (I - am)):=by
 have p:((l.take Y).drop am).length=Y - am:=by rw[ABs,ABl];omega
 refine⟨_,rfl,by omega,fun h=>absurd h q,(if I=am then a else a.map (·.add (am*size))),I - am,by rw[p],by omega,fun N=>?_⟩;obtain⟨b,o,rfl,z⟩:=j (by omega);refine⟨b,o+am*size,?_,fun i us E=>?_⟩
 .rw[ACD (by omega)];simp only[AB9,CD]
 .grind
def Pa (T:Tab)(n:Nat)(V :Nat->Option Nat)(m:Mem)(w:World):Option AC->Option Value->Prop
 |none,v=>v=none
 |some c,v=>∃u,v=some u/\AA T n V m w c u
theorem Sm {am Y:Option AC}{J ak:Option Value}(h:LJ P t x am Y m g=some r)(bk:New T g.n r.us)(bl:∀q∈r.ps,q.holds T)(hm:AH T g.n V m w)(hx:AA T g.n V m w x v)
  (N:Pa T g.n V m w am J) (M:Pa T g.n V m w Y ak):
  ∃z,(Instr.sliceAt t v J ak none).run P w= .ok z w/\r.m=m/\AA T (g.n+r.us.length) V m w r.c z:=by
 unfold LJ at h;split at h
 .rename_i k e E;split at h
  .rename_i id off;split at h
   .rename_i b5;cases h;obtain⟨i,Y⟩:=Option.isSome_iff_exists.1 b5;obtain⟨b,hb,rfl,p⟩:=hx;obtain rfl:J=none:=N;obtain rfl:ak=none:=M;refine⟨.slice (some ⟨b,off,none⟩) k k,?_,rfl,b,hb,rfl,p⟩;simp only[Instr.sliceAt,ABo,run_underlying E,ABn,Instr.sureAddr,ABv,Instr.sliceBounds,BL Y,Nat.zero_mul,Nat.sub_zero,CD,Nat.add_zero,ite_self]
   .cases h
  .cases h
 .rename_i e E;have b4:∀v am Y,(Instr.sliceAt t v am Y none).run P w=(Instr.slice t v am Y none).run P w:=by
   intro v am Y;simp only[Instr.sliceAt,ABo,run_underlying E,ABn]
  rw[b4];simp only[ABA,AA7] at h;obtain⟨i,aw,h⟩:=h;split at h
  .rename_i k n0;split at h
   .rename_i hn;subst hn;cases h;obtain rfl:v= .slice none 0 0:=hx;obtain rfl:J=none:=N;obtain⟨u,rfl,A⟩:=M;obtain rfl:u= .int k 0:=A;refine⟨.slice none 0 0,?_,rfl,rfl⟩;simp[Instr.slice,run_underlying E,Instr.sliceBounds,Dq,BL aw]
   .cases h
  .rename_i id y ks k n0;split at h
   .rename_i hn;subst hn;cases h;obtain⟨hy,b9,a9,⟨bo,c1,a0,rfl⟩,b6⟩:=hx;obtain rfl:J=none:=N;obtain⟨u,rfl,A⟩:=M;obtain rfl:u= .int k 0:=A;refine⟨.slice (if a0=0 then bo else bo.map (·.add (0*i.size))) 0 a0,?_,rfl,hy,b9,?_,fun af e' he=>?_⟩
    .simp[Instr.slice,run_underlying E,Instr.sliceBounds,Dq,BL aw]
    .rw[a9];exact⟨[],rfl,ABh _,fun _=>rfl,_,a0,rfl,ABh _,fun h=>by simp at h⟩
    .rcases b6 af e' he with⟨X,ah⟩|⟨b,len,I,W,X,ah,⟨l3,_⟩,l4,l5⟩
     .cases ah;exact .inl ⟨X,none,by rw[a9];rfl⟩
     .cases ah;refine .inr ⟨b,a0,W,X,?_,l4,l5⟩;rw[a9];simp[U.toL,CD]
   .cases h
  .rename_i x am Y _ _;simp only[AA7] at h;obtain⟨⟨ks,r0⟩,ca,h⟩:=h;simp only at h;split at h
   .rename_i hc;obtain⟨bm,cv⟩:=hc;have b8:ks≠[]:=fun h=>by rw[h] at bm;simp at bm;omega
    obtain⟨l,F,b7,hk,a,I,rfl,b2,h3⟩:=Fs ca hx;have bc:∀{f:List U->U} {tg:Tg} {ai:List Rf} {cj:List Ex},New T g.n (⟨tg,f,ai⟩::cj)->T g.n=f (ai.map (Rf.eval T)):=fun h=>h.head;have a4:∀(am Y:Nat) (ae:U'),am<=Y->Y<=l.length->ae=(l.take Y).drop am->T g.n= .list ae->AA T (g.n+1) V m w (.ro g.n ks) (.slice (if I=am then a else a.map (·.add (am*i.size))) (Y - am) (I - am)):=by
     intro am Y ae C O h4 h5;refine⟨by omega,?_⟩;rw[h5,h4];exact li b8 bm b7 C O b2 h3
    split at h
    .
     simp only[AA7] at h;obtain⟨⟨k,X,C,rb⟩,hb,h⟩:=h;cases h;obtain rfl:J=none:=N;obtain⟨u,rfl,A⟩:=M;obtain⟨j,rfl,D,_,_⟩:=Bk hb A;have p:=bl _ (ABi.2 rfl);simp only[Pr.holds,Lp,ABQ,ABk,u0,u1,F,D,U.toI,U.toL] at p;refine⟨_,?_,rfl,a4 0 j.toNat (l.take j.toNat) (ABh _) (by omega) rfl ((bc bk).trans ?_)⟩
     .simp only[Instr.slice,ABo,run_underlying E,ABn,Instr.sliceBounds,ABv,Dq (P:=P) (w:=w) (k:=k) (c:= .sliceAcap) p.1 (show j<=(I:Int) by omega),BL aw,if_true]
     .simp[QM,u0,u1,F,D,U.toI,U.toL]
    .simp only[AA7] at h;obtain⟨⟨k,X,C,ra⟩,ha,h⟩:=h;cases h;obtain rfl:ak=none:=M;obtain⟨u,rfl,A⟩:=N;obtain⟨j,rfl,D,_,_⟩:=Bk ha A;have p:=bl _ (ABi.2 rfl);simp only[Pr.holds,Lp,ABQ,ABk,u0,u1,F,D,U.toI,U.toL] at p;refine⟨_,?_,rfl,a4 j.toNat l.length (l.drop j.toNat) (by omega) (ABB _) (by rw[ACA]) ((bc bk).trans ?_)⟩
     .simp only[Instr.slice,ABo,run_underlying E,ABn,Instr.sliceBounds,ABv,Dq (P:=P) (w:=w) (k:=k) (c:= .sliceB) p.1 p.2,BL aw,Option.isSome_none,ABW,if_false]
     .simp[nQ,u0,u1,F,D,U.toI,U.toL]
    .simp only[AA7] at h;obtain⟨⟨k,X,C,ra⟩,ha,⟨k',cy,cl,rb⟩,hb,h⟩:=h;cases h;obtain⟨u,rfl,A⟩:=N;obtain⟨j,rfl,D,_,_⟩:=Bk ha A;obtain⟨u,rfl,A⟩:=M;obtain⟨q,rfl,eq,_,_⟩:=Bk hb A;have p:=bl _ (ABi.2 rfl);simp only[Pr.holds,tv,ABQ,ABk,u0,u1,u2,F,D,eq,U.toI,U.toL] at p;refine⟨_,?_,rfl,a4 j.toNat q.toNat ((l.take q.toNat).drop j.toNat) (by omega) (by omega) rfl ((bc bk).trans ?_)⟩
     .have hq:(q.toNat:Int)=q:=by omega
      simp only[Instr.slice,ABo,run_underlying E,ABn,Instr.sliceBounds,ABv,Dq (P:=P) (w:=w) (k:=k') (c:= .sliceAcap) (show 0<=q by omega) (show q<=(I:Int) by omega),Dq (P:=P) (w:=w) (k:=k) (c:= .sliceB) p.1 (show j<=((q.toNat:Nat):Int) by omega),BL aw,if_true,Option.isSome_none,ABW,if_false]
     .simp[vr,u0,u1,u2,F,D,eq,U.toI,U.toL]
    .cases h
   .cases h
 .cases h
theorem Zu {a:Act}{o:Oper}{x y:Operand}{Q p:AC}(h:Pq P t Q p m g=some r)(bs:New T g.n r.us)(bx:∀q∈r.ps,q.holds T)(hm:AH T g.n V m w)
  (ho:o.op= .makeSlice t x y) (hx:AA T g.n V m w Q (a.eval x)) (hy:AA T g.n V m w p (a.eval y)):BK T g V m w ((execOp a.eval o).run P w) r:=by
 unfold Pq at h;split at h
 .rename_i e hu;simp only[ABA,AA7] at h;obtain⟨i,Y,z,hz,⟨k,l0,D,aO⟩,W,l,hl,h⟩:=h;simp only at h;split at h
  .rename_i hc;obtain⟨bc,rfl,cc,E,ce,b9⟩:=hc;cases h;obtain rfl:Q=p:=AC.beq_eq _ _ bc;obtain⟨n,en,M,_,_⟩:=Bk W hx;obtain⟨aj,a0,N,_,_⟩:=Bk W hy;obtain rfl:n=aj:=by rw[M] at N;injection N
   have hp:=bx _ (ABi.2 rfl);simp only[Pr.holds,Dy,ABQ,ABk,u0,M,U.toI] at hp;obtain⟨p0,p1⟩:=hp;have hT:T g.n= .list []:=by rw[bs.head];rfl
   have hw:IntKind.i64.wrap n=n:=by
    exact E6 .i64 n (by rw[show IntKind.i64.min= -9223372036854775808 from rfl];omega) (by rw[show IntKind.i64.max=9223372036854775807 from rfl];omega)
   have cb:i.bytes*n<=2 ^ 48:=by
    have:(i.bytes:Int)*n<=1024*68719476736:=Int.mul_le_mul (by omega) p1 p0 (by decide);omega
   have F:∃j:Array Value,j.size=n.toNat*i.size/\(execOp a.eval o).run P w= .ok (.value (.slice (some ⟨w.heap.size,0,none⟩) n.toNat n.toNat)) (w.alloc (.cells j e)):=by
    have b1:(typeInfo e).run P w= .ok i w:=by simp[typeInfo,Y]
    have bk:¬(i.bytes*n > 2 ^ 48):=by omega
    have bl:¬(n < 0):=by omega
    simp only[execOp,ho,Instr.makeSlice,ABo,run_underlying hu,ABn,asInt,asIntOf,en,a0,ABv,b1,hw,bk,bl,decide_false,Bool.or_self,ABW,gt_iff_lt,Int.lt_irrefl,if_false,run_askRoom,BL Y];by_cases D:n.toNat*i.size=0
    .refine⟨(Array.range (n.toNat*i.size)).map (fun x=>(#[]:Array Value)[x % (#[]:Array Value).size]!),by simp,?_⟩;simp only[D,if_true,ABv,ABn,newRow];simp
    .refine⟨(Array.range (n.toNat*i.size)).map (fun x=>z.cells[x % z.cells.size]!),by simp,?_⟩;simp only[D,if_false,ABo,IG Y hz,ABv,ABn,newRow];simp
   obtain⟨j,b0,F⟩:=F;have bo:(l.map fun c=>(BX c).1)≠[]:=fun h=>by rw[h] at E;simp at E;omega
   obtain⟨ac,f1,f2,f3⟩:=XU (e:=e) (aj:=g.n+1) (len:=n.toNat) (I:=n.toNat) hm (by omega) bo hT (.inl rfl) (A:=j) (ABB _) (by omega) (by rw[E,b0];exact ABB _);exact⟨_,_, ac,.inl F,f1,f2,f3⟩
  .cases h
 .cases h
theorem yb {i:Bool}{z:Value}(h:(if i then Builtin.max_ ay t #[v,u] else Builtin.min_ ay t #[v,u]).run P w= .ok z w):
  ((if i then Builtin.max2 else Builtin.min2) v u).run P w= .ok z w:=by
 cases i with
 |true=>simpa [Builtin.max_] using h
 |false=>simpa [Builtin.min_] using h
theorem M6 {q:Bool}:∀(l:List AC) (x:AC) (v:Value) (us:List Value) (g:G) (r:R),TM q x l m g=some r->New T g.n r.us->AA T g.n V m w x v->AF T g.n V m w l us->
  ∃z,(us.foldlM (if q then Builtin.max2 else Builtin.min2) v).run P w= .ok z w/\r.m=m/\AA T (g.n+r.us.length) V m w r.c z
 |[],x,v,us,g,r,h,hnew,hx,hl=>by
  obtain rfl:us=[]:=hl;cases h;exact⟨v,by simp,rfl,hx⟩
 |y::l,x,v,us,g,r,h,hnew,hx,hl=>by
  obtain⟨u,p,rfl,N,A⟩:=hl;simp only[TM,ABA,AA7] at h;obtain⟨ax,F,aK,M,h⟩:=h;cases h;obtain⟨z,W,E,k3⟩:=MZ (P:=P) F (fun j u i=>hnew j u (by rw[ABO (ABD.1 i).1];exact i)) hx N #[] 0;have D:AF T (g.n+ax.us.length) V m w l p:=AF.mono0 (AI.refl T g.n V m w) (by omega) l p A;obtain⟨z2,q1,q2,q3⟩:=M6 l ax.c z p { g with n:=g.n+ax.us.length } aK M (fun j u i=>by
   have:=hnew (ax.us.length+j) u (by rw[ABP (by omega),Nat.add_sub_cancel_left];exact i);rw[<-Nat.add_assoc] at this;exact this) k3 D
  refine⟨z2,?_,rfl,?_⟩
  .simp only[List.foldlM_cons,ABo,yb W,ABn];exact q1
  .simp only[ABM];rw[<-Nat.add_assoc];exact q3
end
section
variable {P:Program}{T:Tab}{n aj:Nat}{V ac:Nat->Option Nat}{m ag:Mem}{w ab:World}{g:G}{r:R}
variable{x Y a2:AC}{y:Nat}{e t:TypeId}{a:Act}{o:Oper}{H:Array (Nat × Operand)}{am:Option AC}{v ak a8:Value}{J:Option Value}
theorem bp (z:AH T n V m w){x:Nat}(A:x < aj)(hy:y < aj)(bk:n<=aj){ks:List Kd}{l:U'}{W us:List Value}(bi:ks≠[])(hv:Ah (Ag T V m w) w ks l W)(hk:l.length<=AB)(hT:T x= .list l)(aw:T y= .int l.length)
  {aG:World} (hd:aG=w\/aG=w.drew) {I:Nat} (bo:l.length<=I) (bl:I*ks.length<=(W++us).length):
  ∃ ac,AI T n V m w ac (m++[.mrow x y ks e]) (aG.alloc (.cells (W++us).toArray e))/\AH T aj ac (m++[.mrow x y ks e]) (aG.alloc (.cells (W++us).toArray e))/\
   AA T aj ac (m++[.mrow x y ks e]) (aG.alloc (.cells (W++us).toArray e)) (.mr m.length y) (.slice (some ⟨w.heap.size,0,none⟩) l.length I):=by
 have al:aG.heap=w.heap:=by rcases hd with rfl|rfl<;>rfl
 have j:=JK (T:=T) z (.cells (W++us).toArray e) (.mrow x y ks e);have aa:AI T n V m w (CS V m.length w.heap.size) (m++[.mrow x y ks e]) (aG.alloc (.cells (W++us).toArray e)):=by
  rcases hd with rfl|rfl
  .exact j
  .exact⟨j.os,j.tape,j.output,j.size,j.mlen,j.rho,j.untr,j.fresh,j.old,j.tok,j.row⟩
 have N:Mem.at (m++[.mrow x y ks e]) m.length= .mrow x y ks e:=by rw[AV,ACE rfl]
 have a0:(aG.alloc (.cells (W++us).toArray e)).heap[w.heap.size]? =some (.cells (W++us).toArray e (0,0)):=by
  rw[<-al];exact C2 _ _
 have ba:∀id D b,(Mem.at (m++[.mrow x y ks e]) id).tracked=true->(Mem.at (m++[.mrow x y ks e]) D).tracked=true->CS V m.length w.heap.size id=some b->CS V m.length w.heap.size D=some b->id=D:=by
  intro id D b i M F E;rw[AV] at i M;by_cases q:id=m.length
  .by_cases p:D=m.length
   .omega
   .rw[ACD p] at M;subst q;rw[Au] at F;cases F;rw[As _ _ _ p] at E;have:=z.lt M E;omega
  .rw[ACD q] at i;rw[As _ _ _ q] at F;by_cases p:D=m.length
   .subst p;rw[Au] at E;cases E;have:=z.lt i F;omega
   .rw[ACD p] at M;rw[As _ _ _ p] at E;exact z.inj id D b i M F E
 refine⟨_,aa,⟨fun id=>?_,ba,fun b off h=>z.fr b off (ABS aa.size h)⟩,⟨hy,by rw[N];exact (fun h=>by cases h)⟩,l.length,some ⟨w.heap.size,0,none⟩,I,aw,⟨by omega,by omega⟩,by simp,⟨by omega,fun _=>⟨_,rfl⟩⟩,fun L af e' p=>?_⟩
 .by_cases q:id=m.length
  .subst q;rw[N];exact⟨⟨A,hy⟩,_,hT,aw,⟨hk,bi⟩,.inr ⟨w.heap.size,W,us,Au _ _ _,a0,Ah.mono (fun _ _ h=>aa.safe0 h) hv,fun off=>z.fr _ off (ABB _)⟩⟩
  .by_cases i:(m.at id).tracked=true
   .refine BS.step aa z bk (by rw[AV,ACD q]) (As _ _ _ q) (fun b hb=>?_);have:=z.lt i hb;rw[BJ _ _ _ (by rw[al];exact this),al]
   .rw[AV,ACD q];cases A:m.at id with
    |pad=>trivial
    |gone=>trivial
    |cells=>rw[A] at i;exact absurd rfl i
    |lp=>rw[A] at i;exact absurd rfl i
    |tok=>rw[A] at i;exact absurd rfl i
    |mrow=>rw[A] at i;exact absurd rfl i
    |mapb=>rw[A] at i;exact absurd rfl i
 .rw[N] at p;cases p;exact .inr ⟨w.heap.size,_,Au _ _ _,rfl,a0,by simpa using bl⟩
theorem dy (E:AH T n V m w){x:Nat}(q:x < aj)(hy:y < aj)(bi:n<=aj){ks:List Kd}{a:Option Addr}(bc:ks≠[])(hT:T x= .list [])(M:T y= .int 0):
  ∃ ac,AI T n V m w ac (m++[.mrow x y ks e]) w/\AH T aj ac (m++[.mrow x y ks e]) w/\AA T aj ac (m++[.mrow x y ks e]) w (.mr m.length y) (.slice a 0 0):=by
 let ac:Nat->Option Nat:=fun j=>if j=m.length then none else V j
 have same: ac m.length=none:=by simp[ac]
 have z:∀j,j≠m.length-> ac j= V j:=fun j h=>by simp[ac,h]
 have A:m.at m.length= .pad:=Mem.at_ge (ABB _);have aa:AI T n V m w ac (m++[.mrow x y ks e]) w:={
  os:=rfl
  tape:=rfl
  output:=rfl
  size:=ABB _
  mlen:=fun id h=>by rw[AV];split<;>first|exact (fun h=>by cases h)|exact h
  rho:=fun id h=>by
   have:id≠m.length:=fun e=>by subst e;exact BM h A
   rw[AV,ACD this];grind
  untr:=fun id h i=>by
   have:id≠m.length:=fun e=>by subst e;exact h A
   rw[AV,ACD this] at i;exact i
  fresh:=fun id b h i F=>by
   by_cases e:id=m.length
   .grind
   .rw[AV,ACD e,h] at i;cases i
  old:=fun k hk _=>rfl
  tok:=fun id y ky e h=>by
   have:id≠m.length:=fun e=>by subst e;rw[A] at h;cases h
   exact .inl ⟨by rw[AV,ACD this];exact h,z _ this,fun b hb=>rfl⟩
  row:=fun id L aF ky e h=>by
   have:id≠m.length:=fun e=>by subst e;rw[A] at h;cases h
   exact .inr ⟨L,aF,ky,by rw[AV,ACD this];exact h,rfl,.inl ⟨rfl,z _ this,fun b W hb hv=>⟨W,hv,rfl⟩⟩⟩ }
 have N:Mem.at (m++[.mrow x y ks e]) m.length= .mrow x y ks e:=by rw[AV,ACE rfl]
 refine⟨ac,aa,⟨fun id=>?_,fun id a4 b i a0 F aw=>?_,fun b off h=>E.fr b off h⟩,⟨hy,by rw[N];exact (fun h=>by cases h)⟩,0,a,0,M,⟨by omega,by omega⟩,rfl,⟨by omega,fun h=>by omega⟩,fun L af e' D=> .inl ⟨same,rfl⟩⟩
 .by_cases p:id=m.length
  .subst p;rw[N];exact⟨⟨q,hy⟩,_,hT,M,⟨ABh _,bc⟩,.inl ⟨same,rfl⟩⟩
  .by_cases i:(m.at id).tracked=true
   .exact BS.step aa E bi (by rw[AV,ACD p]) (z _ p) (fun b hb=>rfl)
   .rw[AV,ACD p];cases q:m.at id with
    |pad=>trivial
    |gone=>trivial
    |cells=>rw[q] at i;exact absurd rfl i
    |lp=>rw[q] at i;exact absurd rfl i
    |tok=>rw[q] at i;exact absurd rfl i
    |mrow=>rw[q] at i;exact absurd rfl i
    |mapb=>rw[q] at i;exact absurd rfl i
 .by_cases p:id=m.length
  .grind
  .by_cases D:a4=m.length
   .grind
   .rw[AV,ACD p] at i;rw[AV,ACD D] at a0;rw[z _ p] at F;rw[z _ D] at aw;exact E.inj id a4 b i a0 F aw
theorem Lo {ks:List Kd}(h:PG P e=some ks):∃i z l,P.info? e=some i/\i.zero=some z/\(Jq z).cellsOf=some l/\l.length=i.size/\0 < i.size/\ks=l.map (fun c=>(BX c).1)/\ks≠[]:=by
 unfold PG at h;simp only[ABA,AA7] at h;obtain⟨i,Y,z,q,l,p,h⟩:=h;split at h
 .rename_i j;cases h;refine⟨i,z,l,Y,q,p,j.1,j.2,rfl,fun h=>?_⟩;have O:l.length=0:=by simpa using ACF List.length h
  grind
 .cases h
theorem U4 {ks:List Kd}{us:List Ex}(h:New T g.n ((JU ks e m g).us++us)):T g.n= .list []/\T (g.n+1)= .int 0:=by
 refine⟨by rw[h.left.head];rfl,?_⟩;have:=h 1 ⟨ "id",oId,[.c (.int 0)]⟩ rfl;rw[this];rfl
theorem RU {len:Nat}(h:I3 P t len H.size m g=some r)(D:New T g.n r.us)(q:AH T g.n V m w)
  (F:o.op= .buildSlice t len H):BK T g V m w ((execOp a.eval o).run P w) r:=by
 unfold I3 at h;split at h
 .rename_i e W;split at h
  .rename_i j;obtain⟨rfl,M⟩:=j;simp only[ABU] at h;obtain⟨ks,p,h⟩:=h;subst h;obtain⟨i,z,l,Y,hz,hl,a1,a4,_,A⟩:=Lo p;have N:H= #[]:=Array.eq_empty_of_size_eq_zero M;subst N;obtain⟨C,O⟩:=U4 (us:=[]) (by simpa using D);obtain⟨ac,k1,E,k3⟩:=bp (e:=e) (aj:=g.n+2) (x:=g.n) (y:=g.n+1) (us:=[]) q (by omega) (by omega) (by omega) A (Ah.nil _ _) (ABh _) C O (.inl rfl) (I:=0) (ABh _) (by simp);refine⟨_,_, ac,.inl ?_,k1,E,k3⟩;simp[execOp,F,Instr.buildSlice,run_underlying W,BL Y,Instr.fill,newRow];grind
  .cases h
 .cases h
theorem TS (h:P.underlying t=some (.slice e))(v:Value)(am Y a2:Option Value):(Instr.sliceAt t v am Y a2).run P w=(Instr.slice t v am Y a2).run P w:=by
 simp only[Instr.sliceAt,ABo,run_underlying h,ABn]
theorem ZM (h:P3 P t x am Y a2 m g=some r)(al:New T g.n r.us)(M:AH T g.n V m w)(hx:AA T g.n V m w x v)
  (F:Pa T g.n V m w am J) (A:AA T g.n V m w Y ak) (N:AA T g.n V m w a2 a8):
  ∃z ac,(Instr.sliceAt t v J (some ak) (some a8)).run P w= .ok z w/\AI T g.n V m w ac r.m w/\AH T (g.n+r.us.length) ac r.m w/\AA T (g.n+r.us.length) ac r.m w r.c z:=by
 unfold P3 at h;split at h
 .rename_i e k n0 j;split at h
  .rename_i q;obtain⟨p,rfl,aw⟩:=q;have:=AC.beq_eq _ _ p;subst this;simp only[ABU] at h;obtain⟨ks,D,h⟩:=h;subst h;obtain⟨i,z,l,Y,hz,hl,bi,bk,_,W⟩:=Lo D;obtain⟨C,O⟩:=U4 (us:=[]) (by simpa using al);obtain⟨⟨kx,rx⟩,a0⟩:=Option.isSome_iff_exists.1 aw;obtain⟨l0,_,_,_,a,I,rfl,ba,_⟩:=Fs a0 hx;obtain rfl:J=none:=F;obtain rfl:ak= .int k 0:=A;obtain rfl:a8= .int k 0:=N;obtain⟨ac,k1,E,k3⟩:=dy (e:=e) (aj:=g.n+2) (x:=g.n) (y:=g.n+1) (a:=a) M (by omega) (by omega) (by omega) W C O;refine⟨_, ac,?_,k1,E,k3⟩;rw[TS j];simp[Instr.slice,run_underlying j,Instr.sliceBounds,Dq,BL Y]
  .cases h
 .cases h
theorem T5 {ay:Array TypeId}{s:AC}{u:Value}(h:NJ P ay s x m g=some r)(A:New T g.n r.us)(a0:∀q∈r.ps,q.holds T)(p:AH T g.n V m w)(aa:AA T g.n V m w s v)(hx:AA T g.n V m w x u)(az:TypeId):
  ∃z ab ac,(Builtin.append_ ay az #[v,u]).run P w= .ok z ab/\AI T g.n V m w ac r.m ab/\AH T (g.n+r.us.length) ac r.m ab/\AA T (g.n+r.us.length) ac r.m ab r.c z:=by
 unfold NJ at h;simp only[ABA,AA7] at h;obtain⟨t,b0,h⟩:=h;split at h
 .rename_i e hu;simp only[AA7] at h;obtain⟨ks,hk,⟨E,aK⟩,a1,F,N,h⟩:=h;cases h;obtain⟨i,z,l,Y,hz,hl,bt,bx,_,aw⟩:=Lo hk;obtain⟨C,O⟩:=U4 A;have hv:v= .slice none 0 0:=aa;subst hv;obtain⟨M,D,bc,k3⟩:=dy (e:=e) (aj:=g.n+2) (x:=g.n) (y:=g.n+1) (a:=none) p (by omega) (by omega) (by omega) aw C O;have ba:AA T (g.n+2) M (m++[.mrow g.n (g.n+1) ks e]) w x u:=AA.mono0 D (by omega) _ _ hx;obtain⟨z',ab, ac,q1,q2,q3,q4⟩:=Uq (g:={ g with n:=g.n+2 }) (T:=T) (V := M) (w:=w) N (fun j u W=>by
   have:=A (j+2) u (by simpa [JU] using W);rwa [show g.n+(j+2)=g.n+2+j by omega] at this) a0 bc k3 (Iz (Fs a1 ba)) az
  have en:g.n+((JU ks e m g).us++F.us).length=g.n+2+F.us.length:=by simp[JU];omega
  refine⟨z',ab, ac,q1,D.trans p (show g.n<=g.n+2 by omega) q2,?_,?_⟩
  .grind
  .grind
 .cases h
theorem ml (h:Xc P t x am Y a2 m g=some r)(bl:New T g.n r.us)(bm:∀q∈r.ps,q.holds T)(W:AH T g.n V m w)(hx:AA T g.n V m w x v)
  (b9:Pa T g.n V m w am J) (bc:AA T g.n V m w Y ak) (ca:AA T g.n V m w a2 a8):
  ∃z ac,(Instr.sliceAt t v J (some ak) (some a8)).run P w= .ok z w/\AI T g.n V m w ac r.m w/\AH T (g.n+r.us.length) ac r.m w/\AA T (g.n+r.us.length) ac r.m w r.c z:=by
 unfold Xc at h;split at h
 .rename_i e hu;simp only[ABA,AA7] at h;obtain⟨i,bi,⟨k,X,C,rb⟩,hb,h⟩:=h;simp only at h;split at h
  .rename_i b4;have:=AC.beq_eq _ _ b4;subst this;obtain rfl:J=none:=b9;obtain⟨j,rfl,E,_,_⟩:=Bk hb bc;obtain⟨j',rfl,a0,_,_⟩:=Bk hb ca;obtain rfl:j=j':=by rw[E] at a0;exact U.int.inj a0
   rw[TS hu];split at h
   .rename_i k' n0;split at h
    .rename_i hn;subst hn;cases h;obtain rfl:v= .slice none 0 0:=hx;have:Value.int k j= .int k' 0:=bc;cases this;refine⟨.slice none 0 0, V,?_,AI.refl _ _ _ _ _,W,rfl⟩;simp[Instr.slice,run_underlying hu,Instr.sliceBounds,Dq,BL bi]
    .cases h
   .rename_i x Y _ _;simp only[AA7] at h;obtain⟨⟨ks,r0⟩,cf,h⟩:=h;simp only at h;split at h
    .rename_i hc;obtain⟨bs,c3⟩:=hc;have cc:ks≠[]:=fun h=>by rw[h] at bs;simp at bs;omega
     obtain⟨l,F,c2,hk,a,I,rfl,cy,h3⟩:=Fs cf hx;have ba:∀(p:(⟨ "take",Lp,[r0,rb]⟩:Pr).holds T),(Instr.slice t (.slice a l.length I) none (some (.int k j)) (some (.int k j))).run P w= .ok (.slice a (l.take j.toNat).length (l.take j.toNat).length) w/\(0<=j/\j<=l.length):=by
      intro p;simp only[Pr.holds,Lp,u0,u1,ABQ,ABk,F,E,U.toL,U.toI] at p;refine⟨?_,p⟩;have N:(l.take j.toNat).length=j.toNat:=by rw[ABl];omega
      rw[N];have b1:(Instr.sliceBound (.int k j) I .slice3Acap).run P w= .ok j.toNat w:=Dq p.1 (by omega);have b2:(Instr.sliceBound (.int k j) j.toNat .slice3B).run P w= .ok j.toNat w:=Dq p.1 (by omega);simp only[Instr.slice,ABo,run_underlying hu,ABn,Instr.sliceBounds,b1,b2,ABv,BL bi,if_true,Nat.sub_zero,Nat.zero_mul];split
      .rfl
      .obtain⟨b,o,rfl,_⟩:=h3 (by omega);simp[CD]
     have bk:∀(D:0<=j/\j<=l.length),AX (Ag T V m w) w (.list ks) (.list (l.take j.toNat)) (.slice a (l.take j.toNat).length (l.take j.toNat).length):=by
      intro D;have N:(l.take j.toNat).length=j.toNat:=by rw[ABl];omega
      refine⟨_,rfl,by rw[N];omega,fun h=>absurd h cc,a,_,rfl,ABB _,fun p=>?_⟩;grind
     split at h
     .rename_i id y kv _;split at h
      .rename_i aF c6 e' b7;split at h
       .rename_i b6;obtain⟨⟨rfl,rfl⟩,b8⟩:=b6;have:=Kd.beqs_eq _ _ b8;subst this;cases h;obtain⟨bo,D⟩:=ba (bm _ (ABi.2 rfl));have A:T g.n= .list (l.take j.toNat):=by
         rw[bl.head];simp[Ex.eval,QM,u0,u1,F,E,U.toL,U.toI]
        obtain⟨c4,ce,_,_⟩:=hx;let ac:Nat->Option Nat:=fun q=>if q=id then none else V q
        have same: ac id=none:=by simp[ac]
        have cj:∀q,q≠id-> ac q= V q:=fun q h=>by simp[ac,h]
        obtain⟨M,f2⟩:=TI (ac:= ac) (ab:=w) (aj:=g.n+1) (ks:=ks) W (by omega) b7 cj rfl rfl rfl (ABB _) (fun _ _ _=>rfl) (fun _ _ _ _=>rfl) (fun b' a9=>by rw[same] at a9;cases a9) A (.inl same);have b3:Mem.at (m.set id (.tok g.n ks e)) id= .tok g.n ks e:=by rw[Gq m id _ id ce,ACE rfl]
        refine⟨_, ac,bo,M,f2,by simp,by rw[b3];exact (fun h=>by cases h),?_,fun c5 cv c0=> .inl ⟨same,a,by rw[A];rfl⟩⟩;rw[A];exact AX.mono (fun _ _ aa=>M.safe0 aa) _ _ _ (bk D)
       .cases h
      .cases h
     .cases h;obtain⟨bo,D⟩:=ba (bm _ (ABi.2 rfl));have A:T g.n= .list (l.take j.toNat):=by
       rw[bl.head];simp[Ex.eval,QM,u0,u1,F,E,U.toL,U.toI]
      obtain⟨ac,M,f2,f3⟩:=fK (aj:=g.n+1) (e:=e) (ks:=ks) W (by omega) A (bk D);grind
    .cases h
  .cases h
 .cases h
theorem YJ (D:List Value)(i:0 < D.length):∀n:Nat,(List.range (n*D.length)).map (fun x=>D.toArray[x % D.toArray.size]!)=(List.replicate n D).flatten
 |0=>by simp
 |n+1=>by
  have j:=YJ D i n;rw[show (n+1)*D.length=D.length+n*D.length by rw[ABc];omega,List.range_add,ABI,List.map_map,List.replicate_succ,ACH,<-j];congr 1
  .apply List.ext_getElem?;intro k;rw[ABg];by_cases h:k < D.length
   .rw[List.getElem?_range h];simp[Nat.mod_eq_of_lt h,h]
   .rw[ABf (by simp;omega),ABf (by omega)];rfl
  .apply List.map_congr_left;intro x _;simp
theorem A9.rep {ok:Nat->Nat->Prop}{ks:List Kd}{us:List U}{W:List Value}(h:AT ok w ks us W):∀n:Nat,A9 ok w ks (List.replicate n us) (List.replicate n W)
 |0=>rfl
 |n+1=>⟨W,List.replicate n W,rfl,h,A9.rep h n⟩
theorem iU {x y:Operand}{Q A:AC}(h:Us P t Q A m g=some r)(aw:New T g.n r.us)(b3:∀q∈r.ps,q.holds T)(hm:AH T g.n V m w)
  (ho:o.op= .makeSlice t x y) (hx:AA T g.n V m w Q (a.eval x)) (hy:AA T g.n V m w A (a.eval y)):BK T g V m w ((execOp a.eval o).run P w) r:=by
 unfold Us at h;split at h
 .rename_i e hu;simp only[ABA,AA7] at h;obtain⟨i,Y,z,hz,⟨k,l0,p,aO⟩,W,l,hl,h⟩:=h;simp only at h;split at h
  .rename_i hc;obtain⟨bk,rfl,cl,al,a4,ci⟩:=hc;cases h;obtain rfl:Q=A:=AC.beq_eq _ _ bk;obtain⟨n,en,j,_,_⟩:=Bk W hx;obtain⟨aj,ba,F,_,_⟩:=Bk W hy;obtain rfl:n=aj:=by rw[j] at F;injection F
   have hp:=b3 _ (ABi.2 rfl);simp only[Pr.holds,Dy,ABQ,ABk,u0,j,U.toI] at hp;obtain⟨p0,p1⟩:=hp;have hT:T g.n= .list (List.replicate n.toNat (l.map fun c=>(BX c).2.eval T)):=by
    rw[aw.head];simp[Ex.eval,vy,u0,j,U.toI,List.map_map]
   have bi:T (g.n+1)= .int (List.replicate n.toNat (l.map fun c=>(BX c).2.eval T)).length:=by
    have:=aw 1 ⟨ "id",oId,[aO]⟩ rfl;rw[this];simp[Ex.eval,oId,u0,j];omega
   have hw:IntKind.i64.wrap n=n:=by
    exact E6 .i64 n (by rw[show IntKind.i64.min= -9223372036854775808 from rfl];omega) (by rw[show IntKind.i64.max=9223372036854775807 from rfl];omega)
   have cj:i.bytes*n<=2 ^ 48:=by
    have:(i.bytes:Int)*n<=1024*68719476736:=Int.mul_le_mul (by omega) p1 p0 (by decide);omega
   obtain⟨D,z1,z2,z3,z4⟩:=DK hl (MM (T:=T) (n:=g.n) (V := V) (m:=m) (w:=w) z);have cu:D.length=i.size:=by rw[z1] at a4;simpa using a4
   have b4:(execOp a.eval o).run P w= .ok (.value (.slice (some ⟨w.heap.size,0,none⟩) n.toNat n.toNat)) (w.alloc (.cells (List.replicate n.toNat D).flatten.toArray e)):=by
    have b5:(typeInfo e).run P w= .ok i w:=by simp[typeInfo,Y]
    have bm:¬(i.bytes*n > 2 ^ 48):=by omega
    have bo:¬(n < 0):=by omega
    simp only[execOp,ho,Instr.makeSlice,ABo,run_underlying hu,ABn,asInt,asIntOf,en,ba,ABv,b5,hw,bm,bo,decide_false,Bool.or_self,ABW,gt_iff_lt,Int.lt_irrefl,if_false,run_askRoom,BL Y];by_cases p:n.toNat*i.size=0
    .have b0:n.toNat=0:=by rcases Nat.mul_eq_zero.1 p with h|h<;>omega
     simp only[p,if_true,ABv,ABn,newRow,b0];simp;grind
    .have hr:=YJ D (by omega) n.toNat;have he:(Array.range (n.toNat*i.size)).map (fun x=>z.cells[x % z.cells.size]!)=(List.replicate n.toNat D).flatten.toArray:=by
      grind
     simp only[p,if_false,ABo,IG Y hz,ABv,ABn,newRow,he];simp
   have b1:(l.map fun c=>(BX c).1)≠[]:=fun h=>by rw[h] at al;simp at al;omega
   have a1:Ah (Ag T V m w) w (l.map fun c=>(BX c).1) (List.replicate n.toNat (l.map fun c=>(BX c).2.eval T)) (List.replicate n.toNat D).flatten:=⟨_,rfl,A9.rep (AT.ofC z3 z2) _⟩;obtain⟨ac,M,N,E⟩:=bp (e:=e) (aj:=g.n+2) (x:=g.n) (y:=g.n+1) (us:=[]) hm (by omega) (by omega) (by omega) b1 a1 (by simp[AB];omega) hT bi (.inl rfl) (I:=n.toNat) (by simp) (by rw[ABx,a1.len];simp);rw[ABx] at M N E;rw[List.length_replicate] at E;exact⟨_,_, ac,.inl b4,M,N,E⟩
  .cases h
 .cases h
theorem Sw.flat:∀{i:List (List AC)} {R:List (List Value)},Sw T n V m w i R->AF T n V m w i.flatten R.flatten
 |[],_,h=>by rw[show _=[] from h];exact rfl
 |l::i,_,⟨W,vss',e,_,O,h3⟩=>by subst e;exact O.append h3.flat
theorem XL {len:Nat}{aI:Operand->AC}(h:Oq P t len (H.toList.map fun (i,x)=>(i,aI x)) m=some r)(hm:AH T g.n V m w)
  (ho:o.op= .buildSlice t len H) (b1:∀x,AA T g.n V m w (aI x) (a.eval x)):BK T g V m w ((execOp a.eval o).run P w) r:=by
 unfold Oq at h;split at h
 .rename_i e hu;simp only[ABA,AA7] at h;obtain⟨i,Y,z,hz,h⟩:=h;split at h
  .rename_i hc;obtain⟨q,cy,cx,cu⟩:=hc;have q:=Gg _ _ q;simp only[AA7] at h;obtain⟨A,aw,h⟩:=h;split at h
   .rename_i bt;cases h;have b4:((H.toList.map fun (p:Nat × Operand)=>(aI p.2,a.eval p.2))).mapM (fun p=>p.1.cellsOf)=some A:=by
     rw[List.mapM_map] at aw⊢;exact aw
    obtain⟨R,f1,N,f3,f4⟩:=jC (T:=T) (n:=g.n) (V := V) (m:=m) (w:=w) (by
     intro p hp;simp only[ACI] at hp;obtain⟨p',_,rfl⟩:=hp;exact b1 p'.2) b4
    simp only[List.length_map] at N;have a0:H.toList.length=len:=by
     have:=ACF List.length q;simpa using this
    have b5:A.length=len:=by
     have:=(Ei _ _ _ aw).1;simpa [a0] using this
    have cv:∀l∈A,l.length=i.size:=fun l hl=>by simpa using ABb.1 bt l hl
    have cc:∀v∈R,v.length=i.size:=by
     intro v hv;obtain⟨j,hj⟩:=List.getElem?_of_mem hv;have al:j < A.length:=by rw[b5,<-a0,<-N];exact (ABD.1 hj).1
     rw[f4 j _ v (ABC al) hj];grind
    have cf:∀D:Array Value,((Array.range (len*i.size)).map (fun x=>D[x % D.size]!)).toList.length=(0+R.length)*i.size:=by
     grind
    have b2:∀D:Array Value,Instr.fill (fun j=>some (j*i.size,i.size)) ((Array.range (len*i.size)).map (fun x=>D[x % D.size]!)) (H.map fun (j,x)=>(j,a.eval x)).toList=some R.flatten.toArray:=by
     intro D;have:=Ri i.size (H.map fun (j,x)=>(j,a.eval x)).toList R 0 ((Array.range (len*i.size)).map (fun x=>D[x % D.size]!)).toList (by simp[N]) (fun j k v W F q2=>by
      simp only[Array.toList_map,ABg,ABU] at F;obtain⟨⟨p1,p2⟩,M,e2⟩:=F;cases e2;refine⟨?_,f3 j (aI p2,a.eval p2) W (by simp only[ABg,M,AB9]) q2⟩;have e3:(H.toList.map fun (p:Nat × Operand)=>(p.1,aI p.2)).map (·.1)=H.toList.map (·.1):=by simp
      have e4:=q;rw[e3] at e4;have e5:(H.toList.map (·.1))[j]? =some p1:=by simp only[ABg,M,AB9]
      rw[e4] at e5;have al:j < len:=by rw[<-a0];exact (ABD.1 M).1
      simp[al] at e5;omega) cc (cf D)
     rw[Array.toArray_toList] at this;rw[this];simp
    have b9:¬(len*i.size=0):=by
     intro h;rcases Nat.mul_eq_zero.1 h with h|h<;>omega
    have b8:(execOp a.eval o).run P w= .ok (.value (.slice (some ⟨w.heap.size,0,none⟩) len len)) (w.alloc (.cells R.flatten.toArray e)):=by
     have hb:¬(len*i.size > 2 ^ 24):=by omega
     simp only[execOp,ho,Instr.buildSlice,ABo,run_underlying hu,ABn,BL Y,Sem.run_ite,hb,if_false,b9,IG Y hz,ABv,b2];simp[newRow]
    obtain⟨k1,E,k3⟩:=TU hm f1.flat e;obtain⟨b,F,q2,q3⟩:=k3;refine⟨_,_,_,.inl b8,k1,E,b,F,?_,q3⟩;cases q2;rfl
   .cases h
  .cases h
 .cases h
end
theorem pi (a b:ByteArray):(a==b)=decide (a=b):=by
 cases a with|mk a=>cases b with|mk b=>
 show (a==b)=_;grind
section
variable {P:Program}{w:World}
theorem rg {d:Nat}{t:TypeId}{ks:List Ek}(h:Bs P d t=some ks):∃i,P.info? t=some i:=by
 cases Y:P.info? t with
 |some i=>exact⟨i,rfl⟩
 |none=>
  cases d with
  |zero=>cases h
  |succ d=>simp[Bs,Program.underlying,Y] at h
theorem KU (A:Bool):∀(d D:Nat) (t:TypeId) (ks:List Ek) (us:List Value),d<=D->Bs P d t=some ks->us.length=ks.length->
  (Instr.checkKey A D t (A6 P t us)).run P w= .ok () w
 |0,_,_,_,_,_,h,_=>by cases h
 |d+1,0,_,_,_,hd,_,_=>by omega
 |d+1,D+1,t,ks,us,hd,h,hl=>by
  simp only[Bs] at h;split at h
  .rename_i q;simp[Instr.checkKey,run_underlying q]
  .rename_i k q;simp[Instr.checkKey,run_underlying q]
  .rename_i q;simp[Instr.checkKey,run_underlying q]
  .rename_i fs q;split at h
   .cases h
   .simp only[A6,q,Instr.checkKey,ABo,run_underlying q,ABn];rw[<-Array.forIn_toList];have a0:0+ks.length<=us.length:=by omega
    clear hl;generalize 0=off at h a0;generalize fs.toList=L at h;induction L generalizing off ks with
    |nil=>simp
    |cons f L N=>
     simp only[G9,ABA] at h;split at h
     .rename_i hc;simp only[AA7] at h;obtain⟨p,C,h⟩:=h;split at h
      .rename_i z;simp only[AA7] at h;obtain⟨E,O,h⟩:=h;cases h;simp only[ABM] at a0;obtain⟨rfl,hn⟩:=hc;have W:=J4 (w:=w) C z us f.offset (by omega);have p2:=KU A d D f.type p ((us.drop f.offset).take p.length) (by omega) C (by rw[ABl,ABs];omega);simp only[List.forIn_cons,ABo,hn,ne_eq,not_false_eq_true,if_true,W,ABn,p2,ABv];exact N E _ (by omega) O
      .cases h
     .cases h
  .rename_i n e q;simp only[ABA,AA7] at h;obtain⟨p,C,h⟩:=h;split at h
   .rename_i z;cases h;obtain⟨i,Y⟩:=rg C;simp only[A6,q,Instr.checkKey,ABo,run_underlying q,ABn];simp only[Std.Legacy.Range.forIn_eq_forIn_range',Std.Legacy.Range.size,Nat.sub_zero,Nat.add_one_sub_one,Nat.div_one];have hz:i.size=p.length:=by
     have:=z;simp[Program.cellsOf,Y] at this;exact this
    have bc:us.length=n*p.length:=by rw[hl];simp
    have F:∀j∈List.range' 0 n,j < n:=fun j hj=>by
     have:=List.mem_range'_1.1 hj;omega
    generalize List.range' 0 n=M at F;induction M with
    |nil=>simp
    |cons j M N=>
     have hj:=F j (by simp);have b:j*p.length+p.length<=us.length:=by
      have:(j+1)*p.length<=n*p.length:=ABY _ (by omega);rw[ABc,Nat.one_mul] at this;omega
     have W:=J4 (w:=w) C z us (j*p.length) b;have p2:=KU A d D e p ((us.drop (j*p.length)).take p.length) (by omega) C (by rw[ABl,ABs];omega);simp only[List.forIn_cons,ABo,run_sizeOf w Y,z,ABn,W,p2,ABv];exact N fun y hy=>F y (by simp[hy])
   .cases h
  .cases h
def Ja (G:Nat)(k:List U):List MapEntry->U'->Nat->Option (Nat × Value)
 |e::ar,r::l,i=>bif BG (r.take G) k then some (i,e.val) else Ja G k ar l (i+1)
 |_,_,_=>none
theorem Yr {G:Nat}{k:List U}:∀{ar:List MapEntry} {l:U'} (i:Nat),ar.length=l.length->Ja G k ar l i=(ar[Ai G l k]?).map fun e=>(i+Ai G l k,e.val)
 |[],[],i,_=>rfl
 |e::ar,r::l,i,h=>by
  simp only[Ja,Ai,List.findIdx_cons];cases p:BG (r.take G) k with
  |true=>simp
  |false=>
   have j:=Yr (G:=G) (k:=k) (ar:=ar) (l:=l) (i+1) (by simpa using h);simp only[cond_false];rw[j];simp only[Ai,List.getElem?_cons_succ];congr 1;funext e;rw[show i+1+List.findIdx (fun r=>BG (List.take G r) k) l=i+(List.findIdx (fun r=>BG (List.take G r) k) l+1) by omega]
 |[],_::_,_,h=>by simp at h
 |_::_,[],_,h=>by simp at h
def OM (P:Program)(h:TypeId)(ks:List Ek)(G:Nat)(i:List Value)(k:List U):List MapEntry->U'->Prop
 |[],[]=>True
 |e::ar,r::l=>(∃aI,e.key=A6 P h aI/\KE ks i aI (BG (r.take G) k))/\OM P h ks G i k ar l
 |_,_=>False
theorem OM.len {i:TypeId}{ks:List Ek}{G:Nat}{j:List Value}{k:List U}:∀{ar:List MapEntry} {l:U'},OM P i ks G j k ar l->ar.length=l.length
 |[],[],_=>rfl
 |_::_,_::_,h=>by simp[OM.len h.2]
 |[],_::_,h=>h.elim
 |_::_,[],h=>h.elim
theorem l7 {h:TypeId}{ks:List Ek}{us W:List Value}{q:Bool}(i:Bs P 12 h=some ks)(j:KE ks us W q):(Op.equal h (A6 P h us) (A6 P h W)).run P w= .ok q w:=
 L7 12 _ h ks us W q (by decide) i j
theorem RP {j:TypeId}{ks:List Ek}{G:Nat}{q:List Value}{k:List U}(p:Bs P 12 j=some ks):∀{ar:List MapEntry} {l:U'} (i:Nat),OM P j ks G q k ar l->
  (Instr.findAsking j (A6 P j q) ar i).run P w= .ok (Ja G k ar l i) w
 |[],[],i,_=>by simp[Instr.findAsking,Ja]
 |e::ar,r::l,i,h=>by
  obtain⟨⟨aI,C,O⟩,z⟩:=h;simp only[Instr.findAsking,ABo,C,l7 p O,ABn,Ja];cases BG (r.take G) k with
  |true=>simp
  |false=>
   simp only[ABW,if_false,cond_false];exact RP p (i+1) z
 |[],_::_,_,h=>h.elim
 |_::_,[],_,h=>h.elim
theorem V7 {A:TypeId}{ks:List Ek}{G:Nat}{D:List Value}{k:List U}{kd:TypeDesc}(z:Bs P 12 A=some ks)(p:P.underlying A=some kd):∀{ar:List MapEntry} {l:U'} (i:Nat),OM P A ks G D k ar l->
  Instr.findNow kd (A6 P A D) ar i=some (Ja G k ar l i)\/Instr.findNow kd (A6 P A D) ar i=none
 |[],[],i,_=> .inl rfl
 |e::ar,r::l,i,h=>by
  obtain⟨⟨aI,C,O⟩,E⟩:=h;have F:=V7 z p (i+1) E;have aa:Instr.sameNow kd (A6 P A D) e.key=some (BG (r.take G) k)\/Instr.sameNow kd (A6 P A D) e.key=none:=by
   rw[C];simp only[Bs] at z;split at z
   .rename_i j;rw[j] at p;cases p;cases z;generalize BG (r.take G) k=q at O;cases O with
    |bool a b O=>cases O;left;simp[A6,j,Instr.sameNow]
   .rename_i ao j;rw[j] at p;cases p;cases z;generalize BG (r.take G) k=q at O;cases O with
    |int N a b O=>cases O;left;simp[A6,j,Instr.sameNow]
   .rename_i j;rw[j] at p;cases p;cases z;generalize BG (r.take G) k=q at O;cases O with
    |str a b O=>
     cases O;left;simp only[A6,j,List.headD_cons,Instr.sameNow,Bool.and_true,pi]
   .rename_i M j;rw[j] at p;cases p;right;rfl
   .rename_i n e j;rw[j] at p;cases p;right;rfl
   .cases z
  rcases aa with aa|aa
  .simp only[Instr.findNow,aa,Ja];cases BG (r.take G) k with
   |true=>left;rfl
   |false=>exact F
  .right;simp only[Instr.findNow,aa]
 |[],_::_,_,h=>h.elim
 |_::_,[],_,h=>h.elim
theorem VM {i:TypeId}{ks:List Ek}{G:Nat}{q:List Value}{k:List U}(p:Bs P 12 i=some ks){ar:List MapEntry}{l:U'}(h:OM P i ks G q k ar l):
  (Instr.findKey i (A6 P i q) ar).run P w= .ok ((ar[Ai G l k]?).map fun e=>(Ai G l k,e.val)) w:=by
 obtain⟨kd,j⟩:∃kd,P.underlying i=some kd:=by
  cases j:P.underlying i with
  |some kd=>exact⟨kd,rfl⟩
  |none=>simp[Bs,j] at p
 have z:Ja G k ar l 0=(ar[Ai G l k]?).map fun e=>(Ai G l k,e.val):=by
  have:=Yr (G:=G) (k:=k) 0 h.len;simpa using this
 rw[<-z];simp only[Instr.findKey,ABo,run_underlying j,ABn];rcases V7 p j 0 h with C|C
 .rw[C];simp
 .rw[C];exact RP p 0 h
theorem KE.same {ks us W q}(h:KE ks us W q):q=true->us=W:=by
 induction h with
 |nil=>exact fun _=>rfl
 |int k a b _ i=>intro h;rw[AA8,beq_iff_eq] at h;rw[h.1,i h.2]
 |bool a b _ i=>intro h;rw[AA8,beq_iff_eq] at h;rw[h.1,i h.2]
 |str a b _ i=>intro h;rw[AA8,decide_eq_true_eq] at h;rw[h.1,i h.2]
theorem KE.bits {ks us W q}(h:KE ks us W q)(n:Nat):∀x∈us,Instr.sameBits n x x=true:=by
 induction h with
 |nil=>simp
 |int k a b _ j=>
  intro x i;rcases List.mem_cons.1 i with rfl|i
  .simp[Instr.sameBits]
  .exact j x i
 |bool a b _ j=>
  intro x i;rcases List.mem_cons.1 i with rfl|i
  .simp[Instr.sameBits]
  .exact j x i
 |str a b _ j=>
  intro x i;rcases List.mem_cons.1 i with rfl|i
  .simp[Instr.sameBits,pi]
  .exact j x i
theorem uO {z:TypeId}{ks:List Ek}{us W:List Value}(q:Bs P 12 z=some ks)(h:KE ks us W true):(Instr.keyThatStays (A6 P z W) (A6 P z us)).run P w= .ok (A6 P z us) w:=by
 have e:=h.same rfl;subst e;have F:Instr.sameBits 10000 (A6 P z us) (A6 P z us)=true:=by
  have D:Instr.sameBits 10000 (.agg us.toArray) (.agg us.toArray)=true:=by
   have:=h.bits 9999;simp only[Instr.sameBits,beq_self_eq_true,Bool.true_and,ABb];intro p j;have N:∀(l:List Value) (p:Value × Value),p∈l.zip l->p.1=p.2/\p.1∈l:=by
    intro l;induction l with
    |nil=>intro p j;simp at j
    |cons a l E=>
     intro p j;simp only[List.zip_cons_cons,List.mem_cons] at j;rcases j with rfl|j
     .exact⟨rfl,by simp⟩
     .exact⟨(E p j).1,ABH _ (E p j).2⟩
   grind
  simp only[Bs] at q;split at q
  .rename_i i;cases q;have A:=h.length.1
   match us,A with
   |[x],_=>simp only[A6,i,List.headD_cons];exact h.bits 10000 x (by simp)
  .rename_i k i;cases q;have A:=h.length.1
   match us,A with
   |[x],_=>simp only[A6,i,List.headD_cons];exact h.bits 10000 x (by simp)
  .rename_i i;cases q;have A:=h.length.1
   match us,A with
   |[x],_=>simp only[A6,i,List.headD_cons];exact h.bits 10000 x (by simp)
  .rename_i M i;simp only[A6,i];exact D
  .rename_i n e i;simp only[A6,i];exact D
  .cases q
 simp[Instr.keyThatStays,F]
end
theorem cE {T:Tab}{n:Nat}{V :Nat->Option Nat}{m:Mem}{w:World}{k:Kd}{c:AC}{v:Value}{r:Rf}{ps:List Pr}(h:fit k c=some (r,ps))(E:AA T n V m w c v)(z:∀p∈ps,p.holds T):
  AX (Ag T V m w) w k (r.eval T) v:=by
 unfold fit at h;cases aa:FY c with
 |none=>rw[aa] at h;cases k<;>cases h
 |some M=>
  obtain⟨q,ax⟩:=M;rw[aa] at h;have base:=Iq aa E;have join:(if Kd.beq (Kd.join q k) k&& !k.isAny then some (ax,([]:List Pr)) else none)=some (r,ps)->AX (Ag T V m w) w k (r.eval T) v:=by
   intro h;split at h
   .rename_i j;cases h;rw[AA8] at j;have:=Kd.join_l q k _ v base;rw[Kd.beq_eq _ _ j.1] at this;exact this
   .cases h
  cases k with
  |int k0 am Y=>
   cases q with
   |int k' a1 al=>
    simp only at h;split at h
    .rename_i F;subst F;obtain⟨i,C,O,N,W⟩:=base;injection h with h
     injection h with A D
     subst A;subst D;refine⟨i,C,O,?_⟩;split at z
     .rename_i j;exact⟨by omega,by omega⟩
     .have:=z _ (ABi.2 rfl);simp only[Pr.holds,Dy,ABQ,ABk,u0,C,U.toI] at this;exact this
    .cases h
   |_=>exact join h
  |_=>exact join h
section
variable {P:Program}{T:Tab}{n aj:Nat}{V :Nat->Option Nat}{m:Mem}{w:World}{g:G}{r:R}
variable{a7:Bool}{v K a5:Value}{t:TypeId}{ao:List Kd}{b a6:Nat}{ar:Array MapEntry}{Q bb:AC}
theorem Lx {c:AC}{l:List AC}(h:Jl a7 c=some l)(i:AA T n V m w c v):∃W,AF T n V m w l W/\(if a7 then v= .agg (W:List Value).toArray else W=[v]):=by
 cases a7 with
 |true=>
  cases c<;>simp only[Jl] at h<;>first|(cases h;done)|skip
  cases h;obtain⟨W,C,O⟩:=i;exact⟨W,O,by simpa using C⟩
 |false=>
  have e:l=[c]:=by cases c<;>simp only[Jl] at h<;>first|(cases h;rfl)|cases h
  subst e;exact⟨[v],⟨v,[],rfl,i,rfl⟩,by simp⟩
theorem O0:∀{ks:List Kd} {l:List AC} {ai:List Rf} {ps:List Pr} {W:List Value},Oj ks l=some (ai,ps)->AF T n V m w l W->(∀p∈ps,p.holds T)->AT (Ag T V m w) w ks (ai.map (Rf.eval T)) W
 |[],[],ai,ps,W,h,hl,_=>by
  simp only[Oj] at h;cases h;exact⟨rfl,hl⟩
 |k::ks,c::l,ai,ps,W,h,hl,hp=>by
  simp only[Oj,ABA,AA7] at h;obtain⟨⟨ax,q⟩,C,⟨aK,z⟩,O,h⟩:=h;cases h;obtain⟨u,us,rfl,j,E⟩:=hl;exact⟨_,_,_,_,rfl,rfl,cE C j fun p i=>hp p (ABR _ i),O0 O E fun p i=>hp p (ABL _ i)⟩
 |[],_::_,_,_,_,h,_,_=>by simp[Oj] at h
 |_::_,[],_,_,_,h,_,_=>by simp[Oj] at h
theorem Ph {W:List Value}(h:CF P t=a7)(i:if a7 then v= .agg W.toArray else W=[v]):v=A6 P t W:=by
 subst h;unfold CF at i;unfold A6;grind
theorem j7 {ok N:Nat->Nat->Prop}{ab:World}:∀{ao:List Kd} {ks:List Ek} {us i:List U} {W j:List Value},ao.map NF=ks.map some->AT ok w ao us W->AT N ab ao i j->KE ks W j (BG i us)
 |[],[],us,i,W,j,_,⟨C,O⟩,⟨h3,h4⟩=>by subst C O h3 h4;exact .nil
 |k::ao,e::ks,us,i,W,j,h,⟨u,us1,v,vs1,e1,p,C,O⟩,⟨u',us1',v',vs1',e3,e4,h3,h4⟩=>by
  subst e1 p e3 e4;simp only[ABQ,List.cons.injEq] at h;have q:=j7 h.2 O h4;cases k with
  |int k am Y=>
   have e:=h.1;simp only[NF,ABu] at e;subst e;obtain⟨a,rfl,rfl,_⟩:=C;obtain⟨b,rfl,rfl,_⟩:=h3;have e:(BG (.int b::us1') (.int a::us1))=((a==b)&&BG us1' us1):=by
    simp only[BG,U.eqv];congr 1;by_cases e:a=b
    .rw[e];simp
    .have p:¬b=a:=fun h=>e h.symm;simp[e,p]
   rw[e];exact .int k a b q
  |bool=>
   have e:=h.1;simp only[NF,ABu] at e;subst e;obtain⟨a,rfl,rfl⟩:=C;obtain⟨b,rfl,rfl⟩:=h3;have e:(BG (.bool b::us1') (.bool a::us1))=((a==b)&&BG us1' us1):=by
    simp only[BG,U.eqv];congr 1;cases a<;>cases b<;>rfl
   rw[e];exact .bool a b q
  |str=>
   have e:=h.1;simp only[NF,ABu] at e;subst e;obtain⟨a,rfl,rfl,_⟩:=C;obtain⟨b,rfl,rfl,_⟩:=h3;have e:(BG (.str b::us1') (.str a::us1))=(decide (a=b)&&BG us1' us1):=by
    simp only[BG,U.eqv];congr 1;by_cases e:a=b
    .simp[e]
    .rw[decide_eq_false e,decide_eq_false fun h=>e h.symm]
   rw[e];exact .str a b q
  |val=>have e:=h.1;simp[NF] at e
  |any=>have e:=h.1;simp[NF] at e
  |list _=>have e:=h.1;simp[NF] at e
 |[],_::_,_,_,_,_,h,_,_=>by simp at h
 |_::_,[],_,_,_,_,h,_,_=>by simp at h
theorem UQ {ok N:Nat->Nat->Prop}{A:TypeId}{ks:List Ek}{ao aJ:List Kd}{z aT:Bool}(p:ao.map NF=ks.map some)(j:CF P A=z){D:List U}{E:List Value}(q:AT ok w ao D E):∀{ar:List MapEntry} {l:U'},ar.length=l.length->
  (∀(i:Nat) (us:List U) (e:MapEntry),l[i]? =some us->ar[i]? =some e->∃u1 u2,us=u1++u2/\CJ N w ao z u1 e.key/\CJ N w aJ aT u2 e.val)->OM P A ks ao.length E D ar l
 |[],[],_,_=>trivial
 |e::ar,us::l,hl,h=>by
  refine⟨?_,UQ p j q (by simpa using hl) fun i us e C O=>h (i+1) us e (by simpa using C) (by simpa using O)⟩;obtain⟨u1,u2,rfl,⟨W,O,F⟩,_⟩:=h 0 us e rfl rfl;have M:u1.length=ao.length:=O.len.2;refine⟨W,Ph j F,?_⟩;rw[List.take_left' M];exact j7 p q O
 |[],_::_,hl,_=>by simp at hl
 |_::_,[],hl,_=>by simp at hl
theorem ZE {i:TypeId}{j:Bool}(h:Q6 P i ao j=true):CF P i=j/\∃ks,Bs P 12 i=some ks/\ao.map NF=ks.map some:=by
 unfold Q6 at h;grind
theorem sG {ks:List Ek}(h:ao.map NF=ks.map some):ks.length=ao.length:=by
 have:=ACF List.length h;simpa using this.symm
theorem WW (h:w.heap[b]? =some (.map ar a6)):(getObj b).run P w= .ok (.map ar a6) w:=by simp[getObj,Sem.run,h]
theorem WC (o:Obj)(h:w.heap[b]? =some (.map ar a6)):(setObj b o).run P w= .ok () (w.putObj b o):=by simp[setObj,Sem.run,h,World.putObj]
theorem New.tail {us:List Ex}{u:Ex}(h:New T n (u::us)):New T (n+1) us:=fun j x i=>by
 have:=h (j+1) x (by simpa using i);rw[show n+1+j=n+(j+1) by omega];exact this
theorem Y5 {x G:Nat}{ai:List Rf}:∀{ks:List Kd} {D:List Rf} {n0 c:Nat},D.length=ks.length->(Hs x G ai n0 c ks D).2.length=ks.length/\(Hs x G ai n0 c ks D).1.length=ks.length
 |[],[],_,_,_=>⟨rfl,rfl⟩
 |k::ks,z::D,n0,c,h=>by
  obtain⟨C,O⟩:=Y5 (x:=x) (G:=G) (ai:=ai) (ks:=ks) (D:=D) (n0:=n0+1) (c:=c+1) (by simpa using h);simp only[Hs,ABa];exact⟨by omega,by omega⟩
 |[],_::_,_,_,h=>by simp at h
 |_::_,[],_,_,h=>by simp at h
theorem bG {x G:Nat}{ai:List Rf}{N:Nat}:∀{ks:List Kd} {D:List Rf} {n0 c:Nat} {i:List U} {W:List Value},D.length=ks.length->AT (Ag T V m w) w ks i W->New T n0 (Hs x G ai n0 c ks D).2->n0+ks.length<=N->
  (∀(j:Nat) u z,i[j]? =some u->D[j]? =some z->WI G (c+j) (T x::z.eval T::ai.map (Rf.eval T))=u)->AF T N V m w (Hs x G ai n0 c ks D).1 W
 |[],[],_,_,i,W,_,h,_,_,_=>h.2
 |k::ks,z::D,n0,c,i,W,hl,⟨u,us',v,vs',e1,e2,C,O⟩,hn,hN,hg=>by
  subst e1 e2;simp only[Hs,ABa] at hn hN⊢;have p:T n0=u:=by
   rw[hn.head];exact (ACF (coC (kdC k)) (hg 0 u z rfl rfl)).trans (fJ C)
  refine⟨v,vs',rfl,E5 (by omega) (by rw[p];exact C),bG (by simpa using hl) O hn.tail (by omega) fun j u z q A=>?_⟩;rw[show c+1+j=c+(j+1) by omega];exact hg (j+1) u z (by simpa using q) (by simpa using A)
 |[],_::_,_,_,_,_,h,_,_,_,_=>by simp at h
 |_::_,[],_,_,_,_,h,_,_,_,_=>by simp at h
theorem mH {ok:Bool}(h:Xs P t Q bb ok m g=some r)(ba:New T g.n r.us)(b7:∀q∈r.ps,q.holds T)(hm:AH T g.n V m w)(hx:AA T g.n V m w Q K)(Y:AA T g.n V m w bb a5):
  ∃z,(Instr.lookup t K a5 ok).run P w= .ok z w/\r.m=m/\AA T (g.n+r.us.length) V m w r.c z:=by
 unfold Xs at h;split at h
 .rename_i kt et id hu;split at h
  .rename_i a2 ao ka aJ aT c1;split at h
   .rename_i c3;simp only[ABA,AA7] at h;obtain⟨kc,c2,⟨ai,ps⟩,cx,i,c0,z,hz,zc,dd,⟨D,qs⟩,cy,h⟩:=h;simp only at h;split at h
    .rename_i bc;have bc:qs=[]:=by cases qs with|nil=>rfl|cons _ _=>cases bc
     subst bc;obtain⟨bo,ks,hf,b3⟩:=ZE c3;have c8:r.ps=ps:=by cases ok<;>(simp only[ABW,if_true,if_false] at h;cases h;rfl)
     rw[c8] at b7;obtain⟨kv,k1,E⟩:=Lx c2 Y;have kC:=O0 cx k1 b7;have bm:=Ph bo E;obtain⟨zv,z1,z2⟩:=Lx dd (MM (T:=T) (n:=g.n) (V := V) (m:=m) (w:=w) z);have zC:=O0 cy z1 (fun p hp=>by cases hp);obtain⟨b,c7,rfl,_⟩:=hx;have bs:=hm.blk id;rw[c1] at bs;obtain⟨d6,l,b',ar,a6,hT,b8,hb,a9,d5,bx,_⟩:=bs;rw[c7] at b8;cases b8;have cs:=UQ (P:=P) (w:=w) b3 bo kC a9 bx;have al:=VM (w:=w) hf cs;have bt:=KU (P:=P) (w:=w) ar.toArray.isEmpty 12 10000 kt ks kv (by decide) hf (by rw[sG b3];exact kC.len.1);have b1:=WW (P:=P) hb;have cb:D.length=aJ.length:=by have:=zC.len.2;simpa using this
     have bi:∀(a:U) (dk:List U),u0 (a::dk)=a:=fun _ _=>rfl;obtain⟨ws,W,fv,aw,aG,w2,w3,w4⟩:∃(ws:List U) (W:List Value) (fv:Value) (b2:Bool),AT (Ag T V m w) w aJ ws W/\(if aT then fv= .agg W.toArray else W=[fv])/\
       (b2=decide (Ai ao.length l (ai.map (Rf.eval T)) < l.length)/\(Instr.lookup t (.map (some b)) a5 ok).run P w= .ok (if ok then .tuple #[fv,.bool b2] else fv) w)/\
       ∀(j:Nat) u z,ws[j]? =some u->D[j]? =some z->WI ao.length (0+j) (T a2::z.eval T::ai.map (Rf.eval T))=u:=by
      cases A:ar[Ai ao.length l (ai.map (Rf.eval T))]? with
      |some e=>
       have F:Ai ao.length l (ai.map (Rf.eval T)) < l.length:=by rw[<-a9];exact (ABD.1 A).1
       have b4:=ABC F;obtain⟨u1,u2,e1,⟨d9,e2,_⟩,dm,e4,e5⟩:=bx _ _ e b4 A;refine⟨u2,dm,e.val,true,e4,e5,⟨(decide_eq_true F).symm,?_⟩,fun j u z q1 q2=>?_⟩
       .rw[A] at al;simp only[Instr.lookup,ABo,run_underlying hu,ABn,b1,ABv,bm,bt,al,AB9]
       .simp only[WI,bi,hT,U.toL,List.drop_succ_cons,List.drop_zero];rw[decide_eq_true F];simp only[cond_true];rw[ABV (l:=l),b4,Option.getD_some,e1,ABV,ABP (by rw[e2.len.2];omega),e2.len.2,show ao.length+(0+j) - ao.length=j by omega,q1];rfl
      |none=>
       have b6:¬Ai ao.length l (ai.map (Rf.eval T)) < l.length:=fun F=>by
        rw[<-a9] at F;rw[ABC F] at A;cases A
       refine⟨D.map (Rf.eval T),zv,z,false,zC,z2,⟨(decide_eq_false b6).symm,?_⟩,fun j u z q1 q2=>?_⟩
       .rw[A] at al;simp only[Instr.lookup,ABo,run_underlying hu,ABn,b1,ABv,bm,bt,al,Option.map_none,IG c0 hz]
       .simp only[WI,bi,hT,U.toL,List.drop_succ_cons,List.drop_zero];rw[decide_eq_false b6];simp only[cond_false];rw[ABg,q2] at q1;exact Option.some.inj q1
     obtain⟨ds,ch⟩:=w3;have b5:=Y5 (x:=a2) (G:=ao.length) (ai:=ai) (n0:=g.n) (c:=0) cb;have ca:∀N,g.n+aJ.length<=N->New T g.n (Hs a2 ao.length ai g.n 0 aJ D).2->AA T N V m w (if aT then AC.agg (Hs a2 ao.length ai g.n 0 aJ D).1 else (Hs a2 ao.length ai g.n 0 aJ D).1.headD .any) fv:=by
      intro N hN hn;have M:=bG (N:=N) cb aG hn hN w4;cases aT with
      |true=>
       simp only[if_true] at w2⊢;exact⟨W,w2,M⟩
      |false=>
       simp only[ABW,if_false] at w2⊢;subst w2;generalize (Hs a2 ao.length ai g.n 0 aJ D).1=L at M;cases L with
       |nil=>exact absurd M (by simp[AF])
       |cons c L=>
        obtain⟨u,us,e,C,_⟩:=M;cases e;exact C
     cases ok with
     |false=>
      simp only[ABW,if_false] at h;cases h;exact⟨fv,ch,rfl,ca _ (by simp only[b5.1];omega) ba⟩
     |true=>
      simp only[if_true] at h;cases h;refine⟨_,ch,rfl,[fv,.bool aw],by simp,⟨fv,[.bool aw],rfl,ca _ (by simp only[ABM,b5.1];omega) ba.left,.bool aw,[],rfl,⟨by simp only[ABM,ABa,ABp];omega,aw,?_,rfl⟩,rfl⟩⟩;rw[ba.right.head,ds];simp only[Ex.eval,lJ,ABQ,bi,Rf.eval,hT,U.toL,List.tail_cons]
    .cases h
   .cases h
  .cases h
 .cases h
theorem gu {a:Act}{o:Oper}(h:Um P t m g=some r)(a1:New T g.n r.us)(q:AH T g.n V m w)(ho:o.op= .makeMap t none):BK T g V m w ((execOp a.eval o).run P w) r:=by
 unfold Um at h;split at h
 .rename_i kt et hu;simp only[ABA,AA7] at h;obtain⟨ao,_,aJ,_,h⟩:=h;cases h;have hT:T g.n= .list []:=by rw[a1.head];rfl
  generalize W:Blk.mapb g.n ao (CF P kt) aJ (CF P et)=B;have aa:=JK (T:=T) q (.map #[] 0) B;have a9:g.n<=g.n+1:=by omega
  have al:Mem.at (m++[B]) m.length=B:=by rw[AV,ACE rfl]
  have a4:(w.alloc (.map #[] 0)).heap[w.heap.size]? =some (.map #[] 0):=C2 _ _;refine⟨.map (some w.heap.size),w.alloc (.map #[] 0),CS V m.length w.heap.size,.inl (by simp[execOp,ho,Instr.makeMap]),aa,⟨fun id=>?_,?_,fun b off M=>q.fr b off (ABS aa.size M)⟩,⟨w.heap.size,Au _ _ _,rfl,by rw[al,<-W];rfl⟩⟩
  .by_cases p:id=m.length
   .subst p;rw[al,<-W];exact⟨by simp,[],w.heap.size,[],0,hT,Au _ _ _,a4,rfl,by simp,fun i us e C=>by simp at C,0,rfl,fun i e C=>by simp at C⟩
   .by_cases j:(m.at id).tracked=true
    .refine BS.step aa q a9 (by rw[AV,ACD p]) (As _ _ _ p) (fun b M=>?_);exact BJ _ _ _ (q.lt j M)
    .rw[AV,ACD p];cases F:m.at id with
     |pad=>trivial
     |gone=>trivial
     |cells=>rw[F] at j;exact absurd rfl j
     |lp=>rw[F] at j;exact absurd rfl j
     |tok=>rw[F] at j;exact absurd rfl j
     |mrow=>rw[F] at j;exact absurd rfl j
     |mapb=>rw[F] at j;exact absurd rfl j
  .intro id N b j E D A;rw[AV] at j E;by_cases p:id=m.length
   .by_cases z:N=m.length
    .omega
    .rw[ACD z] at E;subst p;rw[Au] at D;cases D;rw[As _ _ _ z] at A;have:=q.lt E A;omega
   .rw[ACD p] at j;rw[As _ _ _ p] at D;by_cases z:N=m.length
    .subst z;rw[Au] at A;cases A;have:=q.lt j D;omega
    .rw[ACD z] at E;rw[As _ _ _ z] at A;exact q.inj id N b j E D A
 .cases h
theorem yc {id:Nat}{o:Obj}{B:Blk}(N:B.ptrOk=true)(z:AH T n V m w)(F:(m.at id).ptrOk=true)(A:(m.at id).tracked=true)(M: V id=some b)(a1:n<=aj)
  (bl:AI T n V m w V (m.set id B) (w.putObj b o)->BS T aj V (m.set id B) (w.putObj b o) id B):AI T n V m w V (m.set id B) (w.putObj b o)/\AH T aj V (m.set id B) (w.putObj b o):=by
 have a0:m.at id≠ .pad:=fun e=>by rw[e] at A;cases A
 have q:=fun j=>Gq m id B j a0;have aw:B≠ .pad:=fun e=>by rw[e] at N;cases N
 have aa:AI T n V m w V (m.set id B) (w.putObj b o):={
  os:=rfl
  tape:=rfl
  output:=rfl
  size:=by simp
  mlen:=fun j h=>by rw[q j];split<;>first|exact aw|exact h
  rho:=fun j h=>by rw[q j];split<;>first|exact⟨rfl,N⟩|exact⟨rfl,h⟩
  untr:=fun j h i=>by
   grind
  fresh:=fun j c h i bm=>by
   rw[q j] at i;split at i
   .grind
   .rw[h] at i;cases i
  old:=fun k hk a4=>World.putObj_heap_other (fun e=>a4 id A (by rw[e];exact M))
  tok:=fun j x ks e h=>by
   have p:j≠id:=fun e=>by rw[<-e,h] at F;cases F
   refine .inl ⟨by rw[q j,ACD p];exact h,rfl,fun b' D=>?_⟩;exact World.putObj_heap_other (fun e=>p (z.inj j id b (by rw[h];rfl) A (by rw[<-e];exact D) M))
  row:=fun j x y ks e h=>by
   have p:j≠id:=fun e=>by rw[<-e,h] at F;cases F
   refine .inr ⟨x,y,ks,by rw[q j,ACD p];exact h,rfl,.inl ⟨rfl,rfl,fun b' W D hv=>⟨W,?_,rfl⟩⟩⟩;rw[World.putObj_heap_other (fun e=>p (z.inj j id b (by rw[h];rfl) A (by rw[<-e];exact D) M))];exact hv }
 refine⟨aa,⟨fun j=>?_,fun j j' c t1 t2 C O=>?_,fun c off h=>z.fr c off (ABS aa.size h)⟩⟩
 .by_cases p:j=id
  .grind
  .by_cases i:(m.at j).tracked=true
   .exact BS.step aa z a1 (by rw[q j,ACD p]) rfl (fun b' D=>World.putObj_heap_other (fun e=>p (z.inj j id b i A (by rw[<-e];exact D) M)))
   .rw[q j,ACD p];cases E:m.at j with
    |pad=>trivial
    |gone=>trivial
    |cells=>rw[E] at i;exact absurd rfl i
    |lp=>rw[E] at i;exact absurd rfl i
    |tok=>rw[E] at i;exact absurd rfl i
    |mrow=>rw[E] at i;exact absurd rfl i
    |mapb=>rw[E] at i;exact absurd rfl i
 .have old:∀{j},(Mem.at (m.set id B) j).tracked=true->(m.at j).tracked=true:=fun {j} i=>by
   grind
  exact z.inj j j' c (old t1) (old t2) C O
theorem ZP {G:AC}{j:Value}(h:QY P t Q bb G m g=some r)(db:New T g.n r.us)(bc:∀q∈r.ps,q.holds T)(hm:AH T g.n V m w)(hx:AA T g.n V m w Q K)(Y:AA T g.n V m w bb a5)(hv:AA T g.n V m w G j):
  ∃ab,(Instr.mapUpdate t K a5 j).run P w= .ok () ab/\AI T g.n V m w V r.m ab/\AH T (g.n+r.us.length) V r.m ab/\r.c= .any:=by
 unfold QY at h;split at h
 .rename_i D et id hu;split at h
  .rename_i a2 ao N aJ aT bt;split at h
   .rename_i c5;simp only[ABA,AA7] at h;obtain⟨kc,c4,⟨ai,ps⟩,c1,vc,dj,⟨W,qs⟩,c2,h⟩:=h;cases h;simp only at bc;obtain⟨bo,ks,hf,bx⟩:=ZE c5;obtain⟨z,k1,E⟩:=Lx c4 Y;have kC:=O0 c1 k1 fun p hp=>bc p (by simp[hp]);have b4:=Ph bo E;obtain⟨zv,z1,z2⟩:=Lx dj hv;have zC:=O0 c2 z1 fun p hp=>bc p (by simp[hp]);obtain⟨b,b2,rfl,_⟩:=hx;have b8:=hm.blk id;rw[bt] at b8;obtain⟨ee,l,b',ar,a6,hT,ci,hb,M,c8,ca,base,c0,d6⟩:=b8;rw[b2] at ci;cases ci;have a1:=bc ⟨ "fits 1",Hy 1,[.e a2,.c (.list [[]])]⟩ (by simp);have a1:l.length+1<=AB:=by
     simp only[Pr.holds,Hy,ABQ,ABk] at a1;have e1:u0 [Rf.eval T (.e a2),Rf.eval T (.c (.list [[]]))]=T a2:=rfl;have F:u1 [Rf.eval T (.e a2),Rf.eval T (.c (.list [[]]))]= .list [[]]:=rfl;rw[e1,F,hT] at a1;simpa [U.toL,AB] using a1
    have cx:=UQ (P:=P) (w:=w) bx bo kC M ca;have ba:=VM (w:=w) hf cx;have b9:=KU (P:=P) (w:=w) false 12 10000 D ks z (by decide) hf (by rw[sG bx];exact kC.len.1);have cb:=WW (P:=P) hb;have ce:=(ABF.1 hb).1;have cc:(ai.map (Rf.eval T)).length=ao.length:=kC.len.2;have cy:T g.n= .list (BB ao.length l (ai.map (Rf.eval T)) (W.map (Rf.eval T))):=by
     rw[db.head];simp only[Ex.eval,lD,ABQ,ABI,Rf.eval];have e1:u0 (T a2::(ai.map (Rf.eval T)++W.map (Rf.eval T)))=T a2:=rfl;have F:List.tail (T a2::(ai.map (Rf.eval T)++W.map (Rf.eval T)))=ai.map (Rf.eval T)++W.map (Rf.eval T):=rfl;have e3:ai.map (fun x=>Rf.eval T x)=ai.map (Rf.eval T):=rfl;rw[show (List.map (Rf.eval T) ai++List.map (Rf.eval T) W)=ai.map (Rf.eval T)++W.map (Rf.eval T) from rfl,e1,F,hT,List.take_left' cc,List.drop_left' cc];rfl
    have d8:CJ (Ag T V m w) w ao N (ai.map (Rf.eval T)) a5:=⟨z,kC,E⟩;have ej:CJ (Ag T V m w) w aJ aT (W.map (Rf.eval T)) j:=⟨zv,zC,z2⟩;have b5:∀(A:List MapEntry) (al:Nat),A.length=(BB ao.length l (ai.map (Rf.eval T)) (W.map (Rf.eval T))).length->A.length<=AB->
      (∀(i:Nat) (us:List U) (e:MapEntry),(BB ao.length l (ai.map (Rf.eval T)) (W.map (Rf.eval T)))[i]? =some us->A[i]? =some e->∃u1 u2,us=u1++u2/\CJ (Ag T V m w) w ao N u1 e.key/\CJ (Ag T V m w) w aJ aT u2 e.val)->
      (∃base,al=base+A.length/\∀(i:Nat) (e:MapEntry),A[i]? =some e->e.born=base+i)->
      AI T g.n V m w V (m.set id (.mapb g.n ao N aJ aT)) (w.putObj b (.map A.toArray al))/\AH T (g.n+1) V (m.set id (.mapb g.n ao N aJ aT)) (w.putObj b (.map A.toArray al)):=by
     intro A al q1 q2 q3 q4;refine yc rfl hm (by rw[bt];rfl) (by rw[bt];rfl) b2 (by omega) fun aa=>⟨by omega,_,b,A,al,cy,b2,World.putObj_heap_same ce,q1,by omega,fun i us e C O=>?_,q4⟩;obtain⟨u1,u2,g1,au,g3⟩:=q3 i us e C O;exact⟨u1,u2,g1,CJ.mono (fun _ _ h=>aa.safe0 h) au,CJ.mono (fun _ _ h=>aa.safe0 h) g3⟩
    cases he:ar[Ai ao.length l (ai.map (Rf.eval T))]? with
    |some e=>
     have cf:Ai ao.length l (ai.map (Rf.eval T)) < l.length:=by rw[<-M];exact (ABD.1 he).1
     have b0:BB ao.length l (ai.map (Rf.eval T)) (W.map (Rf.eval T))=l.set (Ai ao.length l (ai.map (Rf.eval T))) (ai.map (Rf.eval T)++W.map (Rf.eval T)):=by
      unfold BB;grind
     rw[he] at ba;have c6:=ABC cf;obtain⟨u1,u2,e1,⟨aI,F,e3⟩,e4⟩:=ca _ _ e c6 he;have hq:BG u1 (ai.map (Rf.eval T))=true:=by
      have c7:List.findIdx (fun r=>BG (r.take ao.length) (ai.map (Rf.eval T))) l < l.length:=cf;have:=List.findIdx_getElem (p:=fun r=>BG (r.take ao.length) (ai.map (Rf.eval T))) (xs:=l) (w:=c7);have e5:l[List.findIdx (fun r=>BG (r.take ao.length) (ai.map (Rf.eval T))) l]=u1++u2:=e1;rw[e5,List.take_left' F.len.2] at this;exact this
     have b6:KE ks z aI (BG u1 (ai.map (Rf.eval T))):=j7 bx kC F;rw[hq] at b6;have cs:=Ph bo e3;have de:=uO (w:=w) hf b6;generalize d7:Ai ao.length l (ai.map (Rf.eval T))=aY at*;have c3:(ar.toArray[aY]?).map (·.key)=some (A6 P D aI):=by simp[he,cs]
     have c9:(ar.toArray.modify aY fun e=>{ e with key:=A6 P D z,val:=j })=(ar.modify aY fun e=>{ e with key:=A6 P D z,val:=j }).toArray:=by simp
     have d9:∀i:Nat,(ar.modify aY fun e=>{ e with key:=A6 P D z,val:=j })[i]? =if aY=i then (ar[i]?).map (fun e=>{ e with key:=A6 P D z,val:=j }) else ar[i]? :=fun i=>by
      grind
     have h3:∀(i:Nat) (us:List U) (e:MapEntry),(BB ao.length l (ai.map (Rf.eval T)) (W.map (Rf.eval T)))[i]? =some us->(ar.modify aY fun e=>{ e with key:=A6 P D z,val:=j })[i]? =some e->∃u1 u2,us=u1++u2/\CJ (Ag T V m w) w ao N u1 e.key/\CJ (Ag T V m w) w aJ aT u2 e.val:=by
      grind
     have h4:∀(i:Nat) (e:MapEntry),(ar.modify aY fun e=>{ e with key:=A6 P D z,val:=j })[i]? =some e->e.born=base+i:=by
      grind
     obtain⟨f1,f2⟩:=b5 (ar.modify aY fun e=>{ e with key:=A6 P D z,val:=j }) a6 (by rw[b0];simp[M]) (by simp[M];exact c8) h3 ⟨base,by simp;exact c0,h4⟩;refine⟨_,?_,f1,f2,rfl⟩;simp only[Instr.mapUpdate,ABo,run_underlying hu,ABn,cb,b4,b9,ba,AB9,c3,Option.getD_some,de];rw[WC _ hb,c9]
    |none=>
     have ei:¬Ai ao.length l (ai.map (Rf.eval T)) < l.length:=fun ce=>by
      grind
     have b0:BB ao.length l (ai.map (Rf.eval T)) (W.map (Rf.eval T))=l++[ai.map (Rf.eval T)++W.map (Rf.eval T)]:=by
      unfold BB;grind
     rw[he] at ba;have h3:∀(i:Nat) (us:List U) (e:MapEntry),(BB ao.length l (ai.map (Rf.eval T)) (W.map (Rf.eval T)))[i]? =some us->(ar++[{ key:=a5,val:=j,born:=a6 }])[i]? =some e->∃u1 u2,us=u1++u2/\CJ (Ag T V m w) w ao N u1 e.key/\CJ (Ag T V m w) w aJ aT u2 e.val:=by
      grind
     have h4:∀(i:Nat) (e:MapEntry),(ar++[{ key:=a5,val:=j,born:=a6 }])[i]? =some e->e.born=base+i:=by
      grind
     obtain⟨f1,f2⟩:=b5 (ar++[{ key:=a5,val:=j,born:=a6 }]) (a6+1) (by rw[b0];simp[M]) (by simp[M];exact a1) h3 ⟨base,by simp;omega,h4⟩;refine⟨_,?_,f1,f2,rfl⟩;simp only[Instr.mapUpdate,ABo,run_underlying hu,ABn,cb,b4,b9,ba,Option.map_none];rw[WC _ hb];simp
   .cases h
  .cases h
 .cases h
end
section
variable {T:Tab}{n:Nat}{V :Nat->Option Nat}{m:Mem}{w:World}
theorem AI.weaken {al:Mem}(h:∀id,al.at id=m.at id\/al.at id= .gone):AI T n V m w V al w where
 os:=rfl
 tape:=rfl
 output:=rfl
 size:=ABB _
 mlen:=fun id j=>by
  rcases h id with e|e
  .rw[e];exact j
  .rw[e];exact fun h=>by cases h
 rho:=fun id j=>by
  refine⟨rfl,?_⟩;rcases h id with e|e
  .rw[e];exact j
  .rw[e];rfl
 untr:=fun id _ i=>by
  rcases h id with e|e
  .rw[<-e];exact i
  .rw[e] at i;cases i
 fresh:=fun id b j i _=>by
  rcases h id with e|e
  .rw[e,j] at i;cases i
  .rw[e] at i;cases i
 old:=fun _ _ _=>rfl
 tok:=fun id x ks e p=>by
  rcases h id with e'|e'
  .exact .inl ⟨by rw[e'];exact p,rfl,fun _ _=>rfl⟩
  .exact .inr ⟨fun _ _ _ _=>rfl,.inl e'⟩
 row:=fun id x y ks e p=>by
  rcases h id with e'|e'
  .exact .inr ⟨x,y,ks,by rw[e'];exact p,rfl,.inl ⟨rfl,rfl,fun _ W _ q=>⟨W,q,rfl⟩⟩⟩
  .exact .inl e'
theorem AH.weaken (i:AH T n V m w){al:Mem}(h:∀id,al.at id=m.at id\/al.at id= .gone):AH T n V al w where
 fr:=i.fr
 blk:=fun id=>by
  rcases h id with e|e
  .exact BS.step (AI.weaken h) i (ABB _) e rfl (fun _ _=>rfl)
  .rw[e];trivial
 inj:=fun id q b j p C O=>by
  refine i.inj id q b ?_ ?_ C O
  .rcases h id with e|e
   .rw[<-e];exact j
   .rw[e] at j;cases j
  .rcases h q with e|e
   .rw[<-e];exact p
   .rw[e] at p;cases p
theorem yS {m:Mem}{b:Blk}(id:Nat):Mem.at (m++[.gone]) id=Mem.at (m++[b]) id\/Mem.at (m++[.gone]) id= .gone:=by
 unfold Mem.at;grind
end
section
variable {P:Program}{T:Tab}{V :Nat->Option Nat}{m:Mem}{w:World}{g:G}{r:R}
variable{a:Act}{o:Oper}{aI:Operand->AC}{t:TypeId}
theorem gg {b:Builtin}{args:Array Operand}{ay:Array TypeId}(ho:o.op= .call { callee:= .builtin b,args,argTypes:=ay })(h:J1 P b ay (args.toList.map aI) m g=some r)
  (M:New T g.n r.us) (a1:∀q∈r.ps,q.holds T) (E:AH T g.n V m w) (A:∀x,AA T g.n V m w (aI x) (a.eval x)):BK T g V m w ((execOp a.eval o).run P w) r:=by
 rw[KV ho];obtain⟨args⟩:=args;unfold J1 at h;split at h
 .rename_i F x i;cases args with
  |nil=>cases i
  |cons p j=>
   cases j with
   |cons=>cases i
   |nil=>
    simp at i;subst i;simp only[ABA,AA7] at h;obtain⟨t,N,h⟩:=h;obtain⟨z,C,O,D⟩:=XW h M E (A p) ay N o.type;exact BK.pure (by simp[builtin,C]) E O D
 iterate 2
  .rename_i F x y i;cases args with
   |nil=>cases i
   |cons p j=>
    cases j with
    |nil=>cases i
    |cons aZ j=>
     cases j with
     |cons=>cases i
     |nil=>
      simp at i;obtain⟨rfl,rfl⟩:=i;obtain⟨z,C,O,D⟩:=MZ (P:=P) h M (A p) (A aZ) ay o.type;exact BK.pure (by simp at C;simp[builtin,C]) E O D
 .rename_i F x y i;cases args with
  |nil=>cases i
  |cons p j=>
   cases j with
   |nil=>cases i
   |cons aZ j=>
    cases j with
    |cons=>cases i
    |nil=>
     simp at i;obtain⟨rfl,rfl⟩:=i;obtain⟨z,ab, ac,C,O,D,h4⟩:=ow h M a1 E (A p) (A aZ) o.type;exact⟨z,ab, ac,.inl (by simp[builtin,C]),O,D,h4⟩
 .rename_i F aN aS c2 a4 i;cases args with
  |nil=>cases i
  |cons p j=>
   simp only[ABQ,List.cons.injEq] at i;obtain⟨rfl,i⟩:=i;obtain⟨z,C,O,D⟩:=M6 (P:=P) (w:=w) _ _ _ (j.map a.eval) g r h M (A p) (by rw[<-i];exact AF.of_map A j);refine BK.pure (v:=z) ?_ E O D;simp only[ABW,if_false] at C;simp[builtin,Builtin.min_,C]
 .rename_i F aN aS c2 a4 i;cases args with
  |nil=>cases i
  |cons p j=>
   simp only[ABQ,List.cons.injEq] at i;obtain⟨rfl,i⟩:=i;obtain⟨z,C,O,D⟩:=M6 (P:=P) (w:=w) _ _ _ (j.map a.eval) g r h M (A p) (by rw[<-i];exact AF.of_map A j);refine BK.pure (v:=z) ?_ E O D;simp only[if_true] at C;simp[builtin,Builtin.max_,C]
 .rename_i F i;cases args with
  |nil=>cases i
  |cons p j=>
   cases j with
   |cons=>simp at i
   |nil=>
    simp at i;simp only[ABA,AA7] at h;obtain⟨t,N,h⟩:=h;split at h
    .rename_i e hu;cases h;have W:=A p;rw[i] at W;have ba:a.eval p= .slice none 0 0:=W;refine BK.pure (v:= .int .i64 0) ?_ E rfl rfl;simp[builtin,Builtin.cap_,ba,N,run_underlying hu,goInt]
    .cases h
 .cases h
theorem sk (h:aOp P aI o.op m g=some r)(E:New T g.n r.us)(M:∀q∈r.ps,q.holds T)(p:AH T g.n V m w)(j:∀x,AA T g.n V m w (aI x) (a.eval x)):
  BK T g V m w ((execOp a.eval o).run P w) r:=by
 have W:∀xs:Array Operand,xs.map a.eval=(xs.toList.map a.eval).toArray:=fun xs=>by rw[<-Array.toList_map,Array.toArray_toList]
 cases D:o.op<;>rw[D] at h<;>simp only[aOp] at h
 case move x=>cases h;exact BK.same (v:=a.eval x) (by simp[execOp,D]) p rfl (j x)
 case assign x=>cases h;exact BK.same (v:=a.eval x) (by simp[execOp,D]) p rfl (j x)
 case pick c x y=>
  obtain⟨q,C,O,A⟩:=Ql h E p (j c) (fun _=>j x) (fun _=>j y);exact BK.pure (v:=if q then a.eval x else a.eval y) (by simp[execOp,D,C,asBool]) p O A
 case alloc t=>exact pC h p D
 case box t x=>exact yR h p D (j x)
 case build t H=>exact (ZB h p D j).res p
 case buildSlice t len H=>exact O5 h E p D j
 case load t x=>
  obtain⟨u,C,O,A⟩:=Pv h E p (j x);exact BK.pure (by simp[execOp,D,C]) p O A
 case store t x y=>
  obtain⟨ab,C,O,A,F⟩:=tI h E p (j x) (j y);exact⟨undef,ab, V,.inr ⟨by simp[execOp,D,C],rfl⟩,O,A,by rw[F];exact trivial⟩
 case nilCheck x=>exact (Sj h M p D rfl (j x)).res p
 case binOp op t x y yt=>
  obtain⟨z,C,O,A⟩:=S3 h E M (j x) (j y) x y;exact BK.pure (v:=z) (N8 (s:=do eqGuard op t x y (a.eval x) (a.eval y);binOp op t (a.eval x) (a.eval y)) (by simp only[execOp,D]) C) p O A
 case unOp op t x=>
  obtain⟨z,C,O,A⟩:=fe (P:=P) (w:=w) h E (j x);exact BK.pure (by simp[execOp,D,C]) p O A
 case convert s d x=>
  obtain⟨z,C,O,A⟩:=Ow h E (j x);exact BK.pure (by simp[execOp,D,C]) p O A
 case makeFunc aC first I=>
  cases h;refine BK.same (v:= .func aC (first.map a.eval) (I.map a.eval)) (by simp[execOp,D,Instr.makeFunc]) p rfl ?_;refine⟨first.toList.map a.eval,I.toList.map a.eval,by rw[W,W],AF.of_map j _,AF.of_map j _⟩
 case fieldAddr t x f=>
  obtain⟨z,C,O,A,F⟩:=Le h (j x);exact BK.same (by simp[execOp,D,C]) p O F
 case field t x f=>
  obtain⟨z,C,O,A,F⟩:=Ru h (j x);exact BK.same (by simp[execOp,D,C]) p O F
 case indexAddr t x i=>
  obtain⟨z,C,O,A⟩:=Li h E M (j x) (j i);exact BK.pure (by simp[execOp,D,C]) p O A
 case makeMap t rv=>
  cases rv with
  |none=>exact gu h E p D
  |some _=>cases h
 case lookup t x aY ok=>
  obtain⟨z,C,O,A⟩:=mH h E M p (j x) (j aY);exact BK.pure (by simp[execOp,D,C]) p O A
 case mapUpdate t x aY v=>
  obtain⟨ab,C,O,A,F⟩:=ZP h E M p (j x) (j aY) (j v);exact⟨undef,ab, V,.inr ⟨by simp[execOp,D,C],rfl⟩,O,A,by rw[F];exact trivial⟩
 case index t x i=>
  obtain⟨z,C,O,A⟩:=Rb h E M (j x) (j i);rcases A with A|A
  .exact BK.same (by simp[execOp,D,C]) p O A
  .exact BK.pure (by simp[execOp,D,C]) p O A
 case slice t x am Y a2=>
  cases a2 with
  |some v=>
   cases Y with
   |none=>cases h
   |some Y=>
    have N:Pa T g.n V m w (am.map aI) (am.map a.eval):=by
     cases am with
     |none=>rfl
     |some y=>exact⟨_,rfl,j y⟩
    obtain⟨z, ac,C,O,A,F⟩:=ml h E M p (j x) N (j Y) (j v);exact⟨z,w, ac,.inl (by simp[execOp,D,C]),O,A,F⟩
  |none=>
   have N:∀l:Option Operand,Pa T g.n V m w (l.map aI) (l.map a.eval):=by
    intro l;cases l with
    |none=>rfl
    |some y=>exact⟨_,rfl,j y⟩
   obtain⟨z,C,O,A⟩:=Sm h E M p (j x) (N am) (N Y);exact BK.pure (by simp[execOp,D,C]) p O A
 case makeSlice t x y=>exact Zu h E M p D (j x) (j y)
 case extract x i=>
  obtain⟨z,C,O,A,F⟩:=OP (P:=P) h (j x);exact BK.same (by simp[execOp,D,C]) p O F
 case call c=>
  obtain⟨al,args,ay⟩:=c;cases al with
  |builtin b=>exact gg D h E M p j
  |value f=>cases h
  |invoke x n=>cases h
 all_goals cases h
theorem Vf {len:Nat}{H:List (Nat × AC)}(h:DM P t len H m g=some r):∃x ks e,r.c= .vec m.length x ks/\r.m=m++[.tok x ks e]:=by
 unfold DM at h;split at h
 .simp only[ABA,AA7] at h;obtain⟨i,Y,z,j,h⟩:=h;split at h
  .simp only[AA7] at h;grind
  .split at h
   .simp only[AA7] at h;grind
   .cases h
 .cases h
theorem gI {len:Nat}{H:Array (Nat × Operand)}(h:Jn P t len (H.toList.map fun (i,x)=>(i,aI x)) m g=some r)(W:New T g.n r.us)(D:AH T g.n V m w)
  (ho:o.op= .buildSlice t len H) (N:∀x,AA T g.n V m w (aI x) (a.eval x)):BK T g V m w ((execOp a.eval o).run P w) r:=by
 unfold Jn at h;simp only[ABA,AA7] at h;obtain⟨q,z,h⟩:=h;obtain⟨x,ks,e,A,M⟩:=Vf z;rw[A] at h;cases h;obtain⟨v,ab, ac,k1,E,F,j⟩:=O5 z W D ho N;rw[M] at E F j;rw[A] at j;have k5:AA T (g.n+q.us.length) ac (m++[.tok x ks e]) ab (.ro x ks) v:=⟨j.1,j.2.2.1⟩;have p:=fun id=>yS (m:=m) (b:= .tok x ks e) id;exact⟨v,ab, ac,k1,E.trans D (Nat.le_add_right _ q.us.length) (AI.weaken (n:=g.n+q.us.length) p),F.weaken p,AA.mono0 (AI.weaken p) (ABB _) _ _ k5⟩
theorem XJ {k:Nat}(h:EA k P aI o.op m g=some r)(A:New T g.n r.us)(E:∀q∈r.ps,q.holds T)(p:AH T g.n V m w)(i:∀x,AA T g.n V m w (aI x) (a.eval x)):
  BK T g V m w ((execOp a.eval o).run P w) r:=by
 unfold EA at h;split at h
 .exact sk h A E p i
 .split at h
  .rename_i t n c j;exact iU h A E p j (i n) (i c)
  .rename_i t len H j;exact RU h A p j
  .rename_i t x am Y a2 j;have W:Pa T g.n V m w (am.map aI) (am.map a.eval):=by
    cases am with
    |none=>rfl
    |some y=>exact⟨_,rfl,i y⟩
   obtain⟨z, ac,C,O,F,M⟩:=ZM h A p (i x) W (i Y) (i a2);exact⟨z,w, ac,.inl (by simp[execOp,j,C]),O,F,M⟩
  .rename_i args ay j;obtain⟨args⟩:=args;split at h
   .rename_i s x D;rw[KV j];cases args with
    |nil=>cases D
    |cons x1 N=>
     cases N with
     |nil=>cases D
     |cons aZ N=>
      cases N with
      |cons=>cases D
      |nil=>
       simp at D;obtain⟨rfl,rfl⟩:=D;obtain⟨z,ab, ac,C,O,F,M⟩:=T5 h A E p (i x1) (i aZ) o.type;exact⟨z,ab, ac,.inl (by simp[builtin,C]),O,F,M⟩
   .cases h
  .cases h
 .split at h
  .rename_i t len H j;split at h
   .exact gI h A p j i
   .exact XL h p j i
  .exact sk h A E p i
end
structure Loc where
 tmps:AZ
 mem:Mem
inductive XK where
 |normal
 |exit (id:Nat)
 |ret
 deriving DecidableEq
abbrev YF:=Nat->List AC->PC->Mem->G->Option (AC × Mem × G)
structure Ys where
 get:Nat->Option YF
 mu:Tmp->Nat
instance:CoeFun Ys (fun _=>Nat->Option YF):=⟨Ys.get⟩
def Ys.none:Ys:=⟨fun _=>Option.none,fun _=>0⟩
def OY (ap:Ys):Option Tmp->Nat
 |some t=>ap.mu t
 |none=>0
abbrev A7:=Ys->FuncId->List AC->PC->Mem->G->Option (AC × Mem × G)
structure BC where
 k:XK
 pc:PC
 l:Loc
structure GE where
 j:Nat
 want:Bool
 p:Nat
 imp:List Nat
def XA (aV:List Nat):AC->AC
 | .on c a=>if aV.contains c then a else .on c a
 | .gd c a=>if aV.contains c then a else .gd c a
 |a=>a
def DC (aV:List Nat)(tmps:AZ):Operand->AC
 | .tmp t=>XA aV ((tmps.get t).getD .any)
 | .const v=>Jq v
 | .global _=> .any
 | .func f=> .fn (.func f) [] []
def FO:PC->Rf
 |none=> .c (.bool true)
 |some c=> .e c
def C5 (ad:PC)(x:Nat)(aU:Bool):Ex:=
 match ad with
 |none=>if aU then ⟨ "id",oId,[.e x]⟩ else ⟨ "not",XE,[.e x]⟩
 |some c=>⟨ "and",SM,[.e c,if aU then .e x else .n x]⟩
structure RS where
 tmps:AZ
 mem:Mem
 g:G
 gl:List GE
def Ec (ad:PC)(base:List Nat)(s:RS)(j:Nat)(aU:Bool):AC->Option (Option (PC × List Nat) × RS)
 | .cb b=>if b=aU then some (some (ad,base),s) else some (none,s)
 | .b x=>some (some (some s.g.n,s.g.n::base),{ s with g:=s.g.pushAll [C5 ad x aU],gl:=⟨j,aU,s.g.n,s.g.n::base⟩::s.gl })
 | .nb x=>some (some (some s.g.n,s.g.n::base),{ s with g:=s.g.pushAll [C5 ad x (!aU)],gl:=⟨j,aU,s.g.n,s.g.n::base⟩::s.gl })
 |_=>none
def DE (Z:Array Oper)(ad:PC)(s:RS)(o:Oper):Option (Option (PC × List Nat) × RS):=
 match o.guard with
 |none=>some (some (ad,[]),s)
 |some (j,aU)=>
  match s.gl.filter (fun e=>Nat.beq e.j j&&(e.want==aU)) with
  |e::ar=>some (some (some e.p,e.imp++(ar.map (·.imp)).flatten),s)
  |[]=>do
   let h<-Z[j]?;let d<-h.dst;let c<-s.tmps.get d
   match c with
   | .tup []=>some (none,s)
   | .gd c a=>do
    let e<-s.gl.find? (fun e=>Nat.beq e.p c)
    Ec (some c) e.imp s j aU a
   |a=>Ec ad [] s j aU a
def BD:Op->Bool
 | .move _| .assign _| .pick .. | .build .. | .load .. | .nilCheck _| .binOp .. | .unOp .. | .convert .. | .makeFunc .. | .fieldAddr .. | .field .. | .indexAddr .. | .index .. | .extract .. | .slice _ _ _ _ none=>true
 | .call { callee:= .builtin .cap,.. }| .call { callee:= .builtin .len,.. }| .call { callee:= .builtin .min,.. }| .call { callee:= .builtin .max,.. }=>true
 |_=>false
def Blk.beq:Blk->Blk->Bool
 | .pad,.pad=>true
 | .gone,.gone=>true
 | .cells l e,.cells ae e'=>AC.beqL l ae&&Nat.beq e e'
 | .tok x ks e,.tok L af e'=>Nat.beq x L&&Kd.beqs ks af&&Nat.beq e e'
 | .lp x a,.lp L a'=>Nat.beq x L&&AC.beq a a'
 | .mrow x y ks e,.mrow L aF af e'=>Nat.beq x L&&Nat.beq y aF&&Kd.beqs ks af&&Nat.beq e e'
 | .mapb x ao ka aJ aT,.mapb L kk' ka' vk' va'=>Nat.beq x L&&Kd.beqs ao kk'&&(ka==ka')&&Kd.beqs aJ vk'&&(aT==va')
 |_,_=>false
def HP:Mem->Mem->Bool
 |[],_=>true
 |b::m,b'::ag=>Blk.beq b b'&&HP m ag
 |_,_=>false
def PL (Z:Array Oper)(h:List GE)(c:Operand)(aU:Bool):List Nat:=
 match c with
 | .tmp t=>(h.filter fun e=>(e.want==aU)&&(((Z[e.j]?).bind (·.dst))==some t)).map (·.p)
 |_=>[]
def Dz (n:Nat)(b:Rf):Blk->Blk->Blk × List Ex
 | .cells l e,.cells ae e'=>
  if l.length=ae.length/\e=e' then
   let (r,us):=QW (fun n=>mix n b) n l ae
   if r.all AC.atom then (.cells r e,us) else (.gone,us)
  else (.gone,[])
 | .tok x ks e,.tok L af e'=>
  if Nat.beq x L&&Kd.beqs ks af&&Nat.beq e e' then (.tok x ks e,[])
  else if e=e'/\ks.length=af.length then (.tok n (Kd.joins ks af) e,[⟨ "if",oIf,[b,.e x,.e L]⟩]) else (.gone,[])
 | .tok x ks e,.pad=>(.tok n ks e,[⟨ "if",oIf,[b,.e x,.c (.list [])]⟩])
 | .pad,.tok x ks e=>(.tok n ks e,[⟨ "if",oIf,[b,.c (.list []),.e x]⟩])
 | .lp x a,.lp L a'=>
  if Nat.beq x L then
   let (c,us):=mix n b a a'
   (.lp x c,us)
  else (.gone,[])
 | .mrow x y ks e,.mrow L aF af e'=>
  if Nat.beq y aF&&Nat.beq e e'&&Nat.beq ks.length af.length then
   if Nat.beq x L&&Kd.beqs ks af then (.mrow x y ks e,[]) else (.mrow n y (Kd.joins ks af) e,[⟨ "if",oIf,[b,.e x,.e L]⟩])
  else (.gone,[])
 | .mapb x ao ka aJ aT,.mapb L kk' ka' vk' va'=>
  if Nat.beq x L&&Kd.beqs ao kk'&&(ka==ka')&&Kd.beqs aJ vk'&&(aT==va') then (.mapb x ao ka aJ aT,[])
  else if Nat.beq ao.length kk'.length&&(ka==ka')&&Nat.beq aJ.length vk'.length&&(aT==va') then (.mapb n (Kd.joins ao kk') ka (Kd.joins aJ vk') aT,[⟨ "if",oIf,[b,.e x,.e L]⟩])
  else (.gone,[])
 | .pad,.pad=>(.pad,[])
 |_,_=>(.gone,[])
def Hn (b:Rf):Nat->Mem->Mem × List Ex
 |_,[]=>([],[])
 |n,y::ag=>
  let (z,us):=Dz n b .pad y;let (r,h):=Hn b (n+us.length) ag
  (z::r,us++h)
def Be (b:Rf):Nat->Mem->Mem->Mem × List Ex
 |n,[],ag=>Hn b n ag
 |n,x::m,ag=>
  let (z,us):=Dz n b x (ag.headD .pad);let (r,h):=Be b (n+us.length) m ag.tail
  (z::r,us++h)
def Nq (m:Mem)(id:Nat):Option AC:=match m.at id with| .tok z ks _=>some (.vec id z ks)|_=>none
def Gp (m az al:Mem)(c d:AC):Option AC:=
 match c,d with
 | .vec id x ks,.vec id' L af=>
  if Nat.beq id id' then
   match az.at id,al.at id with
   | .tok y ky _,.tok aF ky' _=>if Nat.beq x y&&Nat.beq L aF&&Kd.beqs ks ky&&Kd.beqs af ky' then Nq m id else none
   |_,_=>none
  else none
 | .vec id x ks,.cv .nilSlice=>
  match az.at id,al.at id with
  | .tok y ky _,.pad=>if Nat.beq x y&&Kd.beqs ks ky then Nq m id else none
  |_,_=>none
 | .cv .nilSlice,.vec id x ks=>
  match az.at id,al.at id with
  | .pad,.tok y ky _=>if Nat.beq x y&&Kd.beqs ks ky then Nq m id else none
  |_,_=>none
 |_,_=>none
def H8 (m az al:Mem):List AC->List AC->List AC->List AC
 |c::l,d::ae,a::r=>(Gp m az al c d).getD a::H8 m az al l ae r
 |_,_,r=>r
def fF (m az al:Mem):Blk->Blk->Blk->Blk
 | .cells l _,.cells ae _,.cells r e=> .cells (H8 m az al l ae r) e
 |_,_,z=>z
def U7 (m az al:Mem):Mem->Mem->Mem->Mem
 |z::r,b1,b2=>fF m az al (b1.headD .pad) (b2.headD .pad) z::U7 m az al r b1.tail b2.tail
 |[],_,_=>[]
def Bf (b:Rf)(n:Nat)(az al:Mem):Mem × List Ex:=
 let (r,us):=Be b n az al
 (U7 r az al r az al,us)
def Oa (f:Nat->AC->AC->AC × List Ex)(n:Nat):Option AC->Option AC->Option AC × List Ex
 |some a,some b=>let (c,us):=f n a b;(some c,us)
 |_,_=>(none,[])
def Eu (f:Nat->AC->AC->AC × List Ex):Nat->Tr->Tr->Tr × List Ex
 |n,.node v l r,.node v' ae r'=>
  let (c,us):=Oa f n v v';let (ah,h):=Eu f (n+us.length) l ae;let (aK,i):=Eu f (n+us.length+h.length) r r'
  (.node c ah aK,us++(h++i))
 |_,_,_=>(.nil,[])
def AZ.flat (s:AZ):Tr:=if s.loc.isEmpty then s.t else .nil
def TC (m az al:Mem)(b:Rf)(n:Nat)(c d:AC):AC × List Ex:=
 match Gp m az al c d with
 |some a=>(a,[])
 |none=>OS n b c d
def HY (n:Nat)(b:Rf)(X ah:Loc):Loc × List Ex:=
 let (m,us):=Bf b n X.mem ah.mem;let (t,h):=Eu (TC m X.mem ah.mem b) (n+us.length) X.tmps.flat ah.tmps.flat
 (⟨⟨X.tmps.n,[],t⟩,m⟩,us++h)
def Dd (g:G)(ad:PC)(x:Nat)(aU:Bool):PC × G:=
 match ad,aU with
 |none,true=>(some x,g)
 |ad,aU=>(some g.n,g.pushAll [C5 ad x aU])
def KL (one:AC->PC->Mem->G->Option (AC × Mem × G))(x:Nat):Nat->List AC->PC->Mem->G->Option (AC × Mem × G)
 |_,[],_,_,_=>none
 |_,[c],ad,m,g=>one c ad m g
 |j,.cv .nilFunc::aD,ad,m,g=>KL one x (j+1) aD ad m (g.needAll ad [⟨ "ne",pNe,[.e x,.c (.int j)]⟩])
 |j,c::aD,ad,m,g=>do
  let t:=g.n;let g:=g.pushAll [⟨ "eq",oEq,[.e x,.c (.int j)]⟩];let (i,g):=Dd g ad t true;let (ca,aE,g) <-one c i m g;let (p,g):=Dd g ad t false;let (cb,mb,g) <-KL one x (j+1) aD p m g;let (ag,us):=Bf (.e t) g.n aE mb;let (h,q):=Gk (g.n+us.length) (.e t) ca cb
  some (h,ag,g.pushAll (us++q))
def Es (call:A7)(ap:Ys)(args:List AC)(f:AC)(ad:PC)(m:Mem)(g:G):Option (AC × Mem × G):=
 match f with
 | .fn (.func k) first I=>call ap k (first++args++I) ad m g
 | .yl id=>
  match m.at id with
  | .lp stamp _=>do
   let y<-ap stamp
   y id args ad m g
  |_=>none
 |_=>none
def O9 (call:A7)(ap:Ys)(f:AC)(args:List AC)(ad:PC)(m:Mem)(g:G):Option (AC × Mem × G):=
 match f with
 | .sel x alts=>KL (Es call ap args) x 0 alts ad m g
 |f=>Es call ap args f ad m g
def Z6 (ad:PC)(aV:List Nat)(c:AC):AC:=
 match ad,aV with
 |some p,_::_=> .gd p c
 |_,_=>c
def C8 (tmps:AZ)(a3:Option Tmp)(c:AC):AZ:=
 match a3 with
 |some d=>tmps.set d c
 |none=>tmps
def Z5:AC->AC
 | .on _ (.ptr i o)=> .ptr i o
 |a=>a
def an:AC->List Pr
 | .on c (.ptr _ _)=>[⟨ "t",pT,[.e c]⟩]
 |_=>[]
def KO:List AC->List Pr
 |[]=>[]
 |a::l=>an a++KO l
def Bh (P:Program)(call:A7)(ap:Ys)(Z:Array Oper)(ad:PC)(s:RS)(o:Oper):Option RS:=do
 let (run,s) <-DE Z ad s o
 if s.gl.any (fun e=>((Z[e.j]?).bind (·.dst))==o.dst) then none else
 let put (c:AC):AZ:=C8 s.tmps o.dst c
 match run with
 |none=>some { s with tmps:=put (.tup []) }
 |some (pc',aV)=>
  let aI:=DC aV s.tmps;let h (c:AC):AC:=Z6 pc' aV c
  match o.op with
  | .call { callee:= .value f,args,.. }=>do
   let (c,m,g) <-O9 call ap (aI f) ((args.toList.map aI).map Z5) pc' s.mem (s.g.needAll pc' (KO (args.toList.map aI)))
   match aV with
   |[]=>some { s with tmps:=put c,mem:=m,g }
   |_=>if HP s.mem m then some { s with tmps:=put (h c),mem:=s.mem++List.replicate (m.length - s.mem.length) .gone,g } else
    match pc' with
    |some p=>some { s with tmps:=put (h c),mem:=(Bf (.e p) g.n m s.mem).1,g:=g.pushAll (Bf (.e p) g.n m s.mem).2 }
    |none=>none
  | .pick c a b=>do
   let r<-aA (aI c) (XA (PL Z s.gl c true) (aI a)) (XA (PL Z s.gl c false) (aI b)) s.mem s.g
   some { s with tmps:=put (h r.c),g:=(s.g.pushAll r.us).needAll pc' r.ps }
  |op=>do
   let r<-EA (match aV with|[]=>OY ap o.dst|_=>0) P aI op s.mem s.g
   match aV with
   |[]=>some { s with tmps:=put r.c,mem:=r.m,g:=(s.g.pushAll r.us).needAll pc' r.ps }
   |_=>if BD op then some { s with tmps:=put (h r.c),g:=(s.g.pushAll r.us).needAll pc' r.ps } else
    if HP s.mem r.m then some { s with tmps:=put (h r.c),mem:=s.mem++List.replicate (r.m.length - s.mem.length) .gone,g:=(s.g.pushAll r.us).needAll pc' r.ps } else none
def DO (P:Program)(call:A7)(ap:Ys)(Z:Array Oper)(ad:PC):List Oper->RS->Option RS
 |[],s=>some s
 |o::l,s=>do
  let s<-Bh P call ap Z ad s o
  DO P call ap Z ad l s
def E9 (D:List Nat):List Edge->Nat
 |[]=>0
 |e::ar=>if Region.binds .any e then Nat.lor (Nat.lor (2 ^ e.on) ((D[e.on]?).getD 0)) (E9 D ar) else E9 D ar
def Ak:List Oper->List Nat->List Nat
 |[],D=>D
 |o::l,D=>Ak l (D++[E9 D o.after.toList])
structure DS where
 tmps:AZ
 mem:Mem
 g:G
 gls:List (Nat × GE)
def At (Z:Array Oper)(o:Oper):List Tmp:=
 (o.op.operands.toList.filterMap fun x=>match x with| .tmp t=>some t|_=>none)++
  (match o.guard with|some (j,_)=>(match Z[j]? with|some h=>h.dst.toList|none=>[])|none=>[])
def CK:List (Tmp × Nat)->Tmp->Option Nat
 |[],_=>none
 |(t',i)::r,t=>bif Nat.beq t' t then some i else CK r t
def BU:Nat->List Oper->List (Tmp × Nat)
 |_,[]=>[]
 |i,o::l=>match o.dst with|some t=>(t,i)::BU (i+1) l|none=>BU (i+1) l
def CC (D:List (Tmp × Nat))(ok:Nat->Bool)(s:AZ):List Tmp->List (Nat × AC)
 |[]=>[]
 |t::r=>match s.get t with
  |some c=>if (match CK D t with|some i=>ok i|none=>true) then (t,c)::CC D ok s r else CC D ok s r
  |none=>CC D ok s r
def Hr (R:Nat)(gls:List (Nat × GE)):List GE:=(gls.filter fun p=>R.testBit p.1).map (·.2)
mutual
def AC.free:AC->Bool
 | .ptr .. | .pix .. | .vec .. | .yl _| .asl .. | .rsv .. | .mr .. | .mp .. | .mv _=>false
 | .on _ a| .gd _ a=>AC.free a
 | .fn _ f c=>AC.freeL f&&AC.freeL c
 | .agg l| .tup l| .sel _ l=>AC.freeL l
 |_=>true
def AC.freeL:List AC->Bool
 |[]=>true
 |a::l=>AC.free a&&AC.freeL l
end
def DS.masked (S:DS)(D:List (Tmp × Nat))(ok:Nat->Bool)(R:Nat)(Bt:List Tmp):RS:=⟨⟨S.tmps.n,CC D ok S.tmps Bt,.nil⟩,S.mem,S.g,Hr R S.gls⟩
def HB (s:RS)(n:Nat):List GE:=s.gl.take (s.gl.length - n)
def GW (tmps:AZ):Option Tmp->AC
 |some d=>(tmps.get d).getD .any
 |none=> .any
def M0 (P:Program)(call:A7)(ap:Ys)(Z:Array Oper)(D:List (Tmp × Nat))(ad:PC)(R j:Nat)(o:Oper)(S:DS):Option DS:=do
 let aw<-Bh P call ap Z ad (S.masked D R.testBit R (At Z o)) o;let c:=GW aw.tmps o.dst
 if (HB aw (Hr R S.gls).length).all (fun e=>R.testBit e.j)&&(BD o.op||(HP S.mem aw.mem&&(Nat.beq aw.mem.length S.mem.length||AC.free c))) then
  some ⟨C8 S.tmps o.dst c,S.mem,aw.g,(HB aw (Hr R S.gls).length).map (fun e=>(j,e))++S.gls⟩
 else none
def heads (P:Program)(call:A7)(ap:Ys)(Z:Array Oper)(D:List (Tmp × Nat))(ad:PC):List Nat->List Oper->Nat->DS->Option DS
 |R::Rs,o::l,j,S=>do
  let h<-M0 P call ap Z D ad R j o S
  heads P call ap Z D ad Rs l (j+1) h
 |_,[],_,S=>some S
 |[],_,_,_=>none
def FD:List Nat->Nat->Nat->Nat
 |[],_,h=>h
 |r::ai,j,h=>FD ai (j+1) (if Nat.beq (r+1) (2 ^ j) then h else j+1)
def HI:List Nat->Nat->Bool
 |[],_=>true
 |r::ai,j=>Nat.blt r (2 ^ j)&&HI ai (j+1)
def Ho:List Tmp->Bool
 |[]=>true
 |t::l=> !l.contains t&&Ho l
def Z8 (P:Program)(call:A7)(ap:Ys)(Z:Array Oper)(ad:PC)(l:Loc)(g:G):Option RS:=
 let i:=Ak Z.toList [];let h:=FD i 0 0
 if HI i 0&&Ho (Z.toList.filterMap (·.dst)) then do
  let S<-heads P call ap Z (BU 0 Z.toList) ad i (Z.toList.take h) 0 ⟨l.tmps,l.mem,g,[]⟩
  DO P call ap Z ad (Z.toList.drop h) ⟨S.tmps,S.mem,S.g,S.gls.map (·.2)⟩
 else none
mutual
def AC.nlt (n:Nat):AC->Bool
 | .on c a| .gd c a=>Nat.blt c n&&AC.nlt n a
 | .b x| .nb x| .i _ _ _ x| .v x| .s x| .ro x _| .vec _ x _| .rsv _ x _=>Nat.blt x n
 | .pix _ _ _ _ x _=>Nat.blt x n
 | .rp x t _ _=>Nat.blt x n&&Nat.blt t n
 | .mr _ y=>Nat.blt y n
 | .mp _ y t _ _=>Nat.blt y n&&Nat.blt t n
 | .fn _ f c=>AC.nltL n f&&AC.nltL n c
 | .sel x l=>Nat.blt x n&&AC.nltL n l
 | .agg l| .tup l=>AC.nltL n l
 |_=>true
def AC.nltL (n:Nat):List AC->Bool
 |[]=>true
 |a::l=>AC.nlt n a&&AC.nltL n l
end
def AAz:BinOp->Bool| .add=>true| .sub=>true|_=>false
def aF (n:Nat)(t:AZ)(o:Oper)(c:AC):Bool:=
 match o.op with
 | .binOp _ _ x y _=>(CO (DC [] t x)).isSome&&(CO (DC [] t y)).isSome&&AC.nlt n (DC [] t x)&&AC.nlt n (DC [] t y)&&(CO c).isSome
 |_=>true
abbrev QC:=Bool × Bool
def AP (an:QC)(D:List (Tmp × Nat))(o:Oper):Nat:=
 match o.op with
 | .call { callee:= .value (.func _),.. }=>if an.1 then 2 else 3
 | .load _ x=>if o.guard.isNone&&(an.2&&(match x with| .tmp t=>(CK D t).isNone|_=>true)) then 0 else 2
 | .buildSlice _ n _=>if (an.1||an.2)&&Nat.blt 0 n then 2 else 3
 | .move x| .assign x=>if o.guard.isNone&&(match x with| .tmp t=>(CK D t).isNone|_=>true) then 0 else 1
 | .extract x _=>if o.guard.isNone&&(match x with| .tmp t=>(CK D t).isNone|_=>true) then 0 else 2
 | .nilCheck _| .fieldAddr .. | .indexAddr .. =>1
 | .alloc _=>if o.guard.isNone then 4 else 3
 | .binOp op _ x y _=>if o.guard.isNone&&(AAz op&&(match x with| .tmp t=>(CK D t).isNone|_=>true)&&(match y with| .tmp t=>(CK D t).isNone|_=>true)) then 0 else 2
 |op=>if BD op then 2 else 3
def Am:Nat->List Oper->List (Tmp × Nat)
 |_,[]=>[]
 |i,o::l=>match o.op,o.dst with
  | .alloc _,some t=>(t,i)::Am (i+1) l
  |_,_=>Am (i+1) l
def VQ (b:Bool)(h:List Nat)(R i k:Nat):Nat->List Nat->Bool
 |_,[]=>true
 |j,c::r=>(Nat.ble i j||(if Nat.beq k 3 then R.testBit j||Nat.beq c 0 else if Nat.beq k 2 then R.testBit j||Nat.ble c (bif b then 3 else 2) else true))&&VQ b h R i k (j+1) r
def aJ (b:Bool)(h:List Nat):Nat->List Nat->List Nat->Bool
 |i,R::Rs,k::ks=>VQ b h R i k 0 h&&aJ b h (i+1) Rs ks
 |_,_,_=>true
def WM (R:Nat):Nat->Nat->List Nat->Bool
 |0,_,_=>true
 |n+1,m,c::r=>(R.testBit m||Nat.beq c 0)&&WM R n (m+1) r
 |_+1,_,[]=>true
def Mi:Nat->List Nat->List Nat
 |_,[]=>[]
 |j,c::r=>bif Nat.beq c 4 then j::Mi (j+1) r else Mi (j+1) r
def wides (p h:List Nat):Nat->List Nat->List Nat->Bool
 |i,R::Rs,k::ks=>(Nat.beq k 0||Nat.beq k 4||h.all fun j=>Nat.ble i j|| !R.testBit j||WM R j 0 p)&&wides p h (i+1) Rs ks
 |_,_,_=>true
def Bj:Mem->Mem->Bool
 |[],_=>true
 | .tok x ks e::m,b::ag=>Blk.beq (.tok x ks e) b&&Bj m ag
 | .tok _ _ _::_,[]=>false
 | .mrow _ y ks e::m,b::ag=>(match b with| .mrow _ aF af e'=>Nat.beq y aF&&Nat.beq ks.length af.length&&Nat.beq e e'|_=>false)&&Bj m ag
 | .mrow _ _ _ _::_,[]=>false
 |_::m,ag=>Bj m ag.tail
mutual
def AC.noVec:AC->Bool
 | .on _ a| .gd _ a=>AC.noVec a
 | .vec _ _ _| .rsv _ _ _| .mr _ _| .mp _ _ _ _ _=>false
 | .fn _ f c=>AC.noVecL f&&AC.noVecL c
 | .sel _ l=>AC.noVecL l
 | .agg l| .tup l=>AC.noVecL l
 |_=>true
def AC.noVecL:List AC->Bool
 |[]=>true
 |a::l=>AC.noVec a&&AC.noVecL l
end
def okG (h:List Nat)(R j i:Nat):Bool:=R.testBit i||(h.getD i 0).testBit j
def AAq:Blk->Blk
 | .cells l e=> .cells (l.map fun _=> .any) e
 |b=>b
def isTg (tg:List Tmp):Option Tmp->Bool
 |some d=>tg.contains d
 |none=>false
def Sy (tg:List Tmp)(a3:Option Tmp)(m ag:Mem):Mem:=
 if isTg tg a3 then m++(ag.drop m.length).map AAq else ag
def Ld:List Tmp->Option Nat
 |[]=>none
 |t::_=>if Nat.ble 1000000 t then some (t - 1000000) else none
def IC (tg:List Tmp)(k:Nat)(m:Mem):Mem:=match Ld tg with|some n=>bif Nat.beq k 2 then m.take n else m|none=>m
def Nd (k:Nat)(aI:Operand->AC):Op->Bool
 | .load _ x=>(match aI x with| .ptr _ _=>true| .rp _ _ _ _=>true|_=>false)
 | .slice _ x _ _ none=>(match aI x with| .ro _ _=>true|_=>false)
 | .buildSlice _ _ _=>Nat.beq k 3
 |_=>false
def aC (ap:Ys)(t:AZ)(o:Oper):Bool:=o.guard.isNone&&Nd (OY ap o.dst) (DC [] t) o.op
def nU (R j:Nat):Bool:=Nat.beq (R+1) (2 ^ j)
def pM (a0:Bool)(ap:Ys)(t:AZ)(tg:List Tmp)(k:Nat)(o:Oper)(m ag:Mem)(c:AC):Bool:=
 match Ld tg with
 |none=>true
 |some n=>(a0&&Nat.blt k 4)&&(if Nat.beq k 3 then Nat.ble n m.length&&HP (m.take n) ag else if Nat.beq k 2 then aC ap t o&&AC.noVec c else true)
def m9 (tg:List Tmp)(t:AZ)(o:Oper):Bool:=
 match o.op with
 | .load _ x=>(match Ld tg,DC [] t x with|some n,.ptr id _=>Nat.blt id n|_,_=>false)
 |_=>true
def WS (an:QC)(a0:Bool)(tg:List Tmp)(P:Program)(call:A7)(ap:Ys)(Z:Array Oper)(D i:List (Tmp × Nat))(h:List Nat)(ad:PC)(R j:Nat)(o:Oper)(S:DS):Option DS:=do
 let k:=AP an i o;let aw<-Bh P call ap Z ad { S.masked D (okG h R j) R (At Z o) with mem:=IC tg k S.mem } o;let c:=GW aw.tmps o.dst
 if ((HB aw (Hr R S.gls).length).all (fun e=>R.testBit e.j)&&((if Nat.ble 3 k then (a0||Bj S.mem aw.mem) else if Nat.beq k 0 then AC.nlt aw.g.n c&&(aF S.g.n (S.masked D (okG h R j) R (At Z o)).tmps o c&&m9 tg (S.masked D (okG h R j) R (At Z o)).tmps o) else true)&&(!a0||Nat.ble 2 k||AC.noVec (GW (C8 S.tmps o.dst c) o.dst)||nU R j)&&(!Nat.beq k 4||(match o.dst with|some d=>Nat.blt d S.tmps.n|none=>false)))&&(!Nat.beq k 2||BD o.op||(HP (IC tg k S.mem) aw.mem&&(Nat.beq aw.mem.length (IC tg k S.mem).length||AC.free c))))&&pM a0 ap (S.masked D (okG h R j) R (At Z o)).tmps tg k o S.mem aw.mem (GW (C8 S.tmps o.dst c) o.dst) then
  some ⟨C8 S.tmps o.dst c,if Nat.ble 3 k then (if Nat.beq k 4 then Sy tg o.dst S.mem aw.mem else aw.mem) else S.mem,aw.g,(HB aw (Hr R S.gls).length).map (fun e=>(j,e))++S.gls⟩
 else none
def Rr (an:QC)(a0:Bool)(tg:List Tmp)(P:Program)(call:A7)(ap:Ys)(Z:Array Oper)(D h:List (Tmp × Nat))(i:List Nat)(ad:PC):List Nat->List Oper->Nat->DS->Option DS
 |R::Rs,o::l,j,S=>do
  let p<-WS an a0 tg P call ap Z D h i ad R j o S
  Rr an a0 tg P call ap Z D h i ad Rs l (j+1) p
 |_,[],_,S=>some S
 |[],_,_,_=>none
def Gj (an:QC)(a0:Bool)(tg:List Tmp)(P:Program)(call:A7)(ap:Ys)(Z:Array Oper)(ad:PC)(l:Loc)(g:G):Option RS:=
 let h:=Ak Z.toList [];let D:=BU 0 Z.toList;let j:=Am 0 Z.toList;let i:=Z.toList.map (AP an j)
 if (HI h 0&&Ho (Z.toList.filterMap (·.dst))&&aJ (Ld tg).isSome i 0 h i)&&wides i (Mi 0 i) 0 h i then do
  let S<-Rr an a0 tg P call ap Z D j h ad h Z.toList 0 ⟨l.tmps,l.mem,g,[]⟩
  some ⟨S.tmps,S.mem,S.g,S.gls.map (·.2)⟩
 else none
def U2 (an:QC)(D:List (Tmp × Nat))(o:Oper):Nat:=if Nat.beq (AP an D o) 2&& !BD o.op then 3 else AP an D o
def V0 (P:Program)(call:A7)(ap:Ys)(Z:Array Oper)(ad:PC)(l:Loc)(g:G):List Nat->Option RS
 |[]=>none
 |n::r=>
  match (match n with
   |0=>Gj (false,false) false [] P call ap Z ad l g
   |1=>Gj (false,false) true [] P call ap Z ad l g
   |4=>Gj (true,false) false [] P call ap Z ad l g
   |6=>Gj (true,false) true [] P call ap Z ad l g
   |8=>Gj (true,false) true [1000000+l.mem.length] P call ap Z ad l g
   |9=>Gj (true,true) true [1000000+(l.mem.length - 2)] P call ap Z ad l g
   |_=>Gj (false,true) true [1000000+l.mem.length] P call ap Z ad l g) with
  |some s=>some s
  |none=>V0 P call ap Z ad l g r
def jr (P:Program)(call:A7)(ap:Ys)(Z:Array Oper)(h:Bool)(ad:PC)(l:Loc)(g:G):Option RS:=
 if h then (match Z8 P call ap Z ad l g with|some s=>some s|none=>V0 P call ap Z ad l g [0,1,4,6,8,9,10]) else DO P call ap Z ad Z.toList ⟨l.tmps,l.mem,g,[]⟩
def aE (g:G)(sel:Rf)(ad:Option PC)(a b:BC):BC × G:=
 let (l,us):=HY g.n sel a.l b.l;let g:=g.pushAll us
 match ad with
 |some p=>(⟨a.k,p,l⟩,g)
 |none=>
  let aq:=g.pushAll [⟨ "or",oOr,[FO a.pc,FO b.pc]⟩]
  (⟨a.k,some g.n,l⟩,aq)
def H6 (k:XK):List BC->Option (BC × List BC)
 |[]=>none
 |o::os=>if o.k=k then some (o,os) else (H6 k os).map fun (p,r)=>(p,o::r)
def noK (k:XK)(L:List BC):Bool:=L.all fun o=> !decide (o.k=k)
def E0 (sel:Option Rf)(h:Option PC):List BC->List BC->G->List BC × G
 |[],f,g=>(f,g)
 |a::aX,f,g=>
  match H6 a.k f with
  |none=>
   let (r,g):=E0 sel h aX f g
   (a::r,g)
  |some (b,f)=>
   let (c,g):=aE g (sel.getD (FO a.pc)) (if a.k= .normal then h else none) a b;let (r,g):=E0 sel h aX f g
   (c::r,g)
def Vk:PC->PC->Bool
 |none,none=>true
 |some a,some b=>Nat.beq a b
 |_,_=>false
def V6 (a0:Code->PC->Loc->G->Option (List BC × G))(x:Nat)(a b:Code)(ad:PC)(l:Loc)(g:G):Option (List BC × G):=if Nat.blt x g.n=false then none else do
 let (h,g):=Dd g ad x true;let (oa,g) <-a0 a h l g;let (i,g):=Dd g ad x false;let (ob,g) <-a0 b i l g;let j:=(oa.any fun o=>decide (o.k= .normal)&&Vk o.pc h)&&(ob.any fun o=>decide (o.k= .normal)&&Vk o.pc i)&&oa.length=1&&ob.length=1
 some (E0 (some (.e x)) (if j then some ad else none) oa ob g)
def VT (L:List BC)(g:G)(next:PC->Loc->G->Option (List BC × G)):Option (List BC × G):=
 match H6 .normal L with
 |none=>some (L,g)
 |some (o,rest)=>do
  if noK .normal rest then
   let (outs',g) <-next o.pc o.l g
   some (E0 none none rest outs' g)
  else none
inductive Sl where
 |tmp (t:Nat)
 |cell (id off:Nat)
 |tok (id:Nat)
 |st (id:Nat)
 |row (id:Nat)
 deriving DecidableEq
structure Dg where
 pre:List (Sl × TypeId × List Kd):=[]
 slots:List (Sl × Kd):=[]
 vecs:List (Sl × Nat × Nat):=[]
 kills:List Nat:=[]
def Ve (l:Loc):Sl->Option AC
 | .tmp t=>l.tmps.get t
 | .cell id off=>match l.mem.at id with
  | .cells c _=>c[off]?
  |_=>none
 | .tok id=>match l.mem.at id with
  | .tok x ks _=>some (.ro x ks)
  |_=>none
 | .st id=>match l.mem.at id with
  | .lp _ a=>some a
  |_=>none
 | .row id=>match l.mem.at id with
  | .mrow x _ ks _=>some (.ro x ks)
  | .mapb x ao _ aJ _=>some (.ro x (ao++aJ))
  |_=>none
def Rc:Kd->Nat->AC
 | .int k am Y,x=> .i k am Y x
 |k,x=>Lg k x
def AA2 (l:Loc)(k:Kd)(x:Nat):Sl->Option Loc
 | .tmp t=>some { l with tmps:=l.tmps.fix t (some (Rc k x)) }
 | .cell id off=>match l.mem.at id with
  | .cells c e=>if off < c.length then some { l with mem:=l.mem.set id (.cells (c.set off (Rc k x)) e) } else none
  |_=>none
 | .tok id=>match l.mem.at id,k with
  | .tok _ ks e,.list af=>if ks.length=af.length then some { l with mem:=l.mem.set id (.tok x af e) } else none
  |_,_=>none
 | .st id=>match l.mem.at id with
  | .lp s _=>some { l with mem:=l.mem.set id (.lp s (Rc k x)) }
  |_=>none
 | .row id=>match l.mem.at id,k with
  | .mrow _ y ks e,.list af=>if ks.length=af.length then some { l with mem:=l.mem.set id (.mrow x y af e) } else none
  | .mapb _ ao ka aJ aT,.list af=>if ao.length+aJ.length=af.length then some { l with mem:=l.mem.set id (.mapb x (af.take ao.length) ka (af.drop ao.length) aT) } else none
  |_,_=>none
def se (l:Loc):Nat->List (Sl × Kd)->Option Loc
 |_,[]=>some l
 |x,(s,k)::r=>do
  let l<-AA2 l k x s
  se l (x+1) r
def Hc (l:Loc)(id x:Nat)(ks:List Kd):Sl->Option Loc
 | .tmp t=>some { l with tmps:=l.tmps.fix t (some (.vec id x ks)) }
 | .cell i off=>match l.mem.at i with
  | .cells c e=>if off < c.length then some { l with mem:=l.mem.set i (.cells (c.set off (.vec id x ks)) e) } else none
  |_=>none
 |_=>none
def iq (l:Loc)(nh:Nat)(h:List (Sl × Kd)):List (Sl × Nat × Nat)->Option Loc
 |[]=>some l
 |(s,id,j)::r=>do
  let (sj,kj) <-h[j]?
  match sj,kj with
  | .tok id',.list ks=>if id=id' then (Hc l id (nh+j) ks s).bind fun l=>iq l nh h r else none
  |_,_=>none
def fits (l:Loc):List (Sl × Kd)->Option (List Rf × List Pr)
 |[]=>some ([],[])
 |(s,k)::r=>do
  let c<-Ve l s;let (x,ps) <-fit k c;let (xs,ps') <-fits l r
  some (x::xs,ps++ps')
def G6 (l:Loc)(g:G):List (Sl × TypeId × List Kd)->Option (Loc × G)
 |[]=>some (l,g)
 |(s,e,ks)::r=>
  match Ve l s with
  |some (.cv .nilSlice)=>
   if ks.isEmpty then none else (Hc { l with mem:=l.mem++[.tok g.n ks e] } l.mem.length g.n ks s).bind fun ae=>G6 ae (g.pushAll [⟨ "id",oId,[.c (.list [])]⟩]) r
  |_=>none
def xA (tmps:AZ):List Nat->AZ
 |[]=>tmps
 |t::r=>xA (tmps.fix t none) r
def jL (p:Dg)(nh:Nat)(l:Loc):Option Loc:=do
 let l<-se l nh p.slots;let l<-iq l nh p.slots p.vecs
 some { l with tmps:=xA l.tmps p.kills }
mutual
def AC.lt (nh aR:Nat):AC->Bool
 | .any| .anyc| .cb _| .ci _ _| .cv _=>true
 | .on c a=>Nat.blt c nh&&AC.lt nh aR a
 | .gd c a=>Nat.blt c nh&&AC.lt nh aR a
 | .b x=>Nat.blt x nh
 | .nb x=>Nat.blt x nh
 | .i _ _ _ x=>Nat.blt x nh
 | .v x=>Nat.blt x nh
 | .s x=>Nat.blt x nh
 | .ro x _=>Nat.blt x nh
 | .ptr id _=>Nat.blt id aR
 | .pix id _ _ _ x _=>Nat.blt id aR&&Nat.blt x nh
 | .rp x t _ _=>Nat.blt x nh&&Nat.blt t nh
 | .vec id x _=>Nat.blt id aR&&Nat.blt x nh
 | .fn _ f c=>AC.ltL nh aR f&&AC.ltL nh aR c
 | .sel x l=>Nat.blt x nh&&AC.ltL nh aR l
 | .yl id=>Nat.blt id aR
 | .asl id _ _=>Nat.blt id aR
 | .rsv id x _=>Nat.blt id aR&&Nat.blt x nh
 | .mr id y=>Nat.blt id aR&&Nat.blt y nh
 | .mp id y t _ _=>Nat.blt id aR&&Nat.blt y nh&&Nat.blt t nh
 | .mv id=>Nat.blt id aR
 | .agg l=>AC.ltL nh aR l
 | .tup l=>AC.ltL nh aR l
def AC.ltL (nh aR:Nat):List AC->Bool
 |[]=>true
 |a::l=>AC.lt nh aR a&&AC.ltL nh aR l
end
def aN (nh aR:Nat):Tr->Bool
 | .nil=>true
 | .node v l r=>(match v with|some c=>AC.lt nh aR c|none=>true)&&aN nh aR l&&aN nh aR r
def U.same:U->U->Bool
 | .int a,.int b=>decide (a=b)
 | .bool a,.bool b=>a==b
 | .str a,.str b=>decide (a=b)
 | .list [],.list []=>true
 | .val .nilFunc,.val .nilFunc=>true
 | .val .nilIface,.val .nilIface=>true
 | .val (.pointer none),.val (.pointer none)=>true
 | .val (.map none),.val (.map none)=>true
 |_,_=>false
def Rf.same:Rf->Rf->Bool
 | .c u,.c v=>U.same u v
 | .e x,.e y=>Nat.beq x y
 | .n x,.n y=>Nat.beq x y
 |_,_=>false
def LL (nh:Nat)(ai:List Rf)(x:Nat)(r:Rf):Bool:=
 Nat.ble nh x&&(match ai[x - nh]? with
  |some h=>Rf.same h r
  |none=>false)
def KQ (nh:Nat)(ai:List Rf)(x:Nat):Option (Rf × List Pr)->Option (List Pr)
 |some (r,ps)=>if LL nh ai x r then some ps else none
 |none=>none
def p9 (m:Mem)(id x:Nat)(aQ:Mem)(h:Nat):Bool:=
 match aQ.at id,m.at id with
 | .tok y ky e,.tok aF ky' e'=>Nat.beq y h&&Nat.beq aF x&&Nat.beq e e'&&Nat.beq ky.length ky'.length
 |_,_=>false
def sE (nh aR:Nat)(ai:List Rf)(aQ m:Mem)(h c:AC):Option (List Pr):=
 match h with
 | .any=>some []
 | .i k am Y x=>KQ nh ai x (fit (.int k am Y) c)
 | .b x=>KQ nh ai x (fit .bool c)
 | .v x=>KQ nh ai x (fit .val c)
 | .s x=>KQ nh ai x (fit .str c)
 | .ro x ks=>KQ nh ai x (fit (.list ks) c)
 | .vec id x ks=>
  match c with
  | .vec id' L af=>if Nat.beq id id'&&Nat.blt id aR&&LL nh ai x (.e L)&&Kd.beq (Kd.join (.list af) (.list ks)) (.list ks)&&p9 m id L aQ x then some [] else none
  |_=>none
 |_=>none
def M3 (nh aR:Nat)(ai:List Rf)(aQ m:Mem)(h c:AC):Option (List Pr):=
 if AC.lt nh aR h&&AC.beq h c then some [] else sE nh aR ai aQ m h c
def QZ:Option (List Pr)->Option (List Pr)->Option (List Pr)
 |some a,some b=>some (a++b)
 |_,_=>none
def Ml (nh aR:Nat)(ai:List Rf)(aQ m:Mem):List AC->List AC->Option (List Pr)
 |[],[]=>some []
 |h::l,c::ae=>QZ (M3 nh aR ai aQ m h c) (Ml nh aR ai aQ m l ae)
 |_,_=>none
def Gi:List (Nat × CL)->Nat->Option CL
 |[],_=>none
 |(s,S)::r,x=>if Nat.beq s x then some S else Gi r x
def lpLt (lps:List (Nat × CL))(nh aR s:Nat):Bool:=
 match Gi lps s with
 |some S=>S.tmps.loc.isEmpty&&aN nh aR S.tmps.t
 |none=>false
def Dx (lps:List (Nat × CL))(nh aR:Nat)(ai:List Rf)(aQ m:Mem):Blk->Blk->Option (List Pr)
 | .pad,.pad=>some []
 | .gone,b=>(match b with| .pad=>none|_=>some [])
 | .cells l e,.cells ae e'=>if Nat.beq e e' then Ml nh aR ai aQ m l ae else none
 | .tok x ks e,.tok L af e'=>if Nat.beq e e'&&Nat.beq ks.length af.length&&((Nat.blt x nh&&Nat.beq x L&&Kd.beqs ks af)||LL nh ai x (.e L)) then some [] else none
 | .lp s st,.lp aw st'=>if Nat.beq s aw&&lpLt lps nh aR s then M3 nh aR ai aQ m st st' else none
 | .mrow x y ks e,.mrow L aF af e'=>if (Nat.beq e e'&&Nat.beq y aF&&Nat.blt y nh)&&((Nat.blt x nh&&Nat.beq x L&&Kd.beqs ks af)||(LL nh ai x (.e L)&&Kd.beqs (Kd.joins af ks) ks&&Nat.beq ks.length af.length)) then some [] else none
 | .mapb x ao ka aJ aT,.mapb L kk' ka' vk' va'=>if ((ka==ka')&&(aT==va'))&&((Nat.blt x nh&&Nat.beq x L&&Kd.beqs ao kk'&&Kd.beqs aJ vk')||(LL nh ai x (.e L)&&Kd.beqs (Kd.joins kk' ao) ao&&Nat.beq ao.length kk'.length&&Kd.beqs (Kd.joins vk' aJ) aJ&&Nat.beq aJ.length vk'.length)) then some [] else none
 |_,_=>none
def Hh (lps:List (Nat × CL))(nh aR:Nat)(ai:List Rf)(aQ m:Mem):Mem->Mem->Option (List Pr)
 |[],_=>some []
 |b::l,b'::ae=>QZ (Dx lps nh aR ai aQ m b b') (Hh lps nh aR ai aQ m l ae)
 |_,_=>none
def pl (nh aR:Nat)(ai:List Rf)(aQ m:Mem):Option AC->Option AC->Option (List Pr)
 |none,_=>some []
 |some .any,_=>some []
 |some h,some c=>M3 nh aR ai aQ m h c
 |_,_=>none
def MQ (nh aR:Nat)(ai:List Rf)(aQ m:Mem):Tr->Tr->Option (List Pr)
 | .nil,_=>some []
 | .node v l r,t=>QZ (pl nh aR ai aQ m v t.val) (QZ (MQ nh aR ai aQ m l t.lt) (MQ nh aR ai aQ m r t.rt))
def Ep (lps:List (Nat × CL))(nh:Nat)(ai:List Rf)(h l:Loc):Option (List Pr):=
 if h.tmps.loc.isEmpty&&l.tmps.loc.isEmpty&&Nat.beq h.tmps.n l.tmps.n then
  QZ (Hh lps nh h.mem.length ai h.mem l.mem h.mem l.mem) (MQ nh h.mem.length ai h.mem l.mem h.tmps.t l.tmps.t)
 else none
def Tab.upd (T:Tab)(x:Nat)(u:U):Tab:={ T with get:=fun y=>bif Nat.beq y x then u else T.get y }
def BR (T:Tab):List (Nat × Ex)->Tab
 |[]=>T
 |(x,e)::r=>let h:=BR T r;h.upd x (e.eval h)
def Tab.upds (T:Tab):Nat->List U->Tab
 |_,[]=>T
 |x,u::us=>(T.upd x u).upds (x+1) us
def OG:List Nat->List U->Tab
 |x::xs,u::us=>(OG xs us).upd x u
 |_,_=>⟨fun _=>default,fun _ _=>True,fun _=>⟨default, #[],.skip,.skip,[]⟩,0⟩
def pcB (T:Tab):PC->Bool
 |none=>true
 |some c=>(T c).toB
structure Aa where
 nh:Nat
 k:Nat
 eqs:List (Nat × Ex)
 pcn:PC
 nxt:List Rf
 obs:List Ob
 fv:List Nat
def Aa.tab (D:Aa)(us aa:List U):Tab:=BR ((OG D.fv us).upds D.nh aa) D.eqs
def Aa.step (D:Aa)(us aa:List U):Option (List U):=
 let T:=D.tab us aa
 bif pcB T D.pcn then some (D.nxt.map (Rf.eval T)) else none
def Aa.ob (D:Aa)(us aa:List U):Prop:=∀o∈D.obs,o.holds (D.tab us aa)
def Gd {aW:Type}(f:aW->Option aW):Nat->aW->Option aW
 |0,s=>some s
 |n+1,s=>(f s).bind (Gd f n)
inductive ET {α:Type} (f:α->Option α) (s:α):α->Prop where
 |zero:ET f s s
 |succ {t u:α}:ET f s t->f t=some u->ET f s u
def Ends {aW:Type}(f:aW->Option aW)(s:aW):Prop:=∃n t,Gd f n s=some t/\f t=none
open Classical in
def last {aW:Type}(f:aW->Option aW)(s:aW):aW:=if h:∃t,ET f s t/\f t=none then Classical.choose h else s
def Aa.res (D:Aa)(j:Nat)(us:List U):U:=(last (D.step (us.take D.fv.length)) (us.drop D.fv.length)).getD j default
def Aa.owes (D:Aa)(us:List U):Prop:=
 Ends (D.step (us.take D.fv.length)) (us.drop D.fv.length)/\∀aa,ET (D.step (us.take D.fv.length)) (us.drop D.fv.length) aa->D.ob (us.take D.fv.length) aa
def GJ:List Rf->List Nat
 |[]=>[]
 | .c _::r=>GJ r
 | .e x::r=>x::GJ r
 | .n x::r=>x::GJ r
def pQ (D:List Nat):List Nat->List Nat
 |[]=>D
 |x::r=>pQ (if D.contains x then D else D++[x]) r
def pcL:PC->List Nat|none=>[]|some c=>[c]
def SU (nh:Nat)(h:List (Nat × Ex))(pcn:PC)(nxt:List Rf)(i:List Ob):List Nat:=
 pQ [] ((((h.map fun p=>GJ p.2.args).flatten++pcL pcn++GJ nxt++(i.map fun o=>pcL o.pc++GJ o.p.args).flatten)).filter fun x=>Nat.blt x nh)
def G4 (fv:List Nat)(nh an:Nat)(l:List Nat):Bool:=l.all fun x=>fv.contains x||(Nat.ble nh x&&Nat.blt x an)
def CT (fv:List Nat)(nh am:Nat):Nat->List (Nat × Ex)->Bool
 |an,[]=>Nat.beq an am
 |an,(x,e)::r=>Nat.beq (x+1) an&&G4 fv nh x (GJ e.args)&&CT fv nh am x r
def Aa.inScope (D:Aa)(an:Nat):Bool:=
 CT D.fv D.nh (D.nh+D.k) an D.eqs&&G4 D.fv D.nh an (pcL D.pcn)&&G4 D.fv D.nh an (GJ D.nxt)&&D.obs.all (fun o=>G4 D.fv D.nh an (pcL o.pc++GJ o.p.args))&&D.fv.all (fun x=>Nat.blt x D.nh)
def Aa.tg (D:Aa)(j:Nat):Tg:= .loop j D.nh D.k (D.eqs.map fun p=>(p.1,p.2.tag,p.2.args)) D.pcn D.nxt D.fv (D.obs.map fun o=>(o.pc,o.p.tag,o.p.args))
def Aa.heads (D:Aa)(A:List Rf):List Ex:=(List.range D.k).map fun j=>⟨D.tg j,D.res j,D.fv.map .e++A⟩
def Dg.full (p:Dg)(aP:Nat):Dg:=
 {p with
  slots:=p.slots++p.pre.zipIdx.map fun (x:(Sl × TypeId × List Kd) × Nat)=>(Sl.tok (aP+x.2),Kd.list x.1.2.2)
  vecs:=p.vecs++p.pre.zipIdx.map fun (x:(Sl × TypeId × List Kd) × Nat)=>(x.1.1,aP+x.2,p.slots.length+x.2) }
def bU (a0:PC->Loc->G->Option (List BC × G))(p:Dg)(ad:PC)(l:Loc)(g:G):Option (List BC × G):=do
 let h<-jL p g.n l;let (A,_) <-fits l p.slots;let i<-Ep g.lps g.n A h l;let (L,au) <-a0 ad h { n:=g.n+A.length,eqs:=[],obs:=[],lps:=g.lps }
 match H6 .normal L with
 |none=>none
 |some (o,rest)=>do
  let (nxt,_) <-fits o.l p.slots;let aZ<-Ep g.lps g.n nxt h o.l;let obs:=aZ.map (Ob.mk o.pc)++au.obs;let D:Aa:={ nh:=g.n,k:=A.length,eqs:=au.eqs,pcn:=o.pc,nxt,obs,fv:=SU g.n au.eqs o.pc nxt obs }
  if D.inScope au.n&&Nat.beq nxt.length A.length&&Nat.beq h.mem.length l.mem.length&&noK .normal rest then
   some (rest,{ n:=au.n,eqs:=au.eqs++Jh g.n (D.heads A) g.eqs,obs:=⟨ad,⟨D.tg 0,D.owes,D.fv.map .e++A⟩⟩::(i.map (Ob.mk ad)++g.obs),lps:=au.lps })
  else none
def ko (a0:PC->Loc->G->Option (List BC × G))(p:Dg)(ad:PC)(l:Loc)(g:G):Option (List BC × G):=do
 if l.tmps.loc.isEmpty=false then none else
 let (ae,aq) <-G6 l g p.pre
 bU a0 (p.full l.mem.length) ad ae aq
def zD (a b:AC):Option Kd:=
 match FY a,FY b with
 |some (k,_),some (k',_)=>match Kd.join k k' with
  | .int k _ _=>some (.int k k.min k.max)
  | .any=>none
  |k=>some k
 |_,_=>none
def bh (f:Nat->Nat):Tr->Tr->List (Nat × AC × Option AC)
 | .nil,_=>[]
 | .node v l r,t=>
  (match v with
   |none|some .any=>[]
   |some a=>match t.val with
    |some b=>if AC.beq a b then [] else [(f 0,a,some b)]
    |none=>[(f 0,a,none)])++(bh (fun j=>f (2*j+1)) l t.lt++bh (fun j=>f (2*j+2)) r t.rt)
def Xy (id:Nat):Nat->List AC->List AC->List (Sl × AC × AC)
 |o,a::l,b::ae=>(if AC.beq a b then [] else [(Sl.cell id o,a,b)])++Xy id (o+1) l ae
 |_,_,_=>[]
def j4:Nat->Mem->Mem->List (Sl × AC × AC)
 |id,b::m,b'::ag=>(match b,b' with
   | .cells l _,.cells ae _=>Xy id 0 l ae
   | .tok x ks _,.tok L af _=>if Nat.beq x L then [] else [(Sl.tok id,.ro x ks,.ro L af)]
   | .lp _ a,.lp _ a'=>if AC.beq a a' then [] else [(Sl.st id,a,a')]
   | .mrow x _ ks _,.mrow L _ af _=>if Nat.beq x L then [] else [(Sl.row id,.ro x ks,.ro L af)]
   | .mapb x ao _ aJ _,.mapb L kk' _ vk' _=>if Nat.beq x L then [] else [(Sl.row id,.ro x (ao++aJ),.ro L (kk'++vk'))]
   |_,_=>[])++j4 (id+1) m ag
 |_,_,_=>[]
def qO (aR:Nat):AC->AC->Option Nat
 | .vec id _ _,.vec id' _ _=>if Nat.beq id id'&&Nat.blt id aR then some id else none
 |_,_=>none
def AAC (m:Mem)(id:Nat):Option TypeId:=match m.at id with| .tok _ _ e=>some e|_=>none
mutual
def Kd.wide:Kd->Kd
 | .int k _ _=> .int k k.min k.max
 | .list ks=> .list (Kd.wides ks)
 |k=>k
def Kd.wides:List Kd->List Kd
 |[]=>[]
 |k::ks=>Kd.wide k::Kd.wides ks
end
def AAw (aR:Nat)(ag:Mem)(p:Dg)(s:Sl)(a b:AC):Dg:=
 if p.slots.any (fun x=>decide (x.1=s))||p.pre.any (fun x=>decide (x.1=s)) then p else
 match qO aR a b with
 |some _=>p
 |none=>match a,b with
  | .cv .nilSlice,.vec id _ ks=>if Nat.blt id aR then p else match AAC ag id with
   |some e=>{ p with pre:=p.pre++[(s,e,Kd.wides ks)] }
   |none=>p
  |a,b=>match zD a b,s with
   |some _,.st id=>{ p with slots:=p.slots++[(.st id,.int .i64 0 65536)] }
   |some k,.row id=>{ p with slots:=p.slots++[(.row id,Kd.wide k)] }
   |some k,_=>{ p with slots:=p.slots++[(s,k)] }
   |none,.tmp t=>{ p with kills:=p.kills++[t] }
   |none,_=>p
def sV (aR:Nat)(ag:Mem):List (Sl × AC × AC)->Dg->Dg
 |[],p=>p
 |(s,a,b)::r,p=>sV aR ag r (AAw aR ag p s a b)
def AAH (p:Dg)(id:Nat):Nat:=p.slots.findIdx fun x=>decide (x.1=Sl.tok id)
def ja (aR:Nat):List (Sl × AC × AC)->Dg->Dg
 |[],p=>p
 |(s,a,b)::r,p=>ja aR r (match qO aR a b with
  |some id=>if p.vecs.any (fun x=>decide (x.1=s)) then p else { p with vecs:=p.vecs++[(s,id,AAH p id)] }
  |none=>p)
def ti (d:List (Nat × AC × Option AC)):List (Sl × AC × AC):=d.filterMap fun x=>x.2.2.map fun b=>(Sl.tmp x.1,x.2.1,b)
def xL (d:List (Nat × AC × Option AC)):List Nat:=d.filterMap fun x=>match x.2.2 with|none=>some x.1|some _=>none
def UZ (p:Dg):Nat:=p.pre.length+p.slots.length+p.vecs.length+p.kills.length
def qr (a0:PC->Loc->G->Option (List BC × G))(ad:PC)(l:Loc)(g:G):Nat->Dg->Dg
 |0,p=>p
 |n+1,p=>
  match G6 l g p.pre with
  |none=>p
  |some (ae,aq)=>
   let q:=p.full l.mem.length
   match jL q aq.n ae with
   |none=>p
   |some z=>match a0 ad z { n:=aq.n+q.slots.length,eqs:=[],obs:=[],lps:=aq.lps } with
    |none=>p
    |some (L,_)=>match H6 .normal L with
     |none=>p
     |some (o,_)=>
      let d:=bh (fun j=>j) z.tmps.t o.l.tmps.t;let i:=ti d++j4 0 l.mem o.l.mem;let h:=sV l.mem.length o.l.mem i p;let h:=ja l.mem.length i h;let h:={ h with kills:=h.kills++(xL d).filter fun t=> !h.kills.contains t }
      if Nat.beq (UZ h) (UZ p) then p else qr a0 ad l g n h
def pk (a0:PC->Loc->G->Option (List BC × G))(p:Dg)(ad:PC)(l:Loc)(g:G):Option (List BC × G):=ko a0 (if Nat.beq (UZ p) 0 then qr a0 ad l g 6 p else p) ad l g
mutual
def HQ:Code->List eQ
 | .seq a b=>HQ a++HQ b
 | .cond _ a b=>HQ a++HQ b
 | .block id c=>(HQ c).filter fun j=>match j with| .exit i=> !Nat.beq i id| .ret=>true
 | .loop c=>HQ c
 | .scope c=>HQ c
 | .exit id=>[.exit id]
 | .ret=>[.ret]
 | .rangeFunc _ _ a b=>HQ a++HQ b
 |_=>[]
end
def Cv (h:BC->G->Option (AC × Mem)):List BC->G->Option (AC × Mem × G)
 |[],_=>none
 |[o],g=>do
  let (c,m) <-h o g
  some (c,m,g)
 |o::os,g=>do
  let (c',ag,g) <-Cv h os g;let (c,aP) <-h o g;let (m,us):=Bf (FO o.pc) g.n aP ag;let (c,i):=Gk (g.n+us.length) (FO o.pc) c c'
  some (c,m,g.pushAll (us++i))
structure Ct where
 keep:Nat
 plan:Nat->Option Dg
 nar:Nat->Option (Tmp × Int × Int)
 mu:Tmp->Nat:=fun _=>0
 frz:Nat->Bool:=fun _=>false
def CM (h:Option (Tmp × Int × Int))(ad:PC)(t:AZ)(g:G):AZ × G:=
 match h with
 |none=>(t,g)
 |some (i,am,Y)=>
  match t.get i with
  |some (.i k _ _ x)=>(t.set i (.i k am Y x),g.needAll ad [⟨ "between " ++toString am++ " " ++toString Y,Dy am Y,[.e x]⟩])
  |_=>(t,g)
mutual
def Mk (m:Mem):AC->AC
 | .mr id y=>match m.at id with
  | .mrow x aF ks _=>if Nat.beq y aF then .ro x ks else .mr id y
  |_=> .mr id y
 | .on c a=> .on c (Mk m a)
 | .gd c a=> .gd c (Mk m a)
 | .fn f a b=> .fn f (Se m a) (Se m b)
 | .agg l=> .agg (Se m l)
 | .tup l=> .tup (Se m l)
 |a=>a
def Se (m:Mem):List AC->List AC
 |[]=>[]
 |a::l=>Mk m a::Se m l
end
def frzB (m:Mem):Blk->Blk
 | .cells l e=> .cells (Se m l) e
 | .mrow _ _ _ _=> .gone
 |b=>b
def R3 (m:Mem):Mem:=m.map (frzB m)
def Vs (m:Mem):Tr->Tr
 | .nil=> .nil
 | .node v l r=> .node (v.map (Mk m)) (Vs m l) (Vs m r)
def mq (m:Mem)(s:AZ):AZ:={ s with loc:=s.loc.map fun p=>(p.1,Mk m p.2),t:=Vs m s.t }
def L6 (b:Bool)(l:Loc):Loc:=if b then ⟨mq l.mem l.tmps,R3 l.mem⟩ else l
def Ys.add (ap:Ys)(h:Nat)(y:YF):Ys:={ ap with get:=fun s=>if Nat.beq s h then some y else ap s }
def xB (a0:PC->Loc->G->Option (List BC × G))(ad:PC)(l:Loc)(g:G):Option (List BC × G):=
 match a0 ad l g with
 |some (L,aq)=>if noK .normal L then some (L,aq) else none
 |none=>none
def Bm (P:Program)(call:A7)(aR:Ct)(h:Bool)(ap:Ys):Nat->Nat->Code->PC->Loc->G->Option (List BC × G)
 |0,_,_,_,_,_=>none
 |aM+1,blk,c,ad,l,g=>
  match c with
  | .skip| .label _=>some ([⟨.normal,ad,l⟩],g)
  | .region id Z draw=>do
   let s<-jr P call ap Z draw ad l g
   some ([⟨.normal,ad,L6 (aR.frz id) ⟨(CM (aR.nar id) ad s.tmps s.g).1.commit aR.keep,s.mem⟩⟩],(CM (aR.nar id) ad s.tmps s.g).2)
  | .seq a b=>do
   let (L,g) <-Bm P call aR h ap aM blk a ad l g
   VT L g (Bm P call aR h ap aM blk b)
  | .cond c a b=>
   match DC [] l.tmps c with
   | .cb t=>Bm P call aR h ap aM blk (if t then a else b) ad l g
   | .b x=>V6 (Bm P call aR h ap aM blk) x a b ad l g
   | .nb x=>V6 (Bm P call aR h ap aM blk) x b a ad l g
   |_=>none
  | .block id c=>do
    let (L,g) <-Bm P call aR h ap aM id c ad l g
    match H6 (.exit id) L with
    |none=>some (L,g)
    |some (e,rest)=>
     if noK (.exit id) rest then
      some (E0 none none [⟨.normal,e.pc,e.l⟩] rest g)
     else none
  | .loop c=>
   match aR.plan blk with
   |some p=>match xB (Bm P call aR h ap aM blk c) ad l g with
    |some r=>some r
    |none=>pk (Bm P call aR h ap aM blk c) p ad l g
   |none=>do
    let (L,g) <-Bm P call aR h ap aM blk c ad l g
    VT L g (Bm P call aR h ap aM blk (.loop c))
  | .scope c=>Bm P call aR h ap aM blk c ad l g
  | .exit id=>some ([⟨.exit id,ad,l⟩],g)
  | .ret=>some ([⟨.ret,ad,l⟩],g)
  |_=>none
def MR (P:Program)(l:Loc)(g:G):ResultVar->Option (AC × List Ex)
 | .tmp t=>some ((l.tmps.get t).getD .any,[])
 | .cell a t=>(GK P t ((l.tmps.get a).getD .any) l.mem g).bind fun r=>match r.ps,r.us with
  |[],[]=>some (r.c,[])
  |_,_=>none
def Uh (P:Program)(aC:Func)(l:Loc)(g:G):Option AC:=do
 let rs<-aC.results.toList.mapM (MR P l g)
 match rs with
 |[(c,_)]=>some c
 |rs=>some (.tup (rs.map (·.1)))
def Lc (P:Program)(aC:Func)(o:BC)(g:G):Option (AC × Mem):=
 if o.k= .ret\/o.k= .normal then (Uh P aC o.l g).map fun c=>(c,o.l.mem) else none
def OJ:Nat->List AC->Tr->Tr
 |_,[],t=>t
 |i,c::r,t=>OJ (i+1) r (Tr.setF 16 t i (some c))
def Ht (n:Nat)(args:List AC):AZ:=⟨n,[],OJ 0 args .nil⟩
def ov (P:Program)(call:A7)(Ab:FuncId->Ct)(aM:Nat):A7:=fun ap f args ad m g=>do
 let aC<-P.funcs[f]?;let c<-aC.body
 if aC.name== "runtime.NumGoroutine" ||Nat.blt aC.ntmps args.length then none else
 let (L,g) <-Bm P call (Ab f) false { ap with mu:=(Ab f).mu } aM 0 c ad ⟨Ht aC.ntmps args,m⟩ g
 Cv (Lc P aC) L g
def Ew (P:Program)(bd:FuncId->Option A7)(Ab:FuncId->Ct)(aM:Nat):Nat->A7
 |0=>fun _ _ _ _ _ _=>none
 |d+1=>fun ap f=>match bd f with
  |some c=>c ap f
  |none=>ov P (Ew P bd Ab aM d) Ab aM ap f
structure Ac (g g':G):Prop where
 n:g.n<=g'.n
 eqs:∀p∈g.eqs,p∈g'.eqs
 obs:∀o∈g.obs,o∈g'.obs
 lps:∀p∈g.lps,p∈g'.lps
theorem Ac.refl (g:G):Ac g g:=⟨ABB _,fun _ h=>h,fun _ h=>h,fun _ h=>h⟩
theorem Ac.trans {a b c:G}(h:Ac a b)(k:Ac b c):Ac a c:=
 ⟨ABS h.n k.n,fun x i=>k.eqs x (h.eqs x i),fun x i=>k.obs x (h.obs x i),fun x i=>k.lps x (h.lps x i)⟩
variable{T:Tab}{g aq:G}{ad:PC}{ps:List Pr}{x:Nat}{aU:Bool}{e:AC}
theorem Agr.of (h:Agr T aq)(k:Ac g aq):Agr T g:=⟨fun p i=>h.eqs p (k.eqs p i),fun p i=>h.lps p (k.lps p i)⟩
theorem Ar.of (h:Ar T aq)(k:Ac g aq):Ar T g:=fun o i=>h o (k.obs o i)
theorem Bb (g:G)(us:List Ex):(g.pushAll us).n=g.n+us.length:=by cases us<;>simp[G.pushAll]
theorem gA (g:G)(us:List Ex):(g.pushAll us).obs=g.obs:=by cases us<;>rfl
theorem iH (g:G)(us:List Ex):(g.pushAll us).lps=g.lps:=by cases us<;>rfl
theorem Ac.push (g:G)(us:List Ex):Ac g (g.pushAll us):=by
 refine⟨by rw[Bb];omega,fun p h=>?_,fun o i=>by rw[gA];exact i,fun p h=>by rw[iH];exact h⟩;cases us with
 |nil=>exact h
 |cons u us=>exact (JT _ _ _ _).2 (.inl h)
theorem Agr.new {us:List Ex}(h:Agr T (g.pushAll us)):New T g.n us:=fun j u i=>by
 cases us with
 |nil=>simp at i
 |cons v us=>exact h.eqs (g.n+j,u) ((JT _ _ _ _).2 (.inr ⟨j,u,i,rfl⟩))
theorem DG (ps:List Pr)(g:G)(ad:PC):(g.needAll ad ps).n=g.n/\(g.needAll ad ps).eqs=g.eqs/\(g.needAll ad ps).lps=g.lps/\((g.needAll ad ps).obs=ps.map (Ob.mk ad)++g.obs):=by
 cases ps<;>exact⟨rfl,rfl,rfl,rfl⟩
theorem Ac.need (g:G)(ad:PC)(ps:List Pr):Ac g (g.needAll ad ps):=by
 obtain⟨C,O,i,j⟩:=DG ps g ad;exact⟨by omega,fun p h=>by rw[O];exact h,fun o q=>by rw[j];exact ABL _ q,fun p h=>by rw[i];exact h⟩
theorem Agr.need (h:Agr T (g.needAll ad ps)):Agr T g:=h.of (Ac.need g ad ps)
theorem Ar.need (h:Ar T (g.needAll ad ps))(j:pcv T ad):∀p∈ps,p.holds T:=fun p q=>by
 obtain⟨_,_,_,i⟩:=DG ps g ad;exact h ⟨ad,p⟩ (by rw[i];exact ABR _ (ACI.2 ⟨p,q,rfl⟩)) j
def BN (T:Tab)(g:G):PC->Prop
 |none=>True
 |some c=>c < g.n/\∃b,T c= .bool b
theorem BN.grow (h:BN T g ad)(k:Ac g aq):BN T aq ad:=by
 cases ad with
 |none=>trivial
 |some c=>exact⟨ABE h.1 k.n,h.2⟩
theorem W0 {h:Bool}(q:BN T g ad)(j:T x= .bool h):∃b,(C5 ad x aU).eval T= .bool b/\(b=true↔pcv T ad/\h=aU):=by
 cases ad with
 |none=>
  refine⟨if aU then h else !h,?_,?_⟩
  .cases aU<;>simp[C5,Ex.eval,oId,XE,u0,eve,j,U.toB]
  .cases aU<;>cases h<;>simp[pcv]
 |some c=>
  obtain⟨_,i,p⟩:=q;refine⟨i&&(if aU then h else !h),?_,?_⟩
  .cases aU<;>simp[C5,Ex.eval,SM,u0,u1,eve,evn,j,p,U.toB]
  .cases aU<;>cases h<;>cases i<;>simp[pcv,p]
theorem V2 (p:BN T g ad)(i:¬pcv T ad):∃b,(C5 ad x aU).eval T= .bool b/\b=false:=by
 cases ad with
 |none=>exact absurd trivial i
 |some c=>
  obtain⟨_,j,h⟩:=p;cases j with
  |true=>exact absurd h i
  |false=>exact⟨false,by simp[C5,Ex.eval,SM,u0,eve,h,U.toB],rfl⟩
theorem I4 (i j:Nat)(c:AC)(r:List (Nat × AC)):BH ((i,c)::r) j=if i=j then some c else BH r j:=by
 simp only[BH];by_cases h:i=j
 .subst h;simp
 .have:Nat.beq i j=false:=by
   cases p:Nat.beq i j with
   |false=>rfl
   |true=>exact absurd (AA9 p) h
  simp[this,h]
theorem AZ.get_set (s:AZ)(d i:Nat)(c:AC)(h:(s.set d c).get i=some e):(i=d/\d < s.n/\e=c)\/((d=i->¬d < s.n)/\s.get i=some e):=by
 unfold AZ.set at h;cases hd:Nat.blt d s.n with
 |false=>
  rw[hd] at h;refine .inr ⟨fun _ j=>?_,h⟩;rw[<-Nat.blt_eq] at j;rw[j] at hd;cases hd
 |true=>
  rw[hd] at h;have j:d < s.n:=by rwa [Nat.blt_eq] at hd
  simp only[cond_true,AZ.get,I4] at h;by_cases e':d=i
  .subst e';simp at h;exact .inl ⟨rfl,j,h.symm⟩
  .rw[ACD e'] at h;exact .inr ⟨fun p=>absurd p e',h⟩
theorem AZ.set_n (s:AZ)(d:Nat)(c:AC):(s.set d c).n=s.n:=by
 unfold AZ.set;grind
theorem Dw (i j:Nat):Nat.beq i j=true↔i=j:=⟨AA9,fun h=>by subst h;simp⟩
theorem Tr.get_step (t:Tr)(i:Nat):t.get i=if i=0 then t.val else if i % 2=1 then t.lt.get (i / 2) else t.rt.get (i / 2 - 1):=by
 cases t with
 |nil=>simp[Tr.get,Tr.val,Tr.lt,Tr.rt]
 |node v l r=>
  simp only[Tr.get,Tr.val,Tr.lt,Tr.rt];by_cases j:i=0
  .subst j;simp
  .have q:Nat.beq i 0=false:=by
    cases p:Nat.beq i 0 with
    |false=>rfl
    |true=>exact absurd ((Dw _ _).1 p) j
   rw[q,ACD j];by_cases C:i % 2=1
   .have h:Nat.beq (i % 2) 1=true:=(Dw _ _).2 C;rw[h,ACE C];rfl
   .have h:Nat.beq (i % 2) 1=false:=by
     cases p:Nat.beq (i % 2) 1 with
     |false=>rfl
     |true=>exact absurd ((Dw _ _).1 p) C
    rw[h,ACD C];rfl
theorem Tr.get_setF:∀(f:Nat) (t:Tr) (d i:Nat) (c:Option AC) (e:AC),(Tr.setF f t d c).get i=some e->(i=d/\c=some e)\/(i≠d/\t.get i=some e)
 |0,t,d,i,c,e,h=>by simp[Tr.setF,Tr.get] at h
 |f+1,t,d,i,c,e,h=>by
  rw[Tr.get_step t i];simp only[Tr.setF] at h;by_cases q:d=0
  .subst q;rw[show Nat.beq 0 0=true from rfl] at h;simp only[cond_true] at h;rw[Tr.get_step] at h;by_cases Y:i=0
   .subst Y;exact .inl ⟨rfl,by simpa [Tr.val] using h⟩
   .rw[ACD Y] at h⊢;exact .inr ⟨Y,h⟩
  .have E:Nat.beq d 0=false:=by
    cases A:Nat.beq d 0 with
    |false=>rfl
    |true=>exact absurd ((Dw _ _).1 A) q
   rw[E] at h;by_cases C:d % 2=1
   .have z:Nat.beq (d % 2) 1=true:=(Dw _ _).2 C;rw[z] at h;simp only[cond_true,cond_false] at h;rw[Tr.get_step] at h;by_cases Y:i=0
    .subst Y;exact .inr ⟨fun h=>q h.symm,by rw[ACE rfl] at h⊢;exact h⟩
    .rw[ACD Y] at h⊢;by_cases p:i % 2=1
     .rw[ACE p] at h⊢;rcases Tr.get_setF f _ _ _ _ _ h with⟨O,j⟩|⟨O,j⟩
      .exact .inl ⟨by omega,j⟩
      .exact .inr ⟨fun D=>O (by omega),j⟩
     .rw[ACD p] at h⊢;exact .inr ⟨fun D=>p (by omega),h⟩
   .have z:Nat.beq (d % 2) 1=false:=by
     cases A:Nat.beq (d % 2) 1 with
     |false=>rfl
     |true=>exact absurd ((Dw _ _).1 A) C
    rw[z] at h;simp only[cond_false] at h;rw[Tr.get_step] at h;by_cases Y:i=0
    .subst Y;exact .inr ⟨fun h=>q h.symm,by rw[ACE rfl] at h⊢;exact h⟩
    .rw[ACD Y] at h⊢;by_cases p:i % 2=1
     .rw[ACE p] at h⊢;exact .inr ⟨fun D=>C (by omega),h⟩
     .rw[ACD p] at h⊢;rcases Tr.get_setF f _ _ _ _ _ h with⟨O,j⟩|⟨O,j⟩
      .exact .inl ⟨by omega,j⟩
      .exact .inr ⟨fun D=>O (by omega),j⟩
theorem UA (keep:Nat):∀(l:List (Nat × AC)) (t:Tr) (i:Nat) (e:AC),(PU keep l t).get i=some e->BH l i=some e\/(BH l i=none/\t.get i=some e)
 |[],t,i,e,h=> .inr ⟨rfl,h⟩
 |(j,c)::r,t,i,e,h=>by
  rw[I4];simp only[PU] at h;have p:=UA keep r t i e;split at h
  .rcases Tr.get_setF _ _ _ _ _ _ h with⟨C,O⟩|⟨C,O⟩
   .rw[ACE C.symm];exact .inl O
   .rw[ACD (fun e=>C e.symm)];exact p O
  .split at h
   .rename_i z;by_cases q:j=i
    .subst q;rw[z] at h;cases h
    .rw[ACD q];exact p h
   .rcases Tr.get_setF _ _ _ _ _ _ h with⟨C,O⟩|⟨C,O⟩
    .cases O
    .rw[ACD (fun e=>C e.symm)];exact p O
theorem AZ.get_commit (s:AZ)(keep i:Nat)(h:(s.commit keep).get i=some e):s.get i=some e:=by
 have j:(PU keep s.loc s.t).get i=some e:=h;rcases UA _ _ _ _ _ j with C|⟨C,O⟩
 .simp[AZ.get,C]
 .simp[AZ.get,C,O]
theorem AZ.get_fix (s:AZ)(p:s.loc=[])(d i:Nat)(c:Option AC)(h:(s.fix d c).get i=some e):(i=d/\d < s.n/\c=some e)\/((d=i->¬d < s.n)/\s.get i=some e):=by
 unfold AZ.fix at h;cases hd:Nat.blt d s.n with
 |false=>
  rw[hd] at h;refine .inr ⟨fun _ j=>?_,h⟩;rw[<-Nat.blt_eq] at j;rw[j] at hd;cases hd
 |true=>
  rw[hd] at h;have j:d < s.n:=by rwa [Nat.blt_eq] at hd
  simp only[cond_true,AZ.get,p,BH] at h⊢;rcases Tr.get_setF _ _ _ _ _ _ h with⟨C,O⟩|⟨C,O⟩
  .exact .inl ⟨C,j,O⟩
  .exact .inr ⟨fun e=>absurd e.symm C,O⟩
theorem AZ.fix_n (s:AZ)(d:Nat)(c:Option AC):(s.fix d c).n=s.n:=by
 unfold AZ.fix;grind
theorem AZ.fix_loc (s:AZ)(d:Nat)(c:Option AC):(s.fix d c).loc=s.loc:=by
 unfold AZ.fix;grind
theorem AZ.commit_n (s:AZ)(keep:Nat):(s.commit keep).n=s.n:=rfl
section
variable {P:Program}{T:Tab}{n aj:Nat}{V ac:Nat->Option Nat}{m ag:Mem}{w ab:World}{a:Act}
def D7 (B:Nat)(V :Nat->Option Nat)(m:Mem)(w:World)(i:List Deferred):Prop:=
 B<=w.heap.size/\∃h:List Nat,i=h.map (fun D=>{ target:= .collected D,args:= #[] })/\h.Nodup/\∀D∈h,B<=D/\w.heap[D]? =some (.deferred (some []))/\∀id,(m.at id).tracked=true-> V id≠some D
theorem D7.nil {B:Nat}(V :Nat->Option Nat)(m:Mem)(w:World)(i:B<=w.heap.size):D7 B V m w []:=⟨i,[],rfl,List.nodup_nil,fun D h=>by simp at h⟩
theorem D7.on {B:Nat}{i:List Deferred}(h:D7 B V m w i)(aa:AI T n V m w ac ag ab):D7 B ac ag ab i:=by
 obtain⟨z,p,C,O,A⟩:=h;refine⟨ABS z aa.size,p,C,O,fun D F=>?_⟩;obtain⟨k0,j,E⟩:=A D F;have N:=(ABF.1 j).1;refine⟨k0,by rw[aa.old D N E];exact j,fun id W M=>?_⟩;rcases aa.back W M with q|⟨q1,q2⟩
 .omega
 .exact E id q1 q2
structure Rel (T:Tab) (n:Nat) (ρ :Nat->Option Nat) (l:Loc) (a:Act) (w:World):Prop where
 defers:D7 T.base ρ l.mem w a.defers
 size:a.tmps.size=l.tmps.n
 tmps:∀i c,l.tmps.get i=some c->AA T n ρ l.mem w c (a.tmps.getD i undef)
 mem:AH T n ρ l.mem w
variable{l:Loc}{tmps:AZ}{c:AC}{v:Value}{aV:List Nat}{Z:Array Oper}
theorem Rel.at (h:Rel T n V l a w)(t:Nat):AA T n V l.mem w ((l.tmps.get t).getD .any) (a.tmps.getD t undef):=by
 cases i:l.tmps.get t with
 |none=>exact trivial
 |some c=>exact h.tmps t c i
theorem Rel.on (h:Rel T n V ⟨tmps,m⟩ a w)(aa:AI T n V m w ac ag ab)(q:n<=aj)(p:AH T aj ac ag ab):Rel T aj ac ⟨tmps,ag⟩ a ab:=
 ⟨h.defers.on aa,h.size,fun i c j=>AA.mono aa h.mem q c _ (h.tmps i c j),p⟩
theorem Rel.put (h:Rel T n V ⟨tmps,m⟩ a w)(a3:Option Tmp)(p:AA T n V m w c v):
  Rel T n V ⟨C8 tmps a3 c,m⟩ (a.put a3 v) w:=by
 cases a3 with
 |none=>exact h
 |some d=>
  have z:a.tmps.size=tmps.n:=h.size;refine⟨h.defers,by simp[Act.put,C8,AZ.set_n,z],fun i e q=>?_,h.mem⟩;rcases AZ.get_set _ _ _ _ q with⟨C,O,j⟩|⟨C,O⟩
  .subst C;subst j;simp only[Act.put,ABG,ABz,if_true];rw[ACE (by omega)];exact p
  .have:=h.tmps i e O;simp only[Act.put,ABG,ABz] at this⊢;by_cases hd:d=i
   .have:=C hd;subst hd;rw[ACE rfl,ACD (by omega)];have j:=h.tmps d e O;rw[ABG,Array.getElem?_eq_none (by omega)] at j;exact j
   .rw[ACD hd];exact this
theorem Rel.less {s:AZ}(h:Rel T n V l a w)(p:s.n=l.tmps.n)(aa:∀i c,s.get i=some c->l.tmps.get i=some c):Rel T n V ⟨s,l.mem⟩ a w:=
 ⟨h.defers,by rw[h.size];exact p.symm,fun i c j=>h.tmps i c (aa i c j),h.mem⟩
theorem Xo (j:∀c∈aV,T c= .bool true)(h:AA T n V m w c v):AA T n V m w (XA aV c) v:=by
 cases c<;>try exact h
 case on c d=>
  simp only[XA];split
  .rename_i i;exact h.2 (j c (by simpa using i))
  .exact h
 case gd c d=>
  simp only[XA];split
  .rename_i i;exact h.2.1 (j c (by simpa using i))
  .exact h
theorem HO (h:Rel T n V ⟨tmps,m⟩ a w)(i:∀c∈aV,T c= .bool true)(x:Operand):AA T n V m w (DC aV tmps x) (a.eval x):=by
 cases x with
 |tmp t=>exact Xo i (h.at t)
 |const v=>exact MM v
 |global g=>exact trivial
 |func f=>exact⟨[],[],rfl,rfl,rfl⟩
structure Ga (T:Tab) (ops:Array Oper) (n:Nat) (a:Act) (e:GE):Prop where
 lt:e.p < n
 bool:∃b,T e.p= .bool b
 iff:T e.p= .bool true↔yielded ops a.tmps e.j=some e.want
 imp:T e.p= .bool true->∀c∈e.imp,T c= .bool true
 ne:e.imp≠[]
structure CG (T:Tab) (ρ :Nat->Option Nat) (ops:Array Oper) (s:RS) (a:Act) (w:World):Prop where
 rel:Rel T s.g.n ρ ⟨s.tmps,s.mem⟩ a w
 ges:∀e∈s.gl,Ga T ops s.g.n a e
theorem Ga.up {e:GE}(h:Ga T Z n a e)(i:n<=aj):Ga T Z aj a e:=⟨ABE h.lt i,h.bool,h.iff,h.imp,h.ne⟩
theorem gO {q:PC}{base:List Nat}{s aw:RS}{j:Nat}{aU:Bool}{run:Option (PC × List Nat)}(h:Ec q base s j aU c=some (run,aw))(hA:Agr T aw.g)(M:BN T s.g q)
  (Y:CG T V Z s a w) (W:yielded Z a.tmps j=(match v with| .bool b=>some b|_=>none)) (N:pcv T q->AA T s.g.n V s.mem w c v) (bo:¬pcv T q->v=undef) (bl:pcv T q->∀c∈base,T c= .bool true):
  aw.tmps=s.tmps/\aw.mem=s.mem/\Ac s.g aw.g/\CG T V Z aw a w/\(run=none->yielded Z a.tmps j≠some aU)/\
   (∀i aV,run=some (i,aV)->(yielded Z a.tmps j=some aU↔pcv T i)/\(pcv T i->∀c∈aV,T c= .bool true)/\BN T aw.g i/\((aV=[]/\i=q/\base=[])\/aV≠[]/\((∃p,i=some p)\/(i=q/\aV=base)))):=by
 have bs:v=undef->yielded Z a.tmps j=none:=fun e=>by rw[W,e];rfl
 have a0:∀(x:Nat) (pol:Bool),(pcv T q->x < s.g.n/\∃D,T x= .bool D/\v= .bool (if pol then D else !D))->
   (some (some (some s.g.n,s.g.n::base),{ s with g:=s.g.pushAll [C5 q x (if pol then aU else !aU)],gl:=⟨j,aU,s.g.n,s.g.n::base⟩::s.gl }):Option (Option (PC × List Nat) × RS))=some (run,aw)->
   aw.tmps=s.tmps/\aw.mem=s.mem/\Ac s.g aw.g/\CG T V Z aw a w/\(run=none->yielded Z a.tmps j≠some aU)/\
   (∀i aV,run=some (i,aV)->(yielded Z a.tmps j=some aU↔pcv T i)/\(pcv T i->∀c∈aV,T c= .bool true)/\BN T aw.g i/\((aV=[]/\i=q/\base=[])\/aV≠[]/\((∃p,i=some p)\/(i=q/\aV=base)))):=by
  intro x pol hx z;cases z;have bk:Agr T (s.g.pushAll [C5 q x (if pol then aU else !aU)]):=hA;have a9:T s.g.n=(C5 q x (if pol then aU else !aU)).eval T:=bk.new.head;have a1:∃b,T s.g.n= .bool b:=by
   rw[a9];by_cases A:pcv T q
   .obtain⟨C,D,O,E⟩:=hx A;obtain⟨b,e,_⟩:=W0 (aU:=if pol then aU else !aU) M O;exact⟨b,e⟩
   .obtain⟨b,e,_⟩:=V2 (x:=x) (aU:=if pol then aU else !aU) M A;exact⟨b,e⟩
  have bc:T s.g.n= .bool true↔yielded Z a.tmps j=some aU:=by
   rw[a9];by_cases A:pcv T q
   .obtain⟨C,D,O,E⟩:=hx A;rw[W,E];obtain⟨b,e,this⟩:=W0 (aU:=if pol then aU else !aU) M O;rw[e];constructor
    .intro z;have:=(this.1 (by injection z)).2;cases pol<;>simp at this⊢ <;>simp[this]
    .intro z;have F:D=(if pol then aU else !aU):=by cases pol<;>simp at z⊢ <;>simp[<-z]
     rw[this.2 ⟨A,F⟩]
   .rw[bs (bo A)];obtain⟨b,e,F⟩:=V2 (x:=x) (aU:=if pol then aU else !aU) M A;grind
  have a4:T s.g.n= .bool true->∀c∈s.g.n::base,T c= .bool true:=by
   grind
  have bm:Ga T Z (s.g.pushAll [C5 q x (if pol then aU else !aU)]).n a ⟨j,aU,s.g.n,s.g.n::base⟩:=⟨by rw[Bb];simp,a1,bc,a4,fun h=>by cases h⟩;refine⟨rfl,rfl,(show Ac s.g (s.g.pushAll [C5 q x (if pol then aU else !aU)]) from Ac.push _ _),⟨?_,fun e z=>?_⟩,(fun h=>by cases h),fun i aV z=>?_⟩
  .exact Y.rel.on (AI.refl _ _ _ _ _) (by rw[Bb];omega) (Y.rel.mem.mono (by rw[Bb];omega))
  .cases z with
   |head=>exact bm
   |tail _ z=>exact (Y.ges e z).up (by rw[Bb];omega)
  .cases z;exact⟨bc.symm,a4,⟨by rw[Bb];simp,a1⟩,.inr ⟨(fun h=>by cases h),.inl ⟨_,rfl⟩⟩⟩
 cases c<;>simp only[Ec] at h<;>try (cases h;done)
 case cb b=>
  split at h
  .rename_i F;cases h;refine⟨rfl,rfl,Ac.refl _,Y,(fun h=>by cases h),fun i aV z=>?_⟩;cases z;refine⟨?_,bl,M,?_⟩
   case refine_2=>
    grind
   constructor
   .grind
   .intro A;have:=N A;rw[W,show v=_ from this,F]
  .rename_i F;cases h;refine⟨rfl,rfl,Ac.refl _,Y,fun _ al=>?_,fun i aV z=>by cases z⟩;by_cases A:pcv T q
   .have:=N A;rw[W,show v=_ from this] at al;simp at al;exact F al
   .grind
 case b x=>exact a0 x true (fun A=>by obtain⟨C,D,O,E⟩:=N A;exact⟨C,D,O,by simpa using E⟩) (by simpa using h)
 case nb x=>exact a0 x false (fun A=>by obtain⟨C,D,O,E⟩:=N A;exact⟨C,D,O,by simpa using E⟩) (by simpa using h)
end
def fen (r:Option Nat):Fence:={ Fence.wide with round:=r }
theorem iB {r:Option Nat}{k:Nat}{P:Program}{f:FuncId}{args:Array Value}{w:World}{R:Ending->World->Prop}(h:Calls P f args w R):CallsIn (fen r) k P f args w R:=
 (callsIn_wide (n:=k)).2 h
def MN (P:Program)(fv:Value)(args:List Value)(w:World)(R:Ending->World->Prop):Prop:=
 (∃(k:FuncId) (first I:List Value) (aC:Func),fv= .func (.func k) first.toArray I.toArray/\P.funcs[k]? =some aC/\aC.body.isSome=true/\(aC.name== "runtime.NumGoroutine")=false/\Calls P k (first++args++I).toArray w R)\/
 ∃(b:Nat) (q:Loop),fv= .func (.yield b) #[] #[]/\w.heap[b]? =some (.loop q)/\args.length=q.params.size/\
  ∀k,RoundIn Fence.wide k P b q.fn ((q.params.zip args.toArray).foldl (fun t (p,v)=>t.setIfInBounds p v) q.tmps) q.assign q.body w R
def G8 (T:Tab)(g:G)(V :Nat->Option Nat)(m:Mem)(w:World)(c:AC)(ag:Mem)(aq:G):Ending->World->Prop:=
 fun e ab=>∃v ac,e= .returned v/\AI T g.n V m w ac ag ab/\AH T aq.n ac ag ab/\AA T aq.n ac ag ab c v
def YfOK (P:Program)(T:Tab)(i:Nat)(y:YF):Prop:=
 ∀id args ad m g c ag aq,y id args ad m g=some (c,ag,aq)->Ac g aq/\(Agr T aq->Ar T aq->pcv T ad->BN T g ad->∀h,m.at id= .lp i h->∀ V w W,AF T g.n V m w args W->AH T g.n V m w->
  ∀b, V id=some b->MN P (.func (.yield b) #[] #[]) W w (G8 T g V m w c ag aq))
def YsOK (P:Program)(T:Tab)(ap:Ys):Prop:=∀h y,ap h=some y->YfOK P T h y
def DI (P:Program)(h:Nat->CL)(ap:Ys):Prop:=∀T:Tab,T.lp=h->YsOK P T ap
def Ca (P:Program)(T:Tab)(call:A7):Prop:=
 ∀ap k args ad m g c ag aq,DI P T.lp ap->call ap k args ad m g=some (c,ag,aq)->Ac g aq/\(Agr T aq->Ar T aq->pcv T ad->BN T g ad->∀ V w W,AF T g.n V m w args W->AH T g.n V m w->
  (∃aC,P.funcs[k]? =some aC/\aC.body.isSome=true/\(aC.name== "runtime.NumGoroutine")=false)/\
  Calls P k (W:List Value).toArray w (G8 T g V m w c ag aq))
section
variable {P:Program}{T:Tab}{n aj:Nat}{V ac:Nat->Option Nat}{m ag:Mem}{w ab:World}{a:Act}
variable{Z:Array Oper}{s:RS}{o:Oper}{a3:Option Tmp}
theorem RL {ad:PC}{aw:RS}{run:Option (PC × List Nat)}(h:DE Z ad s o=some (run,aw))(hA:Agr T aw.g)(a9:pcv T ad)(hk:BN T s.g ad)(Y:CG T V Z s a w):
  aw.tmps=s.tmps/\aw.mem=s.mem/\Ac s.g aw.g/\CG T V Z aw a w/\(run=none->Region.wanted o (yielded Z a.tmps)=false)/\
   (∀i aV,run=some (i,aV)->(Region.wanted o (yielded Z a.tmps)=true↔pcv T i)/\(pcv T i->∀c∈aV,T c= .bool true)/\BN T aw.g i/\
    (aV=[]->pcv T i)/\(aV≠[]->(∃p,i=some p)/\∃q,o.guard=some q)):=by
 unfold DE at h;cases hg:o.guard with
 |none=>
  rw[hg] at h;cases h;refine⟨rfl,rfl,Ac.refl _,Y,(fun h=>by cases h),fun i aV A=>?_⟩;cases A;exact⟨by simp[Region.wanted,hg,a9],fun _ c z=>(by cases z),hk,fun _=>a9,fun h=>absurd rfl h⟩
 |some jw=>
  obtain⟨j,aU⟩:=jw;have bc:(Region.wanted o (yielded Z a.tmps)=true↔yielded Z a.tmps j=some aU):=by simp[Region.wanted,hg]
  rw[hg] at h;simp only at h;split at h
  .rename_i e ar A;cases h;have b4:∀x∈e::ar,x∈s.gl/\x.j=j/\x.want=aU:=by
    intro x hx;rw[<-A] at hx;obtain⟨C,O⟩:=List.mem_filter.1 hx;simp only[AA8] at O;exact⟨C,AA9 O.1,by simpa using O.2⟩
   obtain⟨bs,hj,N⟩:=b4 e (ABK ..);have D:=Y.ges e bs;refine⟨rfl,rfl,Ac.refl _,Y,(fun h=>by cases h),fun i aV A=>?_⟩;cases A;refine⟨?_,?_,⟨D.lt,D.bool⟩,fun h=>?_,fun _=>⟨⟨_,rfl⟩,_,rfl⟩⟩
   .rw[bc,<-hj,<-N];exact D.iff.symm
   .intro hp c z;rcases ABm.1 z with z|z
    .exact D.imp hp c z
    .obtain⟨l,hl,z⟩:=List.mem_flatten.1 z;obtain⟨x,hx,rfl⟩:=ACI.1 hl;obtain⟨k1,E,k3⟩:=b4 x (ABH _ hx);have b5:=Y.ges x k1;refine b5.imp (b5.iff.2 ?_) c z;rw[E,k3,<-hj,<-N];exact D.iff.1 hp
   .exact absurd (List.append_eq_nil_iff.1 h).1 D.ne
  .rename_i c6;simp only[ABA,AA7] at h;obtain⟨oj,cu,d,hd,c,z,h⟩:=h;have hv:=Y.rel.tmps d c z;have hy:yielded Z a.tmps j=(match a.tmps.getD d undef with| .bool b=>some b|_=>none):=by
    simp only[yielded,cu,ABd,hd];rcases ABN d a.tmps.size with bo|bo
    .have bm:a.tmps[d]? =some (a.tmps.getD d undef):=by simp[ABG,bo]
     rw[bm];generalize a.tmps.getD d undef=v;cases v<;>rfl
    .have bm:a.tmps[d]? =none:=Array.getElem?_eq_none bo;rw[ABG,bm];rfl
   have b2:∀(F:PC) (base:List Nat) (c':AC),Ec F base s j aU c'=some (run,aw)->BN T s.g F->(pcv T F->AA T s.g.n V s.mem w c' (a.tmps.getD d undef))->(¬pcv T F->a.tmps.getD d undef=undef)->(pcv T F->∀c∈base,T c= .bool true)->
     ((F=ad/\base=[])\/(base≠[]/\∃p,F=some p))->
     aw.tmps=s.tmps/\aw.mem=s.mem/\Ac s.g aw.g/\CG T V Z aw a w/\(run=none->Region.wanted o (yielded Z a.tmps)=false)/\
     (∀i aV,run=some (i,aV)->(Region.wanted o (yielded Z a.tmps)=true↔pcv T i)/\(pcv T i->∀c∈aV,T c= .bool true)/\BN T aw.g i/\
      (aV=[]->pcv T i)/\(aV≠[]->(∃p,i=some p)/\∃q,(some (j,aU):Option (Nat × Bool))=some q)):=by
    intro F base c' C O h3 h4 h5 h6;obtain⟨k1,E,k3,k4,k5,k6⟩:=gO C hA O Y hy h3 h4 h5;refine⟨k1,E,k3,k4,fun hn=>?_,fun i aV A=>?_⟩
    .have:=k5 hn;cases N:Region.wanted o (yielded Z a.tmps) with
     |false=>rfl
     |true=>exact absurd (bc.1 N) this
    .obtain⟨q1,q2,q3,q4⟩:=k6 i aV A;refine⟨bc.trans q1,q2,q3,fun cl=>?_,fun a0=>⟨?_,_,rfl⟩⟩
     .rcases q4 with⟨_,M,e2⟩|⟨a0,_⟩
      .rcases h6 with⟨e3,_⟩|⟨e3,_⟩
       .rw[M,e3];exact a9
       .exact absurd e2 e3
      .exact absurd cl a0
     .rcases q4 with⟨M,_⟩|⟨_,q5|⟨q5,q6⟩⟩
      .exact absurd M a0
      .exact q5
      .rcases h6 with⟨_,e4⟩|⟨_,e5⟩
       .rw[q6,e4] at a0;exact absurd rfl a0
       .rw[q5];exact e5
   split at h
   .
    cases h;obtain⟨W,M,e2⟩:=hv;rw[show W=[] from e2] at M;refine⟨rfl,rfl,Ac.refl _,Y,fun _=>?_,fun i aV A=>by cases A⟩;cases N:Region.wanted o (yielded Z a.tmps) with
    |false=>rfl
    |true=>
     have:=bc.1 N;rw[hy,M] at this;cases this
   .rename_i cc c';simp only[AA7] at h;obtain⟨e,A,h⟩:=h;have bs:=List.mem_of_find?_eq_some A;have cv:=List.find?_some A;have hp:e.p=cc:=AA9 cv;subst hp;have D:=Y.ges e bs;exact b2 (some e.p) e.imp c' h ⟨D.lt,D.bool⟩ hv.2.1 hv.2.2 D.imp (.inr ⟨D.ne,_,rfl⟩)
   .exact b2 ad [] c h hk (fun _=>hv) (fun hn=>absurd a9 hn) (fun _ c z=>by cases z) (.inl ⟨rfl,rfl⟩)
theorem K7 {j:Nat}(h:((Z[j]?).bind (·.dst))≠a3)(v:Value):yielded Z (a.put a3 v).tmps j=yielded Z a.tmps j:=by
 cases a3 with
 |none=>rfl
 |some d=>
  simp only[yielded,Act.put];cases hd:(Z[j]?).bind (·.dst) with
  |none=>rfl
  |some e=>
   have p:d≠e:=fun i=>by rw[hd,i] at h;exact h rfl
   simp only[ABd,ABz,p,if_false]
theorem X4:∀(x y:Blk),Blk.beq x y=true->x=y
 | .pad,y,h=>by cases y<;>simp_all [Blk.beq]
 | .gone,y,h=>by cases y<;>simp_all [Blk.beq]
 | .cells l e,y,h=>by
  cases y<;>simp[Blk.beq] at h;rw[AC.beqL_eq l _ h.1,h.2]
 | .tok x ks e,y,h=>by
  cases y<;>simp[Blk.beq] at h;rw[h.1.1,Kd.beqs_eq ks _ h.1.2,h.2]
 | .lp x a,y,h=>by
  cases y<;>simp[Blk.beq] at h;rw[h.1,AC.beq_eq a _ h.2]
 | .mrow x z ks e,y,h=>by
  cases y<;>simp[Blk.beq] at h;rw[h.1.1.1,h.1.1.2,Kd.beqs_eq ks _ h.1.2,h.2]
 | .mapb x ao ka aJ aT,y,h=>by
  cases y<;>simp[Blk.beq] at h;rw[h.1.1.1.1,Kd.beqs_eq ao _ h.1.1.1.2,h.1.1.2,Kd.beqs_eq aJ _ h.1.2,h.2]
theorem FM:∀{m ag:Mem},HP m ag=true->m.length<=ag.length/\∀id,id < m.length->ag.at id=m.at id
 |[],_,_=>⟨ABh _,fun id h=>by simp at h⟩
 |_::_,[],h=>by cases h
 |x::m,y::ag,h=>by
  simp only[HP,AA8] at h;obtain⟨C,O⟩:=FM h.2;refine⟨by simp;omega,fun id i=>?_⟩;cases id with
  |zero=>simp[Mem.at,X4 _ _ h.1]
  |succ id=>
   have:=O id (by simpa using i);simpa [Mem.at] using this
theorem QE (m:Mem)(k:Nat)(id:Nat):Mem.at (m++List.replicate k .gone) id=if id < m.length then m.at id else if id < m.length+k then .gone else .pad:=by
 unfold Mem.at;grind
theorem oY {f:Operand}{args:Array Operand}{ay:Array TypeId}{k:FuncId}{first I:List Value}{aC:Func}(q:o.op= .call { callee:= .value f,args,argTypes:=ay })
  (p:a.eval f= .func (.func k) first.toArray I.toArray) (C:P.funcs[k]? =some aC) (O:aC.body.isSome=true) (i:(aC.name== "runtime.NumGoroutine")=false):
  (execOp a.eval o).run P w= .ok (.enter k (first++(args.toList.map a.eval)++I).toArray) w:=by
 have j:aC.body.isNone=false:=by cases z:aC.body with|none=>rw[z] at O;cases O|some=>rfl
 have h:first.toArray++args.map a.eval++I.toArray=(first++(args.toList.map a.eval)++I).toArray:=by
  apply Array.ext';simp
 simp only[execOp,q,resolve,p,Deferred.ofValue,ABo,ABv,ABn,invoke,callFunc,run_program,C,i,j,ABW,if_false,h]
theorem CG.put (Y:CG T V Z s a w)(hd:s.gl.any (fun e=>((Z[e.j]?).bind (·.dst))==a3)=false){aq:G}(i:Ac s.g aq){h:Mem}
  (aa:AI T s.g.n V s.mem w ac h ab) (q:AH T aq.n ac h ab) {c:AC} {v:Value} (j:AA T aq.n ac h ab c v):
  CG T ac Z { s with tmps:=C8 s.tmps a3 c,mem:=h,g:=aq } (a.put a3 v) ab:=by
 refine⟨(Y.rel.on aa i.n q).put a3 j,fun e p=>?_⟩;have C:=(Y.ges e p).up i.n;have z:((Z[e.j]?).bind (·.dst))≠a3:=by
  grind
 exact⟨C.lt,C.bool,by rw[K7 z];exact C.iff,C.imp,C.ne⟩
end
def sel {aW:Type}(b:Bool)(x y:aW):aW:=match b with|true=>x|false=>y
inductive Cq (T:Tab) (n n':Nat) (w:World):Blk->Blk->Prop where
 |pad:Cq T n n' w .pad .pad
 |gone (s:Blk):Cq T n n' w s .gone
 |same (x:Nat) (ks:List Kd) (e:TypeId):Cq T n n' w (.tok x ks e) (.tok x ks e)
 |cells {l l':List AC} {e:TypeId} (h:∀ ρ m vs,AF T n ρ m w l vs->AF T n' ρ m w l' vs):Cq T n n' w (.cells l e) (.cells l' e)
 |tok {x k:Nat} {ks ks':List Kd} {e:TypeId} (h1:n<=k) (h2:k < n') (h4:T k=T x) (h5:ks'.length=ks.length):Cq T n n' w (.tok x ks e) (.tok k ks' e)
 |new {k:Nat} {ks:List Kd} {e:TypeId} (h1:n<=k) (h2:k < n') (h4:T k= .list []):Cq T n n' w .pad (.tok k ks e)
 |lp {s:Nat} {st st':AC} (h:∀ ρ m v,AA T n ρ m w st v->AA T n' ρ m w st' v):Cq T n n' w (.lp s st) (.lp s st')
 |mrow {x k y:Nat} {ks ks':List Kd} {e:TypeId} (h2:k=x\/k < n') (h4:T k=T x) (h5:ks'.length=ks.length) (h6:∀ok us vs,AT ok w ks us vs->AT ok w ks' us vs):Cq T n n' w (.mrow x y ks e) (.mrow k y ks' e)
 |mapb {x k:Nat} {kk kk' vk vk':List Kd} {ka va:Bool} (h2:k=x\/k < n') (h4:T k=T x) (h5:∀ok us vs,AT ok w kk us vs->AT ok w kk' us vs) (h6:∀ok us vs,AT ok w vk us vs->AT ok w vk' us vs):Cq T n n' w (.mapb x kk ka vk va) (.mapb k kk' ka vk' va)
section
variable {T:Tab}{V :Nat->Option Nat}{m:Mem}{w:World}{b:Bool}{aL:Rf}{n aj:Nat}
theorem Ii (i:(aL.eval T).toB=b)(r h:Rf):(⟨ "if",oIf,[aL,r,h]⟩:Ex).eval T=sel b (r.eval T) (h.eval T):=by
 cases b<;>simp[Ex.eval,oIf,u0,u1,u2,i,sel]
theorem xz (D:(aL.eval T).toB=b){k:Nat}{x y:Blk}(j:New T k (Dz k aL x y).2)(N:n<=k)(i:k+(Dz k aL x y).2.length<=aj):
  Cq T n aj w (sel b x y) (Dz k aL x y).1:=by
 cases x with
 |pad=>
  cases y with
  |pad=>cases b<;>exact .pad
  |gone=>exact .gone _
  |cells l e=>exact .gone _
  |lp=>exact .gone _
  |mrow=>exact .gone _
  |mapb=>exact .gone _
  |tok L ks e'=>
   simp only[Dz] at j i⊢;simp only[List.length_singleton] at i;have e:=j.head;rw[Ii D] at e;cases b with
   |true=>exact .new N (by omega) e
   |false=>exact .tok N (by omega) e rfl
 |gone=>cases y<;>exact .gone _
 |cells l e=>
  cases y with
  |pad=>exact .gone _
  |gone=>exact .gone _
  |tok=>exact .gone _
  |lp=>exact .gone _
  |mrow=>exact .gone _
  |mapb=>exact .gone _
  |cells ae e'=>
   simp only[Dz] at j i⊢;split
   .rename_i b2;obtain⟨bk,rfl⟩:=b2;simp only[bk,and_self,if_true] at j i;split
    .rename_i b1;simp only[b1,if_true] at j i;have a1:∀ V m W,(b=true->AF T n V m w l W)->(b=false->AF T n V m w ae W)->AF T aj V m w (QW (fun n=>mix n aL) k l ae).1 W:=fun V m W k1 E=>
      S4 (fun n0 c d v _ _ bo bs bt a4=>PV D (by omega) bo bs bt a4) bk j i k1 E
     cases b with
     |true=>exact .cells fun V m W h=>a1 V m W (fun _=>h) (fun h=>by cases h)
     |false=>exact .cells fun V m W h=>a1 V m W (fun h=>by cases h) (fun _=>h)
    .exact .gone _
   .exact .gone _
 |lp s st=>
  cases y with
  |pad=>exact .gone _
  |gone=>exact .gone _
  |cells=>exact .gone _
  |tok=>exact .gone _
  |mrow=>exact .gone _
  |mapb=>exact .gone _
  |lp aw bm=>
   simp only[Dz] at j i⊢;split
   .rename_i q;have e:=AA9 q;subst e;simp only[q,if_true] at j i;have a1:∀ V m v,(b=true->AA T n V m w st v)->(b=false->AA T n V m w bm v)->AA T aj V m w (mix k aL st bm).1 v:=fun V m v k1 E=>PV D (by omega) j i k1 E;cases b with
    |true=>exact .lp fun V m v h=>a1 V m v (fun _=>h) (fun h=>by cases h)
    |false=>exact .lp fun V m v h=>a1 V m v (fun h=>by cases h) (fun _=>h)
   .exact .gone _
 |mrow x z ks e=>
  cases y with
  |pad=>exact .gone _
  |gone=>exact .gone _
  |cells=>exact .gone _
  |tok=>exact .gone _
  |lp=>exact .gone _
  |mapb=>exact .gone _
  |mrow L z' af e'=>
   simp only[Dz] at j i⊢;split
   .rename_i q;simp only[q,if_true] at j i;simp only[AA8] at q;have e1:=AA9 q.1.1;have A:=AA9 q.1.2;have F:=AA9 q.2;subst e1;subst A;split
    .rename_i p;simp only[AA8] at p;have M:=AA9 p.1;have e5:=Kd.beqs_eq _ _ p.2;subst M;subst e5;cases b<;>exact .mrow (.inl rfl) rfl rfl (fun _ _ _ h=>h)
    .rename_i p;simp only[p] at j i;simp only[ABW,if_false] at j i;simp only[List.length_singleton] at i;have e:=j.head;rw[Ii D] at e;have hj:=Kd.joins_len ks af F;cases b with
     |true=>exact .mrow (.inr (by omega)) e hj (fun _ _ _ h=>h.join_l F)
     |false=>exact .mrow (.inr (by omega)) e (by rw[hj,F]) (fun _ _ _ h=>h.join_r F)
   .exact .gone _
 |mapb x ao ka aJ aT=>
  cases y with
  |pad=>exact .gone _
  |gone=>exact .gone _
  |cells=>exact .gone _
  |tok=>exact .gone _
  |lp=>exact .gone _
  |mrow=>exact .gone _
  |mapb L b5 b4 b7 b6=>
   simp only[Dz] at j i⊢;split
   .rename_i p;simp only[AA8,beq_iff_eq] at p;obtain⟨⟨⟨⟨aS,c2⟩,c3⟩,c4⟩,c5⟩:=p;have e1:=AA9 aS;have A:=Kd.beqs_eq _ _ c2;have M:=Kd.beqs_eq _ _ c4;subst e1;subst A;subst M;subst c3;subst c5;cases b<;>exact .mapb (.inl rfl) rfl (fun _ _ _ h=>h) (fun _ _ _ h=>h)
   .rename_i p;simp only[p] at j i;split
    .rename_i hd;simp only[ABW,if_false,hd,if_true] at j i;simp only[AA8,beq_iff_eq] at hd;obtain⟨⟨⟨c2,c3⟩,c4⟩,c5⟩:=hd;have A:=AA9 c2;have M:=AA9 c4;subst c3;subst c5;simp only[List.length_singleton] at i;have e:=j.head;rw[Ii D] at e;cases b with
     |true=>exact .mapb (.inr (by omega)) e (fun _ _ _ h=>h.join_l A) (fun _ _ _ h=>h.join_l M)
     |false=>exact .mapb (.inr (by omega)) e (fun _ _ _ h=>h.join_r A) (fun _ _ _ h=>h.join_r M)
    .exact .gone _
 |tok x ks e=>
  cases y with
  |gone=>exact .gone _
  |cells=>exact .gone _
  |lp=>exact .gone _
  |mrow=>exact .gone _
  |mapb=>exact .gone _
  |pad=>
   simp only[Dz] at j i⊢;simp only[List.length_singleton] at i;have e:=j.head;rw[Ii D] at e;cases b with
   |false=>exact .new N (by omega) e
   |true=>exact .tok N (by omega) e rfl
  |tok L af e'=>
   simp only[Dz] at j i⊢;split
   .rename_i q;simp only[AA8] at q;have e1:=AA9 q.1.1;have A:=AA9 q.2;have F:=Kd.beqs_eq _ _ q.1.2;subst e1;subst A;subst F;cases b<;>exact .same _ _ _
   .rename_i q;simp only[q] at j i;split
    .rename_i p;obtain⟨rfl,p⟩:=p;simp only[p,and_self,if_true,ABW,if_false] at j i;simp only[List.length_singleton] at i;have e:=j.head;rw[Ii D] at e;have hj:=Kd.joins_len ks af p;cases b with
     |true=>exact .tok N (by omega) e hj
     |false=>exact .tok N (by omega) e (by rw[hj,p])
    .exact .gone _
theorem AAM (id:Nat):Mem.at [] id= .pad:=rfl
theorem TK (x:Blk)(m:Mem):Mem.at (x::m) 0=x:=rfl
theorem Ir (x:Blk)(m:Mem)(id:Nat):Mem.at (x::m) (id+1)=Mem.at m id:=by simp[Mem.at]
theorem Pc (m:Mem):m.headD .pad=m.at 0:=by cases m<;>rfl
theorem W7 (m:Mem)(id:Nat):Mem.at m.tail id=m.at (id+1):=by cases m with
 |nil=>rfl
 |cons x m=>exact (Ir x m id).symm
theorem YY:∀(al:Mem) (n0 id:Nat),∃k,n0<=k/\k+(Dz k aL .pad (al.at id)).2.length<=n0+(Hn aL n0 al).2.length/\(Hn aL n0 al).1.at id=(Dz k aL .pad (al.at id)).1/\
  ∀T,New T n0 (Hn aL n0 al).2->New T k (Dz k aL .pad (al.at id)).2
 |[],n0,id=>⟨n0,ABB _,ABB _,rfl,fun _ h=>h⟩
 |y::al,n0,0=>by
  refine⟨n0,ABB _,?_,rfl,fun T h=>?_⟩
  .simp only[Hn,ABM,TK];omega
  .simp only[Hn] at h;exact h.left
 |y::al,n0,id+1=>by
  obtain⟨k,C,O,i,j⟩:=YY al (n0+(Dz n0 aL .pad y).2.length) id;refine⟨k,by omega,?_,?_,fun T h=>?_⟩
  .simp only[Hn,ABM,Ir];omega
  .simp only[Hn,Ir];exact i
  .simp only[Hn] at h;rw[Ir];exact j T h.right
theorem Xr:∀(az al:Mem) (n0 id:Nat),∃k,n0<=k/\k+(Dz k aL (az.at id) (al.at id)).2.length<=n0+(Be aL n0 az al).2.length/\(Be aL n0 az al).1.at id=(Dz k aL (az.at id) (al.at id)).1/\
  ∀T,New T n0 (Be aL n0 az al).2->New T k (Dz k aL (az.at id) (al.at id)).2
 |[],al,n0,id=>YY al n0 id
 |x::az,al,n0,0=>by
  refine⟨n0,ABB _,?_,?_,fun T h=>?_⟩
  .simp only[Be,ABM,TK,Pc];omega
  .simp only[Be,TK,Pc]
  .simp only[Be] at h;rw[Pc] at h;exact h.left
 |x::az,al,n0,id+1=>by
  obtain⟨k,C,O,i,j⟩:=Xr az al.tail (n0+(Dz n0 aL x (al.headD .pad)).2.length) id;rw[W7] at O i j;refine⟨k,by omega,?_,?_,fun T h=>?_⟩
  .simp only[Be,ABM,Ir];omega
  .simp only[Be,Ir];exact i
  .simp only[Be] at h;rw[Ir];exact j T h.right
def CE (m:Mem)(V :Nat->Option Nat):Nat->Option Nat:=fun id=>match m.at id with| .pad=>none|_=> V id
variable{id:Nat}{ag:Mem}
theorem Ik (h:m.at id= .pad):CE m V id=none:=by simp[CE,h]
theorem CZ (h:m.at id≠ .pad):CE m V id= V id:=by
 unfold CE;grind
theorem Ft (_hm:AH T n V m w)(h:∀id,Cq T n aj w (m.at id) (ag.at id)):AI T n V m w (CE m V) ag w where
 os:=rfl
 tape:=rfl
 output:=rfl
 size:=ABB _
 mlen:=fun id i=>by
  have:=h id;generalize m.at id=s at this i;generalize ag.at id=z at this;cases this<;>first|exact absurd rfl i|(intro h;cases h)
 rho:=fun id i=>by
  refine⟨CZ (BM i),?_⟩;have:=h id;generalize m.at id=s at this i;generalize ag.at id=z at this;cases this<;>first|rfl|cases i
 untr:=fun id i E=>by
  have:=h id;generalize m.at id=s at this i;generalize ag.at id=z at this E;cases this<;>first|rfl|exact absurd rfl i|cases E
 fresh:=fun id b i _ D=>by rw[Ik i] at D;cases D
 old:=fun _ _ _=>rfl
 tok:=fun id x ks e j=>by
  have:=h id;have p:m.at id≠ .pad:=by rw[j];exact fun h=>by cases h
  rw[j] at this;generalize N:ag.at id=z at this;cases this with
  |gone=>exact .inr ⟨fun _ _ _ _=>rfl,.inl rfl⟩
  |same=>exact .inl ⟨rfl,CZ p,fun _ _=>rfl⟩
  |tok C O A q=>
   rename_i k af;refine .inr ⟨fun _ _ _ _=>rfl,.inr ⟨k,af,e,rfl,C,fun b' F=> .inl ⟨by rw[<-CZ (V := V) p];exact F,?_⟩⟩⟩;simp only[CH,A,q];exact ABB _
 row:=fun id x y ks e j=>by
  have:=h id;have p:m.at id≠ .pad:=by rw[j];exact fun h=>by cases h
  rw[j] at this;generalize N:ag.at id=z at this;cases this with
  |gone=>exact .inl rfl
  |mrow O A q h6=>exact .inr ⟨_,y,_,rfl,q,.inl ⟨rfl,CZ p,fun b W _ M=>⟨W,M,rfl⟩⟩⟩
theorem A9.conv {ok:Nat->Nat->Prop}{ks af:List Kd}(h:∀us W,AT ok w ks us W->AT ok w af us W):∀{l:U'} {R:List (List Value)},A9 ok w ks l R->A9 ok w af l R
 |[],_,hh=>hh
 |_::_,_,⟨W,vss',e,C,O⟩=>⟨W,vss',e,h _ _ C,O.conv h⟩
theorem Pw (M:AH T n V m w)(hn:n<=aj)(h:∀id,Cq T n aj w (m.at id) (ag.at id)):AH T aj (CE m V) ag w where
 blk:=fun id=>by
  have N:=Ft M h;have A:=M.blk id;have p:=h id;cases aa:m.at id with
  |pad=>
   rw[aa] at p;generalize hz:ag.at id=z at p;cases p with
   |pad=>trivial
   |gone=>trivial
   |new C O F=>exact⟨O,_,F,.inl (Ik aa)⟩
  |gone=>
   rw[aa] at p;generalize hz:ag.at id=z at p;cases p;trivial
  |cells l e=>
   have D:m.at id≠ .pad:=by rw[aa];exact fun h=>by cases h
   rw[aa] at p A;obtain⟨b,W,C,O,h3⟩:=A;generalize hz:ag.at id=z at p;cases p with
   |gone=>trivial
   |cells hc=>
    exact⟨b,W,by rw[CZ D];exact C,O,hc _ _ W (AF.mono N M (ABB _) _ W h3)⟩
  |lp x st=>
   have D:m.at id≠ .pad:=by rw[aa];exact fun h=>by cases h
   rw[aa] at p A;obtain⟨b,q,C,O,h3,F,h5,h9,h6,j,h7,h8⟩:=A;generalize hz:ag.at id=z at p;cases p with
   |gone=>trivial
   |lp hc=>
    exact⟨b,q,by rw[CZ D];exact C,O,h3,F,h5,h9,fun i c cc=>AA.mono N M hn _ _ (h6 i c cc),j,hc _ _ _ (AA.mono N M (ABB _) _ _ h7),h8⟩
  |tok x ks e=>
   have D:m.at id≠ .pad:=by rw[aa];exact fun h=>by cases h
   rw[aa] at p A;obtain⟨h0,r,C,O⟩:=A;generalize hz:ag.at id=z at p;cases p with
   |gone=>trivial
   |same=>
    refine⟨ABE h0 hn,r,C,?_⟩;rw[CZ D];exact O
   |tok k1 E k4 k5=>
    refine⟨E,r,by rw[k4,C],?_⟩;rw[CZ D,k5];exact O
  |mrow x y ks e=>
   have D:m.at id≠ .pad:=by rw[aa];exact fun h=>by cases h
   rw[aa] at p A;obtain⟨h0,r,C,O,⟨h3,b9⟩,F⟩:=A;generalize hz:ag.at id=z at p;cases p with
   |gone=>trivial
   |mrow E k4 k5 k6=>
    refine⟨⟨?_,ABE h0.2 hn⟩,r,by rw[k4,C],O,⟨h3,fun h=>b9 (AB3.1 (by rw[<-k5,h];rfl))⟩,?_⟩
    .rcases E with E|E
     .rw[E];exact ABE h0.1 hn
     .exact E
    .rw[CZ D];rcases F with F|⟨b,W,us,q1,q2,⟨R,q3,q5⟩,q4⟩
     .exact .inl F
     .exact .inr ⟨b,W,us,q1,q2,⟨R,q3,A9.conv (k6 _) (A9.mono (fun _ _ aa=>N.safe0 aa) q5)⟩,q4⟩
  |mapb x ao ka aJ aT=>
   have D:m.at id≠ .pad:=by rw[aa];exact fun h=>by cases h
   rw[aa] at p A;obtain⟨h0,l,b,ar,a4,C,O,h3,F,h5,h6,h7⟩:=A;generalize hz:ag.at id=z at p;cases p with
   |gone=>trivial
   |mapb E k4 k5 k6=>
    refine⟨?_,l,b,ar,a4,by rw[k4,C],by rw[CZ D];exact O,h3,F,h5,fun i us e hl he=>?_,h7⟩
    .rcases E with E|E
     .rw[E];exact ABE h0 hn
     .exact E
    .obtain⟨u1,u2,q1,⟨ci,q2,q3⟩,⟨cj,q4,q5⟩⟩:=h6 i us e hl he;exact⟨u1,u2,q1,⟨ci,k5 _ _ _ (AT.mono (fun _ _ aa=>N.safe0 aa) q2),q3⟩,⟨cj,k6 _ _ _ (AT.mono (fun _ _ aa=>N.safe0 aa) q4),q5⟩⟩
 fr:=M.fr
 inj:=fun id b3 b p ch C O=>by
  have N:=Ft M h;have b4:∀id,(ag.at id).tracked=true->CE m V id=some b->(m.at id).tracked=true/\ V id=some b:=by
   intro id p hr;by_cases hp:m.at id= .pad
   .rw[Ik hp] at hr;cases hr
   .exact⟨N.untr id hp p,by rw[<-CZ (V := V) hp];exact hr⟩
  obtain⟨a1,b6⟩:=b4 id p C;obtain⟨b7,b8⟩:=b4 b3 ch O;exact M.inj id b3 b a1 b7 b6 b8
end
end
end Go.Eng
end
