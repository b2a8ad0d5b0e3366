/-
  A part of the proof: the evaluator of code and its soundness.
-/
import Derived.Test.YtikbgnmcfncnaaaE0
import Derived.Laws.Pointers
import Derived.Lib.AppendZeros
import Derived.RangeFuncRecord
set_option linter.unusedVariables false
set_option linter.unusedSimpArgs false
noncomputable section
namespace Go.Eng
section
open Go Go.RowKit
section
variable {P:Program}{T:Tab}{n ap:Nat}{W ad:Nat->Option Nat}{m ag:Mem}{w ac:World}{g:G}{r:R}
variable{id:Nat}{e:TypeId}{l:List (List U)}
theorem TG (z:BX T n W m w)(bs:n < ap){y:Nat}{ky ks:List Kd}(X:m.at id= .tok y ky e)(F:∀j,j≠id-> ad j= W j)
  (os:ac.os=w.os) (tape:ac.tape=w.tape) (output:ac.output=w.output) (size:w.heap.size<=ac.heap.size)
  (aw:∀k,k < w.heap.size-> W id≠some k->ac.heap[k]? =w.heap[k]?)
  (b1:∀b, W id=some b->∀off,off < DN T y ky->ac.cell? ⟨b,off,none⟩=w.cell? ⟨b,off,none⟩)
  (bi:∀b', ad id=some b'->(W id=some b'/\DN T y ky<=DN T n ks)\/w.heap.size<=b')
  {q:List (List U)} (hT:T n= .list q) (bl: ad id=none\/∃b Y, ad id=some b/\ac.heap[b]? =some (.cells Y e (0,0))/\q.length*ks.length<=Y.size/\∀off,T.fr b off):
  BY T n W m w ad (m.set id (.tok n ks e)) ac/\BX T ap ad (m.set id (.tok n ks e)) ac:=by
 have bo:m.at id≠ .pad:=by rw[X];exact fun h=>by cases h
 have E:∀j,Mem.at (m.set id (.tok n ks e)) j=if j=id then .tok n ks e else m.at j:=fun j=>Hw m id (.tok n ks e) j bo
 have M:(m.at id).tracked=true:=by rw[X];rfl
 have aa:BY T n W m w ad (m.set id (.tok n ks e)) ac:={
  os:=os
  tape:=tape
  output:=output
  size:=size
  mlen:=fun j h=>by rw[E j];split<;>first|exact (fun h=>by cases h)|exact h
  rho:=fun j h=>by
   have p:j≠id:=fun e'=>by subst e';rw[X] at h;cases h
   grind
  untr:=fun j h i=>by
   grind
  fresh:=fun j b h i D=>by
   rw[E j] at i;split at i
   .grind
   .rw[h] at i;cases i
  old:=fun k hk bt=>aw k hk (bt id M)
  tok:=fun j x kx e' h=>by
   by_cases p:j=id
   .grind
   .refine .inl ⟨by rw[E j,BG p];exact h,F j p,fun b D=>aw b (z.lt (by rw[h];rfl) D) (fun H=>?_)⟩;exact p (z.inj j id b (by rw[h];rfl) M D H)
  row:=fun j x aF kx e' h=>by
   have p:j≠id:=fun e'=>by subst e';rw[X] at h;cases h
   refine .inr ⟨x,aF,kx,by rw[E j,BG p];exact h,rfl,.inl ⟨rfl,F j p,fun b Y D hv=>⟨Y,?_,rfl⟩⟩⟩;rw[aw b (z.lt (by rw[h];rfl) D) (fun H=>p (z.inj j id b (by rw[h];rfl) M D H))];exact hv }
 refine⟨aa,⟨fun j=>?_,fun j j' b i bx O C=>?_,fun b off h=>z.fr b off (AV aa.size h)⟩⟩
 .by_cases p:j=id
  .subst p;rw[E j,BH rfl];exact⟨bs,q,hT,bl⟩
  .by_cases i:(m.at j).tracked=true
   .refine Cj.step aa z (by omega) (by rw[E j,BG p]) (F j p) (fun b D=>aw b (z.lt i D) (fun H=>p (z.inj j id b i M D H)))
   .rw[E j,BG p];cases N:m.at j with
    |pad=>trivial
    |gone=>trivial
    |cells=>rw[N] at i;exact absurd rfl i
    |lp=>rw[N] at i;exact absurd rfl i
    |tok=>rw[N] at i;exact absurd rfl i
    |mrow=>rw[N] at i;exact absurd rfl i
    |mapb=>rw[N] at i;exact absurd rfl i
 .have tr:∀k,(Mem.at (m.set id (.tok n ks e)) k).tracked=true->(m.at k).tracked=true:=fun k hk=>by
   grind
  have one:∀j b,(m.at j).tracked=true->j≠id-> ad j=some b-> ad id=some b->False:=by
   intro j b i p O C;rw[F j p] at O;rcases bi b C with⟨h3,_⟩|h3
   .exact p (z.inj j id b i M O h3)
   .have:=z.lt i O;omega
  by_cases p:j=id
  .grind
  .by_cases bm:j'=id
   .grind
   .rw[F j p] at O;rw[F j' bm] at C;exact z.inj j j' b (tr j i) (tr j' bx) O C
theorem cq (H:BX T n W m w)(a2:n < ap){ks:List Kd}{a:Option Addr}(E:T n= .list l)(N:Bk (Bt T W m w) w (.list ks) (.list l) (.slice a l.length l.length)):
  ∃ ad,BY T n W m w ad (m++[.tok n ks e]) w/\BX T ap ad (m++[.tok n ks e]) w/\BQ T ap ad (m++[.tok n ks e]) w (.vec m.length n ks) (.slice a l.length l.length):=by
 let ad:Nat->Option Nat:=fun j=>if j=m.length then none else W j
 have same: ad m.length=none:=by simp[ad]
 have z:∀j,j≠m.length-> ad j= W j:=fun j h=>by simp[ad,h]
 have D:m.at m.length= .pad:=Mem.at_ge (AE _);have aa:BY T n W m w ad (m++[.tok n ks e]) w:={
  os:=rfl
  tape:=rfl
  output:=rfl
  size:=AE _
  mlen:=fun id h=>by rw[Bj];split<;>first|exact (fun h=>by cases h)|exact h
  rho:=fun id h=>by
   have:id≠m.length:=fun e=>by subst e;exact Cf h D
   rw[Bj,BG this];grind
  untr:=fun id h i=>by
   have:id≠m.length:=fun e=>by subst e;exact h D
   rw[Bj,BG this] at i;exact i
  fresh:=fun id b h i M=>by
   by_cases e:id=m.length
   .grind
   .rw[Bj,BG e,h] at i;cases i
  old:=fun k hk _=>rfl
  tok:=fun id y ky e h=>by
   have:id≠m.length:=fun e=>by subst e;rw[D] at h;cases h
   exact .inl ⟨by rw[Bj,BG this];exact h,z _ this,fun b hb=>rfl⟩
  row:=fun id L aF ky e h=>by
   have:id≠m.length:=fun e=>by subst e;rw[D] at h;cases h
   exact .inr ⟨L,aF,ky,by rw[Bj,BG this];exact h,rfl,.inl ⟨rfl,z _ this,fun b Y hb N=>⟨Y,N,rfl⟩⟩⟩ }
 have aw:Mem.at (m++[.tok n ks e]) m.length= .tok n ks e:=by rw[Bj,BH rfl]
 refine⟨ad,aa,⟨fun id=>?_,fun id a8 b i a6 M a3=>?_,fun b off h=>H.fr b off h⟩,a2,by rw[aw];exact (fun h=>by cases h),?_,fun X e' F=> .inl ⟨same,a,by rw[E];rfl⟩⟩
 .by_cases p:id=m.length
  .subst p;rw[aw];exact⟨a2,_,E,.inl same⟩
  .by_cases i:(m.at id).tracked=true
   .exact Cj.step aa H (by omega) (by rw[Bj,BG p]) (z _ p) (fun b hb=>rfl)
   .rw[Bj,BG p];cases q:m.at id with
    |pad=>trivial
    |gone=>trivial
    |cells=>rw[q] at i;exact absurd rfl i
    |lp=>rw[q] at i;exact absurd rfl i
    |tok=>rw[q] at i;exact absurd rfl i
    |mrow=>rw[q] at i;exact absurd rfl i
    |mapb=>rw[q] at i;exact absurd rfl i
 .by_cases p:id=m.length
  .grind
  .by_cases F:a8=m.length
   .grind
   .rw[Bj,BG p] at i;rw[Bj,BG F] at a6;rw[z _ p] at M;rw[z _ F] at a3;exact H.inj id a8 b i a6 M a3
 .rw[E];exact Bk.mono (fun _ _ h=>aa.safe0 h) _ _ _ N
theorem XP (i:BX T n W m w)(j:n < ap){ks:List Kd}(h:T n= .list []):
  ∃ ad,BY T n W m w ad (m++[.tok n ks e]) w/\BX T ap ad (m++[.tok n ks e]) w/\BQ T ap ad (m++[.tok n ks e]) w (.vec m.length n ks) (.slice none 0 0):=
 cq i j h (Ik _ _)
theorem Ei {t aR:TypeId}{i:TypeInfo}(z:P.underlying t=some (.slice e))(ab:P.info? e=some i)(base a:Option Addr)(p j c:Nat)(h:p<=j):
  (Builtin.append_ #[t,t] aR #[.slice base p j,.slice a 0 c]).run P w= .ok (.slice base p j) w:=by
 have q:(Builtin.firstCells i.size 0 (.slice a 0 c)).run P w= .ok #[] w:=by
  cases a with
  |none=>simp[Builtin.firstCells]
  |some a=>simp[Builtin.firstCells,loadCells,loadCellsFrom]
 cases base<;>simp[Builtin.append_,run_underlying z,sizeOf,typeInfo,ab,Builtin.lenOf,h,q,storeCells]
theorem Pa (Y:List Value)(z:Array Value)(p:Nat)(h:p < Y.length):(Y.toArray++z)[p]? =Y[p]? :=by
 grind
theorem OU (hm:BX T n W m w)(aa:BY T n W m w ad ag ac)(a2:BX T ap ad ag ac)(a6:n < ap){b I:Nat}{ks:List Kd}{Y:List Value}{H:Array Value}(a3:ks≠[])
  (i:ag.at id= .tok n ks e) (D: ad id=some b) (N:∀p,p < l.length*ks.length->T.fr b p) (hv:Bu (Bt T W m w) w ks l Y) (hk:l.length<=BT) (j:T n= .list l) (q:ac.heap[b]? =some (.cells H e (0,0)))
  (F:∀p,p < l.length*ks.length->H[p]? =Y[p]?) (M:l.length<=I) (bc:I*ks.length<=H.size):
  BQ T ap ad ag ac (.vec id n ks) (.slice (some ⟨b,0,none⟩) l.length I):=by
 have a9:DN T n ks=l.length*ks.length:=by simp[DN,j,U.toL]
 refine⟨a6,by rw[i];exact (fun h=>by cases h),⟨l,j,hk,fun h=>absurd h a3,some ⟨b,0,none⟩,I,rfl,M,fun _=>⟨b,0,rfl,?_⟩⟩,fun X e' E=>?_⟩
 .refine hv.holds (o:=0) (fun b off ho=>aa.safe hm ho) (fun p z=>⟨?_,?_⟩)
  .rw[AM];refine bA (AI.1 q).1 (N p z) i D (fun bm bi ba=>a2.inj bm id b bi (by rw[i];rfl) ba D) (by rw[a9];exact z)
  .simp only[World.cell?,q,AM];exact F p z
 .rw[i] at E;cases E;exact .inr ⟨b,I,H,D,by simp[j,U.toL],q,bc⟩
end
section
variable {P:Program}{T:Tab}{n ap:Nat}{W ad:Nat->Option Nat}{m ag:Mem}{w ac:World}{g:G}{r:R}
theorem kH {k b:Nat}(i:0 < b)(h:k*b<=140737488355328):k<=BT/\(k:Int)<=9223372036854775807:=by
 have:k<=k*b:=Nat.le_mul_of_pos_right _ i;simp only[BT];omega
theorem WI {h E:List Kd}{s:Nat}(aa:0 < s)(C:E.length=s)(O:h.length=s):(Ib h E).length=s:=by
 cases h with
 |nil=>simp at O;omega
 |cons a h=>
  cases E with
  |nil=>simp at C;omega
  |cons b E=>
   simp only[Ib];rw[Kd.joins_len _ _ (by omega)];exact O
theorem Jo {ok:Nat->Nat->Prop}{ks:List Kd}{u:U}{v:Value}(h:Bk ok w (.list ks) u v):
  ∃l a I,u= .list l/\v= .slice a l.length I/\l.length<=I/\(ks=[]->l=[])/\∃Y,Bu ok w ks l Y/\(0 < l.length->∃b o,a=some ⟨b,o,none⟩/\∀j u,Y[j]? =some u->w.cell? ⟨b,o+j,none⟩=some u):=by
 obtain⟨l,p,_,D,a,I,O,C,q⟩:=h;refine⟨l,a,I,p,O,C,D,?_⟩;rcases yN l.length with i|i
 .have:l=[]:=A6.1 i;subst this;exact⟨[],Bu.nil _ _,fun h=>by simp at h⟩
 .obtain⟨b,o,E,z⟩:=q i;obtain⟨Y,F,H⟩:=Bu.of_holds z;grind
def Src (T:Tab)(W :Nat->Option Nat)(m:Mem)(w:World)(ks:List Kd)(u:U)(v:Value):Prop:=
 ∃l a I,u= .list l/\v= .slice a l.length I/\l.length<=I/\(ks=[]->l=[])/\∃Y,Bu (Bt T W m w) w ks l Y/\(0 < l.length->∃b o,a=some ⟨b,o,none⟩/\∀j u,Y[j]? =some u->w.cell? ⟨b,o+j,none⟩=some u)
theorem gk {au:Array TypeId}{s:AC}{E:List Kd}{aJ:Rf}{v u:Value}(h:jv P au s E aJ m g=some r)(er:New T g.n r.us)(eu:∀q∈r.ps,q.holds T)(hm:BX T g.n W m w)(aa:BQ T g.n W m w s v)(hx:Src T W m w E (aJ.eval T) u)(aR:TypeId):
  ∃z ac ad,(Builtin.append_ au aR #[v,u]).run P w= .ok z ac/\BY T g.n W m w ad r.m ac/\BX T (g.n+r.us.length) ad r.m ac/\BQ T (g.n+r.us.length) ad r.m ac r.c z:=by
 unfold jv at h;simp only[AD,AA] at h;obtain⟨t,hp,h⟩:=h;split at h
 .rename_i e ht;simp only[AA] at h;obtain⟨i,ab,z,hz,⟨k1,aB⟩,cl,h⟩:=h;simp only at h;split at h
  .rename_i hc;obtain⟨g2,g0,ei,b8,hi,cx⟩:=hc;obtain rfl:au= #[t,t]:=by
    have:=Hj _ _ g2;exact Array.ext' this
   have hl:=HH cl aa;obtain⟨aj,a2,c2,c0,rfl,_,_,D,e2,di⟩:=hx;have aw:D.length=aj.length*i.size:=by rw[e2.len,b8]
   cases s<;>try simp only at h
   case cv e5=>
    cases e5<;>try simp only at h
    case nilSlice=>
     cases h;simp only[Kg] at cl;cases cl;have hv:v= .slice none 0 0:=aa;subst hv;have hT:T g.n= .list aj:=by
      have:=er.head;rw[this];simp[Ex.eval,UT,u0,u1,evc,c0,U.toL]
     have b1:=eu ⟨ "fits " ++toString i.bytes,Io i.bytes,[.c (.list []),aJ]⟩ (by simp);simp only[Pr.holds,Io,u0,u1,AT,An,evc,c0,U.toL,As,AM] at b1;have hb:=kH ei b1;have d0:Ib [] E=E:=rfl;rcases yN aj.length with Y|Y
     .have:aj=[]:=A6.1 Y;subst this;obtain⟨ad,f1,f2,f3⟩:=XP (ap:=g.n+1) (e:=e) (ks:=Ib [] E) hm (by omega) hT;exact⟨_,w, ad,Ei ht ab none a2 0 0 c2 (AE _),f1,f2,f3⟩
     .obtain⟨b,o,rfl,b9⟩:=di Y;have bo:=run_append_nil (P:=P) w t aR e i z ht ab hz ⟨b,o,none⟩ aj.length c2 D aw (fun j y hj=>by rw[DF];exact b9 j y hj) Y hb.2 (by omega);have b0:=grownCap_ge w aj.length 0 e;have c5:E≠[]:=fun h=>by rw[h] at b8;simp at b8;omega
      obtain⟨ad,f1,f2,f3⟩:=XZ (e:=e) (ap:=g.n+1) hm (by omega) c5 e2 hb.1 hT (.inr rfl) (H:=D.toArray++Builtin.zeroCells z.cells (grownCap w aj.length 0 e - aj.length)) (I:=grownCap w aj.length 0 e)
       (fun p M=>Pa D _ p (by rw[e2.len];exact M)) b0 (by
        simp only[Array.size_append,A9,size_zeroCells,cx,aw,b8];rw[<-Af];exact Ab _ (by omega))
      exact⟨_,_, ad,bo,f1,f2,f3⟩
    all_goals cases h
   case vec id y kv=>
    split at h
    .rename_i aF hr e' b6;split at h
     .rename_i hc;obtain⟨rfl,rfl,b7,f6⟩:=hc;have:=Kd.beqs_eq _ _ f6;subst this;cases h;simp only[Kg] at cl;cases cl;obtain⟨hq,gm,ev,gl⟩:=aa;obtain⟨af,e4,aS,cb,cs,gd,gp,a8,e1,de⟩:=Jo ev;have bi:T g.n= .list (af++aj):=by
       rw[er.head];simp[Ex.eval,UT,u0,u1,eve,cb,c0,U.toL]
      have b1:=eu ⟨ "fits " ++toString i.bytes,Io i.bytes,[.e y,aJ]⟩ (by simp);simp only[Pr.holds,Io,u0,u1,AT,An,eve,cb,c0,U.toL] at b1;have hb:=kH ei b1;have et:DN T y k1=af.length*k1.length:=by simp[DN,cb,U.toL]
      have c5:E≠[]:=fun h=>by rw[h] at b8;simp at b8;omega
      have gn:k1≠[]:=fun h=>by rw[h] at b7;simp at b7;omega
      have e6:∀b I,v= .slice (some ⟨b,0,none⟩) af.length I->∀j x,a8[j]? =some x->w.cell? ⟨b,0+j,none⟩=some x:=by
       intro b I e3 j x hj;rw[cs] at e3;cases e3;have f5:0 < af.length:=by
        have h9:=(AG.1 hj).1;rw[e1.len] at h9;rcases yN af.length with h0|h0
        .rw[h0] at h9;simp at h9
        .exact h0
       obtain⟨b',o',he,b9⟩:=de f5;cases he;exact b9 j x hj
      have c8:=e1.app e2 gp c5 (fun _=>by omega);have a9:=WI g0 b8 b7;generalize f8:Ib k1 E=ks at*;have cj:ks≠[]:=fun h=>by rw[h] at a9;simp at a9;omega
      have bl:a8.length=af.length*i.size:=by rw[e1.len,b7]
      have ba:(af++aj).length=af.length+aj.length:=AP;have gr:DN T g.n ks=(af.length+aj.length)*i.size:=by simp[DN,bi,U.toL,a9]
      have eo:DN T y k1<=DN T g.n ks:=by rw[et,gr,b7];exact Ab _ (by omega)
      have ch:Mem.at (m.set id (.tok g.n ks e)) id= .tok g.n ks e:=by rw[Hw m id _ id gm,BH rfl]
      have g1:(m.at id).tracked=true:=by rw[b6];rfl
      rcases gl k1 e b6 with⟨c6,ca,d2⟩|⟨b,I,F,b2,rfl,cc,c3⟩
      .
       have fn:(T y).toL=af:=by rw[cb];rfl
       rw[fn] at d2;obtain⟨rfl,rfl⟩:ca=e4/\aS=af.length:=by rw[d2] at cs;cases cs;exact⟨rfl,rfl⟩
       subst d2;rcases yN aj.length with Y|Y
       .have:aj=[]:=A6.1 Y;subst this;have d3:D=[]:=by simpa using aw
        subst d3;simp only[yJ,As,Nat.add_zero] at*;obtain⟨f1,f2⟩:=TG (ad:= W) (ac:=w) (ap:=g.n+1) (ks:=ks) hm (by omega) b6 (fun _ _=>rfl) rfl rfl rfl (AE _) (fun _ _ _=>rfl) (fun _ _ _ _=>rfl) (fun b' X=>by rw[c6] at X;cases X) bi (.inl c6);refine⟨_,w, W,Ei ht ab ca a2 af.length af.length c2 (AE _),f1,f2,?_⟩;refine⟨by simp,by rw[ch];exact (fun h=>by cases h),?_,fun hs hh hk=> .inl ⟨c6,ca,by rw[bi];rfl⟩⟩;rw[bi];refine⟨af,rfl,hb.1,fun h=>absurd h cj,ca,af.length,rfl,AE _,fun M=>?_⟩;obtain⟨db,o1,ee,ci⟩:=de M;refine⟨db,o1,ee,?_⟩;obtain⟨ak,d5,_,_,a',c',e7,_,e8⟩:=ev;rw[cb] at d5;cases d5;cases e7;obtain⟨b',o',d6,e9⟩:=e8 M;rw[ee] at d6;cases d6;intro i' ha f4;have fd:=e9 i' ha f4;have en:k1.length=E.length:=by omega
        have d0:ks=Kd.joins k1 E:=by
         rw[<-f8];cases k1 with
         |nil=>exact absurd rfl gn
         |cons=>cases E with
          |nil=>exact absurd rfl c5
          |cons=>rfl
        have d7:=Kd.joins_l k1 E en _ _ _ fd;have f7:ks.length=k1.length:=by rw[d0,Kd.joins_len _ _ en]
        rw[<-d0] at d7;rw[f7];exact Bw.mono (fun _ _ aa=>f1.safe0 aa) _ _ _ _ d7
       .obtain⟨b3,o2,rfl,b9⟩:=di Y;have ce:∀j y,D[j]? =some y->w.cell? ((⟨b3,o2,none⟩:Addr).add j)=some y:=fun j y hj=>by rw[DF];exact b9 j y hj
        obtain⟨N,H,gs,d8,fs,e0⟩:∃N H,(Builtin.append_ #[t,t] aR #[.slice ca af.length af.length,.slice (some ⟨b3,o2,none⟩) aj.length c2]).run P w= .ok (.slice (some ⟨w.heap.size,0,none⟩) (af.length+aj.length) N) (w.drew.alloc (.cells H e))/\af.length+aj.length<=N/\
          (∀p,p < (af.length+aj.length)*i.size->H[p]? =(a8++D)[p]?)/\N*i.size<=H.size:=by
         rcases yN af.length with h0|h0
         .have g4:a8=[]:=by rw[<-A6,bl,h0,Nat.zero_mul]
          subst g4;rw[h0];cases ca with
          |none=>
           have bo:=run_append_nil (P:=P) w t aR e i z ht ab hz ⟨b3,o2,none⟩ aj.length c2 D aw ce Y (by have:=hb.2;omega) (by rw[h0,AM] at b1;omega);have b0:=grownCap_ge w aj.length 0 e;refine⟨_,_,by rw[AM];exact bo,by omega,fun p M=>?_,?_⟩
           .rw[AM] at M;exact Pa D _ p (by rw[aw];exact M)
           .simp only[Array.size_append,A9,size_zeroCells,cx,aw];rw[<-Af];exact Ab _ (by omega)
          |some a=>
           have bo:=run_append_grow (P:=P) w t aR e i z ht ab hz a 0 0 [] (by simp) (fun j y hj=>by simp at hj) ⟨b3,o2,none⟩ aj.length c2 D aw ce (by omega) (by rw[h0] at hb;exact hb.2) (growslice_fits (by omega) (by rw[h0] at b1;exact b1));have b0:=grownCap_ge w (0+aj.length) 0 e;refine⟨_,_,bo,b0,fun p M=>?_,?_⟩
           .have:=Pa ([]++D) (Builtin.zeroCells z.cells (grownCap w (0+aj.length) 0 e - (0+aj.length))) p (by simp[aw];rw[AM] at M;exact M);simpa using this
           .simp only[Array.size_append,A9,size_zeroCells,cx,aw,As,AM];rw[<-Af];refine Ab _ ?_;rw[AM] at b0;omega
         .obtain⟨db,o1,rfl,ci⟩:=de h0;have bo:=run_append_grow (P:=P) w t aR e i z ht ab hz ⟨db,o1,none⟩ af.length af.length a8 bl (fun j y hj=>by rw[DF];exact ci j y hj) ⟨b3,o2,none⟩ aj.length c2 D aw ce (by omega) hb.2 (growslice_fits (by omega) b1);have b0:=grownCap_ge w (af.length+aj.length) af.length e;refine⟨_,_,bo,b0,fun p M=>?_,?_⟩
          .have:=Pa (a8++D) (Builtin.zeroCells z.cells (grownCap w (af.length+aj.length) af.length e - (af.length+aj.length))) p (by rw[AP,bl,aw,<-Af];exact M);simpa using this
          .simp only[Array.size_append,A9,size_zeroCells,cx,bl,aw];rw[<-Af,<-Af];exact Ab _ (by omega)
        have b4:=D5 w.drew (.cells H e);obtain⟨f1,f2⟩:=TG (ad:=DX W id w.heap.size) (ac:=w.drew.alloc (.cells H e)) (ap:=g.n+1) (ks:=ks) hm (by omega) b6 (fun j hj=>CC _ _ _ hj) rfl rfl rfl (by simp)
         (fun k Y _=>CZ w.drew _ k Y) (fun b' X off _=>by rw[c6] at X;cases X) (fun b' X=>by rw[CF] at X;cases X;exact .inr (AE _)) bi
         (.inr ⟨w.heap.size,_,CF _ _ _,b4,by
          rw[ba,a9];exact AV (Ab _ d8) e0,fun off=>hm.fr _ off (AE _)⟩)
        refine⟨_,_,_,gs,f1,f2,?_⟩;have:=OU (I:=N) hm f1 f2 (by omega) cj ch (CF _ _ _) (fun p _=>hm.fr _ p (AE _)) c8 (by rw[ba];exact hb.1) bi b4 (fun p M=>fs p (by rw[a9,ba] at M;exact M)) (by rw[ba];exact d8) (by rw[a9];exact e0);rw[ba] at this;exact this
      .
       have dm:(T y).toL=af:=by rw[cb];rfl
       rw[dm] at cs;simp only[dm];have ga:af.length<=I:=by cases cs;exact gd
       have c4:∀off,T.fr b off:=by
        have c1:=hm.blk id;rw[b6] at c1;obtain⟨_,lx,_,c1⟩:=c1;rcases c1 with q1|⟨b',_,q1,_,_,q4⟩
        .rw[b2] at q1;cases q1
        .rw[b2] at q1;cases q1;exact q4
       rw[b7] at c3;have dv:(af.length+aj.length)<=I->(af.length+aj.length)*i.size<=F.size:=fun h=>AV (Ab _ h) c3;have ci:∀j x,a8[j]? =some x->w.cell? ⟨b,0+j,none⟩=some x:=e6 b I (by rw[dm]);have el:∀p,p < a8.length->F[p]? =a8[p]? :=by
        intro p M;have:=ci p a8[p] (AF M);rw[AM] at this;simp only[World.cell?,cc] at this;rw[AF M];simpa using this
       rcases yN aj.length with Y|Y
       .have:aj=[]:=A6.1 Y;subst this;have d3:D=[]:=by simpa using aw
        subst d3;simp only[yJ,As,Nat.add_zero] at*;obtain⟨f1,f2⟩:=TG (ad:= W) (ac:=w) (ap:=g.n+1) (ks:=ks) hm (by omega) b6 (fun _ _=>rfl) rfl rfl rfl (AE _) (fun _ _ _=>rfl) (fun _ _ _ _=>rfl) (fun b' X=> .inl ⟨X,eo⟩) bi
         (.inr ⟨b,F,b2,cc,by rw[a9];exact dv (by omega),c4⟩)
        refine⟨_,w, W,Ei ht ab _ a2 af.length I c2 ga,f1,f2,?_⟩;exact OU (I:=I) hm f1 f2 (by omega) cj ch b2 (fun p _=>c4 p) c8 hb.1 bi cc (fun p M=>el p (by rw[bl];rw[a9] at M;exact M)) (by omega) (by rw[a9];exact c3)
       .obtain⟨b3,o2,rfl,b9⟩:=di Y;have ce:∀j y,D[j]? =some y->w.cell? ((⟨b3,o2,none⟩:Addr).add j)=some y:=fun j y hj=>by rw[DF];exact b9 j y hj
        by_cases c7:af.length+aj.length<=I
        .
         have f0:af.length*i.size+D.length<=F.size:=by
          rw[aw,<-Af];exact dv c7
         have bo:=run_append_room (P:=P) w t aR e i ht ab b af.length I F cc ⟨b3,o2,none⟩ aj.length c2 D aw ce e2.ones c7 f0;have b4:=setRow_heap w b F (F.toList.take (af.length*i.size)++D++F.toList.drop (af.length*i.size+D.length)).toArray e (0,0) cc;have em:∀p,p < af.length*i.size->(F.toList.take (af.length*i.size)++D++F.toList.drop (af.length*i.size+D.length)).toArray[p]? =F[p]? :=by
          intro p M;simp only[List.getElem?_toArray,Am];rw[AR (by simp;omega),BB,BH M];simp
         have ey:(F.toList.take (af.length*i.size)++D++F.toList.drop (af.length*i.size+D.length)).toArray.size=F.size:=by
          simp only[A9,AP,Ao,Av,Array.length_toList];omega
         obtain⟨f1,f2⟩:=TG (ad:= W) (ac:=w.setRow b (F.toList.take (af.length*i.size)++D++F.toList.drop (af.length*i.size+D.length)).toArray) (ap:=g.n+1) (ks:=ks) hm (by omega) b6 (fun _ _=>rfl) rfl rfl rfl (by simp)
          (fun k _ Y=>EV w b _ k (fun he=>Y (by rw[he];exact b2))) (fun b' X off ho=>by
           rw[b2] at X;cases X;simp only[World.cell?,b4,cc];exact em off (by rw[et,b7] at ho;exact ho)) (fun b' X=> .inl ⟨X,eo⟩) bi
          (.inr ⟨b,_,b2,b4,by rw[ba,a9,ey];exact dv c7,c4⟩)
         refine⟨_,_, W,bo,f1,f2,?_⟩;have:=OU (I:=I) hm f1 f2 (by omega) cj ch b2 (fun p _=>c4 p) c8 (by rw[ba];exact hb.1) bi b4 (fun p M=>by
          rw[a9,ba] at M;by_cases d1:p < af.length*i.size
          .rw[em p d1,el p (by rw[bl];exact d1),AR (by rw[bl];exact d1)]
          .have hn:p < af.length*i.size+D.length:=by rw[aw,<-Af];exact M
           simp only[List.getElem?_toArray,Am];have eq:(F.toList.take (af.length*i.size)).length=af.length*i.size:=by simp;omega
           rw[AS (by rw[eq];omega),eq,AR (by omega),AS (by rw[bl];omega),bl]) (by rw[ba];exact c7) (by rw[a9,ey];exact c3)
         rw[ba] at this;exact this
        .
         have bo:=run_append_grow (P:=P) w t aR e i z ht ab hz ⟨b,0,none⟩ af.length I a8 bl (fun j y hj=>by rw[DF];exact ci j y hj) ⟨b3,o2,none⟩ aj.length c2 D aw ce (by omega) hb.2 (growslice_fits (by omega) b1);have b0:=grownCap_ge w (af.length+aj.length) I e;have b4:=D5 w.drew (.cells (a8.toArray++D.toArray++Builtin.zeroCells z.cells (grownCap w (af.length+aj.length) I e - (af.length+aj.length))) e);have fr:(a8.toArray++D.toArray++Builtin.zeroCells z.cells (grownCap w (af.length+aj.length) I e - (af.length+aj.length))).size=(af.length+aj.length)*i.size+(grownCap w (af.length+aj.length) I e - (af.length+aj.length))*i.size:=by
          simp[size_zeroCells,cx,bl,aw,Af]
         have ej:grownCap w (af.length+aj.length) I e*i.size<=(a8.toArray++D.toArray++Builtin.zeroCells z.cells (grownCap w (af.length+aj.length) I e - (af.length+aj.length))).size:=by
          rw[fr,<-Af];exact Ab _ (by omega)
         have fv:=hm.lt g1 b2;obtain⟨f1,f2⟩:=TG (ad:=DX W id w.heap.size) (ac:=w.drew.alloc (.cells (a8.toArray++D.toArray++Builtin.zeroCells z.cells (grownCap w (af.length+aj.length) I e - (af.length+aj.length))) e)) (ap:=g.n+1) (ks:=ks) hm (by omega) b6 (fun j hj=>CC _ _ _ hj) rfl rfl rfl (by simp)
          (fun k Y _=>CZ w.drew _ k Y) (fun b' X off _=>by rw[b2] at X;cases X;exact C5 (CZ w.drew _ b fv) off) (fun b' X=>by rw[CF] at X;cases X;exact .inr (AE _)) bi
          (.inr ⟨w.heap.size,_,CF _ _ _,b4,by
           rw[ba,a9];exact AV (Ab _ b0) ej,fun off=>hm.fr _ off (AE _)⟩)
         refine⟨_,_,_,bo,f1,f2,?_⟩;have:=OU (I:=grownCap w (af.length+aj.length) I e) hm f1 f2 (by omega) cj ch (CF _ _ _) (fun p _=>hm.fr _ p (AE _)) c8 (by rw[ba];exact hb.1) bi b4 (fun p M=>by
          have:=Pa (a8++D) (Builtin.zeroCells z.cells (grownCap w (af.length+aj.length) I e - (af.length+aj.length))) p (by rw[AP,bl,aw,<-Af];rw[a9,ba] at M;exact M);simpa using this) (by rw[ba];exact b0) (by rw[a9];exact ej)
         rw[ba] at this;exact this
     .cases h
    .cases h
   all_goals cases h
  .cases h
 .cases h
end
section
variable {P:Program}{T:Tab}{W :Nat->Option Nat}{m:Mem}{w:World}{g:G}{r:R}
theorem G7 (op:BinOp)(t:TypeId)(x y:Operand){a b:Value}(h:∀aC,a≠ .agg aC)(ab:a≠ .nilIface):(eqGuard op t x y a b).run P w= .ok () w:=by
 unfold eqGuard;cases op<;>simp<;>(split<;>first|rfl|exact absurd rfl ab|exact absurd rfl (h _)|simp)
variable{c d:AC}{t:TypeId}{u v:Value}{k:IntKind}{af O aj C ar ab:Int}{aB:Rf}
theorem ta {n:Nat}{p q:Bool}{ah:List Rf}(h:ceq c d=some (none,ah))(D:(KI c).isSome=true)(H:BQ T n W m w c (.bool p))(hd:BQ T n W m w d (.bool q)):ah.map (Rf.eval T)=[.bool p,.bool q]:=by
 unfold ceq at h;split at h
 .rename_i M af O av E aj C aD z F;cases c<;>simp[KI] at D<;>simp[DV] at z
 .split at h
  .cases h
  .rename_i M av E aD ax z F;obtain⟨i,N,X,_⟩:=FS z H;obtain⟨j,Y,e4,_⟩:=FS F hd;grind
  .cases c<;>simp[KI] at D<;>simp[Ui] at h
theorem pX {neg:Bool}(h:aEq P neg t c d m g=some r)(a8:New T g.n r.us)(H:BQ T g.n W m w c u)(hd:BQ T g.n W m w d v)(x y:Operand):
  ∃z,(do eqGuard (if neg then .neq else .eql) t x y u v;binOp (if neg then .neq else .eql) t u v:Sem Value).run P w= .ok z w/\r.m=m/\BQ T (g.n+r.us.length) W m w r.c z:=by
 have ax:∀(k:Option Bool) (ah:List Rf) (b:Bool),(if neg then mkB g m (k.map not) ⟨ "nes",j7,ah⟩ else mkB g m k ⟨ "eqs",lC,ah⟩)=r->(∀q,k=some q->b=q)->(k=none->HI (ah.map (Rf.eval T))=b)->
   r.m=m/\BQ T (g.n+r.us.length) W m w r.c (.bool (if neg then !b else b)):=by
  intro k ah b hr hk hn;cases neg with
  |true=>
   simp only[if_true] at hr⊢;subst hr;refine⟨TH,NQ a8 (fun h=>?_) (fun q F=>?_)⟩
   .cases k with
    |none=>simp[Ex.eval,j7,hn rfl]
    |some k=>cases h
   .cases k with
    |none=>cases F
    |some k=>rw[hk k rfl];simpa using F
  |false=>
   simp only[AZ,if_false] at hr⊢;subst hr;exact⟨TH,NQ a8 (fun h=>by simp[Ex.eval,lC,hn h]) hk⟩
 unfold aEq at h;simp only at h;split at h
 .rename_i l ak;obtain⟨us,rfl,hl⟩:=H;obtain⟨Y,rfl,bx⟩:=hd;split at h
  .rename_i ks bs;split at h
   .rename_i a3;simp only[AB,Bool.not_eq_true'] at a3;simp only[AX] at h;obtain⟨⟨k,ah⟩,O,C⟩:=h;obtain⟨b,j,i,e3⟩:=gv O a3.1.2 hl bx;have bm:∀us:List Value,CN P t us= .agg us.toArray:=by
     intro us;have:=a3.1.1;unfold DI at this;unfold CN;grind
    have ba:=Mt (P:=P) (w:=w) 12 10000 t ks us Y b (by omega) bs j;rw[bm,bm] at ba;obtain⟨D,E⟩:=ax k ah b C i (fun h=>(e3 h).1);refine⟨_,?_,D,E⟩;simp only[Ar,run_eqGuard_agg w _ t x y us.toArray Y.toArray a3.2,Aq];cases neg with
    |true=>simp[run_neq_struct,ba]
    |false=>simp[run_eql_struct,ba]
   .cases h
  .cases h
 .have j:u= .pointer none:=H;have i:v= .pointer none:=hd;subst j;subst i;split at h
  .rename_i e M;have N:P.underlying t=some (.pointer (P.pointee t)):=by simp[Program.pointee,M]
   simp only[BC,Ax] at h;obtain⟨D,E⟩:=ax (some true) [] true h (fun q F=>by cases F;rfl) (fun h=>by cases h);refine⟨_,?_,D,E⟩;simp only[Ar,G7 _ t x y (a:= .pointer none) (b:= .pointer none) (fun _ h=>by cases h) (fun h=>by cases h),Aq];cases neg with
   |true=>simp[run_neq_pointer_nil w t none N]
   |false=>simp[run_eql_pointer_nil w t none N]
  .cases h
 .obtain⟨b,_,j,_⟩:=H;have i:v= .pointer none:=hd;subst j;subst i;split at h
  .rename_i e M;have N:P.underlying t=some (.pointer (P.pointee t)):=by simp[Program.pointee,M]
   simp only[BC,Ax] at h;obtain⟨D,E⟩:=ax (some false) [] false h (fun q F=>by cases F;rfl) (fun h=>by cases h);refine⟨_,?_,D,E⟩;simp only[Ar,G7 _ t x y (a:= .pointer _) (b:= .pointer none) (fun _ h=>by cases h) (fun h=>by cases h),Aq];cases neg with
   |true=>simp[run_neq_pointer_nil w t _ N]
   |false=>simp[run_eql_pointer_nil w t _ N]
  .cases h
 .split at h
  .rename_i M;split at h
   .rename_i hb;simp only[AX] at h;obtain⟨⟨k,ah⟩,O,C⟩:=h;obtain⟨b,j,i,e3⟩:=aK O H hd;obtain⟨⟨z1,z2⟩,hz⟩:=Option.isSome_iff_exists.1 hb;obtain⟨_,X,_⟩:=(FS hz H);rcases j with⟨_,_,_,rfl,_⟩|⟨p,q,rfl,rfl,rfl⟩|⟨_,_,rfl,_⟩
    .cases X
    rotate_left 1
    .cases X
    .have bo:r.m=m/\BQ T (g.n+r.us.length) W m w r.c (.bool (if neg then !(p==q) else (p==q))):=by
      have bi:k=none->ah.map (Rf.eval T)=[.bool p,.bool q]:=fun hk=>by subst hk;exact ta O hb H hd
      cases neg with
      |true=>
       simp only[if_true] at C⊢;subst C;refine⟨TH,NQ a8 (fun h=>?_) (fun q' F=>?_)⟩
       .cases k with
        |none=>simp[Ex.eval,tz,bi rfl,u0,u1,U.toB]
        |some k=>cases h
       .cases k with
        |none=>cases F
        |some k=>rw[i k rfl];simpa using F
      |false=>
       simp only[AZ,if_false] at C⊢;subst C;exact⟨TH,NQ a8 (fun h=>by simp[Ex.eval,qY,bi h,u0,u1,U.toB]) i⟩
     obtain⟨D,E⟩:=bo;refine⟨_,?_,D,E⟩;simp only[Ar,G7 _ t x y (a:= .bool p) (b:= .bool q) (fun _ h=>by cases h) (fun h=>by cases h),Aq];cases neg with
     |true=>simp[run_neq_bool w t p q M]
     |false=>simp[run_eql_bool w t p q M]
   .cases h
  .rename_i M;split at h
   .rename_i hb;simp only[AX] at h;obtain⟨⟨k,ah⟩,O,C⟩:=h;obtain⟨b,j,i,e3⟩:=aK O H hd;obtain⟨⟨z1,z2⟩,hz⟩:=Option.isSome_iff_exists.1 hb;obtain⟨_,X,_⟩:=(Kq hz H);rcases j with⟨_,_,_,rfl,_⟩|⟨_,_,rfl,_⟩|⟨p,q,rfl,rfl,rfl⟩
    .cases X
    .cases X
    .obtain⟨D,E⟩:=ax k ah (decide (p=q)) C i (fun h=>(e3 h).1);refine⟨_,?_,D,E⟩;simp only[Ar,G7 _ t x y (a:= .string p) (b:= .string q) (fun _ h=>by cases h) (fun h=>by cases h),Aq];cases neg with
     |true=>simp[binOp,Op.stringOp,Jv]
     |false=>simp[binOp,Op.stringOp,Jv]
   .cases h
  .cases h
theorem tO {op:BinOp}{aJ:Rf}{v:Vx}{ps:List Pr}(h:Wg op k af O aB aj C aJ=some ((ar,ab,v),ps)):∀y,v= .rf (.e y)->aB= .e y\/aJ= .e y:=by
 intro y z;subst z;have i:∀q p e ar ab,rng k q p e=(ar,ab,Vx.rf (.e y))->False:=by
  intro q p e ar ab j;unfold rng at j;split at j<;>cases j
 cases op<;>simp only[Wg] at h
 case add=>
  cases O:(if (aj=0/\C=0)/\k.min<=af/\O<=k.max then (af,O,Vx.rf aB) else if (af=0/\O=0)/\k.min<=aj/\C<=k.max then (aj,C,Vx.rf aJ) else rng k (af+aj) (O+C) (ex2 "add" rE aB aJ));rw[O] at h;cases h;split at O
  .cases O;exact .inl rfl
  .split at O
   .cases O;exact .inr rfl
   .exact (i _ _ _ _ _ O).elim
 case sub=>
  cases O:(if (aj=0/\C=0)/\k.min<=af/\O<=k.max then (af,O,Vx.rf aB) else rng k (af - C) (O - aj) (ex2 "sub" tQ aB aJ));rw[O] at h;cases h;split at O
  .cases O;exact .inl rfl
  .exact (i _ _ _ _ _ O).elim
 case mul=>
  simp only[Ax,Prod.mk.injEq] at h;exact (i _ _ _ _ _ h.1).elim
 case quo=>
  split at h
  .split at h
   .simp only[Ax,Prod.mk.injEq] at h;exact (i _ _ _ _ _ h.1).elim
   .split at h
    .simp only[Ax,Prod.mk.injEq] at h;exact (i _ _ _ _ _ h.1).elim
    .simp only[Ax,Prod.mk.injEq] at h;exact (i _ _ _ _ _ h.1).elim
  .cases h
 case rem=>
  split at h
  .split at h<;>cases h
  .cases h
 case and=>
  split at h
  .split at h<;>cases h
  .cases h
 all_goals cases h
theorem nR {op:BinOp}{v:Vx}(h:Sa op k af O aB aj C=some (ar,ab,v)):∀y,v= .rf (.e y)->False:=by
 intro y i;subst i;unfold Sa at h;split at h
 .split at h
  .simp only[Ax] at h;unfold rng at h;split at h<;>cases h
  .cases h
  .cases h
 .cases h
theorem eH {n:Nat}{y:Nat}(h:DV c=some (k,ar,ab,.e y))(i:BQ T n W m w c v):y < n:=gx h i y rfl
theorem S3 {op:BinOp}(h:ec P op t c d m g=some r)(D:New T g.n r.us)(ba:∀q∈r.ps,q.holds T)(F:BQ T g.n W m w c u)(hd:BQ T g.n W m w d v)(x y:Operand):
  ∃z,(do eqGuard op t x y u v;binOp op t u v:Sem Value).run P w= .ok z w/\r.m=m/\BQ T (g.n+r.us.length) W m w r.c z:=by
 unfold ec at h;split at h
 .rename_i k af O aB k' aj C aJ hx H;obtain⟨av,rfl,M,X,b1⟩:=Cw hx F;obtain⟨aD,rfl,N,Y,b2⟩:=Cw H hd;have hg:=G7 (P:=P) (w:=w) op t x y (a:= .int k av) (b:= .int k' aD) (fun _ h=>by cases h) (fun h=>by cases h);split at h
  .rename_i ar ab n p;cases h;obtain⟨n0,j,i⟩:=pO (E:=k') p M X b1 Y b2 P t w;exact⟨_,by simp only[Ar,hg,Aq];exact j,LT,Ie D i.val i.lo i.hi (fun z hz=>(nR p z hz).elim)⟩
  split at h
  .rename_i hk;subst hk;split at h
   .rename_i ar ab n ps p;cases h;obtain⟨n0,j,i⟩:=rR p M N X b1 Y b2 (by rw[xA] at ba;exact ba) P t w;refine⟨_,by simp only[Ar,hg,Aq];exact j,LT,Ie D i.val i.lo i.hi (fun z hz=>?_)⟩;rcases tO p z hz with rfl|rfl
    .exact eH hx F
    .exact eH H hd
   .split at h
    .rename_i kn b bm;cases h;obtain⟨b0,j,i,e3⟩:=vo (k:=k) bm M N X b1 Y b2 P t w;refine⟨_,by simp only[Ar,hg,Aq];exact j,TH,NQ D (fun _=>i) ?_⟩;split
     .rename_i bl;have:=AC.beq_eq _ _ bl;subst this;rw[hx] at H;cases H;rw[M] at N;cases N;have bs:(op= .eql->b0=true)/\(op= .neq->b0=false):=by
       refine⟨fun ho=>?_,fun ho=>?_⟩<;>subst ho
       .have:=j;simp[binOp,Op.intCmp] at this;exact this
       .have:=j;simp[binOp,Op.intCmp] at this;exact this
      grind
     .exact e3
    .cases h
  .cases h
 .split at h
  .exact pX (neg:=false) h D F hd x y
  .exact pX (neg:=true) h D F hd x y
  .cases h
theorem BR.of_map {n:Nat}{aE:Operand->AC}{a:Act}(h:∀x,BQ T n W m w (aE x) (a.eval x)):∀xs:List Operand,BR T n W m w (xs.map aE) (xs.map a.eval)
 |[]=>rfl
 |x::xs=>⟨_,_,rfl,h x,BR.of_map h xs⟩
theorem Ld {a:Act}{o:Oper}{b:Builtin}{args:Array Operand}{au:Array TypeId}(h:o.op= .call { callee:= .builtin b,args,argTypes:=au }):
  (execOp a.eval o).run P w=(builtin b au o.type (args.map fun| .const _=>true|_=>false) (args.map a.eval)).run P w:=by
 simp only[execOp,h,resolve,invoke,Ar,Ay,Aq];rfl
theorem Xc (h:sx P t c m g=some r)(E:New T g.n r.us)(hm:BX T g.n W m w)(p:BQ T g.n W m w c v)(au:Array TypeId)(q:au[0]? =some t)(aR:TypeId):
  ∃z,(Builtin.len_ au aR #[v]).run P w= .ok z w/\r.m=m/\BQ T (g.n+r.us.length) W m w r.c z:=by
 unfold sx at h;split at h
 .rename_i e i;split at h
  .cases h;rw[show v=_ from p];exact⟨.int .i64 0,by simp[Builtin.len_,q,run_underlying i,CV.value,goInt],rfl,rfl⟩
  .cases h;obtain⟨⟨N,_⟩,j,a,I,O,⟨C,X⟩,rfl,_⟩:=p;exact⟨.int .i64 j,by simp[Builtin.len_,q,run_underlying i,goInt];omega,rfl,N,j,O,rfl,C,X⟩
  .cases h;obtain⟨b,_,rfl,_⟩:=p;exact⟨.int .i64 _,by simp[Builtin.len_,q,run_underlying i,goInt],rfl,rfl⟩
  .split at h
   .rename_i ks rl hq;cases h;obtain⟨l,hl,H,_,a,I,rfl,_,_⟩:=HH hq p;refine⟨.int .i64 l.length,by simp[Builtin.len_,q,run_underlying i,goInt],LT,?_⟩;exact Ie E (by simp[Vx.eval,Ex.eval,SQ,u0,hl,U.toL]) (by omega) (by omega) (fun y D=>by cases D)
   .cases h
 .rename_i i;split at h
  .rename_i s;cases h;rw[show v=_ from p];exact⟨.int .i64 s.size,by simp[Builtin.len_,q,run_underlying i,CV.value,goInt],rfl,rfl⟩
  .rename_i y;cases h;obtain⟨D,s,aa,rfl,H⟩:=p;refine⟨.int .i64 s.size,by simp[Builtin.len_,q,run_underlying i,goInt],LT,?_⟩;exact Ie E (by simp[Vx.eval,Ex.eval,js,u0,aa,U.toS,Rf.eval]) (by omega) (by omega) (fun y D=>by cases D)
  .cases h
 .rename_i kt et i;split at h
  .rename_i id;split at h
   .rename_i a0 al ka aM aT a2;cases h;obtain⟨b,ba,rfl,_⟩:=p;have F:=hm.blk id;rw[a2] at F;obtain⟨bl,l,b',ay,a5,Y,M,hb,a6,H,_⟩:=F;rw[ba] at M;cases M;have ax:(getObj b).run P w= .ok (.map ay.toArray a5) w:=by simp[getObj,Sem.run,hb]
    refine⟨.int .i64 l.length,by simp[Builtin.len_,q,run_underlying i,ax,goInt,a6],LT,?_⟩;exact Ie E (by simp[Vx.eval,Ex.eval,SQ,u0,Rf.eval,Y,U.toL]) (by omega) (by omega) (fun y D=>by cases D)
   .cases h
  .cases h
 .cases h
end
section
variable {P:Program}{T:Tab}{n ap:Nat}{W ad:Nat->Option Nat}{m ag:Mem}{w ac:World}{g:G}{r:R}
theorem aD (z:BX T n W m w)(b1:n<=ap){id x y L aF:Nat}{ks X:List Kd}{e:TypeId}(a2:m.at id= .mrow x y ks e)(b6:L < ap)(b7:aF < ap)(ca:n<=aF)(F:∀j,j≠id-> ad j= W j)
  (os:ac.os=w.os) (tape:ac.tape=w.tape) (output:ac.output=w.output) (size:w.heap.size<=ac.heap.size)
  (a3:∀k,k < w.heap.size-> W id≠some k->ac.heap[k]? =w.heap[k]?)
  (bo:∀b', ad id=some b'-> W id=some b'\/w.heap.size<=b') (b9:X.length=ks.length) (bx:X≠[])
  {q:List (List U)} (hT:T L= .list q) (bm:T aF= .int q.length) (hq:q.length<=BT)
  (bs:(ad id=none/\q=[])\/∃b Y us, ad id=some b/\ac.heap[b]? =some (.cells (Y++us:List Value).toArray e (0,0))/\Bu (Bt T W m w) w X q Y/\∀off,T.fr b off):
  BY T n W m w ad (m.set id (.mrow L aF X e)) ac/\BX T ap ad (m.set id (.mrow L aF X e)) ac:=by
 have b0:m.at id≠ .pad:=by rw[a2];exact fun h=>by cases h
 have E:∀j,Mem.at (m.set id (.mrow L aF X e)) j=if j=id then .mrow L aF X e else m.at j:=fun j=>Hw m id (.mrow L aF X e) j b0
 have M:(m.at id).tracked=true:=by rw[a2];rfl
 have aa:BY T n W m w ad (m.set id (.mrow L aF X e)) ac:={
  os:=os
  tape:=tape
  output:=output
  size:=size
  mlen:=fun j h=>by rw[E j];split<;>first|exact (fun h=>by cases h)|exact h
  rho:=fun j h=>by
   have p:j≠id:=fun e'=>by subst e';rw[a2] at h;cases h
   grind
  untr:=fun j h i=>by
   grind
  fresh:=fun j b h i D=>by
   rw[E j] at i;split at i
   .grind
   .rw[h] at i;cases i
  old:=fun k hk b2=>a3 k hk (b2 id M)
  tok:=fun j x kx e' h=>by
   have p:j≠id:=fun e'=>by subst e';rw[a2] at h;cases h
   refine .inl ⟨by rw[E j,BG p];exact h,F j p,fun b D=>a3 b (z.lt (by rw[h];rfl) D) (fun H=>?_)⟩;exact p (z.inj j id b (by rw[h];rfl) M D H)
  row:=fun j aw y2 kx e' h=>by
   by_cases p:j=id
   .grind
   .refine .inr ⟨aw,y2,kx,by rw[E j,BG p];exact h,rfl,.inl ⟨rfl,F j p,fun b Y D hv=>⟨Y,?_,rfl⟩⟩⟩;rw[a3 b (z.lt (by rw[h];rfl) D) (fun H=>p (z.inj j id b (by rw[h];rfl) M D H))];exact hv }
 refine⟨aa,⟨fun j=>?_,fun j j' b i b4 O C=>?_,fun b off h=>z.fr b off (AV aa.size h)⟩⟩
 .by_cases p:j=id
  .subst p;rw[E j,BH rfl];refine⟨⟨b6,b7⟩,q,hT,bm,⟨hq,bx⟩,?_⟩;rcases bs with h|⟨b,Y,us,O,C,h3,h4⟩
   .exact .inl h
   .exact .inr ⟨b,Y,us,O,C,Bu.mono (fun _ _ h=>aa.safe0 h) h3,h4⟩
  .by_cases i:(m.at j).tracked=true
   .refine Cj.step aa z b1 (by rw[E j,BG p]) (F j p) (fun b D=>a3 b (z.lt i D) (fun H=>p (z.inj j id b i M D H)))
   .rw[E j,BG p];cases N:m.at j with
    |pad=>trivial
    |gone=>trivial
    |cells=>rw[N] at i;exact absurd rfl i
    |lp=>rw[N] at i;exact absurd rfl i
    |tok=>rw[N] at i;exact absurd rfl i
    |mrow=>rw[N] at i;exact absurd rfl i
    |mapb=>rw[N] at i;exact absurd rfl i
 .have tr:∀k,(Mem.at (m.set id (.mrow L aF X e)) k).tracked=true->(m.at k).tracked=true:=fun k hk=>by
   grind
  have one:∀j b,(m.at j).tracked=true->j≠id-> ad j=some b-> ad id=some b->False:=by
   intro j b i p O C;rw[F j p] at O;rcases bo b C with h3|h3
   .exact p (z.inj j id b i M O h3)
   .have:=z.lt i O;omega
  by_cases p:j=id
  .grind
  .by_cases bt:j'=id
   .grind
   .rw[F j p] at O;rw[F j' bt] at C;exact z.inj j j' b (tr j i) (tr j' b4) O C
theorem VA {au:Array TypeId}{id y:Nat}{E:List Kd}{aJ:Rf}{v u:Value}(h:Z2 P au id y E aJ m g=some r)(dj:New T g.n r.us)(eo:∀q∈r.ps,q.holds T)(hm:BX T g.n W m w)(aa:BQ T g.n W m w (.mr id y) v)(hx:Src T W m w E (aJ.eval T) u)(aR:TypeId):
  ∃z ac ad,(Builtin.append_ au aR #[v,u]).run P w= .ok z ac/\BY T g.n W m w ad r.m ac/\BX T (g.n+r.us.length) ad r.m ac/\BQ T (g.n+r.us.length) ad r.m ac r.c z:=by
 unfold Z2 at h;simp only[AD,AA] at h;obtain⟨t,e7,h⟩:=h;split at h
 .rename_i e ht;simp only[AA] at h;obtain⟨i,ab,z,hz,h⟩:=h;split at h
  .rename_i x aF k1 e' bl;split at h
   .rename_i hc;obtain⟨⟨rfl,rfl⟩,et,er,d2,ca,bo,cx⟩:=hc;cases h;obtain rfl:au= #[t,t]:=Array.ext' (Hj _ _ et);obtain⟨aj,a2,c2,c5,rfl,_,_,M,e2,ds⟩:=hx;have a6:M.length=aj.length*i.size:=by rw[e2.len,ca]
    obtain⟨⟨e9,en⟩,j,b8,I,d0,⟨e4,e5⟩,rfl,⟨e0,_⟩,cl⟩:=aa;have dd:=hm.blk id;rw[bl] at dd;obtain⟨⟨e8,_⟩,af,c8,c9,⟨e6,_⟩,de⟩:=dd;have d9:j=af.length:=by rw[d0] at c9;exact U.int.inj c9
    subst d9;simp only[Int.toNat_natCast] at*;have cb:T g.n= .list (af++aj):=by
     rw[dj.head];simp[Ex.eval,UT,u0,u1,eve,c8,c5,U.toL]
    have bx:(af++aj).length=af.length+aj.length:=AP;have cc:T (g.n+1)= .int (af++aj).length:=by
     have:=dj 1 ⟨ "len",SQ,[.e g.n]⟩ rfl;rw[this];simp only[Ex.eval,SQ,u0,AT,An,eve,cb,U.toL]
    have b3:=eo ⟨ "fits " ++toString i.bytes,Io i.bytes,[.e x,aJ]⟩ (by simp);simp only[Pr.holds,Io,u0,u1,AT,An,eve,c8,c5,U.toL] at b3;have hb:=kH d2 b3;have b1:=WI er ca bo;have ej:E≠[]:=fun h=>by rw[h] at ca;simp at ca;omega
    generalize ee:Ib k1 E=ks at*;have cj:ks≠[]:=fun h=>by rw[h] at b1;simp at b1;omega
    have db:Mem.at (m.set id (.mrow g.n (g.n+1) ks e)) id= .mrow g.n (g.n+1) ks e:=by rw[Hw m id _ id en,BH rfl]
    have mk:∀{ad:Nat->Option Nat} {ac:World} {a:Option Addr} {N:Nat},BY T g.n W m w ad (m.set id (.mrow g.n (g.n+1) ks e)) ac->af.length+aj.length<=N->S5 ad ac id ks e a N->
      BQ T (g.n+2) ad (m.set id (.mrow g.n (g.n+1) ks e)) ac (.mr id (g.n+1)) (.slice a (af.length+aj.length) N):=by
     intro ad ac a N _ hN hL;refine⟨⟨by omega,by rw[db];exact fun h=>by cases h⟩,((af++aj).length:Nat),a,N,cc,⟨by omega,by have:=hb.1;rw[bx];omega⟩,by rw[bx,Int.toNat_natCast],⟨by rw[bx];omega,fun hp=>?_⟩,fun aw fd e2 hk=>?_⟩
     .rcases hL with⟨_,q⟩|⟨b,Y,_,q,_⟩
      .rw[bx] at hp;omega
      .exact⟨b,q⟩
     rw[db] at hk;cases hk;exact hL
    have cu:∀{p:List Value},Bu (Bt T W m w) w k1 af p->Bu (Bt T W m w) w ks (af++aj) (p++M):=fun e1=>by
     rw[<-ee];exact e1.app e2 (fun h=>by rw[h] at bo;simp at bo;omega) ej (fun _=>by omega)
    rcases yN aj.length with hk|hk
    .
     have:aj=[]:=A6.1 hk;subst this;have eu:M=[]:=by simpa using a6
     subst eu;simp only[yJ,As,Nat.add_zero] at*;have f:=aD (ad:= W) (ac:=w) (ap:=g.n+2) (L:=g.n) (aF:=g.n+1) (X:=ks) hm (by omega) bl (by omega) (by omega) (by omega) (fun _ _=>rfl) rfl rfl rfl (AE _) (fun _ _ _=>rfl) (fun b' bs=> .inl bs) (by omega) cj cb cc hb.1
      (by
       rcases de with h|⟨b,Y,us,q1,q2,q3,q4⟩
       .exact .inl h
       .exact .inr ⟨b,Y,us,q1,q2,cu q3,q4⟩)
     refine⟨_,w, W,Ei ht ab b8 a2 af.length I c2 (by omega),f.1,f.2,mk f.1 (by omega) ?_⟩;rcases cl x k1 e bl with q|⟨b,Y,q1,q2,q3,q4⟩
     .exact .inl q
     .exact .inr ⟨b,Y,q1,q2,q3,by rw[b1,<-bo];exact q4⟩
    .obtain⟨b2,o2,rfl,d5⟩:=ds hk;have ce:∀j y,M[j]? =some y->w.cell? ((⟨b2,o2,none⟩:Addr).add j)=some y:=fun j y hj=>by rw[DF];exact d5 j y hj
     have grow:∀{p:List Value},Bu (Bt T W m w) w k1 af p->∀{N:Nat} {H:Array Value} {z0:Value},(Builtin.append_ #[t,t] aR #[.slice b8 af.length I,.slice (some ⟨b2,o2,none⟩) aj.length c2]).run P w= .ok z0 (w.drew.alloc (.cells H e))->
       z0= .slice (some ⟨w.heap.size,0,none⟩) (af.length+aj.length) N->af.length+aj.length<=N->H.toList.take ((af.length+aj.length)*i.size)=p++M->N*i.size<=H.size->
       ∃z ac ad,(Builtin.append_ #[t,t] aR #[.slice b8 af.length I,.slice (some ⟨b2,o2,none⟩) aj.length c2]).run P w= .ok z ac/\BY T g.n W m w ad (m.set id (.mrow g.n (g.n+1) ks e)) ac/\BX T (g.n+2) ad (m.set id (.mrow g.n (g.n+1) ks e)) ac/\BQ T (g.n+2) ad (m.set id (.mrow g.n (g.n+1) ks e)) ac (.mr id (g.n+1)) z:=by
      intro p q1 N H z0 a8 ey hN d1 es;subst ey;have b5:=D5 w.drew (.cells H e);have f:=aD (ad:=DX W id w.heap.size) (ac:=w.drew.alloc (.cells H e)) (ap:=g.n+2) (L:=g.n) (aF:=g.n+1) (X:=ks) hm (by omega) bl (by omega) (by omega) (by omega) (fun j hj=>CC _ _ _ hj) rfl rfl rfl (by simp)
       (fun k hk _=>CZ w.drew _ k hk) (fun b' bs=>by rw[CF] at bs;cases bs;exact .inr (AE _)) (by omega) cj cb cc (by rw[bx];exact hb.1)
       (.inr ⟨w.heap.size,p++M,H.toList.drop ((af.length+aj.length)*i.size),CF _ _ _,by
        rw[<-d1,Az,Array.toArray_toList];exact b5,cu q1,fun off=>hm.fr _ off (AE _)⟩)
      exact⟨_,_,_,a8,f.1,f.2,mk f.1 hN (.inr ⟨w.heap.size,_,CF _ _ _,rfl,b5,by rw[b1];exact es⟩)⟩
     have c3:∀(p:List Value) (D:Array Value),p.length=af.length*i.size->(p.toArray++M.toArray++D).toList.take ((af.length+aj.length)*i.size)=p++M:=by
      intro p D hl;rw[Array.toList_append,Array.toList_append];simp only[List.toList_toArray];apply List.take_left';rw[AP,hl,a6,Af]
     rcases de with⟨el,rfl⟩|⟨b,p,a3,b6,cf,q3,d8⟩
     .
      rcases cl x k1 e bl with⟨_,d4⟩|⟨b,Y,q1,_⟩
      .subst d4;cases b8 with
       |none=>
        have a8:=run_append_nil (P:=P) w t aR e i z ht ab hz ⟨b2,o2,none⟩ aj.length c2 M a6 ce hk (by have:=hb.2;simp at this;omega) (by simp at b3;omega);have bt:=grownCap_ge w aj.length 0 e;refine grow (N:=grownCap w aj.length 0 e) (Bu.nil _ _) a8 (by simp) (by simpa using bt) ?_ ?_
        .have:=c3 [] (Builtin.zeroCells z.cells (grownCap w aj.length 0 e - aj.length)) (by simp);simpa using this
        .simp only[Array.size_append,A9,size_zeroCells,cx,a6];rw[<-Af];exact Ab _ (by omega)
       |some a=>
        have a8:=run_append_grow (P:=P) w t aR e i z ht ab hz a 0 0 [] (by simp) (fun j y hj=>by simp at hj) ⟨b2,o2,none⟩ aj.length c2 M a6 ce (by omega) (by have:=hb.2;simpa using this) (growslice_fits (by omega) (by simpa using b3));have bt:=grownCap_ge w (0+aj.length) 0 e;refine grow (N:=grownCap w (0+aj.length) 0 e) (Bu.nil _ _) a8 (by simp) (by simpa using bt) ?_ ?_
        .have:=c3 [] (Builtin.zeroCells z.cells (grownCap w (0+aj.length) 0 e - (0+aj.length))) (by simp);simpa using this
        .simp only[Array.size_append,A9,size_zeroCells,cx,a6,As,AM];rw[<-Af];refine Ab _ ?_;rw[AM] at bt;omega
      .rw[el] at q1;cases q1
     .have ch:p.length=af.length*i.size:=by rw[q3.len,bo]
      rcases cl x k1 e bl with⟨q1,_⟩|⟨b',F,q1,rfl,q5,q6⟩
      .rw[b6] at q1;cases q1
      .rw[b6] at q1;cases q1;rw[cf] at q5;cases q5;rw[bo] at q6;have d6:∀j x,p[j]? =some x->w.cell? ((⟨b,0,none⟩:Addr).add j)=some x:=fun j x hj=>by
        rw[DF,AM,HY cf,AR (AG.1 hj).1];exact hj
       by_cases cs:af.length+aj.length<=I
       .
        have di:af.length*i.size+M.length<=(p++a3).toArray.size:=by
         rw[a6,<-Af];exact AV (Ab _ cs) q6
        have a8:=run_append_room (P:=P) w t aR e i ht ab b af.length I (p++a3).toArray cf ⟨b2,o2,none⟩ aj.length c2 M a6 ce e2.ones cs di;have e3:((p++a3).toArray.toList.take (af.length*i.size)++M++(p++a3).toArray.toList.drop (af.length*i.size+M.length))=(p++M)++a3.drop M.length:=by
         simp only[List.toList_toArray];rw[<-ch,List.take_left' rfl,List.drop_length_add_append]
        rw[e3] at a8;have b5:=setRow_heap w b (p++a3).toArray ((p++M)++a3.drop M.length).toArray e (0,0) cf;have eq:((p++M)++a3.drop M.length).toArray.size=(p++a3).toArray.size:=by
         simp only[A9,AP,Av] at di⊢;omega
        have f:=aD (ad:= W) (ac:=w.setRow b ((p++M)++a3.drop M.length).toArray) (ap:=g.n+2) (L:=g.n) (aF:=g.n+1) (X:=ks) hm (by omega) bl (by omega) (by omega) (by omega) (fun _ _=>rfl) rfl rfl rfl (by simp)
         (fun k _ hk=>EV w b _ k (fun he=>hk (by rw[he];exact b6))) (fun b' bs=> .inl bs) (by omega) cj cb cc (by rw[bx];exact hb.1)
         (.inr ⟨b,p++M,a3.drop M.length,b6,b5,cu q3,d8⟩)
        exact⟨_,_,_,a8,f.1,f.2,mk f.1 cs (.inr ⟨b,_,b6,rfl,b5,by rw[b1,eq];exact q6⟩)⟩
       .have a8:=run_append_grow (P:=P) w t aR e i z ht ab hz ⟨b,0,none⟩ af.length I p ch d6 ⟨b2,o2,none⟩ aj.length c2 M a6 ce (by omega) hb.2 (growslice_fits (by omega) b3);have bt:=grownCap_ge w (af.length+aj.length) I e;refine grow q3 a8 rfl bt (c3 p _ ch) ?_;simp only[Array.size_append,A9,size_zeroCells,cx,ch,a6];rw[<-Af,<-Af];exact Ab _ (by omega)
   .cases h
  .cases h
 .cases h
end
section
variable {P:Program}{T:Tab}{n ap:Nat}{W ad:Nat->Option Nat}{m ag:Mem}{w ac:World}{g:G}{r:R}
def Sy (s:Nat):Nat->List Value->List (List Value)
 |0,_=>[]
 |k+1,l=>l.take s::Sy s k (l.drop s)
theorem Ic (s:Nat):∀(k:Nat) (l:List AC),(Dm s k l).length=k
 |0,_=>rfl
 |k+1,l=>by simp[Dm,Ic s k]
theorem PN (s:Nat):∀(k:Nat) (l:List AC),k*s<=l.length->∀x∈Dm s k l,x.length=s
 |0,_,_=>by simp[Dm]
 |k+1,l,h=>by
  intro x i;have C:k*s+s<=l.length:=by rw[<-Nat.succ_mul];exact h
  simp only[Dm,List.mem_cons] at i;rcases i with rfl|i
  .rw[Ao];omega
  .exact PN s k (l.drop s) (by rw[Av];omega) x i
theorem Vf (s:Nat):∀(k:Nat) (l:List Value),k*s<=l.length->(Sy s k l).flatten=l.take (k*s)
 |0,_,_=>by simp[Sy]
 |k+1,l,h=>by
  have C:k*s+s<=l.length:=by rw[<-Nat.succ_mul];exact h
  simp only[Sy,BK];rw[Vf s k (l.drop s) (by rw[Av];omega),Nat.succ_mul,Nat.add_comm (k*s) s,List.take_add]
theorem RY (s:Nat):∀(k:Nat) (l:List AC) (Y:List Value),BR T n W m w l Y->((Dm s k l).all fun l=>l.all AC.atom)=true->Sx T n W m w (Dm s k l) (Sy s k Y)
 |0,_,_,_,_=>rfl
 |k+1,l,Y,h,ha=>by
  simp only[Dm,List.all_cons,AB] at ha;exact⟨_,_,rfl,ha.1,h.take s,RY s k (l.drop s) (Y.drop s) (h.drop s) ha.2⟩
variable{s x:AC}{u v:Value}{I:Nat}{au:Array TypeId}{t:TypeId}
theorem uW {id off len s:Nat}{l:List AC}{F:TypeId}(hm:BX T n W m w)(X:m.at id= .cells l F)(hx:BQ T n W m w (.asl id off len) u)
  (O:off+len*s<=l.length) (C:0 < s) (h3:0 < len) (H:((Dm s len (l.drop off)).all fun l=>l.all AC.atom)=true):
  (EC (Dm s len (l.drop off))).length=s/\Src T W m w (EC (Dm s len (l.drop off))) (.list ((Dm s len (l.drop off)).map fun l=>l.map fun c=>(Cn c).2.eval T)) u:=by
 obtain⟨b,M,rfl,hp⟩:=hx;have p:=hm.blk id;rw[X] at p;obtain⟨z,Y,i,N,q⟩:=p;obtain rfl:b=z:=by rw[M] at i;exact Option.some.inj i
 have a9:Y.length=l.length:=q.length;have hr:=RY s len (l.drop off) (Y.drop off) (q.drop off) H;have hn:Dm s len (l.drop off)≠[]:=fun h=>by
  have:=Ic s len (l.drop off);grind
 obtain⟨D,E⟩:=R5 C hr (PN s len (l.drop off) (by rw[Av];omega)) hn;refine⟨D,_,some ⟨b,off,none⟩,len,rfl,?_,?_,?_,(Sy s len (Y.drop off)).flatten,E,fun _=>⟨b,off,rfl,fun j x hj=>?_⟩⟩
 .rw[List.length_map,Ic]
 .rw[List.length_map,Ic];exact AE _
 .grind
 .rw[Vf s len (Y.drop off) (by rw[Av];omega)] at hj;rw[HY N];grind
theorem XM (hm:BX T n W m w)(bl:n < ap){e:TypeId}{ks:List Kd}(bi:ks≠[])(q:T n= .list [])
  {aN:World} (hd:aN=w\/aN=w.drew) {H:Array Value} {len:Nat} (ba:len<=I) (hl:len<=68719476736) (bo:I*ks.length<=H.size):
  ∃ ad,BY T n W m w ad (m++[.tok n ks e]) (aN.alloc (.cells H e))/\BX T ap ad (m++[.tok n ks e]) (aN.alloc (.cells H e))/\
   BQ T ap ad (m++[.tok n ks e]) (aN.alloc (.cells H e)) (.rsv m.length n ks) (.slice (some ⟨w.heap.size,0,none⟩) len I):=by
 obtain⟨ad,F,M,N,f3⟩:=eI (ap:=ap) (e:=e) (ks:=ks) (l:=[]) (Y:=[]) hm bl bi (Bu.nil _ _) (by simp[BT]) q hd (H:=H) (I:=I) (fun p hp=>by simp at hp) (Ak _) bo;refine⟨ad,M,N,?_⟩;obtain⟨g0,g1,aw,g3⟩:=f3;refine⟨g0,g1,q,⟨_,_,_,rfl⟩,fun X e' he=>?_⟩;rcases g3 X e' he with⟨h,j⟩|⟨b,bs,Y,h,j,z,D⟩
 .rw[F] at h;cases h
 .obtain⟨i,e2,E⟩:=Value.slice.inj j;obtain rfl:w.heap.size=b:=by injection i with i;injection i
  subst E;exact .inr ⟨_,len,I,Y,h,rfl,⟨ba,hl⟩,z,D⟩
theorem fa (h:Ul P au s x m g=some r)(bc:New T g.n r.us)(b2:∀q∈r.ps,q.holds T)(D:BX T g.n W m w)(aa:BQ T g.n W m w s v)(hx:BQ T g.n W m w x u)(aR:TypeId):
  ∃z ac ad,(Builtin.append_ au aR #[v,u]).run P w= .ok z ac/\BY T g.n W m w ad r.m ac/\BX T (g.n+r.us.length) ad r.m ac/\BQ T (g.n+r.us.length) ad r.m ac r.c z:=by
 unfold Ul at h;split at h
 .rename_i id off len;split at h
  .rename_i l e0 bx;simp only[AD,AA] at h;obtain⟨t,ch,h⟩:=h;split at h
   .rename_i e N;simp only[AA] at h;obtain⟨i,ab,h⟩:=h;split at h
    .rename_i hc;obtain⟨O,C,h3,h4,h5⟩:=hc;simp only[AA] at h;obtain⟨r0,dn,h⟩:=h;cases h;obtain⟨c2,c3⟩:=uW D bx hx O C h3 h5;have p:T g.n= .list ((Dm i.size len (l.drop off)).map fun l=>l.map fun c=>(Cn c).2.eval T):=by
      have e1:=bc.head;have e2:=SH (T:=T) (s:=i.size) ((Dm i.size len (l.drop off)).map fun l=>l.map fun c=>(Cn c).2) (fun ak hl=>by
       simp only[BL] at hl;obtain⟨aj,dd,rfl⟩:=hl;rw[List.length_map];exact PN i.size len (l.drop off) (by rw[Av];omega) aj dd)
      rw[e1];simp only[Ex.eval,aH,V0];simp only[List.length_map,Ic] at e2;rw[e2];simp[List.map_map,Function.comp_def]
     have dj:BX T (g.n+1) W m w:=D.mono (by omega);have d0:BQ T (g.n+1) W m w s v:=aa.up D (by omega);have dk:New T (g.n+1) r0.us:=fun j u hj=>by
      have:=bc (j+1) u (by simpa using hj);grind
     obtain⟨z,ac, ad,k1,E,k3,k4⟩:=gk (g:={ g with n:=g.n+1 }) dn dk b2 dj d0 (u:=u) (by rw[show (Rf.e g.n).eval T=T g.n from rfl,p];exact c3) aR;have en:g.n+(r0.us.length+1)=g.n+1+r0.us.length:=by omega
     exact⟨z,ac, ad,k1,E.down (by show g.n<=g.n+1;omega),by simp only[Ad];rw[en];exact k3,by simp only[Ad];rw[en];exact k4⟩
    .cases h
   .cases h
  .cases h
 .rename_i id y kr;simp only[AD,AA] at h;obtain⟨t,ch,h⟩:=h;split at h
  .rename_i e aF ky ey ht bx;simp only[AA] at h;obtain⟨i,ab,z,hz,h⟩:=h;split at h
   .rename_i hc;obtain⟨b3,es,ca,c6,rfl,db,M,b6⟩:=hc;cases h;obtain rfl:au= #[t,t]:=by
     have:=Hj _ _ b3;exact Array.ext' this
    have hv:v= .slice none 0 0:=aa;subst hv;have b1:kr≠[]:=fun h=>by rw[h] at M;simp at M;omega
    have p:T g.n= .list []:=by rw[bc.head];rfl
    obtain⟨hy,eq,el,⟨d8,e3,ee,eu⟩,di⟩:=hx;have cj:∀a c,∃z ac ad,(Builtin.append_ #[t,t] aR #[.slice none 0 0,.slice a 0 c]).run P w= .ok z ac/\BY T g.n W m w ad (m++[.tok g.n kr e]) ac/\BX T (g.n+1) ad (m++[.tok g.n kr e]) ac/\BQ T (g.n+1) ad (m++[.tok g.n kr e]) ac (.rsv m.length g.n kr) z:=by
     intro a c;obtain⟨ad,f1,f2,g0,g1,aw,g3⟩:=XP (ap:=g.n+1) (e:=e) (ks:=kr) D (by omega) p;refine⟨_,w, ad,Ei ht ab none a 0 0 c (AE _),f1,f2,g0,g1,p,⟨_,_,_,rfl⟩,fun X e' he=>?_⟩;rcases g3 X e' he with⟨a2,a3⟩|⟨b,cx,Y,a2,a3,cs,cu⟩
     .exact .inl ⟨a2,rfl⟩
     .cases a3
    rcases di ky ey bx with⟨_,N⟩|⟨b,len,I,Y,hb,N,⟨de,cc⟩,c7,cb⟩
    .subst N;exact cj none 0
    .subst N;rcases yN len with F|F
     .subst F;exact cj _ I
     .have d1:len*i.size<=Y.size:=by
       rw[db] at cb;exact AV (Ab _ de) cb
      have dv:=run_append_nil (P:=P) w t aR e i z ht ab hz ⟨b,0,none⟩ len I (Y.toList.take (len*i.size)) (by rw[Ao,Array.length_toList];omega) (fun j x hj=>by
       have c9:=(AG.1 hj).1;rw[Ao] at c9;rw[List.getElem?_take_of_lt (by omega)] at hj;rw[DF,AM,HY (Y:=Y.toList) (by rw[Array.toArray_toList];exact c7)];exact hj) F (by omega) (AV (Nat.mul_le_mul cc c6) (by decide))
      have bs:=grownCap_ge w len 0 e;obtain⟨ad,f1,f2,f3⟩:=XM (e:=e) (ap:=g.n+1) (len:=len) D (by omega) b1 p (.inr rfl) (H:=(Y.toList.take (len*i.size)).toArray++Builtin.zeroCells z.cells (grownCap w len 0 e - len)) (I:=grownCap w len 0 e) bs cc (by
       simp only[Array.size_append,A9,size_zeroCells,b6,Ao,Array.length_toList,Nat.min_eq_left d1,M];rw[<-Af];exact Ab _ (by omega))
      grind
   .cases h
  .cases h
 .rename_i x _ _;split at h
  .rename_i k e4 eo rn c8;simp only[AD,AA] at h;obtain⟨t,ch,tn,et,h⟩:=h;split at h
   .rename_i e kn N ci;simp only[AA] at h;obtain⟨i,ab,z,hz,l,hl,h⟩:=h;split at h
    .rename_i hc;obtain⟨b3,dm,M,b6,ca⟩:=hc;cases h;obtain rfl:au= #[t,tn]:=Array.ext' (Hj _ _ b3);have hv:v= .slice none 0 0:=aa;subst hv;obtain⟨n,rfl,er,_,_⟩:=Cw c8 hx;have hp:=b2 _ (Al.2 rfl);simp only[Pr.holds,FH,AT,An,u0,er,U.toI] at hp;obtain⟨p0,p1⟩:=hp;obtain⟨n,rfl⟩:∃k:Nat,n=k:=⟨n.toNat,by omega⟩;have p:T g.n= .list []:=by rw[bc.head];rfl
     have b1:(l.map fun c=>(Cn c).1)≠[]:=fun h=>by rw[h] at M;simp at M;omega
     rcases yN n with F|F
     .subst F;obtain⟨ad,f1,f2,g0,g1,aw,g3⟩:=XP (ap:=g.n+1) (e:=e) (ks:=l.map fun c=>(Cn c).1) D (by omega) p;refine⟨.slice none 0 0,w, ad,?_,f1,f2,g0,g1,p,⟨_,_,_,rfl⟩,fun X e' he=>?_⟩
      .have d2:IntKind.i64.wrap 0=0:=by decide
       simp[Builtin.append_,run_underlying N,run_underlying ci,sizeOf,typeInfo,ab,asInt,asIntOf,d2]
      .rcases g3 X e' he with⟨a2,a3⟩|⟨b,cx,Y,a2,a3,cs,cu⟩
       .exact .inl ⟨a2,rfl⟩
       .cases a3
     .have dv:=Go.Lib.run_append_nil_zeros (P:=P) w t tn aR e i z k kn N ci ab hz n F dm (by omega) (AV (Nat.mul_le_mul (show n<=68719476736 by omega) ca) (by decide));have bs:=grownCap_ge w n 0 e;obtain⟨ad,f1,f2,f3⟩:=XM (e:=e) (ap:=g.n+1) (len:=n) D (by omega) b1 p (.inr rfl) (H:=Builtin.zeroCells z.cells n++Builtin.zeroCells z.cells (grownCap w n 0 e - n)) (I:=grownCap w n 0 e) bs (by omega) (by
       simp only[Array.size_append,size_zeroCells,b6,M];rw[<-Af];exact Ab _ (by omega))
      grind
    .cases h
   .cases h
  .simp only[AD,AA] at h;obtain⟨⟨E,aJ⟩,ds,h⟩:=h;exact gk h bc b2 D aa (Jo (HH ds hx)) aR
theorem mG (h:XI P au s x m g=some r)(j:New T g.n r.us)(p:∀q∈r.ps,q.holds T)(i:BX T g.n W m w)(aa:BQ T g.n W m w s v)(D:BQ T g.n W m w x u)(aR:TypeId):
  ∃z ac ad,(Builtin.append_ au aR #[v,u]).run P w= .ok z ac/\BY T g.n W m w ad r.m ac/\BX T (g.n+r.us.length) ad r.m ac/\BQ T (g.n+r.us.length) ad r.m ac r.c z:=by
 unfold XI at h;split at h
 .simp only[AD,AA] at h;obtain⟨⟨E,aJ⟩,F,h⟩:=h;exact VA h j p i aa (Jo (HH F D)) aR
 .exact fa h j p i aa D aR
theorem E2 {v:Int}{k:IntKind}{y:Nat}{c:BoundsCode}(h:0<=v)(O:v<=y):(Instr.sliceBound (.int k v) y c).run P w= .ok v.toNat w:=by
 simp[Instr.sliceBound,asIntOf,h,O]
theorem li {ok:Nat->Nat->Prop}{ks:List Kd}{l:List (List U)}{a:Option Addr}{ar ab size:Nat}(q:ks≠[])(X:size=ks.length)(H:l.length<=BT)(M:ar<=ab)(E:ab<=l.length)(D:l.length<=I)
  (j:0 < l.length->∃b o,a=some ⟨b,o,none⟩/\∀i us,l[i]? =some us->Bw ok w ks b (o+i*ks.length) us):
  Bk ok w (.list ks) (.list ((l.take ab).drop ar)) (.slice (if I=ar then a else a.map (·.add (ar*size))) (ab - ar) (I - ar)):=by
 have p:((l.take ab).drop ar).length=ab - ar:=by rw[Av,Ao];omega
 refine⟨_,rfl,by omega,fun h=>absurd h q,(if I=ar then a else a.map (·.add (ar*size))),I - ar,by rw[p],by omega,fun N=>?_⟩;obtain⟨b,o,rfl,z⟩:=j (by omega);refine⟨b,o+ar*size,?_,fun i us F=>?_⟩
 .rw[BG (by omega)];simp only[BC,DF]
 .grind
def QP (T:Tab)(n:Nat)(W :Nat->Option Nat)(m:Mem)(w:World):Option AC->Option Value->Prop
 |none,v=>v=none
 |some c,v=>∃u,v=some u/\BQ T n W m w c u
theorem SA {ar ab:Option AC}{J V:Option Value}(h:Li P t x ar ab m g=some r)(bi:New T g.n r.us)(bl:∀q∈r.ps,q.holds T)(hm:BX T g.n W m w)(hx:BQ T g.n W m w x v)
  (N:QP T g.n W m w ar J) (M:QP T g.n W m w ab V):
  ∃z,(Instr.sliceAt t v J V none).run P w= .ok z w/\r.m=m/\BQ T (g.n+r.us.length) W m w r.c z:=by
 unfold Li at h;split at h
 .rename_i k e F;split at h
  .rename_i id off;split at h
   .rename_i b5;cases h;obtain⟨i,ab⟩:=Option.isSome_iff_exists.1 b5;obtain⟨b,hb,rfl,p⟩:=hx;obtain rfl:J=none:=N;obtain rfl:V=none:=M;refine⟨.slice (some ⟨b,off,none⟩) k k,?_,rfl,b,hb,rfl,p⟩;simp only[Instr.sliceAt,Ar,run_underlying F,Aq,Instr.sureAddr,Ay,Instr.sliceBounds,Cc ab,Nat.zero_mul,Nat.sub_zero,DF,Nat.add_zero,ite_self]
   .cases h
  .cases h
 .rename_i e F;have b4:∀v ar ab,(Instr.sliceAt t v ar ab none).run P w=(Instr.slice t v ar ab none).run P w:=by
   intro v ar ab;simp only[Instr.sliceAt,Ar,run_underlying F,Aq]
  rw[b4];simp only[AD,AA] at h;obtain⟨i,ax,h⟩:=h;split at h
  .rename_i k n0;split at h
   .rename_i hn;subst hn;cases h;obtain rfl:v= .slice none 0 0:=hx;obtain rfl:J=none:=N;obtain⟨u,rfl,D⟩:=M;obtain rfl:u= .int k 0:=D;refine⟨.slice none 0 0,?_,rfl,rfl⟩;simp[Instr.slice,run_underlying F,Instr.sliceBounds,E2,Cc ax]
   .cases h
  .rename_i id y ks k n0;split at h
   .rename_i hn;subst hn;cases h;obtain⟨hy,b9,a8,⟨bo,c1,a2,rfl⟩,b6⟩:=hx;obtain rfl:J=none:=N;obtain⟨u,rfl,D⟩:=M;obtain rfl:u= .int k 0:=D;refine⟨.slice (if a2=0 then bo else bo.map (·.add (0*i.size))) 0 a2,?_,rfl,hy,b9,?_,fun X e' he=>?_⟩
    .simp[Instr.slice,run_underlying F,Instr.sliceBounds,E2,Cc ax]
    .rw[a8];exact⟨[],rfl,Ak _,fun _=>rfl,_,a2,rfl,Ak _,fun h=>by simp at h⟩
    .rcases b6 X e' he with⟨af,aj⟩|⟨b,len,I,Y,af,aj,⟨l3,_⟩,l4,l5⟩
     .cases aj;exact .inl ⟨af,none,by rw[a8];rfl⟩
     .cases aj;refine .inr ⟨b,a2,Y,af,?_,l4,l5⟩;rw[a8];simp[U.toL,DF]
   .cases h
  .rename_i x ar ab _ _;simp only[AA] at h;obtain⟨⟨ks,r0⟩,ca,h⟩:=h;simp only at h;split at h
   .rename_i hc;obtain⟨bm,cv⟩:=hc;have b8:ks≠[]:=fun h=>by rw[h] at bm;simp at bm;omega
    obtain⟨l,H,b7,hk,a,I,rfl,b2,h3⟩:=HH ca hx;have ba:∀{f:List U->U} {tg:Tg} {ah:List Rf} {cj:List Ex},New T g.n (⟨tg,f,ah⟩::cj)->T g.n=f (ah.map (Rf.eval T)):=fun h=>h.head;have a6:∀(ar ab:Nat) (ak:List (List U)),ar<=ab->ab<=l.length->ak=(l.take ab).drop ar->T g.n= .list ak->BQ T (g.n+1) W m w (.ro g.n ks) (.slice (if I=ar then a else a.map (·.add (ar*i.size))) (ab - ar) (I - ar)):=by
     intro ar ab ak O C h4 h5;refine⟨by omega,?_⟩;rw[h5,h4];exact li b8 bm b7 O C b2 h3
    split at h
    .
     simp only[AA] at h;obtain⟨⟨k,af,O,rb⟩,hb,h⟩:=h;cases h;obtain rfl:J=none:=N;obtain⟨u,rfl,D⟩:=M;obtain⟨j,rfl,E,_,_⟩:=Cw hb D;have p:=bl _ (Al.2 rfl);simp only[Pr.holds,ML,AT,An,u0,u1,H,E,U.toI,U.toL] at p;refine⟨_,?_,rfl,a6 0 j.toNat (l.take j.toNat) (Ak _) (by omega) rfl ((ba bi).trans ?_)⟩
     .simp only[Instr.slice,Ar,run_underlying F,Aq,Instr.sliceBounds,Ay,E2 (P:=P) (w:=w) (k:=k) (c:= .sliceAcap) p.1 (show j<=(I:Int) by omega),Cc ax,if_true]
     .simp[P0,u0,u1,H,E,U.toI,U.toL]
    .simp only[AA] at h;obtain⟨⟨k,af,O,ra⟩,ha,h⟩:=h;cases h;obtain rfl:V=none:=M;obtain⟨u,rfl,D⟩:=N;obtain⟨j,rfl,E,_,_⟩:=Cw ha D;have p:=bl _ (Al.2 rfl);simp only[Pr.holds,ML,AT,An,u0,u1,H,E,U.toI,U.toL] at p;refine⟨_,?_,rfl,a6 j.toNat l.length (l.drop j.toNat) (by omega) (AE _) (by rw[BD]) ((ba bi).trans ?_)⟩
     .simp only[Instr.slice,Ar,run_underlying F,Aq,Instr.sliceBounds,Ay,E2 (P:=P) (w:=w) (k:=k) (c:= .sliceB) p.1 p.2,Cc ax,Option.isSome_none,AZ,if_false]
     .simp[lO,u0,u1,H,E,U.toI,U.toL]
    .simp only[AA] at h;obtain⟨⟨k,af,O,ra⟩,ha,⟨k',cy,cl,rb⟩,hb,h⟩:=h;cases h;obtain⟨u,rfl,D⟩:=N;obtain⟨j,rfl,E,_,_⟩:=Cw ha D;obtain⟨u,rfl,D⟩:=M;obtain⟨q,rfl,eq,_,_⟩:=Cw hb D;have p:=bl _ (Al.2 rfl);simp only[Pr.holds,sT,AT,An,u0,u1,u2,H,E,eq,U.toI,U.toL] at p;refine⟨_,?_,rfl,a6 j.toNat q.toNat ((l.take q.toNat).drop j.toNat) (by omega) (by omega) rfl ((ba bi).trans ?_)⟩
     .have hq:(q.toNat:Int)=q:=by omega
      simp only[Instr.slice,Ar,run_underlying F,Aq,Instr.sliceBounds,Ay,E2 (P:=P) (w:=w) (k:=k') (c:= .sliceAcap) (show 0<=q by omega) (show q<=(I:Int) by omega),E2 (P:=P) (w:=w) (k:=k) (c:= .sliceB) p.1 (show j<=((q.toNat:Nat):Int) by omega),Cc ax,if_true,Option.isSome_none,AZ,if_false]
     .simp[rU,u0,u1,u2,H,E,eq,U.toI,U.toL]
    .cases h
   .cases h
 .cases h
theorem Zj {a:Act}{o:Oper}{x y:Operand}{Q p:AC}(h:RT P t Q p m g=some r)(bo:New T g.n r.us)(bt:∀q∈r.ps,q.holds T)(hm:BX T g.n W m w)
  (ho:o.op= .makeSlice t x y) (hx:BQ T g.n W m w Q (a.eval x)) (hy:BQ T g.n W m w p (a.eval y)):Cd T g W m w ((execOp a.eval o).run P w) r:=by
 unfold RT at h;split at h
 .rename_i e hu;simp only[AD,AA] at h;obtain⟨i,ab,z,hz,⟨k,l0,D,aI⟩,X,l,hl,h⟩:=h;simp only at h;split at h
  .rename_i hc;obtain⟨a9,rfl,cb,E,cc,b8⟩:=hc;cases h;obtain rfl:Q=p:=AC.beq_eq _ _ a9;obtain⟨n,en,M,_,_⟩:=Cw X hx;obtain⟨ap,ax,N,_,_⟩:=Cw X hy;obtain rfl:n=ap:=by rw[M] at N;injection N
   have Y:=bt _ (Al.2 rfl);simp only[Pr.holds,FH,AT,An,u0,M,U.toI] at Y;obtain⟨p0,p1⟩:=Y;have hT:T g.n= .list []:=by rw[bo.head];rfl
   have hw:IntKind.i64.wrap n=n:=by
    exact GO .i64 n (by rw[show IntKind.i64.min= -9223372036854775808 from rfl];omega) (by rw[show IntKind.i64.max=9223372036854775807 from rfl];omega)
   have ca:i.bytes*n<=2 ^ 48:=by
    have:(i.bytes:Int)*n<=1024*68719476736:=Int.mul_le_mul (by omega) p1 p0 (by decide);omega
   have F:∃j:Array Value,j.size=n.toNat*i.size/\(execOp a.eval o).run P w= .ok (.value (.slice (some ⟨w.heap.size,0,none⟩) n.toNat n.toNat)) (w.alloc (.cells j e)):=by
    have b0:(typeInfo e).run P w= .ok i w:=by simp[typeInfo,ab]
    have bc:¬(i.bytes*n > 2 ^ 48):=by omega
    have bi:¬(n < 0):=by omega
    simp only[execOp,ho,Instr.makeSlice,Ar,run_underlying hu,Aq,asInt,asIntOf,en,ax,Ay,b0,hw,bc,bi,decide_false,Bool.or_self,AZ,gt_iff_lt,Int.lt_irrefl,if_false,run_askRoom,Cc ab];by_cases D:n.toNat*i.size=0
    .refine⟨(Array.range (n.toNat*i.size)).map (fun x=>(#[]:Array Value)[x % (#[]:Array Value).size]!),by simp,?_⟩;simp only[D,if_true,Ay,Aq,newRow];simp
    .refine⟨(Array.range (n.toNat*i.size)).map (fun x=>z.cells[x % z.cells.size]!),by simp,?_⟩;simp only[D,if_false,Ar,JA ab hz,Ay,Aq,newRow];simp
   obtain⟨j,bx,F⟩:=F;have bm:(l.map fun c=>(Cn c).1)≠[]:=fun h=>by rw[h] at E;simp at E;omega
   obtain⟨ad,f1,f2,f3⟩:=XM (e:=e) (ap:=g.n+1) (len:=n.toNat) (I:=n.toNat) hm (by omega) bm hT (.inl rfl) (H:=j) (AE _) (by omega) (by rw[E,bx];exact AE _);exact⟨_,_, ad,.inl F,f1,f2,f3⟩
  .cases h
 .cases h
theorem ut {i:Bool}{z:Value}(h:(if i then Builtin.max_ au t #[v,u] else Builtin.min_ au t #[v,u]).run P w= .ok z w):
  ((if i then Builtin.max2 else Builtin.min2) v u).run P w= .ok z w:=by
 cases i with
 |true=>simpa [Builtin.max_] using h
 |false=>simpa [Builtin.min_] using h
theorem Np {q:Bool}:∀(l:List AC) (x:AC) (v:Value) (us:List Value) (g:G) (r:R),TA q x l m g=some r->New T g.n r.us->BQ T g.n W m w x v->BR T g.n W m w l us->
  ∃z,(us.foldlM (if q then Builtin.max2 else Builtin.min2) v).run P w= .ok z w/\r.m=m/\BQ T (g.n+r.us.length) W m w r.c z
 |[],x,v,us,g,r,h,hnew,hx,hl=>by
  obtain rfl:us=[]:=hl;cases h;exact⟨v,by simp,rfl,hx⟩
 |y::l,x,v,us,g,r,h,hnew,hx,hl=>by
  obtain⟨u,p,rfl,N,D⟩:=hl;simp only[TA,AD,AA] at h;obtain⟨aB,H,aJ,M,h⟩:=h;cases h;obtain⟨z,X,E,Y⟩:=M5 (P:=P) H (fun j u i=>hnew j u (by rw[AR (AG.1 i).1];exact i)) hx N #[] 0;have F:BR T (g.n+aB.us.length) W m w l p:=BR.mono0 (BY.refl T g.n W m w) (by omega) l p D;obtain⟨z2,q1,q2,q3⟩:=Np l aB.c z p { g with n:=g.n+aB.us.length } aJ M (fun j u i=>by
   have:=hnew (aB.us.length+j) u (by rw[AS (by omega),Nat.add_sub_cancel_left];exact i);rw[<-Nat.add_assoc] at this;exact this) Y F
  refine⟨z2,?_,rfl,?_⟩
  .simp only[List.foldlM_cons,Ar,ut X,Aq];exact q1
  .simp only[AP];rw[<-Nat.add_assoc];exact q3
end
section
variable {P:Program}{T:Tab}{n ap:Nat}{W ad:Nat->Option Nat}{m ag:Mem}{w ac:World}{g:G}{r:R}
variable{x ab a0:AC}{y:Nat}{e t:TypeId}{a:Act}{o:Oper}{aV:Array (Nat × Operand)}{ar:Option AC}{v V a4:Value}{J:Option Value}
theorem av (z:BX T n W m w){x:Nat}(D:x < ap)(hy:y < ap)(bi:n<=ap){ks:List Kd}{l:List (List U)}{Y us:List Value}(bc:ks≠[])(hv:Bu (Bt T W m w) w ks l Y)(hk:l.length<=BT)(hT:T x= .list l)(ax:T y= .int l.length)
  {aN:World} (hd:aN=w\/aN=w.drew) {I:Nat} (bo:l.length<=I) (bl:I*ks.length<=(Y++us).length):
  ∃ ad,BY T n W m w ad (m++[.mrow x y ks e]) (aN.alloc (.cells (Y++us).toArray e))/\BX T ap ad (m++[.mrow x y ks e]) (aN.alloc (.cells (Y++us).toArray e))/\
   BQ T ap ad (m++[.mrow x y ks e]) (aN.alloc (.cells (Y++us).toArray e)) (.mr m.length y) (.slice (some ⟨w.heap.size,0,none⟩) l.length I):=by
 have aw:aN.heap=w.heap:=by rcases hd with rfl|rfl<;>rfl
 have j:=Jm (T:=T) z (.cells (Y++us).toArray e) (.mrow x y ks e);have aa:BY T n W m w (DX W m.length w.heap.size) (m++[.mrow x y ks e]) (aN.alloc (.cells (Y++us).toArray e)):=by
  rcases hd with rfl|rfl
  .exact j
  .exact⟨j.os,j.tape,j.output,j.size,j.mlen,j.rho,j.untr,j.fresh,j.old,j.tok,j.row⟩
 have N:Mem.at (m++[.mrow x y ks e]) m.length= .mrow x y ks e:=by rw[Bj,BH rfl]
 have a2:(aN.alloc (.cells (Y++us).toArray e)).heap[w.heap.size]? =some (.cells (Y++us).toArray e (0,0)):=by
  rw[<-aw];exact D5 _ _
 have a9:∀id E b,(Mem.at (m++[.mrow x y ks e]) id).tracked=true->(Mem.at (m++[.mrow x y ks e]) E).tracked=true->DX W m.length w.heap.size id=some b->DX W m.length w.heap.size E=some b->id=E:=by
  intro id E b i M H F;rw[Bj] at i M;by_cases q:id=m.length
  .by_cases p:E=m.length
   .omega
   .rw[BG p] at M;subst q;rw[CF] at H;cases H;rw[CC _ _ _ p] at F;have:=z.lt M F;omega
  .rw[BG q] at i;rw[CC _ _ _ q] at H;by_cases p:E=m.length
   .subst p;rw[CF] at F;cases F;have:=z.lt i H;omega
   .rw[BG p] at M;rw[CC _ _ _ p] at F;exact z.inj id E b i M H F
 refine⟨_,aa,⟨fun id=>?_,a9,fun b off h=>z.fr b off (AV aa.size h)⟩,⟨hy,by rw[N];exact (fun h=>by cases h)⟩,l.length,some ⟨w.heap.size,0,none⟩,I,ax,⟨by omega,by omega⟩,by simp,⟨by omega,fun _=>⟨_,rfl⟩⟩,fun L X e' p=>?_⟩
 .by_cases q:id=m.length
  .subst q;rw[N];exact⟨⟨D,hy⟩,_,hT,ax,⟨hk,bc⟩,.inr ⟨w.heap.size,Y,us,CF _ _ _,a2,Bu.mono (fun _ _ h=>aa.safe0 h) hv,fun off=>z.fr _ off (AE _)⟩⟩
  .by_cases i:(m.at id).tracked=true
   .refine Cj.step aa z bi (by rw[Bj,BG q]) (CC _ _ _ q) (fun b hb=>?_);have:=z.lt i hb;rw[CZ _ _ _ (by rw[aw];exact this),aw]
   .rw[Bj,BG q];cases D:m.at id with
    |pad=>trivial
    |gone=>trivial
    |cells=>rw[D] at i;exact absurd rfl i
    |lp=>rw[D] at i;exact absurd rfl i
    |tok=>rw[D] at i;exact absurd rfl i
    |mrow=>rw[D] at i;exact absurd rfl i
    |mapb=>rw[D] at i;exact absurd rfl i
 .rw[N] at p;cases p;exact .inr ⟨w.heap.size,_,CF _ _ _,rfl,a2,by simpa using bl⟩
theorem dG (F:BX T n W m w){x:Nat}(q:x < ap)(hy:y < ap)(bc:n<=ap){ks:List Kd}{a:Option Addr}(ba:ks≠[])(hT:T x= .list [])(M:T y= .int 0):
  ∃ ad,BY T n W m w ad (m++[.mrow x y ks e]) w/\BX T ap ad (m++[.mrow x y ks e]) w/\BQ T ap ad (m++[.mrow x y ks e]) w (.mr m.length y) (.slice a 0 0):=by
 let ad:Nat->Option Nat:=fun j=>if j=m.length then none else W j
 have same: ad m.length=none:=by simp[ad]
 have z:∀j,j≠m.length-> ad j= W j:=fun j h=>by simp[ad,h]
 have D:m.at m.length= .pad:=Mem.at_ge (AE _);have aa:BY T n W m w ad (m++[.mrow x y ks e]) w:={
  os:=rfl
  tape:=rfl
  output:=rfl
  size:=AE _
  mlen:=fun id h=>by rw[Bj];split<;>first|exact (fun h=>by cases h)|exact h
  rho:=fun id h=>by
   have:id≠m.length:=fun e=>by subst e;exact Cf h D
   rw[Bj,BG this];grind
  untr:=fun id h i=>by
   have:id≠m.length:=fun e=>by subst e;exact h D
   rw[Bj,BG this] at i;exact i
  fresh:=fun id b h i H=>by
   by_cases e:id=m.length
   .grind
   .rw[Bj,BG e,h] at i;cases i
  old:=fun k hk _=>rfl
  tok:=fun id y ky e h=>by
   have:id≠m.length:=fun e=>by subst e;rw[D] at h;cases h
   exact .inl ⟨by rw[Bj,BG this];exact h,z _ this,fun b hb=>rfl⟩
  row:=fun id L aF ky e h=>by
   have:id≠m.length:=fun e=>by subst e;rw[D] at h;cases h
   exact .inr ⟨L,aF,ky,by rw[Bj,BG this];exact h,rfl,.inl ⟨rfl,z _ this,fun b Y hb hv=>⟨Y,hv,rfl⟩⟩⟩ }
 have N:Mem.at (m++[.mrow x y ks e]) m.length= .mrow x y ks e:=by rw[Bj,BH rfl]
 refine⟨ad,aa,⟨fun id=>?_,fun id a6 b i a2 H ax=>?_,fun b off h=>F.fr b off h⟩,⟨hy,by rw[N];exact (fun h=>by cases h)⟩,0,a,0,M,⟨by omega,by omega⟩,rfl,⟨by omega,fun h=>by omega⟩,fun L X e' E=> .inl ⟨same,rfl⟩⟩
 .by_cases p:id=m.length
  .subst p;rw[N];exact⟨⟨q,hy⟩,_,hT,M,⟨Ak _,ba⟩,.inl ⟨same,rfl⟩⟩
  .by_cases i:(m.at id).tracked=true
   .exact Cj.step aa F bc (by rw[Bj,BG p]) (z _ p) (fun b hb=>rfl)
   .rw[Bj,BG p];cases q:m.at id with
    |pad=>trivial
    |gone=>trivial
    |cells=>rw[q] at i;exact absurd rfl i
    |lp=>rw[q] at i;exact absurd rfl i
    |tok=>rw[q] at i;exact absurd rfl i
    |mrow=>rw[q] at i;exact absurd rfl i
    |mapb=>rw[q] at i;exact absurd rfl i
 .by_cases p:id=m.length
  .grind
  .by_cases E:a6=m.length
   .grind
   .rw[Bj,BG p] at i;rw[Bj,BG E] at a2;rw[z _ p] at H;rw[z _ E] at ax;exact F.inj id a6 b i a2 H ax
theorem MY {ks:List Kd}(h:PV P e=some ks):∃i z l,P.info? e=some i/\i.zero=some z/\(Ka z).cellsOf=some l/\l.length=i.size/\0 < i.size/\ks=l.map (fun c=>(Cn c).1)/\ks≠[]:=by
 unfold PV at h;simp only[AD,AA] at h;obtain⟨i,ab,z,q,l,p,h⟩:=h;split at h
 .rename_i j;cases h;refine⟨i,z,l,ab,q,p,j.1,j.2,rfl,fun h=>?_⟩;have C:l.length=0:=by simpa using BI List.length h
  grind
 .cases h
theorem UL {ks:List Kd}{us:List Ex}(h:New T g.n ((Js ks e m g).us++us)):T g.n= .list []/\T (g.n+1)= .int 0:=by
 refine⟨by rw[h.left.head];rfl,?_⟩;have:=h 1 ⟨ "id",oId,[.c (.int 0)]⟩ rfl;rw[this];rfl
theorem Rc {len:Nat}(h:J8 P t len aV.size m g=some r)(F:New T g.n r.us)(q:BX T g.n W m w)
  (H:o.op= .buildSlice t len aV):Cd T g W m w ((execOp a.eval o).run P w) r:=by
 unfold J8 at h;split at h
 .rename_i e X;split at h
  .rename_i j;obtain⟨rfl,M⟩:=j;simp only[AX] at h;obtain⟨ks,p,h⟩:=h;subst h;obtain⟨i,z,l,ab,hz,hl,a2,a3,_,D⟩:=MY p;have N:aV= #[]:=Array.eq_empty_of_size_eq_zero M;subst N;obtain⟨O,C⟩:=UL (us:=[]) (by simpa using F);obtain⟨ad,Y,E,k3⟩:=av (e:=e) (ap:=g.n+2) (x:=g.n) (y:=g.n+1) (us:=[]) q (by omega) (by omega) (by omega) D (Bu.nil _ _) (Ak _) O C (.inl rfl) (I:=0) (Ak _) (by simp);refine⟨_,_, ad,.inl ?_,Y,E,k3⟩;simp[execOp,H,Instr.buildSlice,run_underlying X,Cc ab,Instr.fill,newRow];grind
  .cases h
 .cases h
theorem TW (h:P.underlying t=some (.slice e))(v:Value)(ar ab a0:Option Value):(Instr.sliceAt t v ar ab a0).run P w=(Instr.slice t v ar ab a0).run P w:=by
 simp only[Instr.sliceAt,Ar,run_underlying h,Aq]
theorem Zh (h:Q4 P t x ar ab a0 m g=some r)(Y:New T g.n r.us)(M:BX T g.n W m w)(hx:BQ T g.n W m w x v)
  (H:QP T g.n W m w ar J) (D:BQ T g.n W m w ab V) (N:BQ T g.n W m w a0 a4):
  ∃z ad,(Instr.sliceAt t v J (some V) (some a4)).run P w= .ok z w/\BY T g.n W m w ad r.m w/\BX T (g.n+r.us.length) ad r.m w/\BQ T (g.n+r.us.length) ad r.m w r.c z:=by
 unfold Q4 at h;split at h
 .rename_i e k n0 j;split at h
  .rename_i q;obtain⟨p,rfl,aw⟩:=q;have:=AC.beq_eq _ _ p;subst this;simp only[AX] at h;obtain⟨ks,F,h⟩:=h;subst h;obtain⟨i,z,l,ab,hz,hl,ba,bc,_,X⟩:=MY F;obtain⟨O,C⟩:=UL (us:=[]) (by simpa using Y);obtain⟨⟨kx,rx⟩,ax⟩:=Option.isSome_iff_exists.1 aw;obtain⟨l0,_,_,_,a,I,rfl,a8,_⟩:=HH ax hx;obtain rfl:J=none:=H;obtain rfl:V= .int k 0:=D;obtain rfl:a4= .int k 0:=N;obtain⟨ad,k1,E,k3⟩:=dG (e:=e) (ap:=g.n+2) (x:=g.n) (y:=g.n+1) (a:=a) M (by omega) (by omega) (by omega) X O C;refine⟨_, ad,?_,k1,E,k3⟩;rw[TW j];simp[Instr.slice,run_underlying j,Instr.sliceBounds,E2,Cc ab]
  .cases h
 .cases h
theorem Tb {au:Array TypeId}{s:AC}{u:Value}(h:NX P au s x m g=some r)(D:New T g.n r.us)(ax:∀q∈r.ps,q.holds T)(p:BX T g.n W m w)(aa:BQ T g.n W m w s v)(hx:BQ T g.n W m w x u)(aR:TypeId):
  ∃z ac ad,(Builtin.append_ au aR #[v,u]).run P w= .ok z ac/\BY T g.n W m w ad r.m ac/\BX T (g.n+r.us.length) ad r.m ac/\BQ T (g.n+r.us.length) ad r.m ac r.c z:=by
 unfold NX at h;simp only[AD,AA] at h;obtain⟨t,bx,h⟩:=h;split at h
 .rename_i e hu;simp only[AA] at h;obtain⟨ks,Y,⟨E,aJ⟩,a2,H,N,h⟩:=h;cases h;obtain⟨i,z,l,ab,hz,hl,bs,bt,_,aw⟩:=MY Y;obtain⟨O,C⟩:=UL D;have hv:v= .slice none 0 0:=aa;subst hv;obtain⟨M,F,a9,k3⟩:=dG (e:=e) (ap:=g.n+2) (x:=g.n) (y:=g.n+1) (a:=none) p (by omega) (by omega) (by omega) aw O C;have a8:BQ T (g.n+2) M (m++[.mrow g.n (g.n+1) ks e]) w x u:=BQ.mono0 F (by omega) _ _ hx;obtain⟨z',ac, ad,q1,q2,q3,q4⟩:=VA (g:={ g with n:=g.n+2 }) (T:=T) (W := M) (w:=w) N (fun j u X=>by
   have:=D (j+2) u (by simpa [Js] using X);rwa [show g.n+(j+2)=g.n+2+j by omega] at this) ax a9 k3 (Jo (HH a2 a8)) aR
  have en:g.n+((Js ks e m g).us++H.us).length=g.n+2+H.us.length:=by simp[Js];omega
  refine⟨z',ac, ad,q1,F.trans p (show g.n<=g.n+2 by omega) q2,?_,?_⟩
  .grind
  .grind
 .cases h
theorem lV (h:Xh P t x ar ab a0 m g=some r)(bi:New T g.n r.us)(bl:∀q∈r.ps,q.holds T)(X:BX T g.n W m w)(hx:BQ T g.n W m w x v)
  (b8:QP T g.n W m w ar J) (a9:BQ T g.n W m w ab V) (b9:BQ T g.n W m w a0 a4):
  ∃z ad,(Instr.sliceAt t v J (some V) (some a4)).run P w= .ok z w/\BY T g.n W m w ad r.m w/\BX T (g.n+r.us.length) ad r.m w/\BQ T (g.n+r.us.length) ad r.m w r.c z:=by
 unfold Xh at h;split at h
 .rename_i e Y;simp only[AD,AA] at h;obtain⟨i,ba,⟨k,af,O,rb⟩,hb,h⟩:=h;simp only at h;split at h
  .rename_i b3;have:=AC.beq_eq _ _ b3;subst this;obtain rfl:J=none:=b8;obtain⟨j,rfl,F,_,_⟩:=Cw hb a9;obtain⟨j',rfl,ax,_,_⟩:=Cw hb b9;obtain rfl:j=j':=by rw[F] at ax;exact U.int.inj ax
   rw[TW Y];split at h
   .rename_i k' n0;split at h
    .rename_i hn;subst hn;cases h;obtain rfl:v= .slice none 0 0:=hx;have:Value.int k j= .int k' 0:=a9;cases this;refine⟨.slice none 0 0, W,?_,BY.refl _ _ _ _ _,X,rfl⟩;simp[Instr.slice,run_underlying Y,Instr.sliceBounds,E2,Cc ba]
    .cases h
   .rename_i x ab _ _;simp only[AA] at h;obtain⟨⟨ks,r0⟩,ce,h⟩:=h;simp only at h;split at h
    .rename_i hc;obtain⟨bo,c2⟩:=hc;have cb:ks≠[]:=fun h=>by rw[h] at bo;simp at bo;omega
     obtain⟨l,H,c1,hk,a,I,rfl,cx,h3⟩:=HH ce hx;have a8:∀(p:(⟨ "take",ML,[r0,rb]⟩:Pr).holds T),(Instr.slice t (.slice a l.length I) none (some (.int k j)) (some (.int k j))).run P w= .ok (.slice a (l.take j.toNat).length (l.take j.toNat).length) w/\(0<=j/\j<=l.length):=by
      intro p;simp only[Pr.holds,ML,u0,u1,AT,An,H,F,U.toL,U.toI] at p;refine⟨?_,p⟩;have N:(l.take j.toNat).length=j.toNat:=by rw[Ao];omega
      rw[N];have b1:(Instr.sliceBound (.int k j) I .slice3Acap).run P w= .ok j.toNat w:=E2 p.1 (by omega);have b2:(Instr.sliceBound (.int k j) j.toNat .slice3B).run P w= .ok j.toNat w:=E2 p.1 (by omega);simp only[Instr.slice,Ar,run_underlying Y,Aq,Instr.sliceBounds,b1,b2,Ay,Cc ba,if_true,Nat.sub_zero,Nat.zero_mul];split
      .rfl
      .obtain⟨b,o,rfl,_⟩:=h3 (by omega);simp[DF]
     have bc:∀(E:0<=j/\j<=l.length),Bk (Bt T W m w) w (.list ks) (.list (l.take j.toNat)) (.slice a (l.take j.toNat).length (l.take j.toNat).length):=by
      intro E;have N:(l.take j.toNat).length=j.toNat:=by rw[Ao];omega
      refine⟨_,rfl,by rw[N];omega,fun h=>absurd h cb,a,_,rfl,AE _,fun p=>?_⟩;grind
     split at h
     .rename_i id y kv _;split at h
      .rename_i aF c5 e' b6;split at h
       .rename_i b5;obtain⟨⟨rfl,rfl⟩,b7⟩:=b5;have:=Kd.beqs_eq _ _ b7;subst this;cases h;obtain⟨bm,E⟩:=a8 (bl _ (Al.2 rfl));have D:T g.n= .list (l.take j.toNat):=by
         rw[bi.head];simp[Ex.eval,P0,u0,u1,H,F,U.toL,U.toI]
        obtain⟨c3,cc,_,_⟩:=hx;let ad:Nat->Option Nat:=fun q=>if q=id then none else W q
        have same: ad id=none:=by simp[ad]
        have ci:∀q,q≠id-> ad q= W q:=fun q h=>by simp[ad,h]
        obtain⟨M,f2⟩:=TG (ad:= ad) (ac:=w) (ap:=g.n+1) (ks:=ks) X (by omega) b6 ci rfl rfl rfl (AE _) (fun _ _ _=>rfl) (fun _ _ _ _=>rfl) (fun b' a6=>by rw[same] at a6;cases a6) D (.inl same);have b0:Mem.at (m.set id (.tok g.n ks e)) id= .tok g.n ks e:=by rw[Hw m id _ id cc,BH rfl]
        refine⟨_, ad,bm,M,f2,by simp,by rw[b0];exact (fun h=>by cases h),?_,fun c4 cu cy=> .inl ⟨same,a,by rw[D];rfl⟩⟩;rw[D];exact Bk.mono (fun _ _ aa=>M.safe0 aa) _ _ _ (bc E)
       .cases h
      .cases h
     .cases h;obtain⟨bm,E⟩:=a8 (bl _ (Al.2 rfl));have D:T g.n= .list (l.take j.toNat):=by
       rw[bi.head];simp[Ex.eval,P0,u0,u1,H,F,U.toL,U.toI]
      obtain⟨ad,M,f2,f3⟩:=cq (ap:=g.n+1) (e:=e) (ks:=ks) X (by omega) D (bc E);grind
    .cases h
  .cases h
 .cases h
theorem ZE (D:List Value)(i:0 < D.length):∀n:Nat,(List.range (n*D.length)).map (fun x=>D.toArray[x % D.toArray.size]!)=(List.replicate n D).flatten
 |0=>by simp
 |n+1=>by
  have j:=ZE D i n;rw[show (n+1)*D.length=D.length+n*D.length by rw[Af];omega,List.range_add,AL,List.map_map,List.replicate_succ,BK,<-j];congr 1
  .apply List.ext_getElem?;intro k;rw[Aj];by_cases h:k < D.length
   .rw[List.getElem?_range h];simp[Nat.mod_eq_of_lt h,h]
   .rw[Ai (by simp;omega),Ai (by omega)];rfl
  .apply List.map_congr_left;intro x _;simp
theorem CQ.rep {ok:Nat->Nat->Prop}{ks:List Kd}{us:List U}{Y:List Value}(h:Bg ok w ks us Y):∀n:Nat,CQ ok w ks (List.replicate n us) (List.replicate n Y)
 |0=>rfl
 |n+1=>⟨Y,List.replicate n Y,rfl,h,CQ.rep h n⟩
theorem fY {x y:Operand}{Q E:AC}(h:UR P t Q E m g=some r)(aw:New T g.n r.us)(b2:∀q∈r.ps,q.holds T)(hm:BX T g.n W m w)
  (ho:o.op= .makeSlice t x y) (hx:BQ T g.n W m w Q (a.eval x)) (hy:BQ T g.n W m w E (a.eval y)):Cd T g W m w ((execOp a.eval o).run P w) r:=by
 unfold UR at h;split at h
 .rename_i e hu;simp only[AD,AA] at h;obtain⟨i,ab,z,hz,⟨k,l0,p,aI⟩,X,l,hl,h⟩:=h;simp only at h;split at h
  .rename_i hc;obtain⟨bc,rfl,cj,Y,a3,ch⟩:=hc;cases h;obtain rfl:Q=E:=AC.beq_eq _ _ bc;obtain⟨n,en,j,_,_⟩:=Cw X hx;obtain⟨ap,a8,H,_,_⟩:=Cw X hy;obtain rfl:n=ap:=by rw[j] at H;injection H
   have hp:=b2 _ (Al.2 rfl);simp only[Pr.holds,FH,AT,An,u0,j,U.toI] at hp;obtain⟨p0,p1⟩:=hp;have hT:T g.n= .list (List.replicate n.toNat (l.map fun c=>(Cn c).2.eval T)):=by
    rw[aw.head];simp[Ex.eval,so,u0,j,U.toI,List.map_map]
   have ba:T (g.n+1)= .int (List.replicate n.toNat (l.map fun c=>(Cn c).2.eval T)).length:=by
    have:=aw 1 ⟨ "id",oId,[aI]⟩ rfl;rw[this];simp[Ex.eval,oId,u0,j];omega
   have hw:IntKind.i64.wrap n=n:=by
    exact GO .i64 n (by rw[show IntKind.i64.min= -9223372036854775808 from rfl];omega) (by rw[show IntKind.i64.max=9223372036854775807 from rfl];omega)
   have ci:i.bytes*n<=2 ^ 48:=by
    have:(i.bytes:Int)*n<=1024*68719476736:=Int.mul_le_mul (by omega) p1 p0 (by decide);omega
   obtain⟨D,z1,z2,z3,z4⟩:=ET hl (M6 (T:=T) (n:=g.n) (W := W) (m:=m) (w:=w) z);have cs:D.length=i.size:=by rw[z1] at a3;simpa using a3
   have b3:(execOp a.eval o).run P w= .ok (.value (.slice (some ⟨w.heap.size,0,none⟩) n.toNat n.toNat)) (w.alloc (.cells (List.replicate n.toNat D).flatten.toArray e)):=by
    have b4:(typeInfo e).run P w= .ok i w:=by simp[typeInfo,ab]
    have bl:¬(i.bytes*n > 2 ^ 48):=by omega
    have bm:¬(n < 0):=by omega
    simp only[execOp,ho,Instr.makeSlice,Ar,run_underlying hu,Aq,asInt,asIntOf,en,a8,Ay,b4,hw,bl,bm,decide_false,Bool.or_self,AZ,gt_iff_lt,Int.lt_irrefl,if_false,run_askRoom,Cc ab];by_cases p:n.toNat*i.size=0
    .have bx:n.toNat=0:=by rcases Nat.mul_eq_zero.1 p with h|h<;>omega
     simp only[p,if_true,Ay,Aq,newRow,bx];simp;grind
    .have hr:=ZE D (by omega) n.toNat;have he:(Array.range (n.toNat*i.size)).map (fun x=>z.cells[x % z.cells.size]!)=(List.replicate n.toNat D).flatten.toArray:=by
      grind
     simp only[p,if_false,Ar,JA ab hz,Ay,Aq,newRow,he];simp
   have b0:(l.map fun c=>(Cn c).1)≠[]:=fun h=>by rw[h] at Y;simp at Y;omega
   have a2:Bu (Bt T W m w) w (l.map fun c=>(Cn c).1) (List.replicate n.toNat (l.map fun c=>(Cn c).2.eval T)) (List.replicate n.toNat D).flatten:=⟨_,rfl,CQ.rep (Bg.ofC z3 z2) _⟩;obtain⟨ad,M,N,F⟩:=av (e:=e) (ap:=g.n+2) (x:=g.n) (y:=g.n+1) (us:=[]) hm (by omega) (by omega) (by omega) b0 a2 (by simp[BT];omega) hT ba (.inl rfl) (I:=n.toNat) (by simp) (by rw[yJ,a2.len];simp);rw[yJ] at M N F;rw[List.length_replicate] at F;exact⟨_,_, ad,.inl b3,M,N,F⟩
  .cases h
 .cases h
theorem Sx.flat:∀{i:List (List AC)} {R:List (List Value)},Sx T n W m w i R->BR T n W m w i.flatten R.flatten
 |[],_,h=>by rw[show _=[] from h];exact rfl
 |l::i,_,⟨Y,vss',e,_,C,h3⟩=>by subst e;exact C.append h3.flat
theorem Xi {len:Nat}{aE:Operand->AC}(h:PH P t len (aV.toList.map fun (i,x)=>(i,aE x)) m=some r)(hm:BX T g.n W m w)
  (ho:o.op= .buildSlice t len aV) (b0:∀x,BQ T g.n W m w (aE x) (a.eval x)):Cd T g W m w ((execOp a.eval o).run P w) r:=by
 unfold PH at h;split at h
 .rename_i e hu;simp only[AD,AA] at h;obtain⟨i,ab,z,hz,h⟩:=h;split at h
  .rename_i hc;obtain⟨q,cx,cv,cs⟩:=hc;have q:=Hj _ _ q;simp only[AA] at h;obtain⟨F,aw,h⟩:=h;split at h
   .rename_i bs;cases h;have b3:((aV.toList.map fun (p:Nat × Operand)=>(aE p.2,a.eval p.2))).mapM (fun p=>p.1.cellsOf)=some F:=by
     rw[List.mapM_map] at aw⊢;exact aw
    obtain⟨R,f1,N,f3,f4⟩:=it (T:=T) (n:=g.n) (W := W) (m:=m) (w:=w) (by
     intro p hp;simp only[BL] at hp;obtain⟨p',_,rfl⟩:=hp;exact b0 p'.2) b3
    simp only[List.length_map] at N;have ax:aV.toList.length=len:=by
     have:=BI List.length q;simpa using this
    have b4:F.length=len:=by
     have:=(Fx _ _ _ aw).1;simpa [ax] using this
    have cu:∀l∈F,l.length=i.size:=fun l hl=>by simpa using Ae.1 bs l hl
    have cb:∀v∈R,v.length=i.size:=by
     intro v hv;obtain⟨j,hj⟩:=List.getElem?_of_mem hv;have X:j < F.length:=by rw[b4,<-ax,<-N];exact (AG.1 hj).1
     rw[f4 j _ v (AF X) hj];grind
    have ce:∀D:Array Value,((Array.range (len*i.size)).map (fun x=>D[x % D.size]!)).toList.length=(0+R.length)*i.size:=by
     grind
    have b1:∀D:Array Value,Instr.fill (fun j=>some (j*i.size,i.size)) ((Array.range (len*i.size)).map (fun x=>D[x % D.size]!)) (aV.map fun (j,x)=>(j,a.eval x)).toList=some R.flatten.toArray:=by
     intro D;have:=Rm i.size (aV.map fun (j,x)=>(j,a.eval x)).toList R 0 ((Array.range (len*i.size)).map (fun x=>D[x % D.size]!)).toList (by simp[N]) (fun j k v Y H q2=>by
      simp only[Array.toList_map,Aj,AX] at H;obtain⟨⟨p1,p2⟩,M,e2⟩:=H;cases e2;refine⟨?_,f3 j (aE p2,a.eval p2) Y (by simp only[Aj,M,BC]) q2⟩;have e3:(aV.toList.map fun (p:Nat × Operand)=>(p.1,aE p.2)).map (·.1)=aV.toList.map (·.1):=by simp
      have e4:=q;rw[e3] at e4;have e5:(aV.toList.map (·.1))[j]? =some p1:=by simp only[Aj,M,BC]
      rw[e4] at e5;have X:j < len:=by rw[<-ax];exact (AG.1 M).1
      simp[X] at e5;omega) cb (ce D)
     rw[Array.toArray_toList] at this;rw[this];simp
    have b8:¬(len*i.size=0):=by
     intro h;rcases Nat.mul_eq_zero.1 h with h|h<;>omega
    have b7:(execOp a.eval o).run P w= .ok (.value (.slice (some ⟨w.heap.size,0,none⟩) len len)) (w.alloc (.cells R.flatten.toArray e)):=by
     have hb:¬(len*i.size > 2 ^ 24):=by omega
     simp only[execOp,ho,Instr.buildSlice,Ar,run_underlying hu,Aq,Cc ab,Sem.run_ite,hb,if_false,b8,JA ab hz,Ay,b1];simp[newRow]
    obtain⟨k1,E,k3⟩:=TZ hm f1.flat e;obtain⟨b,H,q2,q3⟩:=k3;refine⟨_,_,_,.inl b7,k1,E,b,H,?_,q3⟩;cases q2;rfl
   .cases h
  .cases h
 .cases h
end
theorem pP (a b:ByteArray):(a==b)=decide (a=b):=by
 cases a with|mk a=>cases b with|mk b=>
 show (a==b)=_;grind
section
variable {P:Program}{w:World}
theorem my {d:Nat}{t:TypeId}{ks:List Ek}(h:C3 P d t=some ks):∃i,P.info? t=some i:=by
 cases ab:P.info? t with
 |some i=>exact⟨i,rfl⟩
 |none=>
  cases d with
  |zero=>cases h
  |succ d=>simp[C3,Program.underlying,ab] at h
theorem LX (F:Bool):∀(d D:Nat) (t:TypeId) (ks:List Ek) (us:List Value),d<=D->C3 P d t=some ks->us.length=ks.length->
  (Instr.checkKey F D t (CN P t us)).run P w= .ok () w
 |0,_,_,_,_,_,h,_=>by cases h
 |d+1,0,_,_,_,hd,_,_=>by omega
 |d+1,D+1,t,ks,us,hd,h,hl=>by
  simp only[C3] at h;split at h
  .rename_i q;simp[Instr.checkKey,run_underlying q]
  .rename_i k q;simp[Instr.checkKey,run_underlying q]
  .rename_i q;simp[Instr.checkKey,run_underlying q]
  .rename_i fs q;split at h
   .cases h
   .simp only[CN,q,Instr.checkKey,Ar,run_underlying q,Aq];rw[<-Array.forIn_toList];have ax:0+ks.length<=us.length:=by omega
    clear hl;generalize 0=off at h ax;generalize fs.toList=L at h;induction L generalizing off ks with
    |nil=>simp
    |cons f L N=>
     simp only[H5,AD] at h;split at h
     .rename_i hc;simp only[AA] at h;obtain⟨p,O,h⟩:=h;split at h
      .rename_i z;simp only[AA] at h;obtain⟨E,C,h⟩:=h;cases h;simp only[AP] at ax;obtain⟨rfl,hn⟩:=hc;have X:=Kx (w:=w) O z us f.offset (by omega);have Y:=LX F d D f.type p ((us.drop f.offset).take p.length) (by omega) O (by rw[Ao,Av];omega);simp only[List.forIn_cons,Ar,hn,ne_eq,not_false_eq_true,if_true,X,Aq,Y,Ay];exact N E _ (by omega) C
      .cases h
     .cases h
  .rename_i n e q;simp only[AD,AA] at h;obtain⟨p,O,h⟩:=h;split at h
   .rename_i z;cases h;obtain⟨i,ab⟩:=my O;simp only[CN,q,Instr.checkKey,Ar,run_underlying q,Aq];simp only[Std.Legacy.Range.forIn_eq_forIn_range',Std.Legacy.Range.size,Nat.sub_zero,Nat.add_one_sub_one,Nat.div_one];have hz:i.size=p.length:=by
     have:=z;simp[Program.cellsOf,ab] at this;exact this
    have a9:us.length=n*p.length:=by rw[hl];simp
    have H:∀j∈List.range' 0 n,j < n:=fun j hj=>by
     have:=List.mem_range'_1.1 hj;omega
    generalize List.range' 0 n=M at H;induction M with
    |nil=>simp
    |cons j M N=>
     have hj:=H j (by simp);have b:j*p.length+p.length<=us.length:=by
      have:(j+1)*p.length<=n*p.length:=Ab _ (by omega);rw[Af,Nat.one_mul] at this;omega
     have X:=Kx (w:=w) O z us (j*p.length) b;have Y:=LX F d D e p ((us.drop (j*p.length)).take p.length) (by omega) O (by rw[Ao,Av];omega);simp only[List.forIn_cons,Ar,run_sizeOf w ab,z,Aq,X,Y,Ay];exact N fun y hy=>H y (by simp[hy])
   .cases h
  .cases h
def Jq (G:Nat)(k:List U):List MapEntry->List (List U)->Nat->Option (Nat × Value)
 |e::ay,r::l,i=>bif Ce (r.take G) k then some (i,e.val) else Jq G k ay l (i+1)
 |_,_,_=>none
theorem Y2 {G:Nat}{k:List U}:∀{ay:List MapEntry} {l:List (List U)} (i:Nat),ay.length=l.length->Jq G k ay l i=(ay[Bz G l k]?).map fun e=>(i+Bz G l k,e.val)
 |[],[],i,_=>rfl
 |e::ay,r::l,i,h=>by
  simp only[Jq,Bz,List.findIdx_cons];cases p:Ce (r.take G) k with
  |true=>simp
  |false=>
   have j:=Y2 (G:=G) (k:=k) (ay:=ay) (l:=l) (i+1) (by simpa using h);simp only[cond_false];rw[j];simp only[Bz,List.getElem?_cons_succ];congr 1;funext e;rw[show i+1+List.findIdx (fun r=>Ce (List.take G r) k) l=i+(List.findIdx (fun r=>Ce (List.take G r) k) l+1) by omega]
 |[],_::_,_,h=>by simp at h
 |_::_,[],_,h=>by simp at h
def OC (P:Program)(h:TypeId)(ks:List Ek)(G:Nat)(i:List Value)(k:List U):List MapEntry->List (List U)->Prop
 |[],[]=>True
 |e::ay,r::l=>(∃aE,e.key=CN P h aE/\KE ks i aE (Ce (r.take G) k))/\OC P h ks G i k ay l
 |_,_=>False
theorem OC.len {i:TypeId}{ks:List Ek}{G:Nat}{j:List Value}{k:List U}:∀{ay:List MapEntry} {l:List (List U)},OC P i ks G j k ay l->ay.length=l.length
 |[],[],_=>rfl
 |_::_,_::_,h=>by simp[OC.len h.2]
 |[],_::_,h=>h.elim
 |_::_,[],h=>h.elim
theorem mB {h:TypeId}{ks:List Ek}{us Y:List Value}{q:Bool}(i:C3 P 12 h=some ks)(j:KE ks us Y q):(Op.equal h (CN P h us) (CN P h Y)).run P w= .ok q w:=
 Mt 12 _ h ks us Y q (by decide) i j
theorem RW {j:TypeId}{ks:List Ek}{G:Nat}{q:List Value}{k:List U}(p:C3 P 12 j=some ks):∀{ay:List MapEntry} {l:List (List U)} (i:Nat),OC P j ks G q k ay l->
  (Instr.findAsking j (CN P j q) ay i).run P w= .ok (Jq G k ay l i) w
 |[],[],i,_=>by simp[Instr.findAsking,Jq]
 |e::ay,r::l,i,h=>by
  obtain⟨⟨aE,O,C⟩,z⟩:=h;simp only[Instr.findAsking,Ar,O,mB p C,Aq,Jq];cases Ce (r.take G) k with
  |true=>simp
  |false=>
   simp only[AZ,if_false,cond_false];exact RW p (i+1) z
 |[],_::_,_,h=>h.elim
 |_::_,[],_,h=>h.elim
theorem Wa {D:TypeId}{ks:List Ek}{G:Nat}{E:List Value}{k:List U}{kd:TypeDesc}(z:C3 P 12 D=some ks)(p:P.underlying D=some kd):∀{ay:List MapEntry} {l:List (List U)} (i:Nat),OC P D ks G E k ay l->
  Instr.findNow kd (CN P D E) ay i=some (Jq G k ay l i)\/Instr.findNow kd (CN P D E) ay i=none
 |[],[],i,_=> .inl rfl
 |e::ay,r::l,i,h=>by
  obtain⟨⟨aE,O,C⟩,F⟩:=h;have H:=Wa z p (i+1) F;have aa:Instr.sameNow kd (CN P D E) e.key=some (Ce (r.take G) k)\/Instr.sameNow kd (CN P D E) e.key=none:=by
   rw[O];simp only[C3] at z;split at z
   .rename_i j;rw[j] at p;cases p;cases z;generalize Ce (r.take G) k=q at C;cases C with
    |bool a b C=>cases C;left;simp[CN,j,Instr.sameNow]
   .rename_i al j;rw[j] at p;cases p;cases z;generalize Ce (r.take G) k=q at C;cases C with
    |int N a b C=>cases C;left;simp[CN,j,Instr.sameNow]
   .rename_i j;rw[j] at p;cases p;cases z;generalize Ce (r.take G) k=q at C;cases C with
    |str a b C=>
     cases C;left;simp only[CN,j,List.headD_cons,Instr.sameNow,Bool.and_true,pP]
   .rename_i M j;rw[j] at p;cases p;right;rfl
   .rename_i n e j;rw[j] at p;cases p;right;rfl
   .cases z
  rcases aa with aa|aa
  .simp only[Instr.findNow,aa,Jq];cases Ce (r.take G) k with
   |true=>left;rfl
   |false=>exact H
  .right;simp only[Instr.findNow,aa]
 |[],_::_,_,h=>h.elim
 |_::_,[],_,h=>h.elim
theorem V5 {i:TypeId}{ks:List Ek}{G:Nat}{q:List Value}{k:List U}(p:C3 P 12 i=some ks){ay:List MapEntry}{l:List (List U)}(h:OC P i ks G q k ay l):
  (Instr.findKey i (CN P i q) ay).run P w= .ok ((ay[Bz G l k]?).map fun e=>(Bz G l k,e.val)) w:=by
 obtain⟨kd,j⟩:∃kd,P.underlying i=some kd:=by
  cases j:P.underlying i with
  |some kd=>exact⟨kd,rfl⟩
  |none=>simp[C3,j] at p
 have z:Jq G k ay l 0=(ay[Bz G l k]?).map fun e=>(Bz G l k,e.val):=by
  have:=Y2 (G:=G) (k:=k) 0 h.len;simpa using this
 rw[<-z];simp only[Instr.findKey,Ar,run_underlying j,Aq];rcases Wa p j 0 h with O|O
 .rw[O];simp
 .rw[O];exact RW p 0 h
theorem KE.same {ks us Y q}(h:KE ks us Y q):q=true->us=Y:=by
 induction h with
 |nil=>exact fun _=>rfl
 |int k a b _ i=>intro h;rw[AB,beq_iff_eq] at h;rw[h.1,i h.2]
 |bool a b _ i=>intro h;rw[AB,beq_iff_eq] at h;rw[h.1,i h.2]
 |str a b _ i=>intro h;rw[AB,decide_eq_true_eq] at h;rw[h.1,i h.2]
theorem KE.bits {ks us Y q}(h:KE ks us Y q)(n:Nat):∀x∈us,Instr.sameBits n x x=true:=by
 induction h with
 |nil=>simp
 |int k a b _ j=>
  intro x i;rcases List.mem_cons.1 i with rfl|i
  .simp[Instr.sameBits]
  .exact j x i
 |bool a b _ j=>
  intro x i;rcases List.mem_cons.1 i with rfl|i
  .simp[Instr.sameBits]
  .exact j x i
 |str a b _ j=>
  intro x i;rcases List.mem_cons.1 i with rfl|i
  .simp[Instr.sameBits,pP]
  .exact j x i
theorem tV {z:TypeId}{ks:List Ek}{us Y:List Value}(q:C3 P 12 z=some ks)(h:KE ks us Y true):(Instr.keyThatStays (CN P z Y) (CN P z us)).run P w= .ok (CN P z us) w:=by
 have e:=h.same rfl;subst e;have H:Instr.sameBits 10000 (CN P z us) (CN P z us)=true:=by
  have E:Instr.sameBits 10000 (.agg us.toArray) (.agg us.toArray)=true:=by
   have:=h.bits 9999;simp only[Instr.sameBits,beq_self_eq_true,Bool.true_and,Ae];intro p j;have N:∀(l:List Value) (p:Value × Value),p∈l.zip l->p.1=p.2/\p.1∈l:=by
    intro l;induction l with
    |nil=>intro p j;simp at j
    |cons a l F=>
     intro p j;simp only[List.zip_cons_cons,List.mem_cons] at j;rcases j with rfl|j
     .exact⟨rfl,by simp⟩
     .exact⟨(F p j).1,AK _ (F p j).2⟩
   grind
  simp only[C3] at q;split at q
  .rename_i i;cases q;have D:=h.length.1
   match us,D with
   |[x],_=>simp only[CN,i,List.headD_cons];exact h.bits 10000 x (by simp)
  .rename_i k i;cases q;have D:=h.length.1
   match us,D with
   |[x],_=>simp only[CN,i,List.headD_cons];exact h.bits 10000 x (by simp)
  .rename_i i;cases q;have D:=h.length.1
   match us,D with
   |[x],_=>simp only[CN,i,List.headD_cons];exact h.bits 10000 x (by simp)
  .rename_i M i;simp only[CN,i];exact E
  .rename_i n e i;simp only[CN,i];exact E
  .cases q
 simp[Instr.keyThatStays,H]
end
theorem aU {T:Tab}{n:Nat}{W :Nat->Option Nat}{m:Mem}{w:World}{k:Kd}{c:AC}{v:Value}{r:Rf}{ps:List Pr}(h:fit k c=some (r,ps))(F:BQ T n W m w c v)(z:∀p∈ps,p.holds T):
  Bk (Bt T W m w) w k (r.eval T) v:=by
 unfold fit at h;cases aa:Gq c with
 |none=>rw[aa] at h;cases k<;>cases h
 |some M=>
  obtain⟨q,aB⟩:=M;rw[aa] at h;have base:=JQ aa F;have join:(if Kd.beq (Kd.join q k) k&& !k.isAny then some (aB,([]:List Pr)) else none)=some (r,ps)->Bk (Bt T W m w) w k (r.eval T) v:=by
   intro h;split at h
   .rename_i j;cases h;rw[AB] at j;have:=Kd.join_l q k _ v base;rw[Kd.beq_eq _ _ j.1] at this;exact this
   .cases h
  cases k with
  |int k0 ar ab=>
   cases q with
   |int k' a2 Y=>
    simp only at h;split at h
    .rename_i H;subst H;obtain⟨i,O,C,N,X⟩:=base;injection h with h
     injection h with D E
     subst D;subst E;refine⟨i,O,C,?_⟩;split at z
     .rename_i j;exact⟨by omega,by omega⟩
     .have:=z _ (Al.2 rfl);simp only[Pr.holds,FH,AT,An,u0,O,U.toI] at this;exact this
    .cases h
   |_=>exact join h
  |_=>exact join h
section
variable {P:Program}{T:Tab}{n ap:Nat}{W :Nat->Option Nat}{m:Mem}{w:World}{g:G}{r:R}
variable{a7:Bool}{v K az:Value}{t:TypeId}{al:List Kd}{b a5:Nat}{ay:Array MapEntry}{Q bb:AC}
theorem Mn {c:AC}{l:List AC}(h:K6 a7 c=some l)(i:BQ T n W m w c v):∃Y,BR T n W m w l Y/\(if a7 then v= .agg (Y:List Value).toArray else Y=[v]):=by
 cases a7 with
 |true=>
  cases c<;>simp only[K6] at h<;>first|(cases h;done)|skip
  cases h;obtain⟨Y,O,C⟩:=i;exact⟨Y,C,by simpa using O⟩
 |false=>
  have e:l=[c]:=by cases c<;>simp only[K6] at h<;>first|(cases h;rfl)|cases h
  subst e;exact⟨[v],⟨v,[],rfl,i,rfl⟩,by simp⟩
theorem Pv:∀{ks:List Kd} {l:List AC} {ah:List Rf} {ps:List Pr} {Y:List Value},PD ks l=some (ah,ps)->BR T n W m w l Y->(∀p∈ps,p.holds T)->Bg (Bt T W m w) w ks (ah.map (Rf.eval T)) Y
 |[],[],ah,ps,Y,h,hl,_=>by
  simp only[PD] at h;cases h;exact⟨rfl,hl⟩
 |k::ks,c::l,ah,ps,Y,h,hl,hp=>by
  simp only[PD,AD,AA] at h;obtain⟨⟨aB,q⟩,O,⟨aJ,z⟩,C,h⟩:=h;cases h;obtain⟨u,us,rfl,j,E⟩:=hl;exact⟨_,_,_,_,rfl,rfl,aU O j fun p i=>hp p (AU _ i),Pv C E fun p i=>hp p (AO _ i)⟩
 |[],_::_,_,_,_,h,_,_=>by simp[PD] at h
 |_::_,[],_,_,_,h,_,_=>by simp[PD] at h
theorem Qz {Y:List Value}(h:DI P t=a7)(i:if a7 then v= .agg Y.toArray else Y=[v]):v=CN P t Y:=by
 subst h;unfold DI at i;unfold CN;grind
theorem jH {ok N:Nat->Nat->Prop}{ac:World}:∀{al:List Kd} {ks:List Ek} {us i:List U} {Y j:List Value},al.map NL=ks.map some->Bg ok w al us Y->Bg N ac al i j->KE ks Y j (Ce i us)
 |[],[],us,i,Y,j,_,⟨O,C⟩,⟨h3,h4⟩=>by subst O C h3 h4;exact .nil
 |k::al,e::ks,us,i,Y,j,h,⟨u,us1,v,vs1,e1,p,O,C⟩,⟨u',us1',v',vs1',e3,e4,h3,h4⟩=>by
  subst e1 p e3 e4;simp only[AT,List.cons.injEq] at h;have q:=jH h.2 C h4;cases k with
  |int k ar ab=>
   have e:=h.1;simp only[NL,Ax] at e;subst e;obtain⟨a,rfl,rfl,_⟩:=O;obtain⟨b,rfl,rfl,_⟩:=h3;have e:(Ce (.int b::us1') (.int a::us1))=((a==b)&&Ce us1' us1):=by
    simp only[Ce,U.eqv];congr 1;by_cases e:a=b
    .rw[e];simp
    .have p:¬b=a:=fun h=>e h.symm;simp[e,p]
   rw[e];exact .int k a b q
  |bool=>
   have e:=h.1;simp only[NL,Ax] at e;subst e;obtain⟨a,rfl,rfl⟩:=O;obtain⟨b,rfl,rfl⟩:=h3;have e:(Ce (.bool b::us1') (.bool a::us1))=((a==b)&&Ce us1' us1):=by
    simp only[Ce,U.eqv];congr 1;cases a<;>cases b<;>rfl
   rw[e];exact .bool a b q
  |str=>
   have e:=h.1;simp only[NL,Ax] at e;subst e;obtain⟨a,rfl,rfl,_⟩:=O;obtain⟨b,rfl,rfl,_⟩:=h3;have e:(Ce (.str b::us1') (.str a::us1))=(decide (a=b)&&Ce us1' us1):=by
    simp only[Ce,U.eqv];congr 1;by_cases e:a=b
    .simp[e]
    .rw[decide_eq_false e,decide_eq_false fun h=>e h.symm]
   rw[e];exact .str a b q
  |val=>have e:=h.1;simp[NL] at e
  |any=>have e:=h.1;simp[NL] at e
  |list _=>have e:=h.1;simp[NL] at e
 |[],_::_,_,_,_,_,h,_,_=>by simp at h
 |_::_,[],_,_,_,_,h,_,_=>by simp at h
theorem UV {ok N:Nat->Nat->Prop}{D:TypeId}{ks:List Ek}{al aM:List Kd}{z aT:Bool}(p:al.map NL=ks.map some)(j:DI P D=z){E:List U}{F:List Value}(q:Bg ok w al E F):∀{ay:List MapEntry} {l:List (List U)},ay.length=l.length->
  (∀(i:Nat) (us:List U) (e:MapEntry),l[i]? =some us->ay[i]? =some e->∃u1 u2,us=u1++u2/\DL N w al z u1 e.key/\DL N w aM aT u2 e.val)->OC P D ks al.length F E ay l
 |[],[],_,_=>trivial
 |e::ay,us::l,hl,h=>by
  refine⟨?_,UV p j q (by simpa using hl) fun i us e O C=>h (i+1) us e (by simpa using O) (by simpa using C)⟩;obtain⟨u1,u2,rfl,⟨Y,C,H⟩,_⟩:=h 0 us e rfl rfl;have M:u1.length=al.length:=C.len.2;refine⟨Y,Qz j H,?_⟩;rw[List.take_left' M];exact jH p q C
 |[],_::_,hl,_=>by simp at hl
 |_::_,[],hl,_=>by simp at hl
theorem Yn {i:TypeId}{j:Bool}(h:Qs P i al j=true):DI P i=j/\∃ks,C3 P 12 i=some ks/\al.map NL=ks.map some:=by
 unfold Qs at h;grind
theorem ot {ks:List Ek}(h:al.map NL=ks.map some):ks.length=al.length:=by
 have:=BI List.length h;simpa using this.symm
theorem VE (h:w.heap[b]? =some (.map ay a5)):(getObj b).run P w= .ok (.map ay a5) w:=by simp[getObj,Sem.run,h]
theorem WU (o:Obj)(h:w.heap[b]? =some (.map ay a5)):(setObj b o).run P w= .ok () (w.putObj b o):=by simp[setObj,Sem.run,h,World.putObj]
theorem New.tail {us:List Ex}{u:Ex}(h:New T n (u::us)):New T (n+1) us:=fun j x i=>by
 have:=h (j+1) x (by simpa using i);rw[show n+1+j=n+(j+1) by omega];exact this
theorem YK {x G:Nat}{ah:List Rf}:∀{ks:List Kd} {D:List Rf} {n0 c:Nat},D.length=ks.length->(Iq x G ah n0 c ks D).2.length=ks.length/\(Iq x G ah n0 c ks D).1.length=ks.length
 |[],[],_,_,_=>⟨rfl,rfl⟩
 |k::ks,z::D,n0,c,h=>by
  obtain⟨O,C⟩:=YK (x:=x) (G:=G) (ah:=ah) (ks:=ks) (D:=D) (n0:=n0+1) (c:=c+1) (by simpa using h);simp only[Iq,Ad];exact⟨by omega,by omega⟩
 |[],_::_,_,_,h=>by simp at h
 |_::_,[],_,_,h=>by simp at h
theorem bj {x G:Nat}{ah:List Rf}{N:Nat}:∀{ks:List Kd} {D:List Rf} {n0 c:Nat} {i:List U} {Y:List Value},D.length=ks.length->Bg (Bt T W m w) w ks i Y->New T n0 (Iq x G ah n0 c ks D).2->n0+ks.length<=N->
  (∀(j:Nat) u z,i[j]? =some u->D[j]? =some z->V6 G (c+j) (T x::z.eval T::ah.map (Rf.eval T))=u)->BR T N W m w (Iq x G ah n0 c ks D).1 Y
 |[],[],_,_,i,Y,_,h,_,_,_=>h.2
 |k::ks,z::D,n0,c,i,Y,hl,⟨u,us',v,vs',e1,e2,O,C⟩,hn,hN,hg=>by
  subst e1 e2;simp only[Iq,Ad] at hn hN⊢;have p:T n0=u:=by
   rw[hn.head];exact (BI (coC (kdC k)) (hg 0 u z rfl rfl)).trans (cI O)
  refine⟨v,vs',rfl,GQ (by omega) (by rw[p];exact O),bj (by simpa using hl) C hn.tail (by omega) fun j u z q E=>?_⟩;rw[show c+1+j=c+(j+1) by omega];exact hg (j+1) u z (by simpa using q) (by simpa using E)
 |[],_::_,_,_,_,_,h,_,_,_,_=>by simp at h
 |_::_,[],_,_,_,_,h,_,_,_,_=>by simp at h
theorem j4 {ok:Bool}(h:Xu P t Q bb ok m g=some r)(a8:New T g.n r.us)(b6:∀q∈r.ps,q.holds T)(hm:BX T g.n W m w)(hx:BQ T g.n W m w Q K)(ab:BQ T g.n W m w bb az):
  ∃z,(Instr.lookup t K az ok).run P w= .ok z w/\r.m=m/\BQ T (g.n+r.us.length) W m w r.c z:=by
 unfold Xu at h;split at h
 .rename_i kt et id hu;split at h
  .rename_i a0 al ka aM aT c0;split at h
   .rename_i c2;simp only[AD,AA] at h;obtain⟨kc,c1,⟨ah,ps⟩,cv,i,cy,z,hz,zc,db,⟨D,qs⟩,cx,h⟩:=h;simp only at h;split at h
    .rename_i a9;have a9:qs=[]:=by cases qs with|nil=>rfl|cons _ _=>cases a9
     subst a9;obtain⟨bm,ks,hf,b2⟩:=Yn c2;have c7:r.ps=ps:=by cases ok<;>(simp only[AZ,if_true,if_false] at h;cases h;rfl)
     rw[c7] at b6;obtain⟨kv,k1,E⟩:=Mn c1 ab;have kC:=Pv cv k1 b6;have bl:=Qz bm E;obtain⟨zv,z1,z2⟩:=Mn db (M6 (T:=T) (n:=g.n) (W := W) (m:=m) (w:=w) z);have zC:=Pv cx z1 (fun p hp=>by cases hp);obtain⟨b,c6,rfl,_⟩:=hx;have bo:=hm.blk id;rw[c0] at bo;obtain⟨d5,l,b',ay,a5,hT,b7,hb,a6,d4,bt,_⟩:=bo;rw[c6] at b7;cases b7;have cl:=UV (P:=P) (w:=w) b2 bm kC a6 bt;have X:=V5 (w:=w) hf cl;have bs:=LX (P:=P) (w:=w) ay.toArray.isEmpty 12 10000 kt ks kv (by decide) hf (by rw[ot b2];exact kC.len.1);have b0:=VE (P:=P) hb;have ca:D.length=aM.length:=by have:=zC.len.2;simpa using this
     have ba:∀(a:U) (dj:List U),u0 (a::dj)=a:=fun _ _=>rfl;obtain⟨ws,Y,fv,aw,aN,w2,w3,w4⟩:∃(ws:List U) (Y:List Value) (fv:Value) (b1:Bool),Bg (Bt T W m w) w aM ws Y/\(if aT then fv= .agg Y.toArray else Y=[fv])/\
       (b1=decide (Bz al.length l (ah.map (Rf.eval T)) < l.length)/\(Instr.lookup t (.map (some b)) az ok).run P w= .ok (if ok then .tuple #[fv,.bool b1] else fv) w)/\
       ∀(j:Nat) u z,ws[j]? =some u->D[j]? =some z->V6 al.length (0+j) (T a0::z.eval T::ah.map (Rf.eval T))=u:=by
      cases F:ay[Bz al.length l (ah.map (Rf.eval T))]? with
      |some e=>
       have H:Bz al.length l (ah.map (Rf.eval T)) < l.length:=by rw[<-a6];exact (AG.1 F).1
       have b3:=AF H;obtain⟨u1,u2,e1,⟨d8,e2,_⟩,dk,e4,e5⟩:=bt _ _ e b3 F;refine⟨u2,dk,e.val,true,e4,e5,⟨(decide_eq_true H).symm,?_⟩,fun j u z q1 q2=>?_⟩
       .rw[F] at X;simp only[Instr.lookup,Ar,run_underlying hu,Aq,b0,Ay,bl,bs,X,BC]
       .simp only[V6,ba,hT,U.toL,List.drop_succ_cons,List.drop_zero];rw[decide_eq_true H];simp only[cond_true];rw[AY (l:=l),b3,Option.getD_some,e1,AY,AS (by rw[e2.len.2];omega),e2.len.2,show al.length+(0+j) - al.length=j by omega,q1];rfl
      |none=>
       have b5:¬Bz al.length l (ah.map (Rf.eval T)) < l.length:=fun H=>by
        rw[<-a6] at H;rw[AF H] at F;cases F
       refine⟨D.map (Rf.eval T),zv,z,false,zC,z2,⟨(decide_eq_false b5).symm,?_⟩,fun j u z q1 q2=>?_⟩
       .rw[F] at X;simp only[Instr.lookup,Ar,run_underlying hu,Aq,b0,Ay,bl,bs,X,Option.map_none,JA cy hz]
       .simp only[V6,ba,hT,U.toL,List.drop_succ_cons,List.drop_zero];rw[decide_eq_false b5];simp only[cond_false];rw[Aj,q2] at q1;exact Option.some.inj q1
     obtain⟨dn,cf⟩:=w3;have b4:=YK (x:=a0) (G:=al.length) (ah:=ah) (n0:=g.n) (c:=0) ca;have b9:∀N,g.n+aM.length<=N->New T g.n (Iq a0 al.length ah g.n 0 aM D).2->BQ T N W m w (if aT then AC.agg (Iq a0 al.length ah g.n 0 aM D).1 else (Iq a0 al.length ah g.n 0 aM D).1.headD .any) fv:=by
      intro N hN hn;have M:=bj (N:=N) ca aN hn hN w4;cases aT with
      |true=>
       simp only[if_true] at w2⊢;exact⟨Y,w2,M⟩
      |false=>
       simp only[AZ,if_false] at w2⊢;subst w2;generalize (Iq a0 al.length ah g.n 0 aM D).1=L at M;cases L with
       |nil=>exact absurd M (by simp[BR])
       |cons c L=>
        obtain⟨u,us,e,O,_⟩:=M;cases e;exact O
     cases ok with
     |false=>
      simp only[AZ,if_false] at h;cases h;exact⟨fv,cf,rfl,b9 _ (by simp only[b4.1];omega) a8⟩
     |true=>
      simp only[if_true] at h;cases h;refine⟨_,cf,rfl,[fv,.bool aw],by simp,⟨fv,[.bool aw],rfl,b9 _ (by simp only[AP,b4.1];omega) a8.left,.bool aw,[],rfl,⟨by simp only[AP,Ad,As];omega,aw,?_,rfl⟩,rfl⟩⟩;rw[a8.right.head,dn];simp only[Ex.eval,lN,AT,ba,Rf.eval,hT,U.toL,List.tail_cons]
    .cases h
   .cases h
  .cases h
 .cases h
theorem fO {a:Act}{o:Oper}(h:Ue P t m g=some r)(a2:New T g.n r.us)(q:BX T g.n W m w)(ho:o.op= .makeMap t none):Cd T g W m w ((execOp a.eval o).run P w) r:=by
 unfold Ue at h;split at h
 .rename_i kt et hu;simp only[AD,AA] at h;obtain⟨al,_,aM,_,h⟩:=h;cases h;have hT:T g.n= .list []:=by rw[a2.head];rfl
  generalize X:Blk.mapb g.n al (DI P kt) aM (DI P et)=B;have aa:=Jm (T:=T) q (.map #[] 0) B;have a6:g.n<=g.n+1:=by omega
  have Y:Mem.at (m++[B]) m.length=B:=by rw[Bj,BH rfl]
  have a3:(w.alloc (.map #[] 0)).heap[w.heap.size]? =some (.map #[] 0):=D5 _ _;refine⟨.map (some w.heap.size),w.alloc (.map #[] 0),DX W m.length w.heap.size,.inl (by simp[execOp,ho,Instr.makeMap]),aa,⟨fun id=>?_,?_,fun b off M=>q.fr b off (AV aa.size M)⟩,⟨w.heap.size,CF _ _ _,rfl,by rw[Y,<-X];rfl⟩⟩
  .by_cases p:id=m.length
   .subst p;rw[Y,<-X];exact⟨by simp,[],w.heap.size,[],0,hT,CF _ _ _,a3,rfl,by simp,fun i us e O=>by simp at O,0,rfl,fun i e O=>by simp at O⟩
   .by_cases j:(m.at id).tracked=true
    .refine Cj.step aa q a6 (by rw[Bj,BG p]) (CC _ _ _ p) (fun b M=>?_);exact CZ _ _ _ (q.lt j M)
    .rw[Bj,BG p];cases H:m.at id with
     |pad=>trivial
     |gone=>trivial
     |cells=>rw[H] at j;exact absurd rfl j
     |lp=>rw[H] at j;exact absurd rfl j
     |tok=>rw[H] at j;exact absurd rfl j
     |mrow=>rw[H] at j;exact absurd rfl j
     |mapb=>rw[H] at j;exact absurd rfl j
  .intro id N b j F E D;rw[Bj] at j F;by_cases p:id=m.length
   .by_cases z:N=m.length
    .omega
    .rw[BG z] at F;subst p;rw[CF] at E;cases E;rw[CC _ _ _ z] at D;have:=q.lt F D;omega
   .rw[BG p] at j;rw[CC _ _ _ p] at E;by_cases z:N=m.length
    .subst z;rw[CF] at D;cases D;have:=q.lt j E;omega
    .rw[BG z] at F;rw[CC _ _ _ z] at D;exact q.inj id N b j F E D
 .cases h
theorem vt {id:Nat}{o:Obj}{B:Blk}(N:B.ptrOk=true)(z:BX T n W m w)(H:(m.at id).ptrOk=true)(D:(m.at id).tracked=true)(M: W id=some b)(a2:n<=ap)
  (bi:BY T n W m w W (m.set id B) (w.putObj b o)->Cj T ap W (m.set id B) (w.putObj b o) id B):BY T n W m w W (m.set id B) (w.putObj b o)/\BX T ap W (m.set id B) (w.putObj b o):=by
 have ax:m.at id≠ .pad:=fun e=>by rw[e] at D;cases D
 have q:=fun j=>Hw m id B j ax;have aw:B≠ .pad:=fun e=>by rw[e] at N;cases N
 have aa:BY T n W m w W (m.set id B) (w.putObj b o):={
  os:=rfl
  tape:=rfl
  output:=rfl
  size:=by simp
  mlen:=fun j h=>by rw[q j];split<;>first|exact aw|exact h
  rho:=fun j h=>by rw[q j];split<;>first|exact⟨rfl,N⟩|exact⟨rfl,h⟩
  untr:=fun j h i=>by
   grind
  fresh:=fun j c h i bl=>by
   rw[q j] at i;split at i
   .grind
   .rw[h] at i;cases i
  old:=fun k hk a3=>World.putObj_heap_other (fun e=>a3 id D (by rw[e];exact M))
  tok:=fun j x ks e h=>by
   have p:j≠id:=fun e=>by rw[<-e,h] at H;cases H
   refine .inl ⟨by rw[q j,BG p];exact h,rfl,fun X E=>?_⟩;exact World.putObj_heap_other (fun e=>p (z.inj j id b (by rw[h];rfl) D (by rw[<-e];exact E) M))
  row:=fun j x y ks e h=>by
   have p:j≠id:=fun e=>by rw[<-e,h] at H;cases H
   refine .inr ⟨x,y,ks,by rw[q j,BG p];exact h,rfl,.inl ⟨rfl,rfl,fun X Y E hv=>⟨Y,?_,rfl⟩⟩⟩;rw[World.putObj_heap_other (fun e=>p (z.inj j id b (by rw[h];rfl) D (by rw[<-e];exact E) M))];exact hv }
 refine⟨aa,⟨fun j=>?_,fun j j' c t1 t2 O C=>?_,fun c off h=>z.fr c off (AV aa.size h)⟩⟩
 .by_cases p:j=id
  .grind
  .by_cases i:(m.at j).tracked=true
   .exact Cj.step aa z a2 (by rw[q j,BG p]) rfl (fun X E=>World.putObj_heap_other (fun e=>p (z.inj j id b i D (by rw[<-e];exact E) M)))
   .rw[q j,BG p];cases F:m.at j with
    |pad=>trivial
    |gone=>trivial
    |cells=>rw[F] at i;exact absurd rfl i
    |lp=>rw[F] at i;exact absurd rfl i
    |tok=>rw[F] at i;exact absurd rfl i
    |mrow=>rw[F] at i;exact absurd rfl i
    |mapb=>rw[F] at i;exact absurd rfl i
 .have old:∀{j},(Mem.at (m.set id B) j).tracked=true->(m.at j).tracked=true:=fun {j} i=>by
   grind
  exact z.inj j j' c (old t1) (old t2) O C
theorem ZL {G:AC}{j:Value}(h:QM P t Q bb G m g=some r)(db:New T g.n r.us)(ba:∀q∈r.ps,q.holds T)(hm:BX T g.n W m w)(hx:BQ T g.n W m w Q K)(ab:BQ T g.n W m w bb az)(hv:BQ T g.n W m w G j):
  ∃ac,(Instr.mapUpdate t K az j).run P w= .ok () ac/\BY T g.n W m w W r.m ac/\BX T (g.n+r.us.length) W r.m ac/\r.c= .any:=by
 unfold QM at h;split at h
 .rename_i F et id hu;split at h
  .rename_i a0 al N aM aT bt;split at h
   .rename_i c5;simp only[AD,AA] at h;obtain⟨kc,c4,⟨ah,ps⟩,c1,vc,dj,⟨Y,qs⟩,c2,h⟩:=h;cases h;simp only at ba;obtain⟨bo,ks,hf,bx⟩:=Yn c5;obtain⟨z,k1,E⟩:=Mn c4 ab;have kC:=Pv c1 k1 fun p hp=>ba p (by simp[hp]);have b4:=Qz bo E;obtain⟨zv,z1,z2⟩:=Mn dj hv;have zC:=Pv c2 z1 fun p hp=>ba p (by simp[hp]);obtain⟨b,b2,rfl,_⟩:=hx;have b8:=hm.blk id;rw[bt] at b8;obtain⟨ee,l,b',ay,a5,hT,ci,hb,M,c8,ca,base,c0,d6⟩:=b8;rw[b2] at ci;cases ci;have a3:=ba ⟨ "fits 1",Io 1,[.e a0,.c (.list [[]])]⟩ (by simp);have a3:l.length+1<=BT:=by
     simp only[Pr.holds,Io,AT,An] at a3;have e1:u0 [Rf.eval T (.e a0),Rf.eval T (.c (.list [[]]))]=T a0:=rfl;have H:u1 [Rf.eval T (.e a0),Rf.eval T (.c (.list [[]]))]= .list [[]]:=rfl;rw[e1,H,hT] at a3;simpa [U.toL,BT] using a3
    have cx:=UV (P:=P) (w:=w) bx bo kC M ca;have a9:=V5 (w:=w) hf cx;have b9:=LX (P:=P) (w:=w) false 12 10000 F ks z (by decide) hf (by rw[ot bx];exact kC.len.1);have cb:=VE (P:=P) hb;have ce:=(AI.1 hb).1;have cc:(ah.map (Rf.eval T)).length=al.length:=kC.len.2;have cy:T g.n= .list (Cb al.length l (ah.map (Rf.eval T)) (Y.map (Rf.eval T))):=by
     rw[db.head];simp only[Ex.eval,kX,AT,AL,Rf.eval];have e1:u0 (T a0::(ah.map (Rf.eval T)++Y.map (Rf.eval T)))=T a0:=rfl;have H:List.tail (T a0::(ah.map (Rf.eval T)++Y.map (Rf.eval T)))=ah.map (Rf.eval T)++Y.map (Rf.eval T):=rfl;have e3:ah.map (fun x=>Rf.eval T x)=ah.map (Rf.eval T):=rfl;rw[show (List.map (Rf.eval T) ah++List.map (Rf.eval T) Y)=ah.map (Rf.eval T)++Y.map (Rf.eval T) from rfl,e1,H,hT,List.take_left' cc,List.drop_left' cc];rfl
    have d8:DL (Bt T W m w) w al N (ah.map (Rf.eval T)) az:=⟨z,kC,E⟩;have ej:DL (Bt T W m w) w aM aT (Y.map (Rf.eval T)) j:=⟨zv,zC,z2⟩;have b5:∀(D:List MapEntry) (X:Nat),D.length=(Cb al.length l (ah.map (Rf.eval T)) (Y.map (Rf.eval T))).length->D.length<=BT->
      (∀(i:Nat) (us:List U) (e:MapEntry),(Cb al.length l (ah.map (Rf.eval T)) (Y.map (Rf.eval T)))[i]? =some us->D[i]? =some e->∃u1 u2,us=u1++u2/\DL (Bt T W m w) w al N u1 e.key/\DL (Bt T W m w) w aM aT u2 e.val)->
      (∃base,X=base+D.length/\∀(i:Nat) (e:MapEntry),D[i]? =some e->e.born=base+i)->
      BY T g.n W m w W (m.set id (.mapb g.n al N aM aT)) (w.putObj b (.map D.toArray X))/\BX T (g.n+1) W (m.set id (.mapb g.n al N aM aT)) (w.putObj b (.map D.toArray X)):=by
     intro D X q1 q2 q3 q4;refine vt rfl hm (by rw[bt];rfl) (by rw[bt];rfl) b2 (by omega) fun aa=>⟨by omega,_,b,D,X,cy,b2,World.putObj_heap_same ce,q1,by omega,fun i us e O C=>?_,q4⟩;obtain⟨u1,u2,g1,aw,g3⟩:=q3 i us e O C;exact⟨u1,u2,g1,DL.mono (fun _ _ h=>aa.safe0 h) aw,DL.mono (fun _ _ h=>aa.safe0 h) g3⟩
    cases he:ay[Bz al.length l (ah.map (Rf.eval T))]? with
    |some e=>
     have cf:Bz al.length l (ah.map (Rf.eval T)) < l.length:=by rw[<-M];exact (AG.1 he).1
     have b0:Cb al.length l (ah.map (Rf.eval T)) (Y.map (Rf.eval T))=l.set (Bz al.length l (ah.map (Rf.eval T))) (ah.map (Rf.eval T)++Y.map (Rf.eval T)):=by
      unfold Cb;grind
     rw[he] at a9;have c6:=AF cf;obtain⟨u1,u2,e1,⟨aE,H,e3⟩,e4⟩:=ca _ _ e c6 he;have hq:Ce u1 (ah.map (Rf.eval T))=true:=by
      have c7:List.findIdx (fun r=>Ce (r.take al.length) (ah.map (Rf.eval T))) l < l.length:=cf;have:=List.findIdx_getElem (p:=fun r=>Ce (r.take al.length) (ah.map (Rf.eval T))) (xs:=l) (w:=c7);have e5:l[List.findIdx (fun r=>Ce (r.take al.length) (ah.map (Rf.eval T))) l]=u1++u2:=e1;rw[e5,List.take_left' H.len.2] at this;exact this
     have b6:KE ks z aE (Ce u1 (ah.map (Rf.eval T))):=jH bx kC H;rw[hq] at b6;have cs:=Qz bo e3;have de:=tV (w:=w) hf b6;generalize d7:Bz al.length l (ah.map (Rf.eval T))=am at*;have c3:(ay.toArray[am]?).map (·.key)=some (CN P F aE):=by simp[he,cs]
     have c9:(ay.toArray.modify am fun e=>{ e with key:=CN P F z,val:=j })=(ay.modify am fun e=>{ e with key:=CN P F z,val:=j }).toArray:=by simp
     have d9:∀i:Nat,(ay.modify am fun e=>{ e with key:=CN P F z,val:=j })[i]? =if am=i then (ay[i]?).map (fun e=>{ e with key:=CN P F z,val:=j }) else ay[i]? :=fun i=>by
      grind
     have h3:∀(i:Nat) (us:List U) (e:MapEntry),(Cb al.length l (ah.map (Rf.eval T)) (Y.map (Rf.eval T)))[i]? =some us->(ay.modify am fun e=>{ e with key:=CN P F z,val:=j })[i]? =some e->∃u1 u2,us=u1++u2/\DL (Bt T W m w) w al N u1 e.key/\DL (Bt T W m w) w aM aT u2 e.val:=by
      grind
     have h4:∀(i:Nat) (e:MapEntry),(ay.modify am fun e=>{ e with key:=CN P F z,val:=j })[i]? =some e->e.born=base+i:=by
      grind
     obtain⟨f1,f2⟩:=b5 (ay.modify am fun e=>{ e with key:=CN P F z,val:=j }) a5 (by rw[b0];simp[M]) (by simp[M];exact c8) h3 ⟨base,by simp;exact c0,h4⟩;refine⟨_,?_,f1,f2,rfl⟩;simp only[Instr.mapUpdate,Ar,run_underlying hu,Aq,cb,b4,b9,a9,BC,c3,Option.getD_some,de];rw[WU _ hb,c9]
    |none=>
     have ei:¬Bz al.length l (ah.map (Rf.eval T)) < l.length:=fun ce=>by
      grind
     have b0:Cb al.length l (ah.map (Rf.eval T)) (Y.map (Rf.eval T))=l++[ah.map (Rf.eval T)++Y.map (Rf.eval T)]:=by
      unfold Cb;grind
     rw[he] at a9;have h3:∀(i:Nat) (us:List U) (e:MapEntry),(Cb al.length l (ah.map (Rf.eval T)) (Y.map (Rf.eval T)))[i]? =some us->(ay++[{ key:=az,val:=j,born:=a5 }])[i]? =some e->∃u1 u2,us=u1++u2/\DL (Bt T W m w) w al N u1 e.key/\DL (Bt T W m w) w aM aT u2 e.val:=by
      grind
     have h4:∀(i:Nat) (e:MapEntry),(ay++[{ key:=az,val:=j,born:=a5 }])[i]? =some e->e.born=base+i:=by
      grind
     obtain⟨f1,f2⟩:=b5 (ay++[{ key:=az,val:=j,born:=a5 }]) (a5+1) (by rw[b0];simp[M]) (by simp[M];exact a3) h3 ⟨base,by simp;omega,h4⟩;refine⟨_,?_,f1,f2,rfl⟩;simp only[Instr.mapUpdate,Ar,run_underlying hu,Aq,cb,b4,b9,a9,Option.map_none];rw[WU _ hb];simp
   .cases h
  .cases h
 .cases h
end
section
variable {T:Tab}{n:Nat}{W :Nat->Option Nat}{m:Mem}{w:World}
theorem BY.weaken {ai:Mem}(h:∀id,ai.at id=m.at id\/ai.at id= .gone):BY T n W m w W ai w where
 os:=rfl
 tape:=rfl
 output:=rfl
 size:=AE _
 mlen:=fun id j=>by
  rcases h id with e|e
  .rw[e];exact j
  .rw[e];exact fun h=>by cases h
 rho:=fun id j=>by
  refine⟨rfl,?_⟩;rcases h id with e|e
  .rw[e];exact j
  .rw[e];rfl
 untr:=fun id _ i=>by
  rcases h id with e|e
  .rw[<-e];exact i
  .rw[e] at i;cases i
 fresh:=fun id b j i _=>by
  rcases h id with e|e
  .rw[e,j] at i;cases i
  .rw[e] at i;cases i
 old:=fun _ _ _=>rfl
 tok:=fun id x ks e p=>by
  rcases h id with e'|e'
  .exact .inl ⟨by rw[e'];exact p,rfl,fun _ _=>rfl⟩
  .exact .inr ⟨fun _ _ _ _=>rfl,.inl e'⟩
 row:=fun id x y ks e p=>by
  rcases h id with e'|e'
  .exact .inr ⟨x,y,ks,by rw[e'];exact p,rfl,.inl ⟨rfl,rfl,fun _ Y _ q=>⟨Y,q,rfl⟩⟩⟩
  .exact .inl e'
theorem BX.weaken (i:BX T n W m w){ai:Mem}(h:∀id,ai.at id=m.at id\/ai.at id= .gone):BX T n W ai w where
 fr:=i.fr
 blk:=fun id=>by
  rcases h id with e|e
  .exact Cj.step (BY.weaken h) i (AE _) e rfl (fun _ _=>rfl)
  .rw[e];trivial
 inj:=fun id q b j p O C=>by
  refine i.inj id q b ?_ ?_ O C
  .rcases h id with e|e
   .rw[<-e];exact j
   .rw[e] at j;cases j
  .rcases h q with e|e
   .rw[<-e];exact p
   .rw[e] at p;cases p
theorem vu {m:Mem}{b:Blk}(id:Nat):Mem.at (m++[.gone]) id=Mem.at (m++[b]) id\/Mem.at (m++[.gone]) id= .gone:=by
 unfold Mem.at;grind
end
section
variable {P:Program}{T:Tab}{W :Nat->Option Nat}{m:Mem}{w:World}{g:G}{r:R}
variable{a:Act}{o:Oper}{aE:Operand->AC}{t:TypeId}
theorem fi {b:Builtin}{args:Array Operand}{au:Array TypeId}(ho:o.op= .call { callee:= .builtin b,args,argTypes:=au })(h:Kf P b au (args.toList.map aE) m g=some r)
  (M:New T g.n r.us) (a6:∀q∈r.ps,q.holds T) (F:BX T g.n W m w) (D:∀x,BQ T g.n W m w (aE x) (a.eval x)):Cd T g W m w ((execOp a.eval o).run P w) r:=by
 rw[Ld ho];obtain⟨args⟩:=args;unfold Kf at h;split at h
 .rename_i H x i;cases args with
  |nil=>cases i
  |cons p j=>
   cases j with
   |cons=>cases i
   |nil=>
    simp at i;subst i;simp only[AD,AA] at h;obtain⟨t,N,h⟩:=h;obtain⟨z,O,C,E⟩:=Xc h M F (D p) au N o.type;exact Cd.pure (by simp[builtin,O]) F C E
 .rename_i H x y i;cases args with
  |nil=>cases i
  |cons p j=>
   cases j with
   |nil=>cases i
   |cons aw j=>
    cases j with
    |cons=>cases i
    |nil=>
     simp at i;obtain⟨rfl,rfl⟩:=i;obtain⟨z,O,C,E⟩:=M5 (P:=P) h M (D p) (D aw) au o.type;exact Cd.pure (by simp at O;simp[builtin,O]) F C E
 .rename_i H x y i;cases args with
  |nil=>cases i
  |cons p j=>
   cases j with
   |nil=>cases i
   |cons aw j=>
    cases j with
    |cons=>cases i
    |nil=>
     simp at i;obtain⟨rfl,rfl⟩:=i;obtain⟨z,O,C,E⟩:=M5 (P:=P) h M (D p) (D aw) au o.type;exact Cd.pure (by simp at O;simp[builtin,O]) F C E
 .rename_i H x y i;cases args with
  |nil=>cases i
  |cons p j=>
   cases j with
   |nil=>cases i
   |cons aw j=>
    cases j with
    |cons=>cases i
    |nil=>
     simp at i;obtain⟨rfl,rfl⟩:=i;obtain⟨z,ac, ad,O,C,E,h4⟩:=mG h M a6 F (D p) (D aw) o.type;exact⟨z,ac, ad,.inl (by simp[builtin,O]),C,E,h4⟩
 .rename_i H aO aS Y a3 i;cases args with
  |nil=>cases i
  |cons p j=>
   simp only[AT,List.cons.injEq] at i;obtain⟨rfl,i⟩:=i;obtain⟨z,O,C,E⟩:=Np (P:=P) (w:=w) _ _ _ (j.map a.eval) g r h M (D p) (by rw[<-i];exact BR.of_map D j);refine Cd.pure (v:=z) ?_ F C E;simp only[AZ,if_false] at O;simp[builtin,Builtin.min_,O]
 .rename_i H aO aS Y a3 i;cases args with
  |nil=>cases i
  |cons p j=>
   simp only[AT,List.cons.injEq] at i;obtain⟨rfl,i⟩:=i;obtain⟨z,O,C,E⟩:=Np (P:=P) (w:=w) _ _ _ (j.map a.eval) g r h M (D p) (by rw[<-i];exact BR.of_map D j);refine Cd.pure (v:=z) ?_ F C E;simp only[if_true] at O;simp[builtin,Builtin.max_,O]
 .rename_i H i;cases args with
  |nil=>cases i
  |cons p j=>
   cases j with
   |cons=>simp at i
   |nil=>
    simp at i;simp only[AD,AA] at h;obtain⟨t,N,h⟩:=h;split at h
    .rename_i e hu;cases h;have X:=D p;rw[i] at X;have a9:a.eval p= .slice none 0 0:=X;refine Cd.pure (v:= .int .i64 0) ?_ F rfl rfl;simp[builtin,Builtin.cap_,a9,N,run_underlying hu,goInt]
    .cases h
 .cases h
theorem oe (h:aOp P aE o.op m g=some r)(F:New T g.n r.us)(M:∀q∈r.ps,q.holds T)(p:BX T g.n W m w)(j:∀x,BQ T g.n W m w (aE x) (a.eval x)):
  Cd T g W m w ((execOp a.eval o).run P w) r:=by
 have X:∀xs:Array Operand,xs.map a.eval=(xs.toList.map a.eval).toArray:=fun xs=>by rw[<-Array.toList_map,Array.toArray_toList]
 cases E:o.op<;>rw[E] at h<;>simp only[aOp] at h
 case move x=>cases h;exact Cd.same (v:=a.eval x) (by simp[execOp,E]) p rfl (j x)
 case assign x=>cases h;exact Cd.same (v:=a.eval x) (by simp[execOp,E]) p rfl (j x)
 case pick c x y=>
  obtain⟨q,O,C,D⟩:=QB h F p (j c) (fun _=>j x) (fun _=>j y);exact Cd.pure (v:=if q then a.eval x else a.eval y) (by simp[execOp,E,O,asBool]) p C D
 case alloc t=>exact pu h p E
 case box t x=>exact u9 h p E (j x)
 case build t aV=>exact (Yo h p E j).res p
 case buildSlice t len aV=>exact PU h F p E j
 case load t x=>
  obtain⟨u,O,C,D⟩:=P9 h F p (j x);exact Cd.pure (by simp[execOp,E,O]) p C D
 case store t x y=>
  obtain⟨ac,O,C,D,H⟩:=qL h F p (j x) (j y);exact⟨undef,ac, W,.inr ⟨by simp[execOp,E,O],rfl⟩,C,D,by rw[H];exact trivial⟩
 case nilCheck x=>exact (Se h M p E rfl (j x)).res p
 case binOp op t x y yt=>
  obtain⟨z,O,C,D⟩:=S3 h F M (j x) (j y) x y;exact Cd.pure (v:=z) (OA (s:=do eqGuard op t x y (a.eval x) (a.eval y);binOp op t (a.eval x) (a.eval y)) (by simp only[execOp,E]) O) p C D
 case unOp op t x=>
  obtain⟨z,O,C,D⟩:=cr (P:=P) (w:=w) h F (j x);exact Cd.pure (by simp[execOp,E,O]) p C D
 case convert s d x=>
  obtain⟨z,O,C,D⟩:=O1 h F (j x);exact Cd.pure (by simp[execOp,E,O]) p C D
 case makeFunc aA first I=>
  cases h;refine Cd.same (v:= .func aA (first.map a.eval) (I.map a.eval)) (by simp[execOp,E,Instr.makeFunc]) p rfl ?_;refine⟨first.toList.map a.eval,I.toList.map a.eval,by rw[X,X],BR.of_map j _,BR.of_map j _⟩
 case fieldAddr t x f=>
  obtain⟨z,O,C,D,H⟩:=MI h (j x);exact Cd.same (by simp[execOp,E,O]) p C H
 case field t x f=>
  obtain⟨z,O,C,D,H⟩:=So h (j x);exact Cd.same (by simp[execOp,E,O]) p C H
 case indexAddr t x i=>
  obtain⟨z,O,C,D⟩:=MF h F M (j x) (j i);exact Cd.pure (by simp[execOp,E,O]) p C D
 case makeMap t rv=>
  cases rv with
  |none=>exact fO h F p E
  |some _=>cases h
 case lookup t x am ok=>
  obtain⟨z,O,C,D⟩:=j4 h F M p (j x) (j am);exact Cd.pure (by simp[execOp,E,O]) p C D
 case mapUpdate t x am v=>
  obtain⟨ac,O,C,D,H⟩:=ZL h F M p (j x) (j am) (j v);exact⟨undef,ac, W,.inr ⟨by simp[execOp,E,O],rfl⟩,C,D,by rw[H];exact trivial⟩
 case index t x i=>
  obtain⟨z,O,C,D⟩:=SB h F M (j x) (j i);rcases D with D|D
  .exact Cd.same (by simp[execOp,E,O]) p C D
  .exact Cd.pure (by simp[execOp,E,O]) p C D
 case slice t x ar ab a0=>
  cases a0 with
  |some v=>
   cases ab with
   |none=>cases h
   |some ab=>
    have N:QP T g.n W m w (ar.map aE) (ar.map a.eval):=by
     cases ar with
     |none=>rfl
     |some y=>exact⟨_,rfl,j y⟩
    obtain⟨z, ad,O,C,D,H⟩:=lV h F M p (j x) N (j ab) (j v);exact⟨z,w, ad,.inl (by simp[execOp,E,O]),C,D,H⟩
  |none=>
   have N:∀l:Option Operand,QP T g.n W m w (l.map aE) (l.map a.eval):=by
    intro l;cases l with
    |none=>rfl
    |some y=>exact⟨_,rfl,j y⟩
   obtain⟨z,O,C,D⟩:=SA h F M p (j x) (N ar) (N ab);exact Cd.pure (by simp[execOp,E,O]) p C D
 case makeSlice t x y=>exact Zj h F M p E (j x) (j y)
 case extract x i=>
  obtain⟨z,O,C,D,H⟩:=PM (P:=P) h (j x);exact Cd.same (by simp[execOp,E,O]) p C H
 case call c=>
  obtain⟨Y,args,au⟩:=c;cases Y with
  |builtin b=>exact fi E h F M p j
  |value f=>cases h
  |invoke x n=>cases h
 all_goals cases h
theorem VX {len:Nat}{aV:List (Nat × AC)}(h:EY P t len aV m g=some r):∃x ks e,r.c= .vec m.length x ks/\r.m=m++[.tok x ks e]:=by
 unfold EY at h;split at h
 .simp only[AD,AA] at h;obtain⟨i,ab,z,j,h⟩:=h;split at h
  .simp only[AA] at h;grind
  .split at h
   .simp only[AA] at h;grind
   .cases h
 .cases h
theorem fD {len:Nat}{aV:Array (Nat × Operand)}(h:Kt P t len (aV.toList.map fun (i,x)=>(i,aE x)) m g=some r)(X:New T g.n r.us)(F:BX T g.n W m w)
  (Y:o.op= .buildSlice t len aV) (N:∀x,BQ T g.n W m w (aE x) (a.eval x)):Cd T g W m w ((execOp a.eval o).run P w) r:=by
 unfold Kt at h;simp only[AD,AA] at h;obtain⟨q,z,h⟩:=h;obtain⟨x,ks,e,D,M⟩:=VX z;rw[D] at h;cases h;obtain⟨v,ac, ad,k1,E,H,j⟩:=PU z X F Y N;rw[M] at E H j;rw[D] at j;have k5:BQ T (g.n+q.us.length) ad (m++[.tok x ks e]) ac (.ro x ks) v:=⟨j.1,j.2.2.1⟩;have p:=fun id=>vu (m:=m) (b:= .tok x ks e) id;exact⟨v,ac, ad,k1,E.trans F (Nat.le_add_right _ q.us.length) (BY.weaken (n:=g.n+q.us.length) p),H.weaken p,BQ.mono0 (BY.weaken p) (AE _) _ _ k5⟩
theorem Xx {k:Nat}(h:FL k P aE o.op m g=some r)(D:New T g.n r.us)(F:∀q∈r.ps,q.holds T)(p:BX T g.n W m w)(i:∀x,BQ T g.n W m w (aE x) (a.eval x)):
  Cd T g W m w ((execOp a.eval o).run P w) r:=by
 unfold FL at h;split at h
 .exact oe h D F p i
 .split at h
  .rename_i t n c j;exact fY h D F p j (i n) (i c)
  .rename_i t len aV j;exact Rc h D p j
  .rename_i t x ar ab a0 j;have X:QP T g.n W m w (ar.map aE) (ar.map a.eval):=by
    cases ar with
    |none=>rfl
    |some y=>exact⟨_,rfl,i y⟩
   obtain⟨z, ad,O,C,H,M⟩:=Zh h D p (i x) X (i ab) (i a0);exact⟨z,w, ad,.inl (by simp[execOp,j,O]),C,H,M⟩
  .rename_i args au j;obtain⟨args⟩:=args;split at h
   .rename_i s x E;rw[Ld j];cases args with
    |nil=>cases E
    |cons Y N=>
     cases N with
     |nil=>cases E
     |cons aw N=>
      cases N with
      |cons=>cases E
      |nil=>
       simp at E;obtain⟨rfl,rfl⟩:=E;obtain⟨z,ac, ad,O,C,H,M⟩:=Tb h D F p (i Y) (i aw) o.type;exact⟨z,ac, ad,.inl (by simp[builtin,O]),C,H,M⟩
   .cases h
  .cases h
 .split at h
  .rename_i t len aV j;split at h
   .exact fD h D p j i
   .exact Xi h p j i
  .exact oe h D F p i
end
structure Loc where
 tmps:Bn
 mem:Mem
inductive XK where
 |normal
 |exit (id:Nat)
 |ret
 deriving DecidableEq
abbrev YF:=Nat->List AC->PC->Mem->G->Option (AC × Mem × G)
structure Ys where
 get:Nat->Option YF
 mu:Tmp->Nat
instance:CoeFun Ys (fun _=>Nat->Option YF):=⟨Ys.get⟩
def Ys.none:Ys:=⟨fun _=>Option.none,fun _=>0⟩
def Oy (an:Ys):Option Tmp->Nat
 |some t=>an.mu t
 |none=>0
abbrev CM:=Ys->FuncId->List AC->PC->Mem->G->Option (AC × Mem × G)
structure CT where
 k:XK
 pc:PC
 l:Loc
structure GE where
 j:Nat
 want:Bool
 p:Nat
 imp:List Nat
def W4 (aX:List Nat):AC->AC
 | .on c a=>if aX.contains c then a else .on c a
 | .gd c a=>if aX.contains c then a else .gd c a
 |a=>a
def EJ (aX:List Nat)(tmps:Bn):Operand->AC
 | .tmp t=>W4 aX ((tmps.get t).getD .any)
 | .const v=>Ka v
 | .global _=> .any
 | .func f=> .fn (.func f) [] []
def Gr:PC->Rf
 |none=> .c (.bool true)
 |some c=> .e c
def ED (ae:PC)(x:Nat)(aL:Bool):Ex:=
 match ae with
 |none=>if aL then ⟨ "id",oId,[.e x]⟩ else ⟨ "not",XL,[.e x]⟩
 |some c=>⟨ "and",R9,[.e c,if aL then .e x else .n x]⟩
structure RS where
 tmps:Bn
 mem:Mem
 g:G
 gl:List GE
def Fp (ae:PC)(base:List Nat)(s:RS)(j:Nat)(aL:Bool):AC->Option (Option (PC × List Nat) × RS)
 | .cb b=>if b=aL then some (some (ae,base),s) else some (none,s)
 | .b x=>some (some (some s.g.n,s.g.n::base),{ s with g:=s.g.pushAll [ED ae x aL],gl:=⟨j,aL,s.g.n,s.g.n::base⟩::s.gl })
 | .nb x=>some (some (some s.g.n,s.g.n::base),{ s with g:=s.g.pushAll [ED ae x (!aL)],gl:=⟨j,aL,s.g.n,s.g.n::base⟩::s.gl })
 |_=>none
def EG (Z:Array Oper)(ae:PC)(s:RS)(o:Oper):Option (Option (PC × List Nat) × RS):=
 match o.guard with
 |none=>some (some (ae,[]),s)
 |some (j,aL)=>
  match s.gl.filter (fun e=>Nat.beq e.j j&&(e.want==aL)) with
  |e::ay=>some (some (some e.p,e.imp++(ay.map (·.imp)).flatten),s)
  |[]=>do
   let h<-Z[j]?;let d<-h.dst;let c<-s.tmps.get d
   match c with
   | .tup []=>some (none,s)
   | .gd c a=>do
    let e<-s.gl.find? (fun e=>Nat.beq e.p c)
    Fp (some c) e.imp s j aL a
   |a=>Fp ae [] s j aL a
def CS:Op->Bool
 | .move _| .assign _| .pick .. | .build .. | .load .. | .nilCheck _| .binOp .. | .unOp .. | .convert .. | .makeFunc .. | .fieldAddr .. | .field .. | .indexAddr .. | .index .. | .extract .. | .slice _ _ _ _ none=>true
 | .call { callee:= .builtin .cap,.. }| .call { callee:= .builtin .len,.. }| .call { callee:= .builtin .min,.. }| .call { callee:= .builtin .max,.. }=>true
 |_=>false
def Blk.beq:Blk->Blk->Bool
 | .pad,.pad=>true
 | .gone,.gone=>true
 | .cells l e,.cells ak e'=>AC.beqL l ak&&Nat.beq e e'
 | .tok x ks e,.tok L X e'=>Nat.beq x L&&Kd.beqs ks X&&Nat.beq e e'
 | .lp x a,.lp L a'=>Nat.beq x L&&AC.beq a a'
 | .mrow x y ks e,.mrow L aF X e'=>Nat.beq x L&&Nat.beq y aF&&Kd.beqs ks X&&Nat.beq e e'
 | .mapb x al ka aM aT,.mapb L kk' ka' vk' va'=>Nat.beq x L&&Kd.beqs al kk'&&(ka==ka')&&Kd.beqs aM vk'&&(aT==va')
 |_,_=>false
def ID:Mem->Mem->Bool
 |[],_=>true
 |b::m,b'::ag=>Blk.beq b b'&&ID m ag
 |_,_=>false
def Pm (Z:Array Oper)(h:List GE)(c:Operand)(aL:Bool):List Nat:=
 match c with
 | .tmp t=>(h.filter fun e=>(e.want==aL)&&(((Z[e.j]?).bind (·.dst))==some t)).map (·.p)
 |_=>[]
def E6 (n:Nat)(b:Rf):Blk->Blk->Blk × List Ex
 | .cells l e,.cells ak e'=>
  if l.length=ak.length/\e=e' then
   let (r,us):=RP (fun n=>mix n b) n l ak
   if r.all AC.atom then (.cells r e,us) else (.gone,us)
  else (.gone,[])
 | .tok x ks e,.tok L X e'=>
  if Nat.beq x L&&Kd.beqs ks X&&Nat.beq e e' then (.tok x ks e,[])
  else if e=e'/\ks.length=X.length then (.tok n (Kd.joins ks X) e,[⟨ "if",oIf,[b,.e x,.e L]⟩]) else (.gone,[])
 | .tok x ks e,.pad=>(.tok n ks e,[⟨ "if",oIf,[b,.e x,.c (.list [])]⟩])
 | .pad,.tok x ks e=>(.tok n ks e,[⟨ "if",oIf,[b,.c (.list []),.e x]⟩])
 | .lp x a,.lp L a'=>
  if Nat.beq x L then
   let (c,us):=mix n b a a'
   (.lp x c,us)
  else (.gone,[])
 | .mrow x y ks e,.mrow L aF X e'=>
  if Nat.beq y aF&&Nat.beq e e'&&Nat.beq ks.length X.length then
   if Nat.beq x L&&Kd.beqs ks X then (.mrow x y ks e,[]) else (.mrow n y (Kd.joins ks X) e,[⟨ "if",oIf,[b,.e x,.e L]⟩])
  else (.gone,[])
 | .mapb x al ka aM aT,.mapb L kk' ka' vk' va'=>
  if Nat.beq x L&&Kd.beqs al kk'&&(ka==ka')&&Kd.beqs aM vk'&&(aT==va') then (.mapb x al ka aM aT,[])
  else if Nat.beq al.length kk'.length&&(ka==ka')&&Nat.beq aM.length vk'.length&&(aT==va') then (.mapb n (Kd.joins al kk') ka (Kd.joins aM vk') aT,[⟨ "if",oIf,[b,.e x,.e L]⟩])
  else (.gone,[])
 | .pad,.pad=>(.pad,[])
 |_,_=>(.gone,[])
def Ih (b:Rf):Nat->Mem->Mem × List Ex
 |_,[]=>([],[])
 |n,y::ag=>
  let (z,us):=E6 n b .pad y;let (r,h):=Ih b (n+us.length) ag
  (z::r,us++h)
def Cs (b:Rf):Nat->Mem->Mem->Mem × List Ex
 |n,[],ag=>Ih b n ag
 |n,x::m,ag=>
  let (z,us):=E6 n b x (ag.headD .pad);let (r,h):=Cs b (n+us.length) m ag.tail
  (z::r,us++h)
def OO (m:Mem)(id:Nat):Option AC:=match m.at id with| .tok z ks _=>some (.vec id z ks)|_=>none
def HO (m ax ai:Mem)(c d:AC):Option AC:=
 match c,d with
 | .vec id x ks,.vec id' L X=>
  if Nat.beq id id' then
   match ax.at id,ai.at id with
   | .tok y ky _,.tok aF ky' _=>if Nat.beq x y&&Nat.beq L aF&&Kd.beqs ks ky&&Kd.beqs X ky' then OO m id else none
   |_,_=>none
  else none
 | .vec id x ks,.cv .nilSlice=>
  match ax.at id,ai.at id with
  | .tok y ky _,.pad=>if Nat.beq x y&&Kd.beqs ks ky then OO m id else none
  |_,_=>none
 | .cv .nilSlice,.vec id x ks=>
  match ax.at id,ai.at id with
  | .pad,.tok y ky _=>if Nat.beq x y&&Kd.beqs ks ky then OO m id else none
  |_,_=>none
 |_,_=>none
def Iw (m ax ai:Mem):List AC->List AC->List AC->List AC
 |c::l,d::ak,a::r=>(HO m ax ai c d).getD a::Iw m ax ai l ak r
 |_,_,r=>r
def dZ (m ax ai:Mem):Blk->Blk->Blk->Blk
 | .cells l _,.cells ak _,.cells r e=> .cells (Iw m ax ai l ak r) e
 |_,_,z=>z
def Uq (m ax ai:Mem):Mem->Mem->Mem->Mem
 |z::r,b1,b2=>dZ m ax ai (b1.headD .pad) (b2.headD .pad) z::Uq m ax ai r b1.tail b2.tail
 |[],_,_=>[]
def Ct (b:Rf)(n:Nat)(ax ai:Mem):Mem × List Ex:=
 let (r,us):=Cs b n ax ai
 (Uq r ax ai r ax ai,us)
def PQ (f:Nat->AC->AC->AC × List Ex)(n:Nat):Option AC->Option AC->Option AC × List Ex
 |some a,some b=>let (c,us):=f n a b;(some c,us)
 |_,_=>(none,[])
def GA (f:Nat->AC->AC->AC × List Ex):Nat->Tr->Tr->Tr × List Ex
 |n,.node v l r,.node v' ak r'=>
  let (c,us):=PQ f n v v';let (aj,h):=GA f (n+us.length) l ak;let (aJ,i):=GA f (n+us.length+h.length) r r'
  (.node c aj aJ,us++(h++i))
 |_,_,_=>(.nil,[])
def Bn.flat (s:Bn):Tr:=if s.loc.isEmpty then s.t else .nil
def S7 (m ax ai:Mem)(b:Rf)(n:Nat)(c d:AC):AC × List Ex:=
 match HO m ax ai c d with
 |some a=>(a,[])
 |none=>O3 n b c d
def IT (n:Nat)(b:Rf)(af aj:Loc):Loc × List Ex:=
 let (m,us):=Ct b n af.mem aj.mem;let (t,h):=GA (S7 m af.mem aj.mem b) (n+us.length) af.tmps.flat aj.tmps.flat
 (⟨⟨af.tmps.n,[],t⟩,m⟩,us++h)
def Es (g:G)(ae:PC)(x:Nat)(aL:Bool):PC × G:=
 match ae,aL with
 |none,true=>(some x,g)
 |ae,aL=>(some g.n,g.pushAll [ED ae x aL])
def Kz (one:AC->PC->Mem->G->Option (AC × Mem × G))(x:Nat):Nat->List AC->PC->Mem->G->Option (AC × Mem × G)
 |_,[],_,_,_=>none
 |_,[c],ae,m,g=>one c ae m g
 |j,.cv .nilFunc::aC,ae,m,g=>Kz one x (j+1) aC ae m (g.needAll ae [⟨ "ne",pNe,[.e x,.c (.int j)]⟩])
 |j,c::aC,ae,m,g=>do
  let t:=g.n;let g:=g.pushAll [⟨ "eq",oEq,[.e x,.c (.int j)]⟩];let (i,g):=Es g ae t true;let (ca,aG,g) <-one c i m g;let (p,g):=Es g ae t false;let (cb,mb,g) <-Kz one x (j+1) aC p m g;let (ag,us):=Ct (.e t) g.n aG mb;let (h,q):=Ha (g.n+us.length) (.e t) ca cb
  some (h,ag,g.pushAll (us++q))
def Fz (call:CM)(an:Ys)(args:List AC)(f:AC)(ae:PC)(m:Mem)(g:G):Option (AC × Mem × G):=
 match f with
 | .fn (.func k) first I=>call an k (first++args++I) ae m g
 | .yl id=>
  match m.at id with
  | .lp stamp _=>do
   let y<-an stamp
   y id args ae m g
  |_=>none
 |_=>none
def Pj (call:CM)(an:Ys)(f:AC)(args:List AC)(ae:PC)(m:Mem)(g:G):Option (AC × Mem × G):=
 match f with
 | .sel x alts=>Kz (Fz call an args) x 0 alts ae m g
 |f=>Fz call an args f ae m g
def Z0 (ae:PC)(aX:List Nat)(c:AC):AC:=
 match ae,aX with
 |some p,_::_=> .gd p c
 |_,_=>c
def EL (tmps:Bn)(a1:Option Tmp)(c:AC):Bn:=
 match a1 with
 |some d=>tmps.set d c
 |none=>tmps
def Zw:AC->AC
 | .on _ (.ptr i o)=> .ptr i o
 |a=>a
def cE:AC->List Pr
 | .on c (.ptr _ _)=>[⟨ "t",pT,[.e c]⟩]
 |_=>[]
def Kv:List AC->List Pr
 |[]=>[]
 |a::l=>cE a++Kv l
def Cu (P:Program)(call:CM)(an:Ys)(Z:Array Oper)(ae:PC)(s:RS)(o:Oper):Option RS:=do
 let (run,s) <-EG Z ae s o
 if s.gl.any (fun e=>((Z[e.j]?).bind (·.dst))==o.dst) then none else
 let put (c:AC):Bn:=EL s.tmps o.dst c
 match run with
 |none=>some { s with tmps:=put (.tup []) }
 |some (pc',aX)=>
  let aE:=EJ aX s.tmps;let h (c:AC):AC:=Z0 pc' aX c
  match o.op with
  | .call { callee:= .value f,args,.. }=>do
   let (c,m,g) <-Pj call an (aE f) ((args.toList.map aE).map Zw) pc' s.mem (s.g.needAll pc' (Kv (args.toList.map aE)))
   match aX with
   |[]=>some { s with tmps:=put c,mem:=m,g }
   |_=>if ID s.mem m then some { s with tmps:=put (h c),mem:=s.mem++List.replicate (m.length - s.mem.length) .gone,g } else
    match pc' with
    |some p=>some { s with tmps:=put (h c),mem:=(Ct (.e p) g.n m s.mem).1,g:=g.pushAll (Ct (.e p) g.n m s.mem).2 }
    |none=>none
  | .pick c a b=>do
   let r<-Z4 (aE c) (W4 (Pm Z s.gl c true) (aE a)) (W4 (Pm Z s.gl c false) (aE b)) s.mem s.g
   some { s with tmps:=put (h r.c),g:=(s.g.pushAll r.us).needAll pc' r.ps }
  |op=>do
   let r<-FL (match aX with|[]=>Oy an o.dst|_=>0) P aE op s.mem s.g
   match aX with
   |[]=>some { s with tmps:=put r.c,mem:=r.m,g:=(s.g.pushAll r.us).needAll pc' r.ps }
   |_=>if CS op then some { s with tmps:=put (h r.c),g:=(s.g.pushAll r.us).needAll pc' r.ps } else
    if ID s.mem r.m then some { s with tmps:=put (h r.c),mem:=s.mem++List.replicate (r.m.length - s.mem.length) .gone,g:=(s.g.pushAll r.us).needAll pc' r.ps } else none
def Ee (P:Program)(call:CM)(an:Ys)(Z:Array Oper)(ae:PC):List Oper->RS->Option RS
 |[],s=>some s
 |o::l,s=>do
  let s<-Cu P call an Z ae s o
  Ee P call an Z ae l s
def GV (f:List Nat):List Edge->Nat
 |[]=>0
 |e::ay=>if Region.binds .any e then Nat.lor (Nat.lor (2 ^ e.on) ((f[e.on]?).getD 0)) (GV f ay) else GV f ay
def Bx:List Oper->List Nat->List Nat
 |[],f=>f
 |o::l,f=>Bx l (f++[GV f o.after.toList])
structure DS where
 tmps:Bn
 mem:Mem
 g:G
 gls:List (Nat × GE)
def CD (Z:Array Oper)(o:Oper):List Tmp:=
 (o.op.operands.toList.filterMap fun x=>match x with| .tmp t=>some t|_=>none)++
  (match o.guard with|some (j,_)=>(match Z[j]? with|some h=>h.dst.toList|none=>[])|none=>[])
def DO:List (Tmp × Nat)->Tmp->Option Nat
 |[],_=>none
 |(a2,i)::r,t=>bif Nat.beq a2 t then some i else DO r t
def Ck:Nat->List Oper->List (Tmp × Nat)
 |_,[]=>[]
 |i,o::l=>match o.dst with|some t=>(t,i)::Ck (i+1) l|none=>Ck (i+1) l
def DE (D:List (Tmp × Nat))(ok:Nat->Bool)(s:Bn):List Tmp->List (Nat × AC)
 |[]=>[]
 |t::r=>match s.get t with
  |some c=>if (match DO D t with|some i=>ok i|none=>true) then (t,c)::DE D ok s r else DE D ok s r
  |none=>DE D ok s r
def Is (R:Nat)(gls:List (Nat × GE)):List GE:=(gls.filter fun p=>R.testBit p.1).map (·.2)
mutual
def AC.free:AC->Bool
 | .ptr .. | .pix .. | .vec .. | .yl _| .asl .. | .rsv .. | .mr .. | .mp .. | .mv _=>false
 | .on _ a| .gd _ a=>AC.free a
 | .fn _ f c=>AC.freeL f&&AC.freeL c
 | .agg l| .tup l| .sel _ l=>AC.freeL l
 |_=>true
def AC.freeL:List AC->Bool
 |[]=>true
 |a::l=>AC.free a&&AC.freeL l
end
def DS.masked (S:DS)(D:List (Tmp × Nat))(ok:Nat->Bool)(R:Nat)(C6:List Tmp):RS:=⟨⟨S.tmps.n,DE D ok S.tmps C6,.nil⟩,S.mem,S.g,Is R S.gls⟩
def H6 (s:RS)(n:Nat):List GE:=s.gl.take (s.gl.length - n)
def HU (tmps:Bn):Option Tmp->AC
 |some d=>(tmps.get d).getD .any
 |none=> .any
def NO (P:Program)(call:CM)(an:Ys)(Z:Array Oper)(D:List (Tmp × Nat))(ae:PC)(R j:Nat)(o:Oper)(S:DS):Option DS:=do
 let aq<-Cu P call an Z ae (S.masked D R.testBit R (CD Z o)) o;let c:=HU aq.tmps o.dst
 if (H6 aq (Is R S.gls).length).all (fun e=>R.testBit e.j)&&(CS o.op||(ID S.mem aq.mem&&(Nat.beq aq.mem.length S.mem.length||AC.free c))) then
  some ⟨EL S.tmps o.dst c,S.mem,aq.g,(H6 aq (Is R S.gls).length).map (fun e=>(j,e))++S.gls⟩
 else none
def heads (P:Program)(call:CM)(an:Ys)(Z:Array Oper)(D:List (Tmp × Nat))(ae:PC):List Nat->List Oper->Nat->DS->Option DS
 |R::Rs,o::l,j,S=>do
  let h<-NO P call an Z D ae R j o S
  heads P call an Z D ae Rs l (j+1) h
 |_,[],_,S=>some S
 |[],_,_,_=>none
def GU:List Nat->Nat->Nat->Nat
 |[],_,h=>h
 |r::ah,j,h=>GU ah (j+1) (if Nat.beq (r+1) (2 ^ j) then h else j+1)
def Hz:List Nat->Nat->Bool
 |[],_=>true
 |r::ah,j=>Nat.blt r (2 ^ j)&&Hz ah (j+1)
def Ij:List Tmp->Bool
 |[]=>true
 |t::l=> !l.contains t&&Ij l
def Zx (P:Program)(call:CM)(an:Ys)(Z:Array Oper)(ae:PC)(l:Loc)(g:G):Option RS:=
 let i:=Bx Z.toList [];let h:=GU i 0 0
 if Hz i 0&&Ij (Z.toList.filterMap (·.dst)) then do
  let S<-heads P call an Z (Ck 0 Z.toList) ae i (Z.toList.take h) 0 ⟨l.tmps,l.mem,g,[]⟩
  Ee P call an Z ae (Z.toList.drop h) ⟨S.tmps,S.mem,S.g,S.gls.map (·.2)⟩
 else none
mutual
def AC.nlt (n:Nat):AC->Bool
 | .on c a| .gd c a=>Nat.blt c n&&AC.nlt n a
 | .b x| .nb x| .i _ _ _ x| .v x| .s x| .ro x _| .vec _ x _| .rsv _ x _=>Nat.blt x n
 | .pix _ _ _ _ x _=>Nat.blt x n
 | .rp x t _ _=>Nat.blt x n&&Nat.blt t n
 | .mr _ y=>Nat.blt y n
 | .mp _ y t _ _=>Nat.blt y n&&Nat.blt t n
 | .fn _ f c=>AC.nltL n f&&AC.nltL n c
 | .sel x l=>Nat.blt x n&&AC.nltL n l
 | .agg l| .tup l=>AC.nltL n l
 |_=>true
def AC.nltL (n:Nat):List AC->Bool
 |[]=>true
 |a::l=>AC.nlt n a&&AC.nltL n l
end
def xe:BinOp->Bool| .add=>true| .sub=>true|_=>false
def Zz (n:Nat)(t:Bn)(o:Oper)(c:AC):Bool:=
 match o.op with
 | .binOp _ _ x y _=>(DV (EJ [] t x)).isSome&&(DV (EJ [] t y)).isSome&&AC.nlt n (EJ [] t x)&&AC.nlt n (EJ [] t y)&&(DV c).isSome
 |_=>true
abbrev QC:=Bool × Bool
def Bd (am:QC)(D:List (Tmp × Nat))(o:Oper):Nat:=
 match o.op with
 | .call { callee:= .value (.func _),.. }=>if am.1 then 2 else 3
 | .load _ x=>if o.guard.isNone&&(am.2&&(match x with| .tmp t=>(DO D t).isNone|_=>true)) then 0 else 2
 | .buildSlice _ n _=>if (am.1||am.2)&&Nat.blt 0 n then 2 else 3
 | .move x| .assign x=>if o.guard.isNone&&(match x with| .tmp t=>(DO D t).isNone|_=>true) then 0 else 1
 | .extract x _=>if o.guard.isNone&&(match x with| .tmp t=>(DO D t).isNone|_=>true) then 0 else 2
 | .nilCheck _| .fieldAddr .. | .indexAddr .. =>1
 | .alloc _=>if o.guard.isNone then 4 else 3
 | .binOp op _ x y _=>if o.guard.isNone&&(xe op&&(match x with| .tmp t=>(DO D t).isNone|_=>true)&&(match y with| .tmp t=>(DO D t).isNone|_=>true)) then 0 else 2
 |op=>if CS op then 2 else 3
def By:Nat->List Oper->List (Tmp × Nat)
 |_,[]=>[]
 |i,o::l=>match o.op,o.dst with
  | .alloc _,some t=>(t,i)::By (i+1) l
  |_,_=>By (i+1) l
def V1 (b:Bool)(h:List Nat)(R i k:Nat):Nat->List Nat->Bool
 |_,[]=>true
 |j,c::r=>(Nat.ble i j||(if Nat.beq k 3 then R.testBit j||Nat.beq c 0 else if Nat.beq k 2 then R.testBit j||Nat.ble c (bif b then 3 else 2) else true))&&V1 b h R i k (j+1) r
def Zv (b:Bool)(h:List Nat):Nat->List Nat->List Nat->Bool
 |i,R::Rs,k::ks=>V1 b h R i k 0 h&&Zv b h (i+1) Rs ks
 |_,_,_=>true
def WB (R:Nat):Nat->Nat->List Nat->Bool
 |0,_,_=>true
 |n+1,m,c::r=>(R.testBit m||Nat.beq c 0)&&WB R n (m+1) r
 |_+1,_,[]=>true
def Nn:Nat->List Nat->List Nat
 |_,[]=>[]
 |j,c::r=>bif Nat.beq c 4 then j::Nn (j+1) r else Nn (j+1) r
def wides (p h:List Nat):Nat->List Nat->List Nat->Bool
 |i,R::Rs,k::ks=>(Nat.beq k 0||Nat.beq k 4||h.all fun j=>Nat.ble i j|| !R.testBit j||WB R j 0 p)&&wides p h (i+1) Rs ks
 |_,_,_=>true
def Cx:Mem->Mem->Bool
 |[],_=>true
 | .tok x ks e::m,b::ag=>Blk.beq (.tok x ks e) b&&Cx m ag
 | .tok _ _ _::_,[]=>false
 | .mrow _ y ks e::m,b::ag=>(match b with| .mrow _ aF X e'=>Nat.beq y aF&&Nat.beq ks.length X.length&&Nat.beq e e'|_=>false)&&Cx m ag
 | .mrow _ _ _ _::_,[]=>false
 |_::m,ag=>Cx m ag.tail
mutual
def AC.noVec:AC->Bool
 | .on _ a| .gd _ a=>AC.noVec a
 | .vec _ _ _| .rsv _ _ _| .mr _ _| .mp _ _ _ _ _=>false
 | .fn _ f c=>AC.noVecL f&&AC.noVecL c
 | .sel _ l=>AC.noVecL l
 | .agg l| .tup l=>AC.noVecL l
 |_=>true
def AC.noVecL:List AC->Bool
 |[]=>true
 |a::l=>AC.noVec a&&AC.noVecL l
end
def okG (h:List Nat)(R j i:Nat):Bool:=R.testBit i||(h.getD i 0).testBit j
def xl:Blk->Blk
 | .cells l e=> .cells (l.map fun _=> .any) e
 |b=>b
def isTg (tg:List Tmp):Option Tmp->Bool
 |some d=>tg.contains d
 |none=>false
def TJ (tg:List Tmp)(a1:Option Tmp)(m ag:Mem):Mem:=
 if isTg tg a1 then m++(ag.drop m.length).map xl else ag
def MJ:List Tmp->Option Nat
 |[]=>none
 |t::_=>if Nat.ble 1000000 t then some (t - 1000000) else none
def JE (tg:List Tmp)(k:Nat)(m:Mem):Mem:=match MJ tg with|some n=>bif Nat.beq k 2 then m.take n else m|none=>m
def Od (k:Nat)(aE:Operand->AC):Op->Bool
 | .load _ x=>(match aE x with| .ptr _ _=>true| .rp _ _ _ _=>true|_=>false)
 | .slice _ x _ _ none=>(match aE x with| .ro _ _=>true|_=>false)
 | .buildSlice _ _ _=>Nat.beq k 3
 |_=>false
def Z3 (an:Ys)(t:Bn)(o:Oper):Bool:=o.guard.isNone&&Od (Oy an o.dst) (EJ [] t) o.op
def mc (R j:Nat):Bool:=Nat.beq (R+1) (2 ^ j)
def ni (aY:Bool)(an:Ys)(t:Bn)(tg:List Tmp)(k:Nat)(o:Oper)(m ag:Mem)(c:AC):Bool:=
 match MJ tg with
 |none=>true
 |some n=>(aY&&Nat.blt k 4)&&(if Nat.beq k 3 then Nat.ble n m.length&&ID (m.take n) ag else if Nat.beq k 2 then Z3 an t o&&AC.noVec c else true)
def lZ (tg:List Tmp)(t:Bn)(o:Oper):Bool:=
 match o.op with
 | .load _ x=>(match MJ tg,EJ [] t x with|some n,.ptr id _=>Nat.blt id n|_,_=>false)
 |_=>true
def WY (am:QC)(aY:Bool)(tg:List Tmp)(P:Program)(call:CM)(an:Ys)(Z:Array Oper)(D i:List (Tmp × Nat))(h:List Nat)(ae:PC)(R j:Nat)(o:Oper)(S:DS):Option DS:=do
 let k:=Bd am i o;let aq<-Cu P call an Z ae { S.masked D (okG h R j) R (CD Z o) with mem:=JE tg k S.mem } o;let c:=HU aq.tmps o.dst
 if ((H6 aq (Is R S.gls).length).all (fun e=>R.testBit e.j)&&((if Nat.ble 3 k then (aY||Cx S.mem aq.mem) else if Nat.beq k 0 then AC.nlt aq.g.n c&&(Zz S.g.n (S.masked D (okG h R j) R (CD Z o)).tmps o c&&lZ tg (S.masked D (okG h R j) R (CD Z o)).tmps o) else true)&&(!aY||Nat.ble 2 k||AC.noVec (HU (EL S.tmps o.dst c) o.dst)||mc R j)&&(!Nat.beq k 4||(match o.dst with|some d=>Nat.blt d S.tmps.n|none=>false)))&&(!Nat.beq k 2||CS o.op||(ID (JE tg k S.mem) aq.mem&&(Nat.beq aq.mem.length (JE tg k S.mem).length||AC.free c))))&&ni aY an (S.masked D (okG h R j) R (CD Z o)).tmps tg k o S.mem aq.mem (HU (EL S.tmps o.dst c) o.dst) then
  some ⟨EL S.tmps o.dst c,if Nat.ble 3 k then (if Nat.beq k 4 then TJ tg o.dst S.mem aq.mem else aq.mem) else S.mem,aq.g,(H6 aq (Is R S.gls).length).map (fun e=>(j,e))++S.gls⟩
 else none
def Ru (am:QC)(aY:Bool)(tg:List Tmp)(P:Program)(call:CM)(an:Ys)(Z:Array Oper)(D h:List (Tmp × Nat))(i:List Nat)(ae:PC):List Nat->List Oper->Nat->DS->Option DS
 |R::Rs,o::l,j,S=>do
  let p<-WY am aY tg P call an Z D h i ae R j o S
  Ru am aY tg P call an Z D h i ae Rs l (j+1) p
 |_,[],_,S=>some S
 |[],_,_,_=>none
def IR (am:QC)(aY:Bool)(tg:List Tmp)(P:Program)(call:CM)(an:Ys)(Z:Array Oper)(ae:PC)(l:Loc)(g:G):Option RS:=
 let h:=Bx Z.toList [];let D:=Ck 0 Z.toList;let j:=By 0 Z.toList;let i:=Z.toList.map (Bd am j)
 if (Hz h 0&&Ij (Z.toList.filterMap (·.dst))&&Zv (MJ tg).isSome i 0 h i)&&wides i (Nn 0 i) 0 h i then do
  let S<-Ru am aY tg P call an Z D j h ae h Z.toList 0 ⟨l.tmps,l.mem,g,[]⟩
  some ⟨S.tmps,S.mem,S.g,S.gls.map (·.2)⟩
 else none
def US (am:QC)(D:List (Tmp × Nat))(o:Oper):Nat:=if Nat.beq (Bd am D o) 2&& !CS o.op then 3 else Bd am D o
def VV (P:Program)(call:CM)(an:Ys)(Z:Array Oper)(ae:PC)(l:Loc)(g:G):List Nat->Option RS
 |[]=>none
 |n::r=>
  match (match n with
   |0=>IR (false,false) false [] P call an Z ae l g
   |1=>IR (false,false) true [] P call an Z ae l g
   |4=>IR (true,false) false [] P call an Z ae l g
   |6=>IR (true,false) true [] P call an Z ae l g
   |8=>IR (true,false) true [1000000+l.mem.length] P call an Z ae l g
   |9=>IR (true,true) true [1000000+(l.mem.length - 2)] P call an Z ae l g
   |_=>IR (false,true) true [1000000+l.mem.length] P call an Z ae l g) with
  |some s=>some s
  |none=>VV P call an Z ae l g r
def iK (P:Program)(call:CM)(an:Ys)(Z:Array Oper)(h:Bool)(ae:PC)(l:Loc)(g:G):Option RS:=
 if h then (match Zx P call an Z ae l g with|some s=>some s|none=>VV P call an Z ae l g [0,1,4,6,8,9,10]) else Ee P call an Z ae Z.toList ⟨l.tmps,l.mem,g,[]⟩
def Z5 (g:G)(sel:Rf)(ae:Option PC)(a b:CT):CT × G:=
 let (l,us):=IT g.n sel a.l b.l;let g:=g.pushAll us
 match ae with
 |some p=>(⟨a.k,p,l⟩,g)
 |none=>
  let ao:=g.pushAll [⟨ "or",oOr,[Gr a.pc,Gr b.pc]⟩]
  (⟨a.k,some g.n,l⟩,ao)
def I9 (k:XK):List CT->Option (CT × List CT)
 |[]=>none
 |o::os=>if o.k=k then some (o,os) else (I9 k os).map fun (p,r)=>(p,o::r)
def noK (k:XK)(L:List CT):Bool:=L.all fun o=> !decide (o.k=k)
def GL (sel:Option Rf)(h:Option PC):List CT->List CT->G->List CT × G
 |[],f,g=>(f,g)
 |a::aU,f,g=>
  match I9 a.k f with
  |none=>
   let (r,g):=GL sel h aU f g
   (a::r,g)
  |some (b,f)=>
   let (c,g):=Z5 g (sel.getD (Gr a.pc)) (if a.k= .normal then h else none) a b;let (r,g):=GL sel h aU f g
   (c::r,g)
def VO:PC->PC->Bool
 |none,none=>true
 |some a,some b=>Nat.beq a b
 |_,_=>false
def VF (aY:Code->PC->Loc->G->Option (List CT × G))(x:Nat)(a b:Code)(ae:PC)(l:Loc)(g:G):Option (List CT × G):=if Nat.blt x g.n=false then none else do
 let (h,g):=Es g ae x true;let (oa,g) <-aY a h l g;let (i,g):=Es g ae x false;let (ob,g) <-aY b i l g;let j:=(oa.any fun o=>decide (o.k= .normal)&&VO o.pc h)&&(ob.any fun o=>decide (o.k= .normal)&&VO o.pc i)&&oa.length=1&&ob.length=1
 some (GL (some (.e x)) (if j then some ae else none) oa ob g)
def Vs (L:List CT)(g:G)(next:PC->Loc->G->Option (List CT × G)):Option (List CT × G):=
 match I9 .normal L with
 |none=>some (L,g)
 |some (o,rest)=>do
  if noK .normal rest then
   let (outs',g) <-next o.pc o.l g
   some (GL none none rest outs' g)
  else none
inductive Sl where
 |tmp (t:Nat)
 |cell (id off:Nat)
 |tok (id:Nat)
 |st (id:Nat)
 |row (id:Nat)
 deriving DecidableEq
structure FF where
 pre:List (Sl × TypeId × List Kd):=[]
 slots:List (Sl × Kd):=[]
 vecs:List (Sl × Nat × Nat):=[]
 kills:List Nat:=[]
def WA (l:Loc):Sl->Option AC
 | .tmp t=>l.tmps.get t
 | .cell id off=>match l.mem.at id with
  | .cells c _=>c[off]?
  |_=>none
 | .tok id=>match l.mem.at id with
  | .tok x ks _=>some (.ro x ks)
  |_=>none
 | .st id=>match l.mem.at id with
  | .lp _ a=>some a
  |_=>none
 | .row id=>match l.mem.at id with
  | .mrow x _ ks _=>some (.ro x ks)
  | .mapb x al _ aM _=>some (.ro x (al++aM))
  |_=>none
def SL:Kd->Nat->AC
 | .int k ar ab,x=> .i k ar ab x
 |k,x=>MD k x
def xt (l:Loc)(k:Kd)(x:Nat):Sl->Option Loc
 | .tmp t=>some { l with tmps:=l.tmps.fix t (some (SL k x)) }
 | .cell id off=>match l.mem.at id with
  | .cells c e=>if off < c.length then some { l with mem:=l.mem.set id (.cells (c.set off (SL k x)) e) } else none
  |_=>none
 | .tok id=>match l.mem.at id,k with
  | .tok _ ks e,.list X=>if ks.length=X.length then some { l with mem:=l.mem.set id (.tok x X e) } else none
  |_,_=>none
 | .st id=>match l.mem.at id with
  | .lp s _=>some { l with mem:=l.mem.set id (.lp s (SL k x)) }
  |_=>none
 | .row id=>match l.mem.at id,k with
  | .mrow _ y ks e,.list X=>if ks.length=X.length then some { l with mem:=l.mem.set id (.mrow x y X e) } else none
  | .mapb _ al ka aM aT,.list X=>if al.length+aM.length=X.length then some { l with mem:=l.mem.set id (.mapb x (X.take al.length) ka (X.drop al.length) aT) } else none
  |_,_=>none
def qD (l:Loc):Nat->List (Sl × Kd)->Option Loc
 |_,[]=>some l
 |x,(s,k)::r=>do
  let l<-xt l k x s
  qD l (x+1) r
def If (l:Loc)(id x:Nat)(ks:List Kd):Sl->Option Loc
 | .tmp t=>some { l with tmps:=l.tmps.fix t (some (.vec id x ks)) }
 | .cell i off=>match l.mem.at i with
  | .cells c e=>if off < c.length then some { l with mem:=l.mem.set i (.cells (c.set off (.vec id x ks)) e) } else none
  |_=>none
 |_=>none
def gq (l:Loc)(nh:Nat)(h:List (Sl × Kd)):List (Sl × Nat × Nat)->Option Loc
 |[]=>some l
 |(s,id,j)::r=>do
  let (sj,kj) <-h[j]?
  match sj,kj with
  | .tok id',.list ks=>if id=id' then (If l id (nh+j) ks s).bind fun l=>gq l nh h r else none
  |_,_=>none
def fits (l:Loc):List (Sl × Kd)->Option (List Rf × List Pr)
 |[]=>some ([],[])
 |(s,k)::r=>do
  let c<-WA l s;let (x,ps) <-fit k c;let (xs,ps') <-fits l r
  some (x::xs,ps++ps')
def Hy (l:Loc)(g:G):List (Sl × TypeId × List Kd)->Option (Loc × G)
 |[]=>some (l,g)
 |(s,e,ks)::r=>
  match WA l s with
  |some (.cv .nilSlice)=>
   if ks.isEmpty then none else (If { l with mem:=l.mem++[.tok g.n ks e] } l.mem.length g.n ks s).bind fun ak=>Hy ak (g.pushAll [⟨ "id",oId,[.c (.list [])]⟩]) r
  |_=>none
def uN (tmps:Bn):List Nat->Bn
 |[]=>tmps
 |t::r=>uN (tmps.fix t none) r
def gy (p:FF)(nh:Nat)(l:Loc):Option Loc:=do
 let l<-qD l nh p.slots;let l<-gq l nh p.slots p.vecs
 some { l with tmps:=uN l.tmps p.kills }
mutual
def AC.lt (nh aR:Nat):AC->Bool
 | .any| .anyc| .cb _| .ci _ _| .cv _=>true
 | .on c a=>Nat.blt c nh&&AC.lt nh aR a
 | .gd c a=>Nat.blt c nh&&AC.lt nh aR a
 | .b x=>Nat.blt x nh
 | .nb x=>Nat.blt x nh
 | .i _ _ _ x=>Nat.blt x nh
 | .v x=>Nat.blt x nh
 | .s x=>Nat.blt x nh
 | .ro x _=>Nat.blt x nh
 | .ptr id _=>Nat.blt id aR
 | .pix id _ _ _ x _=>Nat.blt id aR&&Nat.blt x nh
 | .rp x t _ _=>Nat.blt x nh&&Nat.blt t nh
 | .vec id x _=>Nat.blt id aR&&Nat.blt x nh
 | .fn _ f c=>AC.ltL nh aR f&&AC.ltL nh aR c
 | .sel x l=>Nat.blt x nh&&AC.ltL nh aR l
 | .yl id=>Nat.blt id aR
 | .asl id _ _=>Nat.blt id aR
 | .rsv id x _=>Nat.blt id aR&&Nat.blt x nh
 | .mr id y=>Nat.blt id aR&&Nat.blt y nh
 | .mp id y t _ _=>Nat.blt id aR&&Nat.blt y nh&&Nat.blt t nh
 | .mv id=>Nat.blt id aR
 | .agg l=>AC.ltL nh aR l
 | .tup l=>AC.ltL nh aR l
def AC.ltL (nh aR:Nat):List AC->Bool
 |[]=>true
 |a::l=>AC.lt nh aR a&&AC.ltL nh aR l
end
def bq (nh aR:Nat):Tr->Bool
 | .nil=>true
 | .node v l r=>(match v with|some c=>AC.lt nh aR c|none=>true)&&bq nh aR l&&bq nh aR r
def U.same:U->U->Bool
 | .int a,.int b=>decide (a=b)
 | .bool a,.bool b=>a==b
 | .str a,.str b=>decide (a=b)
 | .list [],.list []=>true
 | .val .nilFunc,.val .nilFunc=>true
 | .val .nilIface,.val .nilIface=>true
 | .val (.pointer none),.val (.pointer none)=>true
 | .val (.map none),.val (.map none)=>true
 |_,_=>false
def Rf.same:Rf->Rf->Bool
 | .c u,.c v=>U.same u v
 | .e x,.e y=>Nat.beq x y
 | .n x,.n y=>Nat.beq x y
 |_,_=>false
def L5 (nh:Nat)(ah:List Rf)(x:Nat)(r:Rf):Bool:=
 Nat.ble nh x&&(match ah[x - nh]? with
  |some h=>Rf.same h r
  |none=>false)
def K0 (nh:Nat)(ah:List Rf)(x:Nat):Option (Rf × List Pr)->Option (List Pr)
 |some (r,ps)=>if L5 nh ah x r then some ps else none
 |none=>none
def qT (m:Mem)(id x:Nat)(aQ:Mem)(h:Nat):Bool:=
 match aQ.at id,m.at id with
 | .tok y ky e,.tok aF ky' e'=>Nat.beq y h&&Nat.beq aF x&&Nat.beq e e'&&Nat.beq ky.length ky'.length
 |_,_=>false
def pF (nh aR:Nat)(ah:List Rf)(aQ m:Mem)(h c:AC):Option (List Pr):=
 match h with
 | .any=>some []
 | .i k ar ab x=>K0 nh ah x (fit (.int k ar ab) c)
 | .b x=>K0 nh ah x (fit .bool c)
 | .v x=>K0 nh ah x (fit .val c)
 | .s x=>K0 nh ah x (fit .str c)
 | .ro x ks=>K0 nh ah x (fit (.list ks) c)
 | .vec id x ks=>
  match c with
  | .vec id' L X=>if Nat.beq id id'&&Nat.blt id aR&&L5 nh ah x (.e L)&&Kd.beq (Kd.join (.list X) (.list ks)) (.list ks)&&qT m id L aQ x then some [] else none
  |_=>none
 |_=>none
def NV (nh aR:Nat)(ah:List Rf)(aQ m:Mem)(h c:AC):Option (List Pr):=
 if AC.lt nh aR h&&AC.beq h c then some [] else pF nh aR ah aQ m h c
def QO:Option (List Pr)->Option (List Pr)->Option (List Pr)
 |some a,some b=>some (a++b)
 |_,_=>none
def N2 (nh aR:Nat)(ah:List Rf)(aQ m:Mem):List AC->List AC->Option (List Pr)
 |[],[]=>some []
 |h::l,c::ak=>QO (NV nh aR ah aQ m h c) (N2 nh aR ah aQ m l ak)
 |_,_=>none
def Hg:List (Nat × DP)->Nat->Option DP
 |[],_=>none
 |(s,S)::r,x=>if Nat.beq s x then some S else Hg r x
def lpLt (lps:List (Nat × DP))(nh aR s:Nat):Bool:=
 match Hg lps s with
 |some S=>S.tmps.loc.isEmpty&&bq nh aR S.tmps.t
 |none=>false
def FG (lps:List (Nat × DP))(nh aR:Nat)(ah:List Rf)(aQ m:Mem):Blk->Blk->Option (List Pr)
 | .pad,.pad=>some []
 | .gone,b=>(match b with| .pad=>none|_=>some [])
 | .cells l e,.cells ak e'=>if Nat.beq e e' then N2 nh aR ah aQ m l ak else none
 | .tok x ks e,.tok L X e'=>if Nat.beq e e'&&Nat.beq ks.length X.length&&((Nat.blt x nh&&Nat.beq x L&&Kd.beqs ks X)||L5 nh ah x (.e L)) then some [] else none
 | .lp s st,.lp aq st'=>if Nat.beq s aq&&lpLt lps nh aR s then NV nh aR ah aQ m st st' else none
 | .mrow x y ks e,.mrow L aF X e'=>if (Nat.beq e e'&&Nat.beq y aF&&Nat.blt y nh)&&((Nat.blt x nh&&Nat.beq x L&&Kd.beqs ks X)||(L5 nh ah x (.e L)&&Kd.beqs (Kd.joins X ks) ks&&Nat.beq ks.length X.length)) then some [] else none
 | .mapb x al ka aM aT,.mapb L kk' ka' vk' va'=>if ((ka==ka')&&(aT==va'))&&((Nat.blt x nh&&Nat.beq x L&&Kd.beqs al kk'&&Kd.beqs aM vk')||(L5 nh ah x (.e L)&&Kd.beqs (Kd.joins kk' al) al&&Nat.beq al.length kk'.length&&Kd.beqs (Kd.joins vk' aM) aM&&Nat.beq aM.length vk'.length)) then some [] else none
 |_,_=>none
def Il (lps:List (Nat × DP))(nh aR:Nat)(ah:List Rf)(aQ m:Mem):Mem->Mem->Option (List Pr)
 |[],_=>some []
 |b::l,b'::ak=>QO (FG lps nh aR ah aQ m b b') (Il lps nh aR ah aQ m l ak)
 |_,_=>none
def qX (nh aR:Nat)(ah:List Rf)(aQ m:Mem):Option AC->Option AC->Option (List Pr)
 |none,_=>some []
 |some .any,_=>some []
 |some h,some c=>NV nh aR ah aQ m h c
 |_,_=>none
def NF (nh aR:Nat)(ah:List Rf)(aQ m:Mem):Tr->Tr->Option (List Pr)
 | .nil,_=>some []
 | .node v l r,t=>QO (qX nh aR ah aQ m v t.val) (QO (NF nh aR ah aQ m l t.lt) (NF nh aR ah aQ m r t.rt))
def Fk (lps:List (Nat × DP))(nh:Nat)(ah:List Rf)(h l:Loc):Option (List Pr):=
 if h.tmps.loc.isEmpty&&l.tmps.loc.isEmpty&&Nat.beq h.tmps.n l.tmps.n then
  QO (Il lps nh h.mem.length ah h.mem l.mem h.mem l.mem) (NF nh h.mem.length ah h.mem l.mem h.tmps.t l.tmps.t)
 else none
def Tab.upd (T:Tab)(x:Nat)(u:U):Tab:={ T with get:=fun y=>bif Nat.beq y x then u else T.get y }
def Ci (T:Tab):List (Nat × Ex)->Tab
 |[]=>T
 |(x,e)::r=>let h:=Ci T r;h.upd x (e.eval h)
def Tab.upds (T:Tab):Nat->List U->Tab
 |_,[]=>T
 |x,u::us=>(T.upd x u).upds (x+1) us
def OR:List Nat->List U->Tab
 |x::xs,u::us=>(OR xs us).upd x u
 |_,_=>⟨fun _=>default,fun _ _=>True,fun _=>⟨default, #[],.skip,.skip,[]⟩,0⟩
def pcB (T:Tab):PC->Bool
 |none=>true
 |some c=>(T c).toB
structure Bs where
 nh:Nat
 k:Nat
 eqs:List (Nat × Ex)
 pcn:PC
 nxt:List Rf
 obs:List Ob
 fv:List Nat
def Bs.tab (D:Bs)(us aa:List U):Tab:=Ci ((OR D.fv us).upds D.nh aa) D.eqs
def Bs.step (D:Bs)(us aa:List U):Option (List U):=
 let T:=D.tab us aa
 bif pcB T D.pcn then some (D.nxt.map (Rf.eval T)) else none
def Bs.ob (D:Bs)(us aa:List U):Prop:=∀o∈D.obs,o.holds (D.tab us aa)
def Hp {aW:Type}(f:aW->Option aW):Nat->aW->Option aW
 |0,s=>some s
 |n+1,s=>(f s).bind (Hp f n)
inductive FZ {α:Type} (f:α->Option α) (s:α):α->Prop where
 |zero:FZ f s s
 |succ {t u:α}:FZ f s t->f t=some u->FZ f s u
def Ends {aW:Type}(f:aW->Option aW)(s:aW):Prop:=∃n t,Hp f n s=some t/\f t=none
open Classical in
def mQ {aW:Type}(f:aW->Option aW)(s:aW):aW:=if h:∃t,FZ f s t/\f t=none then Classical.choose h else s
def Bs.res (D:Bs)(j:Nat)(us:List U):U:=(mQ (D.step (us.take D.fv.length)) (us.drop D.fv.length)).getD j default
def Bs.owes (D:Bs)(us:List U):Prop:=
 Ends (D.step (us.take D.fv.length)) (us.drop D.fv.length)/\∀aa,FZ (D.step (us.take D.fv.length)) (us.drop D.fv.length) aa->D.ob (us.take D.fv.length) aa
def HJ:List Rf->List Nat
 |[]=>[]
 | .c _::r=>HJ r
 | .e x::r=>x::HJ r
 | .n x::r=>x::HJ r
def oY (f:List Nat):List Nat->List Nat
 |[]=>f
 |x::r=>oY (if f.contains x then f else f++[x]) r
def pcL:PC->List Nat|none=>[]|some c=>[c]
def R1 (nh:Nat)(h:List (Nat × Ex))(pcn:PC)(nxt:List Rf)(i:List Ob):List Nat:=
 oY [] ((((h.map fun p=>HJ p.2.args).flatten++pcL pcn++HJ nxt++(i.map fun o=>pcL o.pc++HJ o.p.args).flatten)).filter fun x=>Nat.blt x nh)
def H4 (fv:List Nat)(nh R:Nat)(l:List Nat):Bool:=l.all fun x=>fv.contains x||(Nat.ble nh x&&Nat.blt x R)
def Dc (fv:List Nat)(nh ar:Nat):Nat->List (Nat × Ex)->Bool
 |R,[]=>Nat.beq R ar
 |R,(x,e)::r=>Nat.beq (x+1) R&&H4 fv nh x (HJ e.args)&&Dc fv nh ar x r
def Bs.inScope (D:Bs)(R:Nat):Bool:=
 Dc D.fv D.nh (D.nh+D.k) R D.eqs&&H4 D.fv D.nh R (pcL D.pcn)&&H4 D.fv D.nh R (HJ D.nxt)&&D.obs.all (fun o=>H4 D.fv D.nh R (pcL o.pc++HJ o.p.args))&&D.fv.all (fun x=>Nat.blt x D.nh)
def Bs.tg (D:Bs)(j:Nat):Tg:= .loop j D.nh D.k (D.eqs.map fun p=>(p.1,p.2.tag,p.2.args)) D.pcn D.nxt D.fv (D.obs.map fun o=>(o.pc,o.p.tag,o.p.args))
def Bs.heads (D:Bs)(H:List Rf):List Ex:=(List.range D.k).map fun j=>⟨D.tg j,D.res j,D.fv.map .e++H⟩
def FF.full (p:FF)(aP:Nat):FF:=
 {p with
  slots:=p.slots++p.pre.zipIdx.map fun (x:(Sl × TypeId × List Kd) × Nat)=>(Sl.tok (aP+x.2),Kd.list x.1.2.2)
  vecs:=p.vecs++p.pre.zipIdx.map fun (x:(Sl × TypeId × List Kd) × Nat)=>(x.1.1,aP+x.2,p.slots.length+x.2) }
def da (aY:PC->Loc->G->Option (List CT × G))(p:FF)(ae:PC)(l:Loc)(g:G):Option (List CT × G):=do
 let h<-gy p g.n l;let (H,_) <-fits l p.slots;let i<-Fk g.lps g.n H h l;let (L,aw) <-aY ae h { n:=g.n+H.length,eqs:=[],obs:=[],lps:=g.lps }
 match I9 .normal L with
 |none=>none
 |some (o,rest)=>do
  let (nxt,_) <-fits o.l p.slots;let a9<-Fk g.lps g.n nxt h o.l;let obs:=a9.map (Ob.mk o.pc)++aw.obs;let D:Bs:={ nh:=g.n,k:=H.length,eqs:=aw.eqs,pcn:=o.pc,nxt,obs,fv:=R1 g.n aw.eqs o.pc nxt obs }
  if D.inScope aw.n&&Nat.beq nxt.length H.length&&Nat.beq h.mem.length l.mem.length&&noK .normal rest then
   some (rest,{ n:=aw.n,eqs:=aw.eqs++KD g.n (D.heads H) g.eqs,obs:=⟨ae,⟨D.tg 0,D.owes,D.fv.map .e++H⟩⟩::(i.map (Ob.mk ae)++g.obs),lps:=aw.lps })
  else none
def jh (aY:PC->Loc->G->Option (List CT × G))(p:FF)(ae:PC)(l:Loc)(g:G):Option (List CT × G):=do
 if l.tmps.loc.isEmpty=false then none else
 let (ak,ao) <-Hy l g p.pre
 da aY (p.full l.mem.length) ae ak ao
def xG (a b:AC):Option Kd:=
 match Gq a,Gq b with
 |some (k,_),some (k',_)=>match Kd.join k k' with
  | .int k _ _=>some (.int k k.min k.max)
  | .any=>none
  |k=>some k
 |_,_=>none
def dp (f:Nat->Nat):Tr->Tr->List (Nat × AC × Option AC)
 | .nil,_=>[]
 | .node v l r,t=>
  (match v with
   |none|some .any=>[]
   |some a=>match t.val with
    |some b=>if AC.beq a b then [] else [(f 0,a,some b)]
    |none=>[(f 0,a,none)])++(dp (fun j=>f (2*j+1)) l t.lt++dp (fun j=>f (2*j+2)) r t.rt)
def X7 (id:Nat):Nat->List AC->List AC->List (Sl × AC × AC)
 |o,a::l,b::ak=>(if AC.beq a b then [] else [(Sl.cell id o,a,b)])++X7 id (o+1) l ak
 |_,_,_=>[]
def iU:Nat->Mem->Mem->List (Sl × AC × AC)
 |id,b::m,b'::ag=>(match b,b' with
   | .cells l _,.cells ak _=>X7 id 0 l ak
   | .tok x ks _,.tok L X _=>if Nat.beq x L then [] else [(Sl.tok id,.ro x ks,.ro L X)]
   | .lp _ a,.lp _ a'=>if AC.beq a a' then [] else [(Sl.st id,a,a')]
   | .mrow x _ ks _,.mrow L _ X _=>if Nat.beq x L then [] else [(Sl.row id,.ro x ks,.ro L X)]
   | .mapb x al _ aM _,.mapb L kk' _ vk' _=>if Nat.beq x L then [] else [(Sl.row id,.ro x (al++aM),.ro L (kk'++vk'))]
   |_,_=>[])++iU (id+1) m ag
 |_,_,_=>[]
def oL (aR:Nat):AC->AC->Option Nat
 | .vec id _ _,.vec id' _ _=>if Nat.beq id id'&&Nat.blt id aR then some id else none
 |_,_=>none
def wQ (m:Mem)(id:Nat):Option TypeId:=match m.at id with| .tok _ _ e=>some e|_=>none
mutual
def Kd.wide:Kd->Kd
 | .int k _ _=> .int k k.min k.max
 | .list ks=> .list (Kd.wides ks)
 |k=>k
def Kd.wides:List Kd->List Kd
 |[]=>[]
 |k::ks=>Kd.wide k::Kd.wides ks
end
def xw (aR:Nat)(ag:Mem)(p:FF)(s:Sl)(a b:AC):FF:=
 if p.slots.any (fun x=>decide (x.1=s))||p.pre.any (fun x=>decide (x.1=s)) then p else
 match oL aR a b with
 |some _=>p
 |none=>match a,b with
  | .cv .nilSlice,.vec id _ ks=>if Nat.blt id aR then p else match wQ ag id with
   |some e=>{ p with pre:=p.pre++[(s,e,Kd.wides ks)] }
   |none=>p
  |a,b=>match xG a b,s with
   |some _,.st id=>{ p with slots:=p.slots++[(.st id,.int .i64 0 65536)] }
   |some k,.row id=>{ p with slots:=p.slots++[(.row id,Kd.wide k)] }
   |some k,_=>{ p with slots:=p.slots++[(s,k)] }
   |none,.tmp t=>{ p with kills:=p.kills++[t] }
   |none,_=>p
def nP (aR:Nat)(ag:Mem):List (Sl × AC × AC)->FF->FF
 |[],p=>p
 |(s,a,b)::r,p=>nP aR ag r (xw aR ag p s a b)
def xY (p:FF)(id:Nat):Nat:=p.slots.findIdx fun x=>decide (x.1=Sl.tok id)
def iH (aR:Nat):List (Sl × AC × AC)->FF->FF
 |[],p=>p
 |(s,a,b)::r,p=>iH aR r (match oL aR a b with
  |some id=>if p.vecs.any (fun x=>decide (x.1=s)) then p else { p with vecs:=p.vecs++[(s,id,xY p id)] }
  |none=>p)
def tE (d:List (Nat × AC × Option AC)):List (Sl × AC × AC):=d.filterMap fun x=>x.2.2.map fun b=>(Sl.tmp x.1,x.2.1,b)
def v7 (d:List (Nat × AC × Option AC)):List Nat:=d.filterMap fun x=>match x.2.2 with|none=>some x.1|some _=>none
def U9 (p:FF):Nat:=p.pre.length+p.slots.length+p.vecs.length+p.kills.length
def nr (aY:PC->Loc->G->Option (List CT × G))(ae:PC)(l:Loc)(g:G):Nat->FF->FF
 |0,p=>p
 |n+1,p=>
  match Hy l g p.pre with
  |none=>p
  |some (ak,ao)=>
   let q:=p.full l.mem.length
   match gy q ao.n ak with
   |none=>p
   |some z=>match aY ae z { n:=ao.n+q.slots.length,eqs:=[],obs:=[],lps:=ao.lps } with
    |none=>p
    |some (L,_)=>match I9 .normal L with
     |none=>p
     |some (o,_)=>
      let d:=dp (fun j=>j) z.tmps.t o.l.tmps.t;let i:=tE d++iU 0 l.mem o.l.mem;let h:=nP l.mem.length o.l.mem i p;let h:=iH l.mem.length i h;let h:={ h with kills:=h.kills++(v7 d).filter fun t=> !h.kills.contains t }
      if Nat.beq (U9 h) (U9 p) then p else nr aY ae l g n h
def oh (aY:PC->Loc->G->Option (List CT × G))(p:FF)(ae:PC)(l:Loc)(g:G):Option (List CT × G):=jh aY (if Nat.beq (U9 p) 0 then nr aY ae l g 6 p else p) ae l g
mutual
def H8:Code->List bn
 | .seq a b=>H8 a++H8 b
 | .cond _ a b=>H8 a++H8 b
 | .block id c=>(H8 c).filter fun j=>match j with| .exit i=> !Nat.beq i id| .ret=>true
 | .loop c=>H8 c
 | .scope c=>H8 c
 | .exit id=>[.exit id]
 | .ret=>[.ret]
 | .rangeFunc _ _ a b=>H8 a++H8 b
 |_=>[]
end
def D4 (h:CT->G->Option (AC × Mem)):List CT->G->Option (AC × Mem × G)
 |[],_=>none
 |[o],g=>do
  let (c,m) <-h o g
  some (c,m,g)
 |o::os,g=>do
  let (c',ag,g) <-D4 h os g;let (c,aP) <-h o g;let (m,us):=Ct (Gr o.pc) g.n aP ag;let (c,i):=Ha (g.n+us.length) (Gr o.pc) c c'
  some (c,m,g.pushAll (us++i))
structure EM where
 keep:Nat
 plan:Nat->Option FF
 nar:Nat->Option (Tmp × Int × Int)
 mu:Tmp->Nat:=fun _=>0
 frz:Nat->Bool:=fun _=>false
def DQ (h:Option (Tmp × Int × Int))(ae:PC)(t:Bn)(g:G):Bn × G:=
 match h with
 |none=>(t,g)
 |some (i,ar,ab)=>
  match t.get i with
  |some (.i k _ _ x)=>(t.set i (.i k ar ab x),g.needAll ae [⟨ "between " ++toString ar++ " " ++toString ab,FH ar ab,[.e x]⟩])
  |_=>(t,g)
mutual
def Ng (m:Mem):AC->AC
 | .mr id y=>match m.at id with
  | .mrow x aF ks _=>if Nat.beq y aF then .ro x ks else .mr id y
  |_=> .mr id y
 | .on c a=> .on c (Ng m a)
 | .gd c a=> .gd c (Ng m a)
 | .fn f a b=> .fn f (R7 m a) (R7 m b)
 | .agg l=> .agg (R7 m l)
 | .tup l=> .tup (R7 m l)
 |a=>a
def R7 (m:Mem):List AC->List AC
 |[]=>[]
 |a::l=>Ng m a::R7 m l
end
def frzB (m:Mem):Blk->Blk
 | .cells l e=> .cells (R7 m l) e
 | .mrow _ _ _ _=> .gone
 |b=>b
def Rq (m:Mem):Mem:=m.map (frzB m)
def WM (m:Mem):Tr->Tr
 | .nil=> .nil
 | .node v l r=> .node (v.map (Ng m)) (WM m l) (WM m r)
def ji (m:Mem)(s:Bn):Bn:={ s with loc:=s.loc.map fun p=>(p.1,Ng m p.2),t:=WM m s.t }
def MU (b:Bool)(l:Loc):Loc:=if b then ⟨ji l.mem l.tmps,Rq l.mem⟩ else l
def Ys.add (an:Ys)(h:Nat)(y:YF):Ys:={ an with get:=fun s=>if Nat.beq s h then some y else an s }
def uU (aY:PC->Loc->G->Option (List CT × G))(ae:PC)(l:Loc)(g:G):Option (List CT × G):=
 match aY ae l g with
 |some (L,ao)=>if noK .normal L then some (L,ao) else none
 |none=>none
def C1 (P:Program)(call:CM)(ax:EM)(h:Bool)(an:Ys):Nat->Nat->Code->PC->Loc->G->Option (List CT × G)
 |0,_,_,_,_,_=>none
 |aK+1,blk,c,ae,l,g=>
  match c with
  | .skip| .label _=>some ([⟨.normal,ae,l⟩],g)
  | .region id Z draw=>do
   let s<-iK P call an Z draw ae l g
   some ([⟨.normal,ae,MU (ax.frz id) ⟨(DQ (ax.nar id) ae s.tmps s.g).1.commit ax.keep,s.mem⟩⟩],(DQ (ax.nar id) ae s.tmps s.g).2)
  | .seq a b=>do
   let (L,g) <-C1 P call ax h an aK blk a ae l g
   Vs L g (C1 P call ax h an aK blk b)
  | .cond c a b=>
   match EJ [] l.tmps c with
   | .cb t=>C1 P call ax h an aK blk (if t then a else b) ae l g
   | .b x=>VF (C1 P call ax h an aK blk) x a b ae l g
   | .nb x=>VF (C1 P call ax h an aK blk) x b a ae l g
   |_=>none
  | .block id c=>do
    let (L,g) <-C1 P call ax h an aK id c ae l g
    match I9 (.exit id) L with
    |none=>some (L,g)
    |some (e,rest)=>
     if noK (.exit id) rest then
      some (GL none none [⟨.normal,e.pc,e.l⟩] rest g)
     else none
  | .loop c=>
   match ax.plan blk with
   |some p=>match uU (C1 P call ax h an aK blk c) ae l g with
    |some r=>some r
    |none=>oh (C1 P call ax h an aK blk c) p ae l g
   |none=>do
    let (L,g) <-C1 P call ax h an aK blk c ae l g
    Vs L g (C1 P call ax h an aK blk (.loop c))
  | .scope c=>C1 P call ax h an aK blk c ae l g
  | .exit id=>some ([⟨.exit id,ae,l⟩],g)
  | .ret=>some ([⟨.ret,ae,l⟩],g)
  |_=>none
def NB (P:Program)(l:Loc)(g:G):ResultVar->Option (AC × List Ex)
 | .tmp t=>some ((l.tmps.get t).getD .any,[])
 | .cell a t=>(HK P t ((l.tmps.get a).getD .any) l.mem g).bind fun r=>match r.ps,r.us with
  |[],[]=>some (r.c,[])
  |_,_=>none
def UW (P:Program)(aA:Func)(l:Loc)(g:G):Option AC:=do
 let rs<-aA.results.toList.mapM (NB P l g)
 match rs with
 |[(c,_)]=>some c
 |rs=>some (.tup (rs.map (·.1)))
def Lj (P:Program)(aA:Func)(o:CT)(g:G):Option (AC × Mem):=
 if o.k= .ret\/o.k= .normal then (UW P aA o.l g).map fun c=>(c,o.l.mem) else none
def Om:Nat->List AC->Tr->Tr
 |_,[],t=>t
 |i,c::r,t=>Om (i+1) r (Tr.setF 16 t i (some c))
def Ip (n:Nat)(args:List AC):Bn:=⟨n,[],Om 0 args .nil⟩
def jf (P:Program)(call:CM)(Bp:FuncId->EM)(aK:Nat):CM:=fun an f args ae m g=>do
 let aA<-P.funcs[f]?;let c<-aA.body
 if aA.name== "runtime.NumGoroutine" ||Nat.blt aA.ntmps args.length then none else
 let (L,g) <-C1 P call (Bp f) false { an with mu:=(Bp f).mu } aK 0 c ae ⟨Ip aA.ntmps args,m⟩ g
 D4 (Lj P aA) L g
def GN (P:Program)(bd:FuncId->Option CM)(Bp:FuncId->EM)(aK:Nat):Nat->CM
 |0=>fun _ _ _ _ _ _=>none
 |d+1=>fun an f=>match bd f with
  |some c=>c an f
  |none=>jf P (GN P bd Bp aK d) Bp aK an f
structure Bo (g g':G):Prop where
 n:g.n<=g'.n
 eqs:∀p∈g.eqs,p∈g'.eqs
 obs:∀o∈g.obs,o∈g'.obs
 lps:∀p∈g.lps,p∈g'.lps
theorem Bo.refl (g:G):Bo g g:=⟨AE _,fun _ h=>h,fun _ h=>h,fun _ h=>h⟩
theorem Bo.trans {a b c:G}(h:Bo a b)(k:Bo b c):Bo a c:=
 ⟨AV h.n k.n,fun x i=>k.eqs x (h.eqs x i),fun x i=>k.obs x (h.obs x i),fun x i=>k.lps x (h.lps x i)⟩
variable{T:Tab}{g ao:G}{ae:PC}{ps:List Pr}{x:Nat}{aL:Bool}{e:AC}
theorem Agr.of (h:Agr T ao)(k:Bo g ao):Agr T g:=⟨fun p i=>h.eqs p (k.eqs p i),fun p i=>h.lps p (k.lps p i)⟩
theorem CB.of (h:CB T ao)(k:Bo g ao):CB T g:=fun o i=>h o (k.obs o i)
theorem Cr (g:G)(us:List Ex):(g.pushAll us).n=g.n+us.length:=by cases us<;>simp[G.pushAll]
theorem ft (g:G)(us:List Ex):(g.pushAll us).obs=g.obs:=by cases us<;>rfl
theorem gJ (g:G)(us:List Ex):(g.pushAll us).lps=g.lps:=by cases us<;>rfl
theorem Bo.push (g:G)(us:List Ex):Bo g (g.pushAll us):=by
 refine⟨by rw[Cr];omega,fun p h=>?_,fun o i=>by rw[ft];exact i,fun p h=>by rw[gJ];exact h⟩;cases us with
 |nil=>exact h
 |cons u us=>exact (KJ _ _ _ _).2 (.inl h)
theorem Agr.new {us:List Ex}(h:Agr T (g.pushAll us)):New T g.n us:=fun j u i=>by
 cases us with
 |nil=>simp at i
 |cons v us=>exact h.eqs (g.n+j,u) ((KJ _ _ _ _).2 (.inr ⟨j,u,i,rfl⟩))
theorem EW (ps:List Pr)(g:G)(ae:PC):(g.needAll ae ps).n=g.n/\(g.needAll ae ps).eqs=g.eqs/\(g.needAll ae ps).lps=g.lps/\((g.needAll ae ps).obs=ps.map (Ob.mk ae)++g.obs):=by
 cases ps<;>exact⟨rfl,rfl,rfl,rfl⟩
theorem Bo.need (g:G)(ae:PC)(ps:List Pr):Bo g (g.needAll ae ps):=by
 obtain⟨O,C,i,j⟩:=EW ps g ae;exact⟨by omega,fun p h=>by rw[C];exact h,fun o q=>by rw[j];exact AO _ q,fun p h=>by rw[i];exact h⟩
theorem Agr.need (h:Agr T (g.needAll ae ps)):Agr T g:=h.of (Bo.need g ae ps)
theorem CB.need (h:CB T (g.needAll ae ps))(j:pcv T ae):∀p∈ps,p.holds T:=fun p q=>by
 obtain⟨_,_,_,i⟩:=EW ps g ae;exact h ⟨ae,p⟩ (by rw[i];exact AU _ (BL.2 ⟨p,q,rfl⟩)) j
def Ch (T:Tab)(g:G):PC->Prop
 |none=>True
 |some c=>c < g.n/\∃b,T c= .bool b
theorem Ch.grow (h:Ch T g ae)(k:Bo g ao):Ch T ao ae:=by
 cases ae with
 |none=>trivial
 |some c=>exact⟨AH h.1 k.n,h.2⟩
theorem Wo {h:Bool}(q:Ch T g ae)(j:T x= .bool h):∃b,(ED ae x aL).eval T= .bool b/\(b=true↔pcv T ae/\h=aL):=by
 cases ae with
 |none=>
  refine⟨if aL then h else !h,?_,?_⟩
  .cases aL<;>simp[ED,Ex.eval,oId,XL,u0,eve,j,U.toB]
  .cases aL<;>cases h<;>simp[pcv]
 |some c=>
  obtain⟨_,i,p⟩:=q;refine⟨i&&(if aL then h else !h),?_,?_⟩
  .cases aL<;>simp[ED,Ex.eval,R9,u0,u1,eve,evn,j,p,U.toB]
  .cases aL<;>cases h<;>cases i<;>simp[pcv,p]
theorem VD (p:Ch T g ae)(i:¬pcv T ae):∃b,(ED ae x aL).eval T= .bool b/\b=false:=by
 cases ae with
 |none=>exact absurd trivial i
 |some c=>
  obtain⟨_,j,h⟩:=p;cases j with
  |true=>exact absurd h i
  |false=>exact⟨false,by simp[ED,Ex.eval,R9,u0,eve,h,U.toB],rfl⟩
theorem KT (i j:Nat)(c:AC)(r:List (Nat × AC)):CY ((i,c)::r) j=if i=j then some c else CY r j:=by
 simp only[CY];by_cases h:i=j
 .subst h;simp
 .have:Nat.beq i j=false:=by
   cases p:Nat.beq i j with
   |false=>rfl
   |true=>exact absurd (yI p) h
  simp[this,h]
theorem Bn.get_set (s:Bn)(d i:Nat)(c:AC)(h:(s.set d c).get i=some e):(i=d/\d < s.n/\e=c)\/((d=i->¬d < s.n)/\s.get i=some e):=by
 unfold Bn.set at h;cases hd:Nat.blt d s.n with
 |false=>
  rw[hd] at h;refine .inr ⟨fun _ j=>?_,h⟩;rw[<-Nat.blt_eq] at j;rw[j] at hd;cases hd
 |true=>
  rw[hd] at h;have j:d < s.n:=by rwa [Nat.blt_eq] at hd
  simp only[cond_true,Bn.get,KT] at h;by_cases e':d=i
  .subst e';simp at h;exact .inl ⟨rfl,j,h.symm⟩
  .rw[BG e'] at h;exact .inr ⟨fun p=>absurd p e',h⟩
theorem Bn.set_n (s:Bn)(d:Nat)(c:AC):(s.set d c).n=s.n:=by
 unfold Bn.set;grind
theorem E5 (i j:Nat):Nat.beq i j=true↔i=j:=⟨yI,fun h=>by subst h;simp⟩
theorem Tr.get_step (t:Tr)(i:Nat):t.get i=if i=0 then t.val else if i % 2=1 then t.lt.get (i / 2) else t.rt.get (i / 2 - 1):=by
 cases t with
 |nil=>simp[Tr.get,Tr.val,Tr.lt,Tr.rt]
 |node v l r=>
  simp only[Tr.get,Tr.val,Tr.lt,Tr.rt];by_cases j:i=0
  .subst j;simp
  .have q:Nat.beq i 0=false:=by
    cases p:Nat.beq i 0 with
    |false=>rfl
    |true=>exact absurd ((E5 _ _).1 p) j
   rw[q,BG j];by_cases O:i % 2=1
   .have h:Nat.beq (i % 2) 1=true:=(E5 _ _).2 O;rw[h,BH O];rfl
   .have h:Nat.beq (i % 2) 1=false:=by
     cases p:Nat.beq (i % 2) 1 with
     |false=>rfl
     |true=>exact absurd ((E5 _ _).1 p) O
    rw[h,BG O];rfl
theorem Tr.get_setF:∀(f:Nat) (t:Tr) (d i:Nat) (c:Option AC) (e:AC),(Tr.setF f t d c).get i=some e->(i=d/\c=some e)\/(i≠d/\t.get i=some e)
 |0,t,d,i,c,e,h=>by simp[Tr.setF,Tr.get] at h
 |f+1,t,d,i,c,e,h=>by
  rw[Tr.get_step t i];simp only[Tr.setF] at h;by_cases q:d=0
  .subst q;rw[show Nat.beq 0 0=true from rfl] at h;simp only[cond_true] at h;rw[Tr.get_step] at h;by_cases ab:i=0
   .subst ab;exact .inl ⟨rfl,by simpa [Tr.val] using h⟩
   .rw[BG ab] at h⊢;exact .inr ⟨ab,h⟩
  .have F:Nat.beq d 0=false:=by
    cases D:Nat.beq d 0 with
    |false=>rfl
    |true=>exact absurd ((E5 _ _).1 D) q
   rw[F] at h;by_cases O:d % 2=1
   .have z:Nat.beq (d % 2) 1=true:=(E5 _ _).2 O;rw[z] at h;simp only[cond_true,cond_false] at h;rw[Tr.get_step] at h;by_cases ab:i=0
    .subst ab;exact .inr ⟨fun h=>q h.symm,by rw[BH rfl] at h⊢;exact h⟩
    .rw[BG ab] at h⊢;by_cases p:i % 2=1
     .rw[BH p] at h⊢;rcases Tr.get_setF f _ _ _ _ _ h with⟨C,j⟩|⟨C,j⟩
      .exact .inl ⟨by omega,j⟩
      .exact .inr ⟨fun E=>C (by omega),j⟩
     .rw[BG p] at h⊢;exact .inr ⟨fun E=>p (by omega),h⟩
   .have z:Nat.beq (d % 2) 1=false:=by
     cases D:Nat.beq (d % 2) 1 with
     |false=>rfl
     |true=>exact absurd ((E5 _ _).1 D) O
    rw[z] at h;simp only[cond_false] at h;rw[Tr.get_step] at h;by_cases ab:i=0
    .subst ab;exact .inr ⟨fun h=>q h.symm,by rw[BH rfl] at h⊢;exact h⟩
    .rw[BG ab] at h⊢;by_cases p:i % 2=1
     .rw[BH p] at h⊢;exact .inr ⟨fun E=>O (by omega),h⟩
     .rw[BG p] at h⊢;rcases Tr.get_setF f _ _ _ _ _ h with⟨C,j⟩|⟨C,j⟩
      .exact .inl ⟨by omega,j⟩
      .exact .inr ⟨fun E=>C (by omega),j⟩
theorem Tt (keep:Nat):∀(l:List (Nat × AC)) (t:Tr) (i:Nat) (e:AC),(Pi keep l t).get i=some e->CY l i=some e\/(CY l i=none/\t.get i=some e)
 |[],t,i,e,h=> .inr ⟨rfl,h⟩
 |(j,c)::r,t,i,e,h=>by
  rw[KT];simp only[Pi] at h;have p:=Tt keep r t i e;split at h
  .rcases Tr.get_setF _ _ _ _ _ _ h with⟨O,C⟩|⟨O,C⟩
   .rw[BH O.symm];exact .inl C
   .rw[BG (fun e=>O e.symm)];exact p C
  .split at h
   .rename_i z;by_cases q:j=i
    .subst q;rw[z] at h;cases h
    .rw[BG q];exact p h
   .rcases Tr.get_setF _ _ _ _ _ _ h with⟨O,C⟩|⟨O,C⟩
    .cases C
    .rw[BG (fun e=>O e.symm)];exact p C
theorem Bn.get_commit (s:Bn)(keep i:Nat)(h:(s.commit keep).get i=some e):s.get i=some e:=by
 have j:(Pi keep s.loc s.t).get i=some e:=h;rcases Tt _ _ _ _ _ j with O|⟨O,C⟩
 .simp[Bn.get,O]
 .simp[Bn.get,O,C]
theorem Bn.get_fix (s:Bn)(p:s.loc=[])(d i:Nat)(c:Option AC)(h:(s.fix d c).get i=some e):(i=d/\d < s.n/\c=some e)\/((d=i->¬d < s.n)/\s.get i=some e):=by
 unfold Bn.fix at h;cases hd:Nat.blt d s.n with
 |false=>
  rw[hd] at h;refine .inr ⟨fun _ j=>?_,h⟩;rw[<-Nat.blt_eq] at j;rw[j] at hd;cases hd
 |true=>
  rw[hd] at h;have j:d < s.n:=by rwa [Nat.blt_eq] at hd
  simp only[cond_true,Bn.get,p,CY] at h⊢;rcases Tr.get_setF _ _ _ _ _ _ h with⟨O,C⟩|⟨O,C⟩
  .exact .inl ⟨O,j,C⟩
  .exact .inr ⟨fun e=>absurd e.symm O,C⟩
theorem Bn.fix_n (s:Bn)(d:Nat)(c:Option AC):(s.fix d c).n=s.n:=by
 unfold Bn.fix;grind
theorem Bn.fix_loc (s:Bn)(d:Nat)(c:Option AC):(s.fix d c).loc=s.loc:=by
 unfold Bn.fix;grind
theorem Bn.commit_n (s:Bn)(keep:Nat):(s.commit keep).n=s.n:=rfl
section
variable {P:Program}{T:Tab}{n ap:Nat}{W ad:Nat->Option Nat}{m ag:Mem}{w ac:World}{a:Act}
def FK (B:Nat)(W :Nat->Option Nat)(m:Mem)(w:World)(i:List Deferred):Prop:=
 B<=w.heap.size/\∃h:List Nat,i=h.map (fun D=>{ target:= .collected D,args:= #[] })/\h.Nodup/\∀D∈h,B<=D/\w.heap[D]? =some (.deferred (some []))/\∀id,(m.at id).tracked=true-> W id≠some D
theorem FK.nil {B:Nat}(W :Nat->Option Nat)(m:Mem)(w:World)(i:B<=w.heap.size):FK B W m w []:=⟨i,[],rfl,List.nodup_nil,fun D h=>by simp at h⟩
theorem FK.on {B:Nat}{i:List Deferred}(h:FK B W m w i)(aa:BY T n W m w ad ag ac):FK B ad ag ac i:=by
 obtain⟨z,p,O,C,F⟩:=h;refine⟨AV z aa.size,p,O,C,fun D H=>?_⟩;obtain⟨Y,j,E⟩:=F D H;have N:=(AI.1 j).1;refine⟨Y,by rw[aa.old D N E];exact j,fun id X M=>?_⟩;rcases aa.back X M with q|⟨q1,q2⟩
 .omega
 .exact E id q1 q2
structure Rel (T:Tab) (n:Nat) (ρ :Nat->Option Nat) (l:Loc) (a:Act) (w:World):Prop where
 defers:FK T.base ρ l.mem w a.defers
 size:a.tmps.size=l.tmps.n
 tmps:∀i c,l.tmps.get i=some c->BQ T n ρ l.mem w c (a.tmps.getD i undef)
 mem:BX T n ρ l.mem w
variable{l:Loc}{tmps:Bn}{c:AC}{v:Value}{aX:List Nat}{Z:Array Oper}
theorem Rel.at (h:Rel T n W l a w)(t:Nat):BQ T n W l.mem w ((l.tmps.get t).getD .any) (a.tmps.getD t undef):=by
 cases i:l.tmps.get t with
 |none=>exact trivial
 |some c=>exact h.tmps t c i
theorem Rel.on (h:Rel T n W ⟨tmps,m⟩ a w)(aa:BY T n W m w ad ag ac)(q:n<=ap)(p:BX T ap ad ag ac):Rel T ap ad ⟨tmps,ag⟩ a ac:=
 ⟨h.defers.on aa,h.size,fun i c j=>BQ.mono aa h.mem q c _ (h.tmps i c j),p⟩
theorem Rel.put (h:Rel T n W ⟨tmps,m⟩ a w)(a1:Option Tmp)(p:BQ T n W m w c v):
  Rel T n W ⟨EL tmps a1 c,m⟩ (a.put a1 v) w:=by
 cases a1 with
 |none=>exact h
 |some d=>
  have z:a.tmps.size=tmps.n:=h.size;refine⟨h.defers,by simp[Act.put,EL,Bn.set_n,z],fun i e q=>?_,h.mem⟩;rcases Bn.get_set _ _ _ _ q with⟨O,C,j⟩|⟨O,C⟩
  .subst O;subst j;simp only[Act.put,AJ,yL,if_true];rw[BH (by omega)];exact p
  .have:=h.tmps i e C;simp only[Act.put,AJ,yL] at this⊢;by_cases hd:d=i
   .have:=O hd;subst hd;rw[BH rfl,BG (by omega)];have j:=h.tmps d e C;rw[AJ,Array.getElem?_eq_none (by omega)] at j;exact j
   .rw[BG hd];exact this
theorem Rel.less {s:Bn}(h:Rel T n W l a w)(p:s.n=l.tmps.n)(aa:∀i c,s.get i=some c->l.tmps.get i=some c):Rel T n W ⟨s,l.mem⟩ a w:=
 ⟨h.defers,by rw[h.size];exact p.symm,fun i c j=>h.tmps i c (aa i c j),h.mem⟩
theorem XO (j:∀c∈aX,T c= .bool true)(h:BQ T n W m w c v):BQ T n W m w (W4 aX c) v:=by
 cases c<;>try exact h
 case on c d=>
  simp only[W4];split
  .rename_i i;exact h.2 (j c (by simpa using i))
  .exact h
 case gd c d=>
  simp only[W4];split
  .rename_i i;exact h.2.1 (j c (by simpa using i))
  .exact h
theorem IM (h:Rel T n W ⟨tmps,m⟩ a w)(i:∀c∈aX,T c= .bool true)(x:Operand):BQ T n W m w (EJ aX tmps x) (a.eval x):=by
 cases x with
 |tmp t=>exact XO i (h.at t)
 |const v=>exact M6 v
 |global g=>exact trivial
 |func f=>exact⟨[],[],rfl,rfl,rfl⟩
structure HX (T:Tab) (ops:Array Oper) (n:Nat) (a:Act) (e:GE):Prop where
 lt:e.p < n
 bool:∃b,T e.p= .bool b
 iff:T e.p= .bool true↔yielded ops a.tmps e.j=some e.want
 imp:T e.p= .bool true->∀c∈e.imp,T c= .bool true
 ne:e.imp≠[]
structure DM (T:Tab) (ρ :Nat->Option Nat) (ops:Array Oper) (s:RS) (a:Act) (w:World):Prop where
 rel:Rel T s.g.n ρ ⟨s.tmps,s.mem⟩ a w
 ges:∀e∈s.gl,HX T ops s.g.n a e
theorem HX.up {e:GE}(h:HX T Z n a e)(i:n<=ap):HX T Z ap a e:=⟨AH h.lt i,h.bool,h.iff,h.imp,h.ne⟩
theorem fP {q:PC}{base:List Nat}{s aq:RS}{j:Nat}{aL:Bool}{run:Option (PC × List Nat)}(h:Fp q base s j aL c=some (run,aq))(hA:Agr T aq.g)(M:Ch T s.g q)
  (ab:DM T W Z s a w) (X:yielded Z a.tmps j=(match v with| .bool b=>some b|_=>none)) (N:pcv T q->BQ T s.g.n W s.mem w c v) (bl:¬pcv T q->v=undef) (bc:pcv T q->∀c∈base,T c= .bool true):
  aq.tmps=s.tmps/\aq.mem=s.mem/\Bo s.g aq.g/\DM T W Z aq a w/\(run=none->yielded Z a.tmps j≠some aL)/\
   (∀i aX,run=some (i,aX)->(yielded Z a.tmps j=some aL↔pcv T i)/\(pcv T i->∀c∈aX,T c= .bool true)/\Ch T aq.g i/\((aX=[]/\i=q/\base=[])\/aX≠[]/\((∃p,i=some p)\/(i=q/\aX=base)))):=by
 have bm:v=undef->yielded Z a.tmps j=none:=fun e=>by rw[X,e];rfl
 have aw:∀(x:Nat) (pol:Bool),(pcv T q->x < s.g.n/\∃E,T x= .bool E/\v= .bool (if pol then E else !E))->
   (some (some (some s.g.n,s.g.n::base),{ s with g:=s.g.pushAll [ED q x (if pol then aL else !aL)],gl:=⟨j,aL,s.g.n,s.g.n::base⟩::s.gl }):Option (Option (PC × List Nat) × RS))=some (run,aq)->
   aq.tmps=s.tmps/\aq.mem=s.mem/\Bo s.g aq.g/\DM T W Z aq a w/\(run=none->yielded Z a.tmps j≠some aL)/\
   (∀i aX,run=some (i,aX)->(yielded Z a.tmps j=some aL↔pcv T i)/\(pcv T i->∀c∈aX,T c= .bool true)/\Ch T aq.g i/\((aX=[]/\i=q/\base=[])\/aX≠[]/\((∃p,i=some p)\/(i=q/\aX=base)))):=by
  intro x pol hx z;cases z;have ba:Agr T (s.g.pushAll [ED q x (if pol then aL else !aL)]):=hA;have a3:T s.g.n=(ED q x (if pol then aL else !aL)).eval T:=ba.new.head;have ax:∃b,T s.g.n= .bool b:=by
   rw[a3];by_cases D:pcv T q
   .obtain⟨O,E,C,F⟩:=hx D;obtain⟨b,e,_⟩:=Wo (aL:=if pol then aL else !aL) M C;exact⟨b,e⟩
   .obtain⟨b,e,_⟩:=VD (x:=x) (aL:=if pol then aL else !aL) M D;exact⟨b,e⟩
  have a8:T s.g.n= .bool true↔yielded Z a.tmps j=some aL:=by
   rw[a3];by_cases D:pcv T q
   .obtain⟨O,E,C,F⟩:=hx D;rw[X,F];obtain⟨b,e,this⟩:=Wo (aL:=if pol then aL else !aL) M C;rw[e];constructor
    .intro z;have:=(this.1 (by injection z)).2;cases pol<;>simp at this⊢ <;>simp[this]
    .intro z;have H:E=(if pol then aL else !aL):=by cases pol<;>simp at z⊢ <;>simp[<-z]
     rw[this.2 ⟨D,H⟩]
   .rw[bm (bl D)];obtain⟨b,e,H⟩:=VD (x:=x) (aL:=if pol then aL else !aL) M D;grind
  have a2:T s.g.n= .bool true->∀c∈s.g.n::base,T c= .bool true:=by
   grind
  have bi:HX T Z (s.g.pushAll [ED q x (if pol then aL else !aL)]).n a ⟨j,aL,s.g.n,s.g.n::base⟩:=⟨by rw[Cr];simp,ax,a8,a2,fun h=>by cases h⟩;refine⟨rfl,rfl,(show Bo s.g (s.g.pushAll [ED q x (if pol then aL else !aL)]) from Bo.push _ _),⟨?_,fun e z=>?_⟩,(fun h=>by cases h),fun i aX z=>?_⟩
  .exact ab.rel.on (BY.refl _ _ _ _ _) (by rw[Cr];omega) (ab.rel.mem.mono (by rw[Cr];omega))
  .cases z with
   |head=>exact bi
   |tail _ z=>exact (ab.ges e z).up (by rw[Cr];omega)
  .cases z;exact⟨a8.symm,a2,⟨by rw[Cr];simp,ax⟩,.inr ⟨(fun h=>by cases h),.inl ⟨_,rfl⟩⟩⟩
 cases c<;>simp only[Fp] at h<;>try (cases h;done)
 case cb b=>
  split at h
  .rename_i H;cases h;refine⟨rfl,rfl,Bo.refl _,ab,(fun h=>by cases h),fun i aX z=>?_⟩;cases z;refine⟨?_,bc,M,?_⟩
   case refine_2=>
    grind
   constructor
   .grind
   .intro D;have:=N D;rw[X,show v=_ from this,H]
  .rename_i H;cases h;refine⟨rfl,rfl,Bo.refl _,ab,fun _ Y=>?_,fun i aX z=>by cases z⟩;by_cases D:pcv T q
   .have:=N D;rw[X,show v=_ from this] at Y;simp at Y;exact H Y
   .grind
 case b x=>exact aw x true (fun D=>by obtain⟨O,E,C,F⟩:=N D;exact⟨O,E,C,by simpa using F⟩) (by simpa using h)
 case nb x=>exact aw x false (fun D=>by obtain⟨O,E,C,F⟩:=N D;exact⟨O,E,C,by simpa using F⟩) (by simpa using h)
end
def fen (r:Option Nat):Fence:={ Fence.wide with round:=r }
theorem gA {r:Option Nat}{k:Nat}{P:Program}{f:FuncId}{args:Array Value}{w:World}{R:Ending->World->Prop}(h:Calls P f args w R):CallsIn (fen r) k P f args w R:=
 (callsIn_wide (n:=k)).2 h
def NE (P:Program)(fv:Value)(args:List Value)(w:World)(R:Ending->World->Prop):Prop:=
 (∃(k:FuncId) (first I:List Value) (aA:Func),fv= .func (.func k) first.toArray I.toArray/\P.funcs[k]? =some aA/\aA.body.isSome=true/\(aA.name== "runtime.NumGoroutine")=false/\Calls P k (first++args++I).toArray w R)\/
 ∃(b:Nat) (q:Loop),fv= .func (.yield b) #[] #[]/\w.heap[b]? =some (.loop q)/\args.length=q.params.size/\
  ∀k,RoundIn Fence.wide k P b q.fn ((q.params.zip args.toArray).foldl (fun t (p,v)=>t.setIfInBounds p v) q.tmps) q.assign q.body w R
def H3 (T:Tab)(g:G)(W :Nat->Option Nat)(m:Mem)(w:World)(c:AC)(ag:Mem)(ao:G):Ending->World->Prop:=
 fun e ac=>∃v ad,e= .returned v/\BY T g.n W m w ad ag ac/\BX T ao.n ad ag ac/\BQ T ao.n ad ag ac c v
def YfOK (P:Program)(T:Tab)(i:Nat)(y:YF):Prop:=
 ∀id args ae m g c ag ao,y id args ae m g=some (c,ag,ao)->Bo g ao/\(Agr T ao->CB T ao->pcv T ae->Ch T g ae->∀h,m.at id= .lp i h->∀ W w Y,BR T g.n W m w args Y->BX T g.n W m w->
  ∀b, W id=some b->NE P (.func (.yield b) #[] #[]) Y w (H3 T g W m w c ag ao))
def YsOK (P:Program)(T:Tab)(an:Ys):Prop:=∀h y,an h=some y->YfOK P T h y
def ES (P:Program)(h:Nat->DP)(an:Ys):Prop:=∀T:Tab,T.lp=h->YsOK P T an
def Dj (P:Program)(T:Tab)(call:CM):Prop:=
 ∀an k args ae m g c ag ao,ES P T.lp an->call an k args ae m g=some (c,ag,ao)->Bo g ao/\(Agr T ao->CB T ao->pcv T ae->Ch T g ae->∀ W w Y,BR T g.n W m w args Y->BX T g.n W m w->
  (∃aA,P.funcs[k]? =some aA/\aA.body.isSome=true/\(aA.name== "runtime.NumGoroutine")=false)/\
  Calls P k (Y:List Value).toArray w (H3 T g W m w c ag ao))
section
variable {P:Program}{T:Tab}{n ap:Nat}{W ad:Nat->Option Nat}{m ag:Mem}{w ac:World}{a:Act}
variable{Z:Array Oper}{s:RS}{o:Oper}{a1:Option Tmp}
theorem Qa {ae:PC}{aq:RS}{run:Option (PC × List Nat)}(h:EG Z ae s o=some (run,aq))(hA:Agr T aq.g)(a3:pcv T ae)(hk:Ch T s.g ae)(ab:DM T W Z s a w):
  aq.tmps=s.tmps/\aq.mem=s.mem/\Bo s.g aq.g/\DM T W Z aq a w/\(run=none->Region.wanted o (yielded Z a.tmps)=false)/\
   (∀i aX,run=some (i,aX)->(Region.wanted o (yielded Z a.tmps)=true↔pcv T i)/\(pcv T i->∀c∈aX,T c= .bool true)/\Ch T aq.g i/\
    (aX=[]->pcv T i)/\(aX≠[]->(∃p,i=some p)/\∃q,o.guard=some q)):=by
 unfold EG at h;cases hg:o.guard with
 |none=>
  rw[hg] at h;cases h;refine⟨rfl,rfl,Bo.refl _,ab,(fun h=>by cases h),fun i aX D=>?_⟩;cases D;exact⟨by simp[Region.wanted,hg,a3],fun _ c z=>(by cases z),hk,fun _=>a3,fun h=>absurd rfl h⟩
 |some jw=>
  obtain⟨j,aL⟩:=jw;have a8:(Region.wanted o (yielded Z a.tmps)=true↔yielded Z a.tmps j=some aL):=by simp[Region.wanted,hg]
  rw[hg] at h;simp only at h;split at h
  .rename_i e ay D;cases h;have b2:∀x∈e::ay,x∈s.gl/\x.j=j/\x.want=aL:=by
    intro x hx;rw[<-D] at hx;obtain⟨O,C⟩:=List.mem_filter.1 hx;simp only[AB] at C;exact⟨O,yI C.1,by simpa using C.2⟩
   obtain⟨bm,hj,N⟩:=b2 e (AN ..);have F:=ab.ges e bm;refine⟨rfl,rfl,Bo.refl _,ab,(fun h=>by cases h),fun i aX D=>?_⟩;cases D;refine⟨?_,?_,⟨F.lt,F.bool⟩,fun h=>?_,fun _=>⟨⟨_,rfl⟩,_,rfl⟩⟩
   .rw[a8,<-hj,<-N];exact F.iff.symm
   .intro hp c z;rcases Ap.1 z with z|z
    .exact F.imp hp c z
    .obtain⟨l,hl,z⟩:=List.mem_flatten.1 z;obtain⟨x,hx,rfl⟩:=BL.1 hl;obtain⟨k1,E,k3⟩:=b2 x (AK _ hx);have b3:=ab.ges x k1;refine b3.imp (b3.iff.2 ?_) c z;rw[E,k3,<-hj,<-N];exact F.iff.1 hp
   .exact absurd (List.append_eq_nil_iff.1 h).1 F.ne
  .rename_i c4;simp only[AD,AA] at h;obtain⟨oj,cl,d,hd,c,z,h⟩:=h;have hv:=ab.rel.tmps d c z;have hy:yielded Z a.tmps j=(match a.tmps.getD d undef with| .bool b=>some b|_=>none):=by
    simp only[yielded,cl,Ag,hd];rcases AQ d a.tmps.size with bl|bl
    .have bi:a.tmps[d]? =some (a.tmps.getD d undef):=by simp[AJ,bl]
     rw[bi];generalize a.tmps.getD d undef=v;cases v<;>rfl
    .have bi:a.tmps[d]? =none:=Array.getElem?_eq_none bl;rw[AJ,bi];rfl
   have b0:∀(H:PC) (base:List Nat) (X:AC),Fp H base s j aL X=some (run,aq)->Ch T s.g H->(pcv T H->BQ T s.g.n W s.mem w X (a.tmps.getD d undef))->(¬pcv T H->a.tmps.getD d undef=undef)->(pcv T H->∀c∈base,T c= .bool true)->
     ((H=ae/\base=[])\/(base≠[]/\∃p,H=some p))->
     aq.tmps=s.tmps/\aq.mem=s.mem/\Bo s.g aq.g/\DM T W Z aq a w/\(run=none->Region.wanted o (yielded Z a.tmps)=false)/\
     (∀i aX,run=some (i,aX)->(Region.wanted o (yielded Z a.tmps)=true↔pcv T i)/\(pcv T i->∀c∈aX,T c= .bool true)/\Ch T aq.g i/\
      (aX=[]->pcv T i)/\(aX≠[]->(∃p,i=some p)/\∃q,(some (j,aL):Option (Nat × Bool))=some q)):=by
    intro H base X O C h3 h4 h5 h6;obtain⟨k1,E,k3,k4,k5,k6⟩:=fP O hA C ab hy h3 h4 h5;refine⟨k1,E,k3,k4,fun hn=>?_,fun i aX D=>?_⟩
    .have:=k5 hn;cases N:Region.wanted o (yielded Z a.tmps) with
     |false=>rfl
     |true=>exact absurd (a8.1 N) this
    .obtain⟨q1,q2,q3,q4⟩:=k6 i aX D;refine⟨a8.trans q1,q2,q3,fun ci=>?_,fun aw=>⟨?_,_,rfl⟩⟩
     .rcases q4 with⟨_,M,e2⟩|⟨aw,_⟩
      .rcases h6 with⟨e3,_⟩|⟨e3,_⟩
       .rw[M,e3];exact a3
       .exact absurd e2 e3
      .exact absurd ci aw
     .rcases q4 with⟨M,_⟩|⟨_,q5|⟨q5,q6⟩⟩
      .exact absurd M aw
      .exact q5
      .rcases h6 with⟨_,e4⟩|⟨_,e5⟩
       .rw[q6,e4] at aw;exact absurd rfl aw
       .rw[q5];exact e5
   split at h
   .
    cases h;obtain⟨Y,M,e2⟩:=hv;rw[show Y=[] from e2] at M;refine⟨rfl,rfl,Bo.refl _,ab,fun _=>?_,fun i aX D=>by cases D⟩;cases N:Region.wanted o (yielded Z a.tmps) with
    |false=>rfl
    |true=>
     have:=a8.1 N;rw[hy,M] at this;cases this
   .rename_i cc X;simp only[AA] at h;obtain⟨e,D,h⟩:=h;have bm:=List.mem_of_find?_eq_some D;have cs:=List.find?_some D;have hp:e.p=cc:=yI cs;subst hp;have F:=ab.ges e bm;exact b0 (some e.p) e.imp X h ⟨F.lt,F.bool⟩ hv.2.1 hv.2.2 F.imp (.inr ⟨F.ne,_,rfl⟩)
   .exact b0 ae [] c h hk (fun _=>hv) (fun hn=>absurd a3 hn) (fun _ c z=>by cases z) (.inl ⟨rfl,rfl⟩)
theorem LY {j:Nat}(h:((Z[j]?).bind (·.dst))≠a1)(v:Value):yielded Z (a.put a1 v).tmps j=yielded Z a.tmps j:=by
 cases a1 with
 |none=>rfl
 |some d=>
  simp only[yielded,Act.put];cases hd:(Z[j]?).bind (·.dst) with
  |none=>rfl
  |some e=>
   have p:d≠e:=fun i=>by rw[hd,i] at h;exact h rfl
   simp only[Ag,yL,p,if_false]
theorem Yd:∀(x y:Blk),Blk.beq x y=true->x=y
 | .pad,y,h=>by cases y<;>simp_all [Blk.beq]
 | .gone,y,h=>by cases y<;>simp_all [Blk.beq]
 | .cells l e,y,h=>by
  cases y<;>simp[Blk.beq] at h;rw[AC.beqL_eq l _ h.1,h.2]
 | .tok x ks e,y,h=>by
  cases y<;>simp[Blk.beq] at h;rw[h.1.1,Kd.beqs_eq ks _ h.1.2,h.2]
 | .lp x a,y,h=>by
  cases y<;>simp[Blk.beq] at h;rw[h.1,AC.beq_eq a _ h.2]
 | .mrow x z ks e,y,h=>by
  cases y<;>simp[Blk.beq] at h;rw[h.1.1.1,h.1.1.2,Kd.beqs_eq ks _ h.1.2,h.2]
 | .mapb x al ka aM aT,y,h=>by
  cases y<;>simp[Blk.beq] at h;rw[h.1.1.1.1,Kd.beqs_eq al _ h.1.1.1.2,h.1.1.2,Kd.beqs_eq aM _ h.1.2,h.2]
theorem Gn:∀{m ag:Mem},ID m ag=true->m.length<=ag.length/\∀id,id < m.length->ag.at id=m.at id
 |[],_,_=>⟨Ak _,fun id h=>by simp at h⟩
 |_::_,[],h=>by cases h
 |x::m,y::ag,h=>by
  simp only[ID,AB] at h;obtain⟨O,C⟩:=Gn h.2;refine⟨by simp;omega,fun id i=>?_⟩;cases id with
  |zero=>simp[Mem.at,Yd _ _ h.1]
  |succ id=>
   have:=C id (by simpa using i);simpa [Mem.at] using this
theorem RJ (m:Mem)(k:Nat)(id:Nat):Mem.at (m++List.replicate k .gone) id=if id < m.length then m.at id else if id < m.length+k then .gone else .pad:=by
 unfold Mem.at;grind
theorem lJ {f:Operand}{args:Array Operand}{au:Array TypeId}{k:FuncId}{first I:List Value}{aA:Func}(q:o.op= .call { callee:= .value f,args,argTypes:=au })
  (p:a.eval f= .func (.func k) first.toArray I.toArray) (O:P.funcs[k]? =some aA) (C:aA.body.isSome=true) (i:(aA.name== "runtime.NumGoroutine")=false):
  (execOp a.eval o).run P w= .ok (.enter k (first++(args.toList.map a.eval)++I).toArray) w:=by
 have j:aA.body.isNone=false:=by cases z:aA.body with|none=>rw[z] at C;cases C|some=>rfl
 have h:first.toArray++args.map a.eval++I.toArray=(first++(args.toList.map a.eval)++I).toArray:=by
  apply Array.ext';simp
 simp only[execOp,q,resolve,p,Deferred.ofValue,Ar,Ay,Aq,invoke,callFunc,run_program,O,i,j,AZ,if_false,h]
theorem DM.put (ab:DM T W Z s a w)(hd:s.gl.any (fun e=>((Z[e.j]?).bind (·.dst))==a1)=false){ao:G}(i:Bo s.g ao){h:Mem}
  (aa:BY T s.g.n W s.mem w ad h ac) (q:BX T ao.n ad h ac) {c:AC} {v:Value} (j:BQ T ao.n ad h ac c v):
  DM T ad Z { s with tmps:=EL s.tmps a1 c,mem:=h,g:=ao } (a.put a1 v) ac:=by
 refine⟨(ab.rel.on aa i.n q).put a1 j,fun e p=>?_⟩;have O:=(ab.ges e p).up i.n;have z:((Z[e.j]?).bind (·.dst))≠a1:=by
  grind
 exact⟨O.lt,O.bool,by rw[LY z];exact O.iff,O.imp,O.ne⟩
end
def sel {aW:Type}(b:Bool)(x y:aW):aW:=match b with|true=>x|false=>y
inductive Dx (T:Tab) (n n':Nat) (w:World):Blk->Blk->Prop where
 |pad:Dx T n n' w .pad .pad
 |gone (s:Blk):Dx T n n' w s .gone
 |same (x:Nat) (ks:List Kd) (e:TypeId):Dx T n n' w (.tok x ks e) (.tok x ks e)
 |cells {l l':List AC} {e:TypeId} (h:∀ ρ m vs,BR T n ρ m w l vs->BR T n' ρ m w l' vs):Dx T n n' w (.cells l e) (.cells l' e)
 |tok {x k:Nat} {ks ks':List Kd} {e:TypeId} (h1:n<=k) (h2:k < n') (h4:T k=T x) (h5:ks'.length=ks.length):Dx T n n' w (.tok x ks e) (.tok k ks' e)
 |new {k:Nat} {ks:List Kd} {e:TypeId} (h1:n<=k) (h2:k < n') (h4:T k= .list []):Dx T n n' w .pad (.tok k ks e)
 |lp {s:Nat} {st st':AC} (h:∀ ρ m v,BQ T n ρ m w st v->BQ T n' ρ m w st' v):Dx T n n' w (.lp s st) (.lp s st')
 |mrow {x k y:Nat} {ks ks':List Kd} {e:TypeId} (h2:k=x\/k < n') (h4:T k=T x) (h5:ks'.length=ks.length) (h6:∀ok us vs,Bg ok w ks us vs->Bg ok w ks' us vs):Dx T n n' w (.mrow x y ks e) (.mrow k y ks' e)
 |mapb {x k:Nat} {kk kk' vk vk':List Kd} {ka va:Bool} (h2:k=x\/k < n') (h4:T k=T x) (h5:∀ok us vs,Bg ok w kk us vs->Bg ok w kk' us vs) (h6:∀ok us vs,Bg ok w vk us vs->Bg ok w vk' us vs):Dx T n n' w (.mapb x kk ka vk va) (.mapb k kk' ka vk' va)
section
variable {T:Tab}{W :Nat->Option Nat}{m:Mem}{w:World}{b:Bool}{A:Rf}{n ap:Nat}
theorem JW (i:(A.eval T).toB=b)(r h:Rf):(⟨ "if",oIf,[A,r,h]⟩:Ex).eval T=sel b (r.eval T) (h.eval T):=by
 cases b<;>simp[Ex.eval,oIf,u0,u1,u2,i,sel]
theorem ub (F:(A.eval T).toB=b){k:Nat}{x y:Blk}(j:New T k (E6 k A x y).2)(N:n<=k)(i:k+(E6 k A x y).2.length<=ap):
  Dx T n ap w (sel b x y) (E6 k A x y).1:=by
 cases x with
 |pad=>
  cases y with
  |pad=>cases b<;>exact .pad
  |gone=>exact .gone _
  |cells l e=>exact .gone _
  |lp=>exact .gone _
  |mrow=>exact .gone _
  |mapb=>exact .gone _
  |tok L ks e'=>
   simp only[E6] at j i⊢;simp only[List.length_singleton] at i;have e:=j.head;rw[JW F] at e;cases b with
   |true=>exact .new N (by omega) e
   |false=>exact .tok N (by omega) e rfl
 |gone=>cases y<;>exact .gone _
 |cells l e=>
  cases y with
  |pad=>exact .gone _
  |gone=>exact .gone _
  |tok=>exact .gone _
  |lp=>exact .gone _
  |mrow=>exact .gone _
  |mapb=>exact .gone _
  |cells ak e'=>
   simp only[E6] at j i⊢;split
   .rename_i b1;obtain⟨bc,rfl⟩:=b1;simp only[bc,and_self,if_true] at j i;split
    .rename_i b0;simp only[b0,if_true] at j i;have a2:∀ W m Y,(b=true->BR T n W m w l Y)->(b=false->BR T n W m w ak Y)->BR T ap W m w (RP (fun n=>mix n A) k l ak).1 Y:=fun W m Y k1 E=>
      TE (fun n0 c d v _ _ bm bo a3 bt=>Ph F (by omega) bm bo a3 bt) bc j i k1 E
     cases b with
     |true=>exact .cells fun W m Y h=>a2 W m Y (fun _=>h) (fun h=>by cases h)
     |false=>exact .cells fun W m Y h=>a2 W m Y (fun h=>by cases h) (fun _=>h)
    .exact .gone _
   .exact .gone _
 |lp s st=>
  cases y with
  |pad=>exact .gone _
  |gone=>exact .gone _
  |cells=>exact .gone _
  |tok=>exact .gone _
  |mrow=>exact .gone _
  |mapb=>exact .gone _
  |lp aq bl=>
   simp only[E6] at j i⊢;split
   .rename_i q;have e:=yI q;subst e;simp only[q,if_true] at j i;have a2:∀ W m v,(b=true->BQ T n W m w st v)->(b=false->BQ T n W m w bl v)->BQ T ap W m w (mix k A st bl).1 v:=fun W m v k1 E=>Ph F (by omega) j i k1 E;cases b with
    |true=>exact .lp fun W m v h=>a2 W m v (fun _=>h) (fun h=>by cases h)
    |false=>exact .lp fun W m v h=>a2 W m v (fun h=>by cases h) (fun _=>h)
   .exact .gone _
 |mrow x z ks e=>
  cases y with
  |pad=>exact .gone _
  |gone=>exact .gone _
  |cells=>exact .gone _
  |tok=>exact .gone _
  |lp=>exact .gone _
  |mapb=>exact .gone _
  |mrow L z' X e'=>
   simp only[E6] at j i⊢;split
   .rename_i q;simp only[q,if_true] at j i;simp only[AB] at q;have e1:=yI q.1.1;have D:=yI q.1.2;have H:=yI q.2;subst e1;subst D;split
    .rename_i p;simp only[AB] at p;have M:=yI p.1;have e5:=Kd.beqs_eq _ _ p.2;subst M;subst e5;cases b<;>exact .mrow (.inl rfl) rfl rfl (fun _ _ _ h=>h)
    .rename_i p;simp only[p] at j i;simp only[AZ,if_false] at j i;simp only[List.length_singleton] at i;have e:=j.head;rw[JW F] at e;have hj:=Kd.joins_len ks X H;cases b with
     |true=>exact .mrow (.inr (by omega)) e hj (fun _ _ _ h=>h.join_l H)
     |false=>exact .mrow (.inr (by omega)) e (by rw[hj,H]) (fun _ _ _ h=>h.join_r H)
   .exact .gone _
 |mapb x al ka aM aT=>
  cases y with
  |pad=>exact .gone _
  |gone=>exact .gone _
  |cells=>exact .gone _
  |tok=>exact .gone _
  |lp=>exact .gone _
  |mrow=>exact .gone _
  |mapb L b4 b3 b6 b5=>
   simp only[E6] at j i⊢;split
   .rename_i p;simp only[AB,beq_iff_eq] at p;obtain⟨⟨⟨⟨aS,c2⟩,c3⟩,c4⟩,c5⟩:=p;have e1:=yI aS;have D:=Kd.beqs_eq _ _ c2;have M:=Kd.beqs_eq _ _ c4;subst e1;subst D;subst M;subst c3;subst c5;cases b<;>exact .mapb (.inl rfl) rfl (fun _ _ _ h=>h) (fun _ _ _ h=>h)
   .rename_i p;simp only[p] at j i;split
    .rename_i hd;simp only[AZ,if_false,hd,if_true] at j i;simp only[AB,beq_iff_eq] at hd;obtain⟨⟨⟨c2,c3⟩,c4⟩,c5⟩:=hd;have D:=yI c2;have M:=yI c4;subst c3;subst c5;simp only[List.length_singleton] at i;have e:=j.head;rw[JW F] at e;cases b with
     |true=>exact .mapb (.inr (by omega)) e (fun _ _ _ h=>h.join_l D) (fun _ _ _ h=>h.join_l M)
     |false=>exact .mapb (.inr (by omega)) e (fun _ _ _ h=>h.join_r D) (fun _ _ _ h=>h.join_r M)
    .exact .gone _
 |tok x ks e=>
  cases y with
  |gone=>exact .gone _
  |cells=>exact .gone _
  |lp=>exact .gone _
  |mrow=>exact .gone _
  |mapb=>exact .gone _
  |pad=>
   simp only[E6] at j i⊢;simp only[List.length_singleton] at i;have e:=j.head;rw[JW F] at e;cases b with
   |false=>exact .new N (by omega) e
   |true=>exact .tok N (by omega) e rfl
  |tok L X e'=>
   simp only[E6] at j i⊢;split
   .rename_i q;simp only[AB] at q;have e1:=yI q.1.1;have D:=yI q.2;have H:=Kd.beqs_eq _ _ q.1.2;subst e1;subst D;subst H;cases b<;>exact .same _ _ _
   .rename_i q;simp only[q] at j i;split
    .rename_i p;obtain⟨rfl,p⟩:=p;simp only[p,and_self,if_true,AZ,if_false] at j i;simp only[List.length_singleton] at i;have e:=j.head;rw[JW F] at e;have hj:=Kd.joins_len ks X p;cases b with
     |true=>exact .tok N (by omega) e hj
     |false=>exact .tok N (by omega) e (by rw[hj,p])
    .exact .gone _
theorem xF (id:Nat):Mem.at [] id= .pad:=rfl
theorem TI (x:Blk)(m:Mem):Mem.at (x::m) 0=x:=rfl
theorem JR (x:Blk)(m:Mem)(id:Nat):Mem.at (x::m) (id+1)=Mem.at m id:=by simp[Mem.at]
theorem Qc (m:Mem):m.headD .pad=m.at 0:=by cases m<;>rfl
theorem Xj (m:Mem)(id:Nat):Mem.at m.tail id=m.at (id+1):=by cases m with
 |nil=>rfl
 |cons x m=>exact (JR x m id).symm
theorem ZB:∀(ai:Mem) (n0 id:Nat),∃k,n0<=k/\k+(E6 k A .pad (ai.at id)).2.length<=n0+(Ih A n0 ai).2.length/\(Ih A n0 ai).1.at id=(E6 k A .pad (ai.at id)).1/\
  ∀T,New T n0 (Ih A n0 ai).2->New T k (E6 k A .pad (ai.at id)).2
 |[],n0,id=>⟨n0,AE _,AE _,rfl,fun _ h=>h⟩
 |y::ai,n0,0=>by
  refine⟨n0,AE _,?_,rfl,fun T h=>?_⟩
  .simp only[Ih,AP,TI];omega
  .simp only[Ih] at h;exact h.left
 |y::ai,n0,id+1=>by
  obtain⟨k,O,C,i,j⟩:=ZB ai (n0+(E6 n0 A .pad y).2.length) id;refine⟨k,by omega,?_,?_,fun T h=>?_⟩
  .simp only[Ih,AP,JR];omega
  .simp only[Ih,JR];exact i
  .simp only[Ih] at h;rw[JR];exact j T h.right
theorem XE:∀(ax ai:Mem) (n0 id:Nat),∃k,n0<=k/\k+(E6 k A (ax.at id) (ai.at id)).2.length<=n0+(Cs A n0 ax ai).2.length/\(Cs A n0 ax ai).1.at id=(E6 k A (ax.at id) (ai.at id)).1/\
  ∀T,New T n0 (Cs A n0 ax ai).2->New T k (E6 k A (ax.at id) (ai.at id)).2
 |[],ai,n0,id=>ZB ai n0 id
 |x::ax,ai,n0,0=>by
  refine⟨n0,AE _,?_,?_,fun T h=>?_⟩
  .simp only[Cs,AP,TI,Qc];omega
  .simp only[Cs,TI,Qc]
  .simp only[Cs] at h;rw[Qc] at h;exact h.left
 |x::ax,ai,n0,id+1=>by
  obtain⟨k,O,C,i,j⟩:=XE ax ai.tail (n0+(E6 n0 A x (ai.headD .pad)).2.length) id;rw[Xj] at C i j;refine⟨k,by omega,?_,?_,fun T h=>?_⟩
  .simp only[Cs,AP,JR];omega
  .simp only[Cs,JR];exact i
  .simp only[Cs] at h;rw[JR];exact j T h.right
def DJ (m:Mem)(W :Nat->Option Nat):Nat->Option Nat:=fun id=>match m.at id with| .pad=>none|_=> W id
variable{id:Nat}{ag:Mem}
theorem JV (h:m.at id= .pad):DJ m W id=none:=by simp[DJ,h]
theorem Di (h:m.at id≠ .pad):DJ m W id= W id:=by
 unfold DJ;grind
theorem HD (_hm:BX T n W m w)(h:∀id,Dx T n ap w (m.at id) (ag.at id)):BY T n W m w (DJ m W) ag w where
 os:=rfl
 tape:=rfl
 output:=rfl
 size:=AE _
 mlen:=fun id i=>by
  have:=h id;generalize m.at id=s at this i;generalize ag.at id=z at this;cases this<;>first|exact absurd rfl i|(intro h;cases h)
 rho:=fun id i=>by
  refine⟨Di (Cf i),?_⟩;have:=h id;generalize m.at id=s at this i;generalize ag.at id=z at this;cases this<;>first|rfl|cases i
 untr:=fun id i F=>by
  have:=h id;generalize m.at id=s at this i;generalize ag.at id=z at this F;cases this<;>first|rfl|exact absurd rfl i|cases F
 fresh:=fun id b i _ E=>by rw[JV i] at E;cases E
 old:=fun _ _ _=>rfl
 tok:=fun id x ks e j=>by
  have:=h id;have p:m.at id≠ .pad:=by rw[j];exact fun h=>by cases h
  rw[j] at this;generalize N:ag.at id=z at this;cases this with
  |gone=>exact .inr ⟨fun _ _ _ _=>rfl,.inl rfl⟩
  |same=>exact .inl ⟨rfl,Di p,fun _ _=>rfl⟩
  |tok O C D q=>
   rename_i k X;refine .inr ⟨fun _ _ _ _=>rfl,.inr ⟨k,X,e,rfl,O,fun b' H=> .inl ⟨by rw[<-Di (W := W) p];exact H,?_⟩⟩⟩;simp only[DN,D,q];exact AE _
 row:=fun id x y ks e j=>by
  have:=h id;have p:m.at id≠ .pad:=by rw[j];exact fun h=>by cases h
  rw[j] at this;generalize N:ag.at id=z at this;cases this with
  |gone=>exact .inl rfl
  |mrow C D q h6=>exact .inr ⟨_,y,_,rfl,q,.inl ⟨rfl,Di p,fun b Y _ M=>⟨Y,M,rfl⟩⟩⟩
theorem CQ.conv {ok:Nat->Nat->Prop}{ks X:List Kd}(h:∀us Y,Bg ok w ks us Y->Bg ok w X us Y):∀{l:List (List U)} {R:List (List Value)},CQ ok w ks l R->CQ ok w X l R
 |[],_,hh=>hh
 |_::_,_,⟨Y,vss',e,O,C⟩=>⟨Y,vss',e,h _ _ O,C.conv h⟩
theorem QJ (M:BX T n W m w)(hn:n<=ap)(h:∀id,Dx T n ap w (m.at id) (ag.at id)):BX T ap (DJ m W) ag w where
 blk:=fun id=>by
  have N:=HD M h;have D:=M.blk id;have p:=h id;cases aa:m.at id with
  |pad=>
   rw[aa] at p;generalize hz:ag.at id=z at p;cases p with
   |pad=>trivial
   |gone=>trivial
   |new O C H=>exact⟨C,_,H,.inl (JV aa)⟩
  |gone=>
   rw[aa] at p;generalize hz:ag.at id=z at p;cases p;trivial
  |cells l e=>
   have F:m.at id≠ .pad:=by rw[aa];exact fun h=>by cases h
   rw[aa] at p D;obtain⟨b,Y,O,C,X⟩:=D;generalize hz:ag.at id=z at p;cases p with
   |gone=>trivial
   |cells hc=>
    exact⟨b,Y,by rw[Di F];exact O,C,hc _ _ Y (BR.mono N M (AE _) _ Y X)⟩
  |lp x st=>
   have F:m.at id≠ .pad:=by rw[aa];exact fun h=>by cases h
   rw[aa] at p D;obtain⟨b,q,O,C,X,H,h5,h9,h6,j,h7,h8⟩:=D;generalize hz:ag.at id=z at p;cases p with
   |gone=>trivial
   |lp hc=>
    exact⟨b,q,by rw[Di F];exact O,C,X,H,h5,h9,fun i c cb=>BQ.mono N M hn _ _ (h6 i c cb),j,hc _ _ _ (BQ.mono N M (AE _) _ _ h7),h8⟩
  |tok x ks e=>
   have F:m.at id≠ .pad:=by rw[aa];exact fun h=>by cases h
   rw[aa] at p D;obtain⟨h0,r,O,C⟩:=D;generalize hz:ag.at id=z at p;cases p with
   |gone=>trivial
   |same=>
    refine⟨AH h0 hn,r,O,?_⟩;rw[Di F];exact C
   |tok k1 E k4 k5=>
    refine⟨E,r,by rw[k4,O],?_⟩;rw[Di F,k5];exact C
  |mrow x y ks e=>
   have F:m.at id≠ .pad:=by rw[aa];exact fun h=>by cases h
   rw[aa] at p D;obtain⟨h0,r,O,C,⟨X,b8⟩,H⟩:=D;generalize hz:ag.at id=z at p;cases p with
   |gone=>trivial
   |mrow E k4 k5 k6=>
    refine⟨⟨?_,AH h0.2 hn⟩,r,by rw[k4,O],C,⟨X,fun h=>b8 (A6.1 (by rw[<-k5,h];rfl))⟩,?_⟩
    .rcases E with E|E
     .rw[E];exact AH h0.1 hn
     .exact E
    .rw[Di F];rcases H with H|⟨b,Y,us,q1,q2,⟨R,q3,q5⟩,q4⟩
     .exact .inl H
     .exact .inr ⟨b,Y,us,q1,q2,⟨R,q3,CQ.conv (k6 _) (CQ.mono (fun _ _ aa=>N.safe0 aa) q5)⟩,q4⟩
  |mapb x al ka aM aT=>
   have F:m.at id≠ .pad:=by rw[aa];exact fun h=>by cases h
   rw[aa] at p D;obtain⟨h0,l,b,ay,a3,O,C,X,H,h5,h6,h7⟩:=D;generalize hz:ag.at id=z at p;cases p with
   |gone=>trivial
   |mapb E k4 k5 k6=>
    refine⟨?_,l,b,ay,a3,by rw[k4,O],by rw[Di F];exact C,X,H,h5,fun i us e hl he=>?_,h7⟩
    .rcases E with E|E
     .rw[E];exact AH h0 hn
     .exact E
    .obtain⟨u1,u2,q1,⟨ch,q2,q3⟩,⟨ci,q4,q5⟩⟩:=h6 i us e hl he;exact⟨u1,u2,q1,⟨ch,k5 _ _ _ (Bg.mono (fun _ _ aa=>N.safe0 aa) q2),q3⟩,⟨ci,k6 _ _ _ (Bg.mono (fun _ _ aa=>N.safe0 aa) q4),q5⟩⟩
 fr:=M.fr
 inj:=fun id b2 b p cf O C=>by
  have N:=HD M h;have b3:∀id,(ag.at id).tracked=true->DJ m W id=some b->(m.at id).tracked=true/\ W id=some b:=by
   intro id p hr;by_cases hp:m.at id= .pad
   .rw[JV hp] at hr;cases hr
   .exact⟨N.untr id hp p,by rw[<-Di (W := W) hp];exact hr⟩
  obtain⟨b4,a2⟩:=b3 id p O;obtain⟨b6,b7⟩:=b3 b2 cf C;exact M.inj id b2 b b4 b6 a2 b7
end
end
end Go.Eng
end
