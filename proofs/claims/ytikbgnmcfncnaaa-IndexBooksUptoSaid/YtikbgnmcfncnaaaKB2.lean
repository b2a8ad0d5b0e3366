/-
  A part of the proof: the evaluator of code and its soundness.
-/
import Derived.Test.YtikbgnmcfncnaaaKB1
import Derived.Test.YtikbgnmcfncnaaaE4
import Derived.Test.YtikbgnmcfncnaaaE5
set_option linter.unusedVariables false
set_option linter.unusedSimpArgs false
noncomputable section
namespace Go.Eng
section
open Go Go.Eng Go.Proofs
set_option maxHeartbeats 4000000
set_option maxRecDepth 100000
theorem rO:Ge.sees jH (Ge.run Try.prog [(101,Lp)] Aa 3000 20 144)=some ((HO++((Ag Ng [.i,.l] Rl)++(Ir++(mi)))).map En.be,sW.map ObE.be,[]):=by kernel_rfl
abbrev wY(T:Tab):Prop:=(L T 0).length<=140737488355328
abbrev wZ(T:Tab):Prop:=((L T 0)).length=I T 1/\0<=I T 2/\I T 2<=I T 3/\I T 3<=I T 1
variable{T:Tab}
theorem jL (i:wY T)(h:∀u∈(L T 0),AK AD KB u)(j:0<=I T 1)(g:I T 1<=140737488355328)(k:wZ T)(a:AF T HO):
  ((I T 4)=I T 2+1):=by
 have c:=a;clear a;have e:(I T 4)=I T 2+1:=by
  obtain⟨b,-⟩:=c;simp only[AE,zR,w2P] at b;exact b (by omega) (by omega)
 have g:(I T 1)<=140737488355328:=by
  omega
 exact e
abbrev w7(T:Tab):Prop:=0<=I T 2/\I T 2<=I T 3/\I T 2+1<=I T 5/\((I T 5)<=I T 3\/I T 5=I T 2+1)/\I T 3<=I T 1/\I T 1<=140737488355328
abbrev w8(T:Tab):Prop:=((L T 6)).length=I T 1/\∀u∈(L T 6),AK AD KB u
theorem iJ (g:w7 T)(ao:w8 T)(a:AF T GT):
  ((B T 7)=true->I T 5 < I T 3):=by
 have c:=a;clear a;have e:(B T 7)=true->I T 5 < I T 3:=by
  obtain⟨b,-⟩:=c;simp only[AE,zR] at b;exact b.1
 exact e
abbrev wc(T:Tab)(a:Int)(b:List (List U)):Prop:=(I T 2)<=a/\a <=I T 5/\((B T 7)=true->b.length=I T 1/\(∀u∈b,AK AD KB u)/\b=CR (((L T 6)).take (I T 2).toNat) (((((L T 6)).take (I T 5).toNat).drop (I T 2).toNat).reverse) (((L T 6)).drop ((I T 5).toNat+1)) (((L T 6)).getD (I T 5).toNat []) ((I T 5) -a).toNat/\∀q:Nat,(q:Int) < I T 5 -a ->ltB (((L T 6)).getD (I T 5).toNat []) ((((((L T 6)).take (I T 5).toNat).drop (I T 2).toNat).reverse).getD q [])=true)
theorem lv (g1:w7 T)(ao:w8 T)(P:(B T 7)=true->I T 5 < I T 3)(hS:AJ T (AM (hds 5 [.i,.l]++DN [2,1,3] (AM (Ak 0 Ge.ks) HO)) GT))(hB:AU T (E4.map En.be))(hH:AU T ((Ag LI [.i,.l] N5).map En.be)):
  (LI).owes (N5.map (Rf.eval T))/\AJ T (hds 9 [.i,.l])/\(wc T (I T 9) (L T 10))/\¬B T 39=true:=by
 refine Ax (nh:=9) (k:=2) (pcn:=39) (aO:=64) (y:=E4) (J:=Yi) (nxt:=[.e 63,.e 62]) (H:=[.e 5,.e 6]) (fv:=[7,2,1]) (R:=[.i,.l]) (by kernel_rfl) rfl rfl rfl rfl hS (by kernel_rfl) (by kernel_rfl) hB (Ai hH) (fun s=>wc T (aI s 0) (aL s 1)) (fun s=>((aI s 0)).toNat) ?_ ?_
 .show wc T (I T 5) (L T 6);clear hS hB hH;refine⟨by omega,uf _,fun x=>?_⟩;have W:=P x;refine⟨ao.1,ao.2,?_,fun q hq=>absurd hq (by omega)⟩;rw[show ((I T 5) - (I T 5)).toNat=0 by omega,ZZ (by omega) (by omega)]
 .intro A a0 E F;replace F:wc T (I A 9) (L A 10):=F;clear hS hB hH;replace E:AF A E4:=E;obtain⟨K,E⟩:=E.cut;obtain⟨M,E⟩:=E.cut;obtain⟨F2,E⟩:=E.cut;have N:=E;clear E;have V:B A 7=B T 7:=fvB (a0 7 (by decide));have O:I A 2=I T 2:=fvI (a0 2 (by decide));have Z:I A 1=I T 1:=fvI (a0 1 (by decide));clear a0
  suffices hz:(B A 39=true->0<=I A 41/\I A 41 < I A 1)/\(B A 39=true->0<=I A 9/\I A 9 < I A 1)/\(B A 39=true->0<=I A 9/\I A 9 < I A 1)/\(B A 39=true->0<=I A 42/\I A 42 < I A 1)/\(B A 25=true->0<=I A 26/\I A 26 < I A 1)/\(B A 14=true->0<=I A 9/\I A 9 < I A 1)/\(B A 39=true->(wc T (I A 63) (L A 62)))/\(B A 39=true->((I A 63)).toNat < ((I A 9)).toNat) from
   let⟨r0,ax,aE,r3,r4,r5,nx,mz⟩:=hz;⟨⟨r0,ax,aE,r3,r4,r5,trivial⟩,fun v=>⟨nx v,mz v⟩⟩
  refine⟨?_,?_,?_,?_,?_,?_,?_,?_⟩
  .obtain⟨b,-,-,C,-,-,-,-,-,-,-,-,-,-,D,r,-⟩:=K;obtain⟨-,-,-,-,-,-,-,-,-,-,w,e,g,-,h,o,-⟩:=M;obtain⟨-,-,-,-,t,-⟩:=N;simp only[AE,AI,zR,w2P] at b C D r w e g h o t;obtain⟨X,Y,Q⟩:=F;intro v;have p:=g.1 v;have z:=b.1 (e.1 p.2).1;rw[O] at z;have x:(B T 7)=true:=by rw[<-V];exact p.1
   have W:=P x;have ab:=h (by omega) (by omega);have ad:=o (by omega) (by omega);rw[Z];omega
  .obtain⟨b,-,-,C,-,-,-,-,-,-,-,-,-,-,D,r,-⟩:=K;obtain⟨-,-,-,-,-,-,-,-,-,-,w,e,g,-,h,o,-⟩:=M;obtain⟨-,-,-,-,t,-⟩:=N;simp only[AE,AI,zR,w2P] at b C D r w e g h o t;obtain⟨X,Y,Q⟩:=F;intro v;have p:=g.1 v;have z:=b.1 (e.1 p.2).1;rw[O] at z;have x:(B T 7)=true:=by rw[<-V];exact p.1
   have W:=P x;have ab:=h (by omega) (by omega);have ad:=o (by omega) (by omega);rw[Z];omega
  .obtain⟨b,-,-,C,-,-,-,-,-,-,-,-,-,-,D,r,-⟩:=K;obtain⟨-,-,-,-,-,-,-,-,-,-,w,e,g,-,h,o,-⟩:=M;obtain⟨-,-,-,-,t,-⟩:=N;simp only[AE,AI,zR,w2P] at b C D r w e g h o t;obtain⟨X,Y,Q⟩:=F;intro v;have p:=g.1 v;have z:=b.1 (e.1 p.2).1;rw[O] at z;have x:(B T 7)=true:=by rw[<-V];exact p.1
   have W:=P x;have ab:=h (by omega) (by omega);have ad:=o (by omega) (by omega);rw[Z];omega
  .obtain⟨b,-,-,C,-,-,-,-,-,-,-,-,-,-,D,r,-⟩:=K;obtain⟨-,-,-,-,-,-,-,-,-,-,w,e,g,-,h,o,-⟩:=M;obtain⟨-,-,-,-,t,-⟩:=N;simp only[AE,AI,zR,w2P] at b C D r w e g h o t;obtain⟨X,Y,Q⟩:=F;intro v;have p:=g.1 v;have z:=b.1 (e.1 p.2).1;rw[O] at z;have x:(B T 7)=true:=by rw[<-V];exact p.1
   have W:=P x;have ab:=h (by omega) (by omega);have ad:=o (by omega) (by omega);rw[Z];omega
  .obtain⟨b,-,-,C,-,-,-,-,-,-,-,-,-,-,D,r,-⟩:=K;obtain⟨-,-,-,-,-,-,-,-,-,-,w,e,g,-,h,o,-⟩:=M;obtain⟨-,-,-,-,t,-⟩:=N;simp only[AE,AI,zR,w2P] at b C D r w e g h o t;obtain⟨X,Y,Q⟩:=F;intro v;have p:=D.1 v;have z:=b.1 p.2;rw[O] at z;have x:(B T 7)=true:=by rw[<-V];exact p.1
   have W:=P x;have cx:=r (by omega) (by omega);rw[Z];omega
  .obtain⟨b,-,-,C,-,-,-,-,-,-,-,-,-,-,D,r,-⟩:=K;obtain⟨-,-,-,-,-,-,-,-,-,-,w,e,g,-,h,o,-⟩:=M;obtain⟨-,-,-,-,t,-⟩:=N;simp only[AE,AI,zR,w2P] at b C D r w e g h o t;obtain⟨X,Y,Q⟩:=F;intro v;have p:=C.1 v;have z:=b.1 p.2;rw[O] at z;have x:(B T 7)=true:=by rw[<-V];exact p.1
   have W:=P x;rw[Z];omega
  .obtain⟨b,-,-,-,a8,-,a9,-,-,-,-,-,-,-,-,r,-⟩:=K;obtain⟨ba,-,bb,-,-,-,-,-,-,a2,w,e,g,-,h,o,-⟩:=M;obtain⟨bc,bi,bj,bl,bm,bs,bt,bx,b0,b1,b2,b3,b4,b5,b6,b7,-⟩:=F2;obtain⟨b8,ca,cb,cc,t,-⟩:=N;replace a2:I A 36=(if BV (I A 17) (I A 29)=0 then BV (I A 15) (I A 27) else BV (I A 17) (I A 29)):=a2;simp only[AE,AI,zR,w2P,zL,zS,uR,zW,zC] at b a8 a9 r ba bb w e g h o bc bi bj bl bm bs bt bx b0 b1 b2 b3 b4 b5 b6 b7 b8 ca cb cc t;obtain⟨X,Y,Q⟩:=F;intro v;have p:=g.1 v;have cf:=e.1 p.2;have z:=b.1 cf.1;rw[O] at z;have x:(B T 7)=true:=by rw[<-V];exact p.1
   have W:=P x;have cx:=r (by omega) (by omega);have ab:=h (by omega) (by omega);have ad:=o (by omega) (by omega);have cy:=t (by omega) (by omega);clear r h o t;obtain⟨z1,z2,z3,z4⟩:=Q x;obtain⟨au,ag,m3⟩:=MY (l:=L T 6) (c:=L A 10) (a:=(I T 2).toNat) (i:=(I T 5).toNat) (j:=(I A 9).toNat) (by omega) (by omega) (by omega) (by rw[show (I T 5).toNat - (I A 9).toNat=((I T 5) - (I A 9)).toNat by omega];exact z3);obtain⟨m4,m5⟩:=m3 (by omega);have hj:(I A 9).toNat < ((L A 10)).length:=by omega
   have ci:(I A 9).toNat - 1 < ((L A 10)).length:=by omega
   have hn:((I A 9) - 1).toNat=(I A 9).toNat - 1:=by omega
   have sj:=z2 _ (Az hj);have cv:=z2 _ (Az ci);have al:(L A 61)=((L A 10)).set (I A 9).toNat (((L A 10)).getD ((I A 9).toNat - 1) []):=by
    rw[cb,bc,bi,bj,bl,bm,bs,bt,bx,b0,ad,hn];exact Pb z2 hj cv
   have cs:∀u∈(L A 61),AK AD KB u:=by rw[al];exact C9 z2 cv
   have a3:(L A 62)=((L A 61)).set ((I A 9).toNat - 1) (((L A 10)).getD (I A 9).toNat []):=by
    rw[cc,b1,b2,b3,b4,b5,b6,b7,b8,ca,ab,hn];exact Pb cs (by rw[al,ud];exact ci) sj
   have c1:ltB (((L T 6)).getD (I T 5).toNat []) ((((((L T 6)).take (I T 5).toNat).drop (I T 2).toNat).reverse).getD ((I T 5).toNat - (I A 9).toNat) [])=true:=by
    rw[<-m4,<-ag];refine decide_eq_true ?_;have ce:=w.1 cf.2;rw[a2,a8,a9,ba,bb,cx,hn] at ce;exact ce
   refine⟨by omega,by omega,fun _=>⟨?_,?_,?_,fun q hq=>?_⟩⟩
   .rw[a3,al,ud,ud];exact z1
   .rw[a3];exact C9 cs sj
   .rw[a3,al,m5,cy,show ((I T 5) - ((I A 9) - 1)).toNat=(I T 5).toNat - ((I A 9).toNat - 1) by omega]
   .rcases Int.lt_or_le (q:Int) ((I T 5) - (I A 9)) with cl|cl
    .exact z4 q cl
    .obtain rfl:q=(I T 5).toNat - (I A 9).toNat:=by omega
     exact c1
  .obtain⟨b,-,-,C,-,-,-,-,-,-,-,-,-,-,D,r,-⟩:=K;obtain⟨-,-,-,-,-,-,-,-,-,-,w,e,g,-,h,o,-⟩:=M;obtain⟨-,-,-,-,t,-⟩:=N;simp only[AE,AI,zR,w2P] at b C D r w e g h o t;obtain⟨X,Y,Q⟩:=F;intro v;have z:=b.1 (e.1 (g.1 v).2).1;rw[O] at z;have cy:=t (by omega) (by omega);omega
theorem ZR (h:w7 T)(ao:w8 T)(c:AJ T (hds 5 [.i,.l]++DN [2,1,3] (AM (Ak 0 Ge.ks) HO)))(a:AU T (Ir.map En.be)):
  (AF T GT)/\((B T 7)=true->I T 5 < I T 3)/\((LI).owes (N5.map (Rf.eval T)))/\(wc T (I T 9) (L T 10))/\(¬B T 39=true)/\(AF T E4)/\(AF T Kh)/\AJ T (AM (AM (hds 9 [.i,.l]++(AM (hds 5 [.i,.l]++DN [2,1,3] (AM (Ak 0 Ge.ks) HO)) GT)) E4) Kh):=by
 unfold Ir at a;rw[ti,ti,ti] at a;have j:=a.left;replace a:=a.right;have k:=a.left;replace a:=a.right;have b:=a.left;replace a:=a.right;obtain⟨g,e⟩:=AN c (by kernel_rfl) j;have i:=iJ h ao g;obtain⟨v,o,t,u⟩:=lv h ao i e b k;have r:=(AN (o.append e) (l:=E4) (by kernel_rfl) b);obtain⟨p,c⟩:=r;clear j b k e o;obtain⟨q,s⟩:=AN c (by kernel_rfl) a;exact⟨g,i,v,t,u,p,q,s⟩
abbrev wd(T:Tab)(a:Int)(b:List (List U)):Prop:=(I T 2)+1<=a/\(a <=I T 3\/a=I T 2+1)/\b.length=I T 1/\(∀u∈b,AK AD KB u)/\b=AR ltB (L T 0) (I T 2).toNat a.toNat
theorem mQ (b0:∀u∈(L T 0),AK AD KB u)(b8:wZ T)(h4:(I T 4)=I T 2+1)(ci:(I T 1)<=140737488355328)(N:AJ T (AM (Ak 0 Ge.ks) HO))(K:AU T (Ir.map En.be))(M:AU T ((Ag Ng [.i,.l] Rl).map En.be)):
  (Ng).owes (Rl.map (Rf.eval T))/\AJ T (hds 5 [.i,.l])/\(wd T (I T 5) (L T 6))/\¬B T 40=true:=by
 refine HC (nh:=5) (k:=2) (pcn:=40) (aO:=65) (y:=Ir) (J:=Z8) (nxt:=[.e 64,.e 10]) (H:=[.e 4,.e 0]) (fv:=[2,1,3]) (R:=[.i,.l]) (by kernel_rfl) rfl rfl rfl rfl N (by kernel_rfl) K (Ai M) (fun s=>wd T (aI s 0) (aL s 1)) (fun s=>((I T 3) - (aI s 0)).toNat) ?_ ?_
 .show wd T (I T 4) (L T 0);clear N K M;rw[h4];exact⟨uf _,.inr rfl,b8.1,b0,by rw[show ((I T 2)+1).toNat=(I T 2).toNat+1 by omega,Ke (by omega)]⟩
 .intro A w a6 hE g;replace g:wd T (I A 5) (L A 6):=g;have E:I A 2=I T 2:=fvI (w 2 (by decide));have t:I A 1=I T 1:=fvI (w 1 (by decide));have F:I A 3=I T 3:=fvI (w 3 (by decide));clear w;clear N K M;have g1:0<=I A 2/\I A 2<=I A 3/\I A 2+1<=I A 5/\((I A 5)<=I A 3\/I A 5=I A 2+1)/\I A 3<=I A 1/\I A 1<=140737488355328:=by
   obtain⟨O,P,x,z,C⟩:=g;rw[E,t,F];omega
  have ao:((L A 6)).length=I A 1/\∀u∈(L A 6),AK AD KB u:=by
   obtain⟨O,P,x,z,C⟩:=g;rw[t];exact⟨x,z⟩
  obtain⟨Q,v,b7,b2,cs,b,V,a7⟩:=ZR g1 ao a6 hE;clear a6 hE;have hN:=Bp a7 (ar:=[.i,.l]) (rs:=[.e 64,.e 10]) (by kernel_rfl);clear a7;have W:=Q;clear Q;obtain⟨F1,b⟩:=b.cut;obtain⟨X,b⟩:=b.cut;obtain⟨F3,b⟩:=b.cut;have F4:=b;clear b;have Y:=V;clear V
  suffices hz:(B A 40=true->(wd T (I A 64) (L A 10)))/\(B A 40=true->((I T 3) - (I A 64)).toNat < ((I T 3) - (I A 5)).toNat) from
   let⟨nx,mz⟩:=hz;⟨hN,⟨(fun _=>b7),trivial⟩,fun e=>⟨nx e,mz e⟩⟩
  refine⟨?_,?_⟩
  .obtain⟨p,-⟩:=W;obtain⟨Z,-,-,-,ab,-,ad,-,-,-,-,-,-,-,-,al,-⟩:=F1;obtain⟨a0,-,a1,-,-,-,-,-,-,D,a2,a3,bi,h,-⟩:=X;obtain⟨o,-⟩:=Y;replace D:I A 36=(if BV (I A 17) (I A 29)=0 then BV (I A 15) (I A 27) else BV (I A 17) (I A 29)):=D;simp only[AE,AI,zN,zR,w2P,zL] at p Z ab ad al a0 a1 a2 a3 bi h o;obtain⟨O,P,x,z,C⟩:=g;obtain⟨aJ,w2,w3⟩:=b2;rw[E] at aJ w3;intro e;have r:=h.1 e;have v:=p.1 r.1;have ba:=o (by omega) (by omega);obtain⟨z1,z2,z3,z4⟩:=w3 r.1;have bx:(L A 10)=Uy ltB ((L A 6)) (I T 2).toNat (I A 5).toNat:=by
    rw[z3];refine Yk (l:=L A 6) (k:=((I A 5) - (I A 9)).toNat) (by omega) (by omega) (by omega) (fun q hq=>z4 q (by omega)) ?_;rcases Int.lt_or_le (I T 2) (I A 9) with h9|h9
    .refine .inr fun a8=>?_;obtain⟨au,ag,m3⟩:=MY (l:=L A 6) (c:=L A 10) (a:=(I T 2).toNat) (i:=(I A 5).toNat) (j:=(I A 9).toNat) (by omega) (by omega) (by omega) (by rw[show (I A 5).toNat - (I A 9).toNat=((I A 5) - (I A 9)).toNat by omega];exact z3);obtain⟨m4,m5⟩:=m3 (by omega);rw[show ((I A 5) - (I A 9)).toNat=(I A 5).toNat - (I A 9).toNat by omega,<-m4,<-ag] at a8;have ca:=al (by omega) (by omega);have bl:(I A 36) < 0:=by
      rw[D,ab,ad,a0,a1,ca,show ((I A 9) - 1).toNat=(I A 9).toNat - 1 by omega];exact of_decide_eq_true a8
     have bm:(B A 38)=true:=a3.2 ⟨Z.2 (by rw[E];exact h9),a2.2 bl⟩;have:=r.2;simp[bm] at this
    .exact .inl (by omega)
   refine⟨by omega,?_,by rw[<-t];exact z1,z2,?_⟩
   .rw[F] at v;left;omega
   .rw[bx,ba,show ((I A 5)+1).toNat=(I A 5).toNat+1 by omega,VY (by omega) (by rw[t] at*; omega),<-C]
  .obtain⟨p,-⟩:=W;obtain⟨-,-,-,-,-,-,-,-,-,-,-,-,-,h,-⟩:=X;obtain⟨o,-⟩:=Y;simp only[AE,AI,zN,zR,w2P] at p h o;obtain⟨O,P,x,z,C⟩:=g;intro e;have r:=h.1 e;have v:=p.1 r.1;rw[F] at v;have ba:=o (by omega) (by omega);omega
theorem ri (K:wY T)(J:∀u∈(L T 0),AK AD KB u)(N:0<=I T 1)(w:wZ T)(F:(I T 4)=I T 2+1)(H:(I T 1)<=140737488355328)(s:wd T (I T 5) (L T 6))(t:¬B T 40=true)(q:(B T 7)=true->I T 5 < I T 3)(M:wc T (I T 9) (L T 10))(v:¬B T 39=true)(E:w7 T)(ao:w8 T)(b:AF T HO)(c:AF T GT)(a:AF T E4)(e:AF T Kh):
  ((L T 6)=(AR ltB (L T 0) (I T 2).toNat (I T 3).toNat)):=by
 have y:=b;clear b;have o:=c;clear c;obtain⟨z,a⟩:=a.cut;obtain⟨p,a⟩:=a.cut;obtain⟨A,a⟩:=a.cut;have C:=a;clear a;have D:=e;clear e
 .obtain⟨j,-⟩:=o;obtain⟨-,-,-,-,-,-,-,-,-,-,-,-,g,i,-⟩:=p;simp only[AE,AI,zN,zR] at j g i;obtain⟨W,X,Y,Z,x⟩:=s;obtain⟨O,P,Q,V⟩:=w;have q:¬I T 5 < I T 3:=fun h=>by
   have l:=j.2 h;by_cases k:(B T 38)=true
   .exact v (g.2 ⟨l,k⟩)
   .exact t (i.2 ⟨l,by simpa using k⟩)
  rw[x];by_cases r:(I T 5)=I T 3
  .rw[r]
  .have h:(I T 5)=I T 2+1:=by omega
   rw[h,show ((I T 2)+1).toNat=(I T 2).toNat+1 by omega,Ke (by omega),Jf (by omega) (by omega)]
theorem pn:Ae Try.prog 144 Ge:=by
 refine Aq (l:=[(101,Lp)]) BU (by simp only[uA];exact⟨dN,fun _ h=>absurd h (by simp)⟩) rO (by kernel_rfl) fun T us M g c q X a=>?_;change us.length=4 at c;obtain⟨⟨j,ad⟩,⟨k,b⟩,-⟩:=X;replace j:(L T 0).length<=140737488355328:=j;have r:∀u∈(L T 0),AK AD KB u:=fun u hu=>by
  obtain⟨i,Y⟩:=uH.1 hu;exact ad i u Y
 replace k:0<=I T 1:=k;replace b:I T 1<=140737488355328:=b;have H:aL us 0=L T 0:=inL g c (by decide);have ab:aI us 1=I T 1:=inI g c (by decide);have J:aI us 2=I T 2:=inI g c (by decide);have K:aI us 3=I T 3:=inI g c (by decide);have v:((L T 0)).length=I T 1/\0<=I T 2/\I T 2<=I T 3/\I T 3<=I T 1:=by
  have h:=M (.s "insB.p0",IW) (by simp[Ge]);change IW us at h;unfold IW at h;simp only[H,ab,J,K] at h;exact h
 clear M;rw[ti,ti,ti] at a;have C:=a.left;replace a:=a.right;have D:=a.left;replace a:=a.right;have p:=a.left;replace a:=a.right;obtain⟨w,e⟩:=AN q (by kernel_rfl) C;have A:=jL j r k b v w;obtain⟨a2,E,t,a0⟩:=mQ r v A b e p D;have z:0<=I T 2/\I T 2<=I T 3/\I T 2+1<=I T 5/\((I T 5)<=I T 3\/I T 5=I T 2+1)/\I T 3<=I T 1/\I T 1<=140737488355328:=by
  have x:I T 2=I T 2:=rfl;have o:I T 1=I T 1:=rfl;have y:I T 3=I T 3:=rfl;have s:=t;obtain⟨v1,v2,N,O,v5⟩:=s;rw[x,o,y];omega
 have ao:((L T 6)).length=I T 1/\∀u∈(L T 6),AK AD KB u:=by
  have x:I T 2=I T 2:=rfl;have o:I T 1=I T 1:=rfl;have y:I T 3=I T 3:=rfl;have s:=t;obtain⟨v1,v2,N,O,v5⟩:=s;rw[o];exact⟨N,O⟩
 obtain⟨Q,W,a8,al,a1,P,V,F⟩:=ZR z ao (E.append (CM (fun _ _=>rfl) e)) p;have q:=F.append e;clear C p D e E F;obtain⟨A2,Z⟩:=At (R:=[.l]) (rs:=jH) q (by kernel_rfl) a;have q0:=ri j r k v A b t a0 W al a1 z ao w Q P V;refine⟨⟨(fun _=>a2),trivial⟩,Z.trans ?_⟩;exact (lc (by show U.list (L T 6)= .list (Lr us);unfold Lr;rw[H,J,K];exact vD U.list q0) rfl)
def Kw:List U->List (List U):=fun us=>(BZ (aL us 0) (swS (aI us 2).toNat (aI us 3).toNat (aI us 4).toNat))
def IT:List U->Prop:=fun us=>((aL us 0)).length=(aI us 1)/\0<=(aI us 2)/\0<=(aI us 4)/\(aI us 2)+(aI us 4)<=(aI us 3)/\(aI us 3)+(aI us 4)<=(aI us 1)
def Nw:AZ:={ sh:=[.one (k64),.one (k64),.one (k64),.cst (.fn (.func 101) [] [])],blks:=[],outs:=[(.s "swB.0",Cw Kw)],c:= .tup [],m':=[.mrow 5 1 [k64,k64,k64,.bool,.str,.str,.bool,k64,k64] 38],pre:=[(.s "swB.p0",IT)],row:=some ([k64,k64,k64,.bool,.str,.str,.bool,k64,k64],38) }
def dD:List En:=[]
def kL:List En:=[vO 7 5 4,
 vQ 8 7,
 vg 9 2 5,
 vg 10 3 5,
 vg 11 3 5,
 vU 12 6 11,
 vP 13 6 11,
 vR 14 6 11,
 vX 15 6 11,
 vV 16 6 11,
 vW 17 6 11,
 vY 18 6 11,
 vZ 19 6 11,
 vd 20 6 11,
 vg 21 2 5,
 vU 22 6 21]
def jF:List En:=[vP 23 6 21,
 vR 24 6 21,
 vX 25 6 21,
 vV 26 6 21,
 vW 27 6 21,
 vY 28 6 21,
 vZ 29 6 21,
 vd 30 6 21,
 ⟨31,.rset 0 [.i,.i,.i,.b,.s,.s,.b,.i,.i],[.e 6,.e 9,.e 12,.e 13,.e 14,.e 15,.e 16,.e 17,.e 18,.e 19,.e 20]⟩,
 ⟨32,.rset 0 [.i,.i,.i,.b,.s,.s,.b,.i,.i],[.e 31,.e 10,.e 22,.e 23,.e 24,.e 25,.e 26,.e 27,.e 28,.e 29,.e 30]⟩,
 ⟨33,.w2 .i64 .add,[.e 5,.c (.int 1)]⟩]
def Ii:List En:=kL++(jF)
def cL:List ObE:=[⟨some 7,.inr,[.e 10,.e 1]⟩,⟨some 7,.inr,[.e 9,.e 1]⟩,⟨some 7,.inr,[.e 21,.e 1]⟩,⟨some 7,.inr,[.e 11,.e 1]⟩]
def Qr:Ac:=mkD 5 2 Ii 7 [.e 33,.e 32] cL [2,3,4,1]
def Uw:List Rf:=[.e 2,.e 3,.e 4,.e 1,.c (.int 0),.e 0]
def qX:List En:=[]
def tR:List ObE:=[⟨none,.owes Qr,[.e 2,.e 3,.e 4,.e 1,.c (.int 0),.e 0]⟩]
def pO:List Rf:=[.e 6]
theorem tQ:Nw.sees pO (Nw.run Try.prog [] Aa 3000 20 150)=some ((dD++((Ag Qr [.i,.l] Uw)++(Ii++(qX)))).map En.be,tR.map ObE.be,[]):=by kernel_rfl
abbrev we(T:Tab)(a:Int)(b:List (List U)):Prop:=0<=a/\a <=I T 4/\b.length=I T 1/\(∀u∈b,AK AD KB u)/\b=BZ (L T 0) (swS (I T 2).toNat (I T 3).toNat a.toNat)
abbrev w9(T:Tab):Prop:=((L T 0)).length=I T 1/\0<=I T 2/\0<=I T 4/\I T 2+I T 4<=I T 3/\I T 3+I T 4<=I T 1
theorem qx (b2:∀u∈(L T 0),AK AD KB u)(ce:I T 1<=140737488355328)(o:w9 T)(hS:AJ T (AM (Ak 0 Nw.ks) dD))(Y:AU T (Ii.map En.be))(Z:AU T ((Ag Qr [.i,.l] Uw).map En.be)):
  (Qr).owes (Uw.map (Rf.eval T))/\AJ T (hds 5 [.i,.l])/\(we T (I T 5) (L T 6))/\¬B T 7=true:=by
 refine Ax (nh:=5) (k:=2) (pcn:=7) (aO:=34) (y:=Ii) (J:=cL) (nxt:=[.e 33,.e 32]) (H:=[.c (.int 0),.e 0]) (fv:=[2,3,4,1]) (R:=[.i,.l]) (by kernel_rfl) rfl rfl rfl rfl hS (by kernel_rfl) (by kernel_rfl) Y (Ai Z) (fun s=>we T (aI s 0) (aL s 1)) (fun s=>((I T 4) - (aI s 0)).toNat) ?_ ?_
 .show we T (0:Int) (L T 0);clear hS Y Z;exact⟨uf _,o.2.2.1,o.1,b2,qw.symm⟩
 .intro A x r l;replace l:we T (I A 5) (L A 6):=l;clear hS Y Z;replace r:AF A Ii:=r;obtain⟨p,r⟩:=r.cut;have F1:=r;clear r;have cb:I A 2=I T 2:=fvI (x 2 (by decide));have cc:I A 3=I T 3:=fvI (x 3 (by decide));have q:I A 4=I T 4:=fvI (x 4 (by decide));have ca:I A 1=I T 1:=fvI (x 1 (by decide));clear x
  suffices hz:(B A 7=true->0<=I A 10/\I A 10 < I A 1)/\(B A 7=true->0<=I A 9/\I A 9 < I A 1)/\(B A 7=true->0<=I A 21/\I A 21 < I A 1)/\(B A 7=true->0<=I A 11/\I A 11 < I A 1)/\(B A 7=true->(we T (I A 33) (L A 32)))/\(B A 7=true->((I T 4) - (I A 33)).toNat < ((I T 4) - (I A 5)).toNat) from
   let⟨r0,ax,aE,r3,nx,mz⟩:=hz;⟨⟨r0,ax,aE,r3,trivial⟩,fun h=>⟨nx h,mz h⟩⟩
  refine⟨?_,?_,?_,?_,?_,?_⟩
  .obtain⟨g,-,e,a,b,-,-,-,-,-,-,-,-,-,c,-⟩:=p;simp only[AE,zR,w2P] at g e a b c;obtain⟨N,P,t,j,v⟩:=l;obtain⟨z,D,F,K,M⟩:=o;intro h;have i:=g.1 h;rw[q] at i;have zz:True:=by have _:=e;have _:=a;have _:=b;have _:=c;trivial
   have X:=e (by omega) (by omega);have Q:=a (by omega) (by omega);have V:=b (by omega) (by omega);have W:=c (by omega) (by omega);omega
  .obtain⟨g,-,e,a,b,-,-,-,-,-,-,-,-,-,c,-⟩:=p;simp only[AE,zR,w2P] at g e a b c;obtain⟨N,P,t,j,v⟩:=l;obtain⟨z,D,F,K,M⟩:=o;intro h;have i:=g.1 h;rw[q] at i;have zz:True:=by have _:=e;have _:=a;have _:=b;have _:=c;trivial
   have X:=e (by omega) (by omega);have Q:=a (by omega) (by omega);have V:=b (by omega) (by omega);have W:=c (by omega) (by omega);omega
  .obtain⟨g,-,e,a,b,-,-,-,-,-,-,-,-,-,c,-⟩:=p;simp only[AE,zR,w2P] at g e a b c;obtain⟨N,P,t,j,v⟩:=l;obtain⟨z,D,F,K,M⟩:=o;intro h;have i:=g.1 h;rw[q] at i;have zz:True:=by have _:=e;have _:=a;have _:=b;have _:=c;trivial
   have X:=e (by omega) (by omega);have Q:=a (by omega) (by omega);have V:=b (by omega) (by omega);have W:=c (by omega) (by omega);omega
  .obtain⟨g,-,e,a,b,-,-,-,-,-,-,-,-,-,c,-⟩:=p;simp only[AE,zR,w2P] at g e a b c;obtain⟨N,P,t,j,v⟩:=l;obtain⟨z,D,F,K,M⟩:=o;intro h;have i:=g.1 h;rw[q] at i;have zz:True:=by have _:=e;have _:=a;have _:=b;have _:=c;trivial
   have X:=e (by omega) (by omega);have Q:=a (by omega) (by omega);have V:=b (by omega) (by omega);have W:=c (by omega) (by omega);omega
  .obtain⟨g,-,e,a,b,al,ao,a0,a1,a2,a3,a4,a5,a6,c,a7,-⟩:=p;obtain⟨a8,a9,ba,bb,bc,bi,bj,bl,bm,bs,w,-⟩:=F1;simp only[AE,zR,w2P,zL,zS,uR,zW,AI,zC] at g e a b al ao a0 a1 a2 a3 a4 a5 a6 c a7 a8 a9 ba bb bc bi bj bl bm bs w;obtain⟨N,P,t,j,v⟩:=l;obtain⟨z,D,F,K,M⟩:=o;intro h;have i:=g.1 h;rw[q] at i;have X:=e (by omega) (by omega);have Q:=a (by omega) (by omega);have V:=b (by omega) (by omega);have W:=c (by omega) (by omega);have b8:=w (by omega) (by omega);have jA:(I T 2).toNat+(I A 5).toNat < ((L A 6)).length:=by omega
   have jB:(I T 3).toNat+(I A 5).toNat < ((L A 6)).length:=by omega
   have sA:=j _ (Az jA);have sB:=j _ (Az jB);have C:(L A 31)=((L A 6)).set ((I T 2).toNat+(I A 5).toNat) (((L A 6)).getD ((I T 3).toNat+(I A 5).toNat) []):=by
    rw[bm,al,ao,a0,a1,a2,a3,a4,a5,a6,show (I A 11).toNat=(I T 3).toNat+(I A 5).toNat by omega,show (I A 9).toNat=(I T 2).toNat+(I A 5).toNat by omega];exact Pb j jA sB
   have k1:∀u∈(L A 31),AK AD KB u:=by rw[C];exact C9 j sB
   have O:(L A 32)=((L A 31)).set ((I T 3).toNat+(I A 5).toNat) (((L A 6)).getD ((I T 2).toNat+(I A 5).toNat) []):=by
    rw[bs,a7,a8,a9,ba,bb,bc,bi,bj,bl,show (I A 21).toNat=(I T 2).toNat+(I A 5).toNat by omega,show (I A 10).toNat=(I T 3).toNat+(I A 5).toNat by omega];exact Pb k1 (by rw[C,ud];exact jB) sA
   have E:∀u∈(L A 32),AK AD KB u:=by rw[O];exact C9 k1 sA
   have ay:((L A 32)).length=((L A 6)).length:=by rw[O,C,ud,ud]
   refine⟨by omega,by omega,by rw[ay];exact t,E,?_⟩;rw[O,C,qV v (by omega) (by omega),show (I A 33).toNat=(I A 5).toNat+1 by omega]
  .obtain⟨g,-⟩:=p;obtain⟨-,-,-,-,-,-,-,-,-,-,w,-⟩:=F1;simp only[AE,zR,w2P] at g w;obtain⟨N,P,t,j,v⟩:=l;obtain⟨z,D,F,K,M⟩:=o;intro h;have i:=g.1 h;rw[q] at i;have b8:=w (by omega) (by omega);omega
theorem tI (p:wY T)(o:∀u∈(L T 0),AK AD KB u)(q:0<=I T 1)(l:I T 1<=140737488355328)(r:w9 T)(e:we T (I T 5) (L T 6))(g:¬B T 7=true)(a:AF T Ii):
  ((L T 6)=(BZ (L T 0) (swS (I T 2).toNat (I T 3).toNat (I T 4).toNat))):=by
 obtain⟨c,a⟩:=a.cut;have j:=a;clear a
 .obtain⟨b,-⟩:=c;simp only[AE,zR] at b;obtain⟨s,t,v,w,i⟩:=e;have k:¬I T 5 < I T 4:=fun h=>g (b.2 h);rw[i,show (I T 5)=(I T 4) by omega]
theorem sP:Ae Try.prog 150 Nw:=by
 refine Aq (l:=[]) BU (by intro p h;exact absurd h (by simp)) tQ (by kernel_rfl) fun T us A c b j E a=>?_;change us.length=5 at b;obtain⟨⟨o,K⟩,⟨q,e⟩,-⟩:=E;replace o:(L T 0).length<=140737488355328:=o;have z:∀u∈(L T 0),AK AD KB u:=fun u M=>by
  obtain⟨i,Y⟩:=uH.1 M;exact K i u Y
 replace q:0<=I T 1:=q;replace e:I T 1<=140737488355328:=e;have v:aL us 0=L T 0:=inL c b (by decide);have J:aI us 1=I T 1:=inI c b (by decide);have w:aI us 2=I T 2:=inI c b (by decide);have x:aI us 3=I T 3:=inI c b (by decide);have y:aI us 4=I T 4:=inI c b (by decide);have C:((L T 0)).length=I T 1/\0<=I T 2/\0<=I T 4/\I T 2+I T 4<=I T 3/\I T 3+I T 4<=I T 1:=by
  have h:=A (.s "swB.p0",IT) (by simp[Nw]);change IT us at h;unfold IT at h;simp only[v,J,w,x,y] at h;exact h
 clear A;rw[ti,ti,ti] at a;have r:=a.left;replace a:=a.right;have s:=a.left;replace a:=a.right;have g:=a.left;replace a:=a.right;obtain⟨V,k⟩:=AN j (by kernel_rfl) r;obtain⟨P,t,N,O⟩:=qx z e C k g s;have F:=(AN (t.append k) (l:=Ii) (by kernel_rfl) g);obtain⟨D,j⟩:=F;clear r g s k t;obtain⟨W,H⟩:=At (R:=[.l]) (rs:=pO) j (by kernel_rfl) a;have Q:=tI o z q e C N O D;refine⟨⟨(fun _=>P),trivial⟩,H.trans ?_⟩;exact (lc (by show U.list (L T 6)= .list (Kw us);unfold Kw;rw[v,w,x,y];exact vD U.list Q) rfl)
def O6:List U->List (List U):=fun us=>(BZ (aL us 0) (rtS (aI us 2).toNat (aI us 3).toNat (aI us 4).toNat))
def Le:List U->Prop:=fun us=>((aL us 0)).length=(aI us 1)/\0<=(aI us 2)/\(aI us 2) < (aI us 3)/\(aI us 3) < (aI us 4)/\(aI us 4)<=(aI us 1)
def Lf:AZ:={ sh:=[.one (k64),.one (k64),.one (k64),.cst (.fn (.func 101) [] [])],blks:=[],outs:=[(.s "rotB.0",Cw O6)],c:= .tup [],m':=[.mrow 5 1 [k64,k64,k64,.bool,.str,.str,.bool,k64,k64] 38],pre:=[(.s "rotB.p0",Le)],row:=some ([k64,k64,k64,.bool,.str,.str,.bool,k64,k64],38) }
def fH:List En:=[vi 5 3 2,
 vi 6 4 3]
def O7:List En:=fH
def fP:List En:=[⟨10,.ne,[.e 8,.e 7]⟩,
 vQ 11 10,
 vO 12 7 8,
 vK 13 10 12,
 vi 14 3 8,
 ⟨15,.outL "swB.0" Kw,[.e 9,.e 1,.e 14,.e 3,.e 7]⟩,
 vi 16 8 7,
 vM 17 10 12,
 vi 18 3 8,
 vg 19 3 7,
 vi 20 19 8,
 ⟨21,.outL "swB.0" Kw,[.e 9,.e 1,.e 18,.e 20,.e 8]⟩,
 vi 22 7 8,
 vf 23 12 15 21,
 ve 24 12 7 22,
 ve 25 12 16 8]
def G8:List En:=fP
def XU:List ObE:=[⟨some 17,.pre "swB.p0" IT,[.e 9,.e 1,.e 18,.e 20,.e 8]⟩,⟨some 13,.pre "swB.p0" IT,[.e 9,.e 1,.e 14,.e 3,.e 7]⟩]
def Nl:Ac:=mkD 7 3 G8 10 [.e 24,.e 25,.e 23] XU [1,3]
def SM:List Rf:=[.e 1,.e 3,.e 6,.e 5,.e 0]
def eM:List En:=[vi 26 3 8,
 ⟨27,.outL "swB.0" Kw,[.e 9,.e 1,.e 26,.e 3,.e 8]⟩]
def aF:List En:=eM
def sF:List ObE:=[⟨some 11,.pre "swB.p0" IT,[.e 9,.e 1,.e 26,.e 3,.e 8]⟩,
 ⟨none,.owes Nl,[.e 1,.e 3,.e 6,.e 5,.e 0]⟩]
def iF:List Rf:=[.e 27]
theorem sr:Lf.sees iF (Lf.run Try.prog [(150,Nw)] Aa 3000 20 148)=some ((O7++((Ag Nl [.i,.i,.l] SM)++(G8++(aF)))).map En.be,sF.map ObE.be,[]):=by kernel_rfl
abbrev xa(T:Tab):Prop:=((L T 0)).length=I T 1/\0<=I T 2/\I T 2 < I T 3/\I T 3 < I T 4/\I T 4<=I T 1
theorem ii (k:wY T)(j:∀u∈(L T 0),AK AD KB u)(l:0<=I T 1)(i:I T 1<=140737488355328)(o:xa T)(a:AF T O7):
  ((I T 5)=I T 3 - (I T 2))/\((I T 6)=I T 4 - (I T 3)):=by
 have b:=a;clear a;have g:(I T 5)=I T 3 - (I T 2):=by
  obtain⟨c,-⟩:=b;simp only[AE,zR,w2P] at c;exact c (by omega) (by omega)
 have h:(I T 6)=I T 4 - (I T 3):=by
  obtain⟨-,e,-⟩:=b;simp only[AE,zR,w2P] at e;exact e (by omega) (by omega)
 exact⟨g,h⟩
abbrev wg(T:Tab)(a:Int)(b:Int)(c:List (List U)):Prop:=1<=a/\1<=b/\b <=I T 3 - (I T 2)/\a <=I T 4 - (I T 3)/\c.length=I T 1/\BZ c (rtS ((I T 3).toNat -b.toNat) (I T 3).toNat ((I T 3).toNat+a.toNat))=BZ (L T 0) (rtS (I T 2).toNat (I T 3).toNat (I T 4).toNat)
theorem mI (bb:I T 1<=140737488355328)(x:xa T)(x5:(I T 5)=I T 3 - (I T 2))(x6:(I T 6)=I T 4 - (I T 3))(Z:AJ T (AM (Ak 0 Lf.ks) O7))(X:AU T (G8.map En.be))(Y:AU T ((Ag Nl [.i,.i,.l] SM).map En.be)):
  (Nl).owes (SM.map (Rf.eval T))/\AJ T (hds 7 [.i,.i,.l])/\(wg T (I T 7) (I T 8) (L T 9))/\¬B T 10=true:=by
 refine Ax (nh:=7) (k:=3) (pcn:=10) (aO:=26) (y:=G8) (J:=XU) (nxt:=[.e 24,.e 25,.e 23]) (H:=[.e 6,.e 5,.e 0]) (fv:=[1,3]) (R:=[.i,.i,.l]) (by kernel_rfl) rfl rfl rfl rfl Z (by kernel_rfl) (by kernel_rfl) X (Ai Y) (fun s=>wg T (aI s 0) (aI s 1) (aL s 2)) (fun s=>((aI s 0)+(aI s 1)).toNat) ?_ ?_
 .show wg T (I T 6) (I T 5) (L T 0);clear Z X Y;obtain⟨w,K,M,N,O⟩:=x;exact⟨by omega,by omega,by omega,by omega,w,by rw[show (I T 3).toNat - (I T 5).toNat=(I T 2).toNat by omega,show (I T 3).toNat+(I T 6).toNat=(I T 4).toNat by omega]⟩
 .intro A ab F i;replace i:wg T (I A 7) (I A 8) (L A 9):=i;clear Z X Y;replace F:AF A G8:=F;have C:=F;clear F;have ao:I A 1=I T 1:=fvI (ab 1 (by decide));have a0:I A 3=I T 3:=fvI (ab 3 (by decide));clear ab
  suffices hz:(B A 17=true->((L A 9)).length=I A 1/\0<=I A 18/\0<=I A 8/\I A 18+I A 8<=I A 20/\I A 20+I A 8<=I A 1)/\(B A 13=true->((L A 9)).length=I A 1/\0<=I A 14/\0<=I A 7/\I A 14+I A 7<=I A 3/\I A 3+I A 7<=I A 1)/\(B A 10=true->(wg T (I A 24) (I A 25) (L A 23)))/\(B A 10=true->((I A 24)+I A 25).toNat < ((I A 7)+I A 8).toNat) from
   let⟨r0,ax,nx,mz⟩:=hz;⟨⟨r0,ax,trivial⟩,fun c=>⟨nx c,mz c⟩⟩
  refine⟨?_,?_,?_,?_⟩
  .obtain⟨e,-,b,-,-,-,-,ag,o,p,q,-⟩:=C;simp only[AE,AI,zN,zR,w2P] at e b ag o p q;obtain⟨P,Q,V,W,g,z⟩:=i;obtain⟨w,K,M,N,O⟩:=x;intro c;obtain⟨v,a⟩:=ag.1 c;have v:=e.1 v;have h:¬I A 7 < I A 8:=fun h=>by rw[b.2 h] at a;cases a
   have a7:=o (by omega) (by omega);have a8:=p (by omega) (by omega);have a9:=q (by omega) (by omega);rw[ao];refine⟨g,?_⟩;omega
  .obtain⟨-,-,b,ad,j,-⟩:=C;simp only[AE,AI,zR,w2P] at b ad j;obtain⟨P,Q,V,W,g,z⟩:=i;obtain⟨w,K,M,N,O⟩:=x;intro c;obtain⟨v,a⟩:=ad.1 c;have h:=b.1 a;have a5:=j (by omega) (by omega);rw[ao];refine⟨g,?_⟩;omega
  .obtain⟨e,-,b,-,j,D,l,-,o,p,q,E,r,al,t,u,-⟩:=C;replace D:L A 15=(BZ (L A 9) (swS (I A 14).toNat (I A 3).toNat (I A 7).toNat)):=D;replace E:L A 21=(BZ (L A 9) (swS (I A 18).toNat (I A 20).toNat (I A 8).toNat)):=E;simp only[AE,AI,zR,w2P,zL,zS] at e b j l o p q r al t u;obtain⟨P,Q,V,W,g,z⟩:=i;obtain⟨w,K,M,N,O⟩:=x;intro c;have v:=e.1 c;have a5:=j (by omega) (by omega);have a6:=l (by omega) (by omega);have a7:=o (by omega) (by omega);have a8:=p (by omega) (by omega);have a9:=q (by omega) (by omega);have ba:=r (by omega) (by omega);rw[al,t,u];by_cases a:(B A 12)=true
   .rw[vC a,vC a,vC a];have h:=b.1 a;refine⟨P,by omega,by omega,W,by rw[D,FF];exact g,?_⟩;rw[D,a0,<-z,show (I A 14).toNat=(I T 3).toNat - (I A 8).toNat by omega,show (I A 16).toNat=(I A 8).toNat - (I A 7).toNat by omega];exact sm (by omega) (by omega) (by omega)
   .rw[vA a,vA a,vA a];have h:¬I A 7 < I A 8:=fun h=>a (b.2 h);refine⟨by omega,Q,V,by omega,by rw[E,FF];exact g,?_⟩;rw[E,<-z,show (I A 18).toNat=(I T 3).toNat - (I A 8).toNat by omega,show (I A 20).toNat=(I T 3).toNat+(I A 7).toNat - (I A 8).toNat by omega,show (I A 22).toNat=(I A 7).toNat - (I A 8).toNat by omega];exact rN (by omega) (by omega) (by omega)
  .obtain⟨e,-,b,-,-,-,l,-,-,-,-,-,r,-,t,u,-⟩:=C;simp only[AE,AI,zR,w2P,zL,zS] at e b l r t u;obtain⟨P,Q,V,W,g,z⟩:=i;obtain⟨w,K,M,N,O⟩:=x;intro c;have v:=e.1 c;have a6:=l (by omega) (by omega);have ba:=r (by omega) (by omega);rw[t,u];by_cases a:(B A 12)=true
   .rw[vC a,vC a];have h:=b.1 a;omega
   .rw[vA a,vA a];have h:¬I A 7 < I A 8:=fun h=>a (b.2 h);omega
theorem sN (J:wY T)(H:∀u∈(L T 0),AK AD KB u)(M:0<=I T 1)(F:I T 1<=140737488355328)(p:xa T)(N:(I T 5)=I T 3 - (I T 2))(O:(I T 6)=I T 4 - (I T 3))(l:wg T (I T 7) (I T 8) (L T 9))(o:¬B T 10=true)(e:AF T O7)(i:AF T G8)(g:AF T aF):
  ((L T 27)=(BZ (L T 0) (rtS (I T 2).toNat (I T 3).toNat (I T 4).toNat)))/\
  (B T 11=true->((L T 9)).length=I T 1/\0<=I T 26/\0<=I T 8/\I T 26+I T 8<=I T 3/\I T 3+I T 8<=I T 1):=by
 have E:=e;clear e;have j:=i;clear i;have k:=g;clear g;refine⟨?_,?_⟩
 .obtain⟨a,-⟩:=j;obtain⟨b,c,-⟩:=k;replace c:L T 27=(BZ (L T 9) (swS (I T 26).toNat (I T 3).toNat (I T 8).toNat)):=c;simp only[AE,zR,w2P] at a b;obtain⟨y,z,A,C,q,r⟩:=l;obtain⟨s,t,v,w,x⟩:=p;have h:(I T 8)=I T 7:=by
   by_cases h:(I T 8)=I T 7
   .exact h
   .exact absurd (a.2 h) o
  have D:=b (by omega) (by omega);rw[c,<-r,h,show (I T 26).toNat=(I T 3).toNat - (I T 7).toNat by omega];exact sc (by omega) (by omega)
 .obtain⟨a,-⟩:=j;obtain⟨b,-⟩:=k;simp only[AE,zR,w2P] at a b;obtain⟨y,z,A,C,q,r⟩:=l;obtain⟨s,t,v,w,x⟩:=p;intro K;have h:(I T 8)=I T 7:=by
   by_cases h:(I T 8)=I T 7
   .exact h
   .exact absurd (a.2 h) o
  have D:=b (by omega) (by omega);refine⟨q,?_⟩;omega
theorem rH:Ae Try.prog 148 Lf:=by
 refine Aq (l:=[(150,Nw)]) BU (by simp only[uA];exact⟨sP,fun _ h=>absurd h (by simp)⟩) sr (by kernel_rfl) fun T us C c b o J a=>?_;change us.length=5 at b;obtain⟨⟨g,O⟩,⟨j,e⟩,-⟩:=J;replace g:(L T 0).length<=140737488355328:=g;have A:∀u∈(L T 0),AK AD KB u:=fun u P=>by
  obtain⟨i,Y⟩:=uH.1 P;exact O i u Y
 replace j:0<=I T 1:=j;replace e:I T 1<=140737488355328:=e;have w:aL us 0=L T 0:=inL c b (by decide);have N:aI us 1=I T 1:=inI c b (by decide);have x:aI us 2=I T 2:=inI c b (by decide);have y:aI us 3=I T 3:=inI c b (by decide);have z:aI us 4=I T 4:=inI c b (by decide);have q:((L T 0)).length=I T 1/\0<=I T 2/\I T 2 < I T 3/\I T 3 < I T 4/\I T 4<=I T 1:=by
  have h:=C (.s "rotB.p0",Le) (by simp[Lf]);change Le us at h;unfold Le at h;simp only[w,N,x,y,z] at h;exact h
 clear C;rw[ti,ti,ti] at a;have s:=a.left;replace a:=a.right;have t:=a.left;replace a:=a.right;have k:=a.left;replace a:=a.right;obtain⟨r,p⟩:=AN o (by kernel_rfl) s;obtain⟨D,E⟩:=ii g A j e q r;obtain⟨W,v,Q,V⟩:=mI e q D E p k t;have K:=(AN (v.append p) (l:=G8) (by kernel_rfl) k);obtain⟨H,o⟩:=K;clear s k t p v;obtain⟨F,M⟩:=At (R:=[.l]) (rs:=iF) o (by kernel_rfl) a;obtain⟨X,Z⟩:=sN g A j e q D E Q V r H F;refine⟨⟨Z,(fun _=>W),trivial⟩,M.trans ?_⟩;exact (lc (by show U.list (L T 27)= .list (O6 us);unfold O6;rw[w,x,y,z];exact vD U.list X) rfl)
end
section
open Go Go.Eng Go.Proofs
set_option maxHeartbeats 4000000
set_option maxRecDepth 100000
variable {d:Nat}
def G6:List U->List (List U):=fun us=>(AR ltB (aL us 0) (aI us 2).toNat (aI us 4).toNat)
def Eu (d:Nat):List U->Prop:=fun us=>(aI us 4).toNat - (aI us 2).toNat < d/\((aL us 0)).length=(aI us 1)/\0<=(aI us 2)/\(aI us 2) < (aI us 3)/\(aI us 3) < (aI us 4)/\(aI us 4)<=(aI us 1)/\Srt ltB (seg (aL us 0) (aI us 2).toNat (aI us 3).toNat)/\Srt ltB (seg (aL us 0) (aI us 3).toNat (aI us 4).toNat)/\Dst ltB (seg (aL us 0) (aI us 2).toNat (aI us 4).toNat)
def DW (d:Nat):AZ:={ sh:=[.one (k64),.one (k64),.one (k64),.cst (.fn (.func 101) [] [])],blks:=[],outs:=[(.s "symB.0",Cw G6)],c:= .tup [],m':=[.mrow 5 1 [k64,k64,k64,.bool,.str,.str,.bool,k64,k64] 38],pre:=[(.s "symB.p0",Eu d)],row:=some ([k64,k64,k64,.bool,.str,.str,.bool,k64,k64],38) }
def nV:List Rf:=[.e 15,.e 16,.e 17,.e 18,.e 19,.e 20,.e 21,.e 22,.e 23,.e 24,.e 25,.e 26,.e 27,.e 28,.e 29,.e 30,.e 31,.e 32]
def og:List Rf:=[.e 81,.e 82,.e 83,.e 84,.e 85,.e 86,.e 87,.e 88,.e 89,.e 90,.e 91,.e 92,.e 93,.e 94,.e 95,.e 96,.e 97,.e 98]
def ng:List Rf:=[.e 155,.e 156,.e 157,.e 158,.e 159,.e 160,.e 161,.e 162,.e 163,.e 164,.e 165,.e 166,.e 167,.e 168,.e 169,.e 170,.e 171,.e 172]
def dr:List En:=[vi 5 3 2,
 ⟨6,.eq,[.e 5,.c (.int 1)]⟩]
def EJ:List En:=dr
def dW:List En:=[vO 9 8 7,
 vK 10 6 9,
 vM 11 6 9,
 vg 12 8 7,
 ⟨13,.w1 .u64,[.e 12]⟩,
 ⟨14,.o2 .div,[.e 13,.c (.int 2)]⟩,
 vU 15 0 14,
 vP 16 0 14,
 vR 17 0 14,
 vX 18 0 14,
 vV 19 0 14,
 vW 20 0 14,
 vY 21 0 14,
 vZ 22 0 14,
 vd 23 0 14,
 vU 24 0 2]
def gY:List En:=[vP 25 0 2,
 vR 26 0 2,
 vX 27 0 2,
 vV 28 0 2,
 vW 29 0 2,
 vY 30 0 2,
 vZ 31 0 2,
 vd 32 0 2,
 ⟨33,.outI "cmpB.0" G9,nV⟩,
 ⟨34,.lt,[.e 33,.c (.int 0)]⟩,
 vK 35 10 34,
 ⟨36,.w2 .i64 .add,[.e 14,.c (.int 1)]⟩,
 vM 37 10 34,
 ve 38 34 7 14,
 ve 39 34 36 8]
def Ck:List En:=dW++(gY)
def Ya:List ObE:=[⟨some 10,.inr,[.e 2,.e 1]⟩,⟨some 10,.inr,[.e 14,.e 1]⟩]
def Nn:Ac:=mkD 7 2 Ck 10 [.e 38,.e 39] Ya [0,2,6,1]
def Ro:List Rf:=[.e 0,.e 2,.e 6,.e 1,.e 4,.e 3]
def Lg:List En:=[]
def gb:List En:=[⟨42,.w2 .i64 .sub,[.e 8,.c (.int 1)]⟩,
 vO 43 40 42,
 vK 44 11 43,
 vM 45 11 43,
 ⟨46,.w2 .i64 .add,[.e 40,.c (.int 1)]⟩,
 ⟨47,.w2 .i64 .add,[.e 40,.c (.int 1)]⟩,
 vU 48 41 47,
 vP 49 41 47,
 vR 50 41 47,
 vX 51 41 47,
 vV 52 41 47,
 vW 53 41 47,
 vY 54 41 47,
 vZ 55 41 47,
 vd 56 41 47,
 vU 57 41 40]
def gi:List En:=[vP 58 41 40,
 vR 59 41 40,
 vX 60 41 40,
 vV 61 41 40,
 vW 62 41 40,
 vY 63 41 40,
 vZ 64 41 40,
 vd 65 41 40,
 ⟨66,.rset 0 [.i,.i,.i,.b,.s,.s,.b,.i,.i],[.e 41,.e 40,.e 48,.e 49,.e 50,.e 51,.e 52,.e 53,.e 54,.e 55,.e 56]⟩,
 ⟨67,.rset 0 [.i,.i,.i,.b,.s,.s,.b,.i,.i],[.e 66,.e 46,.e 57,.e 58,.e 59,.e 60,.e 61,.e 62,.e 63,.e 64,.e 65]⟩,
 ⟨68,.w2 .i64 .add,[.e 40,.c (.int 1)]⟩]
def DT:List En:=gb++(gi)
def Zo:List ObE:=[⟨some 44,.inr,[.e 46,.e 1]⟩,⟨some 44,.inr,[.e 40,.e 1]⟩,⟨some 44,.inr,[.e 40,.e 1]⟩,⟨some 44,.inr,[.e 47,.e 1]⟩]
def OK:Ac:=mkD 40 2 DT 44 [.e 68,.e 67] Zo [11,8,1]
def R7:List Rf:=[.e 11,.e 8,.e 1,.e 2,.e 0]
def gG:List En:=[vQ 69 6,
 vi 70 4 3,
 ⟨71,.eq,[.e 70,.c (.int 1)]⟩,
 vK 72 69 71]
def HM:List En:=gG
def gf:List En:=[vO 75 74 73,
 vK 76 72 75,
 vM 77 72 75,
 vg 78 74 73,
 ⟨79,.w1 .u64,[.e 78]⟩,
 ⟨80,.o2 .div,[.e 79,.c (.int 2)]⟩,
 vU 81 0 3,
 vP 82 0 3,
 vR 83 0 3,
 vX 84 0 3,
 vV 85 0 3,
 vW 86 0 3,
 vY 87 0 3,
 vZ 88 0 3,
 vd 89 0 3,
 vU 90 0 80]
def eQ:List En:=[vP 91 0 80,
 vR 92 0 80,
 vX 93 0 80,
 vV 94 0 80,
 vW 95 0 80,
 vY 96 0 80,
 vZ 97 0 80,
 vd 98 0 80,
 ⟨99,.outI "cmpB.0" G9,og⟩,
 ⟨100,.lt,[.e 99,.c (.int 0)]⟩,
 vK 101 76 100,
 vM 102 76 100,
 ⟨103,.w2 .i64 .add,[.e 80,.c (.int 1)]⟩,
 ve 104 100 80 73,
 ve 105 100 74 103]
def Dq:List En:=gf++(eQ)
def aC:List ObE:=[⟨some 76,.inr,[.e 80,.e 1]⟩,⟨some 76,.inr,[.e 3,.e 1]⟩]
def Nq:Ac:=mkD 73 2 Dq 76 [.e 104,.e 105] aC [0,3,72,1]
def SK:List Rf:=[.e 0,.e 3,.e 72,.e 1,.e 3,.e 2]
def SY:List En:=[]
def eJ:List En:=[vO 108 74 106,
 vK 109 77 108,
 vM 110 77 108,
 ⟨111,.w2 .i64 .sub,[.e 106,.c (.int 1)]⟩,
 ⟨112,.w2 .i64 .sub,[.e 106,.c (.int 1)]⟩,
 vU 113 107 112,
 vP 114 107 112,
 vR 115 107 112,
 vX 116 107 112,
 vV 117 107 112,
 vW 118 107 112,
 vY 119 107 112,
 vZ 120 107 112,
 vd 121 107 112,
 vU 122 107 106,
 vP 123 107 106]
def fX:List En:=[vR 124 107 106,
 vX 125 107 106,
 vV 126 107 106,
 vW 127 107 106,
 vY 128 107 106,
 vZ 129 107 106,
 vd 130 107 106,
 ⟨131,.rset 0 [.i,.i,.i,.b,.s,.s,.b,.i,.i],[.e 107,.e 106,.e 113,.e 114,.e 115,.e 116,.e 117,.e 118,.e 119,.e 120,.e 121]⟩,
 ⟨132,.rset 0 [.i,.i,.i,.b,.s,.s,.b,.i,.i],[.e 131,.e 111,.e 122,.e 123,.e 124,.e 125,.e 126,.e 127,.e 128,.e 129,.e 130]⟩,
 ⟨133,.w2 .i64 .sub,[.e 106,.c (.int 1)]⟩]
def FB:List En:=eJ++(fX)
def Zu:List ObE:=[⟨some 109,.inr,[.e 111,.e 1]⟩,⟨some 109,.inr,[.e 106,.e 1]⟩,⟨some 109,.inr,[.e 106,.e 1]⟩,⟨some 109,.inr,[.e 112,.e 1]⟩]
def Nx:Ac:=mkD 106 2 FB 109 [.e 133,.e 132] Zu [77,74,1]
def SB:List Rf:=[.e 77,.e 74,.e 1,.e 3,.e 0]
def fy:List En:=[vM 134 69 71,
 vg 135 2 4,
 ⟨136,.w1 .u64,[.e 135]⟩,
 ⟨137,.o2 .div,[.e 136,.c (.int 2)]⟩,
 vg 138 137 3,
 vO 139 137 3,
 vK 140 134 139,
 vi 141 138 4,
 vM 142 134 139,
 ve 143 139 137 3,
 ve 144 139 141 2,
 ⟨145,.w2 .i64 .sub,[.e 138,.c (.int 1)]⟩]
def N6:List En:=fy
def eO:List En:=[vO 148 147 146,
 vK 149 134 148,
 vM 150 134 148,
 vg 151 147 146,
 ⟨152,.w1 .u64,[.e 151]⟩,
 ⟨153,.o2 .div,[.e 152,.c (.int 2)]⟩,
 vi 154 145 153,
 vU 155 0 154,
 vP 156 0 154,
 vR 157 0 154,
 vX 158 0 154,
 vV 159 0 154,
 vW 160 0 154,
 vY 161 0 154,
 vZ 162 0 154,
 vd 163 0 154]
def f9:List En:=[vU 164 0 153,
 vP 165 0 153,
 vR 166 0 153,
 vX 167 0 153,
 vV 168 0 153,
 vW 169 0 153,
 vY 170 0 153,
 vZ 171 0 153,
 vd 172 0 153,
 ⟨173,.outI "cmpB.0" G9,ng⟩,
 ⟨174,.lt,[.e 173,.c (.int 0)]⟩,
 vK 175 149 174,
 vM 176 149 174,
 ⟨177,.w2 .i64 .add,[.e 153,.c (.int 1)]⟩,
 ve 178 174 153 146,
 ve 179 174 147 177]
def HE:List En:=eO++(f9)
def Yj:List ObE:=[⟨some 149,.inr,[.e 153,.e 1]⟩,⟨some 149,.inr,[.e 154,.e 1]⟩]
def N1:Ac:=mkD 146 2 HE 149 [.e 178,.e 179] Yj [0,145,134,1]
def Sa:List Rf:=[.e 0,.e 145,.e 134,.e 1,.e 143,.e 144]
def dZ:List En:=[vi 180 138 147,
 vO 181 147 3,
 vK 182 150 181,
 vO 183 3 180,
 vK 184 181 183,
 vK 185 150 184,
 ⟨186,.outL "rotB.0" O6,[.e 0,.e 1,.e 147,.e 3,.e 180]⟩,
 vM 187 150 184,
 vf 188 184 186 0,
 vO 189 2 147,
 vK 190 150 189,
 vO 191 147 137,
 vK 192 189 191,
 vK 193 150 192,
 ⟨194,.outL "symB.0" G6,[.e 188,.e 1,.e 2,.e 147,.e 137]⟩,
 vM 195 150 192]
def dt:List En:=[vf 196 192 194 188,
 vO 197 137 180,
 vK 198 150 197,
 vO 199 180 4,
 vK 200 197 199,
 vK 201 150 200,
 ⟨202,.outL "symB.0" G6,[.e 196,.e 1,.e 137,.e 180,.e 4]⟩,
 vM 203 150 200,
 vf 204 200 202 196,
 vf 205 45 41 107,
 vN 206 45 110,
 vf 207 206 205 204]
def YR:List En:=dZ++(dt)
def sH (d:Nat):List ObE:=[⟨some 201,.pre "symB.p0" (Eu d),[.e 196,.e 1,.e 137,.e 180,.e 4]⟩,
 ⟨some 193,.pre "symB.p0" (Eu d),[.e 188,.e 1,.e 2,.e 147,.e 137]⟩,
 ⟨some 185,.pre "rotB.p0" Le,[.e 0,.e 1,.e 147,.e 3,.e 180]⟩,
 ⟨some 134,.owes N1,[.e 0,.e 145,.e 134,.e 1,.e 143,.e 144]⟩,
 ⟨some 77,.owes Nx,[.e 77,.e 74,.e 1,.e 3,.e 0]⟩,
 ⟨some 72,.owes Nq,[.e 0,.e 3,.e 72,.e 1,.e 3,.e 2]⟩,
 ⟨some 11,.owes OK,[.e 11,.e 8,.e 1,.e 2,.e 0]⟩,
 ⟨some 6,.owes Nn,[.e 0,.e 2,.e 6,.e 1,.e 4,.e 3]⟩]
def j9:List Rf:=[.e 207]
end
end Go.Eng
end
