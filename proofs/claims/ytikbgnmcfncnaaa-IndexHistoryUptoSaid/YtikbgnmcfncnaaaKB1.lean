/-
  A part of the proof: the evaluator of code and its soundness.
-/
import Derived.Test.YtikbgnmcfncnaaaKB0
import Derived.Test.YtikbgnmcfncnaaaE4
import Derived.Test.YtikbgnmcfncnaaaE5
set_option linter.unusedVariables false
set_option linter.unusedSimpArgs false
noncomputable section
namespace Go.Eng
section
open Go Go.Eng Go.Proofs
set_option maxHeartbeats 4000000
set_option maxRecDepth 100000
theorem xH:yQ.sees mn (yQ.run Try.prog [(101,NK)] Bp 3000 20 144)=some ((JH++((B5 RI [.i,.l] U2)++(K9++(uC)))).map En.be,wl.map ObE.be,[]):=by kernel_rfl
abbrev dR(T:Tab):Prop:=(L T 0).length<=140737488355328
abbrev dV(T:Tab):Prop:=((L T 0)).length=I T 1/\0<=I T 2/\I T 2<=I T 3/\I T 3<=I T 1
variable{T:Tab}
theorem ov (h:dR T)(g:∀u∈(L T 0),Bb BT KB u)(i:0<=I T 1)(e:I T 1<=140737488355328)(j:dV T)(a:BV T JH):
  ((I T 4)=I T 2+1):=by
 have c:=a;clear a;have d:(I T 4)=I T 2+1:=by
  obtain⟨b,-⟩:=c;simp only[BS,zR,w2P] at b;exact b (by omega) (by omega)
 have e:(I T 1)<=140737488355328:=by
  omega
 exact d
abbrev ea(T:Tab):Prop:=0<=I T 2/\I T 2<=I T 3/\I T 2+1<=I T 5/\((I T 5)<=I T 3\/I T 5=I T 2+1)/\I T 3<=I T 1/\I T 1<=140737488355328
abbrev ed(T:Tab):Prop:=((L T 6)).length=I T 1/\∀u∈(L T 6),Bb BT KB u
theorem qU (e:ea T)(aw:ed T)(a:BV T IG):
  ((B T 7)=true->I T 5 < I T 3):=by
 have c:=a;clear a;have d:(B T 7)=true->I T 5 < I T 3:=by
  obtain⟨b,-⟩:=c;simp only[BS,zR] at b;exact b.1
 exact d
abbrev aP(T:Tab)(a:Int)(b:List (List U)):Prop:=(I T 2)<=a/\a <=I T 5/\((B T 7)=true->b.length=I T 1/\(∀u∈b,Bb BT KB u)/\b=Ew (((L T 6)).take (I T 2).toNat) (((((L T 6)).take (I T 5).toNat).drop (I T 2).toNat).reverse) (((L T 6)).drop ((I T 5).toNat+1)) (((L T 6)).getD (I T 5).toNat []) ((I T 5) -a).toNat/\∀q:Nat,(q:Int) < I T 5 -a ->ltB (((L T 6)).getD (I T 5).toNat []) ((((((L T 6)).take (I T 5).toNat).drop (I T 2).toNat).reverse).getD q [])=true)
theorem uE (g1:ea T)(aw:ed T)(Q:(B T 7)=true->I T 5 < I T 3)(hS:Ba T (Bh (hds 5 [.i,.l]++GC [2,1,3] (Bh (CA 0 yQ.ks) JH)) IG))(hB:Bi T (GZ.map En.be))(hH:Bi T ((B5 N0 [.i,.l] QG).map En.be)):
  (N0).owes (QG.map (Rf.eval T))/\Ba T (hds 9 [.i,.l])/\(aP T (I T 9) (L T 10))/\¬B T 39=true:=by
 refine CK (nh:=9) (k:=2) (pcn:=39) (aF:=64) (b:=GZ) (K:=dH) (nxt:=[.e 63,.e 62]) (H:=[.e 5,.e 6]) (fv:=[7,2,1]) (A:=[.i,.l]) (by kernel_rfl) rfl rfl rfl rfl hS (by kernel_rfl) (by kernel_rfl) hB (B6 hH) (fun s=>aP T (aI s 0) (aL s 1)) (fun s=>((aI s 0)).toNat) ?_ ?_
 .show aP T (I T 5) (L T 6);clear hS hB hH;refine⟨by omega,Aw _,fun y=>?_⟩;have Y:=Q y;refine⟨aw.1,aw.2,?_,fun q hq=>absurd hq (by omega)⟩;rw[show ((I T 5) - (I T 5)).toNat=0 by omega,s7 (by omega) (by omega)]
 .intro J ao E F;replace F:aP T (I J 9) (L J 10):=F;clear hS hB hH;replace E:BV J GZ:=E;obtain⟨M,E⟩:=E.cut;obtain⟨N,E⟩:=E.cut;obtain⟨F2,E⟩:=E.cut;have O:=E;clear E;have X:=fvB (ao 7 (by decide));have P:=fvI (ao 2 (by decide));have ad:=fvI (ao 1 (by decide));clear ao
  suffices hz:(B J 39=true->0<=I J 41/\I J 41 < I J 1)/\(B J 39=true->0<=I J 9/\I J 9 < I J 1)/\(B J 39=true->0<=I J 9/\I J 9 < I J 1)/\(B J 39=true->0<=I J 42/\I J 42 < I J 1)/\(B J 25=true->0<=I J 26/\I J 26 < I J 1)/\(B J 14=true->0<=I J 9/\I J 9 < I J 1)/\(B J 39=true->(aP T (I J 63) (L J 62)))/\(B J 39=true->((I J 63)).toNat < ((I J 9)).toNat) from
   let⟨r0,aB,aJ,r3,r4,r5,nx,mz⟩:=hz;⟨⟨r0,aB,aJ,r3,r4,r5,trivial⟩,fun w=>⟨nx w,mz w⟩⟩
  refine⟨?_,?_,?_,?_,?_,?_,?_,?_⟩
  .obtain⟨d,-,-,C,-,-,-,-,-,-,-,-,-,-,D,t,-⟩:=M;obtain⟨-,-,-,-,-,-,-,-,-,-,x,e,g,-,h,p,-⟩:=N;obtain⟨-,-,-,-,v,-⟩:=O;simp only[BS,BZ,zR,w2P] at d C D t x e g h p v;obtain⟨Z,v2,W⟩:=F;intro w;have r:=g.1 w;have z:=d.1 (e.1 r.2).1;rw[P] at z;have y:(B T 7)=true:=by rw[<-X];exact r.1
   have Y:=Q y;have ag:=o2' h (by omega);have al:=o2' p (by omega);rw[ad];omega
  .obtain⟨d,-,-,C,-,-,-,-,-,-,-,-,-,-,D,t,-⟩:=M;obtain⟨-,-,-,-,-,-,-,-,-,-,x,e,g,-,h,p,-⟩:=N;obtain⟨-,-,-,-,v,-⟩:=O;simp only[BS,BZ,zR,w2P] at d C D t x e g h p v;obtain⟨Z,v2,W⟩:=F;intro w;have r:=g.1 w;have z:=d.1 (e.1 r.2).1;rw[P] at z;have y:(B T 7)=true:=by rw[<-X];exact r.1
   have Y:=Q y;have ag:=o2' h (by omega);have al:=o2' p (by omega);rw[ad];omega
  .obtain⟨d,-,-,C,-,-,-,-,-,-,-,-,-,-,D,t,-⟩:=M;obtain⟨-,-,-,-,-,-,-,-,-,-,x,e,g,-,h,p,-⟩:=N;obtain⟨-,-,-,-,v,-⟩:=O;simp only[BS,BZ,zR,w2P] at d C D t x e g h p v;obtain⟨Z,v2,W⟩:=F;intro w;have r:=g.1 w;have z:=d.1 (e.1 r.2).1;rw[P] at z;have y:(B T 7)=true:=by rw[<-X];exact r.1
   have Y:=Q y;have ag:=o2' h (by omega);have al:=o2' p (by omega);rw[ad];omega
  .obtain⟨d,-,-,C,-,-,-,-,-,-,-,-,-,-,D,t,-⟩:=M;obtain⟨-,-,-,-,-,-,-,-,-,-,x,e,g,-,h,p,-⟩:=N;obtain⟨-,-,-,-,v,-⟩:=O;simp only[BS,BZ,zR,w2P] at d C D t x e g h p v;obtain⟨Z,v2,W⟩:=F;intro w;have r:=g.1 w;have z:=d.1 (e.1 r.2).1;rw[P] at z;have y:(B T 7)=true:=by rw[<-X];exact r.1
   have Y:=Q y;have ag:=o2' h (by omega);have al:=o2' p (by omega);rw[ad];omega
  .obtain⟨d,-,-,C,-,-,-,-,-,-,-,-,-,-,D,t,-⟩:=M;obtain⟨-,-,-,-,-,-,-,-,-,-,x,e,g,-,h,p,-⟩:=N;obtain⟨-,-,-,-,v,-⟩:=O;simp only[BS,BZ,zR,w2P] at d C D t x e g h p v;obtain⟨Z,v2,W⟩:=F;intro w;have r:=D.1 w;have z:=d.1 r.2;rw[P] at z;have y:(B T 7)=true:=by rw[<-X];exact r.1
   have Y:=Q y;have cs:=o2' t (by omega);rw[ad];omega
  .obtain⟨d,-,-,C,-,-,-,-,-,-,-,-,-,-,D,t,-⟩:=M;obtain⟨-,-,-,-,-,-,-,-,-,-,x,e,g,-,h,p,-⟩:=N;obtain⟨-,-,-,-,v,-⟩:=O;simp only[BS,BZ,zR,w2P] at d C D t x e g h p v;obtain⟨Z,v2,W⟩:=F;intro w;have r:=C.1 w;have z:=d.1 r.2;rw[P] at z;have y:(B T 7)=true:=by rw[<-X];exact r.1
   have Y:=Q y;rw[ad];omega
  .obtain⟨d,-,-,-,a6,-,a7,-,-,-,-,-,-,-,-,t,-⟩:=M;obtain⟨a8,-,a9,-,-,-,-,-,-,a0,x,e,g,-,h,p,-⟩:=N;obtain⟨ba,bb,bc,bi,bl,bm,bo,bs,bt,bx,b0,b1,b2,b3,b4,b5,-⟩:=F2;obtain⟨b6,b7,b8,b9,v,-⟩:=O;replace a0:I J 36=(if DC (I J 17) (I J 29)=0 then DC (I J 15) (I J 27) else DC (I J 17) (I J 29)):=a0;simp only[BS,BZ,zR,w2P,zL,zS,uR,zW,zC] at d a6 a7 t a8 a9 x e g h p ba bb bc bi bl bm bo bs bt bx b0 b1 b2 b3 b4 b5 b6 b7 b8 b9 v;obtain⟨Z,v2,W⟩:=F;intro w;have r:=g.1 w;have cb:=e.1 r.2;have z:=d.1 cb.1;rw[P] at z;have y:(B T 7)=true:=by rw[<-X];exact r.1
   have Y:=Q y;have cs:=o2' t (by omega);have ag:=o2' h (by omega);have al:=o2' p (by omega);have cu:=o2' v (by omega);clear t h p v;obtain⟨z1,z2,z3,z4⟩:=W y;obtain⟨au,V,m3⟩:=ZH (l:=L T 6) (c:=L J 10) (a:=(I T 2).toNat) (i:=(I T 5).toNat) (j:=(I J 9).toNat) (by omega) (by omega) (by omega) (by rw[show (I T 5).toNat - (I J 9).toNat=((I T 5) - (I J 9)).toNat by omega];exact z3);obtain⟨m4,m5⟩:=m3 (by omega);have hj:(I J 9).toNat < ((L J 10)).length:=by omega
   have ce:(I J 9).toNat - 1 < ((L J 10)).length:=by omega
   have hn:((I J 9) - 1).toNat=(I J 9).toNat - 1:=by omega
   have sj:=z2 _ (Ca hj);have cl:=z2 _ (Ca ce);have an:(L J 61)=((L J 10)).set (I J 9).toNat (((L J 10)).getD ((I J 9).toNat - 1) []):=by
    rw[b8,ba,bb,bc,bi,bl,bm,bo,bs,bt,al,hn];exact Sr z2 hj cl
   have ci:∀u∈(L J 61),Bb BT KB u:=by rw[an];exact FY z2 cl
   have a1:(L J 62)=((L J 61)).set ((I J 9).toNat - 1) (((L J 10)).getD (I J 9).toNat []):=by
    rw[b9,bx,b0,b1,b2,b3,b4,b5,b6,b7,ag,hn];exact Sr ci (by rw[an,Au];exact ce) sj
   have cx:ltB (((L T 6)).getD (I T 5).toNat []) ((((((L T 6)).take (I T 5).toNat).drop (I T 2).toNat).reverse).getD ((I T 5).toNat - (I J 9).toNat) [])=true:=by
    rw[<-m4,<-V];refine decide_eq_true ?_;have ca:=x.1 cb.2;rw[a0,a6,a7,a8,a9,cs,hn] at ca;exact ca
   refine⟨by omega,by omega,fun _=>⟨?_,?_,?_,fun q hq=>?_⟩⟩
   .rw[a1,an,Au,Au];exact z1
   .rw[a1];exact FY ci sj
   .rw[a1,an,m5,cu,show ((I T 5) - ((I J 9) - 1)).toNat=(I T 5).toNat - ((I J 9).toNat - 1) by omega]
   .rcases Int.lt_or_le (q:Int) ((I T 5) - (I J 9)) with ch|ch
    .exact z4 q ch
    .obtain rfl:q=(I T 5).toNat - (I J 9).toNat:=by omega
     exact cx
  .obtain⟨d,-,-,C,-,-,-,-,-,-,-,-,-,-,D,t,-⟩:=M;obtain⟨-,-,-,-,-,-,-,-,-,-,x,e,g,-,h,p,-⟩:=N;obtain⟨-,-,-,-,v,-⟩:=O;simp only[BS,BZ,zR,w2P] at d C D t x e g h p v;obtain⟨Z,v2,W⟩:=F;intro w;have z:=d.1 (e.1 (g.1 w).2).1;rw[P] at z;have cu:=o2' v (by omega);omega
theorem aa (g:ea T)(aw:ed T)(c:Ba T (hds 5 [.i,.l]++GC [2,1,3] (Bh (CA 0 yQ.ks) JH)))(a:Bi T (K9.map En.be)):
  (BV T IG)/\((B T 7)=true->I T 5 < I T 3)/\((N0).owes (QG.map (Rf.eval T)))/\(aP T (I T 9) (L T 10))/\(¬B T 39=true)/\(BV T GZ)/\(BV T Mh)/\Ba T (Bh (Bh (hds 9 [.i,.l]++(Bh (hds 5 [.i,.l]++GC [2,1,3] (Bh (CA 0 yQ.ks) JH)) IG)) GZ) Mh):=by
 unfold K9 at a;rw[AL,AL,AL] at a;obtain⟨i,a⟩:=cutB a;obtain⟨j,a⟩:=cutB a;obtain⟨b,a⟩:=cutB a;obtain⟨e,d⟩:=Be c (by kernel_rfl) i;have h:=qU g aw e;obtain⟨v,k,t,u⟩:=uE g aw h d b j;have r:=(Be (k.append d) (l:=GZ) (by kernel_rfl) b);obtain⟨p,c⟩:=r;clear i b j d k;obtain⟨q,s⟩:=Be c (by kernel_rfl) a;exact⟨e,h,v,t,u,p,q,s⟩
abbrev bg(T:Tab)(a:Int)(b:List (List U)):Prop:=(I T 2)+1<=a/\(a <=I T 3\/a=I T 2+1)/\b.length=I T 1/\(∀u∈b,Bb BT KB u)/\b=Br ltB (L T 0) (I T 2).toNat a.toNat
theorem rW (b0:∀u∈(L T 0),Bb BT KB u)(b8:dV T)(h4:(I T 4)=I T 2+1)(ch:(I T 1)<=140737488355328)(O:Ba T (Bh (CA 0 yQ.ks) JH))(M:Bi T (K9.map En.be))(N:Bi T ((B5 RI [.i,.l] U2).map En.be)):
  (RI).owes (U2.map (Rf.eval T))/\Ba T (hds 5 [.i,.l])/\(bg T (I T 5) (L T 6))/\¬B T 40=true:=by
 refine NT (nh:=5) (k:=2) (pcn:=40) (aF:=65) (b:=K9) (K:=af) (nxt:=[.e 64,.e 10]) (H:=[.e 4,.e 0]) (fv:=[2,1,3]) (A:=[.i,.l]) (by kernel_rfl) rfl rfl rfl rfl O (by kernel_rfl) M (B6 N) (fun s=>bg T (aI s 0) (aL s 1)) (fun s=>((I T 3) - (aI s 0)).toNat) ?_ ?_
 .show bg T (I T 4) (L T 0);clear O M N;rw[h4];exact⟨Aw _,.inr rfl,b8.1,b0,by rw[show ((I T 2)+1).toNat=(I T 2).toNat+1 by omega,WV (by omega)]⟩
 .intro J x a6 hE g;replace g:bg T (I J 5) (L J 6):=g;have E:=fvI (x 2 (by decide));have v:=fvI (x 1 (by decide));have F:=fvI (x 3 (by decide));clear x;clear O M N;have g1:0<=I J 2/\I J 2<=I J 3/\I J 2+1<=I J 5/\((I J 5)<=I J 3\/I J 5=I J 2+1)/\I J 3<=I J 1/\I J 1<=140737488355328:=by
   obtain⟨P,Q,y,z,C⟩:=g;rw[E,v,F];omega
  have aw:((L J 6)).length=I J 1/\∀u∈(L J 6),Bb BT KB u:=by
   obtain⟨P,Q,y,z,C⟩:=g;rw[v];exact⟨y,z⟩
  obtain⟨W,w,b7,b2,cl,d,X,a7⟩:=aa g1 aw a6 hE;clear a6 hE;have hN:=DK a7 (ax:=[.i,.l]) (ag:=[.e 64,.e 10]) (by kernel_rfl);clear a7;have Y:=W;clear W;obtain⟨F1,d⟩:=d.cut;obtain⟨Z,d⟩:=d.cut;obtain⟨F3,d⟩:=d.cut;have F4:=d;clear d;have F5:=X;clear X
  suffices hz:(B J 40=true->(bg T (I J 64) (L J 10)))/\(B J 40=true->((I T 3) - (I J 64)).toNat < ((I T 3) - (I J 5)).toNat) from
   let⟨nx,mz⟩:=hz;⟨hN,⟨(fun _=>b7),trivial⟩,fun e=>⟨nx e,mz e⟩⟩
  refine⟨?_,?_⟩
  .obtain⟨r,-⟩:=Y;obtain⟨ad,-,-,-,al,-,an,-,-,-,-,-,-,-,-,ao,-⟩:=F1;obtain⟨a0,-,a1,-,-,-,-,-,-,D,a2,a3,bi,h,-⟩:=Z;obtain⟨p,-⟩:=F5;replace D:I J 36=(if DC (I J 17) (I J 29)=0 then DC (I J 15) (I J 27) else DC (I J 17) (I J 29)):=D;simp only[BS,BZ,zN,zR,w2P,zL] at r ad al an ao a0 a1 a2 a3 bi h p;obtain⟨P,Q,y,z,C⟩:=g;obtain⟨aS,w2,w3⟩:=b2;rw[E] at aS w3;intro e;have t:=h.1 e;have w:=r.1 t.1;have ba:=o2' p (by omega);obtain⟨z1,z2,z3,z4⟩:=w3 t.1;have bx:(L J 10)=eb ltB ((L J 6)) (I T 2).toNat (I J 5).toNat:=by
    rw[z3];refine td (l:=L J 6) (k:=((I J 5) - (I J 9)).toNat) (by omega) (by omega) (by omega) (fun q hq=>z4 q (by omega)) ?_;rcases Int.lt_or_le (I T 2) (I J 9) with h9|h9
    .refine .inr fun a8=>?_;obtain⟨au,V,m3⟩:=ZH (l:=L J 6) (c:=L J 10) (a:=(I T 2).toNat) (i:=(I J 5).toNat) (j:=(I J 9).toNat) (by omega) (by omega) (by omega) (by rw[show (I J 5).toNat - (I J 9).toNat=((I J 5) - (I J 9)).toNat by omega];exact z3);obtain⟨m4,m5⟩:=m3 (by omega);rw[show ((I J 5) - (I J 9)).toNat=(I J 5).toNat - (I J 9).toNat by omega,<-m4,<-V] at a8;have b9:=o2' ao (by omega);have bm:(I J 36) < 0:=by
      rw[D,al,an,a0,a1,b9,show ((I J 9) - 1).toNat=(I J 9).toNat - 1 by omega];exact of_decide_eq_true a8
     have bo:(B J 38)=true:=a3.2 ⟨ad.2 (by rw[E];exact h9),a2.2 bm⟩;have:=t.2;simp[bo] at this
    .exact .inl (by omega)
   refine⟨by omega,?_,by rw[<-v];exact z1,z2,?_⟩
   .rw[F] at w;left;omega
   .rw[bx,ba,show ((I J 5)+1).toNat=(I J 5).toNat+1 by omega,nN (by omega) (by rw[v] at*; omega),<-C]
  .obtain⟨r,-⟩:=Y;obtain⟨-,-,-,-,-,-,-,-,-,-,-,-,-,h,-⟩:=Z;obtain⟨p,-⟩:=F5;simp only[BS,BZ,zN,zR,w2P] at r h p;obtain⟨P,Q,y,z,C⟩:=g;intro e;have t:=h.1 e;have w:=r.1 t.1;rw[F] at w;have ba:=o2' p (by omega);omega
theorem wa (K:dR T)(J:∀u∈(L T 0),Bb BT KB u)(N:0<=I T 1)(w:dV T)(F:(I T 4)=I T 2+1)(H:(I T 1)<=140737488355328)(s:bg T (I T 5) (L T 6))(t:¬B T 40=true)(q:(B T 7)=true->I T 5 < I T 3)(M:aP T (I T 9) (L T 10))(v:¬B T 39=true)(E:ea T)(aw:ed T)(b:BV T JH)(c:BV T IG)(a:BV T GZ)(d:BV T Mh):
  ((L T 6)=(Br ltB (L T 0) (I T 2).toNat (I T 3).toNat)):=by
 have y:=b;clear b;have l:=c;clear c;obtain⟨z,a⟩:=a.cut;obtain⟨p,a⟩:=a.cut;obtain⟨A,a⟩:=a.cut;have C:=a;clear a;have D:=d;clear d
 .obtain⟨i,-⟩:=l;obtain⟨-,-,-,-,-,-,-,-,-,-,-,-,e,g,-⟩:=p;simp only[BS,BZ,zN,zR] at i e g;obtain⟨W,X,Y,Z,x⟩:=s;obtain⟨O,P,Q,V⟩:=w;have q:¬I T 5 < I T 3:=fun h=>by
   have k:=i.2 h;by_cases j:(B T 38)=true
   .exact v (e.2 ⟨k,j⟩)
   .exact t (g.2 ⟨k,by simpa using j⟩)
  rw[x];by_cases r:(I T 5)=I T 3
  .rw[r]
  .have h:(I T 5)=I T 2+1:=by omega
   rw[h,show ((I T 2)+1).toNat=(I T 2).toNat+1 by omega,WV (by omega),Rv (by omega) (by omega)]
theorem vQ:Bl Try.prog 144 yQ:=by
 refine B7 (l:=[(101,NK)]) CP (by simp only[AW];exact⟨gj,fun _ h=>absurd h (by simp)⟩) xH (by kernel_rfl) fun T us O e c r Z a=>?_;change us.length=4 at c;obtain⟨⟨g,an⟩,⟨k,b⟩,-⟩:=Z;replace g:(L T 0).length<=140737488355328:=g;have s:∀u∈(L T 0),Bb BT KB u:=fun u hu=>by
  obtain⟨i,ab⟩:=Ac.1 hu;exact an i u ab
 replace k:0<=I T 1:=k;replace b:I T 1<=140737488355328:=b;have K:=inL (j:=0) e c (by decide);have al:=inI (j:=1) e c (by decide);have M:=inI (j:=2) e c (by decide);have N:=inI (j:=3) e c (by decide);have w:((L T 0)).length=I T 1/\0<=I T 2/\I T 2<=I T 3/\I T 3<=I T 1:=by
  have h:=O (.s "insB.p0",Ku) (by simp[yQ]);change Ku us at h;unfold Ku at h;simp only[K,al,M,N] at h;exact h
 clear O;rw[AL,AL,AL] at a;obtain⟨E,a⟩:=cutB a;obtain⟨F,a⟩:=cutB a;obtain⟨q,a⟩:=cutB a;obtain⟨x,d⟩:=Be r (by kernel_rfl) E;have D:=ov g s k b w x;obtain⟨a2,H,v,a0⟩:=rW s w D b d q F;have C:0<=I T 2/\I T 2<=I T 3/\I T 2+1<=I T 5/\((I T 5)<=I T 3\/I T 5=I T 2+1)/\I T 3<=I T 1/\I T 1<=140737488355328:=by
  have y:I T 2=I T 2:=rfl;have p:I T 1=I T 1:=rfl;have z:I T 3=I T 3:=rfl;have t:=v;obtain⟨v1,v2,P,Q,v5⟩:=t;rw[y,p,z];omega
 have aw:((L T 6)).length=I T 1/\∀u∈(L T 6),Bb BT KB u:=by
  have y:I T 2=I T 2:=rfl;have p:I T 1=I T 1:=rfl;have z:I T 3=I T 3:=rfl;have t:=v;obtain⟨v1,v2,P,Q,v5⟩:=t;rw[p];exact⟨P,Q⟩
 obtain⟨W,Y,a8,ax,a1,V,X,J⟩:=aa C aw (H.append (EO (fun _ _=>rfl) d)) q;have r:=J.append d;clear E q F d H J;obtain⟨A2,hO⟩:=B8 (A:=[.l]) (ag:=mn) r (by kernel_rfl) a;have q0:=wa g s k w D b v a0 Y ax a1 C aw x W V X;refine⟨⟨(fun _=>a2),trivial⟩,hO.trans ?_⟩;exact (lc (by show U.list (L T 6)= .list (NR us);unfold NR;rw[K,M,N];exact BI U.list q0) rfl)
def M8:List U->List (List U):=fun us=>(Co (aL us 0) (swS (aI us 2).toNat (aI us 3).toNat (aI us 4).toNat))
def Ky:List U->Prop:=fun us=>((aL us 0)).length=(aI us 1)/\0<=(aI us 2)/\0<=(aI us 4)/\(aI us 2)+(aI us 4)<=(aI us 3)/\(aI us 3)+(aI us 4)<=(aI us 1)
def P5:Bf:={ sh:=[.one (k64),.one (k64),.one (k64),.cst (.fn (.func 101) [] [])],blks:=[],outs:=[(.s "swB.0",D1 M8)],c:= .tup [],m':=[.mrow 5 1 [k64,k64,k64,.bool,.str,.str,.bool,k64,k64] 38],pre:=[(.s "swB.p0",Ky)],row:=some ([k64,k64,k64,.bool,.str,.str,.bool,k64,k64],38) }
def ia:List En:=[]
def qO:List En:=[ABI 7 5 4,
 ABM 8 7,
 ABX 9 2 5,
 ABX 10 3 5,
 ABX 11 3 5,
 ABN 12 6 11,
 ABJ 13 6 11,
 ABK 14 6 11,
 ABQ 15 6 11,
 ABO 16 6 11,
 ABP 17 6 11,
 ABR 18 6 11,
 ABS 19 6 11,
 ABT 20 6 11,
 ABX 21 2 5,
 ABN 22 6 21]
def pR:List En:=[ABJ 23 6 21,
 ABK 24 6 21,
 ABQ 25 6 21,
 ABO 26 6 21,
 ABP 27 6 21,
 ABR 28 6 21,
 ABS 29 6 21,
 ABT 30 6 21,
 ⟨31,.rset 0 [.i,.i,.i,.b,.s,.s,.b,.i,.i],[.e 6,.e 9,.e 12,.e 13,.e 14,.e 15,.e 16,.e 17,.e 18,.e 19,.e 20]⟩,
 ⟨32,.rset 0 [.i,.i,.i,.b,.s,.s,.b,.i,.i],[.e 31,.e 10,.e 22,.e 23,.e 24,.e 25,.e 26,.e 27,.e 28,.e 29,.e 30]⟩,
 ⟨33,.w2 .i64 .add,[.e 5,.c (.int 1)]⟩]
def KZ:List En:=qO++(pR)
def iI:List ObE:=[⟨some 7,.inr,[.e 10,.e 1]⟩,⟨some 7,.inr,[.e 9,.e 1]⟩,⟨some 7,.inr,[.e 21,.e 1]⟩,⟨some 7,.inr,[.e 11,.e 1]⟩]
def TB:Bs:=mkD 5 2 KZ 7 [.e 33,.e 32] iI [2,3,4,1]
def Wz:List Rf:=[.e 2,.e 3,.e 4,.e 1,.c (.int 0),.e 0]
def uc:List En:=[]
def xq:List ObE:=[⟨none,.owes TB,[.e 2,.e 3,.e 4,.e 1,.c (.int 0),.e 0]⟩]
def uK:List Rf:=[.e 6]
theorem yH:P5.sees uK (P5.run Try.prog [] Bp 3000 20 150)=some ((ia++((B5 TB [.i,.l] Wz)++(KZ++(uc)))).map En.be,xq.map ObE.be,[]):=by kernel_rfl
abbrev bu(T:Tab)(a:Int)(b:List (List U)):Prop:=0<=a/\a <=I T 4/\b.length=I T 1/\(∀u∈b,Bb BT KB u)/\b=Co (L T 0) (swS (I T 2).toNat (I T 3).toNat a.toNat)
abbrev ew(T:Tab):Prop:=((L T 0)).length=I T 1/\0<=I T 2/\0<=I T 4/\I T 2+I T 4<=I T 3/\I T 3+I T 4<=I T 1
theorem vG (a6:∀u∈(L T 0),Bb BT KB u)(bs:I T 1<=140737488355328)(x:ew T)(v:Ba T (Bh (CA 0 P5.ks) ia))(r:Bi T (KZ.map En.be))(t:Bi T ((B5 TB [.i,.l] Wz).map En.be)):
  (TB).owes (Wz.map (Rf.eval T))/\Ba T (hds 5 [.i,.l])/\(bu T (I T 5) (L T 6))/\¬B T 7=true:=by
 refine CK (nh:=5) (k:=2) (pcn:=7) (aF:=34) (b:=KZ) (K:=iI) (nxt:=[.e 33,.e 32]) (H:=[.c (.int 0),.e 0]) (fv:=[2,3,4,1]) (A:=[.i,.l]) (by kernel_rfl) rfl rfl rfl rfl v (by kernel_rfl) (by kernel_rfl) r (B6 t) (fun s=>bu T (aI s 0) (aL s 1)) (fun s=>((I T 4) - (aI s 0)).toNat) ?_ ?_
 .show bu T (0:Int) (L T 0);clear v r t;exact⟨Aw _,x.2.2.1,x.1,a6,vO.symm⟩
 .intro J j i w;replace w:bu T (I J 5) (L J 6):=w;clear v r t;replace i:BV J KZ:=i;obtain⟨h,i⟩:=i.cut;have y:=i;clear i;have bm:=fvI (j 2 (by decide));have bo:=fvI (j 3 (by decide));have a4:=fvI (j 4 (by decide));have bl:=fvI (j 1 (by decide));clear j
  suffices hz:(B J 7=true->0<=I J 10/\I J 10 < I J 1)/\(B J 7=true->0<=I J 9/\I J 9 < I J 1)/\(B J 7=true->0<=I J 21/\I J 21 < I J 1)/\(B J 7=true->0<=I J 11/\I J 11 < I J 1)/\(B J 7=true->(bu T (I J 33) (L J 32)))/\(B J 7=true->((I T 4) - (I J 33)).toNat < ((I T 4) - (I J 5)).toNat) from
   let⟨r0,aB,aJ,r3,nx,mz⟩:=hz;⟨⟨r0,aB,aJ,r3,trivial⟩,fun p=>⟨nx p,mz p⟩⟩
  refine⟨?_,?_,?_,?_,?_,?_⟩
  .obtain⟨a,-,g,c,d,-,-,-,-,-,-,-,-,-,e,-⟩:=h;simp only[BS,zR,w2P] at a g c d e;grind
  .obtain⟨a,-,g,c,d,-,-,-,-,-,-,-,-,-,e,-⟩:=h;simp only[BS,zR,w2P] at a g c d e;grind
  .obtain⟨a,-,g,c,d,-,-,-,-,-,-,-,-,-,e,-⟩:=h;simp only[BS,zR,w2P] at a g c d e;grind
  .obtain⟨a,-,g,c,d,-,-,-,-,-,-,-,-,-,e,-⟩:=h;simp only[BS,zR,w2P] at a g c d e;grind
  .obtain⟨a,-,g,c,d,z,D,F,M,N,P,Q,V,W,e,X,-⟩:=h;obtain⟨Y,Z,ab,ad,ag,al,an,ao,aw,ax,l,-⟩:=y;simp only[BS,zR,w2P,zL,zS,uR,zW,BZ,zC] at a g c d z D F M N P Q V W e X Y Z ab ad ag al an ao aw ax l;obtain⟨v1,v2,v3,q,v5⟩:=w;obtain⟨p1,p2,p3,p4,p5⟩:=x;intro p;have h7:=a.1 p;rw[a4] at h7;have x9:=o2' g (by omega);have b5:=o2' c (by omega);have b6:=o2' d (by omega);have b7:=o2' e (by omega);have b8:=o2' l (by omega);have jA:(I T 2).toNat+(I J 5).toNat < ((L J 6)).length:=by omega
   have jB:(I T 3).toNat+(I J 5).toNat < ((L J 6)).length:=by omega
   have sA:=q _ (Ca jA);have sB:=q _ (Ca jB);have O:(L J 31)=((L J 6)).set ((I T 2).toNat+(I J 5).toNat) (((L J 6)).getD ((I T 3).toNat+(I J 5).toNat) []):=by
    rw[aw,z,D,F,M,N,P,Q,V,W,show (I J 11).toNat=(I T 3).toNat+(I J 5).toNat by omega,show (I J 9).toNat=(I T 2).toNat+(I J 5).toNat by omega];exact Sr q jA sB
   have k1:∀u∈(L J 31),Bb BT KB u:=by rw[O];exact FY q sB
   have C:(L J 32)=((L J 31)).set ((I T 3).toNat+(I J 5).toNat) (((L J 6)).getD ((I T 2).toNat+(I J 5).toNat) []):=by
    rw[ax,X,Y,Z,ab,ad,ag,al,an,ao,show (I J 21).toNat=(I T 2).toNat+(I J 5).toNat by omega,show (I J 10).toNat=(I T 3).toNat+(I J 5).toNat by omega];exact Sr k1 (by rw[O,Au];exact jB) sA
   have E:∀u∈(L J 32),Bb BT KB u:=by rw[C];exact FY k1 sA
   have aC:((L J 32)).length=((L J 6)).length:=by rw[C,O,Au,Au]
   refine⟨by omega,by omega,by rw[aC];exact v3,E,?_⟩;rw[C,O,ua v5 (by omega) (by omega),show (I J 33).toNat=(I J 5).toNat+1 by omega]
  .obtain⟨a,-⟩:=h;obtain⟨-,-,-,-,-,-,-,-,-,-,l,-⟩:=y;simp only[BS,zR,w2P] at a l;grind
theorem xm (h:dR T)(g:∀u∈(L T 0),Bb BT KB u)(j:0<=I T 1)(e:I T 1<=140737488355328)(l:ew T)(i:bu T (I T 5) (L T 6))(k:¬B T 7=true)(a:BV T KZ):
  ((L T 6)=(Co (L T 0) (swS (I T 2).toNat (I T 3).toNat (I T 4).toNat))):=by
 obtain⟨b,a⟩:=a.cut;have d:=a;clear a
 .obtain⟨c,-⟩:=b;simp only[BS,zR] at c;grind
theorem xJ:Bl Try.prog 150 P5:=by
 refine B7 (l:=[]) CP (by intro p h;exact absurd h (by simp)) yH (by kernel_rfl) fun T us x c b g C a=>?_;change us.length=5 at b;obtain⟨⟨q,M⟩,⟨r,d⟩,-⟩:=C;replace q:(L T 0).length<=140737488355328:=q;have w:∀u∈(L T 0),Bb BT KB u:=fun u N=>by
  obtain⟨i,ab⟩:=Ac.1 N;exact M i u ab
 replace r:0<=I T 1:=r;replace d:I T 1<=140737488355328:=d;have F:=inL (j:=0) c b (by decide);have Y:=inI (j:=1) c b (by decide);have H:=inI (j:=2) c b (by decide);have J:=inI (j:=3) c b (by decide);have K:=inI (j:=4) c b (by decide);have y:((L T 0)).length=I T 1/\0<=I T 2/\0<=I T 4/\I T 2+I T 4<=I T 3/\I T 3+I T 4<=I T 1:=by
  have h:=x (.s "swB.p0",Ky) (by simp[P5]);change Ky us at h;unfold Ky at h;grind
 clear x;rw[AL,AL,AL] at a;obtain⟨s,a⟩:=cutB a;obtain⟨t,a⟩:=cutB a;obtain⟨e,a⟩:=cutB a;obtain⟨W,k⟩:=Be g (by kernel_rfl) s;obtain⟨Q,v,O,P⟩:=vG w d y k e t;have D:=(Be (v.append k) (l:=KZ) (by kernel_rfl) e);obtain⟨z,g⟩:=D;clear s e t k v;obtain⟨X,E⟩:=B8 (A:=[.l]) (ag:=uK) g (by kernel_rfl) a;have V:=xm q w r d y O P z;refine⟨⟨(fun _=>Q),trivial⟩,E.trans ?_⟩;exact (lc (by show U.list (L T 6)= .list (M8 us);unfold M8;rw[F,H,J,K];exact BI U.list V) rfl)
def RC:List U->List (List U):=fun us=>(Co (aL us 0) (rtS (aI us 2).toNat (aI us 3).toNat (aI us 4).toNat))
def N1:List U->Prop:=fun us=>((aL us 0)).length=(aI us 1)/\0<=(aI us 2)/\(aI us 2) < (aI us 3)/\(aI us 3) < (aI us 4)/\(aI us 4)<=(aI us 1)
def N4:Bf:={ sh:=[.one (k64),.one (k64),.one (k64),.cst (.fn (.func 101) [] [])],blks:=[],outs:=[(.s "rotB.0",D1 RC)],c:= .tup [],m':=[.mrow 5 1 [k64,k64,k64,.bool,.str,.str,.bool,k64,k64] 38],pre:=[(.s "rotB.p0",N1)],row:=some ([k64,k64,k64,.bool,.str,.str,.bool,k64,k64],38) }
def mU:List En:=[ABV 5 3 2,
 ABV 6 4 3]
def RM:List En:=mU
def jk:List En:=[⟨10,.ne,[.e 8,.e 7]⟩,
 ABM 11 10,
 ABI 12 7 8,
 ABF 13 10 12,
 ABV 14 3 8,
 ⟨15,.outL "swB.0" M8,[.e 9,.e 1,.e 14,.e 3,.e 7]⟩,
 ABV 16 8 7,
 ABG 17 10 12,
 ABV 18 3 8,
 ABX 19 3 7,
 ABV 20 19 8,
 ⟨21,.outL "swB.0" M8,[.e 9,.e 1,.e 18,.e 20,.e 8]⟩,
 ABV 22 7 8,
 ABW 23 12 15 21,
 ABU 24 12 7 22,
 ABU 25 12 16 8]
def Iy:List En:=jk
def cT:List ObE:=[⟨some 17,.pre "swB.p0" Ky,[.e 9,.e 1,.e 18,.e 20,.e 8]⟩,⟨some 13,.pre "swB.p0" Ky,[.e 9,.e 1,.e 14,.e 3,.e 7]⟩]
def Qm:Bs:=mkD 7 3 Iy 10 [.e 24,.e 25,.e 23] cT [1,3]
def Uc:List Rf:=[.e 1,.e 3,.e 6,.e 5,.e 0]
def jY:List En:=[ABV 26 3 8,
 ⟨27,.outL "swB.0" M8,[.e 9,.e 1,.e 26,.e 3,.e 8]⟩]
def bN:List En:=jY
def xQ:List ObE:=[⟨some 11,.pre "swB.p0" Ky,[.e 9,.e 1,.e 26,.e 3,.e 8]⟩,
 ⟨none,.owes Qm,[.e 1,.e 3,.e 6,.e 5,.e 0]⟩]
def nK:List Rf:=[.e 27]
theorem wM:N4.sees nK (N4.run Try.prog [(150,P5)] Bp 3000 20 148)=some ((RM++((B5 Qm [.i,.i,.l] Uc)++(Iy++(bN)))).map En.be,xQ.map ObE.be,[]):=by kernel_rfl
abbrev eB(T:Tab):Prop:=((L T 0)).length=I T 1/\0<=I T 2/\I T 2 < I T 3/\I T 3 < I T 4/\I T 4<=I T 1
theorem oU (j:dR T)(i:∀u∈(L T 0),Bb BT KB u)(k:0<=I T 1)(h:I T 1<=140737488355328)(l:eB T)(a:BV T RM):
  ((I T 5)=I T 3 - (I T 2))/\((I T 6)=I T 4 - (I T 3)):=by
 have b:=a;clear a;have e:(I T 5)=I T 3 - (I T 2):=by
  obtain⟨c,-⟩:=b;simp only[BS,zR,w2P] at c;grind
 have g:(I T 6)=I T 4 - (I T 3):=by
  obtain⟨-,d,-⟩:=b;simp only[BS,zR,w2P] at d;grind
 exact⟨e,g⟩
abbrev bV(T:Tab)(a:Int)(b:Int)(aw:List (List U)):Prop:=1<=a/\1<=b/\b <=I T 3 - (I T 2)/\a <=I T 4 - (I T 3)/\aw.length=I T 1/\Co aw (rtS ((I T 3).toNat -b.toNat) (I T 3).toNat ((I T 3).toNat+a.toNat))=Co (L T 0) (rtS (I T 2).toNat (I T 3).toNat (I T 4).toNat)
theorem tI (aw:I T 1<=140737488355328)(Y:eB T)(x5:(I T 5)=I T 3 - (I T 2))(x6:(I T 6)=I T 4 - (I T 3))(F:Ba T (Bh (CA 0 N4.ks) RM))(D:Bi T (Iy.map En.be))(E:Bi T ((B5 Qm [.i,.i,.l] Uc).map En.be)):
  (Qm).owes (Uc.map (Rf.eval T))/\Ba T (hds 7 [.i,.i,.l])/\(bV T (I T 7) (I T 8) (L T 9))/\¬B T 10=true:=by
 refine CK (nh:=7) (k:=3) (pcn:=10) (aF:=26) (b:=Iy) (K:=cT) (nxt:=[.e 24,.e 25,.e 23]) (H:=[.e 6,.e 5,.e 0]) (fv:=[1,3]) (A:=[.i,.i,.l]) (by kernel_rfl) rfl rfl rfl rfl F (by kernel_rfl) (by kernel_rfl) D (B6 E) (fun s=>bV T (aI s 0) (aI s 1) (aL s 2)) (fun s=>((aI s 0)+(aI s 1)).toNat) ?_ ?_
 .show bV T (I T 6) (I T 5) (L T 0);grind
 .intro J y w z;replace z:bV T (I J 7) (I J 8) (L J 9):=z;clear F D E;replace w:BV J Iy:=w;have e:=w;clear w;have an:=fvI (y 1 (by decide));have Q:=fvI (y 3 (by decide));clear y
  suffices V:(B J 17=true->((L J 9)).length=I J 1/\0<=I J 18/\0<=I J 8/\I J 18+I J 8<=I J 20/\I J 20+I J 8<=I J 1)/\(B J 13=true->((L J 9)).length=I J 1/\0<=I J 14/\0<=I J 7/\I J 14+I J 7<=I J 3/\I J 3+I J 7<=I J 1)/\(B J 10=true->(bV T (I J 24) (I J 25) (L J 23)))/\(B J 10=true->((I J 24)+I J 25).toNat < ((I J 7)+I J 8).toNat) from
   let⟨Z,aB,X,W⟩:=V;⟨⟨Z,aB,trivial⟩,fun x=>⟨X x,W x⟩⟩
  refine⟨?_,?_,?_,?_⟩
  .obtain⟨d,-,a,-,-,-,-,P,l,p,q,-⟩:=e;simp only[BS,BZ,zN,zR,w2P] at d a P l p q;grind
  .obtain⟨-,-,a,O,g,-⟩:=e;simp only[BS,BZ,zR,w2P] at a O g;grind
  .obtain⟨d,-,a,-,g,i,j,-,l,p,q,r,t,C,u,v,-⟩:=e;replace i:L J 15=(Co (L J 9) (swS (I J 14).toNat (I J 3).toNat (I J 7).toNat)):=i;replace r:L J 21=(Co (L J 9) (swS (I J 18).toNat (I J 20).toNat (I J 8).toNat)):=r;simp only[BS,BZ,zR,w2P,zL,zS] at d a g j l p q t C u v;obtain⟨v1,v2,v3,v4,M,N⟩:=z;obtain⟨p1,p2,p3,p4,p5⟩:=Y;intro x;have ao:=d.1 x;have a4:=o2' g (by omega);have a5:=o2' j (by omega);have a6:=o2' l (by omega);have a7:=o2' p (by omega);have a8:=o2' q (by omega);have a9:=o2' t (by omega);rw[C,u,v];by_cases c:(B J 12)=true
   .rw[BH c,BH c,BH c];have h:=a.1 c;refine⟨v1,by omega,by omega,v4,by rw[i,Gh];exact M,?_⟩;rw[i,Q,<-N,show (I J 14).toNat=(I T 3).toNat - (I J 8).toNat by omega,show (I J 16).toNat=(I J 8).toNat - (I J 7).toNat by omega];exact xT (by omega) (by omega) (by omega)
   .rw[BG c,BG c,BG c];have h:¬I J 7 < I J 8:=fun h=>c (a.2 h);refine⟨by omega,v2,v3,by omega,by rw[r,Gh];exact M,?_⟩;rw[r,<-N,show (I J 18).toNat=(I T 3).toNat - (I J 8).toNat by omega,show (I J 20).toNat=(I T 3).toNat+(I J 7).toNat - (I J 8).toNat by omega,show (I J 22).toNat=(I J 7).toNat - (I J 8).toNat by omega];exact wX (by omega) (by omega) (by omega)
  .obtain⟨d,-,a,-,-,-,j,-,-,-,-,-,t,-,u,v,-⟩:=e;simp only[BS,BZ,zR,w2P,zL,zS] at d a j t u v;grind
theorem wm (t:dR T)(s:∀u∈(L T 0),Bb BT KB u)(v:0<=I T 1)(r:I T 1<=140737488355328)(l:eB T)(M:(I T 5)=I T 3 - (I T 2))(N:(I T 6)=I T 4 - (I T 3))(k:bV T (I T 7) (I T 8) (L T 9))(w:¬B T 10=true)(d:BV T RM)(g:BV T Iy)(e:BV T bN):
  ((L T 27)=(Co (L T 0) (rtS (I T 2).toNat (I T 3).toNat (I T 4).toNat)))/\
  (B T 11=true->((L T 9)).length=I T 1/\0<=I T 26/\0<=I T 8/\I T 26+I T 8<=I T 3/\I T 3+I T 8<=I T 1):=by
 have q:=d;clear d;have i:=g;clear g;have j:=e;clear e;refine⟨?_,?_⟩
 .obtain⟨b,-⟩:=i;obtain⟨a,c,-⟩:=j;replace c:L T 27=(Co (L T 9) (swS (I T 26).toNat (I T 3).toNat (I T 8).toNat)):=c;simp only[BS,zR,w2P] at b a;obtain⟨D,E,F,H,J,p⟩:=k;obtain⟨x,y,z,A,C⟩:=l;have h:(I T 8)=I T 7:=by
   grind
  have K:=o2' a (by omega);rw[c,<-p,h,show (I T 26).toNat=(I T 3).toNat - (I T 7).toNat by omega];exact wj (by omega) (by omega)
 .obtain⟨b,-⟩:=i;obtain⟨a,-⟩:=j;simp only[BS,zR,w2P] at b a;grind
theorem ud:Bl Try.prog 148 N4:=by
 refine B7 (l:=[(150,P5)]) CP (by simp only[AW];exact⟨xJ,fun _ h=>absurd h (by simp)⟩) wM (by kernel_rfl) fun T us y c b p F a=>?_;change us.length=5 at b;obtain⟨⟨e,P⟩,⟨g,d⟩,-⟩:=F;replace e:(L T 0).length<=140737488355328:=e;have x:∀u∈(L T 0),Bb BT KB u:=fun u Q=>by
  obtain⟨i,ab⟩:=Ac.1 Q;exact P i u ab
 replace g:0<=I T 1:=g;replace d:I T 1<=140737488355328:=d;have K:=inL (j:=0) c b (by decide);have ad:=inI (j:=1) c b (by decide);have M:=inI (j:=2) c b (by decide);have N:=inI (j:=3) c b (by decide);have O:=inI (j:=4) c b (by decide);have r:((L T 0)).length=I T 1/\0<=I T 2/\I T 2 < I T 3/\I T 3 < I T 4/\I T 4<=I T 1:=by
  have h:=y (.s "rotB.p0",N1) (by simp[N4]);change N1 us at h;unfold N1 at h;grind
 clear y;rw[AL,AL,AL] at a;obtain⟨t,a⟩:=cutB a;obtain⟨v,a⟩:=cutB a;obtain⟨k,a⟩:=cutB a;obtain⟨s,q⟩:=Be p (by kernel_rfl) t;obtain⟨z,C⟩:=oU e x g d r s;obtain⟨X,w,V,W⟩:=tI d r z C q k v;have H:=(Be (w.append q) (l:=Iy) (by kernel_rfl) k);obtain⟨E,p⟩:=H;clear t k v q w;obtain⟨D,J⟩:=B8 (A:=[.l]) (ag:=nK) p (by kernel_rfl) a;obtain⟨Y,Z⟩:=wm e x g d r z C V W s E D;refine⟨⟨Z,(fun _=>X),trivial⟩,J.trans ?_⟩;exact (lc (by show U.list (L T 27)= .list (RC us);unfold RC;rw[K,M,N,O];exact BI U.list Y) rfl)
end
section
open Go Go.Eng Go.Proofs
set_option maxHeartbeats 4000000
set_option maxRecDepth 100000
variable {o:Nat}
def JG:List U->List (List U):=fun us=>(Br ltB (aL us 0) (aI us 2).toNat (aI us 4).toNat)
def GY (o:Nat):List U->Prop:=fun us=>(aI us 4).toNat - (aI us 2).toNat < o/\((aL us 0)).length=(aI us 1)/\0<=(aI us 2)/\(aI us 2) < (aI us 3)/\(aI us 3) < (aI us 4)/\(aI us 4)<=(aI us 1)/\Srt ltB (seg (aL us 0) (aI us 2).toNat (aI us 3).toNat)/\Srt ltB (seg (aL us 0) (aI us 3).toNat (aI us 4).toNat)/\Dst ltB (seg (aL us 0) (aI us 2).toNat (aI us 4).toNat)
def Er (o:Nat):Bf:={ sh:=[.one (k64),.one (k64),.one (k64),.cst (.fn (.func 101) [] [])],blks:=[],outs:=[(.s "symB.0",D1 JG)],c:= .tup [],m':=[.mrow 5 1 [k64,k64,k64,.bool,.str,.str,.bool,k64,k64] 38],pre:=[(.s "symB.p0",GY o)],row:=some ([k64,k64,k64,.bool,.str,.str,.bool,k64,k64],38) }
def tK:List Rf:=[.e 15,.e 16,.e 17,.e 18,.e 19,.e 20,.e 21,.e 22,.e 23,.e 24,.e 25,.e 26,.e 27,.e 28,.e 29,.e 30,.e 31,.e 32]
def sX:List Rf:=[.e 81,.e 82,.e 83,.e 84,.e 85,.e 86,.e 87,.e 88,.e 89,.e 90,.e 91,.e 92,.e 93,.e 94,.e 95,.e 96,.e 97,.e 98]
def sk:List Rf:=[.e 155,.e 156,.e 157,.e 158,.e 159,.e 160,.e 161,.e 162,.e 163,.e 164,.e 165,.e 166,.e 167,.e 168,.e 169,.e 170,.e 171,.e 172]
def lI:List En:=[ABV 5 3 2,
 ⟨6,.eq,[.e 5,.c (.int 1)]⟩]
def Fy:List En:=lI
def lK:List En:=[ABI 9 8 7,
 ABF 10 6 9,
 ABG 11 6 9,
 ABX 12 8 7,
 ⟨13,.w1 .u64,[.e 12]⟩,
 ⟨14,.o2 .div,[.e 13,.c (.int 2)]⟩,
 ABN 15 0 14,
 ABJ 16 0 14,
 ABK 17 0 14,
 ABQ 18 0 14,
 ABO 19 0 14,
 ABP 20 0 14,
 ABR 21 0 14,
 ABS 22 0 14,
 ABT 23 0 14,
 ABN 24 0 2]
def lw:List En:=[ABJ 25 0 2,
 ABK 26 0 2,
 ABQ 27 0 2,
 ABO 28 0 2,
 ABP 29 0 2,
 ABR 30 0 2,
 ABS 31 0 2,
 ABT 32 0 2,
 ⟨33,.outI "cmpB.0" It,tK⟩,
 ⟨34,.lt,[.e 33,.c (.int 0)]⟩,
 ABF 35 10 34,
 ⟨36,.w2 .i64 .add,[.e 14,.c (.int 1)]⟩,
 ABG 37 10 34,
 ABU 38 34 7 14,
 ABU 39 34 36 8]
def D2:List En:=lK++(lw)
def bL:List ObE:=[⟨some 10,.inr,[.e 2,.e 1]⟩,⟨some 10,.inr,[.e 14,.e 1]⟩]
def QS:Bs:=mkD 7 2 D2 10 [.e 38,.e 39] bL [0,2,6,1]
def Uo:List Rf:=[.e 0,.e 2,.e 6,.e 1,.e 4,.e 3]
def Ns:List En:=[]
def lL:List En:=[⟨42,.w2 .i64 .sub,[.e 8,.c (.int 1)]⟩,
 ABI 43 40 42,
 ABF 44 11 43,
 ABG 45 11 43,
 ⟨46,.w2 .i64 .add,[.e 40,.c (.int 1)]⟩,
 ⟨47,.w2 .i64 .add,[.e 40,.c (.int 1)]⟩,
 ABN 48 41 47,
 ABJ 49 41 47,
 ABK 50 41 47,
 ABQ 51 41 47,
 ABO 52 41 47,
 ABP 53 41 47,
 ABR 54 41 47,
 ABS 55 41 47,
 ABT 56 41 47,
 ABN 57 41 40]
def jm:List En:=[ABJ 58 41 40,
 ABK 59 41 40,
 ABQ 60 41 40,
 ABO 61 41 40,
 ABP 62 41 40,
 ABR 63 41 40,
 ABS 64 41 40,
 ABT 65 41 40,
 ⟨66,.rset 0 [.i,.i,.i,.b,.s,.s,.b,.i,.i],[.e 41,.e 40,.e 48,.e 49,.e 50,.e 51,.e 52,.e 53,.e 54,.e 55,.e 56]⟩,
 ⟨67,.rset 0 [.i,.i,.i,.b,.s,.s,.b,.i,.i],[.e 66,.e 46,.e 57,.e 58,.e 59,.e 60,.e 61,.e 62,.e 63,.e 64,.e 65]⟩,
 ⟨68,.w2 .i64 .add,[.e 40,.c (.int 1)]⟩]
def Ep:List En:=lL++(jm)
def ep:List ObE:=[⟨some 44,.inr,[.e 46,.e 1]⟩,⟨some 44,.inr,[.e 40,.e 1]⟩,⟨some 44,.inr,[.e 40,.e 1]⟩,⟨some 44,.inr,[.e 47,.e 1]⟩]
def Qh:Bs:=mkD 40 2 Ep 44 [.e 68,.e 67] ep [11,8,1]
def Uj:List Rf:=[.e 11,.e 8,.e 1,.e 2,.e 0]
def kR:List En:=[ABM 69 6,
 ABV 70 4 3,
 ⟨71,.eq,[.e 70,.c (.int 1)]⟩,
 ABF 72 69 71]
def Ix:List En:=kR
def mM:List En:=[ABI 75 74 73,
 ABF 76 72 75,
 ABG 77 72 75,
 ABX 78 74 73,
 ⟨79,.w1 .u64,[.e 78]⟩,
 ⟨80,.o2 .div,[.e 79,.c (.int 2)]⟩,
 ABN 81 0 3,
 ABJ 82 0 3,
 ABK 83 0 3,
 ABQ 84 0 3,
 ABO 85 0 3,
 ABP 86 0 3,
 ABR 87 0 3,
 ABS 88 0 3,
 ABT 89 0 3,
 ABN 90 0 80]
def j9:List En:=[ABJ 91 0 80,
 ABK 92 0 80,
 ABQ 93 0 80,
 ABO 94 0 80,
 ABP 95 0 80,
 ABR 96 0 80,
 ABS 97 0 80,
 ABT 98 0 80,
 ⟨99,.outI "cmpB.0" It,sX⟩,
 ⟨100,.lt,[.e 99,.c (.int 0)]⟩,
 ABF 101 76 100,
 ABG 102 76 100,
 ⟨103,.w2 .i64 .add,[.e 80,.c (.int 1)]⟩,
 ABU 104 100 80 73,
 ABU 105 100 74 103]
def E8:List En:=mM++(j9)
def cM:List ObE:=[⟨some 76,.inr,[.e 80,.e 1]⟩,⟨some 76,.inr,[.e 3,.e 1]⟩]
def P2:Bs:=mkD 73 2 E8 76 [.e 104,.e 105] cM [0,3,72,1]
def U5:List Rf:=[.e 0,.e 3,.e 72,.e 1,.e 3,.e 2]
def Ug:List En:=[]
def ld:List En:=[ABI 108 74 106,
 ABF 109 77 108,
 ABG 110 77 108,
 ⟨111,.w2 .i64 .sub,[.e 106,.c (.int 1)]⟩,
 ⟨112,.w2 .i64 .sub,[.e 106,.c (.int 1)]⟩,
 ABN 113 107 112,
 ABJ 114 107 112,
 ABK 115 107 112,
 ABQ 116 107 112,
 ABO 117 107 112,
 ABP 118 107 112,
 ABR 119 107 112,
 ABS 120 107 112,
 ABT 121 107 112,
 ABN 122 107 106,
 ABJ 123 107 106]
def mZ:List En:=[ABK 124 107 106,
 ABQ 125 107 106,
 ABO 126 107 106,
 ABP 127 107 106,
 ABR 128 107 106,
 ABS 129 107 106,
 ABT 130 107 106,
 ⟨131,.rset 0 [.i,.i,.i,.b,.s,.s,.b,.i,.i],[.e 107,.e 106,.e 113,.e 114,.e 115,.e 116,.e 117,.e 118,.e 119,.e 120,.e 121]⟩,
 ⟨132,.rset 0 [.i,.i,.i,.b,.s,.s,.b,.i,.i],[.e 131,.e 111,.e 122,.e 123,.e 124,.e 125,.e 126,.e 127,.e 128,.e 129,.e 130]⟩,
 ⟨133,.w2 .i64 .sub,[.e 106,.c (.int 1)]⟩]
def Gs:List En:=ld++(mZ)
def aX:List ObE:=[⟨some 109,.inr,[.e 111,.e 1]⟩,⟨some 109,.inr,[.e 106,.e 1]⟩,⟨some 109,.inr,[.e 106,.e 1]⟩,⟨some 109,.inr,[.e 112,.e 1]⟩]
def Qn:Bs:=mkD 106 2 Gs 109 [.e 133,.e 132] aX [77,74,1]
def U1:List Rf:=[.e 77,.e 74,.e 1,.e 3,.e 0]
def jl:List En:=[ABG 134 69 71,
 ABX 135 2 4,
 ⟨136,.w1 .u64,[.e 135]⟩,
 ⟨137,.o2 .div,[.e 136,.c (.int 2)]⟩,
 ABX 138 137 3,
 ABI 139 137 3,
 ABF 140 134 139,
 ABV 141 138 4,
 ABG 142 134 139,
 ABU 143 139 137 3,
 ABU 144 139 141 2,
 ⟨145,.w2 .i64 .sub,[.e 138,.c (.int 1)]⟩]
def QX:List En:=jl
def mI:List En:=[ABI 148 147 146,
 ABF 149 134 148,
 ABG 150 134 148,
 ABX 151 147 146,
 ⟨152,.w1 .u64,[.e 151]⟩,
 ⟨153,.o2 .div,[.e 152,.c (.int 2)]⟩,
 ABV 154 145 153,
 ABN 155 0 154,
 ABJ 156 0 154,
 ABK 157 0 154,
 ABQ 158 0 154,
 ABO 159 0 154,
 ABP 160 0 154,
 ABR 161 0 154,
 ABS 162 0 154,
 ABT 163 0 154]
def jj:List En:=[ABN 164 0 153,
 ABJ 165 0 153,
 ABK 166 0 153,
 ABQ 167 0 153,
 ABO 168 0 153,
 ABP 169 0 153,
 ABR 170 0 153,
 ABS 171 0 153,
 ABT 172 0 153,
 ⟨173,.outI "cmpB.0" It,sk⟩,
 ⟨174,.lt,[.e 173,.c (.int 0)]⟩,
 ABF 175 149 174,
 ABG 176 149 174,
 ⟨177,.w2 .i64 .add,[.e 153,.c (.int 1)]⟩,
 ABU 178 174 153 146,
 ABU 179 174 147 177]
def JD:List En:=mI++(jj)
def ac:List ObE:=[⟨some 149,.inr,[.e 153,.e 1]⟩,⟨some 149,.inr,[.e 154,.e 1]⟩]
def QF:Bs:=mkD 146 2 JD 149 [.e 178,.e 179] ac [0,145,134,1]
def UP:List Rf:=[.e 0,.e 145,.e 134,.e 1,.e 143,.e 144]
def mP:List En:=[ABV 180 138 147,
 ABI 181 147 3,
 ABF 182 150 181,
 ABI 183 3 180,
 ABF 184 181 183,
 ABF 185 150 184,
 ⟨186,.outL "rotB.0" RC,[.e 0,.e 1,.e 147,.e 3,.e 180]⟩,
 ABG 187 150 184,
 ABW 188 184 186 0,
 ABI 189 2 147,
 ABF 190 150 189,
 ABI 191 147 137,
 ABF 192 189 191,
 ABF 193 150 192,
 ⟨194,.outL "symB.0" JG,[.e 188,.e 1,.e 2,.e 147,.e 137]⟩,
 ABG 195 150 192]
def mi:List En:=[ABW 196 192 194 188,
 ABI 197 137 180,
 ABF 198 150 197,
 ABI 199 180 4,
 ABF 200 197 199,
 ABF 201 150 200,
 ⟨202,.outL "symB.0" JG,[.e 196,.e 1,.e 137,.e 180,.e 4]⟩,
 ABG 203 150 200,
 ABW 204 200 202 196,
 ABW 205 45 41 107,
 ABH 206 45 110,
 ABW 207 206 205 204]
def cH:List En:=mP++(mi)
def wo (o:Nat):List ObE:=[⟨some 201,.pre "symB.p0" (GY o),[.e 196,.e 1,.e 137,.e 180,.e 4]⟩,
 ⟨some 193,.pre "symB.p0" (GY o),[.e 188,.e 1,.e 2,.e 147,.e 137]⟩,
 ⟨some 185,.pre "rotB.p0" N1,[.e 0,.e 1,.e 147,.e 3,.e 180]⟩,
 ⟨some 134,.owes QF,[.e 0,.e 145,.e 134,.e 1,.e 143,.e 144]⟩,
 ⟨some 77,.owes Qn,[.e 77,.e 74,.e 1,.e 3,.e 0]⟩,
 ⟨some 72,.owes P2,[.e 0,.e 3,.e 72,.e 1,.e 3,.e 2]⟩,
 ⟨some 11,.owes Qh,[.e 11,.e 8,.e 1,.e 2,.e 0]⟩,
 ⟨some 6,.owes QS,[.e 0,.e 2,.e 6,.e 1,.e 4,.e 3]⟩]
def py:List Rf:=[.e 207]
end
end Go.Eng
end
