/-
  A part of the proof: the evaluator of code and its soundness.
-/
import Derived.Test.YtikbgnmcfncnaaaE4
import Derived.Test.YtikbgnmcfncnaaaE5
import Derived.Test.YtikbgnmcfncnaaaKB0
set_option linter.unusedVariables false
set_option linter.unusedSimpArgs false
noncomputable section
namespace Go.Eng
section
open Go Go.Eng Go.Proofs
set_option maxHeartbeats 4000000
set_option maxRecDepth 100000
def H8:List U->Bool:=fun us=>(CT (aL us 0))
def Dw:AZ:={ sh:=[.one (.list [k64,k64,k64,.bool,.str,.str,.bool,k64,k64])],blks:=[],outs:=[(.s "rsound.0",JM H8)],c:= .b 1,m':=[],pre:=[] }
def H7:List En:=[]
def Ut:List En:=[vT 2 0,
 vO 3 1 2,
 vQ 4 3]
def Ea:List En:=Ut
def Z6:List En:=[vO 6 5 1,
 vK 7 3 6,
 vM 8 3 6,
 vU 9 0 1,
 vU 10 0 5,
 ⟨11,.eq,[.e 9,.e 10]⟩,
 vK 12 7 11,
 vK 13 7 11,
 vP 14 0 1,
 vK 15 7 11,
 vK 16 7 11,
 vP 17 0 5,
 ⟨18,.eq,[.e 14,.e 17]⟩,
 vK 19 11 18,
 vK 20 7 19,
 vK 21 7 19]
def YC:List En:=[vU 22 0 1,
 vP 23 0 1,
 vR 24 0 1,
 vX 25 0 1,
 vV 26 0 1,
 vW 27 0 1,
 vY 28 0 1,
 vZ 29 0 1,
 vd 30 0 1,
 vK 31 7 19,
 vK 32 7 19,
 vU 33 0 5,
 vP 34 0 5,
 vR 35 0 5,
 vX 36 0 5,
 vV 37 0 5]
def Xo:List En:=[vW 38 0 5,
 vY 39 0 5,
 vZ 40 0 5,
 vd 41 0 5,
 ⟨42,.nes [.i,.i,.i,.b,.s,.s,.b,.i,.i],[.e 22,.e 33,.e 23,.e 34,.e 24,.e 35,.e 25,.e 36,.e 26,.e 37,.e 27,.e 38,.e 28,.e 39,.e 29,.e 40,.e 30,.e 41]⟩,
 vK 43 19 42,
 vK 44 7 43,
 vM 45 7 43,
 ⟨46,.w2 .i64 .add,[.e 5,.c (.int 1)]⟩]
def De:List En:=Z6++(YC++(Xo))
def Sy:List ObE:=[⟨some 32,.inl,[.e 5,.e 0]⟩,⟨some 21,.inl,[.e 1,.e 0]⟩,⟨some 16,.inl,[.e 5,.e 0]⟩,⟨some 13,.inl,[.e 1,.e 0]⟩,⟨some 7,.inl,[.e 5,.e 0]⟩,⟨some 7,.inl,[.e 1,.e 0]⟩]
def II:Ac:=mkD 5 1 De 45 [.e 46] Sy [0,1,3]
def J8:List Rf:=[.e 0,.e 1,.e 3,.c (.int 0)]
def VC:List En:=[⟨47,.w2 .i64 .add,[.e 1,.c (.int 1)]⟩]
def Hg:List En:=VC
def GP:List En:=Ea++((Ag II [.i] J8)++(De++(Hg)))
def TF:List ObE:=[⟨some 3,.owes II,[.e 0,.e 1,.e 3,.c (.int 0)]⟩]
def Kf:Ac:=mkD 1 1 GP 8 [.e 47] TF [0]
def Or:List Rf:=[.e 0,.c (.int 0)]
def aJ:List En:=[⟨48,.ite .b,[.e 44,.c (.bool false),.c (.bool true)]⟩,
 vN 49 44 4]
def UO:List En:=aJ
def ni:List ObE:=[⟨none,.owes Kf,[.e 0,.c (.int 0)]⟩]
def Y5:List Rf:=[.e 48]
theorem oF:Dw.sees Y5 (Dw.run Try.prog [] Aa 3000 20 62)=some ((H7++((Ag Kf [.i] Or)++(GP++(UO)))).map En.be,ni.map ObE.be,[]):=by kernel_rfl
abbrev wQ(T:Tab):Prop:=0<=I T 1/\I T 1<=((L T 0)).length/\∀p q:Nat,q < p->(p:Int) < I T 1->okP (L T 0) p q
abbrev wR(T:Tab):Prop:=((L T 0)).length<=140737488355328/\∀u∈(L T 0),AK AD KB u
variable{T:Tab}
theorem bE (g:wQ T)(ao:wR T)(a:AF T Ea):
  ((B T 3)=true->I T 1 < ((L T 0)).length):=by
 have d:=a;clear a;have e:(B T 3)=true->I T 1 < ((L T 0)).length:=by
  obtain⟨b,c,-⟩:=d;simp only[AE,zR,zL] at b c;intro h;have:=c.1 h;rw[b] at this;exact this
 exact e
abbrev vy(T:Tab)(a:Int):Prop:=0<=a/\a <=I T 1/\∀q:Nat,(q:Int) <a ->okP (L T 0) (I T 1).toNat q
abbrev wS(T:Tab):Prop:=(B T 3)=true->I T 1 < ((L T 0)).length
theorem gU (g1:wQ T)(ao:wR T)(u:wS T)(hS:AJ T (AM (hds 1 [.i]++DN [0] (AM (Ak 0 Dw.ks) H7)) Ea))(hB:AU T (De.map En.be))(hH:AU T ((Ag II [.i] J8).map En.be)):
  (II).owes (J8.map (Rf.eval T))/\AJ T (hds 5 [.i])/\(vy T (I T 5))/\¬B T 45=true:=by
 refine Ax (nh:=5) (k:=1) (pcn:=45) (aO:=47) (y:=De) (J:=Sy) (nxt:=[.e 46]) (H:=[.c (.int 0)]) (fv:=[0,1,3]) (R:=[.i]) (by kernel_rfl) rfl rfl rfl rfl hS (by kernel_rfl) (by kernel_rfl) hB (Ai hH) (fun s=>vy T (aI s 0)) (fun s=>((I T 1) - (aI s 0)).toNat) ?_ ?_
 .show vy T (0:Int);clear hS hB hH;exact⟨uf _,g1.1,fun q h=>by omega⟩
 .intro A a7 v p;replace p:vy T (I A 5):=p;clear hS hB hH;replace v:AF A De:=v;obtain⟨r,v⟩:=v.cut;obtain⟨x,v⟩:=v.cut;have F2:=v;clear v;have z:L A 0=L T 0:=fvL (a7 0 (by decide));have l:I A 1=I T 1:=fvI (a7 1 (by decide));have t:B A 3=B T 3:=fvB (a7 3 (by decide));clear a7
  suffices hz:(B A 32=true->0<=I A 5/\I A 5 < ((L A 0)).length)/\(B A 21=true->0<=I A 1/\I A 1 < ((L A 0)).length)/\(B A 16=true->0<=I A 5/\I A 5 < ((L A 0)).length)/\(B A 13=true->0<=I A 1/\I A 1 < ((L A 0)).length)/\(B A 7=true->0<=I A 5/\I A 5 < ((L A 0)).length)/\(B A 7=true->0<=I A 1/\I A 1 < ((L A 0)).length)/\(B A 45=true->(vy T (I A 46)))/\(B A 45=true->((I T 1) - (I A 46)).toNat < ((I T 1) - (I A 5)).toNat) from
   let⟨r0,ax,aE,r3,r4,r5,nx,mz⟩:=hz;⟨⟨r0,ax,aE,r3,r4,r5,trivial⟩,fun a=>⟨nx a,mz a⟩⟩
  refine⟨?_,?_,?_,?_,?_,?_,?_,?_⟩
  .obtain⟨c,b,-,-,-,-,-,e,-,-,g,-,-,-,-,i,-⟩:=r;obtain⟨-,-,-,-,-,-,-,-,-,-,j,-⟩:=x;simp only[AE,AI,zR] at c b e g i j;obtain⟨D,E,w⟩:=p;intro a;have d:(B A 7)=true:=by first|exact a|exact (j.1 a).1|exact (i.1 a).1|exact (g.1 a).1|exact (e.1 a).1
   have o:=c.1 (b.1 d).2;have C:=u (by rw[<-t];exact (b.1 d).1);rw[l] at o;rw[z]
   try rw[l]
   omega
  .obtain⟨c,b,-,-,-,-,-,e,-,-,g,-,-,-,-,i,-⟩:=r;obtain⟨-,-,-,-,-,-,-,-,-,-,j,-⟩:=x;simp only[AE,AI,zR] at c b e g i j;obtain⟨D,E,w⟩:=p;intro a;have d:(B A 7)=true:=by first|exact a|exact (j.1 a).1|exact (i.1 a).1|exact (g.1 a).1|exact (e.1 a).1
   have o:=c.1 (b.1 d).2;have C:=u (by rw[<-t];exact (b.1 d).1);rw[l] at o;rw[z]
   try rw[l]
   omega
  .obtain⟨c,b,-,-,-,-,-,e,-,-,g,-,-,-,-,i,-⟩:=r;obtain⟨-,-,-,-,-,-,-,-,-,-,j,-⟩:=x;simp only[AE,AI,zR] at c b e g i j;obtain⟨D,E,w⟩:=p;intro a;have d:(B A 7)=true:=by first|exact a|exact (j.1 a).1|exact (i.1 a).1|exact (g.1 a).1|exact (e.1 a).1
   have o:=c.1 (b.1 d).2;have C:=u (by rw[<-t];exact (b.1 d).1);rw[l] at o;rw[z]
   try rw[l]
   omega
  .obtain⟨c,b,-,-,-,-,-,e,-,-,g,-,-,-,-,i,-⟩:=r;obtain⟨-,-,-,-,-,-,-,-,-,-,j,-⟩:=x;simp only[AE,AI,zR] at c b e g i j;obtain⟨D,E,w⟩:=p;intro a;have d:(B A 7)=true:=by first|exact a|exact (j.1 a).1|exact (i.1 a).1|exact (g.1 a).1|exact (e.1 a).1
   have o:=c.1 (b.1 d).2;have C:=u (by rw[<-t];exact (b.1 d).1);rw[l] at o;rw[z]
   try rw[l]
   omega
  .obtain⟨c,b,-,-,-,-,-,e,-,-,g,-,-,-,-,i,-⟩:=r;obtain⟨-,-,-,-,-,-,-,-,-,-,j,-⟩:=x;simp only[AE,AI,zR] at c b e g i j;obtain⟨D,E,w⟩:=p;intro a;have d:(B A 7)=true:=by first|exact a|exact (j.1 a).1|exact (i.1 a).1|exact (g.1 a).1|exact (e.1 a).1
   have o:=c.1 (b.1 d).2;have C:=u (by rw[<-t];exact (b.1 d).1);rw[l] at o;rw[z]
   try rw[l]
   omega
  .obtain⟨c,b,-,-,-,-,-,e,-,-,g,-,-,-,-,i,-⟩:=r;obtain⟨-,-,-,-,-,-,-,-,-,-,j,-⟩:=x;simp only[AE,AI,zR] at c b e g i j;obtain⟨D,E,w⟩:=p;intro a;have d:(B A 7)=true:=by first|exact a|exact (j.1 a).1|exact (i.1 a).1|exact (g.1 a).1|exact (e.1 a).1
   have o:=c.1 (b.1 d).2;have C:=u (by rw[<-t];exact (b.1 d).1);rw[l] at o;rw[z]
   try rw[l]
   omega
  .obtain⟨c,b,-,e9,a8,bl,-,-,ab,-,-,a9,bm,bs,-⟩:=r;obtain⟨K,M,N,O,P,Q,V,W,X,-,-,ad,ag,al,a0,a1,-⟩:=x;obtain⟨a2,a3,a4,a5,bt,bx,-,Y,Z,-⟩:=F2;simp only[AE,AI,zN,zR,DU,and_true,w2P,zL,zS] at c b e9 a8 bl ab a9 bm bs K M N O P Q V W X ad ag al a0 a1 a2 a3 a4 a5 bt bx Y Z;obtain⟨D,E,w⟩:=p;obtain⟨b5,bi⟩:=ao;intro a;have F:=Y.1 a;have d:=b.1 F.1;have o:=c.1 d.2;rw[l] at o;have C:=u (by rw[<-t];exact d.1);have cs:=Z (by omega) (by omega);have b6:(I T 1).toNat < ((L T 0)).length:=by omega
   have b7:(I A 5).toNat < ((L T 0)).length:=by omega
   have av:=J7 (show TyB ((L T 0)) from bi) (show TyB ((L T 0)) from bi) b6 b7;refine⟨by omega,by omega,fun q hq=>?_⟩;rcases Int.lt_or_le (q:Int) (I A 5) with h|h
   .exact w q h
   .have b8:q=(I A 5).toNat:=by omega
    rw[b8];intro k0 k1;refine av.1 (uc fun hn=>?_);have zz:True:=by have _:=K;have _:=M;have _:=N;have _:=O;have _:=P;have _:=Q;have _:=V;have _:=W;have _:=X;have _:=ad;have _:=ag;have _:=al;have _:=a0;have _:=a1;have _:=a2;have _:=a3;have _:=a4;have _:=a5;trivial
    rw[z] at e9 a8 ab a9 K M N O P Q V W X ad ag al a0 a1 a2 a3 a4 a5;rw[l] at e9 ab K M N O P Q V W X;rw[<-K,<-M,<-N,<-O,<-P,<-Q,<-V,<-W,<-X,<-ad,<-ag,<-al,<-a0,<-a1,<-a2,<-a3,<-a4,<-a5] at hn;have b3:=bt.2 hn;have b2:=bs.2 ⟨bl.2 (by rw[e9,a8];exact k0),bm.2 (by rw[ab,a9];exact k1)⟩;have b4:=bx.2 ⟨b2,b3⟩;rw[b4] at F;cases F.2
  .obtain⟨c,b,-⟩:=r;obtain⟨-,-,-,-,-,-,-,Y,Z,-⟩:=F2;simp only[AE,AI,zN,zR,w2P] at c b Y Z;obtain⟨D,E,w⟩:=p;obtain⟨b5,bi⟩:=ao;intro a;have F:=Y.1 a;have o:=c.1 (b.1 F.1).2;rw[l] at o;have C:=u (by rw[<-t];exact (b.1 F.1).1);have cs:=Z (by omega) (by omega);omega
theorem TI (g:wQ T)(ao:wR T)(c:AJ T (hds 1 [.i]++DN [0] (AM (Ak 0 Dw.ks) H7)))(a:AU T (GP.map En.be)):
  (AF T Ea)/\((B T 3)=true->I T 1 < ((L T 0)).length)/\((II).owes (J8.map (Rf.eval T)))/\(vy T (I T 5))/\(¬B T 45=true)/\(AF T De)/\(AF T Hg)/\AJ T (AM (AM (hds 5 [.i]++(AM (hds 1 [.i]++DN [0] (AM (Ak 0 Dw.ks) H7)) Ea)) De) Hg):=by
 unfold GP at a;rw[ti,ti,ti] at a;have i:=a.left;replace a:=a.right;have j:=a.left;replace a:=a.right;have b:=a.left;replace a:=a.right;obtain⟨e,d⟩:=AN c (by kernel_rfl) i;have h:=bE g ao e;obtain⟨u,k,s,t⟩:=gU g ao h d b j;have q:=(AN (k.append d) (l:=De) (by kernel_rfl) b);obtain⟨o,c⟩:=q;clear i b j d k;obtain⟨p,r⟩:=AN c (by kernel_rfl) a;exact⟨e,h,u,s,t,o,p,r⟩
abbrev vz(T:Tab)(a:Int):Prop:=0<=a/\a <=((L T 0)).length/\∀p q:Nat,q < p->(p:Int) <a ->okP (L T 0) p q
abbrev wT(T:Tab):Prop:=(L T 0).length<=140737488355328
theorem fR (W:wT T)(V:∀u∈(L T 0),AK AD KB u)(v:AJ T (AM (Ak 0 Dw.ks) H7))(r:AU T (GP.map En.be))(t:AU T ((Ag Kf [.i] Or).map En.be)):
  (Kf).owes (Or.map (Rf.eval T))/\AJ T (hds 1 [.i])/\(vz T (I T 1))/\¬B T 8=true:=by
 refine HC (nh:=1) (k:=1) (pcn:=8) (aO:=48) (y:=GP) (J:=TF) (nxt:=[.e 47]) (H:=[.c (.int 0)]) (fv:=[0]) (R:=[.i]) (by kernel_rfl) rfl rfl rfl rfl v (by kernel_rfl) r (Ai t) (fun s=>vz T (aI s 0)) (fun s=>(((L T 0)).length - (aI s 0)).toNat) ?_ ?_
 .show vz T (0:Int);clear v r t;exact⟨uf _,by omega,fun p q _ h=>by omega⟩
 .intro A N K F l;replace l:vz T (I A 1):=l;have i:L A 0=L T 0:=fvL (N 0 (by decide));clear N;clear v r t;have P:0<=I A 1/\I A 1<=((L A 0)).length/\∀p q:Nat,q < p->(p:Int) < I A 1->okP (L A 0) p q:=by
   rw[i];exact l
  have ao:((L A 0)).length<=140737488355328/\∀u∈(L A 0),AK AD KB u:=by
   rw[i];exact⟨W,V⟩
  obtain⟨w,o,al,ab,a8,a,x,M⟩:=TI P ao K F;clear K F;have Q:=Bp M (ar:=[.i]) (rs:=[.e 47]) (by kernel_rfl);clear M;have z:=w;clear w;obtain⟨C,a⟩:=a.cut;obtain⟨F2,a⟩:=a.cut;have F3:=a;clear a;have D:=x;clear x
  suffices Z:(B A 8=true->(vz T (I A 47)))/\(B A 8=true->(((L T 0)).length - (I A 47)).toNat < (((L T 0)).length - (I A 1)).toNat) from
   let⟨nx,mz⟩:=Z;⟨Q,⟨(fun _=>al),trivial⟩,fun b=>⟨nx b,mz b⟩⟩
  refine⟨?_,?_⟩
  .obtain⟨c,d,-⟩:=z;obtain⟨E,-,g,-⟩:=C;obtain⟨e,-⟩:=D;simp only[AE,AI,zN,zR,w2P,zL] at c d E g e;obtain⟨v1,v2,O⟩:=l;intro b;have j:=g.1 b;obtain⟨aJ,w2,w3⟩:=ab;have o:=d.1 j.1;rw[c,i] at o;have n6:¬I A 5 < I A 1:=fun h=>by have:=E.2 h;rw[this] at j;cases j.2
   have a3:=e (by omega) (by omega);refine⟨by omega,by omega,fun p q Y a6=>?_⟩;rcases Int.lt_or_le (p:Int) (I A 1) with h|h
   .exact O p q Y h
   .have X:p=(I A 1).toNat:=by omega
    rw[X];rw[<-i];exact w3 q (by omega)
  .obtain⟨c,d,-⟩:=z;obtain⟨-,-,g,-⟩:=C;obtain⟨e,-⟩:=D;simp only[AE,AI,zN,zR,w2P,zL] at c d g e;obtain⟨v1,v2,O⟩:=l;intro b;have j:=g.1 b;have o:=d.1 j.1;rw[c,i] at o;have a3:=e (by omega) (by omega);omega
theorem pM (b7:wT T)(O:∀u∈(L T 0),AK AD KB u)(bt:vz T (I T 1))(b1:¬B T 8=true)(b:wS T)(bx:vy T (I T 5))(b2:¬B T 45=true)(g1:vz T (I T 1))(ao:wR T)(Q:AF T Ea)(a:AF T De)(V:AF T Hg)(P:AF T UO):
  ((B T 48)=(CT (L T 0))):=by
 have F0:=Q;clear Q;obtain⟨F1,a⟩:=a.cut;obtain⟨F2,a⟩:=a.cut;have F3:=a;clear a;have F4:=V;clear V;have F5:=P;clear P
 .obtain⟨j,x,-⟩:=F0;obtain⟨e6,d,e8,e9,W,X,-,-,Y,-,-,Z,ab,i,-⟩:=F1;obtain⟨k,l,o,r,s,t,v,w,y,-,-,z,A,C,D,E,-⟩:=F2;obtain⟨F,H,J,K,ad,ag,M,al,-⟩:=F3;obtain⟨a0,-⟩:=F5;simp only[AE,AI,zN,zC,zR,DU,and_true,zL,zS] at j x e6 d e8 e9 W X Y Z ab i k l o r s t v w y z A C D E F H J K ad ag M al a0;obtain⟨v1,v2,v3⟩:=bt;obtain⟨aJ,w2,w3⟩:=bx;have zz:True:=by have _:=k;have _:=l;have _:=o;have _:=r;have _:=s;have _:=t;have _:=v;have _:=w;have _:=y;have _:=z;have _:=A;have _:=C;have _:=D;have _:=E;have _:=F;have _:=H;have _:=J;have _:=K;trivial
  have a8:(B T 48)=true↔CT (L T 0)=true:=by
   rw[a0,Pg (show TyB ((L T 0)) from O),fN];by_cases g:(B T 44)=true
   .obtain⟨c,bj⟩:=M.1 g;have N:=e6.1 (d.1 c).2;have b:=x.1 (d.1 c).1;rw[j] at b;have a5:(I T 1).toNat < ((L T 0)).length:=by omega
    have bm:(I T 5).toNat < ((L T 0)).length:=by omega
    have av:=J7 (show TyB ((L T 0)) from O) (show TyB ((L T 0)) from O) a5 bm;obtain⟨a4,e⟩:=ag.1 bj;have e:=ad.1 e;rw[k,l,o,r,s,t,v,w,y,z,A,C,D,E,F,H,J,K] at e;have k0:=X.1 (i.1 a4).1;have k1:=ab.1 (i.1 a4).2;rw[e9,W] at k0;rw[Y,Z] at k1;refine⟨fun h=>absurd g (by simpa using h),fun h=>absurd (av.2 (h (I T 1).toNat (I T 5).toNat (by omega) a5 k0 k1)) e⟩
   .have n3:¬B T 3=true:=fun b=>by
     by_cases N:(B T 6)=true
     .have c:=d.2 ⟨b,N⟩;exact b2 (al.2 ⟨c,by cases hb:(B T 43);rfl;exact absurd (M.2 ⟨c,hb⟩) g⟩)
     .exact b1 (e8.2 ⟨b,by simpa using N⟩)
    have ei:¬I T 1 < ((L T 0)).length:=fun h=>n3 (x.2 (by rw[j];exact h));refine⟨fun _ p q hq hp=>v3 p q hq (by omega),fun _=>by simpa using g⟩
  first|exact a8|exact Bool.eq_iff_iff.2 a8
theorem WJ:Ae Try.prog 62 Dw:=by
 refine Aq (l:=[]) BU (by intro p h;exact absurd h (by simp)) oF (by kernel_rfl) fun T us K F v e D a=>?_;change us.length=1 at v;obtain⟨⟨b,J⟩,-⟩:=D;replace b:(L T 0).length<=140737488355328:=b;have g:∀u∈(L T 0),AK AD KB u:=fun u M=>by
  obtain⟨i,Y⟩:=uH.1 M;exact J i u Y
 have H:aL us 0=L T 0:=inL F v (by decide);clear K;rw[ti,ti,ti] at a;have q:=a.left;replace a:=a.right;have r:=a.left;replace a:=a.right;have d:=a.left;replace a:=a.right;obtain⟨W,c⟩:=AN e (by kernel_rfl) q;obtain⟨Q,s,j,O⟩:=fR b g c d r;have o:vz T (I T 1):=by
  have k:L T 0=L T 0:=rfl;have w:=j;exact w
 have ao:((L T 0)).length<=140737488355328/\∀u∈(L T 0),AK AD KB u:=by
  have k:L T 0=L T 0:=rfl;have w:=j;rw[k];exact⟨b,g⟩
 obtain⟨z,C,X,N,P,y,A,t⟩:=TI o ao (s.append (CM (fun _ _=>rfl) c)) d;have e:=t.append c;clear q d r c s t;obtain⟨x,E⟩:=At (R:=[.b]) (rs:=Y5) e (by kernel_rfl) a;have V:=pM b g j O C N P o ao z y A x;refine⟨⟨(fun _=>Q),trivial⟩,E.trans ?_⟩;exact (lc (by show U.bool (B T 48)= .bool (H8 us);unfold H8;rw[H];exact vD U.bool V) rfl)
def Cb:List U->Int:=fun us=>(AO (aL us 0))
def Di:AZ:={ sh:=[.one (.list [k64,k64,k64,.bool,.str,.str,.bool,k64,k64])],blks:=[],outs:=[(.s "rCheckL.0",Bm Cb)],c:=(DK 1),m':=[],pre:=[] }
def WZ:List En:=[vT 1 0,
 ⟨2,.lt,[.c (.int 200),.e 1]⟩,
 vQ 3 2]
def Mp:List En:=WZ
def Wo:List En:=[vT 5 0,
 vO 6 4 5,
 vK 7 3 6,
 vM 8 3 6,
 vU 9 0 4,
 vP 10 0 4,
 vR 11 0 4,
 vX 12 0 4,
 vV 13 0 4,
 vW 14 0 4,
 vY 15 0 4,
 vZ 16 0 4,
 vd 17 0 4,
 ⟨18,.outI "rCheckSh.0" Fq,[.e 9,.e 10,.e 11,.e 12,.e 13,.e 14,.e 15,.e 16,.e 17]⟩,
 ⟨19,.ne,[.e 18,.c (.int 0)]⟩,
 vK 20 7 19]
def Wp:List En:=[vM 21 7 19,
 ⟨22,.w2 .i64 .add,[.e 4,.c (.int 1)]⟩]
def EK:List En:=Wo++(Wp)
def Ra:List ObE:=[⟨some 7,.inl,[.e 4,.e 0]⟩]
def I4:Ac:=mkD 4 1 EK 21 [.e 22] Ra [0,3]
def Mj:List Rf:=[.e 0,.e 3,.c (.int 0)]
def Wi:List En:=[⟨23,.outB "rsound.0" H8,[.e 0]⟩,
 vK 24 8 23,
 vM 25 8 23,
 ⟨26,.ite .i,[.e 25,.c (.int 12),.c (.int 0)]⟩,
 vN 27 25 24,
 ⟨28,.ite .i,[.e 20,.c (.int 2),.e 26]⟩,
 vN 29 20 27,
 ⟨30,.ite .i,[.e 2,.c (.int 6),.e 28]⟩,
 vN 31 2 29]
def RM:List En:=Wi
def lT:List ObE:=[⟨some 3,.owes I4,[.e 0,.e 3,.c (.int 0)]⟩]
def V4:List Rf:=[.e 30]
theorem ki:Di.sees V4 (Di.run Try.prog [(22,Ey),(62,Dw)] Aa 3000 20 21)=some ((Mp++((Ag I4 [.i] Mj)++(EK++(RM)))).map En.be,lT.map ObE.be,[]):=by kernel_rfl
abbrev v7(T:Tab)(a:Int):Prop:=0<=a/\a <=((L T 0)).length/\(((L T 0)).take a.toNat).all DV=true
theorem bT (ao:wT T)(E:AJ T (AM (Ak 0 Di.ks) Mp))(C:AU T (EK.map En.be))(D:AU T ((Ag I4 [.i] Mj).map En.be)):
  (I4).owes (Mj.map (Rf.eval T))/\AJ T (hds 4 [.i])/\(v7 T (I T 4))/\¬B T 21=true:=by
 refine Ax (nh:=4) (k:=1) (pcn:=21) (aO:=23) (y:=EK) (J:=Ra) (nxt:=[.e 22]) (H:=[.c (.int 0)]) (fv:=[0,3]) (R:=[.i]) (by kernel_rfl) rfl rfl rfl rfl E (by kernel_rfl) (by kernel_rfl) C (Ai D) (fun s=>v7 T (aI s 0)) (fun s=>(((L T 0)).length - (aI s 0)).toNat) ?_ ?_
 .show v7 T (0:Int);clear E C D;exact⟨by omega,by omega,by simp⟩
 .intro A F g l;replace l:v7 T (I A 4):=l;clear E C D;replace g:AF A EK:=g;obtain⟨o,g⟩:=g.cut;have M:=g;clear g;have z:L A 0=L T 0:=fvL (F 0 (by decide));have al:B A 3=B T 3:=fvB (F 3 (by decide));clear F
  suffices Z:(B A 7=true->0<=I A 4/\I A 4 < ((L A 0)).length)/\(B A 21=true->(v7 T (I A 22)))/\(B A 21=true->(((L T 0)).length - (I A 22)).toNat < (((L T 0)).length - (I A 4)).toNat) from
   let⟨r0,nx,mz⟩:=Z;⟨⟨r0,trivial⟩,fun e=>⟨nx e,mz e⟩⟩
  refine⟨?_,?_,?_⟩
  .obtain⟨b,c,d,-⟩:=o;simp only[AE,AI,zR,zL] at b c d;obtain⟨Q,V,K⟩:=l;intro e;have j:=c.1 (d.1 e).2;rw[b] at j;omega
  .obtain⟨b,c,d,-,x,p,q,-,r,t,-,u,v,w,N,-⟩:=o;obtain⟨h,i,-⟩:=M;replace w:I A 18=(Eh (I A 9) (I A 10) (I A 11) (S A 13) (S A 14) (I A 16) (I A 17)):=w;simp only[AE,AI,zN,zR,w2P,zL] at b c d x p q r t u v N h i;obtain⟨Q,V,K⟩:=l;intro e;have P:=h.1 e;have j:=c.1 (d.1 P.1).2;rw[b,z] at j;have W:=i (by omega) (by omega);have Y:(I A 4).toNat < ((L T 0)).length:=by omega
   rw[z] at x p q r t u v;refine⟨by omega,by omega,?_⟩;rw[W,show ((I A 4)+1).toNat=(I A 4).toNat+1 by omega,Co Y,R2];refine⟨K,?_⟩;have X:¬ ¬I A 18=0:=fun a=>by
    have:=N.2 a;simp[this] at P
   have O:(I A 18)=0:=uc X;rw[w,x,p,q,r,t,u,v] at O;exact decide_eq_true O
  .obtain⟨b,c,d,-⟩:=o;obtain⟨h,i,-⟩:=M;simp only[AE,AI,zN,zR,w2P,zL] at b c d h i;obtain⟨Q,V,K⟩:=l;intro e;have j:=c.1 (d.1 (h.1 e).1).2;rw[b,z] at j;have W:=i (by omega) (by omega);omega
theorem iw (a3:wT T)(a2:∀u∈(L T 0),AK AD KB u)(ao:v7 T (I T 4))(a1:¬B T 21=true)(r:AF T Mp)(c:AF T EK)(s:AF T RM):
  ((I T 30)=(AO (L T 0))):=by
 have X:=r;clear r;obtain⟨Y,c⟩:=c.cut;have Z:=c;clear c;have F3:=s;clear s
 .obtain⟨h,j,H,-⟩:=X;obtain⟨o,p,q,K,M,t,v,-,w,x,-,y,z,i,A,k,-⟩:=Y;obtain⟨D,-⟩:=Z;obtain⟨d,-,l,E,-,F,-,J,-⟩:=F3;replace i:I T 18=(Eh (I T 9) (I T 10) (I T 11) (S T 13) (S T 14) (I T 16) (I T 17)):=i;replace d:B T 23=(CT (L T 0)):=d;simp only[AE,AI,zN,zR,zL,zS] at h j H o p q K M t v w x y z A k D l E F J;obtain⟨v1,v2,W⟩:=ao;unfold AO;rw[J];by_cases O:(B T 2)=true
  .have g:=j.1 O;rw[h] at g;rw[vC O,vC (by omega)]
  .have g:¬200 < I T 1:=fun a=>O (j.2 a);rw[h] at g;have P:=H.2 (by simpa using O);rw[vA O,vA (by omega),F];by_cases e:(I T 4) < I T 5
   .have al:(I T 4).toNat < ((L T 0)).length:=by rw[o] at e;omega
    have Q:=q.2 ⟨P,p.2 e⟩;have b:(B T 19)=true:=by
     by_cases b:(B T 19)=true
     .exact b
     .exact absurd (D.2 ⟨Q,by simpa using b⟩) a1
    have a5:¬((L T 0)).all DV=true:=fun a=>by
     have C:=of_decide_eq_true (uK.1 a _ (Az al));have N:=A.1 b;rw[i,M,t,v,w,x,y,z] at N;exact N C
    rw[vC (k.2 ⟨Q,b⟩),vC a5]
   .have V:(B T 6)=false:=Bool.eq_false_iff.2 fun a=>e (p.1 a);have a0:¬B T 20=true:=fun a=>by have:=(q.1 (k.1 a).1).2;rw[V] at this;cases this
    have ei:(I T 4).toNat=((L T 0)).length:=by rw[o] at e;omega
    rw[ei,uz] at W;rw[vA a0,vA (fun a=>a W),E];have h8:=K.2 ⟨P,V⟩;by_cases aa:CT (L T 0)=true
    .rw[vC aa,vA (fun a=>by have:=(l.1 a).2;rw[d,aa] at this;cases this)]
    .rw[vA aa,vC (l.2 ⟨h8,by rw[d];simpa using aa⟩)]
theorem PF:Ae Try.prog 21 Di:=by
 refine Aq (l:=[(22,Ey),(62,Dw)]) BU (by simp only[uA];exact⟨RU,WJ,fun _ h=>absurd h (by simp)⟩) ki (by kernel_rfl) fun T us A w o d s a=>?_;change us.length=1 at o;obtain⟨⟨b,y⟩,-⟩:=s;replace b:(L T 0).length<=140737488355328:=b;have z:∀u∈(L T 0),AK AD KB u:=fun u C=>by
  obtain⟨i,Y⟩:=uH.1 C;exact y i u Y
 have x:aL us 0=L T 0:=inL w o (by decide);clear A;rw[ti,ti,ti] at a;have g:=a.left;replace a:=a.right;have j:=a.left;replace a:=a.right;have c:=a.left;replace a:=a.right;obtain⟨p,e⟩:=AN d (by kernel_rfl) g;obtain⟨F,k,D,E⟩:=bT b e c j;have t:=(AN (k.append e) (l:=EK) (by kernel_rfl) c);obtain⟨r,d⟩:=t;clear g c j e k;obtain⟨q,v⟩:=At (R:=[.i]) (rs:=V4) d (by kernel_rfl) a;have H:=iw b z D E p r q;refine⟨⟨(fun _=>F),trivial⟩,v.trans ?_⟩;exact (lc (by show U.int (I T 30)= .int (Cb us);unfold Cb;rw[x];exact vD U.int H) rfl)
def KL:List U->List (List U):=fun us=>(Ji (aL us 0) (aL us 1))
def KH:List U->Int:=fun us=>(Fr (aL us 0) (aL us 1))
def Ew:AZ:={ sh:=[.one (.list [k64,k64,k64,.bool,.str,.str,.bool,k64,k64]),.one (.list [k64,k64,k64,.bool,.str,.str,.bool,k64,k64])],blks:=[],outs:=[(.s "rMerge.0",Cw KL),(.s "rMerge.1",Bm KH)],c:= .tup [.ro 2 [k64,k64,k64,.bool,.str,.str,.bool,k64,k64],(DK 3)],m':=[],pre:=[] }
def Z7:List En:=[⟨2,.outI "rCheckL.0" Cb,[.e 0]⟩,
 ⟨3,.ne,[.e 2,.c (.int 0)]⟩,
 ⟨4,.outI "rCheckL.0" Cb,[.e 0]⟩,
 vQ 5 3,
 ⟨6,.outI "rCheckL.0" Cb,[.e 1]⟩,
 ⟨7,.ne,[.e 6,.c (.int 0)]⟩,
 vK 8 5 7,
 ⟨9,.outI "rCheckL.0" Cb,[.e 1]⟩,
 vM 10 5 7,
 ⟨11,.id .l,[.c (.list [])]⟩,
 vl 12 11 0,
 vl 13 12 1,
 ⟨14,.id .l,[.c (.list [])]⟩]
def FC:List En:=Z7
def Uo:List En:=[vT 17 13,
 vO 18 15 17,
 vK 19 10 18,
 vM 20 10 18]
def Ec:List En:=Uo
def Yf:List En:=[vT 23 16,
 vO 24 22 23,
 vK 25 19 24,
 vM 26 19 24,
 vM 27 25 21,
 vM 28 25 21,
 vU 29 16 22,
 vP 30 16 22,
 vR 31 16 22,
 vX 32 16 22,
 vV 33 16 22,
 vW 34 16 22,
 vY 35 16 22,
 vZ 36 16 22,
 vd 37 16 22,
 vM 38 25 21]
def YT:List En:=[vM 39 25 21,
 vU 40 13 15,
 vP 41 13 15,
 vR 42 13 15,
 vX 43 13 15,
 vV 44 13 15,
 vW 45 13 15,
 vY 46 13 15,
 vZ 47 13 15,
 vd 48 13 15,
 ⟨49,.eqs [.i,.i,.i,.b,.s,.s,.b,.i,.i],[.e 29,.e 40,.e 30,.e 41,.e 31,.e 42,.e 32,.e 43,.e 33,.e 44,.e 34,.e 45,.e 35,.e 46,.e 36,.e 47,.e 37,.e 48]⟩,
 vN 50 21 49,
 ⟨51,.w2 .i64 .add,[.e 22,.c (.int 1)]⟩]
def Db:List En:=Yf++(YT)
def UU:List ObE:=[⟨some 39,.inl,[.e 15,.e 13]⟩,⟨some 28,.inl,[.e 22,.e 16]⟩]
def Hl:Ac:=mkD 21 2 Db 25 [.e 50,.e 51] UU [13,15,16,19]
def J5:List Rf:=[.e 13,.e 15,.e 16,.e 19,.c (.bool false),.c (.int 0)]
def VD:List En:=[vK 52 26 21,
 vM 53 26 21,
 vU 54 13 15,
 vP 55 13 15,
 vR 56 13 15,
 vX 57 13 15,
 vV 58 13 15,
 vW 59 13 15,
 vY 60 13 15,
 vZ 61 13 15,
 vd 62 13 15,
 ⟨63,.row 1 9 [.i,.i,.i,.b,.s,.s,.b,.i,.i],[.e 54,.e 55,.e 56,.e 57,.e 58,.e 59,.e 60,.e 61,.e 62]⟩,
 vl 64 16 63,
 vf 65 21 16 64,
 ⟨66,.ite .l,[.e 21,.c (.list []),.e 63]⟩,
 ⟨67,.w2 .i64 .add,[.e 15,.c (.int 1)]⟩]
def Hn:List En:=VD
def GW:List En:=Ec++((Ag Hl [.b,.i] J5)++(Db++(Hn)))
def S3:List ObE:=[⟨some 53,.fits 88,[.e 16,.e 63]⟩,⟨some 53,.inl,[.e 15,.e 13]⟩,⟨some 19,.owes Hl,[.e 13,.e 15,.e 16,.e 19,.c (.bool false),.c (.int 0)]⟩]
def KC:Ac:=mkD 15 2 GW 26 [.e 67,.e 65] S3 [13,10]
def Nz:List Rf:=[.e 13,.e 10,.c (.int 0),.e 14]
def aP:List En:=[vT 68 16,
 ⟨69,.lt,[.c (.int 200),.e 68]⟩,
 vK 70 20 69,
 vM 71 20 69,
 ⟨72,.outB "rsound.0" H8,[.e 16]⟩,
 vK 73 71 72,
 vM 74 71 72,
 ⟨75,.ite .i,[.e 74,.c (.int 12),.c (.int 0)]⟩,
 ⟨76,.ite .l,[.e 74,.c (.list []),.e 16]⟩,
 vN 77 74 73,
 ⟨78,.ite .i,[.e 70,.c (.int 6),.e 75]⟩,
 ⟨79,.ite .l,[.e 70,.c (.list []),.e 76]⟩,
 vN 80 70 77,
 ⟨81,.ite .l,[.e 8,.c (.list []),.e 13]⟩,
 ⟨82,.ite .l,[.e 8,.c (.list []),.e 16]⟩,
 ve 83 8 9 78]
def ZH:List En:=[⟨84,.ite .l,[.e 8,.c (.list []),.e 79]⟩,
 vN 85 8 80,
 ⟨86,.ite .l,[.e 3,.c (.list []),.e 81]⟩,
 ⟨87,.ite .l,[.e 3,.c (.list []),.e 82]⟩,
 ve 88 3 4 83,
 ⟨89,.ite .l,[.e 3,.c (.list []),.e 84]⟩,
 vN 90 3 85]
def Ts:List En:=aP++(ZH)
def nH:List ObE:=[⟨some 10,.owes KC,[.e 13,.e 10,.c (.int 0),.e 14]⟩,
 ⟨some 10,.fits 88,[.e 12,.e 1]⟩,
 ⟨some 10,.fits 88,[.e 11,.e 0]⟩]
def Y4:List Rf:=[.e 89,.e 88]
theorem oy:Ew.sees Y4 (Ew.run Try.prog [(21,Di),(62,Dw)] Aa 3000 20 45)=some ((FC++((Ag KC [.i,.l] Nz)++(GW++(Ts)))).map En.be,nH.map ObE.be,[]):=by kernel_rfl
theorem bk (H:wT T)(z:∀u∈(L T 0),AK AD KB u)(J:(L T 1).length<=140737488355328)(A:∀u∈(L T 1),AK AD KB u)(k:AF T FC):
  ((L T 14)=[])/\((L T 13)=L T 0++L T 1/\(∀u∈(L T 13),AK AD KB u)/\((L T 13)).length<=281474976710656)/\((B T 10)=true->((L T 13)).length<=400):=by
 have g:=k;clear k;have w:(L T 14)=[]:=by
  obtain⟨-,-,-,-,-,-,-,-,-,-,-,-,q,-⟩:=g;simp only[AE,zR,zL,zS] at q;exact q
 have D:(L T 13)=L T 0++L T 1/\(∀u∈(L T 13),AK AD KB u)/\((L T 13)).length<=281474976710656:=by
  obtain⟨-,-,-,-,-,-,-,-,-,b,c,d,-⟩:=g;simp only[AE,AI,zR,zL,zS] at b c d;have e:(L T 13)=L T 0++L T 1:=by rw[d,c,b];rfl
  rw[e];exact⟨rfl,fun u C=>(uY.1 C).elim (z u) (A u),by rw[tq];omega⟩
 have v:(B T 10)=true->((L T 13)).length<=400:=by
  obtain⟨i,r,-,s,j,t,-,-,p,b,c,d,-⟩:=g;replace i:I T 2=(AO (L T 0)):=i;replace j:I T 6=(AO (L T 1)):=j;simp only[AE,AI,zN,zR,zL,zS] at r s t p b c d;intro h;obtain⟨x,y⟩:=p.1 h;have E:¬B T 3=true:=by simpa using s.1 x
  have F:¬B T 7=true:=by simpa using y
  have l:(I T 2)=0:=uc fun a=>E (r.2 a);have o:(I T 6)=0:=uc fun a=>F (t.2 a);rw[i] at l;rw[j] at o;have:=EF l;have:=EF o;rw[d,c,b];show ((([]++L T 0)++L T 1).length)<=400;simp only[tq,ub];omega
 exact⟨w,D,v⟩
abbrev wU(T:Tab):Prop:=0<=I T 15/\I T 15<=((L T 13)).length/\((L T 13)).length<=281474976710656/\(∀u∈(L T 13),AK AD KB u)/\L T 16=ddS (((L T 13)).take (I T 15).toNat)
theorem bu (i:wU T)(a:AF T Ec):
  ((B T 19)=true->I T 15 < ((L T 13)).length):=by
 have e:=a;clear a;have g:(B T 19)=true->I T 15 < ((L T 13)).length:=by
  obtain⟨b,c,d,-⟩:=e;simp only[AE,AI,zR,zL] at b c d;intro h;have:=c.1 (d.1 h).2;rw[b] at this;exact this
 exact g
abbrev v8(T:Tab)(b:Bool)(a:Int):Prop:=0<=a/\a <=((L T 16)).length/\(b=true↔((L T 13)).getD (I T 15).toNat []∈((L T 16)).take a.toNat)
abbrev wV(T:Tab):Prop:=(B T 19)=true->I T 15 < ((L T 13)).length
theorem eX (z:wU T)(a9:wV T)(E:AJ T (AM (hds 15 [.i,.l]++DN [13,10] (AM (Ak 0 Ew.ks) FC)) Ec))(C:AU T (Db.map En.be))(D:AU T ((Ag Hl [.b,.i] J5).map En.be)):
  (Hl).owes (J5.map (Rf.eval T))/\AJ T (hds 21 [.b,.i])/\(v8 T (B T 21) (I T 22))/\¬B T 25=true:=by
 refine Ax (nh:=21) (k:=2) (pcn:=25) (aO:=52) (y:=Db) (J:=UU) (nxt:=[.e 50,.e 51]) (H:=[.c (.bool false),.c (.int 0)]) (fv:=[13,15,16,19]) (R:=[.b,.i]) (by kernel_rfl) rfl rfl rfl rfl E (by kernel_rfl) (by kernel_rfl) C (Ai D) (fun s=>v8 T (aB s 0) (aI s 1)) (fun s=>(((L T 16)).length - (aI s 1)).toNat) ?_ ?_
 .show v8 T (false:Bool) (0:Int);clear E C D;exact⟨uf _,by omega,by simp⟩
 .intro A p g h;replace h:v8 T (B A 21) (I A 22):=h;clear E C D;replace g:AF A Db:=g;obtain⟨r,g⟩:=g.cut;have w:=g;clear g;have a6:L A 13=L T 13:=fvL (p 13 (by decide));have a7:I A 15=I T 15:=fvI (p 15 (by decide));have j:L A 16=L T 16:=fvL (p 16 (by decide));have a8:B A 19=B T 19:=fvB (p 19 (by decide));clear p
  suffices hz:(B A 39=true->0<=I A 15/\I A 15 < ((L A 13)).length)/\(B A 28=true->0<=I A 22/\I A 22 < ((L A 16)).length)/\(B A 25=true->(v8 T (B A 50) (I A 51)))/\(B A 25=true->(((L T 16)).length - (I A 51)).toNat < (((L T 16)).length - (I A 22)).toNat) from
   let⟨r0,ax,nx,mz⟩:=hz;⟨⟨r0,ax,trivial⟩,fun b=>⟨nx b,mz b⟩⟩
  refine⟨?_,?_,?_,?_⟩
  .obtain⟨-,-,a,-⟩:=r;obtain⟨Z,-⟩:=w;simp only[AE,AI,zN,zR] at a Z;obtain⟨aJ,F,v⟩:=h;obtain⟨q1,q2,q3,t,q⟩:=z;intro b;have e:=a.1 (Z.1 b).1;have hh:=a9 (by rw[<-a8];exact e.1);rw[a6,a7];omega
  .obtain⟨c,d,a,-,-,K,-⟩:=r;simp only[AE,AI,zN,zR,zL] at c d a K;obtain⟨aJ,F,v⟩:=h;intro b;have e:=a.1 (K.1 b).1;have o:=d.1 e.2;rw[c,j] at o;rw[j];omega
  .obtain⟨c,d,a,-,-,-,M,N,O,P,Q,V,W,X,Y,-⟩:=r;obtain⟨-,ab,ad,ag,al,ao,a0,a1,a2,a3,a4,a5,i,-⟩:=w;simp only[AE,AI,zR,DU,and_true,w2P,zL,zS] at c d a M N O P Q V W X Y ab ad ag al ao a0 a1 a2 a3 a4 a5 i;obtain⟨aJ,F,v⟩:=h;obtain⟨q1,q2,q3,t,q⟩:=z;intro b;have e:=a.1 b;have o:=d.1 e.2;rw[c,j] at o;have hh:=a9 (by rw[<-a8];exact e.1);have x:=NK (l:=((L T 13)).take (I T 15).toNat);rw[<-q,uX] at x;have bl:=i (by omega) (by omega);have ba:(I A 22).toNat < ((L T 16)).length:=by omega
   have bs:∀u∈(L T 16),AK AD KB u:=fun u hu=>by rw[q] at hu;exact t u (List.mem_of_mem_take (dG.1 hu))
   have av:=J7 (show TyB ((L T 16)) from bs) (show TyB ((L T 13)) from t) ba (show (I T 15).toNat < ((L T 13)).length by omega);have bx:(B A 49)=true↔((L T 16)).getD (I A 22).toNat []=((L T 13)).getD (I T 15).toNat []:=by
    rw[<-av,a4,M,N,O,P,Q,V,W,X,Y,ab,ad,ag,al,ao,a0,a1,a2,a3,j,a6,a7]
   refine⟨by omega,by omega,?_⟩;rw[bl,show ((I A 22)+1).toNat=(I A 22).toNat+1 by omega,mB ba,a5,<-v,<-bx]
  .obtain⟨c,d,a,-⟩:=r;obtain⟨-,-,-,-,-,-,-,-,-,-,-,-,i,-⟩:=w;simp only[AE,AI,zR,w2P,zL] at c d a i;obtain⟨aJ,F,v⟩:=h;obtain⟨q1,q2,q3,t,q⟩:=z;intro b;have e:=a.1 b;have o:=d.1 e.2;rw[c,j] at o;have x:=NK (l:=((L T 13)).take (I T 15).toNat);rw[<-q,uX] at x;have bl:=i (by omega) (by omega);omega
theorem Tl (g:wU T)(c:AJ T (hds 15 [.i,.l]++DN [13,10] (AM (Ak 0 Ew.ks) FC)))(a:AU T (GW.map En.be)):
  (AF T Ec)/\((B T 19)=true->I T 15 < ((L T 13)).length)/\((Hl).owes (J5.map (Rf.eval T)))/\(v8 T (B T 21) (I T 22))/\(¬B T 25=true)/\(AF T Db)/\(AF T Hn)/\AJ T (AM (AM (hds 21 [.b,.i]++(AM (hds 15 [.i,.l]++DN [13,10] (AM (Ak 0 Ew.ks) FC)) Ec)) Db) Hn):=by
 unfold GW at a;rw[ti,ti,ti] at a;have i:=a.left;replace a:=a.right;have j:=a.left;replace a:=a.right;have b:=a.left;replace a:=a.right;obtain⟨e,d⟩:=AN c (by kernel_rfl) i;have h:=bu g e;obtain⟨u,k,s,t⟩:=eX g h d b j;have q:=(AN (k.append d) (l:=Db) (by kernel_rfl) b);obtain⟨o,c⟩:=q;clear i b j d k;obtain⟨p,r⟩:=AN c (by kernel_rfl) a;exact⟨e,h,u,s,t,o,p,r⟩
abbrev wa(T:Tab)(a:Int)(b:List (List U)):Prop:=0<=a/\a <=((L T 13)).length/\b=ddS (((L T 13)).take a.toNat)
abbrev wW(T:Tab):Prop:=(L T 13)=L T 0++L T 1/\(∀u∈(L T 13),AK AD KB u)/\((L T 13)).length<=281474976710656
abbrev wX(T:Tab):Prop:=(B T 10)=true->((L T 13)).length<=400
theorem gv (bm:(L T 14)=[])(K:wW T)(bj:wX T)(P:AJ T (AM (Ak 0 Ew.ks) FC))(N:AU T (GW.map En.be))(O:AU T ((Ag KC [.i,.l] Nz).map En.be)):
  (KC).owes (Nz.map (Rf.eval T))/\AJ T (hds 15 [.i,.l])/\(wa T (I T 15) (L T 16))/\¬B T 26=true:=by
 refine HC (nh:=15) (k:=2) (pcn:=26) (aO:=68) (y:=GW) (J:=S3) (nxt:=[.e 67,.e 65]) (H:=[.c (.int 0),.e 14]) (fv:=[13,10]) (R:=[.i,.l]) (by kernel_rfl) rfl rfl rfl rfl P (by kernel_rfl) N (Ai O) (fun s=>wa T (aI s 0) (aL s 1)) (fun s=>(((L T 13)).length - (aI s 0)).toNat) ?_ ?_
 .show wa T (0:Int) (L T 14);clear P N O;exact⟨uf _,by omega,bm⟩
 .intro A Q a7 hE j;replace j:wa T (I A 15) (L A 16):=j;have g:L A 13=L T 13:=fvL (Q 13 (by decide));have bc:B A 10=B T 10:=fvB (Q 10 (by decide));clear Q;clear P N O;have g1:0<=I A 15/\I A 15<=((L A 13)).length/\((L A 13)).length<=281474976710656/\(∀u∈(L A 13),AK AD KB u)/\L A 16=ddS (((L A 13)).take (I A 15).toNat):=by
   obtain⟨v,w,o⟩:=j;rw[g];exact⟨v,w,K.2.2,K.2.1,o⟩
  obtain⟨W,p,b4,b0,ca,z,X,a8⟩:=Tl g1 a7 hE;clear a7 hE;have hN:=Bp a8 (ar:=[.i,.l]) (rs:=[.e 67,.e 65]) (by kernel_rfl);clear a8;have C:=W;clear W;obtain⟨D,z⟩:=z.cut;have F2:=z;clear z;have E:=X;clear X
  suffices hz:(B A 53=true->(((L A 16)).length+((L A 63)).length)*88<=140737488355328)/\(B A 53=true->0<=I A 15/\I A 15 < ((L A 13)).length)/\(B A 26=true->(wa T (I A 67) (L A 65)))/\(B A 26=true->(((L T 13)).length - (I A 67)).toNat < (((L T 13)).length - (I A 15)).toNat) from
   let⟨r0,ax,nx,mz⟩:=hz;⟨hN,⟨r0,ax,(fun _=>b4),trivial⟩,fun c=>⟨nx c,mz c⟩⟩
  refine⟨?_,?_,?_,?_⟩
  .obtain⟨-,-,a,-⟩:=C;obtain⟨-,-,-,b,-⟩:=D;obtain⟨-,q,-,-,-,-,-,-,-,-,-,r,-⟩:=E;simp only[AE,AI,zN,zR,zL,zS,uR,Bh,zW] at a b q r;obtain⟨v,w,o⟩:=j;intro c;have i:=a.1 (b.1 (q.1 c).1).1;have bl:(B T 10)=true:=by rw[<-bc];exact i.1
   have h:=bj bl;have:=NK (l:=((L T 13)).take (I A 15).toNat);rw[uX] at this;rw[o,r];show ((ddS (((L T 13)).take (I A 15).toNat)).length+1)*88<=_;omega
  .obtain⟨d,e,a,-⟩:=C;obtain⟨-,-,-,b,-⟩:=D;obtain⟨-,q,-⟩:=E;simp only[AE,AI,zN,zR,zL] at d e a b q;obtain⟨v,w,o⟩:=j;intro c;have i:=a.1 (b.1 (q.1 c).1).1;have p:=e.1 i.2;rw[d,g] at p;rw[g];omega
  .obtain⟨d,e,a,-⟩:=C;obtain⟨Y,Z,-,b,-⟩:=D;obtain⟨-,-,ab,ad,ag,al,ao,a0,a1,a2,a3,r,a4,a5,-,t,-⟩:=E;simp only[AE,AI,zN,zR,w2P,zL,zS,uR,Bh,zW] at d e a Y Z b ab ad ag al ao a0 a1 a2 a3 r a4 a5 t;obtain⟨v,w,o⟩:=j;obtain⟨p1,p2,p3⟩:=K;intro c;have M:=b.1 c;have i:=a.1 M.1;have p:=e.1 i.2;rw[d,g] at p;obtain⟨aJ,w2,V⟩:=b0;have b2:¬I A 22 < I A 23:=fun h=>by have:=Z.2 h;rw[this] at M;cases M.2
   rw[Y] at b2;have bb:=t (by omega) (by omega);have a9:(I A 15).toNat < ((L T 13)).length:=by omega
   have bt:(I A 22).toNat=((L A 16)).length:=by omega
   rw[bt,uz,g] at V;refine⟨by omega,by omega,?_⟩;rw[bb,show ((I A 15)+1).toNat=(I A 15).toNat+1 by omega,Zk a9,<-o,a5];by_cases F:(B A 21)=true
   .rw[vC F,Zx (V.1 F)]
   .rw[vA F,Us (fun h=>F (V.2 h)),a4,r];show (L A 16)++[[U.int (I A 54),U.int (I A 55),U.int (I A 56),U.bool (B A 57),U.str (S A 58),U.str (S A 59),U.bool (B A 60),U.int (I A 61),U.int (I A 62)]]=_;rw[ab,ad,ag,al,ao,a0,a1,a2,a3,g];exact vD (fun x=>(L A 16)++[x]) (FI (p2 _ (Az a9)))
  .obtain⟨d,e,a,-⟩:=C;obtain⟨-,-,-,b,-⟩:=D;obtain⟨-,-,-,-,-,-,-,-,-,-,-,-,-,-,-,t,-⟩:=E;simp only[AE,AI,zN,zR,w2P,zL] at d e a b t;obtain⟨v,w,o⟩:=j;obtain⟨p1,p2,p3⟩:=K;intro c;have i:=a.1 (b.1 c).1;have p:=e.1 i.2;rw[d,g] at p;have bb:=t (by omega) (by omega);omega
theorem oQ (cf:wT T)(cc:∀u∈(L T 0),AK AD KB u)(ch:(L T 1).length<=140737488355328)(ce:∀u∈(L T 1),AK AD KB u)(cb:(L T 14)=[])(X:wW T)(bc:wX T)(b2:wa T (I T 15) (L T 16))(b3:¬B T 26=true)(bj:wV T)(ci:v8 T (B T 21) (I T 22))(b4:¬B T 25=true)(g1:wU T)(A0:AF T FC)(ad:AF T Ec)(A:AF T Db)(ag:AF T Hn)(z:AF T Ts):
  ((L T 89)=(Ji (L T 0) (L T 1)))/\
  ((I T 88)=(Fr (L T 0) (L T 1)))/\
  (B T 10=true->(((L T 12)).length+((L T 1)).length)*88<=140737488355328)/\
  (B T 10=true->(((L T 11)).length+((L T 0)).length)*88<=140737488355328):=by
 have C:=A0;clear A0;have F1:=ad;clear ad;obtain⟨F2,A⟩:=A.cut;have F3:=A;clear A;have F4:=ag;clear ag;obtain⟨F5,z⟩:=z.cut;have F6:=z;clear z;have bb:(B T 10)=true->B T 20=true/\L T 16=ddS ((L T 0)++L T 1):=by
  obtain⟨a1,a2,a3,a4,-⟩:=F1;obtain⟨-,-,a5,a6,-⟩:=F2;simp only[AE,AI,zN,zR,zL] at a1 a2 a3 a4 a5 a6;obtain⟨v1,v2,v3⟩:=b2;obtain⟨p1,p2,p3⟩:=X;intro bi;have Y:(B T 18)=false:=Bool.eq_false_iff.2 fun bj=>by
   have bl:=a3.2 ⟨bi,bj⟩;by_cases bm:(B T 24)=true
   .exact b4 (a5.2 ⟨bl,bm⟩)
   .exact b3 (a6.2 ⟨bl,by simpa using bm⟩)
  have h:¬I T 15 < I T 17:=fun h=>by have:=a2.2 h;rw[this] at Y;cases Y
  rw[a1] at h;refine⟨a4.2 ⟨bi,Y⟩,?_⟩;rw[v3,<-p1,show (I T 15).toNat=((L T 13)).length by omega,uz]
 have M:(I T 88)=Fr (L T 0) (L T 1):=by
  obtain⟨i,s,j,t,k,v,d,l,q,-⟩:=C;obtain⟨N,O,P,a7,D,-,Q,w,-,-,x,-,-,-,-,o,-⟩:=F5;obtain⟨-,-,-,-,e,-⟩:=F6;replace i:I T 2=(AO (L T 0)):=i;replace j:I T 4=(AO (L T 0)):=j;replace k:I T 6=(AO (L T 1)):=k;replace l:I T 9=(AO (L T 1)):=l;replace D:B T 72=(CT (L T 16)):=D;simp only[AE,AI,zN,zR,zL,zS] at s t v d q N O P a7 Q w x o e;have J:(B T 3)=true↔¬AO (L T 0)=0:=by rw[s,i]
  have K:(B T 7)=true↔¬AO (L T 1)=0:=by rw[v,k]
  unfold Fr;by_cases b:(B T 3)=true
  .rw[e,vC b,vC (J.1 b)];exact j
  .have b0:=uc fun a=>b (J.2 a);have p:=t.2 (by simpa using b);rw[e,vA b,vA (fun a=>a b0),o];by_cases c:(B T 7)=true
   .rw[vC (d.2 ⟨p,c⟩),vC (K.1 c)];exact l
   .have b1:=uc fun a=>c (K.2 a);obtain⟨W,Z⟩:=bb (q.2 ⟨p,by simpa using c⟩);rw[vA (fun h=>c (d.1 h).2),vA (fun a=>a b1),x,<-Z];by_cases y:(B T 69)=true
    .have:=O.1 y;rw[N] at this;rw[vC (P.2 ⟨W,y⟩),vC (by omega)]
    .have n:¬200 < I T 68:=fun a=>y (O.2 a);rw[N] at n;rw[vA (fun h=>y (P.1 h).2),vA (by omega),w];by_cases F:(B T 72)=true
     .rw[vA (fun h=>by have:=(Q.1 h).2;rw[F] at this;cases this),vC (by rw[<-D];exact F)]
     .rw[vC (Q.2 ⟨a7.2 ⟨W,by simpa using y⟩,by simpa using F⟩),vA (by rw[<-D];exact F)]
 refine⟨?_,?_,?_,?_⟩
 .obtain⟨i,s,j,t,k,v,d,l,q,-⟩:=C;obtain⟨-,-,-,-,-,-,-,w,a8,-,x,a9,-,-,-,o,-⟩:=F5;obtain⟨ba,-,-,-,e,V,-⟩:=F6;replace i:I T 2=(AO (L T 0)):=i;replace j:I T 4=(AO (L T 0)):=j;replace k:I T 6=(AO (L T 1)):=k;replace l:I T 9=(AO (L T 1)):=l;simp only[AE,AI,zN,zR,zL,zS] at s t v d q w a8 x a9 o ba e V;have J:(B T 3)=true↔¬AO (L T 0)=0:=by rw[s,i]
  have K:(B T 7)=true↔¬AO (L T 1)=0:=by rw[v,k]
  unfold Ji;by_cases b:(B T 3)=true
  .rw[V,vC b,vA];rw[<-M,e,vC b,j];exact J.1 b
  .have p:=t.2 (by simpa using b);rw[V,vA b,ba];by_cases c:(B T 7)=true
   .rw[vC (d.2 ⟨p,c⟩),vA];rw[<-M,e,vA b,o,vC (d.2 ⟨p,c⟩),l];exact K.1 c
   .obtain⟨W,Z⟩:=bb (q.2 ⟨p,by simpa using c⟩);have n8:¬B T 8=true:=fun h=>c (d.1 h).2;rw[vA n8,a9,<-Z,<-M,e,vA b,o,vA n8,x];by_cases E:(B T 70)=true
    .rw[vC E,vC E,vA (by decide)]
    .rw[vA E,vA E,a8,w];by_cases H:(B T 74)=true
     .rw[vC H,vC H,vA (by decide)]
     .rw[vA H,vA H,vC rfl]
 .exact M
 .obtain⟨-,-,-,-,-,-,-,-,-,r,a0,-⟩:=C;simp only[AE,AI,zR,zL,zS] at r a0;intro h;have g:=bc h;rw[X.1,tq] at g;rw[a0,r,u9];omega
 .obtain⟨-,-,-,-,-,-,-,-,-,r,-⟩:=C;simp only[AE,zR,zL,zS] at r;intro h;have g:=bc h;rw[X.1,tq] at g;rw[r,ub];omega
theorem jr:Ae Try.prog 45 Ew:=by
 refine Aq (l:=[(21,Di),(62,Dw)]) BU (by simp only[uA];exact⟨PF,WJ,fun _ h=>absurd h (by simp)⟩) oy (by kernel_rfl) fun T us W y o j O a=>?_;change us.length=2 at o;obtain⟨⟨c,Q⟩,⟨d,V⟩,-⟩:=O;replace c:(L T 0).length<=140737488355328:=c;have C:∀u∈(L T 0),AK AD KB u:=fun u k=>by
  obtain⟨i,Y⟩:=uH.1 k;exact Q i u Y
 replace d:(L T 1).length<=140737488355328:=d;have D:∀u∈(L T 1),AK AD KB u:=fun u k=>by
  obtain⟨i,Y⟩:=uH.1 k;exact V i u Y
 have z:aL us 0=L T 0:=inL y o (by decide);have A:aL us 1=L T 1:=inL y o (by decide);clear W;rw[ti,ti,ti] at a;have t:=a.left;replace a:=a.right;have v:=a.left;replace a:=a.right;have g:=a.left;replace a:=a.right;obtain⟨p,b⟩:=AN j (by kernel_rfl) t;obtain⟨s,e,r⟩:=bk c C d D p;obtain⟨ag,w,E,ab⟩:=gv s e r b g v;have q:0<=I T 15/\I T 15<=((L T 13)).length/\((L T 13)).length<=281474976710656/\(∀u∈(L T 13),AK AD KB u)/\L T 16=ddS (((L T 13)).take (I T 15).toNat):=by
  have M:L T 13=L T 13:=rfl;have a4:B T 10=B T 10:=rfl;have X:=E;obtain⟨v1,v2,v3⟩:=X;rw[M];exact⟨v1,v2,e.2.2,e.2.1,v3⟩
 obtain⟨J,N,a5,Z,ad,H,K,x⟩:=Tl q (w.append (CM (fun _ _=>rfl) b)) g;have j:=x.append b;clear t g v b w x;obtain⟨F,P⟩:=At (R:=[.l,.i]) (rs:=Y4) j (by kernel_rfl) a;obtain⟨q0,q1,r0,ax⟩:=oQ c C d D s e r E ab N Z ad q p J H K F;refine⟨⟨(fun _=>ag),r0,ax,trivial⟩,P.trans ?_⟩;exact (lc (by show U.list (L T 89)= .list (KL us);unfold KL;rw[z,A];exact vD U.list q0) (lc (by show U.int (I T 88)= .int (KH us);unfold KH;rw[z,A];exact vD U.int q1) rfl))
def N0:List U->List (List U):=fun us=>(Ar (aL us 0))
def HP:AZ:={ sh:=[.one (.list [k64,k64,k64,.bool,.str,.str,.bool,k64,k64])],blks:=[],outs:=[(.s "books1.0",Cw N0)],c:= .ro 1 [k64,k64,k64,k64,.bool,.str,.str,.bool,k64,k64],m':=[],pre:=[] }
def Xx:List En:=[⟨1,.id .l,[.c (.list [])]⟩,
 vT 2 0]
def IB:List En:=Xx
def Yz:List En:=[vO 5 3 2,
 vQ 6 5,
 vU 7 0 3,
 vP 8 0 3,
 vR 9 0 3,
 vX 10 0 3,
 vV 11 0 3,
 vW 12 0 3,
 vY 13 0 3,
 vZ 14 0 3,
 vd 15 0 3,
 ⟨16,.mget .i 1 0 [.i],[.e 4,.c (.int 0),.e 7]⟩,
 ⟨17,.mget .i 1 1 [.i],[.e 4,.c (.int 0),.e 7]⟩,
 ⟨18,.mget .i 1 2 [.i],[.e 4,.c (.int 0),.e 7]⟩,
 ⟨19,.mget .b 1 3 [.i],[.e 4,.c (.bool false),.e 7]⟩,
 ⟨20,.mget .s 1 4 [.i],[.e 4,.c (.str ⟨#[]⟩),.e 7]⟩]
def aG:List En:=[⟨21,.mget .s 1 5 [.i],[.e 4,.c (.str ⟨#[]⟩),.e 7]⟩,
 ⟨22,.mget .b 1 6 [.i],[.e 4,.c (.bool false),.e 7]⟩,
 ⟨23,.mget .i 1 7 [.i],[.e 4,.c (.int 0),.e 7]⟩,
 ⟨24,.mget .i 1 8 [.i],[.e 4,.c (.int 0),.e 7]⟩,
 ⟨25,.mhas 1 [.i],[.e 4,.e 7]⟩,
 vK 26 5 25,
 vO 27 17 8,
 ⟨28,.or,[.n 25,.e 27]⟩,
 vK 29 5 28,
 ⟨30,.mset 1 [.i,.i,.i,.i,.b,.s,.s,.b,.i,.i],[.e 4,.e 7,.e 7,.e 8,.e 9,.e 10,.e 11,.e 12,.e 13,.e 14,.e 15]⟩,
 vM 31 5 28,
 vf 32 28 30 4,
 ⟨33,.w2 .i64 .add,[.e 3,.c (.int 1)]⟩]
def D9:List En:=Yz++(aG)
def S7:List ObE:=[⟨some 29,.fits 1,[.e 4,.c (.list [[]])]⟩,⟨some 5,.inl,[.e 3,.e 0]⟩]
def IE:Ac:=mkD 3 2 D9 5 [.e 33,.e 32] S7 [0,2]
def KD:List Rf:=[.e 0,.e 2,.c (.int 0),.e 1]
def TK:List En:=[]
def ZD:List ObE:=[⟨none,.owes IE,[.e 0,.e 2,.c (.int 0),.e 1]⟩]
def ZO:List Rf:=[.e 4]
theorem bq (g:wT T)(e:∀u∈(L T 0),AK AD KB u)(a:AF T IB):
  ((I T 2)=((L T 0)).length)/\((L T 1)=[]):=by
 have b:=a;clear a;have O:(I T 2)=((L T 0)).length:=by
  obtain⟨-,d,-⟩:=b;simp only[AE,zR,zL] at d;exact d
 have C:(L T 1)=[]:=by
  obtain⟨c,-⟩:=b;simp only[AE,zR,zL,zS] at c;exact c
 exact⟨O,C⟩
abbrev wb(T:Tab)(a:Int)(b:List (List U)):Prop:=0<=a/\a <=((L T 0)).length/\b=Ar (((L T 0)).take a.toNat)
theorem dl (a9:wT T)(a3:∀u∈(L T 0),AK AD KB u)(O:(I T 2)=((L T 0)).length)(C:(L T 1)=[])(N:AJ T (AM (Ak 0 HP.ks) IB))(K:AU T (D9.map En.be))(M:AU T ((Ag IE [.i,.l] KD).map En.be)):
  (IE).owes (KD.map (Rf.eval T))/\AJ T (hds 3 [.i,.l])/\(wb T (I T 3) (L T 4))/\¬B T 5=true:=by
 refine Ax (nh:=3) (k:=2) (pcn:=5) (aO:=34) (y:=D9) (J:=S7) (nxt:=[.e 33,.e 32]) (H:=[.c (.int 0),.e 1]) (fv:=[0,2]) (R:=[.i,.l]) (by kernel_rfl) rfl rfl rfl rfl N (by kernel_rfl) (by kernel_rfl) K (Ai M) (fun s=>wb T (aI s 0) (aL s 1)) (fun s=>(((L T 0)).length - (aI s 0)).toNat) ?_ ?_
 .show wb T (0:Int) (L T 1);clear N K M;exact⟨by omega,by omega,by rw[show (0:Int).toNat=0 from rfl,List.take_zero];exact C⟩
 .intro A P e g;replace g:wb T (I A 3) (L A 4):=g;clear N K M;replace e:AF A D9:=e;obtain⟨j,e⟩:=e.cut;have t:=e;clear e;have al:L A 0=L T 0:=fvL (P 0 (by decide));have q:I A 2=I T 2:=fvI (P 2 (by decide));clear P
  suffices hz:(B A 29=true->(((L A 4)).length+(([[]]:List (List U))).length)*1<=140737488355328)/\(B A 5=true->0<=I A 3/\I A 3 < ((L A 0)).length)/\(B A 5=true->(wb T (I A 33) (L A 32)))/\(B A 5=true->(((L T 0)).length - (I A 33)).toNat < (((L T 0)).length - (I A 3)).toNat) from
   let⟨r0,ax,nx,mz⟩:=hz;⟨⟨r0,ax,trivial⟩,fun c=>⟨nx c,mz c⟩⟩
  refine⟨?_,?_,?_,?_⟩
  .obtain⟨b,-⟩:=j;obtain⟨-,-,-,-,-,-,-,-,ab,-⟩:=t;simp only[AE,AI,zR] at b ab;obtain⟨Q,V,i⟩:=g;intro c;have d:=b.1 (ab.1 c).1;rw[q] at d;have h6:=Yg (l:=((L T 0)).take (I A 3).toNat);rw[<-i,uX] at h6;show (((L A 4)).length+1)*1<=_;omega
  .obtain⟨b,-⟩:=j;simp only[AE,zR] at b;obtain⟨Q,V,i⟩:=g;intro c;have d:=b.1 c;rw[q] at d;rw[al];omega
  .obtain⟨b,-,o,p,F,v,w,x,z,D,E,-,W,-⟩:=j;obtain⟨-,-,-,-,X,-,Y,Z,-,ad,-,ag,h,-⟩:=t;simp only[AE,AI,zN,zR,w2P,zL,zS,uR,zW,zC] at b o p F v w x z D E W X Y Z ad ag h;obtain⟨Q,V,i⟩:=g;intro c;have d:=b.1 c;rw[q] at d;have a1:=h (by omega) (by omega);refine⟨by omega,by omega,?_⟩;have a0:(I A 3).toNat < ((L T 0)).length:=by omega
   rw[a1,show ((I A 3)+1).toNat=(I A 3).toNat+1 by omega,Co a0,UH,<-i];have hu:=a3 _ (Az a0);rw[al] at o p F v w x z D E;unfold HA;have hb:(B A 28)=true↔(¬Mk ((L A 4)) (uI (((L T 0)).getD (I A 3).toNat []) 0)\/VI ((L A 4)) (uI (((L T 0)).getD (I A 3).toNat []) 0) < uI (((L T 0)).getD (I A 3).toNat []) 1):=by
    rw[Z,<-Bool.not_eq_true,X,Y,W,o,p];exact Iff.rfl
   rw[ag];by_cases r:(B A 28)=true
   .rw[vC r,vC (hb.1 r),ad];show BG 1 _ [U.int (I A 7)] [U.int (I A 7),U.int (I A 8),U.int (I A 9),U.bool (B A 10),U.str (S A 11),U.str (S A 12),U.bool (B A 13),U.int (I A 14),U.int (I A 15)]=_;rw[o,p,F,v,w,x,z,D,E];exact vD (BG 1 _ _) (FI hu)
   .rw[vA r,vA (fun a=>r (hb.2 a))]
  .obtain⟨b,-⟩:=j;obtain⟨-,-,-,-,-,-,-,-,-,-,-,-,h,-⟩:=t;simp only[AE,zR,w2P] at b h;obtain⟨Q,V,i⟩:=g;intro c;have d:=b.1 c;rw[q] at d;have a1:=h (by omega) (by omega);omega
theorem nJ (p:wT T)(o:∀u∈(L T 0),AK AD KB u)(O:(I T 2)=((L T 0)).length)(C:(L T 1)=[])(g:wb T (I T 3) (L T 4))(h:¬B T 5=true)(c:AF T IB)(b:AF T D9):
  ((L T 4)=(Ar (L T 0))):=by
 have j:=c;clear c;obtain⟨e,b⟩:=b.cut;have k:=b;clear b
 .obtain⟨d,-⟩:=e;simp only[AE,zR] at d;obtain⟨q,r,i⟩:=g;have l:¬I T 3 < I T 2:=fun a=>h (d.2 a);rw[i,show (I T 3).toNat=((L T 0)).length by omega,uz]
theorem ir:∀(T:Tab) (us:List U),(∀p∈HP.pre,p.2 us)->(∀j u,us[j]? =some u->T j=u)->us.length=HP.n->AJ T (Ak 0 HP.ks)->Bnd T 0 HP.ks->AU T ((IB++((Ag IE [.i,.l] KD)++(D9++(TK)))).map En.be)->IQ T ZD/\ZO.map (Rf.eval T)=HP.outs.map fun o=>o.2 us:=by
 intro T us D y s d v a;change us.length=1 at s;obtain⟨⟨b,A⟩,-⟩:=v;replace b:(L T 0).length<=140737488355328:=b;have g:∀u∈(L T 0),AK AD KB u:=fun u E=>by
  obtain⟨i,Y⟩:=uH.1 E;exact A i u Y
 have z:aL us 0=L T 0:=inL y s (by decide);clear D;rw[ti,ti,ti] at a;have k:=a.left;replace a:=a.right;have q:=a.left;replace a:=a.right;have c:=a.left;replace a:=a.right;obtain⟨h,e⟩:=AN d (by kernel_rfl) k;obtain⟨O,C⟩:=bq b g h;obtain⟨J,r,F,H⟩:=dl b g O C e c q;have w:=(AN (r.append e) (l:=D9) (by kernel_rfl) c);obtain⟨t,d⟩:=w;clear k c q e r;obtain⟨M,x⟩:=At (R:=[.l]) (rs:=ZO) d (by kernel_rfl) a;have K:=nJ b g O C F H h t;refine⟨⟨(fun _=>J),trivial⟩,x.trans ?_⟩;exact (lc (by show U.list (L T 4)= .list (N0 us);unfold N0;rw[z];exact vD U.list K) rfl)
def K7:List U->Int:=fun us=>(BV (aI us 0) (aI us 1))
def P6:AZ:={ sh:=[.one (k64),.one (k64)],blks:=[],outs:=[(.s "cmpI.0",Bm K7)],c:=(DK 2),m':=[],pre:=[] }
def fJ:List En:=[vO 2 0 1,
 vQ 3 2,
 vO 4 1 0,
 vK 5 3 4,
 vM 6 3 4,
 ⟨7,.ite .i,[.e 5,.c (.int 1),.c (.int 0)]⟩,
 vN 8 5 6,
 ⟨9,.ite .i,[.e 2,.c (.int (-1)),.e 7]⟩,
 vN 10 2 8]
def Zi:List En:=fJ
def sX:List ObE:=[]
def jb:List Rf:=[.e 9]
theorem si:P6.sees jb (P6.run Try.prog [] Aa 3000 20 103)=some ((Zi).map En.be,sX.map ObE.be,[]):=by kernel_rfl
theorem sQ (g:AF T Zi):
  ((I T 9)=(BV (I T 0) (I T 1))):=by
 have k:=g;clear g
 .obtain⟨c,h,d,e,-,i,-,j,-⟩:=k;simp only[AE,AI,zR,zL,zS] at c h d e i j;unfold BV;rw[j,i];by_cases C:(I T 0) < I T 1
  .rw[vC (c.2 C),vC C]
  .have O:¬B T 2=true:=fun a=>C (c.1 a);rw[vA O,vA C];by_cases b:(I T 1) < I T 0
   .rw[vC (e.2 ⟨h.2 O,d.2 b⟩),vC b]
   .rw[vA (fun a=>b (d.1 (e.1 a).2)),vA b]
theorem qv:Ae Try.prog 103 P6:=by
 refine Aq (l:=[]) BU (by intro p h;exact absurd h (by simp)) si (by kernel_rfl) fun T us o b a i d e=>?_;change us.length=2 at a;clear d;have j:aI us 0=I T 0:=inI b a (by decide);have k:aI us 1=I T 1:=inI b a (by decide);clear o
 skip
 obtain⟨c,g⟩:=At (R:=[.i]) (rs:=jb) i (by kernel_rfl) e;have q:=sQ c;refine⟨trivial,g.trans ?_⟩;exact (lc (by show U.int (I T 9)= .int (K7 us);unfold K7;rw[j,k];exact vD U.int q) rfl)
def G9:List U->Int:=fun us=>(if BV (aI us 2) (aI us 11)=0 then BV (aI us 0) (aI us 9) else BV (aI us 2) (aI us 11))
def Lp:AZ:={ sh:=[.agg [k64,k64,k64,.bool,.str,.str,.bool,k64,k64],.agg [k64,k64,k64,.bool,.str,.str,.bool,k64,k64]],blks:=[],outs:=[(.s "cmpB.0",Bm G9)],c:=(DK 18),m':=[],pre:=[] }
def gw:List En:=[⟨18,.outI "cmpI.0" K7,[.e 2,.e 11]⟩,
 ⟨19,.outI "cmpI.0" K7,[.e 0,.e 9]⟩,
 ⟨20,.ne,[.e 18,.c (.int 0)]⟩,
 vQ 21 20,
 ⟨22,.ne,[.e 19,.c (.int 0)]⟩,
 vK 23 21 22,
 vM 24 21 22,
 ve 25 20 18 19,
 ve 26 20 18 19,
 ⟨27,.ite .i,[.e 20,.c (.int 0),.c (.int 1)]⟩,
 vn 28 20 20 22,
 vN 29 20 23,
 ve 30 29 25 19,
 ⟨31,.ite .b,[.e 29,.c (.bool true),.c (.bool false)]⟩,
 ⟨32,.ite .i,[.e 29,.e 26,.c (.int 0)]⟩,
 ⟨33,.ite .i,[.e 29,.e 27,.c (.int 2)]⟩]
def fE:List En:=[vn 34 29 28 22,
 vN 35 29 24]
def Zz:List En:=gw++(fE)
def sn:List ObE:=[]
def jS:List Rf:=[.e 32]
theorem sU:Lp.sees jS (Lp.run Try.prog [(103,P6)] Aa 3000 20 101)=some ((Zz).map En.be,sn.map ObE.be,[]):=by kernel_rfl
theorem rd (t:(S T 4).size<=140737488355328)(u:(S T 5).size<=140737488355328)(r:(S T 13).size<=140737488355328)(s:(S T 14).size<=140737488355328)(b:AF T Zz):
  ((I T 32)=(if BV (I T 2) (I T 11)=0 then BV (I T 0) (I T 9) else BV (I T 2) (I T 11))):=by
 obtain⟨p,b⟩:=b.cut;have q:=b;clear b
 .obtain⟨d,e,c,h,i,j,-,-,k,-,-,g,-,-,l,-⟩:=p;replace d:I T 18=(BV (I T 2) (I T 11)):=d;replace e:I T 19=(BV (I T 0) (I T 9)):=e;simp only[AE,AI,zR,zL,zS] at c h i j k g l;rw[l,k,<-d,<-e];by_cases C:(I T 18)=0
  .have O:¬B T 20=true:=fun a=>(c.1 a) C;rw[vC C,vA O];by_cases o:(I T 19)=0
   .rw[o];split<;>rfl
   .rw[vC (g.2 (.inr (j.2 ⟨h.2 O,i.2 o⟩)))]
  .rw[vA C,vC (c.2 C),vC (g.2 (.inl (c.2 C)))]
theorem dN:Ae Try.prog 101 Lp:=by
 refine Aq (l:=[(103,P6)]) BU (by simp only[uA];exact⟨qv,fun _ h=>absurd h (by simp)⟩) sU (by kernel_rfl) fun T us u b a p j k=>?_;change us.length=18 at a;obtain⟨-,-,-,e,g,-,-,-,-,-,c,d,-⟩:=j;replace e:(S T 4).size<=140737488355328:=e;replace g:(S T 5).size<=140737488355328:=g;replace c:(S T 13).size<=140737488355328:=c;replace d:(S T 14).size<=140737488355328:=d;have q:aI us 0=I T 0:=inI b a (by decide);have s:aI us 2=I T 2:=inI b a (by decide);have t:aI us 9=I T 9:=inI b a (by decide);have r:aI us 11=I T 11:=inI b a (by decide);clear u
 skip
 obtain⟨i,o⟩:=At (R:=[.i]) (rs:=jS) p (by kernel_rfl) k;have v:=rd e g c d i;refine⟨trivial,o.trans ?_⟩;exact (lc (by show U.int (I T 32)= .int (G9 us);unfold G9;rw[q,r,s,t];exact vD U.int v) rfl)
def Lr:List U->List (List U):=fun us=>(AR ltB (aL us 0) (aI us 2).toNat (aI us 3).toNat)
def IW:List U->Prop:=fun us=>((aL us 0)).length=(aI us 1)/\0<=(aI us 2)/\(aI us 2)<=(aI us 3)/\(aI us 3)<=(aI us 1)
def Ge:AZ:={ sh:=[.one (k64),.one (k64),.cst (.fn (.func 101) [] [])],blks:=[],outs:=[(.s "insB.0",Cw Lr)],c:= .tup [],m':=[.mrow 4 1 [k64,k64,k64,.bool,.str,.str,.bool,k64,k64] 38],pre:=[(.s "insB.p0",IW)],row:=some ([k64,k64,k64,.bool,.str,.str,.bool,k64,k64],38) }
def nr:List Rf:=[.e 15,.e 16,.e 17,.e 18,.e 19,.e 20,.e 21,.e 22,.e 23,.e 27,.e 28,.e 29,.e 30,.e 31,.e 32,.e 33,.e 34,.e 35]
def gL:List En:=[⟨4,.w2 .i64 .add,[.e 2,.c (.int 1)]⟩]
def HO:List En:=gL
def YU:List En:=[vO 7 5 3,
 vQ 8 7]
def GT:List En:=YU
def gO:List En:=[vO 11 2 9,
 vK 12 7 11,
 vK 13 7 11,
 vK 14 7 11,
 vU 15 10 9,
 vP 16 10 9,
 vR 17 10 9,
 vX 18 10 9,
 vV 19 10 9,
 vW 20 10 9,
 vY 21 10 9,
 vZ 22 10 9,
 vd 23 10 9,
 vK 24 7 11,
 vK 25 7 11,
 ⟨26,.w2 .i64 .sub,[.e 9,.c (.int 1)]⟩]
def gM:List En:=[vU 27 10 26,
 vP 28 10 26,
 vR 29 10 26,
 vX 30 10 26,
 vV 31 10 26,
 vW 32 10 26,
 vY 33 10 26,
 vZ 34 10 26,
 vd 35 10 26,
 ⟨36,.outI "cmpB.0" G9,nr⟩,
 ⟨37,.lt,[.e 36,.c (.int 0)]⟩,
 vK 38 11 37,
 vK 39 7 38,
 vM 40 7 38,
 ⟨41,.w2 .i64 .sub,[.e 9,.c (.int 1)]⟩,
 ⟨42,.w2 .i64 .sub,[.e 9,.c (.int 1)]⟩]
def fa:List En:=[vU 43 10 42,
 vP 44 10 42,
 vR 45 10 42,
 vX 46 10 42,
 vV 47 10 42,
 vW 48 10 42,
 vY 49 10 42,
 vZ 50 10 42,
 vd 51 10 42,
 vU 52 10 9,
 vP 53 10 9,
 vR 54 10 9,
 vX 55 10 9,
 vV 56 10 9,
 vW 57 10 9,
 vY 58 10 9]
def dX:List En:=[vZ 59 10 9,
 vd 60 10 9,
 ⟨61,.rset 0 [.i,.i,.i,.b,.s,.s,.b,.i,.i],[.e 10,.e 9,.e 43,.e 44,.e 45,.e 46,.e 47,.e 48,.e 49,.e 50,.e 51]⟩,
 ⟨62,.rset 0 [.i,.i,.i,.b,.s,.s,.b,.i,.i],[.e 61,.e 41,.e 52,.e 53,.e 54,.e 55,.e 56,.e 57,.e 58,.e 59,.e 60]⟩,
 ⟨63,.w2 .i64 .sub,[.e 9,.c (.int 1)]⟩]
def E4:List En:=gO++(gM++(fa++(dX)))
def Yi:List ObE:=[⟨some 39,.inr,[.e 41,.e 1]⟩,⟨some 39,.inr,[.e 9,.e 1]⟩,⟨some 39,.inr,[.e 9,.e 1]⟩,⟨some 39,.inr,[.e 42,.e 1]⟩,⟨some 25,.inr,[.e 26,.e 1]⟩,⟨some 14,.inr,[.e 9,.e 1]⟩]
def LI:Ac:=mkD 9 2 E4 39 [.e 63,.e 62] Yi [7,2,1]
def N5:List Rf:=[.e 7,.e 2,.e 1,.e 5,.e 6]
def Yq:List En:=[⟨64,.w2 .i64 .add,[.e 5,.c (.int 1)]⟩]
def Kh:List En:=Yq
def Ir:List En:=GT++((Ag LI [.i,.l] N5)++(E4++(Kh)))
def Z8:List ObE:=[⟨some 7,.owes LI,[.e 7,.e 2,.e 1,.e 5,.e 6]⟩]
def Ng:Ac:=mkD 5 2 Ir 40 [.e 64,.e 10] Z8 [2,1,3]
def Rl:List Rf:=[.e 2,.e 1,.e 3,.e 4,.e 0]
def mi:List En:=[]
def sW:List ObE:=[⟨none,.owes Ng,[.e 2,.e 1,.e 3,.e 4,.e 0]⟩]
def jH:List Rf:=[.e 6]
end
end Go.Eng
end
