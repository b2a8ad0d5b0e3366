/-
  A part of the proof: the evaluator of code and its soundness.
-/
import Derived.Test.YtikbgnmcfncnaaaKB4
import Derived.Test.YtikbgnmcfncnaaaE4
import Derived.Test.YtikbgnmcfncnaaaE5
import Derived.Test.YtikbgnmcfncnaaaKB0
import Derived.Test.YtikbgnmcfncnaaaKB2
import Derived.Test.YtikbgnmcfncnaaaKB3
set_option linter.unusedVariables false
set_option linter.unusedSimpArgs false
noncomputable section
namespace Go.Eng
section
open Go Go.Eng Go.Proofs
set_option maxHeartbeats 4000000
set_option maxRecDepth 100000
theorem sd:FB.sees ea (FB.run Try.prog [] Bp 3000 20 86)=some ((IJ++((B5 MO [.i,.l] QI)++(II++(jV)))).map En.be,rc.map ObE.be,[]):=by kernel_rfl
abbrev Id(T:Tab):Prop:=0<=I T 1/\I T 1<=((L T 0)).length/\((L T 0)).length<=200/\(∀u∈(L T 0),Bb BT KB u)/\L T 2=CX ltB (Dr (L T 0) (I T 1).toNat)
variable{T:Tab}
theorem fc (t:Id T)(a:BV T Ef):
  ((B T 4)=true->I T 1 < ((L T 0)).length)/\((I T 6)=BU (L T 0) (I T 1).toNat 0/\I T 7=BU (L T 0) (I T 1).toNat 1/\I T 8=BU (L T 0) (I T 1).toNat 2/\B T 9=DW (L T 0) (I T 1).toNat 3/\S T 10=Bq (L T 0) (I T 1).toNat 4/\S T 11=Bq (L T 0) (I T 1).toNat 5/\B T 12=DW (L T 0) (I T 1).toNat 6/\I T 13=BU (L T 0) (I T 1).toNat 7/\I T 14=BU (L T 0) (I T 1).toNat 8):=by
 have b:=a;clear a;have s:(B T 4)=true->I T 1 < ((L T 0)).length:=by
  obtain⟨j,k,-⟩:=b;simp only[BS,zR,zL] at j k;intro h;have:=k.1 h;rw[j] at this;exact this
 have r:(I T 6)=BU (L T 0) (I T 1).toNat 0/\I T 7=BU (L T 0) (I T 1).toNat 1/\I T 8=BU (L T 0) (I T 1).toNat 2/\B T 9=DW (L T 0) (I T 1).toNat 3/\S T 10=Bq (L T 0) (I T 1).toNat 4/\S T 11=Bq (L T 0) (I T 1).toNat 5/\B T 12=DW (L T 0) (I T 1).toNat 6/\I T 13=BU (L T 0) (I T 1).toNat 7/\I T 14=BU (L T 0) (I T 1).toNat 8:=by
  obtain⟨-,-,-,l,o,p,q,c,d,e,g,i,-⟩:=b;simp only[BS,zR,zL] at l o p q c d e g i;exact⟨l,o,p,q,c,d,e,g,i⟩
 exact⟨s,r⟩
abbrev yX(T:Tab)(a:Int)(b:Bool):Prop:=0<=a/\a <=((L T 0)).length/\(b=true↔(uB (((L T 0)).getD (I T 1).toNat []) 3=false/\∀k:Nat,(k:Int) <a ->uI (((L T 0)).getD k []) 0=uI (((L T 0)).getD (I T 1).toNat []) 0->¬(uI (((L T 0)).getD (I T 1).toNat []) 1 < uI (((L T 0)).getD k []) 1)/\¬(((L T 0)).getD k []=(((L T 0)).getD (I T 1).toNat [])/\(k:Int) < I T 1)))
abbrev We(T:Tab):Prop:=(B T 4)=true->I T 1 < ((L T 0)).length
abbrev aaa(T:Tab):Prop:=(I T 6)=BU (L T 0) (I T 1).toNat 0/\I T 7=BU (L T 0) (I T 1).toNat 1/\I T 8=BU (L T 0) (I T 1).toNat 2/\B T 9=DW (L T 0) (I T 1).toNat 3/\S T 10=Bq (L T 0) (I T 1).toNat 4/\S T 11=Bq (L T 0) (I T 1).toNat 5/\B T 12=DW (L T 0) (I T 1).toNat 6/\I T 13=BU (L T 0) (I T 1).toNat 7/\I T 14=BU (L T 0) (I T 1).toNat 8
theorem l7 (g1:Id T)(h4:We T)(w:aaa T)(Q:Ba T (Bh (hds 1 [.i,.l]++GC [0] (Bh (CA 0 FB.ks) IJ)) Ef))(O:Bi T (Du.map En.be))(P:Bi T ((B5 KG [.i,.b] MV).map En.be)):
  (KG).owes (MV.map (Rf.eval T))/\Ba T (hds 15 [.i,.b])/\(yX T (I T 15) (B T 16))/\¬B T 19=true:=by
 refine CK (nh:=15) (k:=2) (pcn:=19) (R:=51) (b:=Du) (K:=V7) (nxt:=[.e 50,.e 49]) (H:=[.c (.int 0),.n 9]) (fv:=[1,6,7,8,9,10,11,12,13,14,0,4]) (A:=[.i,.b]) (by kernel_rfl) rfl rfl rfl rfl Q (by kernel_rfl) (by kernel_rfl) O (B6 P) (fun s=>yX T (aI s 0) (aB s 1)) (fun s=>(((L T 0)).length - (aI s 0)).toNat) ?_ ?_
 .show yX T (0:Int) (!B T 9);clear Q O P;refine⟨Aw _,by omega,?_⟩;obtain⟨w,M,Z,N,-⟩:=w;have ce:DW ((L T 0)) (I T 1).toNat 3=uB (((L T 0)).getD (I T 1).toNat []) 3:=rfl;rw[N,ce];cases uB (((L T 0)).getD (I T 1).toNat []) 3 with
  |false=>exact⟨fun h=>⟨rfl,fun k V=>absurd V (by omega)⟩,fun h=>rfl⟩
  |true=>exact⟨fun h=>(by cases h),fun h=>(by cases h.1)⟩
 .intro J j u v;replace v:yX T (I J 15) (B J 16):=v;clear Q O P;replace u:BV J Du:=u;obtain⟨x,u⟩:=u.cut;obtain⟨F1,u⟩:=u.cut;have Y:=u;clear u;have b6:=fvI (j 1 (by decide));have bb:=fvI (j 6 (by decide));have bc:=fvI (j 7 (by decide));have cf:=fvI (j 8 (by decide));have ch:=fvB (j 9 (by decide));have b7:=fvS (j 10 (by decide));have b8:=fvS (j 11 (by decide));have b9:=fvB (j 12 (by decide));have ca:=fvI (j 13 (by decide));have cb:=fvI (j 14 (by decide));have l:=fvL (j 0 (by decide));have cc:=fvB (j 4 (by decide));clear j
  suffices hz:(B J 29=true->0<=I J 15/\I J 15 < ((L J 0)).length)/\(B J 24=true->0<=I J 15/\I J 15 < ((L J 0)).length)/\(B J 19=true->0<=I J 15/\I J 15 < ((L J 0)).length)/\(B J 19=true->(yX T (I J 50) (B J 49)))/\(B J 19=true->(((L T 0)).length - (I J 50)).toNat < (((L T 0)).length - (I J 15)).toNat) from
   let⟨r0,ay,aG,nx,mz⟩:=hz;⟨⟨r0,ay,aG,trivial⟩,fun c=>⟨nx c,mz c⟩⟩
  refine⟨?_,?_,?_,?_,?_⟩
  .obtain⟨d,g,i,-,-,-,-,p,-,q,-,-,r,-⟩:=x;simp only[BS,BZ,zN,zR,zL] at d g i p q r;obtain⟨E,F,D⟩:=v;intro c;have t:(B J 19)=true:=by first|exact c|exact (p.1 c).1|exact (q.1 (r.1 c).1).1
   have o:=g.1 (i.1 t).2;rw[d,l] at o;rw[l];omega
  .obtain⟨d,g,i,-,-,-,-,p,-,q,-,-,r,-⟩:=x;simp only[BS,BZ,zN,zR,zL] at d g i p q r;obtain⟨E,F,D⟩:=v;intro c;have t:(B J 19)=true:=by first|exact c|exact (p.1 c).1|exact (q.1 (r.1 c).1).1
   have o:=g.1 (i.1 t).2;rw[d,l] at o;rw[l];omega
  .obtain⟨d,g,i,-,-,-,-,p,-,q,-,-,r,-⟩:=x;simp only[BS,BZ,zN,zR,zL] at d g i p q r;obtain⟨E,F,D⟩:=v;intro c;have t:(B J 19)=true:=by first|exact c|exact (p.1 c).1|exact (q.1 (r.1 c).1).1
   have o:=g.1 (i.1 t).2;rw[d,l] at o;rw[l];omega
  .obtain⟨d,g,i,-,ab,ad,-,-,ag,-,al,-,-,an,ao,aw,-⟩:=x;obtain⟨ax,a0,a1,a2,a3,a4,-,a5,-,-,a6,a7,a8,a9,-⟩:=F1;obtain⟨ba,z,-⟩:=Y;simp only[BS,BZ,zC,zR,Dw,and_true,w2P,zL,zS] at d g i ab ad ag al an ao aw ax a0 a1 a2 a3 a4 a5 a6 a7 a8 a9 ba z;obtain⟨E,F,D⟩:=v;obtain⟨q1,q2,q3,X,q5⟩:=g1;obtain⟨w,M,Z,N,bs,bt,bx,b0,b1⟩:=w;intro c;have t:=i.1 c;have o:=g.1 t.2;rw[d,l] at o;have hh:=h4 (by rw[<-cc];exact t.1);have c6:=o2' z (by omega);have cj:(I J 15).toNat < ((L T 0)).length:=by omega
   have aC:=Q0 (show TyB ((L T 0)) from X) (show TyB ((L T 0)) from X) cj (show (I T 1).toNat < ((L T 0)).length by omega);have cs:(B J 22)=true↔uI (((L T 0)).getD (I J 15).toNat []) 0=uI (((L T 0)).getD (I T 1).toNat []) 0:=by rw[ad,ab,l,bb,w];exact Iff.rfl
   have cu:(B J 27)=true↔uI (((L T 0)).getD (I T 1).toNat []) 1 < uI (((L T 0)).getD (I J 15).toNat []) 1:=by rw[al,ag,l,bc,M];exact Iff.rfl
   have cv:(B J 40)=true↔((L T 0)).getD (I J 15).toNat []=(((L T 0)).getD (I T 1).toNat []):=by
    rw[<-aC,a5,an,ao,aw,ax,a0,a1,a2,a3,a4,l,bb,bc,cf,ch,b7,b8,b9,ca,cb,w,M,Z,N,bs,bt,bx,b0,b1]
   have cx:(B J 43)=true↔I J 15 < I T 1:=by rw[a6,b6]
   have W:(B J 46)=true↔(uI (((L T 0)).getD (I J 15).toNat []) 0=uI (((L T 0)).getD (I T 1).toNat []) 0/\(uI (((L T 0)).getD (I T 1).toNat []) 1 < uI (((L T 0)).getD (I J 15).toNat []) 1\/((L T 0)).getD (I J 15).toNat []=(((L T 0)).getD (I T 1).toNat [])/\I J 15 < I T 1)):=by rw[a9,cs,a8,cu,a7,cv,cx]
   refine⟨by omega,by omega,?_⟩;rw[ba];by_cases C:(B J 46)=true
   .refine⟨fun h=>absurd C h.1,fun h=>?_⟩;exfalso;obtain⟨bo,y⟩:=W.1 C;obtain⟨d1,d2⟩:=h.2 (I J 15).toNat (by omega) bo;rcases y with y|y
    .exact absurd y d1
    .exact absurd ⟨y.1,by omega⟩ d2
   .refine Iff.trans ⟨fun h=>h.2,fun h=>⟨C,h⟩⟩ ?_;rw[D];refine and_congr_right fun _=>⟨fun h k V e=>?_,fun h k V e=>h k (by omega) e⟩;rcases Int.lt_or_le (k:Int) (I J 15) with hx|hx
    .exact h k hx e
    .have ek:k=(I J 15).toNat:=by omega
     rw[ek] at e⊢;refine⟨fun a=>C (W.2 ⟨e,.inl a⟩),fun a=>C (W.2 ⟨e,.inr ⟨a.1,by omega⟩⟩)⟩
  .obtain⟨d,g,i,-⟩:=x;obtain⟨-,z,-⟩:=Y;simp only[BS,BZ,zR,w2P,zL] at d g i z;obtain⟨E,F,D⟩:=v;obtain⟨q1,q2,q3,X,q5⟩:=g1;intro c;have o:=g.1 (i.1 c).2;rw[d,l] at o;have c6:=o2' z (by omega);omega
theorem gW (d:Id T)(o:We T)(k:aaa T)(p:yX T (I T 15) (B T 16))(q:¬B T 19=true)(b:BV T Ef)(a:BV T Du)(c:BV T GG):
  (((L T 2)).length<=200):=by
 have e:=b;clear b;obtain⟨g,a⟩:=a.cut;obtain⟨h,a⟩:=a.cut;have i:=a;clear a;have j:=c;clear c;have E:((L T 2)).length<=200:=by
  have:=JN (l:=L T 0) (n:=(I T 1).toNat);rw[d.2.2.2.2,DY];omega
 exact E
abbrev yY(T:Tab)(a:Int):Prop:=0<=a/\a <=((L T 2)).length/\∀q:Nat,(q:Int) <a ->ltB (((L T 2)).getD q []) (((L T 0)).getD (I T 1).toNat [])=true
theorem kL (g1:Id T)(O:aaa T)(E:((L T 2)).length<=200)(V:Ba T (Bh (Bh (hds 15 [.i,.b]++(Bh (hds 1 [.i,.l]++GC [0] (Bh (CA 0 FB.ks) IJ)) Ef)) Du) GG))(P:Bi T (Ey.map En.be))(Q:Bi T ((B5 Jz [.i] Mu).map En.be)):
  (Jz).owes (Mu.map (Rf.eval T))/\Ba T (hds 53 [.i])/\(yY T (I T 53))/\¬B T 74=true:=by
 refine CK (nh:=53) (k:=1) (pcn:=74) (R:=77) (b:=Ey) (K:=WP) (nxt:=[.e 76]) (H:=[.c (.int 0)]) (fv:=[51,6,2,8]) (A:=[.i]) (by kernel_rfl) rfl rfl rfl rfl V (by kernel_rfl) (by kernel_rfl) P (B6 Q) (fun s=>yY T (aI s 0)) (fun s=>(((L T 2)).length - (aI s 0)).toNat) ?_ ?_
 .show yY T (0:Int);clear V P Q;exact⟨Aw _,by omega,fun q h=>by omega⟩
 .intro J y t r;replace r:yY T (I J 53):=r;clear V P Q;replace t:BV J Ey:=t;obtain⟨u,t⟩:=t.cut;have W:=t;clear t;have a7:=fvB (y 51 (by decide));have a0:=fvI (y 6 (by decide));have i:=fvL (y 2 (by decide));have aw:=fvI (y 8 (by decide));clear y
  suffices hz:(B J 67=true->0<=I J 53/\I J 53 < ((L J 2)).length)/\(B J 62=true->0<=I J 53/\I J 53 < ((L J 2)).length)/\(B J 57=true->0<=I J 53/\I J 53 < ((L J 2)).length)/\(B J 74=true->(yY T (I J 76)))/\(B J 74=true->(((L T 2)).length - (I J 76)).toNat < (((L T 2)).length - (I J 53)).toNat) from
   let⟨r0,ay,aG,nx,mz⟩:=hz;⟨⟨r0,ay,aG,trivial⟩,fun a=>⟨nx a,mz a⟩⟩
  refine⟨?_,?_,?_,?_,?_⟩
  .obtain⟨d,e,-,j,-,g,-,-,l,-,o,-,-,p,-⟩:=u;simp only[BS,BZ,zN,zR,zL] at d e j g l o p;obtain⟨M,N,z⟩:=r;intro a;have c:(B J 55)=true:=by first|exact (j.1 a).2|exact (g.1 (l.1 a).1).2|exact (g.1 (o.1 (p.1 a).1).1).2
   have c:=e.1 c;rw[d,i] at c;rw[i];omega
  .obtain⟨d,e,-,j,-,g,-,-,l,-,o,-,-,p,-⟩:=u;simp only[BS,BZ,zN,zR,zL] at d e j g l o p;obtain⟨M,N,z⟩:=r;intro a;have c:(B J 55)=true:=by first|exact (j.1 a).2|exact (g.1 (l.1 a).1).2|exact (g.1 (o.1 (p.1 a).1).1).2
   have c:=e.1 c;rw[d,i] at c;rw[i];omega
  .obtain⟨d,e,-,j,-,g,-,-,l,-,o,-,-,p,-⟩:=u;simp only[BS,BZ,zN,zR,zL] at d e j g l o p;obtain⟨M,N,z⟩:=r;intro a;have c:(B J 55)=true:=by first|exact (j.1 a).2|exact (g.1 (l.1 a).1).2|exact (g.1 (o.1 (p.1 a).1).1).2
   have c:=e.1 c;rw[d,i] at c;rw[i];omega
  .obtain⟨d,e,-,-,Y,-,Z,-,-,ab,-,ad,-,-,ag,-⟩:=u;obtain⟨al,an,ao,v,w,-,x,-⟩:=W;simp only[BS,BZ,zR,w2P,zL] at d e Y Z ab ad ag al an ao v w x;obtain⟨M,N,z⟩:=r;obtain⟨O,c7,X,-⟩:=O;intro a;have F:=v.1 (w.1 a).2;have c:=e.1 F.1;rw[d,i] at c;have a5:=o2' x (by omega);refine⟨by omega,by omega,fun q hq=>?_⟩;rcases Int.lt_or_le (q:Int) (I J 53) with h|h
   .exact z q h
   .have eq:q=(I J 53).toNat:=by omega
    rw[eq,K4];rcases ao.1 F.2 with h|h
    .have h:=Z.1 h;rw[Y,i,aw,X] at h;exact .inl h
    .obtain⟨C,D⟩:=an.1 h;have C:=ad.1 C;have D:=al.1 D;rw[ab,i,aw,X] at C;rw[ag,i,a0,O] at D;exact .inr ⟨C,D⟩
  .obtain⟨d,e,-⟩:=u;obtain⟨-,-,-,v,w,-,x,-⟩:=W;simp only[BS,BZ,zR,w2P,zL] at d e v w x;obtain⟨M,N,z⟩:=r;intro a;have F:=v.1 (w.1 a).2;have c:=e.1 F.1;rw[d,i] at c;have a5:=o2' x (by omega);omega
theorem VS (j:Id T)(g:Ba T (hds 1 [.i,.l]++GC [0] (Bh (CA 0 FB.ks) IJ)))(a:Bi T (II.map En.be)):
  (BV T Ef)/\((B T 4)=true->I T 1 < ((L T 0)).length)/\((I T 6)=BU (L T 0) (I T 1).toNat 0/\I T 7=BU (L T 0) (I T 1).toNat 1/\I T 8=BU (L T 0) (I T 1).toNat 2/\B T 9=DW (L T 0) (I T 1).toNat 3/\S T 10=Bq (L T 0) (I T 1).toNat 4/\S T 11=Bq (L T 0) (I T 1).toNat 5/\B T 12=DW (L T 0) (I T 1).toNat 6/\I T 13=BU (L T 0) (I T 1).toNat 7/\I T 14=BU (L T 0) (I T 1).toNat 8)/\((KG).owes (MV.map (Rf.eval T)))/\(yX T (I T 15) (B T 16))/\(¬B T 19=true)/\(BV T Du)/\(BV T GG)/\(((L T 2)).length<=200)/\((Jz).owes (Mu.map (Rf.eval T)))/\(yY T (I T 53))/\(¬B T 74=true)/\(BV T Ey)/\(BV T KA)/\Ba T (Bh (Bh (hds 53 [.i]++(Bh (Bh (hds 15 [.i,.b]++(Bh (hds 1 [.i,.l]++GC [0] (Bh (CA 0 FB.ks) IJ)) Ef)) Du) GG)) Ey) KA):=by
 unfold II at a;rw[AL,AL,AL,AL,AL,AL] at a;obtain⟨d,a⟩:=cutB a;obtain⟨e,a⟩:=cutB a;obtain⟨b,a⟩:=cutB a;obtain⟨k,c⟩:=Be g (by kernel_rfl) d;obtain⟨o,i⟩:=fc j k;obtain⟨z,h,s,t⟩:=l7 j o i c b e;have p:=(Be (h.append c) (l:=Du) (by kernel_rfl) b);obtain⟨q,g⟩:=p;clear d b e c h;obtain⟨d,a⟩:=cutB a;obtain⟨e,a⟩:=cutB a;obtain⟨b,a⟩:=cutB a;obtain⟨r,c⟩:=Be g (by kernel_rfl) d;have E:=gW j o i s t k q r;obtain⟨A,h,x,y⟩:=kL j i E c b e;have p:=(Be (h.append c) (l:=Ey) (by kernel_rfl) b);obtain⟨u,g⟩:=p;clear d b e c h;obtain⟨v,w⟩:=Be g (by kernel_rfl) a;exact⟨k,o,i,z,s,t,q,r,E,A,x,y,u,v,w⟩
abbrev yZ(T:Tab)(a:Int)(b:List (List U)):Prop:=0<=a/\a <=((L T 0)).length/\b=CX ltB (Dr (L T 0) a.toNat)
abbrev aab(T:Tab):Prop:=(L T 0).length<=140737488355328
abbrev aac(T:Tab):Prop:=((L T 0)).length<=200/\EZ (L T 0)=true
theorem mH (ek:aab T)(ba:∀u∈(L T 0),Bb BT KB u)(F:aac T)(hS:Ba T (Bh (CA 0 FB.ks) IJ))(hB:Bi T (II.map En.be))(hH:Bi T ((B5 MO [.i,.l] QI).map En.be)):
  (MO).owes (QI.map (Rf.eval T))/\Ba T (hds 1 [.i,.l])/\(yZ T (I T 1) (L T 2))/\¬B T 86=true:=by
 refine NT (nh:=1) (k:=2) (pcn:=86) (R:=88) (b:=II) (K:=Vl) (nxt:=[.e 87,.e 85]) (H:=[.c (.int 0),.c (.list [])]) (fv:=[0]) (A:=[.i,.l]) (by kernel_rfl) rfl rfl rfl rfl hS (by kernel_rfl) hB (B6 hH) (fun s=>yZ T (aI s 0) (aL s 1)) (fun s=>(((L T 0)).length - (aI s 0)).toNat) ?_ ?_
 .show yZ T (0:Int) (([]:List (List U)):List (List U));clear hS hB hH;exact⟨Aw _,by omega,rfl⟩
 .intro J c1 cx hE C;replace C:yZ T (I J 1) (L J 2):=C;have g:=fvL (c1 0 (by decide));clear c1;clear hS hB hH;have g1:0<=I J 1/\I J 1<=((L J 0)).length/\((L J 0)).length<=200/\(∀u∈(L J 0),Bb BT KB u)/\L J 2=CX ltB (Dr (L J 0) (I J 1).toNat):=by
   obtain⟨M,N,w⟩:=C;rw[g];exact⟨M,N,F.1,ba,w⟩
  obtain⟨bb,x,ej,d3,ds,em,Y,bc,E,d4,W,en,B2,bi,cy⟩:=VS g1 cx hE;clear cx hE;have hN:=DK cy (ax:=[.i,.l]) (ag:=[.e 87,.e 85]) (by kernel_rfl);clear cy;have P:=bb;clear bb;obtain⟨F1,Y⟩:=Y.cut;obtain⟨F2,Y⟩:=Y.cut;have F3:=Y;clear Y;have F4:=bc;clear bc;obtain⟨F5,B2⟩:=B2.cut;have F6:=B2;clear B2;have Q:=bi;clear bi
  suffices hz:(B J 75=true->(((L J 81)).length+((L J 82)).length)*88<=140737488355328)/\(B J 75=true->0<=I J 53/\I J 53<=((L J 2)).length)/\(B J 75=true->(((L J 79)).length+((L J 80)).length)*88<=140737488355328)/\(B J 75=true->(((L J 77)).length+((L J 78)).length)*88<=140737488355328)/\(B J 75=true->0<=I J 53/\I J 53<=((L J 2)).length)/\(B J 4=true->0<=I J 1/\I J 1 < ((L J 0)).length)/\(B J 86=true->(yZ T (I J 87) (L J 85)))/\(B J 86=true->(((L T 0)).length - (I J 87)).toNat < (((L T 0)).length - (I J 1)).toNat) from
   let⟨r0,ay,aG,r3,r4,r5,nx,mz⟩:=hz;⟨hN,⟨r0,ay,aG,r3,r4,(fun _=>d4),(fun _=>d3),r5,trivial⟩,fun v=>⟨nx v,mz v⟩⟩
  refine⟨?_,?_,?_,?_,?_,?_,?_,?_⟩
  .obtain⟨o,p,-⟩:=P;obtain⟨c,d,i,j,r,t,-⟩:=Q;simp only[BS,BZ,zR,zL,zS,uR,Cp,zW] at o p c d i j r t;obtain⟨M,N,w⟩:=C;obtain⟨u1,u2,y⟩:=W;obtain⟨X,V⟩:=F;have z:=JN (l:=L T 0) (n:=(I J 1).toNat);have aw:((L J 2)).length<=(I J 1).toNat:=by rw[w,DY];exact z
   intro v;have D:((L J 80)).length=1:=by rw[j];rfl
   rw[g] at y
   first
   |(have x:=p.1 v
     rw[o,g] at x;rw[g];omega)
   |(exact⟨u1,u2⟩)
   |(rw[r,t,i,d,c,j]
     simp only[AP,Ao,Av,As];have:([[U.int (I J 6),U.int (I J 7),U.int (I J 8),U.bool (B J 9),U.str (S J 10),U.str (S J 11),U.bool (B J 12),U.int (I J 13),U.int (I J 14)]]:List (List U)).length=1:=rfl;omega)
   |(rw[i,d,c,D]
     simp only[AP,Ao,As];omega)
   |(rw[d,c]
     simp only[Ao,As];omega)
  .obtain⟨o,p,-⟩:=P;obtain⟨c,d,i,j,r,t,-⟩:=Q;simp only[BS,BZ,zR,zL,zS,uR,Cp,zW] at o p c d i j r t;obtain⟨M,N,w⟩:=C;obtain⟨u1,u2,y⟩:=W;obtain⟨X,V⟩:=F;have z:=JN (l:=L T 0) (n:=(I J 1).toNat);have aw:((L J 2)).length<=(I J 1).toNat:=by rw[w,DY];exact z
   intro v;have D:((L J 80)).length=1:=by rw[j];rfl
   rw[g] at y
   first
   |(have x:=p.1 v
     rw[o,g] at x;rw[g];omega)
   |(exact⟨u1,u2⟩)
   |(rw[r,t,i,d,c,j]
     simp only[AP,Ao,Av,As];have:([[U.int (I J 6),U.int (I J 7),U.int (I J 8),U.bool (B J 9),U.str (S J 10),U.str (S J 11),U.bool (B J 12),U.int (I J 13),U.int (I J 14)]]:List (List U)).length=1:=rfl;omega)
   |(rw[i,d,c,D]
     simp only[AP,Ao,As];omega)
   |(rw[d,c]
     simp only[Ao,As];omega)
  .obtain⟨o,p,-⟩:=P;obtain⟨c,d,i,j,r,t,-⟩:=Q;simp only[BS,BZ,zR,zL,zS,uR,Cp,zW] at o p c d i j r t;obtain⟨M,N,w⟩:=C;obtain⟨u1,u2,y⟩:=W;obtain⟨X,V⟩:=F;have z:=JN (l:=L T 0) (n:=(I J 1).toNat);have aw:((L J 2)).length<=(I J 1).toNat:=by rw[w,DY];exact z
   intro v;have D:((L J 80)).length=1:=by rw[j];rfl
   rw[g] at y
   first
   |(have x:=p.1 v
     rw[o,g] at x;rw[g];omega)
   |(exact⟨u1,u2⟩)
   |(rw[r,t,i,d,c,j]
     simp only[AP,Ao,Av,As];have:([[U.int (I J 6),U.int (I J 7),U.int (I J 8),U.bool (B J 9),U.str (S J 10),U.str (S J 11),U.bool (B J 12),U.int (I J 13),U.int (I J 14)]]:List (List U)).length=1:=rfl;omega)
   |(rw[i,d,c,D]
     simp only[AP,Ao,As];omega)
   |(rw[d,c]
     simp only[Ao,As];omega)
  .obtain⟨o,p,-⟩:=P;obtain⟨c,d,i,j,r,t,-⟩:=Q;simp only[BS,BZ,zR,zL,zS,uR,Cp,zW] at o p c d i j r t;obtain⟨M,N,w⟩:=C;obtain⟨u1,u2,y⟩:=W;obtain⟨X,V⟩:=F;have z:=JN (l:=L T 0) (n:=(I J 1).toNat);have aw:((L J 2)).length<=(I J 1).toNat:=by rw[w,DY];exact z
   intro v;have D:((L J 80)).length=1:=by rw[j];rfl
   rw[g] at y
   first
   |(have x:=p.1 v
     rw[o,g] at x;rw[g];omega)
   |(exact⟨u1,u2⟩)
   |(rw[r,t,i,d,c,j]
     simp only[AP,Ao,Av,As];have:([[U.int (I J 6),U.int (I J 7),U.int (I J 8),U.bool (B J 9),U.str (S J 10),U.str (S J 11),U.bool (B J 12),U.int (I J 13),U.int (I J 14)]]:List (List U)).length=1:=rfl;omega)
   |(rw[i,d,c,D]
     simp only[AP,Ao,As];omega)
   |(rw[d,c]
     simp only[Ao,As];omega)
  .obtain⟨o,p,-⟩:=P;obtain⟨c,d,i,j,r,t,-⟩:=Q;simp only[BS,BZ,zR,zL,zS,uR,Cp,zW] at o p c d i j r t;obtain⟨M,N,w⟩:=C;obtain⟨u1,u2,y⟩:=W;obtain⟨X,V⟩:=F;have z:=JN (l:=L T 0) (n:=(I J 1).toNat);have aw:((L J 2)).length<=(I J 1).toNat:=by rw[w,DY];exact z
   intro v;have D:((L J 80)).length=1:=by rw[j];rfl
   rw[g] at y
   first
   |(have x:=p.1 v
     rw[o,g] at x;rw[g];omega)
   |(exact⟨u1,u2⟩)
   |(rw[r,t,i,d,c,j]
     simp only[AP,Ao,Av,As];have:([[U.int (I J 6),U.int (I J 7),U.int (I J 8),U.bool (B J 9),U.str (S J 10),U.str (S J 11),U.bool (B J 12),U.int (I J 13),U.int (I J 14)]]:List (List U)).length=1:=rfl;omega)
   |(rw[i,d,c,D]
     simp only[AP,Ao,As];omega)
   |(rw[d,c]
     simp only[Ao,As];omega)
  .obtain⟨o,p,-⟩:=P;obtain⟨c,d,i,j,r,t,-⟩:=Q;simp only[BS,BZ,zR,zL,zS,uR,Cp,zW] at o p c d i j r t;obtain⟨M,N,w⟩:=C;obtain⟨u1,u2,y⟩:=W;obtain⟨X,V⟩:=F;have z:=JN (l:=L T 0) (n:=(I J 1).toNat);have aw:((L J 2)).length<=(I J 1).toNat:=by rw[w,DY];exact z
   intro v;have D:((L J 80)).length=1:=by rw[j];rfl
   rw[g] at y
   first
   |(have x:=p.1 v
     rw[o,g] at x;rw[g];omega)
   |(exact⟨u1,u2⟩)
   |(rw[r,t,i,d,c,j]
     simp only[AP,Ao,Av,As];have:([[U.int (I J 6),U.int (I J 7),U.int (I J 8),U.bool (B J 9),U.str (S J 10),U.str (S J 11),U.bool (B J 12),U.int (I J 13),U.int (I J 14)]]:List (List U)).length=1:=rfl;omega)
   |(rw[i,d,c,D]
     simp only[AP,Ao,As];omega)
   |(rw[d,c]
     simp only[Ao,As];omega)
  .obtain⟨o,p,-,e6,e7,e8,e9,bs,bt,bx,b0,b1,-⟩:=P;obtain⟨b2,b3,-,Z,-⟩:=F1;obtain⟨ab,ad,-⟩:=F4;obtain⟨b4,b5,-,-,b6,-,b7,-,-,b8,-,b9,-,-,ca,-⟩:=F5;obtain⟨cc,ce,cf,ch,-,al,-⟩:=F6;obtain⟨c,d,i,j,r,t,ci,-,cj,an,ao,-⟩:=Q;simp only[BS,BZ,zN,zR,w2P,zL,zS,uR,Cp,zW] at o p e6 e7 e8 e9 bs bt bx b0 b1 b2 b3 Z ab ad b4 b5 b6 b7 b8 b9 ca cc ce cf ch al c d i j r t ci cj an ao;obtain⟨M,N,w⟩:=C;obtain⟨aO,w2,w3⟩:=ds;obtain⟨u1,u2,y⟩:=W;obtain⟨X,V⟩:=F;intro v;have a2:(B J 20)=true:=(an.1 v).elim (fun h=>(ad.1 h).1) (fun h=>(ab.1 (al.1 h).1).1);have x:=p.1 (Z.1 a2).1;rw[o,g] at x;have d1:¬I J 15 < I J 17:=fun h=>by have O:=(Z.1 a2).2;rw[b3.2 h] at O;cases O
   rw[b2,g] at d1;rw[g] at w2 w3 y;have c4:=o2' ao (by omega);have c0:(B J 16)=true↔Xq (L T 0) (I J 1).toNat:=by
    rw[w3];unfold Xq;refine and_congr_right fun _=>⟨fun h k hk e=>?_,fun h k hk e=>?_⟩
    .obtain⟨a1,a5⟩:=h k (by omega) e;exact⟨a1,fun a=>a5 ⟨a.1,by omega⟩⟩
    .obtain⟨a1,a5⟩:=h k (by omega) e;exact⟨a1,fun a=>a5 ⟨a.1,by omega⟩⟩
   refine⟨by omega,by omega,?_⟩;rw[c4,show ((I J 1)+1).toNat=(I J 1).toNat+1 by omega,cj];have dk:(I J 1).toNat < ((L T 0)).length:=by omega
   by_cases a3:(B J 52)=true
   .have d0:¬B J 16=true:=by simpa using (ad.1 a3).2
    rw[BH a3,wJ (fun h=>d0 (c0.2 h))];exact w
   .have dd:=(an.1 v).resolve_left a3;obtain⟨c9,cu⟩:=al.1 dd;have hc:=c0.1 (ab.1 c9).2;have dm:=(Rz (show TyB ((L T 0)) from ba)).1 V;have hd:=iB dm (n:=(I J 1).toNat+1) (by omega);rw[s8 hc] at hd⊢;rw[BG a3,ci,t,r,j,i,d,c,<-sM wkB w (k:=(I J 53).toNat) (by omega) (fun q hq=>y q (by omega)) ?_ hd]
    .show (([]++((L J 2)).take (I J 53).toNat)++[[U.int (I J 6),U.int (I J 7),U.int (I J 8),U.bool (B J 9),U.str (S J 10),U.str (S J 11),U.bool (B J 12),U.int (I J 13),U.int (I J 14)]])++((L J 2)).drop (I J 53).toNat=_;have c6:[U.int (I J 6),U.int (I J 7),U.int (I J 8),U.bool (B J 9),U.str (S J 10),U.str (S J 11),U.bool (B J 12),U.int (I J 13),U.int (I J 14)]=((L T 0)).getD (I J 1).toNat []:=by
      rw[e6,e7,e8,e9,bs,bt,bx,b0,b1,g];exact Nd (ba _ (Ca dk))
     rw[c6,BF,Am];rfl
    .by_cases cs:(B J 55)=true
     .right;intro c2;rw[K4] at c2;have db:(B J 72)=true:=by
       refine cf.2 ?_;rcases c2 with h|⟨h,h'⟩
       .exact .inl (b7.2 (by rw[b6,e8,g];exact h))
       .exact .inr (ce.2 ⟨b9.2 (by rw[b8,e8,g];exact h),cc.2 (by rw[ca,e6,g];exact h')⟩)
      have:=ch.2 ⟨cs,db⟩;rw[this] at cu;cases cu
     .have:¬I J 53 < I J 54:=fun h=>cs (b5.2 h);rw[b4] at this;left;omega
  .obtain⟨o,p,-⟩:=P;obtain⟨-,-,-,Z,-⟩:=F1;obtain⟨ab,ad,-⟩:=F4;obtain⟨-,-,-,-,-,al,-⟩:=F6;obtain⟨-,-,-,-,-,-,-,-,-,an,ao,-⟩:=Q;simp only[BS,BZ,zN,zR,w2P,zL] at o p Z ab ad al an ao;obtain⟨M,N,w⟩:=C;obtain⟨X,V⟩:=F;intro v;have a2:(B J 20)=true:=(an.1 v).elim (fun h=>(ad.1 h).1) (fun h=>(ab.1 (al.1 h).1).1);have x:=p.1 (Z.1 a2).1;rw[o,g] at x;have c4:=o2' ao (by omega);omega
theorem rg (al:aab T)(z:∀u∈(L T 0),Bb BT KB u)(W:aac T)(M:yZ T (I T 1) (L T 2))(A:¬B T 86=true)(d:We T)(c6:aaa T)(N:yX T (I T 15) (B T 16))(P:¬B T 19=true)(E:((L T 2)).length<=200)(an:yY T (I T 53))(Q:¬B T 74=true)(g1:Id T)(e:BV T Ef)(a:BV T Du)(g:BV T GG)(b:BV T Ey)(i:BV T KA):
  ((L T 2)=(CH (L T 0))):=by
 have C:=e;clear e;obtain⟨D,a⟩:=a.cut;obtain⟨Y,a⟩:=a.cut;have Z:=a;clear a;have F:=g;clear g;obtain⟨F5,b⟩:=b.cut;have H:=b;clear b;have J:=i;clear i
 .obtain⟨l,o,-⟩:=C;obtain⟨-,-,j,k,-⟩:=D;obtain⟨p,q,-⟩:=F;obtain⟨-,-,-,-,r,s,-⟩:=H;obtain⟨-,-,-,-,-,-,-,-,-,c,-⟩:=J;simp only[BS,BZ,zN,zR,zL] at l o j k p q r s c;obtain⟨v1,v2,X⟩:=M;obtain⟨aO,w2,w3⟩:=N;obtain⟨p1,V⟩:=W;have K:=(Rz (show TyB ((L T 0)) from z)).1 V;have O:¬B T 4=true:=fun d=>by
   by_cases v:(B T 18)=true
   .exact P (j.2 ⟨d,v⟩)
   .have w:=k.2 ⟨d,by simpa using v⟩;by_cases t:(B T 16)=true
    .have x:=p.2 ⟨w,t⟩;by_cases y:(B T 73)=true
     .exact Q (r.2 ⟨x,y⟩)
     .exact A (c.2 (.inr (s.2 ⟨x,by simpa using y⟩)))
    .exact A (c.2 (.inl (q.2 ⟨w,by simpa using t⟩)))
  have:¬I T 1 < I T 3:=fun h=>O (o.2 h);rw[l] at this;rw[X,show (I T 1).toNat=((L T 0)).length by omega];exact pm (show TyB ((L T 0)) from z) K
theorem oQ:Bl Try.prog 86 FB:=by
 refine B7 (l:=[]) CP (by intro p h;exact absurd h (by simp)) sd (by kernel_rfl) fun T us w P x e N a=>?_;change us.length=1 at x;obtain⟨⟨c,Q⟩,-⟩:=N;replace c:(L T 0).length<=140737488355328:=c;have g:∀u∈(L T 0),Bb BT KB u:=fun u V=>by
  obtain⟨i,Z⟩:=Ac.1 V;exact Q i u Z
 have v:=inL (j:=0) P x (by decide);have k:((L T 0)).length<=200/\EZ (L T 0)=true:=by
  have h:=w (.s "rbooks.p0",KS) (by simp[FB]);change KS us at h;unfold KS at h;simp only[v] at h;exact h
 clear w;rw[AL,AL,AL] at a;obtain⟨q,a⟩:=cutB a;obtain⟨r,a⟩:=cutB a;obtain⟨d,a⟩:=cutB a;obtain⟨A0,b⟩:=Be e (by kernel_rfl) q;obtain⟨an,s,y,ab⟩:=mH c g k b d r;have o:0<=I T 1/\I T 1<=((L T 0)).length/\((L T 0)).length<=200/\(∀u∈(L T 0),Bb BT KB u)/\L T 2=CX ltB (Dr (L T 0) (I T 1).toNat):=by
  have K:L T 0=L T 0:=rfl;have W:=y;obtain⟨v1,v2,v3⟩:=W;rw[K];exact⟨v1,v2,k.1,g,v3⟩
 obtain⟨D,M,J,a3,X,ad,z,F,E,a4,Y,al,C,H,t⟩:=VS o (s.append (EO (fun _ _=>rfl) b)) d;have e:=t.append b;clear q d r b s t;obtain⟨A3,O⟩:=B8 (A:=[.l]) (ag:=ea) e (by kernel_rfl) a;have q0:=rg c g k y ab M J X ad E Y al o D z F C H;refine⟨⟨(fun _=>an),trivial⟩,O.trans ?_⟩;exact (lc (by show U.list (L T 2)= .list (Mi us);unfold Mi;rw[v];exact BI U.list q0) rfl)
def IY:List U->List (List U):=fun us=>(FP (aL us 0) (aL us 1))
def Ia:List U->List (List U):=fun us=>((hsS (aL us 0) (aL us 1) (aI us 2)).2)
def G5:List U->Prop:=fun us=>BW (aL us 0)=0/\Bc (aL us 1)=0/\((aL us 1)).length<=40
def G1:List U->Prop:=fun us=> -1<=(aI us 2)/\(aI us 2) < ((aL us 0)).length
def Ez:Bf:={ sh:=[.one (.list [.str,k64,k64]),.one (.list [k64,k64,k64,.bool,.str,.str,.bool,k64,k64]),.one (k64)],blks:=[],outs:=[(.s "rsettle.0",D1 IY),(.s "rsettle.1",D1 Ia)],c:= .tup [.ro 3 [.str,k64,k64],.ro 4 [k64]],m':=[],pre:=[(.s "rsettle.p0",G5),(.s "rsettle.p1",G1)] }
abbrev Gz (T:Tab)(a:Int)(b:List (List U))(c:List (List U)):Prop:=0<=a/\a<=((L T 14)).length/\b=(upK (hsR (I T 2)) ((L T 14)) a.toNat ((L T 5),(L T 13))).1/\c=(upK (hsR (I T 2)) ((L T 14)) a.toNat ((L T 5),(L T 13))).2
def Zq:List En:=[⟨3,.id .l,[.c (.list [])]⟩,
 ⟨4,.id .i,[.c (.int 0)]⟩,
 ABZ 5 3 0,
 ABL 6 5,
 ⟨7,.le,[.c (.int 0),.e 2]⟩,
 ABJ 8 5 2,
 ⟨9,.row 1 1 [.i],[.e 8]⟩,
 ⟨10,.app,[.c (.list []),.e 9]⟩,
 ABI 11 7,
 ⟨12,.ite .l,[.e 7,.e 9,.c (.list [])]⟩,
 ⟨13,.ite .l,[.e 7,.e 10,.c (.list [])]⟩,
 ⟨14,.outL "rbooks.0" Mi,[.e 1]⟩]
def LL:List En:=Zq
def ZP:List En:=[ABL 18 14,
 ABH 19 15 18,
 ABI 20 19,
 ABN 21 14 15,
 ⟨22,.outI "findR.0" L3,[.e 16,.e 6,.e 21]⟩,
 ABO 23 14 15,
 ⟨24,.outI "findR.0" L3,[.e 16,.e 6,.e 23]⟩,
 ⟨25,.lt,[.e 22,.c (.int 0)]⟩,
 ABF 26 19 25,
 ⟨27,.lt,[.e 24,.c (.int 0)]⟩,
 ABG 28 25 27,
 ABE 29 19 28,
 ABF 30 19 28,
 ABX 31 16 22,
 ABJ 32 16 22,
 ABK 33 16 22]
def Zo:List En:=[ABX 34 16 24,
 ABJ 35 16 24,
 ABK 36 16 24,
 ABP 37 14 15,
 ⟨38,.outI "rcount.0" MM,[.e 31,.e 32,.e 33,.e 34,.e 35,.e 36,.e 37]⟩,
 ⟨39,.outI "rcount.1" Mw,[.e 31,.e 32,.e 33,.e 34,.e 35,.e 36,.e 37]⟩,
 ⟨40,.outI "rcount.2" Mk,[.e 31,.e 32,.e 33,.e 34,.e 35,.e 36,.e 37]⟩,
 ⟨41,.outI "rcount.3" Me,[.e 31,.e 32,.e 33,.e 34,.e 35,.e 36,.e 37]⟩,
 ⟨42,.rset 0 [.s,.i,.i],[.e 16,.e 22,.e 31,.e 38,.e 39]⟩,
 ⟨43,.rset 0 [.s,.i,.i],[.e 42,.e 24,.e 34,.e 40,.e 41]⟩,
 ⟨44,.eq,[.e 22,.e 2]⟩,
 ABF 45 30 44,
 ⟨46,.eq,[.e 24,.e 2]⟩,
 ABG 47 44 46,
 ABE 48 30 47,
 ABJ 49 43 2]
def ZS:List En:=[⟨50,.row 1 1 [.i],[.e 49]⟩,
 ABZ 51 17 50,
 ABF 52 30 47,
 ABV 53 47 51 17,
 ⟨54,.ite .l,[.e 47,.e 50,.c (.list [])]⟩,
 ABV 55 29 16 43,
 ABV 56 29 17 53,
 ⟨57,.ite .l,[.e 29,.c (.list []),.e 54]⟩,
 ABG 58 29 30,
 ⟨59,.w2 .i64 .add,[.e 15,.c (.int 1)]⟩]
def Fi:List En:=ZP++(Zo++(ZS))
def UD:List ObE:=[⟨some 48,.fits 8,[.e 17,.e 50]⟩,⟨some 48,.inr,[.e 2,.e 6]⟩,⟨some 30,.inr,[.e 24,.e 6]⟩,⟨some 30,.inr,[.e 22,.e 6]⟩,⟨some 30,.pre "rcount.p0" KW,[.e 31,.e 32,.e 33,.e 34,.e 35,.e 36,.e 37]⟩,⟨some 30,.pre "rcount.p1" KL,[.e 31,.e 32,.e 33,.e 34,.e 35,.e 36,.e 37]⟩,⟨some 30,.inl,[.e 15,.e 14]⟩,⟨some 30,.inr,[.e 24,.e 6]⟩,⟨some 30,.inr,[.e 22,.e 6]⟩,⟨some 19,.pre "findR.p0" JJ,[.e 16,.e 6,.e 23]⟩,⟨some 19,.inl,[.e 15,.e 14]⟩,⟨some 19,.pre "findR.p0" JJ,[.e 16,.e 6,.e 21]⟩,⟨some 19,.inl,[.e 15,.e 14]⟩]
def LC:Bs:=mkD 15 3 Fi 58 [.e 59,.e 55,.e 56] UD [2,14,6]
def O8:List Rf:=[.e 2,.e 14,.e 6,.c (.int 0),.e 5,.e 13]
def gB:List En:=[]
def ph:List ObE:=[⟨none,.owes LC,[.e 2,.e 14,.e 6,.c (.int 0),.e 5,.e 13]⟩,
 ⟨none,.pre "rbooks.p0" KS,[.e 1]⟩,
 ⟨some 7,.fits 8,[.c (.list []),.e 9]⟩,
 ⟨some 7,.inr,[.e 2,.e 6]⟩,
 ⟨none,.fits 32,[.e 3,.e 0]⟩]
def X9:List Rf:=[.e 16,.e 17]
theorem pt:Ez.sees X9 (Ez.run Try.prog [(76,Ko),(92,I3),(86,FB)] NZ 3000 20 80)=some ((LL++((B5 LC [.i,.l,.l] O8)++(Fi++(gB)))).map En.be,ph.map ObE.be,[]):=by kernel_rfl
abbrev aad(T:Tab):Prop:=(L T 1).length<=140737488355328
abbrev aae(T:Tab):Prop:=BW (L T 0)=0/\Bc (L T 1)=0/\((L T 1)).length<=40
abbrev aaf(T:Tab):Prop:=-1<=I T 2/\I T 2 < ((L T 0)).length
theorem cL (z:aab T)(r:∀u∈(L T 0),Bb BT KP u)(A:aad T)(k:aae T)(C:aaf T)(c:BV T LL):
  ((L T 5)=L T 0/\DD (L T 0)/\OkR (L T 0)/\GI (L T 0)/\((L T 0)).length<=24)/\((I T 6)=((L T 0)).length)/\((L T 14)=CH (L T 1)/\((L T 14)).length<=40/\∀u∈(L T 14),¬uS u 4=uS u 5)/\(((L T 13)).length<=1):=by
 have a:=c;clear c;have q:(L T 5)=L T 0/\DD (L T 0)/\OkR (L T 0)/\GI (L T 0)/\((L T 0)).length<=24:=by
  obtain⟨d,-,e,-⟩:=a;simp only[BS,BZ,zR,zL,zS] at d e;obtain⟨h,i,j⟩:=k;obtain⟨t,o2,v⟩:=Nm h;exact⟨by rw[e,d];rfl,o2,t,fun u s=>by rw[<-pS (r u s)];rfl,v⟩
 have x:(I T 6)=((L T 0)).length:=by
  obtain⟨-,-,-,g,-⟩:=a;simp only[BS,zR,zL] at g;rw[g,q.1]
 have y:(L T 14)=CH (L T 1)/\((L T 14)).length<=40/\∀u∈(L T 14),¬uS u 4=uS u 5:=by
  obtain⟨-,-,-,-,-,-,-,-,-,-,-,b,-⟩:=a;replace b:L T 14=(CH (L T 1)):=b;obtain⟨h,i,j⟩:=k;rw[b];exact⟨rfl,AV Jg j,UN i⟩
 have w:((L T 13)).length<=1:=by
  obtain⟨-,-,-,-,-,-,p,l,-,-,o,-⟩:=a;simp only[BS,BZ,zR,zL,zS,uR,Cp,zW] at p l o;grind
 grind
abbrev aag(T:Tab):Prop:=(L T 5)=L T 0/\DD (L T 0)/\OkR (L T 0)/\GI (L T 0)/\((L T 0)).length<=24
abbrev aah(T:Tab):Prop:=(L T 14)=CH (L T 1)/\((L T 14)).length<=40/\∀u∈(L T 14),¬uS u 4=uS u 5
theorem gK (d3:aaf T)(E:aag T)(M:(I T 6)=((L T 0)).length)(hb:aah T)(ds:((L T 13)).length<=1)(hS:Ba T (Bh (CA 0 Ez.ks) LL))(hB:Bi T (Fi.map En.be))(hH:Bi T ((B5 LC [.i,.l,.l] O8).map En.be)):
  (LC).owes (O8.map (Rf.eval T))/\Ba T (hds 15 [.i,.l,.l])/\(Gz T (I T 15) (L T 16) (L T 17))/\¬B T 58=true:=by
 refine CK (nh:=15) (k:=3) (pcn:=58) (R:=60) (b:=Fi) (K:=UD) (nxt:=[.e 59,.e 55,.e 56]) (H:=[.c (.int 0),.e 5,.e 13]) (fv:=[2,14,6]) (A:=[.i,.l,.l]) (by kernel_rfl) rfl rfl rfl rfl hS (by kernel_rfl) (by kernel_rfl) hB (B6 hH) (fun s=>Gz T (aI s 0) (aL s 1) (aL s 2)) (fun s=>(((L T 14)).length - (aI s 0)).toNat) ?_ ?_
 .show Gz T (0:Int) (L T 5) (L T 13);clear hS hB hH;exact⟨Aw _,by omega,rfl,rfl⟩
 .intro J bi Z D;replace D:Gz T (I J 15) (L J 16) (L J 17):=D;clear hS hB hH;replace Z:BV J Fi:=Z;obtain⟨C,Z⟩:=Z.cut;obtain⟨F1,Z⟩:=Z.cut;have F2:=Z;clear Z;have cs:=fvI (bi 2 (by decide));have a0:=fvL (bi 14 (by decide));have dn:=fvI (bi 6 (by decide));clear bi
  suffices hz:(B J 48=true->(((L J 17)).length+((L J 50)).length)*8<=140737488355328)/\(B J 48=true->0<=I J 2/\I J 2 < I J 6)/\(B J 30=true->0<=I J 24/\I J 24 < I J 6)/\(B J 30=true->0<=I J 22/\I J 22 < I J 6)/\(B J 30=true-> -10000<=I J 32/\I J 32<=10000/\ -12<=I J 33/\I J 33<=48)/\(B J 30=true-> -10000<=I J 35/\I J 35<=10000/\ -12<=I J 36/\I J 36<=48)/\(B J 30=true->0<=I J 15/\I J 15 < ((L J 14)).length)/\(B J 30=true->0<=I J 24/\I J 24 < I J 6)/\(B J 30=true->0<=I J 22/\I J 22 < I J 6)/\(B J 19=true->((L J 16)).length=I J 6)/\(B J 19=true->0<=I J 15/\I J 15 < ((L J 14)).length)/\(B J 19=true->((L J 16)).length=I J 6)/\(B J 19=true->0<=I J 15/\I J 15 < ((L J 14)).length)/\(B J 58=true->(Gz T (I J 59) (L J 55) (L J 56)))/\(B J 58=true->(((L T 14)).length - (I J 59)).toNat < (((L T 14)).length - (I J 15)).toNat) from
   let⟨r0,ay,aG,r3,r4,r5,r6,r7,r8,r9,c4,c5,c6,nx,mz⟩:=hz;⟨⟨r0,ay,aG,r3,r4,r5,r6,r7,r8,r9,c4,c5,c6,trivial⟩,fun w=>⟨nx w,mz w⟩⟩
  refine⟨?_,?_,?_,?_,?_,?_,?_,?_,?_,?_,?_,?_,?_,?_,?_⟩
  .obtain⟨i,j,-,-,a,-,c,o,-,p,d,-,l,-⟩:=C;obtain⟨-,-,-,-,-,-,-,-,-,-,-,-,-,-,ba,-⟩:=F1;obtain⟨b2,-⟩:=F2;replace a:I J 22=(Bm (L J 16) (S J 21)):=a;replace c:I J 24=(Bm (L J 16) (S J 23)):=c;simp only[BS,BZ,zN,zR,zL,zS,uR,Cp,zW] at i j o p d l ba b2;obtain⟨V,W,v,X⟩:=D;obtain⟨t,aw,x,y,F⟩:=E;have g:(L J 16)=upK rfU (L T 14) (I J 15).toNat (L T 0):=by rw[v,IP,t]
   have u:nmL ((L J 16))=nmL ((L T 0)):=by rw[g];exact HM _
   have N:((L J 16)).length=((L T 0)).length:=DG u;have O:OkR ((L J 16)):=by rw[g];exact IS x _
   have q5:GI ((L J 16)):=by rw[g];exact IW y _
   have q6:(I T 6)=((L T 0)).length:=M;intro w;have z:=(ba.1 w).1;have r:¬B J 28=true:=by rw[(l.1 z).2];exact Bool.false_ne_true
   have ab:¬I J 22 < 0:=fun h=>r (d.2 (.inl (o.2 h)));have ad:¬I J 24 < 0:=fun h=>r (d.2 (.inr (p.2 h)));have Q:=EN (P:=L J 16) (s:=S J 21);have ao:=EN (P:=L J 16) (s:=S J 23);rw[<-a] at Q;rw[<-c] at ao;have Y:=(l.1 z).1;have al:=j.1 Y;rw[i,a0] at al;have hl:=XR (one:=I T 2) (B:=L T 14) (q:=((L T 5),(L T 13))) (I J 15).toNat;grind
  .obtain⟨i,j,-,-,a,-,c,o,-,p,d,-,l,-⟩:=C;obtain⟨-,-,-,-,-,-,-,-,-,-,a8,-,a9,b1,ba,-⟩:=F1;replace a:I J 22=(Bm (L J 16) (S J 21)):=a;replace c:I J 24=(Bm (L J 16) (S J 23)):=c;simp only[BS,BZ,zN,zR,zL] at i j o p d l a8 a9 b1 ba;grind
  .obtain⟨i,j,-,-,a,-,c,o,-,p,d,-,l,-⟩:=C;replace a:I J 22=(Bm (L J 16) (S J 21)):=a;replace c:I J 24=(Bm (L J 16) (S J 23)):=c;simp only[BS,BZ,zN,zR,zL] at i j o p d l;obtain⟨V,W,v,X⟩:=D;obtain⟨t,aw,x,y,F⟩:=E;have g:(L J 16)=upK rfU (L T 14) (I J 15).toNat (L T 0):=by rw[v,IP,t]
   have u:nmL ((L J 16))=nmL ((L T 0)):=by rw[g];exact HM _
   have N:((L J 16)).length=((L T 0)).length:=DG u;have O:OkR ((L J 16)):=by rw[g];exact IS x _
   have q5:GI ((L J 16)):=by rw[g];exact IW y _
   have q6:(I T 6)=((L T 0)).length:=M;intro w;have z:=w;have r:¬B J 28=true:=by rw[(l.1 z).2];exact Bool.false_ne_true
   have ab:¬I J 22 < 0:=fun h=>r (d.2 (.inl (o.2 h)));have ad:¬I J 24 < 0:=fun h=>r (d.2 (.inr (p.2 h)));have Q:=EN (P:=L J 16) (s:=S J 21);have ao:=EN (P:=L J 16) (s:=S J 23);grind
  .obtain⟨i,j,-,-,a,-,c,o,-,p,d,-,l,-⟩:=C;replace a:I J 22=(Bm (L J 16) (S J 21)):=a;replace c:I J 24=(Bm (L J 16) (S J 23)):=c;simp only[BS,BZ,zN,zR,zL] at i j o p d l;obtain⟨V,W,v,X⟩:=D;obtain⟨t,aw,x,y,F⟩:=E;have g:(L J 16)=upK rfU (L T 14) (I J 15).toNat (L T 0):=by rw[v,IP,t]
   have u:nmL ((L J 16))=nmL ((L T 0)):=by rw[g];exact HM _
   have N:((L J 16)).length=((L T 0)).length:=DG u;have O:OkR ((L J 16)):=by rw[g];exact IS x _
   have q5:GI ((L J 16)):=by rw[g];exact IW y _
   have q6:(I T 6)=((L T 0)).length:=M;intro w;have z:=w;have r:¬B J 28=true:=by rw[(l.1 z).2];exact Bool.false_ne_true
   have ab:¬I J 22 < 0:=fun h=>r (d.2 (.inl (o.2 h)));have ad:¬I J 24 < 0:=fun h=>r (d.2 (.inr (p.2 h)));have Q:=EN (P:=L J 16) (s:=S J 21);grind
  .obtain⟨i,j,-,-,a,-,c,o,-,p,d,-,l,-,a4,a5,-⟩:=C;replace a:I J 22=(Bm (L J 16) (S J 21)):=a;replace c:I J 24=(Bm (L J 16) (S J 23)):=c;simp only[BS,BZ,zN,zR,zL] at i j o p d l a4 a5;obtain⟨V,W,v,X⟩:=D;obtain⟨t,aw,x,y,F⟩:=E;have g:(L J 16)=upK rfU (L T 14) (I J 15).toNat (L T 0):=by rw[v,IP,t]
   have u:nmL ((L J 16))=nmL ((L T 0)):=by rw[g];exact HM _
   have N:((L J 16)).length=((L T 0)).length:=DG u;have O:OkR ((L J 16)):=by rw[g];exact IS x _
   have q5:GI ((L J 16)):=by rw[g];exact IW y _
   have q6:(I T 6)=((L T 0)).length:=M;intro w;have z:=w;have r:¬B J 28=true:=by rw[(l.1 z).2];exact Bool.false_ne_true
   have ab:¬I J 22 < 0:=fun h=>r (d.2 (.inl (o.2 h)));have ad:¬I J 24 < 0:=fun h=>r (d.2 (.inr (p.2 h)));have Q:=EN (P:=L J 16) (s:=S J 21);have ao:=EN (P:=L J 16) (s:=S J 23);rw[<-a] at Q;rw[<-c] at ao;have Y:=(l.1 z).1;have al:=j.1 Y;rw[i,a0] at al;have:=O (I J 22).toNat (by omega);grind
  .obtain⟨i,j,-,-,a,-,c,o,-,p,d,-,l,-⟩:=C;obtain⟨-,a6,a7,-⟩:=F1;replace a:I J 22=(Bm (L J 16) (S J 21)):=a;replace c:I J 24=(Bm (L J 16) (S J 23)):=c;simp only[BS,BZ,zN,zR,zL] at i j o p d l a6 a7;obtain⟨V,W,v,X⟩:=D;obtain⟨t,aw,x,y,F⟩:=E;have g:(L J 16)=upK rfU (L T 14) (I J 15).toNat (L T 0):=by rw[v,IP,t]
   have u:nmL ((L J 16))=nmL ((L T 0)):=by rw[g];exact HM _
   have N:((L J 16)).length=((L T 0)).length:=DG u;have O:OkR ((L J 16)):=by rw[g];exact IS x _
   have q5:GI ((L J 16)):=by rw[g];exact IW y _
   have q6:(I T 6)=((L T 0)).length:=M;intro w;have z:=w;have r:¬B J 28=true:=by rw[(l.1 z).2];exact Bool.false_ne_true
   have ab:¬I J 22 < 0:=fun h=>r (d.2 (.inl (o.2 h)));have ad:¬I J 24 < 0:=fun h=>r (d.2 (.inr (p.2 h)));have Q:=EN (P:=L J 16) (s:=S J 21);have ao:=EN (P:=L J 16) (s:=S J 23);rw[<-a] at Q;rw[<-c] at ao;have Y:=(l.1 z).1;have al:=j.1 Y;rw[i,a0] at al;have:=O (I J 24).toNat (by omega);grind
  .obtain⟨i,j,-,-,a,-,c,o,-,p,d,-,l,-⟩:=C;replace a:I J 22=(Bm (L J 16) (S J 21)):=a;replace c:I J 24=(Bm (L J 16) (S J 23)):=c;simp only[BS,BZ,zN,zR,zL] at i j o p d l;grind
  .obtain⟨i,j,-,-,a,-,c,o,-,p,d,-,l,-⟩:=C;replace a:I J 22=(Bm (L J 16) (S J 21)):=a;replace c:I J 24=(Bm (L J 16) (S J 23)):=c;simp only[BS,BZ,zN,zR,zL] at i j o p d l;obtain⟨V,W,v,X⟩:=D;obtain⟨t,aw,x,y,F⟩:=E;have g:(L J 16)=upK rfU (L T 14) (I J 15).toNat (L T 0):=by rw[v,IP,t]
   have u:nmL ((L J 16))=nmL ((L T 0)):=by rw[g];exact HM _
   have N:((L J 16)).length=((L T 0)).length:=DG u;have O:OkR ((L J 16)):=by rw[g];exact IS x _
   have q5:GI ((L J 16)):=by rw[g];exact IW y _
   have q6:(I T 6)=((L T 0)).length:=M;intro w;have z:=w;have r:¬B J 28=true:=by rw[(l.1 z).2];exact Bool.false_ne_true
   have ab:¬I J 22 < 0:=fun h=>r (d.2 (.inl (o.2 h)));have ad:¬I J 24 < 0:=fun h=>r (d.2 (.inr (p.2 h)));have Q:=EN (P:=L J 16) (s:=S J 21);have ao:=EN (P:=L J 16) (s:=S J 23);grind
  .obtain⟨i,j,-,-,a,-,c,o,-,p,d,-,l,-⟩:=C;replace a:I J 22=(Bm (L J 16) (S J 21)):=a;replace c:I J 24=(Bm (L J 16) (S J 23)):=c;simp only[BS,BZ,zN,zR,zL] at i j o p d l;obtain⟨V,W,v,X⟩:=D;obtain⟨t,aw,x,y,F⟩:=E;have g:(L J 16)=upK rfU (L T 14) (I J 15).toNat (L T 0):=by rw[v,IP,t]
   have u:nmL ((L J 16))=nmL ((L T 0)):=by rw[g];exact HM _
   have N:((L J 16)).length=((L T 0)).length:=DG u;have O:OkR ((L J 16)):=by rw[g];exact IS x _
   have q5:GI ((L J 16)):=by rw[g];exact IW y _
   have q6:(I T 6)=((L T 0)).length:=M;intro w;have z:=w;have r:¬B J 28=true:=by rw[(l.1 z).2];exact Bool.false_ne_true
   have ab:¬I J 22 < 0:=fun h=>r (d.2 (.inl (o.2 h)));have ad:¬I J 24 < 0:=fun h=>r (d.2 (.inr (p.2 h)));have Q:=EN (P:=L J 16) (s:=S J 21);grind
  .obtain⟨i,j,-⟩:=C;simp only[BS,zR,zL] at i j;obtain⟨V,W,v,X⟩:=D;obtain⟨t,aw,x,y,F⟩:=E;have g:(L J 16)=upK rfU (L T 14) (I J 15).toNat (L T 0):=by rw[v,IP,t]
   have u:nmL ((L J 16))=nmL ((L T 0)):=by rw[g];exact HM _
   have N:((L J 16)).length=((L T 0)).length:=DG u;grind
  .obtain⟨i,j,-⟩:=C;simp only[BS,zR,zL] at i j;grind
  .obtain⟨i,j,-⟩:=C;simp only[BS,zR,zL] at i j;obtain⟨V,W,v,X⟩:=D;obtain⟨t,aw,x,y,F⟩:=E;have g:(L J 16)=upK rfU (L T 14) (I J 15).toNat (L T 0):=by rw[v,IP,t]
   have u:nmL ((L J 16))=nmL ((L T 0)):=by rw[g];exact HM _
   have N:((L J 16)).length=((L T 0)).length:=DG u;grind
  .obtain⟨i,j,-⟩:=C;simp only[BS,zR,zL] at i j;grind
  .obtain⟨i,j,-,a2,a,a3,c,o,-,p,d,ax,l,ca,a4,a5,-⟩:=C;obtain⟨cb,a6,a7,bo,bs,bt,bx,b0,cc,ce,a8,-,a9,b1,-,cf,-⟩:=F1;obtain⟨b2,cj,-,cl,-,b3,b4,-,bb,bc,-⟩:=F2;replace a:I J 22=(Bm (L J 16) (S J 21)):=a;replace c:I J 24=(Bm (L J 16) (S J 23)):=c;replace bs:I J 38=(B9 (I J 32) (CJ (I J 32) (I J 35) (B J 37))):=bs;replace bt:I J 39=(Cz (B9 (I J 32) (CJ (I J 32) (I J 35) (B J 37))) (I J 33)):=bt;replace bx:I J 40=(B9 (I J 35) (-(CJ (I J 32) (I J 35) (B J 37)))):=bx;replace b0:I J 41=(Cz (B9 (I J 35) (-(CJ (I J 32) (I J 35) (B J 37)))) (I J 36)):=b0;simp only[BS,BZ,zN,zR,w2P,zL,zS,uR,Cp,zW,zC] at i j a2 a3 o p d ax l ca a4 a5 cb a6 a7 bo cc ce a8 a9 b1 cf b2 cj cl b3 b4 bb bc;obtain⟨V,W,v,X⟩:=D;obtain⟨t,aw,x,y,F⟩:=E;have g:(L J 16)=upK rfU (L T 14) (I J 15).toNat (L T 0):=by rw[v,IP,t]
   have u:nmL ((L J 16))=nmL ((L T 0)):=by rw[g];exact HM _
   have N:((L J 16)).length=((L T 0)).length:=DG u;have O:OkR ((L J 16)):=by rw[g];exact IS x _
   have q5:GI ((L J 16)):=by rw[g];exact IW y _
   have q6:(I T 6)=((L T 0)).length:=M;intro w;have dv:=bb.1 w;have Y:(B J 19)=true:=by
    grind
   have al:=j.1 Y;rw[i,a0] at al;have dm:=o2' bc (by omega);rw[a0] at a2 a3 bo;rw[cs] at a8 a9 cf;have d2:hsR (I T 2) ((L J 16),(L J 17)) (((L T 14)).getD (I J 15).toNat [])=((L J 55),(L J 56)):=by
    have w4:Bm ((L J 16)) (uS (((L T 14)).getD (I J 15).toNat []) 4)=I J 22:=by rw[a,a2];rfl
    have w5:Bm ((L J 16)) (uS (((L T 14)).getD (I J 15).toNat []) 5)=I J 24:=by rw[c,a3];rfl
    by_cases hm:(B J 28)=true
    .have ch:(B J 29)=true:=ax.2 ⟨Y,hm⟩;rw[b3,BH ch,b4,BH ch];refine BH ?_;grind
    .have ci:¬B J 29=true:=fun h=>hm (ax.1 h).2;have ab:¬I J 22 < 0:=fun h=>hm (d.2 (.inl (o.2 h)));have ad:¬I J 24 < 0:=fun h=>hm (d.2 (.inr (p.2 h)));have b8:Bv ((L J 16)) (S J 21) < ((L J 16)).length:=FE.1 (by rw[<-a];exact ab);have b9:Bv ((L J 16)) (S J 23) < ((L J 16)).length:=FE.1 (by rw[<-c];exact ad);have cy:(I J 22).toNat=Bv ((L J 16)) (S J 21):=by rw[a,Hi b8];rfl
     have c0:(I J 24).toNat=Bv ((L J 16)) (S J 23):=by rw[c,Hi b9];rfl
     have cv:¬S J 21=S J 23:=by
      rw[a2,a3];have:=hb.2.2 (((L T 14)).getD (I J 15).toNat []) (by rw[Dd (by omega)];exact yM _);exact this
     have d0:(L J 43)=FI ((L J 16)) (I J 22).toNat (I J 24).toNat (B J 37):=by
      rw[ce,cc,bx,b0,bs,bt,ca,a4,a5,cb,a6,a7];exact wY q5 (by omega) (by omega) (by rw[cy,c0];exact FD b8 b9 cv) rfl
     have M:uB (((L T 14)).getD (I J 15).toNat []) 6=B J 37:=by rw[bo];rfl
     rw[b3,BG ci,b4,BG ci];refine (BG (show¬(Bm ((L J 16)) (uS (((L T 14)).getD (I J 15).toNat []) 4) < 0\/Bm ((L J 16)) (uS (((L T 14)).getD (I J 15).toNat []) 5) < 0) by rw[w4,w5];omega)).trans ?_;grind
   have e:upK (hsR (I T 2)) ((L T 14)) (I J 59).toNat ((L T 5),(L T 13))=((L J 55),(L J 56)):=by
    rw[dm,show ((I J 15)+1).toNat=(I J 15).toNat+1 by omega];show hsR (I T 2) (upK (hsR (I T 2)) ((L T 14)) (I J 15).toNat ((L T 5),(L T 13))) _=_;grind
   grind
  .obtain⟨i,j,-,-,-,-,-,-,-,-,-,ax,l,-⟩:=C;obtain⟨-,-,-,-,-,-,-,-,bb,bc,-⟩:=F2;simp only[BS,BZ,zN,zR,w2P,zL] at i j ax l bb bc;grind
theorem nQ (ad:aab T)(ab:∀u∈(L T 0),Bb BT KP u)(ag:aad T)(w:aae T)(an:aaf T)(Z:aag T)(X:(I T 6)=((L T 0)).length)(Y:aah T)(A:((L T 13)).length<=1)(C:Gz T (I T 15) (L T 16) (L T 17))(D:¬B T 58=true)(x:BV T LL)(d:BV T Fi):
  ((L T 16)=(FP (L T 0) (L T 1)))/\
  ((L T 17)=((hsS (L T 0) (L T 1) (I T 2)).2))/\
  (((L T 1)).length<=200/\EZ (L T 1)=true)/\
  (B T 7=true->((([]:List (List U))).length+((L T 9)).length)*8<=140737488355328)/\
  (B T 7=true->0<=I T 2/\I T 2 < I T 6)/\
  ((((L T 3)).length+((L T 0)).length)*32<=140737488355328):=by
 have e:=x;clear x;obtain⟨y,d⟩:=d.cut;obtain⟨W,d⟩:=d.cut;have z:=d;clear d;have n9:(L T 9).length<=1:=by
  obtain⟨-,-,-,-,-,-,q,-⟩:=e;simp only[BS,BZ,zR,zL,zS,uR,Cp,zW] at q;grind
 refine⟨?_,?_,?_,?_,?_,?_⟩
 .obtain⟨a,-,c,-,-,-,-,-,-,-,-,b,-⟩:=e;obtain⟨g,i,-,-,-,-,-,-,-,-,-,o,j,-⟩:=y;obtain⟨-,-,-,-,-,-,-,-,k,-⟩:=z;replace b:L T 14=(CH (L T 1)):=b;simp only[BS,BZ,zN,zR,zL,zS] at a c g i o j k;obtain⟨Q,V,H,J⟩:=C;obtain⟨E,l,F⟩:=w;have v:¬B T 19=true:=fun h=>D (k.2 (by
   by_cases s:(B T 28)=true
   .grind
   .exact .inr (j.2 ⟨h,by simpa using s⟩)))
  have P:¬I T 15 < ((L T 14)).length:=fun h=>v (i.2 (by rw[g];exact h));have t:(I T 15).toNat=((L T 14)).length:=by omega
  have r:(L T 5)=L T 0:=by rw[c,a];rfl
  rw[H,IP,t,Jd,r,b];rfl
 .obtain⟨a,-,c,-,p,O,q,K,-,-,M,b,-⟩:=e;obtain⟨g,i,-,-,-,-,-,-,-,-,-,o,j,-⟩:=y;obtain⟨-,-,-,-,-,-,-,-,k,-⟩:=z;replace b:L T 14=(CH (L T 1)):=b;simp only[BS,BZ,zN,zR,zL,zS,uR,Cp,zW] at a c p O q K M g i o j k;obtain⟨Q,V,H,J⟩:=C;obtain⟨E,l,F⟩:=w;have v:¬B T 19=true:=fun h=>D (k.2 (by
   by_cases s:(B T 28)=true
   .grind
   .exact .inr (j.2 ⟨h,by simpa using s⟩)))
  have P:¬I T 15 < ((L T 14)).length:=fun h=>v (i.2 (by rw[g];exact h));have t:(I T 15).toNat=((L T 14)).length:=by omega
  have r:(L T 5)=L T 0:=by rw[c,a];rfl
  have A:(L T 13)=if 0<=(I T 2) then [[.int (BU (L T 0) (I T 2).toNat 1)]] else []:=by
   grind
  rw[J,t,Jd,r,b,A];rfl
 .obtain⟨E,l,F⟩:=w;exact⟨Mp l,cS l⟩
 .grind
 .obtain⟨a,-,c,N,p,-⟩:=e;simp only[BS,BZ,zR,zL,zS] at a c N p;grind
 .obtain⟨a,-⟩:=e;simp only[BS,zR,zL,zS] at a;grind
theorem VN:Bl Try.prog 80 Ez:=by
 refine B7 (l:=[(76,Ko),(92,I3),(86,FB)]) CP (by simp only[AW];exact⟨qx,px,oQ,fun _ h=>absurd h (by simp)⟩) pt (by kernel_rfl) fun T us p o d g J a=>?_;change us.length=3 at d;obtain⟨⟨b,O⟩,⟨c,an⟩,-⟩:=J;replace b:(L T 0).length<=140737488355328:=b;have E:∀u∈(L T 0),Bb BT KP u:=fun u P=>by
  obtain⟨i,Z⟩:=Ac.1 P;exact O i u Z
 replace c:(L T 1).length<=140737488355328:=c;have y:=inL (j:=0) o d (by decide);have z:=inL (j:=1) o d (by decide);have N:=inI (j:=2) o d (by decide);have F:BW (L T 0)=0/\Bc (L T 1)=0/\((L T 1)).length<=40:=by
  have h:=p (.s "rsettle.p0",G5) (by simp[Ez]);change G5 us at h;unfold G5 at h;grind
 have q: -1<=I T 2/\I T 2 < ((L T 0)).length:=by
  have h:=p (.s "rsettle.p1",G1) (by simp[Ez]);change G1 us at h;unfold G1 at h;grind
 clear p;rw[AL,AL,AL] at a;obtain⟨v,a⟩:=cutB a;obtain⟨w,a⟩:=cutB a;obtain⟨e,a⟩:=cutB a;obtain⟨r,k⟩:=Be g (by kernel_rfl) v;obtain⟨D,t,C,s⟩:=cL b E c F q r;obtain⟨W,x,Q,V⟩:=gK q D t C s k e w;have K:=(Be (x.append k) (l:=Fi) (by kernel_rfl) e);obtain⟨H,g⟩:=K;clear v e w k x;obtain⟨A1,M⟩:=B8 (A:=[.l,.l]) (ag:=X9) g (by kernel_rfl) a;obtain⟨X,Y,r0,ay,aG,r3⟩:=nQ b E c F q D t C s Q V r H;refine⟨⟨(fun _=>W),(fun _=>r0),ay,aG,(fun _=>r3),trivial⟩,M.trans ?_⟩;exact (lc (by show U.list (L T 16)= .list (IY us);unfold IY;rw[y,z];exact BI U.list X) (lc (by show U.list (L T 17)= .list (Ia us);unfold Ia;rw[y,z,N];exact BI U.list Y) rfl))
def OH:List U->List (List U):=fun us=>(if (if¬BW (aL us 0)=0 then BW (aL us 0) else Bc (aL us 1))=0 then FP (aL us 0) (aL us 1) else [])
def Oh:List U->Int:=fun us=>((if¬BW (aL us 0)=0 then BW (aL us 0) else Bc (aL us 1)))
def Lh:List U->Prop:=fun us=>((aL us 1)).length<=40\/200 < ((aL us 1)).length
def M7:Bf:={ sh:=[.one (.list [.str,k64,k64]),.one (.list [k64,k64,k64,.bool,.str,.str,.bool,k64,k64])],blks:=[],outs:=[(.s "rSetl.0",D1 OH),(.s "rSetl.1",CW Oh)],c:= .tup [.ro 2 [.str,k64,k64],(Cy 3)],m':=[],pre:=[(.s "rSetl.p0",Lh)] }
def fU:List En:=[⟨2,.outI "rboth.0" Hm,[.e 0,.e 1]⟩,
 ⟨3,.ne,[.e 2,.c (.int 0)]⟩,
 ⟨4,.outI "rboth.0" Hm,[.e 0,.e 1]⟩,
 ABI 5 3,
 ⟨6,.outL "rsettle.0" IY,[.e 0,.e 1,.c (.int (-1))]⟩,
 ⟨7,.outL "rsettle.1" Ia,[.e 0,.e 1,.c (.int (-1))]⟩,
 ⟨8,.ite .i,[.e 3,.e 4,.c (.int 0)]⟩,
 ⟨9,.ite .l,[.e 3,.c (.list []),.e 6]⟩,
 ABG 10 3 5]
def YZ:List En:=fU
def vh:List ObE:=[⟨some 5,.pre "rsettle.p0" G5,[.e 0,.e 1,.c (.int (-1))]⟩,
 ⟨some 5,.pre "rsettle.p1" G1,[.e 0,.e 1,.c (.int (-1))]⟩]
def gg:List Rf:=[.e 9,.e 8]
theorem wL:M7.sees gg (M7.run Try.prog [(79,KX),(80,Ez)] Bp 3000 20 38)=some ((YZ).map En.be,vh.map ObE.be,[]):=by kernel_rfl
theorem wA (s:aab T)(r:∀u∈(L T 0),Bb BT KP u)(t:aad T)(q:((L T 1)).length<=40\/200 < ((L T 1)).length)(j:BV T YZ):
  ((L T 9)=(if (if¬BW (L T 0)=0 then BW (L T 0) else Bc (L T 1))=0 then FP (L T 0) (L T 1) else []))/\
  ((I T 8)=((if¬BW (L T 0)=0 then BW (L T 0) else Bc (L T 1))))/\
  (B T 5=true->BW (L T 0)=0/\Bc (L T 1)=0/\((L T 1)).length<=40)/\
  (B T 5=true-> -1<=((-1):Int)/\((-1):Int) < ((L T 0)).length):=by
 have e:=j;clear j;refine⟨?_,?_,?_,?_⟩
 .obtain⟨b,c,-,-,i,-,-,o,-⟩:=e;replace b:I T 2=(if¬BW (L T 0)=0 then BW (L T 0) else Bc (L T 1)):=b;replace i:L T 6=(FP (L T 0) (L T 1)):=i;simp only[BS,BZ,zR,zL,zS] at c o;rw[o];by_cases h:(B T 3)=true
  .rw[BH h,BG (fun a=>(c.1 h) (b.trans a))]
  .have d:(I T 2)=0:=At fun a=>h (c.2 a);rw[BG h,BH (b.symm.trans d),i]
 .obtain⟨b,c,g,-,-,-,l,-⟩:=e;replace b:I T 2=(if¬BW (L T 0)=0 then BW (L T 0) else Bc (L T 1)):=b;replace g:I T 4=(if¬BW (L T 0)=0 then BW (L T 0) else Bc (L T 1)):=g;simp only[BS,BZ,zR,zL,zS] at c l;rw[l];by_cases h:(B T 3)=true
  .rw[BH h,g]
  .have d:(I T 2)=0:=At fun a=>h (c.2 a);rw[BG h,<-b,d]
 .obtain⟨b,c,-,k,-⟩:=e;replace b:I T 2=(if¬BW (L T 0)=0 then BW (L T 0) else Bc (L T 1)):=b;simp only[BS,BZ,zR] at c k;intro h;have p:¬B T 3=true:=by simpa using k.1 h
  have d:(I T 2)=0:=At fun a=>p (c.2 a);exact dF (b.symm.trans d) q
 .intro h;omega
theorem qp:Bl Try.prog 38 M7:=by
 refine B7 (l:=[(79,KX),(80,Ez)]) CP (by simp only[AW];exact⟨dV,VN,fun _ h=>absurd h (by simp)⟩) wL (by kernel_rfl) fun T us k e d s p q=>?_;change us.length=2 at d;obtain⟨⟨b,t⟩,⟨c,D⟩,-⟩:=p;replace b:(L T 0).length<=140737488355328:=b;have v:∀u∈(L T 0),Bb BT KP u:=fun u w=>by
  obtain⟨i,Z⟩:=Ac.1 w;exact t i u Z
 replace c:(L T 1).length<=140737488355328:=c;have g:=inL (j:=0) e d (by decide);have a:=inL (j:=1) e d (by decide);have x:((L T 1)).length<=40\/200 < ((L T 1)).length:=by
  have h:=k (.s "rSetl.p0",Lh) (by simp[M7]);change Lh us at h;unfold Lh at h;simp only[a] at h;exact h
 clear k
 skip
 obtain⟨o,r⟩:=B8 (A:=[.l,.i]) (ag:=gg) s (by kernel_rfl) q;obtain⟨y,z,C,ay⟩:=wA b v c x o;refine⟨⟨C,ay,trivial⟩,r.trans ?_⟩;exact (lc (by show U.list (L T 9)= .list (OH us);unfold OH;rw[g,a];exact BI U.list y) (lc (by show U.int (I T 8)= .int (Oh us);unfold Oh;rw[g,a];exact BI U.int z) rfl))
def Hl:List U->List (List U):=fun us=>(if Bm (aL us 0) (aS us 2) < 0 then [] else (hsS (aL us 0) (aL us 1) (Bm (aL us 0) (aS us 2))).2)
def He:List U->Int:=fun us=>(if Bm (aL us 0) (aS us 2) < 0 then 5 else 0)
def Ot:List U->Prop:=fun us=>BW (aL us 0)=0/\Bc (aL us 1)=0/\((aL us 1)).length<=40
def HF:Bf:={ sh:=[.one (.list [.str,k64,k64]),.one (.list [k64,k64,k64,.bool,.str,.str,.bool,k64,k64]),.one (.str)],blks:=[],outs:=[(.s "HistV.0",D1 Hl),(.s "HistV.1",CW He)],c:= .tup [.ro 3 [k64],(Cy 4)],m':=[],pre:=[(.s "HistV.p0",Ot)] }
abbrev GW (T:Tab)(a:Int)(b:List (List U)):Prop:=0<=a/\a<=((L T 0)).length/\b=Db (MG ((L T 0))) a.toNat []
abbrev Hr (T:Tab)(a:Int)(b:List (List U)):Prop:=0<=a/\a<=((L T 20)).length/\b=Db (C9 ((L T 12)) ((L T 20))) a.toNat []
abbrev Ja (T:Tab)(a:Int)(b:List (List U))(c:List (List U)):Prop:=0<=a/\a<=((L T 24)).length/\b=(upK (hsP (L T 12) (S T 2) (I T 50)) (L T 24) a.toNat ((L T 0),(L T 54))).1/\c=(upK (hsP (L T 12) (S T 2) (I T 50)) (L T 24) a.toNat ((L T 0),(L T 54))).2
def gV:List En:=[⟨3,.outI "checkPk.0" Ig,[.e 0]⟩,
 ⟨4,.outI "checkLk.0" PS,[.e 1]⟩,
 ⟨5,.id .l,[.c (.list [])]⟩,
 ⟨6,.id .i,[.c (.int 0)]⟩,
 ABZ 7 5 0,
 ABL 8 7,
 ⟨9,.id .l,[.c (.list [])]⟩,
 ABL 10 0]
def GS:List En:=gV
def fp:List En:=[ABH 13 11 10,
 ABI 14 13,
 ABX 15 0 11,
 ABJ 16 0 11,
 ABK 17 0 11,
 ⟨18,.mset 1 [.s,.i],[.e 12,.e 15,.e 11]⟩,
 ⟨19,.w2 .i64 .add,[.e 11,.c (.int 1)]⟩]
def Eb:List En:=fp
def YT:List ObE:=[⟨some 13,.fits 1,[.e 12,.c (.list [[]])]⟩,⟨some 13,.inl,[.e 11,.e 0]⟩]
def OI:Bs:=mkD 11 2 Eb 13 [.e 19,.e 18] YT [0,10]
def Rw:List Rf:=[.e 0,.e 10,.c (.int 0),.e 9]
def fb:List En:=[⟨20,.outL "books.0" OG,[.e 1]⟩,
 ABL 21 20,
 ⟨22,.id .l,[.c (.list [])]⟩]
def JI:List En:=fb
def fu:List En:=[ABH 25 23 21,
 ABE 26 14 25,
 ABF 27 14 25,
 ABM 28 20 23,
 ABJ 29 20 23,
 ABK 30 20 23,
 ABQ 31 20 23,
 ABN 32 20 23,
 ABO 33 20 23,
 ABP 34 20 23,
 ABR 35 20 23,
 ABS 36 20 23,
 ⟨37,.mget .i 1 0 [.s],[.e 12,.c (.int 0),.e 32]⟩,
 ⟨38,.mhas 1 [.s],[.e 12,.e 32]⟩,
 ⟨39,.mget .i 1 0 [.s],[.e 12,.c (.int 0),.e 33]⟩,
 ⟨40,.mhas 1 [.s],[.e 12,.e 33]⟩]
def fl:List En:=[ABE 41 26 38,
 ABE 42 38 40,
 ABE 43 26 42,
 ⟨44,.row 1 9 [.i,.i,.i,.b,.s,.s,.b,.i,.i],[.e 28,.e 29,.e 30,.e 31,.e 32,.e 33,.e 34,.e 35,.e 36]⟩,
 ABZ 45 24 44,
 ABF 46 26 42,
 ABV 47 42 45 24,
 ABV 48 42 45 24,
 ⟨49,.w2 .i64 .add,[.e 23,.c (.int 1)]⟩]
def FW:List En:=fu++(fl)
def YN:List ObE:=[⟨some 43,.fits 88,[.e 24,.e 44]⟩,⟨some 26,.inl,[.e 23,.e 20]⟩]
def OL:Bs:=mkD 23 2 FW 26 [.e 49,.e 48] YN [12,20,14,21]
def SP:List Rf:=[.e 12,.e 20,.e 14,.e 21,.c (.int 0),.e 22]
def fw:List En:=[⟨50,.mget .i 1 0 [.s],[.e 12,.c (.int 0),.e 2]⟩,
 ⟨51,.mhas 1 [.s],[.e 12,.e 2]⟩,
 ABI 52 51,
 ABJ 53 7 50,
 ⟨54,.row 1 1 [.i],[.e 53]⟩,
 ABL 55 24]
def Oj:List En:=fw
def gG:List En:=[ABH 59 56 55,
 ABE 60 51 59,
 ABF 61 51 59,
 ABM 62 24 56,
 ABJ 63 24 56,
 ABK 64 24 56,
 ABQ 65 24 56,
 ABN 66 24 56,
 ABO 67 24 56,
 ABP 68 24 56,
 ABR 69 24 56,
 ABS 70 24 56,
 ⟨71,.mget .i 1 0 [.s],[.e 12,.c (.int 0),.e 66]⟩,
 ⟨72,.mget .i 1 0 [.s],[.e 12,.c (.int 0),.e 67]⟩,
 ⟨73,.outL "countR.0" KQ,[.e 57,.e 8,.e 71,.e 72,.e 68]⟩,
 ⟨74,.eqs [.s],[.e 66,.e 2]⟩]
def fh:List En:=[ABF 75 60 74,
 ⟨76,.eqs [.s],[.e 67,.e 2]⟩,
 ABG 77 74 76,
 ABE 78 60 77,
 ABJ 79 73 50,
 ⟨80,.row 1 1 [.i],[.e 79]⟩,
 ABZ 81 58 80,
 ABF 82 60 77,
 ABV 83 77 81 58,
 ABV 84 77 81 58,
 ⟨85,.w2 .i64 .add,[.e 56,.c (.int 1)]⟩]
def Hh:List En:=gG++(fh)
def YY:List ObE:=[⟨some 78,.fits 8,[.e 58,.e 80]⟩,⟨some 78,.inr,[.e 50,.e 8]⟩,⟨some 60,.pre "countR.p0" H9,[.e 57,.e 8,.e 71,.e 72,.e 68]⟩,⟨some 60,.pre "countR.p1" IN,[.e 57,.e 8,.e 71,.e 72,.e 68]⟩,⟨some 60,.inr,[.e 72,.e 8]⟩,⟨some 60,.inr,[.e 71,.e 8]⟩,⟨some 60,.inl,[.e 56,.e 24]⟩]
def OJ:Bs:=mkD 56 3 Hh 60 [.e 85,.e 73,.e 83] YY [50,2,8,12,24,51,55]
def SI:List Rf:=[.e 50,.e 2,.e 8,.e 12,.e 24,.e 51,.e 55,.c (.int 0),.e 7,.e 54]
def gE:List En:=[ABV 86 52 7 57,
 ⟨87,.ite .l,[.e 52,.c (.list []),.e 58]⟩,
 ⟨88,.ite .i,[.e 52,.c (.int 5),.c (.int 0)]⟩,
 ABG 89 52 51]
def Yl:List En:=gE
def wI:List ObE:=[⟨some 51,.owes OJ,[.e 50,.e 2,.e 8,.e 12,.e 24,.e 51,.e 55,.c (.int 0),.e 7,.e 54]⟩,
 ⟨some 51,.inr,[.e 50,.e 8]⟩,
 ⟨some 14,.owes OL,[.e 12,.e 20,.e 14,.e 21,.c (.int 0),.e 22]⟩,
 ⟨some 14,.pre "books.p0" Lu,[.e 1]⟩,
 ⟨none,.owes OI,[.e 0,.e 10,.c (.int 0),.e 9]⟩,
 ⟨none,.fits 32,[.e 5,.e 0]⟩,
 ⟨none,.pre "checkLk.p0" LO,[.e 1]⟩,
 ⟨none,.pre "checkPk.p0" G4,[.e 0]⟩]
def gf:List Rf:=[.e 87,.e 88]
end
end Go.Eng
end
