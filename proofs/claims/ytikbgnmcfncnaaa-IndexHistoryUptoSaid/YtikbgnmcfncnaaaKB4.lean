/-
  A part of the proof: the evaluator of code and its soundness.
-/
import Derived.Test.YtikbgnmcfncnaaaKB3
import Derived.Test.YtikbgnmcfncnaaaE4
import Derived.Test.YtikbgnmcfncnaaaE5
import Derived.Test.YtikbgnmcfncnaaaKB0
import Derived.Test.YtikbgnmcfncnaaaKB2
import Derived.WalkKit
import Derived.Lib.Strings
import Derived.Lib.Walk
import Derived.Lib.Bytealg
set_option linter.unusedVariables false
set_option linter.unusedSimpArgs false
noncomputable section
namespace Go.Eng
section
open Go Go.Eng Go.Proofs
set_option maxHeartbeats 4000000
set_option maxRecDepth 100000
theorem oq:E0.sees YX (E0.runC Try.prog Gy [(41,Ea),(47,Hd),(65,FQ),(58,Gb)] NZ 3000 20 24)=some ((E1++((B5 LA [.i,.l] Ox)++(De++(HC++((B5 LR [.i,.l] O0)++(EP++(LD++((B5 LH [.i,.l] PJ)++(Fq++(fX)))))))))).map En.be,nB.map ObE.be,[]):=by kernel_rfl
abbrev gg(T:Tab):Prop:=(L T 0).length<=140737488355328
abbrev gB(T:Tab):Prop:=(L T 1).length<=140737488355328
abbrev gC(T:Tab):Prop:=BW (L T 0)=0/\Bc (L T 1)=0/\((L T 1)).length<=40
variable{T:Tab}
theorem bC (k:gg T)(j:∀u∈(L T 0),Bb BT KP u)(l:gB T)(i:gC T)(a:BV T E1):
  ((I T 9)=((L T 0)).length)/\((L T 8)=[])/\(((L T 0)).length<=24):=by
 have b:=a;clear a;have h:(I T 9)=((L T 0)).length:=by
  obtain⟨-,-,-,-,-,-,-,d,-⟩:=b;simp only[BS,zR,zL] at d;exact d
 have g:(L T 8)=[]:=by
  obtain⟨-,-,-,-,-,-,c,-⟩:=b;simp only[BS,zR,zL,zS] at c;exact c
 have e:((L T 0)).length<=24:=by
  exact (Nm i.1).2.2
 exact⟨h,g,e⟩
abbrev gF(T:Tab):Prop:=(I T 9)=((L T 0)).length
theorem gD (Q:gC T)(N:gF T)(w:(L T 8)=[])(M:((L T 0)).length<=24)(l:Ba T (Bh (CA 0 E0.ks) E1))(i:Bi T (De.map En.be))(j:Bi T ((B5 LA [.i,.l] Ox).map En.be)):
  (LA).owes (Ox.map (Rf.eval T))/\Ba T (hds 10 [.i,.l])/\(E3 T (I T 10) (L T 11))/\¬B T 12=true:=by
 refine CK (nh:=10) (k:=2) (pcn:=12) (aF:=19) (b:=De) (K:=Tv) (nxt:=[.e 18,.e 17]) (H:=[.c (.int 0),.e 8]) (fv:=[0,9]) (A:=[.i,.l]) (by kernel_rfl) rfl rfl rfl rfl l (by kernel_rfl) (by kernel_rfl) i (B6 j) (fun s=>E3 T (aI s 0) (aL s 1)) (fun s=>(((L T 0)).length - (aI s 0)).toNat) ?_ ?_
 .show E3 T (0:Int) (L T 8);clear l i j;exact⟨by omega,by omega,by rw[show (0:Int).toNat=0 from rfl];exact w⟩
 .intro J o g h;replace h:E3 T (I J 10) (L J 11):=h;clear l i j;replace g:BV J De:=g;have d:=g;clear g;have u:=fvL (o 0 (by decide));have r:=fvI (o 9 (by decide));clear o
  suffices x:(B J 12=true->(((L J 11)).length+(([[]]:List (List U))).length)*1<=140737488355328)/\(B J 12=true->0<=I J 10/\I J 10 < ((L J 0)).length)/\(B J 12=true->(E3 T (I J 18) (L J 17)))/\(B J 12=true->(((L T 0)).length - (I J 18)).toNat < (((L T 0)).length - (I J 10)).toNat) from
   let⟨C,aB,z,y⟩:=x;⟨⟨C,aB,trivial⟩,fun c=>⟨z c,y c⟩⟩
  refine⟨?_,?_,?_,?_⟩
  .obtain⟨a,-⟩:=d;simp only[BS,zR] at a;obtain⟨D,E,t⟩:=h;intro c;rw[r] at a;have v:=a.1 c;have O:=iE (P:=L T 0) (I J 10).toNat;grind
  .obtain⟨a,-⟩:=d;simp only[BS,zR] at a;grind
  .obtain⟨a,-,p,-,-,q,e,-⟩:=d;simp only[BS,zR,w2P,zL,zS,uR,zW,BZ,zC] at a p q e;obtain⟨D,E,t⟩:=h;intro c;rw[r] at a;have v:=a.1 c;have F:=o2' e (by omega);refine⟨by omega,by omega,?_⟩;rw[F,show ((I J 10)+1).toNat=(I J 10).toNat+1 by omega,q,p,t,u];show _=MG _ _ _;unfold MG;grind
  .obtain⟨a,-,-,-,-,-,e,-⟩:=d;simp only[BS,zR,w2P] at a e;grind
theorem aF (K:gg T)(J:∀u∈(L T 0),Bb BT KP u)(M:gB T)(t:gC T)(H:gF T)(F:(L T 8)=[])(w:((L T 0)).length<=24)(r:E3 T (I T 10) (L T 11))(s:¬B T 12=true)(c:BV T E1)(e:BV T De)(d:BV T HC):
  ((I T 20)=((L T 19)).length)/\((L T 21)=[])/\((L T 19)=CH ((L T 1)))/\(((L T 19)).length<=40)/\((L T 11)=CE ((L T 0)))/\((B T 13)=true)/\((L T 6)=L T 0):=by
 have p:=c;clear c;have g:=e;clear e;have b:=d;clear d;have C:(I T 20)=((L T 19)).length:=by
  obtain⟨-,j,-⟩:=b;simp only[BS,zR,zL] at j;exact j
 have D:(L T 21)=[]:=by
  obtain⟨-,-,k,-⟩:=b;simp only[BS,zR,zL,zS] at k;exact k
 have A:(L T 19)=CH ((L T 1)):=by
  obtain⟨a,-⟩:=b;replace a:L T 19=(CH (L T 1)):=a;exact a
 have x:((L T 19)).length<=40:=by
  obtain⟨a,-⟩:=b;replace a:L T 19=(CH (L T 1)):=a;rw[a];exact AV Jg t.2.2
 have y:(L T 11)=CE ((L T 0)):=by
  obtain⟨i,-⟩:=g;simp only[BS,zR] at i;obtain⟨O,P,v⟩:=r;have N:¬I T 10 < I T 9:=fun h=>s (i.2 h);rw[v,show (I T 10).toNat=((L T 0)).length by omega];rfl
 have z:(B T 13)=true:=by
  obtain⟨-,q,-⟩:=g;simp only[BS,BZ,zR] at q;grind
 have E:(L T 6)=L T 0:=by
  obtain⟨-,-,l,-,o,-⟩:=p;simp only[BS,BZ,zR,zL,zS] at l o;rw[o,l];rfl
 grind
abbrev gH(T:Tab):Prop:=(I T 20)=((L T 19)).length
theorem gU (a4:gH T)(ag:(L T 21)=[])(a3:((L T 19)).length<=40)(N:Ba T (Bh (Bh (hds 10 [.i,.l]++(Bh (CA 0 E0.ks) E1)) De) HC))(E:Bi T (EP.map En.be))(F:Bi T ((B5 LR [.i,.l] O0).map En.be)):
  (LR).owes (O0.map (Rf.eval T))/\Ba T (hds 22 [.i,.l])/\(Fm T (I T 22) (L T 23))/\¬B T 25=true:=by
 refine CK (nh:=22) (k:=2) (pcn:=25) (aF:=49) (b:=EP) (K:=Ta) (nxt:=[.e 48,.e 47]) (H:=[.c (.int 0),.e 21]) (fv:=[11,19,13,20]) (A:=[.i,.l]) (by kernel_rfl) rfl rfl rfl rfl N (by kernel_rfl) (by kernel_rfl) E (B6 F) (fun s=>Fm T (aI s 0) (aL s 1)) (fun s=>(((L T 19)).length - (aI s 0)).toNat) ?_ ?_
 .show Fm T (0:Int) (L T 21);clear N E F;exact⟨by omega,by omega,by rw[show (0:Int).toNat=0 from rfl];exact ag⟩
 .intro J g d r;replace r:Fm T (I J 22) (L J 23):=r;clear N E F;replace d:BV J EP:=d;obtain⟨h,d⟩:=d.cut;have t:=d;clear d;have ab:=fvL (g 11 (by decide));have ad:=fvL (g 19 (by decide));have a2:=fvB (g 13 (by decide));have W:=fvI (g 20 (by decide));clear g
  suffices hz:(B J 42=true->(((L J 23)).length+((L J 43)).length)*88<=140737488355328)/\(B J 25=true->0<=I J 22/\I J 22 < ((L J 19)).length)/\(B J 25=true->(Fm T (I J 48) (L J 47)))/\(B J 25=true->(((L T 19)).length - (I J 48)).toNat < (((L T 19)).length - (I J 22)).toNat) from
   let⟨r0,aB,nx,mz⟩:=hz;⟨⟨r0,aB,trivial⟩,fun e=>⟨nx e,mz e⟩⟩
  refine⟨?_,?_,?_,?_⟩
  .obtain⟨a,c,-⟩:=h;obtain⟨-,-,P,p,-⟩:=t;simp only[BS,BZ,zR,zL,zS,uR,Cp,zW] at a c P p;obtain⟨v1,v2,Z⟩:=r;intro e;have D:=a.1 (c.1 (P.1 e).1).2;rw[W] at D;have hl:=On (M:=L T 11) (B:=L T 19) (I J 22).toNat;grind
  .obtain⟨a,c,-⟩:=h;simp only[BS,BZ,zR] at a c;grind
  .obtain⟨a,c,-,u,v,w,x,i,j,y,z,C,-,l,-,o,-⟩:=h;obtain⟨-,O,-,p,Q,-,-,V,q,-⟩:=t;simp only[BS,BZ,zR,w2P,zL,zS,uR,Cp,zW,zC] at a c u v w x i j y z C l o O p Q V q;obtain⟨v1,v2,Z⟩:=r;intro e;have D:=a.1 (c.1 e).2;rw[W] at D;have a1:=o2' q (by omega);refine⟨by omega,by omega,?_⟩;rw[a1,show ((I J 22)+1).toNat=(I J 22).toNat+1 by omega];refine Eq.trans ?_ (BI (C9 ((L T 11)) ((L T 19)) (I J 22).toNat) Z);unfold C9 MK;rw[ad] at u v w x i j y z C;rw[ab] at l o;rw[i] at l;rw[j] at o;by_cases Y:(B J 41)=true
   .have X:=O.1 Y;rw[V,BH Y,BH ⟨l.1 X.1,o.1 X.2⟩,Q,p,u,v,w,x,i,j,y,z,C];rfl
   .grind
  .obtain⟨a,c,-⟩:=h;obtain⟨-,-,-,-,-,-,-,-,q,-⟩:=t;simp only[BS,BZ,zR,w2P] at a c q;grind
theorem bE (a3:gg T)(a1:∀u∈(L T 0),Bb BT KP u)(a4:gB T)(Q:gC T)(h9:gF T)(h8:(L T 8)=[])(X:((L T 0)).length<=24)(a5:E3 T (I T 10) (L T 11))(H:¬B T 12=true)(ag:gH T)(al:(L T 21)=[])(ad:(L T 19)=CH ((L T 1)))(Y:((L T 19)).length<=40)(Z:(L T 11)=CE ((L T 0)))(ab:(B T 13)=true)(h6:(L T 6)=L T 0)(F:Fm T (I T 22) (L T 23))(J:¬B T 25=true)(c:BV T E1)(g:BV T De)(d:BV T HC)(a:BV T EP)(e:BV T LD):
  ((L T 11)=CE (L T 0)/\L T 6=L T 0/\I T 7=((L T 0)).length/\I T 49=((L T 23)).length)/\((L T 23)=Fg (CE (L T 0)) (CH (L T 1)))/\(DD (L T 0)/\OkR (L T 0)/\((L T 0)).length<=24/\((L T 23)).length<=40/\∀u∈(L T 23),MX (L T 0) u):=by
 have r:=c;clear c;have i:=g;clear g;have s:=d;clear d;obtain⟨t,a⟩:=a.cut;have W:=a;clear a;have v:=e;clear e;have p:(L T 11)=CE (L T 0)/\L T 6=L T 0/\I T 7=((L T 0)).length/\I T 49=((L T 23)).length:=by
  obtain⟨-,-,x,-,z,A,-,C,-⟩:=r;obtain⟨w,-⟩:=i;obtain⟨y,-⟩:=v;simp only[BS,BZ,zR,zL,zS] at x z A C w y;grind
 have q:(L T 23)=Fg (CE (L T 0)) (CH (L T 1)):=by
  obtain⟨-,j,-⟩:=i;obtain⟨b,k,-⟩:=s;obtain⟨l,o,-⟩:=t;replace b:L T 19=(CH (L T 1)):=b;simp only[BS,BZ,zR,zL] at j k l o;obtain⟨v1,v2,V⟩:=F;have D:=j.2 (by simpa using H);have a6:¬I T 22 < I T 20:=fun h=>J (o.2 ⟨D,l.2 h⟩);have an:=k;rw[V,show (I T 22).toNat=((L T 19)).length by omega,p.1,b];rfl
 have E:DD (L T 0)/\OkR (L T 0)/\((L T 0)).length<=24/\((L T 23)).length<=40/\∀u∈(L T 23),MX (L T 0) u:=by
  obtain⟨O,P,p3⟩:=Q;obtain⟨K,o2,N⟩:=Nm O;have hl:=On (M:=CE (L T 0)) (B:=CH (L T 1)) (CH (L T 1)).length;have hb:=Jg (L:=L T 1);rw[q];exact⟨o2,K,N,by unfold Fg;omega,Mo o2 (UN P) _ (AE _)⟩
 exact⟨p,q,E⟩
abbrev gK(T:Tab):Prop:=(L T 11)=CE (L T 0)/\L T 6=L T 0/\I T 7=((L T 0)).length/\I T 49=((L T 23)).length
abbrev gM(T:Tab):Prop:=DD (L T 0)/\OkR (L T 0)/\((L T 0)).length<=24/\((L T 23)).length<=40/\∀u∈(L T 23),MX (L T 0) u
theorem fg (C:gK T)(N:gM T)(hS:Ba T (Bh (Bh (hds 22 [.i,.l]++(Bh (Bh (hds 10 [.i,.l]++(Bh (CA 0 E0.ks) E1)) De) HC)) EP) LD))(hB:Bi T (Fq.map En.be))(hH:Bi T ((B5 LH [.i,.l] PJ).map En.be)):
  (LH).owes (PJ.map (Rf.eval T))/\Ba T (hds 50 [.i,.l])/\(HE T (I T 50) (L T 51))/\¬B T 52=true:=by
 refine CK (nh:=50) (k:=2) (pcn:=52) (aF:=67) (b:=Fq) (K:=T9) (nxt:=[.e 66,.e 65]) (H:=[.c (.int 0),.e 6]) (fv:=[7,11,23,49]) (A:=[.i,.l]) (by kernel_rfl) rfl rfl rfl rfl hS (by kernel_rfl) (by kernel_rfl) hB (B6 hH) (fun s=>HE T (aI s 0) (aL s 1)) (fun s=>(((L T 23)).length - (aI s 0)).toNat) ?_ ?_
 .show HE T (0:Int) (L T 6);clear hS hB hH;exact⟨Aw _,by omega,C.2.1⟩
 .intro J O Z z;replace z:HE T (I J 50) (L J 51):=z;clear hS hB hH;replace Z:BV J Fq:=Z;have y:=Z;clear Z;have a9:=fvI (O 7 (by decide));have E:=fvL (O 11 (by decide));have F:=fvL (O 23 (by decide));have M:=fvI (O 49 (by decide));clear O
  suffices hz:(B J 52=true->((L J 51)).length=I J 7/\I J 63 < I J 7/\I J 64 < I J 7/\¬I J 63=I J 64/\ -10000<=BU (L J 51) (I J 63).toNat 1/\BU (L J 51) (I J 63).toNat 1<=10000/\ -12<=BU (L J 51) (I J 63).toNat 2/\BU (L J 51) (I J 63).toNat 2<=48)/\(B J 52=true-> -10000<=BU (L J 51) (I J 64).toNat 1/\BU (L J 51) (I J 64).toNat 1<=10000/\ -12<=BU (L J 51) (I J 64).toNat 2/\BU (L J 51) (I J 64).toNat 2<=48)/\(B J 52=true->0<=I J 64/\I J 64 < I J 7)/\(B J 52=true->0<=I J 63/\I J 63 < I J 7)/\(B J 52=true->0<=I J 50/\I J 50 < ((L J 23)).length)/\(B J 52=true->(HE T (I J 66) (L J 65)))/\(B J 52=true->(((L T 23)).length - (I J 66)).toNat < (((L T 23)).length - (I J 50)).toNat) from
   let⟨r0,aB,aJ,r3,r4,r,mz⟩:=hz;⟨⟨r0,aB,aJ,r3,r4,trivial⟩,fun q=>⟨r q,mz q⟩⟩
  refine⟨?_,?_,?_,?_,?_,?_,?_⟩
  .obtain⟨i,-,-,-,-,-,e,g,h,-,-,c,d,-⟩:=y;simp only[BS,zR,zL,uR,zW,BZ,zC,zS] at i e g h c d;obtain⟨v1,v2,u⟩:=z;obtain⟨au,V,m3,m4⟩:=C;obtain⟨o,aw,X,Y,v⟩:=N;have p:(L J 51)=upK (ctU (L T 11)) (L T 23) (I J 50).toNat (L T 0):=u;have x:nmL ((L J 51))=nmL ((L T 0)):=by rw[p];exact IF _
   have q3:((L J 51)).length=((L T 0)).length:=DG x;have D:OkR ((L J 51)):=by rw[p];exact GK aw _
   intro q;have w:=(i.1 (q));rw[M] at w;rw[F] at e g h;rw[E,au] at c d;have a:=v (((L T 23)).getD (I J 50).toNat []) (by rw[Dd (by omega)];exact yM _);have j:(S J 58)=uS (((L T 23)).getD (I J 50).toNat []) 4:=e;have l:(S J 59)=uS (((L T 23)).getD (I J 50).toNat []) 5:=g;have P:(I J 63)=Bv (L T 0) (S J 58):=Eq.trans c (CO o (by rw[j];exact a.1));have Q:(I J 64)=Bv (L T 0) (S J 59):=Eq.trans d (CO o (by rw[l];exact a.2.1));have t:=a.1;have r:=a.2.1;rw[<-j] at t;rw[<-l] at r;have ne:¬Bv (L T 0) (S J 58)=Bv (L T 0) (S J 59):=FD t r (by rw[j,l];exact a.2.2);have:=D (I J 63).toNat (by omega);omega
  .obtain⟨i,-,-,-,-,-,e,g,h,-,-,c,d,-⟩:=y;simp only[BS,zR,zL,uR,zW,BZ,zC,zS] at i e g h c d;obtain⟨v1,v2,u⟩:=z;obtain⟨au,V,m3,m4⟩:=C;obtain⟨o,aw,X,Y,v⟩:=N;have p:(L J 51)=upK (ctU (L T 11)) (L T 23) (I J 50).toNat (L T 0):=u;have x:nmL ((L J 51))=nmL ((L T 0)):=by rw[p];exact IF _
   have q3:((L J 51)).length=((L T 0)).length:=DG x;have D:OkR ((L J 51)):=by rw[p];exact GK aw _
   intro q;have w:=(i.1 (q));rw[M] at w;rw[F] at e g h;rw[E,au] at c d;have a:=v (((L T 23)).getD (I J 50).toNat []) (by rw[Dd (by omega)];exact yM _);have j:(S J 58)=uS (((L T 23)).getD (I J 50).toNat []) 4:=e;have l:(S J 59)=uS (((L T 23)).getD (I J 50).toNat []) 5:=g;have P:(I J 63)=Bv (L T 0) (S J 58):=Eq.trans c (CO o (by rw[j];exact a.1));have Q:(I J 64)=Bv (L T 0) (S J 59):=Eq.trans d (CO o (by rw[l];exact a.2.1));have t:=a.1;have r:=a.2.1;rw[<-j] at t;rw[<-l] at r;have ne:¬Bv (L T 0) (S J 58)=Bv (L T 0) (S J 59):=FD t r (by rw[j,l];exact a.2.2);have:=D (I J 64).toNat (by omega);exact this
  .obtain⟨i,-,-,-,-,-,e,g,h,-,-,c,d,-⟩:=y;simp only[BS,zR,zL,uR,zW,BZ,zC,zS] at i e g h c d;obtain⟨v1,v2,u⟩:=z;obtain⟨au,V,m3,m4⟩:=C;obtain⟨o,aw,X,Y,v⟩:=N;have p:(L J 51)=upK (ctU (L T 11)) (L T 23) (I J 50).toNat (L T 0):=u;have x:nmL ((L J 51))=nmL ((L T 0)):=by rw[p];exact IF _
   have q3:((L J 51)).length=((L T 0)).length:=DG x;have D:OkR ((L J 51)):=by rw[p];exact GK aw _
   intro q;have w:=(i.1 (q));rw[M] at w;rw[F] at e g h;rw[E,au] at c d;have a:=v (((L T 23)).getD (I J 50).toNat []) (by rw[Dd (by omega)];exact yM _);have j:(S J 58)=uS (((L T 23)).getD (I J 50).toNat []) 4:=e;have l:(S J 59)=uS (((L T 23)).getD (I J 50).toNat []) 5:=g;have P:(I J 63)=Bv (L T 0) (S J 58):=Eq.trans c (CO o (by rw[j];exact a.1));have Q:(I J 64)=Bv (L T 0) (S J 59):=Eq.trans d (CO o (by rw[l];exact a.2.1));have t:=a.1;have r:=a.2.1;grind
  .obtain⟨i,-,-,-,-,-,e,g,h,-,-,c,d,-⟩:=y;simp only[BS,zR,zL,uR,zW,BZ,zC,zS] at i e g h c d;obtain⟨v1,v2,u⟩:=z;obtain⟨au,V,m3,m4⟩:=C;obtain⟨o,aw,X,Y,v⟩:=N;have p:(L J 51)=upK (ctU (L T 11)) (L T 23) (I J 50).toNat (L T 0):=u;have x:nmL ((L J 51))=nmL ((L T 0)):=by rw[p];exact IF _
   have q3:((L J 51)).length=((L T 0)).length:=DG x;have D:OkR ((L J 51)):=by rw[p];exact GK aw _
   intro q;have w:=(i.1 (q));rw[M] at w;rw[F] at e g h;rw[E,au] at c d;have a:=v (((L T 23)).getD (I J 50).toNat []) (by rw[Dd (by omega)];exact yM _);have j:(S J 58)=uS (((L T 23)).getD (I J 50).toNat []) 4:=e;have l:(S J 59)=uS (((L T 23)).getD (I J 50).toNat []) 5:=g;have P:(I J 63)=Bv (L T 0) (S J 58):=Eq.trans c (CO o (by rw[j];exact a.1));have Q:(I J 64)=Bv (L T 0) (S J 59):=Eq.trans d (CO o (by rw[l];exact a.2.1));have t:=a.1;grind
  .obtain⟨i,-,-,-,-,-,e,g,h,-,-,c,d,-⟩:=y;simp only[BS,zR,zL,uR,zW,BZ,zC,zS] at i e g h c d;grind
  .obtain⟨i,-,-,-,-,-,e,g,h,-,-,c,d,ao,W,-⟩:=y;replace ao:L J 65=(FI (L J 51) (I J 63).toNat (I J 64).toNat (B J 60)):=ao;simp only[BS,zR,w2P,zL,uR,zW,BZ,zC,zS] at i e g h c d W;obtain⟨v1,v2,u⟩:=z;obtain⟨au,V,m3,m4⟩:=C;obtain⟨o,aw,X,Y,v⟩:=N;have p:(L J 51)=upK (ctU (L T 11)) (L T 23) (I J 50).toNat (L T 0):=u;have x:nmL ((L J 51))=nmL ((L T 0)):=by rw[p];exact IF _
   have q3:((L J 51)).length=((L T 0)).length:=DG x;have D:OkR ((L J 51)):=by rw[p];exact GK aw _
   intro q;have w:=(i.1 (q));rw[M] at w;rw[F] at e g h;rw[E,au] at c d;have a:=v (((L T 23)).getD (I J 50).toNat []) (by rw[Dd (by omega)];exact yM _);have j:(S J 58)=uS (((L T 23)).getD (I J 50).toNat []) 4:=e;have l:(S J 59)=uS (((L T 23)).getD (I J 50).toNat []) 5:=g;have P:(I J 63)=Bv (L T 0) (S J 58):=Eq.trans c (CO o (by rw[j];exact a.1));have Q:(I J 64)=Bv (L T 0) (S J 59):=Eq.trans d (CO o (by rw[l];exact a.2.1));have t:=a.1;have r:=a.2.1;rw[<-j] at t;rw[<-l] at r;have ne:¬Bv (L T 0) (S J 58)=Bv (L T 0) (S J 59):=FD t r (by rw[j,l];exact a.2.2);have xn:=o2' W (by omega);refine⟨by omega,by omega,?_⟩;rw[xn,show ((I J 50)+1).toNat=(I J 50).toNat+1 by omega];show _=ctU ((L T 11)) (upK (ctU (L T 11)) (L T 23) (I J 50).toNat (L T 0)) (((L T 23)).getD (I J 50).toNat []);rw[<-u,ao,c,d,j,l,h,au];rfl
  .obtain⟨i,-,-,-,-,-,e,g,h,-,-,c,d,-,W,-⟩:=y;simp only[BS,zR,w2P,zL,uR,zW,BZ,zC,zS] at i e g h c d W;grind
theorem pK (Z:gg T)(Y:∀u∈(L T 0),Bb BT KP u)(ab:gB T)(b:gC T)(X:gF T)(W:(L T 8)=[])(D:((L T 0)).length<=24)(ad:E3 T (I T 10) (L T 11))(ax:¬B T 12=true)(O:gH T)(P:(L T 21)=[])(N:(L T 19)=CH ((L T 1)))(E:((L T 19)).length<=40)(K:(L T 11)=CE ((L T 0)))(M:(B T 13)=true)(Q:(L T 6)=L T 0)(ag:Fm T (I T 22) (L T 23))(a0:¬B T 25=true)(r:gK T)(s:(L T 23)=Fg (CE (L T 0)) (CH (L T 1)))(q:gM T)(t:HE T (I T 50) (L T 51))(v:¬B T 52=true)(c:BV T E1)(g:BV T De)(d:BV T HC)(a:BV T EP)(e:BV T LD)(i:BV T Fq):
  ((L T 51)=(FP (L T 0) (L T 1)))/\
  (0=((0:Int)))/\
  (B T 13=true->((L T 1)).length<=40)/\
  ((((L T 4)).length+((L T 0)).length)*32<=140737488355328)/\
  (Bc (L T 1)=0)/\
  (BW (L T 0)=0):=by
 have k:=c;clear c;have x:=g;clear g;have y:=d;clear d;obtain⟨z,a⟩:=a.cut;have A:=a;clear a;have C:=e;clear e;have l:=i;clear i;refine⟨?_,?_,?_,?_,?_,?_⟩
 .obtain⟨j,-⟩:=l;simp only[BS,zR] at j;obtain⟨v1,v2,w⟩:=t;obtain⟨au,V,m3,m4⟩:=r;obtain⟨p,aw,F,H,J⟩:=q;have ao:¬I T 50 < I T 49:=fun h=>v (j.2 h);rw[w,show (I T 50).toNat=((L T 23)).length by omega,au,s];exact gS p
 .rfl
 .intro h;exact b.2.2
 .obtain⟨-,-,o,-⟩:=k;simp only[BS,zR,zL,zS] at o;grind
 .exact b.2.1
 .exact b.1
theorem kW:Bl Try.prog 24 E0:=by
 refine GX FU (l:=[(41,Ea),(47,Hd),(65,FQ),(58,Gb)]) CP (by simp only[AW];exact⟨Jk,RF,U8,Yq,fun _ h=>absurd h (by simp)⟩) oq (by kernel_rfl) fun T us Y X F k an a=>?_;change us.length=2 at F;obtain⟨⟨o,a1⟩,⟨p,bi⟩,-⟩:=an;replace o:(L T 0).length<=140737488355328:=o;have x:∀u∈(L T 0),Bb BT KP u:=fun u hu=>by
  obtain⟨i,ab⟩:=Ac.1 hu;exact a1 i u ab
 replace p:(L T 1).length<=140737488355328:=p;have ax:=inL (j:=0) X F (by decide);have a0:=inL (j:=1) X F (by decide);have r:BW (L T 0)=0/\Bc (L T 1)=0/\((L T 1)).length<=40:=by
  have h:=Y (.s "SettleV.p0",LS) (by simp[E0]);change LS us at h;unfold LS at h;grind
 clear Y;rw[AL,AL,AL,AL,AL,AL,AL,AL,AL] at a;obtain⟨d,a⟩:=cutB a;obtain⟨e,a⟩:=cutB a;obtain⟨b,a⟩:=cutB a;obtain⟨s,c⟩:=Be k (by kernel_rfl) d;obtain⟨w,v,t⟩:=bC o x p r s;obtain⟨a5,g,H,J⟩:=gD r w v t c b e;have q:=(Be (g.append c) (l:=De) (by kernel_rfl) b);obtain⟨z,k⟩:=q;clear d b e c g;obtain⟨d,a⟩:=cutB a;obtain⟨e,a⟩:=cutB a;obtain⟨b,a⟩:=cutB a;obtain⟨y,c⟩:=Be k (by kernel_rfl) d;obtain⟨D,E,P,C,N,O,Q⟩:=aF o x p r w v t H J s z y;obtain⟨a6,g,Z,ad⟩:=gU D E C c b e;have q:=(Be (g.append c) (l:=EP) (by kernel_rfl) b);obtain⟨M,k⟩:=q;clear d b e c g;obtain⟨d,a⟩:=cutB a;obtain⟨e,a⟩:=cutB a;obtain⟨b,a⟩:=cutB a;obtain⟨K,c⟩:=Be k (by kernel_rfl) d;obtain⟨W,hX,V⟩:=bE o x p r w v t H J D E P C N O Q Z ad s z y M K;obtain⟨a7,g,a3,a4⟩:=fg W V c b e;have q:=(Be (g.append c) (l:=Fq) (by kernel_rfl) b);obtain⟨B2,k⟩:=q;clear d b e c g;obtain⟨A3,hO⟩:=B8 (A:=[.l,.i]) (ag:=YX) k (by kernel_rfl) a;obtain⟨q0,q1,r0,aB,aJ,r3⟩:=pK o x p r w v t H J D E P C N O Q Z ad W hX V a3 a4 s z y M K B2;refine⟨⟨(fun _=>a7),(fun _=>a6),r0,(fun _=>a5),(fun _=>aB),(fun _=>aJ),(fun _=>r3),trivial⟩,hO.trans ?_⟩;exact (lc (by show U.list (L T 51)= .list (Fr us);unfold Fr;rw[ax,a0];exact BI U.list q0) (lc (by show U.int 0= .int (Fu us);unfold Fu;exact BI U.int q1) rfl))
def G0:List U->Int:=fun us=>(BW (aL us 0))
def LK:List U->Prop:=fun us=>¬BW (aL us 0)=0
def MB:Bf:={ sh:=[.one (.list [.str,k64,k64]),.one (.list [k64,k64,k64,.bool,.str,.str,.bool,k64,k64])],blks:=[],outs:=[(.s "SettleP.0",CW G0)],c:= .tup [.cv .nilSlice,(Cy 2)],m':=[],pre:=[(.s "SettleP.p0",LK)] }
def Zn:List En:=[⟨2,.outI "checkPn.0" PF,[.e 0]⟩]
def UJ:List En:=Zn
def pY:List ObE:=[⟨none,.pre "checkPn.p0" Oz,[.e 0]⟩]
def X2:List Rf:=[.e 2]
theorem pZ:MB.sees X2 (MB.runC Try.prog Gy [(41,Lg)] NZ 3000 20 24)=some ((UJ).map En.be,pY.map ObE.be,[]):=by kernel_rfl
theorem qN (e:gg T)(g:gB T)(d:¬BW (L T 0)=0)(b:BV T UJ):
  ((I T 2)=(BW (L T 0)))/\
  (¬BW (L T 0)=0):=by
 have c:=b;clear b;refine⟨?_,?_⟩
 .obtain⟨a,-⟩:=c;replace a:I T 2=(BW (L T 0)):=a;exact a
 .exact d
theorem lT:Bl Try.prog 24 MB:=by
 refine GX FU (l:=[(41,Lg)]) CP (by simp only[AW];exact⟨VR,fun _ h=>absurd h (by simp)⟩) pZ (by kernel_rfl) fun T us d q e p i k=>?_;change us.length=2 at e;obtain⟨⟨a,u⟩,⟨b,v⟩,-⟩:=i;replace a:(L T 0).length<=140737488355328:=a;replace b:(L T 1).length<=140737488355328:=b;have c:=inL (j:=0) q e (by decide);have r:¬BW (L T 0)=0:=by
  have h:=d (.s "SettleP.p0",LK) (by simp[MB]);change LK us at h;unfold LK at h;simp only[c] at h;exact h
 clear d
 skip
 obtain⟨g,o⟩:=B8 (A:=[.i]) (ag:=X2) p (by kernel_rfl) k;obtain⟨s,t⟩:=qN a b r g;refine⟨⟨(fun _=>t),trivial⟩,o.trans ?_⟩;exact (lc (by show U.int (I T 2)= .int (G0 us);unfold G0;rw[c];exact BI U.int s) rfl)
def G6:List U->Int:=fun us=>(Bc (aL us 1))
def Le:List U->Prop:=fun us=>BW (aL us 0)=0/\¬Bc (aL us 1)=0
def Lm:Bf:={ sh:=[.one (.list [.str,k64,k64]),.one (.list [k64,k64,k64,.bool,.str,.str,.bool,k64,k64])],blks:=[],outs:=[(.s "SettleL.0",CW G6)],c:= .tup [.cv .nilSlice,(Cy 2)],m':=[],pre:=[(.s "SettleL.p0",Le)] }
def Zc:List En:=[⟨2,.outI "checkPk.0" Ig,[.e 0]⟩,
 ⟨3,.outI "checkLn.0" PG,[.e 1]⟩]
def Te:List En:=Zc
def m6:List ObE:=[⟨none,.pre "checkLn.p0" PK,[.e 1]⟩,
 ⟨none,.pre "checkPk.p0" G4,[.e 0]⟩]
def X4:List Rf:=[.e 3]
theorem qA:Lm.sees X4 (Lm.runC Try.prog Gy [(41,Ea),(47,L6)] NZ 3000 20 24)=some ((Te).map En.be,m6.map ObE.be,[]):=by kernel_rfl
theorem m9 (e:gg T)(g:gB T)(c:BW (L T 0)=0/\¬Bc (L T 1)=0)(b:BV T Te):
  ((I T 3)=(Bc (L T 1)))/\
  (¬Bc (L T 1)=0)/\
  (BW (L T 0)=0):=by
 have d:=b;clear b;refine⟨?_,?_,?_⟩
 .obtain⟨-,a,-⟩:=d;replace a:I T 3=(Bc (L T 1)):=a;exact a
 .exact c.2
 .exact c.1
theorem lh:Bl Try.prog 24 Lm:=by
 refine GX FU (l:=[(41,Ea),(47,L6)]) CP (by simp only[AW];exact⟨Jk,Wy,fun _ h=>absurd h (by simp)⟩) qA (by kernel_rfl) fun T us g d c q k o=>?_;change us.length=2 at c;obtain⟨⟨a,v⟩,⟨b,w⟩,-⟩:=k;replace a:(L T 0).length<=140737488355328:=a;replace b:(L T 1).length<=140737488355328:=b;have r:=inL (j:=0) d c (by decide);have e:=inL (j:=1) d c (by decide);have s:BW (L T 0)=0/\¬Bc (L T 1)=0:=by
  have h:=g (.s "SettleL.p0",Le) (by simp[Lm]);change Le us at h;unfold Le at h;simp only[r,e] at h;exact h
 clear g
 skip
 obtain⟨i,p⟩:=B8 (A:=[.i]) (ag:=X4) q (by kernel_rfl) o;obtain⟨t,u,aB⟩:=m9 a b s i;refine⟨⟨(fun _=>u),(fun _=>aB),trivial⟩,p.trans ?_⟩;exact (lc (by show U.int (I T 3)= .int (G6 us);unfold G6;rw[e];exact BI U.int t) rfl)
end
section
open Go Go.Eng Go.Proofs
set_option maxRecDepth 100000
def Dt:List U->List (List U):=fun us=>(if (if¬BW (aL us 0)=0 then BW (aL us 0) else Bc (aL us 1))=0 then FP (aL us 0) (aL us 1) else [])
def Dz:List U->Int:=fun us=>((if¬BW (aL us 0)=0 then BW (aL us 0) else Bc (aL us 1)))
def Vg:List U->Prop:=fun us=>((aL us 1)).length<=40\/200 < ((aL us 1)).length
def P6:Bf:={ sh:=[.one (.list [.str,k64,k64]),.one (.list [k64,k64,k64,.bool,.str,.str,.bool,k64,k64])],blks:=[],outs:=[(.s "Settle.0",D1 Dt),(.s "Settle.1",CW Dz)],c:= .tup [.ro 2 [.str,k64,k64],(Cy 3)],m':=[],pre:=[(.s "Settle.p0",Vg)] }
theorem ABE:Bl Try.prog 24 P6:=WL rfl rfl (fun _=>QA) fun us b g=>by
 replace b:us.length=2:=b;have A:(aL us 1).length<=40\/200 < (aL us 1).length:=g _ (Al.2 rfl);by_cases c:BW (aL us 0)=0
 .by_cases h:Bc (aL us 1)=0
  .have z:(aL us 1).length<=40:=by have:=Mp h;omega
   have l:Dt us=Fr us:=by unfold Dt Fr;rw[c,h];rfl
   have o:Dz us=Fu us:=by unfold Dz Fu;rw[c,h];rfl
   refine⟨E0,⟨kW,fun p g=>by rw[Al.1 g];exact⟨c,h,z⟩,rfl,rfl,rfl,rfl,fun T az W w v t d q r=>dP t (fun x u=>?_) r⟩⟩;have y:P6.us us=E0.us us:=by
    show us++[U.list (Dt us),U.int (Dz us)]=us++[U.list (Fr us),U.int (Fu us)];rw[l,o]
   have u:x < (E0.us us).length:=by
    show x < (us++[U.list (Fr us),U.int (Fu us)]).length;rw[AP,b];exact u
   have e:=AF u;rw[q x _ e,d x _ (by rw[y];exact e)]
  .have l:Dt us=[]:=by unfold Dt;exact BG (fun a=>h (Q7 a).2)
   have o:Dz us=G6 us:=by unfold Dz;unfold G6;rw[BG (fun k=>k c)]
   refine⟨Lm,⟨lh,fun p g=>by rw[Al.1 g];exact⟨c,h⟩,rfl,rfl,rfl,rfl,fun T az W w v t d q r=>?_⟩⟩;have i:T 2= .list (Dt us):=d 2 _ (by unfold Bf.us;rw[AS (by omega),b];rfl);have j:T 3= .int (Dz us):=d 3 _ (by unfold Bf.us;rw[AS (by omega),b];rfl);have s:az 2= .int (G6 us):=q 2 _ (by unfold Bf.us;rw[AS (by omega),b];rfl);rw[l] at i;rw[o] at j;exact S9 (by decide) (by decide) i (j.trans s.symm) r
 .have l:Dt us=[]:=by unfold Dt;exact BG (fun a=>c (Q7 a).1)
  have o:Dz us=G0 us:=by unfold Dz;unfold G0;rw[BH c]
  refine⟨MB,⟨lT,fun p g=>by rw[Al.1 g];exact c,rfl,rfl,rfl,rfl,fun T az W w v t d q r=>?_⟩⟩;have i:T 2= .list (Dt us):=d 2 _ (by unfold Bf.us;rw[AS (by omega),b];rfl);have j:T 3= .int (Dz us):=d 3 _ (by unfold Bf.us;rw[AS (by omega),b];rfl);have s:az 2= .int (G0 us):=q 2 _ (by unfold Bf.us;rw[AS (by omega),b];rfl);rw[l] at i;rw[o] at j;exact S9 (by decide) (by decide) i (j.trans s.symm) r
end
section
open Go Go.Eng Go.Proofs
set_option maxHeartbeats 4000000
set_option maxRecDepth 100000
def yg:List U->List (List U):=fun us=>(if Bc (aL us 0)=0 then CH (aL us 0) else [])
def yf:List U->Int:=fun us=>(Bc (aL us 0))
def yb:List U->Prop:=fun us=>((aL us 0)).length<=40\/200 < ((aL us 0)).length
def yc:Bf:={ sh:=[.one (.list [k64,k64,k64,.bool,.str,.str,.bool,k64,k64])],blks:=[],outs:=[(.s "Books.0",D1 yg),(.s "Books.1",CW yf)],c:= .tup [.ro 1 [k64,k64,k64,.bool,.str,.str,.bool,k64,k64],(Cy 2)],m':=[],pre:=[(.s "Books.p0",yb)] }
def zV:List En:=[⟨1,.outI "checkL.0" RL,[.e 0]⟩,
 ⟨2,.ne,[.e 1,.c (.int 0)]⟩,
 ABM 3 2,
 ⟨4,.outL "books.0" OG,[.e 0]⟩,
 ⟨5,.ite .i,[.e 2,.e 1,.c (.int 0)]⟩,
 ⟨6,.ite .l,[.e 2,.c (.list []),.e 4]⟩,
 ABH 7 2 3]
def zH:List En:=zV
def zo:List ObE:=[⟨some 3,.pre "books.p0" Lu,[.e 0]⟩]
def zX:List Rf:=[.e 6,.e 5]
theorem zm:yc.sees zX (yc.run Try.prog [(47,Nh),(65,FQ)] Bp 3000 20 23)=some ((zH).map En.be,zo.map ObE.be,[]):=by kernel_rfl
variable{T:Tab}
theorem zn (p:gg T)(o:∀u∈(L T 0),Bb BT KB u)(q:((L T 0)).length<=40\/200 < ((L T 0)).length)(j:BV T zH):
  ((L T 6)=(if Bc (L T 0)=0 then CH (L T 0) else []))/\
  ((I T 5)=(Bc (L T 0)))/\
  (B T 3=true->((L T 0)).length<=40):=by
 have d:=j;clear j;refine⟨?_,?_,?_⟩
 .obtain⟨b,c,-,e,-,i,-⟩:=d;replace b:I T 1=(Bc (L T 0)):=b;replace e:L T 4=(CH (L T 0)):=e;simp only[BS,BZ,zR,zL,zS] at c i;have k:(B T 2)=true↔¬Bc (L T 0)=0:=by rw[c,b]
  by_cases h:(B T 2)=true
  .rw[i,BH h,BG (k.1 h)]
  .rw[i,BG h,BH (At fun a=>h (k.2 a)),e]
 .obtain⟨b,c,-,-,g,-⟩:=d;replace b:I T 1=(Bc (L T 0)):=b;simp only[BS,BZ,zR,zL,zS] at c g;have k:(B T 2)=true↔¬Bc (L T 0)=0:=by rw[c,b]
  by_cases h:(B T 2)=true
  .rw[g,BH h,b]
  .rw[g,BG h];exact (At fun a=>h (k.2 a)).symm
 .obtain⟨b,c,l,-⟩:=d;replace b:I T 1=(Bc (L T 0)):=b;simp only[BS,BZ,zR] at c l;intro h;have k:(B T 2)=true↔¬Bc (L T 0)=0:=by rw[c,b]
  have n:¬B T 2=true:=by simpa using l.1 h
  have:=Mp (At fun a=>n (k.2 a));show ((L T 0)).length<=40;omega
theorem zi:Bl Try.prog 23 yc:=by
 refine B7 (l:=[(47,Nh),(65,FQ)]) CP (by simp only[AW];exact⟨YU,U8,fun _ h=>absurd h (by simp)⟩) zm (by kernel_rfl) fun T us c q d p g k=>?_;change us.length=1 at d;obtain⟨⟨b,r⟩,-⟩:=g;replace b:(L T 0).length<=140737488355328:=b;have s:∀u∈(L T 0),Bb BT KB u:=fun u t=>by
  obtain⟨i,ab⟩:=Ac.1 t;exact r i u ab
 have a:=inL (j:=0) q d (by decide);have v:((L T 0)).length<=40\/200 < ((L T 0)).length:=by
  have h:=c (.s "Books.p0",yb) (by simp[yc]);change yb us at h;unfold yb at h;simp only[a] at h;exact h
 clear c
 skip
 obtain⟨e,o⟩:=B8 (A:=[.l,.i]) (ag:=zX) p (by kernel_rfl) k;obtain⟨w,x,y⟩:=zn b s v e;refine⟨⟨y,trivial⟩,o.trans ?_⟩;exact (lc (by show U.list (L T 6)= .list (yg us);unfold yg;rw[a];exact BI U.list w) (lc (by show U.int (I T 5)= .int (yf us);unfold yf;rw[a];exact BI U.int x) rfl))
def yi:List U->Bool:=fun us=>(yh (aL us 0) (aS us 1))
def yp:Bf:={ sh:=[.one (.list [.str,k64,k64]),.one (.str)],blks:=[],outs:=[(.s "one.0",Jx yi)],c:= .b 2,m':=[],pre:=[] }
def zZ:List En:=[]
def zf:List En:=[ABL 3 0,
 ABI 4 2 3,
 ABM 5 4,
 ABZ 6 0 2,
 ⟨7,.eqs [.s],[.e 6,.e 1]⟩,
 ABF 8 4 7,
 ABG 9 4 7,
 ⟨10,.w2 .i64 .add,[.e 2,.c (.int 1)]⟩]
def yZ:List En:=zf
def za:List ObE:=[⟨some 4,.inl,[.e 2,.e 0]⟩]
def yn:Bs:=mkD 2 1 yZ 9 [.e 10] za [1,0]
def zD:List Rf:=[.e 1,.e 0,.c (.int 0)]
def zg:List En:=[⟨11,.ite .b,[.e 8,.c (.bool true),.c (.bool false)]⟩,
 ABH 12 8 5]
def zY:List En:=zg
def zt:List ObE:=[⟨none,.owes yn,[.e 1,.e 0,.c (.int 0)]⟩]
def zk:List Rf:=[.e 11]
theorem zr:yp.sees zk (yp.run Try.prog [] Bp 3000 20 42)=some ((zZ++((B5 yn [.i] zD)++(yZ++(zY)))).map En.be,zt.map ObE.be,[]):=by kernel_rfl
abbrev dc(T:Tab)(a:Int):Prop:=0<=a/\a <=((L T 0)).length/\∀j:Nat,(j:Int) <a ->¬uS (((L T 0)).getD j []) 0=S T 1
theorem zq (X:gg T)(v:Ba T (Bh (CA 0 yp.ks) zZ))(t:Bi T (yZ.map En.be))(u:Bi T ((B5 yn [.i] zD).map En.be)):
  (yn).owes (zD.map (Rf.eval T))/\Ba T (hds 2 [.i])/\(dc T (I T 2))/\¬B T 9=true:=by
 refine CK (nh:=2) (k:=1) (pcn:=9) (aF:=11) (b:=yZ) (K:=za) (nxt:=[.e 10]) (H:=[.c (.int 0)]) (fv:=[1,0]) (A:=[.i]) (by kernel_rfl) rfl rfl rfl rfl v (by kernel_rfl) (by kernel_rfl) t (B6 u) (fun s=>dc T (aI s 0)) (fun s=>(((L T 0)).length - (aI s 0)).toNat) ?_ ?_
 .show dc T (0:Int);clear v t u;exact⟨Aw _,by omega,fun j h=>by omega⟩
 .intro J w p o;replace o:dc T (I J 2):=o;clear v t u;replace p:BV J yZ:=p;have q:=p;clear p;have F:=fvS (w 1 (by decide));have i:=fvL (w 0 (by decide));clear w
  suffices N:(B J 4=true->0<=I J 2/\I J 2 < ((L J 0)).length)/\(B J 9=true->(dc T (I J 10)))/\(B J 9=true->(((L T 0)).length - (I J 10)).toNat < (((L T 0)).length - (I J 2)).toNat) from
   let⟨Q,P,O⟩:=N;⟨⟨Q,trivial⟩,fun d=>⟨P d,O d⟩⟩
  refine⟨?_,?_,?_⟩
  .obtain⟨a,c,-⟩:=q;simp only[BS,zR,zL] at a c;obtain⟨C,D,x⟩:=o;intro d;have l:=c.1 d;rw[a,i] at l;rw[i];omega
  .obtain⟨a,c,-,y,z,-,g,e,-⟩:=q;simp only[BS,BZ,zN,zR,Dw,and_true,w2P,zL,zS] at a c y z g e;obtain⟨C,D,x⟩:=o;intro d;have r:=g.1 d;have l:=c.1 r.1;rw[a,i] at l;have V:=o2' e (by omega);refine⟨by omega,by omega,fun j W=>?_⟩;rcases Int.lt_or_le (j:Int) (I J 2) with h|h
   .exact x j h
   .have E:j=(I J 2).toNat:=by omega
    rw[E];intro M;have:(B J 7)=true:=z.2 (by rw[y,i,F];exact M);rw[this] at r;cases r.2
  .obtain⟨a,c,-,-,-,-,g,e,-⟩:=q;simp only[BS,BZ,zN,zR,w2P,zL] at a c g e;obtain⟨C,D,x⟩:=o;intro d;have l:=c.1 (g.1 d).1;rw[a,i] at l;have V:=o2' e (by omega);omega
abbrev gO(T:Tab):Prop:=(S T 1).size<=140737488355328
theorem zu (M:gg T)(J:∀u∈(L T 0),Bb BT KP u)(N:gO T)(D:dc T (I T 2))(F:¬B T 9=true)(q:BV T yZ)(o:BV T zY):
  ((B T 11)=(yh (L T 0) (S T 1))):=by
 have x:=q;clear q;have y:=o;clear o
 .obtain⟨d,g,-,s,t,k,v,-⟩:=x;obtain⟨r,-⟩:=y;simp only[BS,BZ,zN,zC,zR,Dw,and_true,zL,zS] at d g s t k v r;have w:(B T 11)=true↔yh (L T 0) (S T 1)=true:=by
   have z:(B T 11)=true↔B T 8=true:=by rw[r];try simp
   rw[z];unfold yh;obtain⟨O,P,H⟩:=D;by_cases c:(B T 8)=true
   .obtain⟨b,a⟩:=k.1 c;have b:=g.1 b;have a:=t.1 a;rw[d] at b;rw[s] at a;have:=xE (p:=fun u=>decide (uS u 0=S T 1)) (l:=L T 0) (i:=(I T 2).toNat) (by omega) (decide_eq_true a);simp[c,this]
   .have E:¬B T 4=true:=fun b=>by
     by_cases a:(B T 7)=true
     .exact c (k.2 ⟨b,a⟩)
     .exact F (v.2 ⟨b,by simpa using a⟩)
    have K:¬I T 2 < ((L T 0)).length:=fun h=>E (g.2 (by rw[d];exact h));refine⟨fun h=>absurd h c,fun h=>?_⟩;obtain⟨u,C,e⟩:=List.any_eq_true.1 h;obtain⟨j,A,rfl⟩:=yK.1 C;have:=H j (by omega);rw[AY,AF A] at this;exact absurd (of_decide_eq_true e) this
  first|exact w|exact Bool.eq_iff_iff.2 w
theorem ok_one:Bl Try.prog 42 yp:=by
 refine B7 (l:=[]) CP (by intro p h;exact absurd h (by simp)) zr (by kernel_rfl) fun T us F s g d w a=>?_;change us.length=2 at g;obtain⟨⟨b,D⟩,k,-⟩:=w;replace b:(L T 0).length<=140737488355328:=b;have E:∀u∈(L T 0),Bb BT KP u:=fun u H=>by
  obtain⟨i,ab⟩:=Ac.1 H;exact D i u ab
 replace k:(S T 1).size<=140737488355328:=k;have z:=inL (j:=0) s g (by decide);have C:=inS (j:=1) s g (by decide);clear F;rw[AL,AL,AL] at a;obtain⟨o,a⟩:=cutB a;obtain⟨q,a⟩:=cutB a;obtain⟨c,a⟩:=cutB a;obtain⟨O,e⟩:=Be d (by kernel_rfl) o;obtain⟨M,r,J,K⟩:=zq b e c q;have x:=(Be (r.append e) (l:=yZ) (by kernel_rfl) c);obtain⟨v,d⟩:=x;clear o c q e r;obtain⟨t,y⟩:=B8 (A:=[.b]) (ag:=zk) d (by kernel_rfl) a;have N:=zu b E k J K v t;refine⟨⟨(fun _=>M),trivial⟩,y.trans ?_⟩;exact (lc (by show U.bool (B T 11)= .bool (yi us);unfold yi;rw[z,C];exact BI U.bool N) rfl)
def P4:List U->Int:=fun us=>(Cq (aS us 0) (aI us 1) (aI us 2) (aS us 3) (aI us 4) (aI us 5))
def R8:Bf:={ sh:=[.agg [.str,k64,k64],.agg [.str,k64,k64]],blks:=[],outs:=[(.s "pair.0",CW P4)],c:=(Cy 6),m':=[],pre:=[] }
def kK:List En:=[⟨6,.outB "vplayer.0" HA,[.e 0,.e 1,.e 2]⟩,
 ABY 7 6,
 ⟨8,.outB "vplayer.0" HA,[.e 3,.e 4,.e 5]⟩,
 ⟨9,.or,[.n 6,.n 8]⟩,
 ABM 10 9,
 ⟨11,.eqs [.s],[.e 0,.e 3]⟩,
 ABF 12 10 11,
 ABG 13 10 11,
 ⟨14,.ite .i,[.e 9,.c (.int 2),.c (.int 12)]⟩,
 ABH 15 9 12,
 ⟨16,.ite .i,[.e 15,.e 14,.c (.int 0)]⟩,
 ABH 17 15 13]
def bU:List En:=kK
def wd:List ObE:=[]
def oN:List Rf:=[.e 16]
theorem ww:R8.sees oN (R8.run Try.prog [(82,Ho)] Bp 3000 20 57)=some ((bU).map En.be,wd.map ObE.be,[]):=by kernel_rfl
theorem xb (o:(S T 0).size<=140737488355328)(p:(S T 3).size<=140737488355328)(c:BV T bU):
  ((I T 16)=(Cq (S T 0) (I T 1) (I T 2) (S T 3) (I T 4) (I T 5))):=by
 have d:=c;clear c
 .obtain⟨a,-,b,l,e,g,h,-,i,j,k,-⟩:=d;replace a:B T 6=(Dl (S T 0) (I T 1) (I T 2)):=a;replace b:B T 8=(Dl (S T 3) (I T 4) (I T 5)):=b;simp only[BS,BZ,zN,zR,Dw,and_true,zL,zS] at l e g h i j k;unfold Cq;rw[<-a,<-b];clear a b;grind
theorem vZ:Bl Try.prog 57 R8:=by
 refine B7 (l:=[(82,Ho)]) CP (by simp only[AW];exact⟨Vi,fun _ h=>absurd h (by simp)⟩) ww (by kernel_rfl) fun T us v b a o g i=>?_;change us.length=6 at a;obtain⟨c,-,-,d,-⟩:=g;replace c:(S T 0).size<=140737488355328:=c;replace d:(S T 3).size<=140737488355328:=d;have p:=inS (j:=0) b a (by decide);have q:=inI (j:=1) b a (by decide);have r:=inI (j:=2) b a (by decide);have s:=inS (j:=3) b a (by decide);have t:=inI (j:=4) b a (by decide);have u:=inI (j:=5) b a (by decide);clear v
 skip
 obtain⟨e,k⟩:=B8 (A:=[.i]) (ag:=oN) o (by kernel_rfl) i;have w:=xb c d e;refine⟨trivial,k.trans ?_⟩;exact (lc (by show U.int (I T 16)= .int (P4 us);unfold P4;rw[p,q,r,s,t,u];exact BI U.int w) rfl)
def NY:List U->Int:=fun us=>(B9 (aI us 2) (aI us 0))
def NH:List U->Int:=fun us=>(Cz (B9 (aI us 2) (aI us 0)) (aI us 3))
def K5:List U->Prop:=fun us=> -10000<=(aI us 2)/\(aI us 2)<=10000/\ -12<=(aI us 3)/\(aI us 3)<=48/\ -100<=(aI us 0)/\(aI us 0)<=100
def Ly:Bf:={ sh:=[.ptr 0 0,.one (k64)],blks:=[([.str,k64,k64],23)],outs:=[(.s "move.0",CW NY),(.s "move.1",CW NH)],c:= .tup [],m':=[.cells [.s 1,(Cy 4),(Cy 5)] 23],pre:=[(.s "move.p0",K5)] }
def lB:List En:=[ABX 4 2 0,
 ⟨5,.o2 .max,[.e 4,.c (.int (-10000))]⟩,
 ⟨6,.o2 .min,[.e 5,.c (.int 10000)]⟩]
def Kl:List En:=lB
def mS:List En:=[⟨8,.lt,[.c (.int (-12)),.e 7]⟩,
 ABY 9 8,
 ABY 10 8,
 ⟨11,.w2 .i64 .sub,[.e 7,.c (.int 1)]⟩,
 ⟨12,.outI "trig.0" Iv,[.e 11]⟩,
 ⟨13,.le,[.e 12,.e 6]⟩,
 ABF 14 8 13,
 ABM 15 14,
 ⟨16,.w2 .i64 .sub,[.e 7,.c (.int 1)]⟩]
def Gg:List En:=mS
def cX:List ObE:=[⟨some 10,.pre "trig.p0" Hb,[.e 11]⟩]
def Qt:Bs:=mkD 7 1 Gg 14 [.e 16] cX [6]
def Un:List Rf:=[.e 6,.e 3]
def aV:List En:=[]
def jZ:List En:=[⟨18,.lt,[.e 17,.c (.int 48)]⟩,
 ABF 19 15 18,
 ABF 20 15 18,
 ⟨21,.w2 .i64 .add,[.e 17,.c (.int 1)]⟩,
 ⟨22,.outI "trig.0" Iv,[.e 21]⟩,
 ⟨23,.le,[.e 6,.e 22]⟩,
 ABF 24 18 23,
 ABF 25 15 24,
 ABG 26 15 24,
 ⟨27,.w2 .i64 .add,[.e 17,.c (.int 1)]⟩]
def JF:List En:=jZ
def aY:List ObE:=[⟨some 20,.pre "trig.p0" Hb,[.e 21]⟩]
def QY:Bs:=mkD 17 1 JF 25 [.e 27] aY [15,6]
def Us:List Rf:=[.e 15,.e 6,.e 7]
def tw:List En:=[]
def wc:List ObE:=[⟨some 15,.owes QY,[.e 15,.e 6,.e 7]⟩,
 ⟨none,.owes Qt,[.e 6,.e 3]⟩]
def ny:List Rf:=[.e 6,.e 17]
theorem w8:Ly.sees ny (Ly.run Try.prog [(69,Lw)] Bp 3000 20 98)=some ((Kl++((B5 Qt [.i] Un)++(Gg++(aV++((B5 QY [.i] Us)++(JF++(tw))))))).map En.be,wc.map ObE.be,[]):=by kernel_rfl
abbrev gW(T:Tab):Prop:=-10000<=I T 2/\I T 2<=10000/\ -12<=I T 3/\I T 3<=48/\ -100<=I T 0/\I T 0<=100
theorem nH (b:gO T)(c:gW T)(a:BV T Kl):
  (-12<=I T 3/\I T 3<=48):=by
 grind
abbrev dq(T:Tab)(a:Int):Prop:=-12<=a/\a <=48/\Cg (I T 6) a=Cg (I T 6) (I T 3)
theorem sW (N: -12<=I T 3/\I T 3<=48)(u:Ba T (Bh (CA 0 Ly.ks) Kl))(r:Bi T (Gg.map En.be))(t:Bi T ((B5 Qt [.i] Un).map En.be)):
  (Qt).owes (Un.map (Rf.eval T))/\Ba T (hds 7 [.i])/\(dq T (I T 7))/\¬B T 14=true:=by
 refine CK (nh:=7) (k:=1) (pcn:=14) (aF:=17) (b:=Gg) (K:=cX) (nxt:=[.e 16]) (H:=[.e 3]) (fv:=[6]) (A:=[.i]) (by kernel_rfl) rfl rfl rfl rfl u (by kernel_rfl) (by kernel_rfl) r (B6 t) (fun s=> dq T (aI s 0)) (fun s=>((aI s 0)+12).toNat) ?_ ?_
 .show dq T (I T 3);grind
 .intro J v g l;replace l: dq T (I J 7):=l;clear u r t;replace g:BV J Gg:=g;have i:=g;clear g;have w:=fvI (v 6 (by decide));clear v
  suffices y:(B J 10=true-> -100<=I J 11/\I J 11<=100)/\(B J 14=true->(dq T (I J 16)))/\(B J 14=true->((I J 16)+12).toNat < ((I J 7)+12).toNat) from
   let⟨D,C,z⟩:=y;⟨⟨D,trivial⟩,fun h=>⟨C h,z h⟩⟩
  refine⟨?_,?_,?_⟩
  .obtain⟨-,-,-,a,-⟩:=i;simp only[BS,zR,w2P] at a;grind
  .obtain⟨e,-,-,a,j,o,c,-,d,-⟩:=i;replace j:I J 12=(Dp (I J 11)):=j;simp only[BS,BZ,zR,w2P] at e a o c d;obtain⟨O,P,E⟩:=l;intro h;have q:=c.1 h;have x:=e.1 q.1;have p:=o.1 q.2;have F:=o2' a (by omega);have M:=o2' d (by omega);rw[j,F,w] at p;refine⟨by omega,by omega,?_⟩;rw[M,<-E];exact (Sc x p).symm
  .obtain⟨e,-,-,-,-,-,c,-,d,-⟩:=i;simp only[BS,BZ,zR,w2P] at e c d;grind
theorem nG (d:gO T)(h:gW T)(c: -12<=I T 3/\I T 3<=48)(e: dq T (I T 7))(g:¬B T 14=true)(a:BV T Kl)(b:BV T Gg):
  (-12<=I T 7/\I T 7<=48):=by
 grind
abbrev dD(T:Tab)(a:Int):Prop:=-12<=a/\a <=48/\upG (I T 6) a=upG (I T 6) (I T 7)
theorem rN (P: -12<=I T 7/\I T 7<=48)(w:Ba T (Bh (Bh (hds 7 [.i]++(Bh (CA 0 Ly.ks) Kl)) Gg) aV))(u:Bi T (JF.map En.be))(v:Bi T ((B5 QY [.i] Us).map En.be)):
  (QY).owes (Us.map (Rf.eval T))/\Ba T (hds 17 [.i])/\(dD T (I T 17))/\¬B T 25=true:=by
 refine CK (nh:=17) (k:=1) (pcn:=25) (aF:=28) (b:=JF) (K:=aY) (nxt:=[.e 27]) (H:=[.e 7]) (fv:=[15,6]) (A:=[.i]) (by kernel_rfl) rfl rfl rfl rfl w (by kernel_rfl) (by kernel_rfl) u (B6 v) (fun s=> dD T (aI s 0)) (fun s=>(48 - (aI s 0)).toNat) ?_ ?_
 .show dD T (I T 7);grind
 .intro J o h p;replace p: dD T (I J 17):=p;clear w u v;replace h:BV J JF:=h;have j:=h;clear h;have O:=fvB (o 15 (by decide));have x:=fvI (o 6 (by decide));clear o
  suffices z:(B J 20=true-> -100<=I J 21/\I J 21<=100)/\(B J 25=true->(dD T (I J 27)))/\(B J 25=true->(48 - (I J 27)).toNat < (48 - (I J 17)).toNat) from
   let⟨E,D,C⟩:=z;⟨⟨E,trivial⟩,fun i=>⟨D i,C i⟩⟩
  refine⟨?_,?_,?_⟩
  .obtain⟨-,-,-,c,-⟩:=j;simp only[BS,zR,w2P] at c;grind
  .obtain⟨a,-,-,c,l,q,d,e,-,g,-⟩:=j;replace l:I J 22=(Dp (I J 21)):=l;simp only[BS,BZ,zR,w2P] at a c q d e g;obtain⟨Q,V,F⟩:=p;intro i;have t:=d.1 (e.1 i).2;have y:=a.1 t.1;have r:=q.1 t.2;have M:=o2' c (by omega);have N:=o2' g (by omega);rw[l,M,x] at r;refine⟨by omega,by omega,?_⟩;rw[N,<-F];exact (XH y r).symm
  .obtain⟨a,-,-,-,-,-,d,e,-,g,-⟩:=j;simp only[BS,BZ,zR,w2P] at a d e g;grind
theorem we (W:gO T)(p:gW T)(V: -12<=I T 3/\I T 3<=48)(D: dq T (I T 7))(X:¬B T 14=true)(Q: -12<=I T 7/\I T 7<=48)(E: dD T (I T 17))(Y:¬B T 25=true)(h:BV T Kl)(i:BV T Gg)(j:BV T JF):
  ((I T 6)=(B9 (I T 2) (I T 0)))/\
  ((I T 17)=(Cz (B9 (I T 2) (I T 0)) (I T 3))):=by
 have k:=h;clear h;have q:=i;clear i;have r:=j;clear j;refine⟨?_,?_⟩
 .obtain⟨b,c,d,-⟩:=k;simp only[BS,zR,EK,w2P] at b c d;obtain⟨F,H,J,K,M,N⟩:=p;have g:=o2' b (by omega);have e:(I T 6)=B9 (I T 2) (I T 0):=by
   unfold B9;rw[d,c,g];omega
  exact e
 .obtain⟨b,c,d,-⟩:=k;obtain⟨C,-,-,s,l,t,u,v,-⟩:=q;obtain⟨w,-,-,x,o,y,z,A,-⟩:=r;replace l:I T 12=(Dp (I T 11)):=l;replace o:I T 22=(Dp (I T 21)):=o;simp only[BS,BZ,zR,EK,w2P] at b c d C s t u v w x y z A;obtain⟨F,H,J,K,M,N⟩:=p;have g:=o2' b (by omega);have e:(I T 6)=B9 (I T 2) (I T 0):=by
   unfold B9;rw[d,c,g];omega
  obtain⟨Z,v2,O⟩:=D;obtain⟨aS,w2,P⟩:=E;rw[<-e];unfold Cz;have hd:Cg (I T 6) (I T 3)=I T 7:=by
   rw[<-O];refine Sg fun a=>?_;grind
  rw[hd,<-P];refine (XW fun a=>?_).symm;grind
theorem ug:Bl Try.prog 98 Ly:=by
 refine B7 (l:=[(69,Lw)]) CP (by simp only[AW];exact⟨ib,fun _ h=>absurd h (by simp)⟩) w8 (by kernel_rfl) fun T us y r o g E a=>?_;change us.length=4 at o;obtain⟨-,k,-⟩:=E;replace k:(S T 1).size<=140737488355328:=k;have v:=inI (j:=0) r o (by decide);have w:=inI (j:=2) r o (by decide);have H:=inI (j:=3) r o (by decide);have t: -10000<=I T 2/\I T 2<=10000/\ -12<=I T 3/\I T 3<=48/\ -100<=I T 0/\I T 0<=100:=by
  have h:=y (.s "move.p0",K5) (by simp[Ly]);change K5 us at h;unfold K5 at h;grind
 clear y;rw[AL,AL,AL,AL,AL,AL] at a;obtain⟨d,a⟩:=cutB a;obtain⟨e,a⟩:=cutB a;obtain⟨b,a⟩:=cutB a;obtain⟨p,c⟩:=Be g (by kernel_rfl) d;have s:=nH k t p;obtain⟨M,i,z,C⟩:=sW s c b e;have q:=(Be (i.append c) (l:=Gg) (by kernel_rfl) b);obtain⟨u,g⟩:=q;clear d b e c i;obtain⟨d,a⟩:=cutB a;obtain⟨e,a⟩:=cutB a;obtain⟨b,a⟩:=cutB a;obtain⟨Q,c⟩:=Be g (by kernel_rfl) d;have x:=nG k t s z C p u;obtain⟨N,i,J,K⟩:=rN x c b e;have q:=(Be (i.append c) (l:=JF) (by kernel_rfl) b);obtain⟨D,g⟩:=q;clear d b e c i;obtain⟨V,F⟩:=B8 (A:=[.i,.i]) (ag:=ny) g (by kernel_rfl) a;obtain⟨O,P⟩:=we k t s z C x J K p u D;refine⟨⟨(fun _=>N),(fun _=>M),trivial⟩,F.trans ?_⟩;exact (lc (by show U.int (I T 6)= .int (NY us);unfold NY;rw[v,w];exact BI U.int O) (lc (by show U.int (I T 17)= .int (NH us);unfold NH;rw[v,w,H];exact BI U.int P) rfl))
def OK:List U->ByteArray:=fun us=>(if Cq (aS us 0) (aI us 1) (aI us 2) (aS us 3) (aI us 4) (aI us 5)=0 then (aS us 0) else (⟨#[]⟩:ByteArray))
def yR:List U->Int:=fun us=>(if Cq (aS us 0) (aI us 1) (aI us 2) (aS us 3) (aI us 4) (aI us 5)=0 then B9 (aI us 1) (CJ (aI us 1) (aI us 4) (aB us 6)) else 0)
def OF:List U->Int:=fun us=>(if Cq (aS us 0) (aI us 1) (aI us 2) (aS us 3) (aI us 4) (aI us 5)=0 then Cz (B9 (aI us 1) (CJ (aI us 1) (aI us 4) (aB us 6))) (aI us 2) else 0)
def Oo:List U->ByteArray:=fun us=>(if Cq (aS us 0) (aI us 1) (aI us 2) (aS us 3) (aI us 4) (aI us 5)=0 then (aS us 3) else (⟨#[]⟩:ByteArray))
def OY:List U->Int:=fun us=>(if Cq (aS us 0) (aI us 1) (aI us 2) (aS us 3) (aI us 4) (aI us 5)=0 then B9 (aI us 4) (-(CJ (aI us 1) (aI us 4) (aB us 6))) else 0)
def Oi:List U->Int:=fun us=>(if Cq (aS us 0) (aI us 1) (aI us 2) (aS us 3) (aI us 4) (aI us 5)=0 then Cz (B9 (aI us 4) (-(CJ (aI us 1) (aI us 4) (aB us 6)))) (aI us 5) else 0)
def OE:List U->Int:=fun us=>(Cq (aS us 0) (aI us 1) (aI us 2) (aS us 3) (aI us 4) (aI us 5))
def Pp:Bf:={ sh:=[.agg [.str,k64,k64],.agg [.str,k64,k64],.one (.bool)],blks:=[],outs:=[(.s "Count.0",lE OK),(.s "Count.1",CW yR),(.s "Count.2",CW OF),(.s "Count.3",lE Oo),(.s "Count.4",CW OY),(.s "Count.5",CW Oi),(.s "Count.6",CW OE)],c:= .tup [.agg [.s 7,(Cy 8),(Cy 9)],.agg [.s 10,(Cy 11),(Cy 12)],(Cy 13)],m':=[],pre:=[] }
def fx:List En:=[⟨7,.outI "pair.0" P4,[.e 0,.e 1,.e 2,.e 3,.e 4,.e 5]⟩,
 ⟨8,.ne,[.e 7,.c (.int 0)]⟩,
 ABM 9 8,
 ⟨10,.outI "gain.0" Nc,[.e 1,.e 4,.e 6]⟩,
 ⟨11,.outI "move.0" NY,[.e 10,.e 0,.e 1,.e 2]⟩,
 ⟨12,.outI "move.1" NH,[.e 10,.e 0,.e 1,.e 2]⟩,
 ⟨13,.wneg .i64,[.e 10]⟩,
 ⟨14,.outI "move.0" NY,[.e 13,.e 3,.e 4,.e 5]⟩,
 ⟨15,.outI "move.1" NH,[.e 13,.e 3,.e 4,.e 5]⟩,
 ABU 16 8 1 11,
 ABU 17 8 2 12,
 ABU 18 8 4 14,
 ABU 19 8 5 15,
 ⟨20,.ite .s,[.e 8,.c (.str ⟨#[]⟩),.e 0]⟩,
 ⟨21,.ite .i,[.e 8,.c (.int 0),.e 11]⟩,
 ⟨22,.ite .i,[.e 8,.c (.int 0),.e 12]⟩]
def gI:List En:=[⟨23,.ite .s,[.e 8,.c (.str ⟨#[]⟩),.e 3]⟩,
 ⟨24,.ite .i,[.e 8,.c (.int 0),.e 14]⟩,
 ⟨25,.ite .i,[.e 8,.c (.int 0),.e 15]⟩,
 ⟨26,.ite .i,[.e 8,.e 7,.c (.int 0)]⟩,
 ABH 27 8 9]
def YR:List En:=fx++(gI)
def vi:List ObE:=[⟨some 9,.pre "move.p0" K5,[.e 13,.e 3,.e 4,.e 5]⟩,
 ⟨some 9,.pre "move.p0" K5,[.e 10,.e 0,.e 1,.e 2]⟩,
 ⟨some 9,.pre "gain.p0" K8,[.e 1,.e 4,.e 6]⟩]
def iL:List Rf:=[.e 20,.e 21,.e 22,.e 23,.e 24,.e 25,.e 26]
theorem wG:Pp.sees iL (Pp.run Try.prog [(57,R8),(60,Ls),(98,Ly)] Bp 3000 20 16)=some ((YR).map En.be,vi.map ObE.be,[]):=by kernel_rfl
theorem wK (J:(S T 0).size<=140737488355328)(K:(S T 3).size<=140737488355328)(r:BV T YR):
  ((S T 20)=(if Cq (S T 0) (I T 1) (I T 2) (S T 3) (I T 4) (I T 5)=0 then (S T 0) else (⟨#[]⟩:ByteArray)))/\
  ((I T 21)=(if Cq (S T 0) (I T 1) (I T 2) (S T 3) (I T 4) (I T 5)=0 then B9 (I T 1) (CJ (I T 1) (I T 4) (B T 6)) else 0))/\
  ((I T 22)=(if Cq (S T 0) (I T 1) (I T 2) (S T 3) (I T 4) (I T 5)=0 then Cz (B9 (I T 1) (CJ (I T 1) (I T 4) (B T 6))) (I T 2) else 0))/\
  ((S T 23)=(if Cq (S T 0) (I T 1) (I T 2) (S T 3) (I T 4) (I T 5)=0 then (S T 3) else (⟨#[]⟩:ByteArray)))/\
  ((I T 24)=(if Cq (S T 0) (I T 1) (I T 2) (S T 3) (I T 4) (I T 5)=0 then B9 (I T 4) (-(CJ (I T 1) (I T 4) (B T 6))) else 0))/\
  ((I T 25)=(if Cq (S T 0) (I T 1) (I T 2) (S T 3) (I T 4) (I T 5)=0 then Cz (B9 (I T 4) (-(CJ (I T 1) (I T 4) (B T 6)))) (I T 5) else 0))/\
  ((I T 26)=(Cq (S T 0) (I T 1) (I T 2) (S T 3) (I T 4) (I T 5)))/\
  (B T 9=true-> -10000<=I T 4/\I T 4<=10000/\ -12<=I T 5/\I T 5<=48/\ -100<=I T 13/\I T 13<=100)/\
  (B T 9=true-> -10000<=I T 1/\I T 1<=10000/\ -12<=I T 2/\I T 2<=48/\ -100<=I T 10/\I T 10<=100)/\
  (B T 9=true-> -10000<=I T 1/\I T 1<=10000/\ -10000<=I T 4/\I T 4<=10000):=by
 obtain⟨g,r⟩:=r.cut;have s:=r;clear r;refine⟨?_,?_,?_,?_,?_,?_,?_,?_,?_,?_⟩
 .obtain⟨b,c,-,-,-,-,-,-,-,-,-,-,-,y,-⟩:=g;replace b:I T 7=(Cq (S T 0) (I T 1) (I T 2) (S T 3) (I T 4) (I T 5)):=b;simp only[BS,BZ,zR,zL,zS] at c y;by_cases h:(I T 7)=0
  .have e:¬B T 8=true:=fun a=>(c.1 a) h;rw[y,BG e,<-b,BH h]
  .rw[y,BH (c.2 h),<-b,BG h]
 .obtain⟨b,c,-,d,u,-,-,-,-,-,-,-,-,-,z,-⟩:=g;replace b:I T 7=(Cq (S T 0) (I T 1) (I T 2) (S T 3) (I T 4) (I T 5)):=b;replace d:I T 10=(CJ (I T 1) (I T 4) (B T 6)):=d;replace u:I T 11=(B9 (I T 1) (I T 10)):=u;simp only[BS,BZ,zR,zL,zS] at c z;by_cases h:(I T 7)=0
  .have e:¬B T 8=true:=fun a=>(c.1 a) h;rw[z,BG e,<-b,BH h];rw[u,d]
  .rw[z,BH (c.2 h),<-b,BG h]
 .obtain⟨b,c,-,d,-,v,-,-,-,-,-,-,-,-,-,A,-⟩:=g;replace b:I T 7=(Cq (S T 0) (I T 1) (I T 2) (S T 3) (I T 4) (I T 5)):=b;replace d:I T 10=(CJ (I T 1) (I T 4) (B T 6)):=d;replace v:I T 12=(Cz (B9 (I T 1) (I T 10)) (I T 2)):=v;simp only[BS,BZ,zR,zL,zS] at c A;by_cases h:(I T 7)=0
  .have e:¬B T 8=true:=fun a=>(c.1 a) h;rw[A,BG e,<-b,BH h];rw[v,d]
  .rw[A,BH (c.2 h),<-b,BG h]
 .obtain⟨b,c,-⟩:=g;obtain⟨C,-⟩:=s;replace b:I T 7=(Cq (S T 0) (I T 1) (I T 2) (S T 3) (I T 4) (I T 5)):=b;simp only[BS,BZ,zR,zL,zS] at c C;by_cases h:(I T 7)=0
  .have e:¬B T 8=true:=fun a=>(c.1 a) h;rw[C,BG e,<-b,BH h]
  .rw[C,BH (c.2 h),<-b,BG h]
 .obtain⟨b,c,-,d,-,-,i,w,-⟩:=g;obtain⟨-,D,-⟩:=s;replace b:I T 7=(Cq (S T 0) (I T 1) (I T 2) (S T 3) (I T 4) (I T 5)):=b;replace d:I T 10=(CJ (I T 1) (I T 4) (B T 6)):=d;replace w:I T 14=(B9 (I T 4) (I T 13)):=w;simp only[BS,BZ,zR,w2P,wnP,zL,zS] at c i D;by_cases h:(I T 7)=0
  .have e:¬B T 8=true:=fun a=>(c.1 a) h;rw[D,BG e,<-b,BH h];have k:=EH (I T 1) (I T 4) (B T 6);rw[<-d] at k;have t:=o2' i.1 (by omega);rw[w,t,d]
  .rw[D,BH (c.2 h),<-b,BG h]
 .obtain⟨b,c,-,d,-,-,i,-,x,-⟩:=g;obtain⟨-,-,E,-⟩:=s;replace b:I T 7=(Cq (S T 0) (I T 1) (I T 2) (S T 3) (I T 4) (I T 5)):=b;replace d:I T 10=(CJ (I T 1) (I T 4) (B T 6)):=d;replace x:I T 15=(Cz (B9 (I T 4) (I T 13)) (I T 5)):=x;simp only[BS,BZ,zR,w2P,wnP,zL,zS] at c i E;by_cases h:(I T 7)=0
  .have e:¬B T 8=true:=fun a=>(c.1 a) h;rw[E,BG e,<-b,BH h];have k:=EH (I T 1) (I T 4) (B T 6);rw[<-d] at k;have t:=o2' i.1 (by omega);rw[x,t,d]
  .rw[E,BH (c.2 h),<-b,BG h]
 .obtain⟨b,c,-⟩:=g;obtain⟨-,-,-,F,-⟩:=s;replace b:I T 7=(Cq (S T 0) (I T 1) (I T 2) (S T 3) (I T 4) (I T 5)):=b;simp only[BS,BZ,zR,zL,zS] at c F;rw[F,<-b];split
  .rfl
  .rename_i e;by_cases h:(I T 7)=0
   .exact h.symm
   .exact absurd (c.2 h) e
 .obtain⟨b,c,j,d,-,-,i,-⟩:=g;replace b:I T 7=(Cq (S T 0) (I T 1) (I T 2) (S T 3) (I T 4) (I T 5)):=b;replace d:I T 10=(CJ (I T 1) (I T 4) (B T 6)):=d;simp only[BS,BZ,zR,w2P,wnP] at c j i;intro o;have l:(I T 7)=0:=by
   by_cases h:(I T 7)=0
   .exact h
   .exact absurd (c.2 h) (j.1 o)
  obtain⟨p,q,H⟩:=Uz (b.symm.trans l);rw[G9] at p q;have k:=EH (I T 1) (I T 4) (B T 6);rw[<-d] at k;have t:=o2' i.1 (by omega);omega
 .obtain⟨b,c,j,d,-⟩:=g;replace b:I T 7=(Cq (S T 0) (I T 1) (I T 2) (S T 3) (I T 4) (I T 5)):=b;replace d:I T 10=(CJ (I T 1) (I T 4) (B T 6)):=d;simp only[BS,BZ,zR] at c j;intro o;have l:(I T 7)=0:=by
   by_cases h:(I T 7)=0
   .exact h
   .exact absurd (c.2 h) (j.1 o)
  obtain⟨p,q,H⟩:=Uz (b.symm.trans l);rw[G9] at p q;have k:=EH (I T 1) (I T 4) (B T 6);rw[<-d] at k;omega
 .obtain⟨b,c,j,-⟩:=g;replace b:I T 7=(Cq (S T 0) (I T 1) (I T 2) (S T 3) (I T 4) (I T 5)):=b;simp only[BS,BZ,zR] at c j;intro o;have l:(I T 7)=0:=by
   by_cases h:(I T 7)=0
   .exact h
   .exact absurd (c.2 h) (j.1 o)
  obtain⟨p,q,H⟩:=Uz (b.symm.trans l);rw[G9] at p q;omega
theorem tD:Bl Try.prog 16 Pp:=by
 refine B7 (l:=[(57,R8),(60,Ls),(98,Ly)]) CP (by simp only[AW];exact⟨vZ,iC,ug,fun _ h=>absurd h (by simp)⟩) wG (by kernel_rfl) fun T us w b a v s t=>?_;change us.length=7 at a;obtain⟨p,-,-,q,-⟩:=s;replace p:(S T 0).size<=140737488355328:=p;replace q:(S T 3).size<=140737488355328:=q;have c:=inS (j:=0) b a (by decide);have d:=inI (j:=1) b a (by decide);have e:=inI (j:=2) b a (by decide);have g:=inS (j:=3) b a (by decide);have i:=inI (j:=4) b a (by decide);have k:=inI (j:=5) b a (by decide);have o:=inB (j:=6) b a (by decide);clear w
 skip
 obtain⟨r,u⟩:=B8 (A:=[.s,.i,.i,.s,.i,.i,.i]) (ag:=iL) v (by kernel_rfl) t;obtain⟨x,y,z,C,D,E,F,H,aB,aJ⟩:=wK p q r;refine⟨⟨H,aB,aJ,trivial⟩,u.trans ?_⟩;exact (lc (by show U.str (S T 20)= .str (OK us);unfold OK;rw[c,d,e,g,i,k];exact BI U.str x) (lc (by show U.int (I T 21)= .int (yR us);unfold yR;rw[c,d,e,g,i,k,o];exact BI U.int y) (lc (by show U.int (I T 22)= .int (OF us);unfold OF;rw[c,d,e,g,i,k,o];exact BI U.int z) (lc (by show U.str (S T 23)= .str (Oo us);unfold Oo;rw[c,d,e,g,i,k];exact BI U.str C) (lc (by show U.int (I T 24)= .int (OY us);unfold OY;rw[c,d,e,g,i,k,o];exact BI U.int D) (lc (by show U.int (I T 25)= .int (Oi us);unfold Oi;rw[c,d,e,g,i,k,o];exact BI U.int E) (lc (by show U.int (I T 26)= .int (OE us);unfold OE;rw[c,d,e,g,i,k];exact BI U.int F) rfl)))))))
def Uy:List U->Int:=fun us=>(DC (aI us 0) (aI us 1))
def SG:Bf:={ sh:=[.one (k64),.one (k64)],blks:=[],outs:=[(.s "cmpJ.0",CW Uy)],c:=(Cy 2),m':=[],pre:=[] }
def jF:List En:=[ABI 2 0 1,
 ABM 3 2,
 ABI 4 1 0,
 ABF 5 3 4,
 ABG 6 3 4,
 ⟨7,.ite .i,[.e 5,.c (.int 1),.c (.int 0)]⟩,
 ABH 8 5 6,
 ⟨9,.ite .i,[.e 2,.c (.int (-1)),.e 7]⟩,
 ABH 10 2 8]
def cC:List En:=jF
def wS:List ObE:=[]
def nJ:List Rf:=[.e 9]
theorem wt:SG.sees nJ (SG.run Try.prog [] Bp 3000 20 124)=some ((cC).map En.be,wS.map ObE.be,[]):=by kernel_rfl
theorem xO (g:BV T cC):
  ((I T 9)=(DC (I T 0) (I T 1))):=by
 have k:=g;clear g
 .obtain⟨c,h,d,e,-,i,-,j,-⟩:=k;simp only[BS,BZ,zR,zL,zS] at c h d e i j;unfold DC;rw[j,i];by_cases O:(I T 0) < I T 1
  .rw[BH (c.2 O),BH O]
  .have C:¬B T 2=true:=fun a=>O (c.1 a);rw[BG C,BG O];by_cases b:(I T 1) < I T 0
   .rw[BH (e.2 ⟨h.2 C,d.2 b⟩),BH b]
   .rw[BG (fun a=>b (d.1 (e.1 a).2)),BG b]
theorem vq:Bl Try.prog 124 SG:=by
 refine B7 (l:=[]) CP (by intro p h;exact absurd h (by simp)) wt (by kernel_rfl) fun T us q b a i d e=>?_;change us.length=2 at a;clear d;have k:=inI (j:=0) b a (by decide);have o:=inI (j:=1) b a (by decide);clear q
 skip
 obtain⟨c,g⟩:=B8 (A:=[.i]) (ag:=nJ) i (by kernel_rfl) e;have r:=xO c;refine⟨trivial,g.trans ?_⟩;exact (lc (by show U.int (I T 9)= .int (Uy us);unfold Uy;rw[k,o];exact BI U.int r) rfl)
end
section
open Go Go.Eng Go.Proofs Go.RowKit Go.Lib
def WX:List U->Int:=fun us=>(aG (aS us 0) (aS us 1))
def Ud:Bf:={ sh:=[.one (.str),.one (.str)],blks:=[],outs:=[(.s "strcmp.0",CW WX)],c:=(.i .i64 (-1) 1 2),m':=[],pre:=[] }
set_option maxHeartbeats 1000000 in
set_option maxRecDepth 100000 in
theorem pN (a b:ByteArray)(w:World):
  Calls Try.prog 141 #[.string a,.string b] w fun e aa=>e= .returned (.int .i64 (Lib.compareBytes a.data.toList b.data.toList))/\aa=w:=by
 go_enter Try.func141,Try.ntmps141
 go_wp2
 rw[run_callFunc_extern Try.func147 (by kernel_rfl) (by kernel_rfl) (by kernel_rfl) (e:=Extern.BytealgCompare.compare) (by kernel_rfl),Lib.run_compareString];simp only[Result.andThen];rw[Oper.upon_value]
 go_wp2
 go_ret
 exact⟨rfl,rfl⟩
set_option maxHeartbeats 1000000 in
theorem cQ (a b:ByteArray)(w:World):
  Calls Try.prog 129 #[.string a,.string b] w fun e aa=>e= .returned (.int .i64 (Lib.compareBytes a.data.toList b.data.toList))/\aa=w:=by
 go_enter Try.func129,Try.ntmps129
 go_wp2_with (go_at_call 141;refine (pN _ _ _).mono ?_;rintro e aa ⟨rfl,rfl⟩)
 go_ret
 exact⟨rfl,rfl⟩
theorem oP:Bl Try.prog 129 Ud:=by
 refine WF rfl rfl ⟨Try.f129,Try.func129,by kernel_rfl,by kernel_rfl⟩ fun T us k c p W w Y o=>?_;obtain⟨v,x,rfl,⟨_,s,ad,rfl,q⟩,t,y,rfl,⟨_,b,l,rfl,r⟩,rfl⟩:=o;have d:us.length=2:=k;refine (cQ s b w).mono fun e aa ⟨O,C⟩=>⟨_,O,by rw[C];exact Below.refl _ _,show 2 < 3 by decide,aG s b,?_,rfl,?_⟩
 .have g:aS us 0=s:=inS (T:=T) (us:=us) (n:=2) (j:=0) (fun j u a=>c j u (by unfold Bf.us;rw[AR (AG.1 a).1];exact a)) d (by decide) |>.trans (by unfold S;rw[show T.get 0= .str s from ad];rfl)
  have h:aS us 1=b:=inS (T:=T) (us:=us) (n:=2) (j:=1) (fun j u a=>c j u (by unfold Bf.us;rw[AR (AG.1 a).1];exact a)) d (by decide) |>.trans (by unfold S;rw[show T.get 1= .str b from l];rfl)
  have i:=c 2 (CW WX us) (by unfold Bf.us;rw[AS (by omega),d];rfl);rw[i];show U.int (aG (aS us 0) (aS us 1))=_;rw[g,h]
 .exact uq s b
end
section
open Go Go.Eng Go.Proofs
set_option maxRecDepth 1000000
def VL:List U->List (List U):=fun us=>(In)
def V3:List U->Int:=fun us=>((0:Int))
def Q9:List U->Prop:=fun us=>(aL us 0)=bZ/\(aL us 1)=bO/\(aI us 2)=0/\(aI us 3)=100
def Ks:Bf:={ sh:=[.one (.list [.str,k64,k64]),.one (.list [k64,k64,k64,.bool,.str,.str,.bool,k64,k64]),.one (k64),.one (k64)],blks:=[],outs:=[(.s "Table3.0",D1 VL),(.s "Table3.1",CW V3)],c:= .tup [.ro 4 [.str,k64,k64,k64,k64,k64],(Cy 5)],m':=[],pre:=[(.s "Table3.p0",Q9)] }
def Kk:=Ks.runC Try.prog Gy [(41,Ea),(47,Hd),(65,FQ),(124,SG),(129,Ud)] oc 3000 20 30
def Q1:ObT:=[ob "in" .inr,ob "inl" .inl,ob "between 3 3" (.btw 3 3),ob "between 0 68719476736" (.btw 0 68719476736),ob "fits 88" (.fits 88),ob "fits 56" (.fits 56),ob "fits 32" (.fits 32),ob "fits 1" (.fits 1),
 ("books.p0",.pre "books.p0" Lu,fun us=>Nat.ble (aL us 0).length 40),("checkLk.p0",.pre "checkLk.p0" LO,fun us=>decide (Bc (aL us 0)=0)),("checkPk.p0",.pre "checkPk.p0" G4,fun us=>decide (BW (aL us 0)=0))]
def Qp:List U:=[.list bZ,.list bO,.int 0,.int 100]
def NG:List U:=(evC Qp (cg Kk)).getD []
theorem qe:Ks.sees [.e 609,.e 608] Kk=some (cg Kk,((bG Q1 Kk).map (·.1)).map ObE.be,[]):=by kernel_rfl
theorem sy:evC Qp (cg Kk)=some NG:=by kernel_rfl
theorem rd:(bG Q1 Kk).all (mj NG)=true:=by kernel_rfl
theorem rL:([.e 609,.e 608]:List Rf).all (rfC NG.length)=true:=by kernel_rfl
theorem qk:([.e 609,.e 608]:List Rf).map (Rf.eval (XQ NG))=Ks.outs.map fun o=>o.2 Qp:=by kernel_rfl
theorem pC:Bl Try.prog 30 Ks:=
 fK (E:=GN Try.prog (XB Try.prog Gy [(41,Ea),(47,Hd),(65,FQ),(124,SG),(129,Ud)]) oc 3000 20)
  (fun T=>Ht CP (Xm FU (by simp only[AW];exact⟨Jk,RF,U8,vq,oP,fun _ h=>absurd h (by simp)⟩)) 20 T) Q1 Qp NG rfl
  (by
   simp only[Q1,AW];exact⟨OQ,OQ,OQ,OQ,OQ,OQ,OQ,OQ,fun _ h=>Aa h,fun us h=>show Bc (aL us 0)=0 from of_decide_eq_true h,fun us h=>show BW (aL us 0)=0 from of_decide_eq_true h,fun _ h=>absurd h (by simp)⟩)
  qe (by kernel_rfl)
  (fun T us r e q l=>by
   have h:=r (.s "Table3.p0",Q9) (Al.2 rfl);have g:T.get 0=uV T .l 0:=Kb l (by kernel_rfl);have i:T.get 1=uV T .l 1:=Kb l (by kernel_rfl);have j:T.get 2=uV T .i 2:=Kb l (by kernel_rfl);have k:T.get 3=uV T .i 3:=Kb l (by kernel_rfl);replace q:us.length=4:=q
   match us,q,e,h with
   |[a,b,c,d],_,e,⟨o,O,C,p⟩=>
    have s:T.get 0=a:=e 0 a rfl;have t:T.get 1=b:=e 1 b rfl;have u:T.get 2=c:=e 2 c rfl;have v:T.get 3=d:=e 3 d rfl;replace g:T.get 0= .list (T.get 0).toL:=g;replace i:T.get 1= .list (T.get 1).toL:=i;replace j:T.get 2= .int (T.get 2).toI:=j;replace k:T.get 3= .int (T.get 3).toI:=k;rw[s] at g;rw[t] at i;rw[u] at j;rw[v] at k;replace o:a.toL=bZ:=o;replace O:b.toL=bO:=O;replace C:c.toI=0:=C;replace p:d.toI=100:=p;rw[o] at g;rw[O] at i;rw[C] at j;rw[p] at k;rw[g,i,j,k];rfl)
  sy rd rL qk
end
section
open Go Go.Eng Go.Proofs
set_option maxHeartbeats 4000000
set_option maxRecDepth 100000
def KO:List U->Bool:=fun us=>(true)
def Ny:Bf:={ sh:=[],blks:=[],outs:=[(.s "works3.0",Jx KO)],c:= .b 0,m':=[],pre:=[] }
def dM:List En:=[⟨0,.row 3 3 [.s,.i,.i,.s,.i,.i,.s,.i,.i],[.c (.str ⟨#[97,110,110]⟩),.c (.int 2000),.c (.int 0),.c (.str ⟨#[98,111,98]⟩),.c (.int 1500),.c (.int 10),.c (.str ⟨#[99,97,116]⟩),.c (.int 1000),.c (.int 20)]⟩,
 ⟨1,.id .i,[.c (.int 1)]⟩,
 ABZ 2 0 1,
 ABJ 3 0 1,
 ABK 4 0 1,
 ⟨5,.id .i,[.c (.int 0)]⟩,
 ABZ 6 0 5,
 ABJ 7 0 5,
 ABK 8 0 5,
 ⟨9,.outS "Count.0" OK,[.e 2,.e 3,.e 4,.e 6,.e 7,.e 8,.c (.bool true)]⟩,
 ⟨10,.outI "Count.1" yR,[.e 2,.e 3,.e 4,.e 6,.e 7,.e 8,.c (.bool true)]⟩,
 ⟨11,.outI "Count.2" OF,[.e 2,.e 3,.e 4,.e 6,.e 7,.e 8,.c (.bool true)]⟩,
 ⟨12,.outS "Count.3" Oo,[.e 2,.e 3,.e 4,.e 6,.e 7,.e 8,.c (.bool true)]⟩,
 ⟨13,.outI "Count.4" OY,[.e 2,.e 3,.e 4,.e 6,.e 7,.e 8,.c (.bool true)]⟩,
 ⟨14,.outI "Count.5" Oi,[.e 2,.e 3,.e 4,.e 6,.e 7,.e 8,.c (.bool true)]⟩,
 ⟨15,.outI "Count.6" OE,[.e 2,.e 3,.e 4,.e 6,.e 7,.e 8,.c (.bool true)]⟩]
def dJ:List En:=[⟨16,.row 3 9 [.i,.i,.i,.b,.s,.s,.b,.i,.i,.i,.i,.i,.b,.s,.s,.b,.i,.i,.i,.i,.i,.b,.s,.s,.b,.i,.i],[.c (.int 1),.c (.int 0),.c (.int 5),.c (.bool false),.c (.str ⟨#[97,110,110]⟩),.c (.str ⟨#[98,111,98]⟩),.c (.bool true),.c (.int 26),.c (.int 20),.c (.int 2),.c (.int 0),.c (.int 6),.c (.bool false),.c (.str ⟨#[98,111,98]⟩),.c (.str ⟨#[99,97,116]⟩),.c (.bool true),.c (.int 26),.c (.int 3),.c (.int 3),.c (.int 0),.c (.int 7),.c (.bool false),.c (.str ⟨#[99,97,116]⟩),.c (.str ⟨#[97,110,110]⟩),.c (.bool true),.c (.int 26),.c (.int 25)]⟩,
 ⟨17,.outL "Table3.0" VL,[.e 0,.e 16,.c (.int 0),.c (.int 100)]⟩,
 ⟨18,.outI "Table3.1" V3,[.e 0,.e 16,.c (.int 0),.c (.int 100)]⟩,
 ABX 19 15 18,
 ⟨20,.eq,[.e 19,.c (.int 0)]⟩,
 ABY 21 20,
 ⟨22,.eqs [.s,.i,.i],[.e 9,.c (.str ⟨#[98,111,98]⟩),.e 10,.c (.int 1514),.e 11,.c (.int 10)]⟩,
 ABF 23 20 22,
 ABY 24 23,
 ⟨25,.eqs [.s,.i,.i],[.e 12,.c (.str ⟨#[97,110,110]⟩),.e 13,.c (.int 1986),.e 14,.c (.int 0)]⟩,
 ABF 26 23 25,
 ABY 27 26,
 ABL 28 17,
 ⟨29,.eq,[.e 28,.c (.int 3)]⟩,
 ABF 30 26 29,
 ABY 31 30]
def dy:List En:=[⟨32,.id .i,[.c (.int 0)]⟩,
 ABZ 33 17 32,
 ABJ 34 17 32,
 ABK 35 17 32,
 ⟨36,.get .i 3,[.e 17,.e 32]⟩,
 ⟨37,.get .i 4,[.e 17,.e 32]⟩,
 ⟨38,.get .i 5,[.e 17,.e 32]⟩,
 ⟨39,.eqs [.s,.i,.i,.i,.i,.i],[.e 33,.c (.str ⟨#[98,111,98]⟩),.e 34,.c (.int 1),.e 35,.c (.int 1),.e 36,.c (.int 1),.e 37,.c (.int 17),.e 38,.c (.int 1)]⟩,
 ABF 40 30 39]
def VZ:List En:=dM++(dJ++(dy))
def sN:List ObE:=[⟨some 31,.inl,[.c (.int 0),.e 17]⟩,
 ⟨none,.pre "Table3.p0" Q9,[.e 0,.e 16,.c (.int 0),.c (.int 100)]⟩,
 ⟨none,.inl,[.c (.int 0),.e 0]⟩,
 ⟨none,.inl,[.c (.int 1),.e 0]⟩]
def df:List Rf:=[.e 40]
theorem tF:Ny.sees df (Ny.run Try.prog [(16,Pp),(30,Ks)] Bp 3000 20 15)=some ((VZ).map En.be,sN.map ObE.be,[]):=by kernel_rfl
theorem sv {T:Tab}(c:BV T VZ):
  ((B T 40)=(true))/\
  (B T 31=true->0<=(0:Int)/\(0:Int) < ((L T 17)).length)/\
  ((L T 0)=bZ/\L T 16=bO/\(0:Int)=0/\(100:Int)=100)/\
  (0<=(0:Int)/\(0:Int) < ((L T 0)).length)/\
  (0<=(1:Int)/\(1:Int) < ((L T 0)).length):=by
 obtain⟨s,c⟩:=c.cut;obtain⟨t,c⟩:=c.cut;have F2:=c;clear c;have aw:((S T 2)=UK/\I T 3=1500/\I T 4=10)/\S T 6=Xk/\I T 7=2000/\I T 8=0:=by
  obtain⟨a,l,E,P,X,p,Z,e7,e8,-⟩:=s;simp only[BS,BZ,zR,zL,zS,uR,Cp,zW] at a l E P X p Z e7 e8;refine⟨⟨?_,?_,?_⟩,?_,?_,?_⟩
  .rw[E,l,a];rfl
  .rw[P,l,a];rfl
  .rw[X,l,a];rfl
  .rw[Z,p,a];rfl
  .rw[e7,p,a];rfl
  .rw[e8,p,a];rfl
 have r:(L T 0)=bZ/\L T 16=bO:=by
  obtain⟨a,-⟩:=s;obtain⟨C,-⟩:=t;simp only[BS,zC,zR,zL,zS,uR,Cp,zW] at a C;exact⟨by rw[a];rfl,by rw[C];rfl⟩
 refine⟨?_,?_,?_,?_,?_⟩
 .obtain⟨-,-,-,-,-,-,-,-,-,k,e,g,h,i,j,o,-⟩:=s;obtain⟨-,b,u,D,F,-,H,J,-,K,M,-,N,O,Q,-⟩:=t;obtain⟨V,v,w,x,y,z,A,W,Y,-⟩:=F2;replace k:S T 9=(if Cq (S T 2) (I T 3) (I T 4) (S T 6) (I T 7) (I T 8)=0 then (S T 2) else (⟨#[]⟩:ByteArray)):=k;replace e:I T 10=(if Cq (S T 2) (I T 3) (I T 4) (S T 6) (I T 7) (I T 8)=0 then B9 (I T 3) (CJ (I T 3) (I T 7) true) else 0):=e;replace g:I T 11=(if Cq (S T 2) (I T 3) (I T 4) (S T 6) (I T 7) (I T 8)=0 then Cz (B9 (I T 3) (CJ (I T 3) (I T 7) true)) (I T 4) else 0):=g;replace h:S T 12=(if Cq (S T 2) (I T 3) (I T 4) (S T 6) (I T 7) (I T 8)=0 then (S T 6) else (⟨#[]⟩:ByteArray)):=h;replace i:I T 13=(if Cq (S T 2) (I T 3) (I T 4) (S T 6) (I T 7) (I T 8)=0 then B9 (I T 7) (-(CJ (I T 3) (I T 7) true)) else 0):=i;replace j:I T 14=(if Cq (S T 2) (I T 3) (I T 4) (S T 6) (I T 7) (I T 8)=0 then Cz (B9 (I T 7) (-(CJ (I T 3) (I T 7) true))) (I T 8) else 0):=j;replace o:I T 15=(Cq (S T 2) (I T 3) (I T 4) (S T 6) (I T 7) (I T 8)):=o;replace b:L T 17=(In):=b;replace u:I T 18=((0:Int)):=u;simp only[BS,BZ,zR,Dw,and_true,w2P,zL,zS] at D F H J K M N O Q V v w x y z A W Y;obtain⟨⟨q2,q3,q4⟩,q6,q7,q8⟩:=aw;obtain⟨d,q⟩:=r;rw[q2,q3,q4,q6,q7,q8] at k e g h i j o;rw[BH gb] at k e g h i j;have ag:(L T 17)=In:=b;have bl:(I T 18)=0:=u;have bi:(I T 15)=0:=o.trans gb;have bc:=o2' D (by omega);have an:=F.2 (by omega);have ao:=H.2 ⟨k,e.trans ex_i,g.trans ex_g⟩;have ax:=K.2 ⟨h,i.trans ex_j,j.trans ex_h⟩;have a0:(I T 28)=3:=by rw[N,ag,nF];rfl
  have a1:=Q.2 ⟨M.2 ⟨J.2 ⟨an,ao⟩,ax⟩,O.2 a0⟩;rw[ag,V] at v w x y z A;obtain⟨r0,aB,aJ,r3,r4,r5⟩:=wR;exact Y.2 ⟨a1,W.2 ⟨v.trans r0,w.trans aB,x.trans aJ,y.trans r3,z.trans r4,A.trans r5⟩⟩
 .obtain⟨-,b,-⟩:=t;replace b:L T 17=(In):=b;intro _;rw[show (L T 17)=In from b,nF];decide
 .obtain⟨d,q⟩:=r;exact⟨d,q,rfl,rfl⟩
 .obtain⟨d,q⟩:=r;rw[d];decide
 .obtain⟨d,q⟩:=r;rw[d];decide
theorem pA:Bl Try.prog 15 Ny:=by
 refine B7 (l:=[(16,Pp),(30,Ks)]) CP (by simp only[AW];exact⟨tD,pC,fun _ h=>absurd h (by simp)⟩) tF (by kernel_rfl) fun T us g p i e b c=>?_;change us.length=0 at i;clear b;clear g
 skip
 obtain⟨a,d⟩:=B8 (A:=[.b]) (ag:=df) e (by kernel_rfl) c;obtain⟨j,k,aB,aJ,o⟩:=sv a;refine⟨⟨k,(fun _=>aB),(fun _=>aJ),(fun _=>o),trivial⟩,d.trans ?_⟩;exact (lc (by show U.bool (B T 40)= .bool (KO us);unfold KO;exact BI U.bool j) rfl)
def yV:List Kd:=[.list [.str,k64,k64],.list [k64,k64,k64,.bool,.str,.str,.bool,k64,k64],.int .u8 (0) (255)]
def yq:List AC:=((MC Try.prog 9 Try.f10.params.toList 0).map (·.1)).getD []
abbrev nd (T:Tab)(a:Int)(b:Int):Prop:=0<=a/\a<=((L T 21)).length/\b=upK (yW (L T 0) (Bq (L T 0) (I T 15).toNat 0)) (L T 21) a.toNat 0
def yx:List En:=[⟨3,.outB "long.0" Q8,[.e 0,.e 1,.c (.int 30)]⟩,
 ABM 4 3,
 ABL 5 1,
 ⟨6,.lt,[.c (.int 30),.e 5]⟩,
 ABH 7 3 6,
 ABM 8 7,
 ABL 9 0,
 ⟨10,.eq,[.e 9,.c (.int 0)]⟩,
 ABH 11 7 10,
 ⟨12,.outB "works3.0" KO,[]⟩,
 ABM 13 11,
 ABL 14 0,
 ⟨15,.o2 .tmod,[.e 2,.e 14]⟩,
 ABZ 16 0 15,
 ⟨17,.outL "History.0" Dg,[.e 0,.e 1,.e 16]⟩,
 ⟨18,.outI "History.1" Dh,[.e 0,.e 1,.e 16]⟩]
def yz:List En:=[⟨19,.outL "Settle.0" Dt,[.e 0,.e 1]⟩,
 ⟨20,.outI "Settle.1" Dz,[.e 0,.e 1]⟩,
 ⟨21,.outL "Books.0" yg,[.e 1]⟩,
 ⟨22,.outI "Books.1" yf,[.e 1]⟩,
 ⟨23,.ne,[.e 18,.c (.int 0)]⟩,
 ABG 24 13 23,
 ⟨25,.ne,[.e 20,.c (.int 0)]⟩,
 ABH 26 23 25,
 ABG 27 13 26,
 ⟨28,.ne,[.e 22,.c (.int 0)]⟩,
 ABH 29 26 28,
 ABF 30 13 29,
 ABL 31 17,
 ⟨32,.eq,[.e 31,.c (.int 0)]⟩,
 ABF 33 30 32,
 ⟨34,.outB "works3.0" KO,[]⟩]
def yy:List En:=[ABF 35 32 34,
 ABG 36 13 29]
def r9:List En:=yx++(yz++(yy))
def zA:List En:=[ABL 39 21,
 ABI 40 37 39,
 ABF 41 36 40,
 ABG 42 36 40,
 ABO 43 21 37,
 ⟨44,.outB "one.0" yi,[.e 0,.e 43]⟩,
 ABF 45 41 44,
 ABF 46 41 44,
 ABF 47 41 44,
 ABP 48 21 37,
 ⟨49,.outB "one.0" yi,[.e 0,.e 48]⟩,
 ABF 50 44 49,
 ABF 51 41 50,
 ABF 52 41 50,
 ABO 53 21 37,
 ABF 54 41 50]
def zF:List En:=[ABF 55 41 50,
 ABZ 56 0 15,
 ⟨57,.eqs [.s],[.e 53,.e 56]⟩,
 ABG 58 55 57,
 ABG 59 55 57,
 ABP 60 21 37,
 ABG 61 55 57,
 ABG 62 55 57,
 ABZ 63 0 15,
 ⟨64,.eqs [.s],[.e 60,.e 63]⟩,
 ABH 65 57 64,
 ABF 66 50 65,
 ABF 67 41 66,
 ⟨68,.w2 .i64 .add,[.e 38,.c (.int 1)]⟩,
 ABG 69 41 66,
 ABU 70 66 68 38]
def zG:List En:=[⟨71,.w2 .i64 .add,[.e 37,.c (.int 1)]⟩]
def ek:List En:=zA++(zF++(zG))
def yk:List ObE:=[⟨some 62,.inl,[.e 15,.e 0]⟩,⟨some 59,.inl,[.e 37,.e 21]⟩,⟨some 55,.inl,[.e 15,.e 0]⟩,⟨some 52,.inl,[.e 37,.e 21]⟩,⟨some 47,.inl,[.e 37,.e 21]⟩,⟨some 41,.inl,[.e 37,.e 21]⟩]
def yS:Bs:=mkD 37 2 ek 41 [.e 71,.e 70] yk [0,15,21,36]
def yY:List Rf:=[.e 0,.e 15,.e 21,.e 36,.c (.int 0),.c (.int 0)]
def yu:List En:=[ABL 72 19,
 ABL 73 0,
 ⟨74,.ne,[.e 72,.e 73]⟩,
 ABG 75 42 74,
 ABL 76 17,
 ABG 77 42 74,
 ⟨78,.w2 .i64 .add,[.e 38,.c (.int 1)]⟩,
 ⟨79,.ne,[.e 76,.e 78]⟩,
 ABH 80 74 79,
 ABG 81 42 80,
 ⟨82,.id .i,[.c (.int 0)]⟩,
 ABN 83 17 82,
 ABG 84 42 80,
 ABG 85 42 80,
 ABJ 86 0 15,
 ⟨87,.ne,[.e 83,.e 86]⟩]
def zE:List En:=[ABH 88 80 87,
 ABG 89 42 88,
 ABG 90 42 88,
 ABN 91 17 38,
 ABG 92 42 88,
 ABG 93 42 88,
 ABJ 94 19 15,
 ⟨95,.ne,[.e 91,.e 94]⟩,
 ABH 96 88 95,
 ABF 97 42 96,
 ABG 98 42 96]
def yT:List En:=yu++(zE)
def yw:List En:=[ABL 100 17,
 ABI 101 99 100,
 ABF 102 98 101,
 ABG 103 98 101,
 ABN 104 17 99,
 ⟨105,.w2 .i64 .sub,[.e 99,.c (.int 1)]⟩,
 ABN 106 17 105,
 ABV 107 104 106,
 ⟨108,.w2 .i64 .sub,[.e 99,.c (.int 1)]⟩,
 ABN 109 17 108,
 ABN 110 17 99,
 ABV 111 109 110,
 ⟨112,.o2 .max,[.e 107,.e 111]⟩,
 ⟨113,.lt,[.c (.int 19),.e 112]⟩,
 ABF 114 102 113,
 ABG 115 102 113]
def zB:List En:=[⟨116,.w2 .i64 .add,[.e 99,.c (.int 1)]⟩]
def f9:List En:=yw++(zB)
def ym:List ObE:=[⟨some 102,.inl,[.e 99,.e 17]⟩,⟨some 102,.inl,[.e 108,.e 17]⟩,⟨some 102,.inl,[.e 105,.e 17]⟩,⟨some 102,.inl,[.e 99,.e 17]⟩]
def yU:Bs:=mkD 99 1 f9 115 [.e 116] ym [17,98]
def yX:List Rf:=[.e 17,.e 98,.c (.int 1)]
def yv:List En:=[⟨117,.outB "works3.0" KO,[]⟩,
 ⟨118,.ite .b,[.e 114,.c (.bool false),.e 117]⟩,
 ABH 119 114 103,
 ⟨120,.ite .b,[.e 97,.c (.bool false),.e 118]⟩,
 ABH 121 97 119,
 ⟨122,.ite .b,[.e 30,.e 35,.e 120]⟩,
 ABH 123 30 121,
 ⟨124,.ite .b,[.e 11,.e 12,.e 122]⟩,
 ABH 125 11 123]
def ye:List En:=yv
def yr:List ObE:=[⟨some 98,.owes yU,[.e 17,.e 98,.c (.int 1)]⟩,
 ⟨some 93,.inl,[.e 15,.e 19]⟩,
 ⟨some 90,.inl,[.e 38,.e 17]⟩,
 ⟨some 85,.inl,[.e 15,.e 0]⟩,
 ⟨some 81,.inl,[.c (.int 0),.e 17]⟩,
 ⟨some 36,.owes yS,[.e 0,.e 15,.e 21,.e 36,.c (.int 0),.c (.int 0)]⟩,
 ⟨some 13,.pre "Books.p0" yb,[.e 1]⟩,
 ⟨some 13,.pre "Settle.p0" Vg,[.e 0,.e 1]⟩,
 ⟨some 13,.pre "History.p0" Th,[.e 0,.e 1,.e 16]⟩,
 ⟨some 13,.inl,[.e 15,.e 0]⟩,
 ⟨some 13,.nez,[.e 14]⟩]
def zd:List Rf:=[.e 124]
end
end Go.Eng
end
