/-
  A part of the proof: the evaluator of code and its soundness.
-/
import Derived.Test.YtikbgnmcfncnaaaKB5
import Derived.Test.YtikbgnmcfncnaaaE4
import Derived.Test.YtikbgnmcfncnaaaE5
import Derived.Test.YtikbgnmcfncnaaaKB3
import Derived.Test.YtikbgnmcfncnaaaKB0
import Derived.Test.YtikbgnmcfncnaaaKB4
set_option linter.unusedVariables false
set_option linter.unusedSimpArgs false
noncomputable section
namespace Go.Eng
section
open Go Go.Eng Go.Proofs
set_option maxHeartbeats 4000000
set_option maxRecDepth 100000
theorem vF:HF.sees gf (HF.runC Try.prog Gy [(41,Ea),(47,Hd),(65,FQ),(58,Gb)] NZ 3000 20 39)=some ((GS++((B5 OI [.i,.l] Rw)++(Eb++(JI++((B5 OL [.i,.l] SP)++(FW++(Oj++((B5 OJ [.i,.l,.l] SI)++(Hh++(Yl)))))))))).map En.be,wI.map ObE.be,[]):=by kernel_rfl
abbrev aai(T:Tab):Prop:=(L T 0).length<=140737488355328
abbrev aaj(T:Tab):Prop:=(L T 1).length<=140737488355328
abbrev aak(T:Tab):Prop:=(S T 2).size<=140737488355328
abbrev aal(T:Tab):Prop:=BW (L T 0)=0/\Bc (L T 1)=0/\((L T 1)).length<=40
variable{T:Tab}
theorem mg (k:aai T)(j:∀u∈(L T 0),Bb BT KP u)(l:aaj T)(o:aak T)(i:aal T)(a:BV T GS):
  ((I T 10)=((L T 0)).length)/\((L T 9)=[])/\(((L T 0)).length<=24):=by
 have b:=a;clear a;have g:(I T 10)=((L T 0)).length:=by
  obtain⟨-,-,-,-,-,-,-,c,-⟩:=b;simp only[BS,zR,zL] at c;exact c
 have h:(L T 9)=[]:=by
  obtain⟨-,-,-,-,-,-,d,-⟩:=b;simp only[BS,zR,zL,zS] at d;exact d
 have e:((L T 0)).length<=24:=by
  exact (Nm i.1).2.2
 exact⟨g,h,e⟩
abbrev aam(T:Tab):Prop:=(I T 10)=((L T 0)).length
theorem pv (Q:aal T)(N:aam T)(w:(L T 9)=[])(M:((L T 0)).length<=24)(l:Ba T (Bh (CA 0 HF.ks) GS))(i:Bi T (Eb.map En.be))(j:Bi T ((B5 OI [.i,.l] Rw).map En.be)):
  (OI).owes (Rw.map (Rf.eval T))/\Ba T (hds 11 [.i,.l])/\(GW T (I T 11) (L T 12))/\¬B T 13=true:=by
 refine CK (nh:=11) (k:=2) (pcn:=13) (R:=20) (b:=Eb) (K:=YT) (nxt:=[.e 19,.e 18]) (H:=[.c (.int 0),.e 9]) (fv:=[0,10]) (A:=[.i,.l]) (by kernel_rfl) rfl rfl rfl rfl l (by kernel_rfl) (by kernel_rfl) i (B6 j) (fun s=>GW T (aI s 0) (aL s 1)) (fun s=>(((L T 0)).length - (aI s 0)).toNat) ?_ ?_
 .show GW T (0:Int) (L T 9);clear l i j;exact⟨by omega,by omega,by rw[show (0:Int).toNat=0 from rfl];exact w⟩
 .intro J o g h;replace h:GW T (I J 11) (L J 12):=h;clear l i j;replace g:BV J Eb:=g;have d:=g;clear g;have u:=fvL (o 0 (by decide));have r:=fvI (o 10 (by decide));clear o
  suffices x:(B J 13=true->(((L J 12)).length+(([[]]:List (List U))).length)*1<=140737488355328)/\(B J 13=true->0<=I J 11/\I J 11 < ((L J 0)).length)/\(B J 13=true->(GW T (I J 19) (L J 18)))/\(B J 13=true->(((L T 0)).length - (I J 19)).toNat < (((L T 0)).length - (I J 11)).toNat) from
   let⟨C,ay,z,y⟩:=x;⟨⟨C,ay,trivial⟩,fun c=>⟨z c,y c⟩⟩
  refine⟨?_,?_,?_,?_⟩
  .obtain⟨a,-⟩:=d;simp only[BS,zR] at a;obtain⟨D,E,t⟩:=h;intro c;rw[r] at a;have v:=a.1 c;have O:=iE (P:=L T 0) (I J 11).toNat;grind
  .obtain⟨a,-⟩:=d;simp only[BS,zR] at a;grind
  .obtain⟨a,-,p,-,-,q,e,-⟩:=d;simp only[BS,zR,w2P,zL,zS,uR,zW,BZ,zC] at a p q e;obtain⟨D,E,t⟩:=h;intro c;rw[r] at a;have v:=a.1 c;have F:=o2' e (by omega);refine⟨by omega,by omega,?_⟩;rw[F,show ((I J 11)+1).toNat=(I J 11).toNat+1 by omega,q,p,t,u];show _=MG _ _ _;unfold MG;grind
  .obtain⟨a,-,-,-,-,-,e,-⟩:=d;simp only[BS,zR,w2P] at a e;grind
theorem lU (K:aai T)(J:∀u∈(L T 0),Bb BT KP u)(M:aaj T)(N:aak T)(t:aal T)(y:aam T)(H:(L T 9)=[])(w:((L T 0)).length<=24)(r:GW T (I T 11) (L T 12))(s:¬B T 13=true)(c:BV T GS)(e:BV T Eb)(d:BV T JI):
  ((I T 21)=((L T 20)).length)/\((L T 22)=[])/\((L T 20)=CH ((L T 1)))/\(((L T 20)).length<=40)/\((L T 12)=CE ((L T 0)))/\((B T 14)=true)/\((L T 7)=L T 0):=by
 have p:=c;clear c;have g:=e;clear e;have b:=d;clear d;have D:(I T 21)=((L T 20)).length:=by
  obtain⟨-,j,-⟩:=b;simp only[BS,zR,zL] at j;exact j
 have E:(L T 22)=[]:=by
  obtain⟨-,-,k,-⟩:=b;simp only[BS,zR,zL,zS] at k;exact k
 have C:(L T 20)=CH ((L T 1)):=by
  obtain⟨a,-⟩:=b;replace a:L T 20=(CH (L T 1)):=a;exact a
 have x:((L T 20)).length<=40:=by
  obtain⟨a,-⟩:=b;replace a:L T 20=(CH (L T 1)):=a;rw[a];exact AV Jg t.2.2
 have z:(L T 12)=CE ((L T 0)):=by
  obtain⟨i,-⟩:=g;simp only[BS,zR] at i;obtain⟨P,Q,v⟩:=r;have O:¬I T 11 < I T 10:=fun h=>s (i.2 h);rw[v,show (I T 11).toNat=((L T 0)).length by omega];rfl
 have A:(B T 14)=true:=by
  obtain⟨-,q,-⟩:=g;simp only[BS,BZ,zR] at q;grind
 have F:(L T 7)=L T 0:=by
  obtain⟨-,-,l,-,o,-⟩:=p;simp only[BS,BZ,zR,zL,zS] at l o;rw[o,l];rfl
 grind
abbrev aan(T:Tab):Prop:=(I T 21)=((L T 20)).length
theorem ow (a4:aan T)(ag:(L T 22)=[])(a3:((L T 20)).length<=40)(N:Ba T (Bh (Bh (hds 11 [.i,.l]++(Bh (CA 0 HF.ks) GS)) Eb) JI))(E:Bi T (FW.map En.be))(F:Bi T ((B5 OL [.i,.l] SP).map En.be)):
  (OL).owes (SP.map (Rf.eval T))/\Ba T (hds 23 [.i,.l])/\(Hr T (I T 23) (L T 24))/\¬B T 26=true:=by
 refine CK (nh:=23) (k:=2) (pcn:=26) (R:=50) (b:=FW) (K:=YN) (nxt:=[.e 49,.e 48]) (H:=[.c (.int 0),.e 22]) (fv:=[12,20,14,21]) (A:=[.i,.l]) (by kernel_rfl) rfl rfl rfl rfl N (by kernel_rfl) (by kernel_rfl) E (B6 F) (fun s=>Hr T (aI s 0) (aL s 1)) (fun s=>(((L T 20)).length - (aI s 0)).toNat) ?_ ?_
 .show Hr T (0:Int) (L T 22);clear N E F;exact⟨by omega,by omega,by rw[show (0:Int).toNat=0 from rfl];exact ag⟩
 .intro J g d r;replace r:Hr T (I J 23) (L J 24):=r;clear N E F;replace d:BV J FW:=d;obtain⟨h,d⟩:=d.cut;have t:=d;clear d;have ab:=fvL (g 12 (by decide));have ad:=fvL (g 20 (by decide));have a2:=fvB (g 14 (by decide));have W:=fvI (g 21 (by decide));clear g
  suffices hz:(B J 43=true->(((L J 24)).length+((L J 44)).length)*88<=140737488355328)/\(B J 26=true->0<=I J 23/\I J 23 < ((L J 20)).length)/\(B J 26=true->(Hr T (I J 49) (L J 48)))/\(B J 26=true->(((L T 20)).length - (I J 49)).toNat < (((L T 20)).length - (I J 23)).toNat) from
   let⟨r0,ay,nx,mz⟩:=hz;⟨⟨r0,ay,trivial⟩,fun e=>⟨nx e,mz e⟩⟩
  refine⟨?_,?_,?_,?_⟩
  .obtain⟨a,c,-⟩:=h;obtain⟨-,-,P,p,-⟩:=t;simp only[BS,BZ,zR,zL,zS,uR,Cp,zW] at a c P p;obtain⟨v1,v2,Z⟩:=r;intro e;have D:=a.1 (c.1 (P.1 e).1).2;rw[W] at D;have hl:=On (M:=L T 12) (B:=L T 20) (I J 23).toNat;grind
  .obtain⟨a,c,-⟩:=h;simp only[BS,BZ,zR] at a c;grind
  .obtain⟨a,c,-,u,v,w,x,i,j,y,z,C,-,l,-,o,-⟩:=h;obtain⟨-,O,-,p,Q,-,-,V,q,-⟩:=t;simp only[BS,BZ,zR,w2P,zL,zS,uR,Cp,zW,zC] at a c u v w x i j y z C l o O p Q V q;obtain⟨v1,v2,Z⟩:=r;intro e;have D:=a.1 (c.1 e).2;rw[W] at D;have a1:=o2' q (by omega);refine⟨by omega,by omega,?_⟩;rw[a1,show ((I J 23)+1).toNat=(I J 23).toNat+1 by omega];refine Eq.trans ?_ (BI (C9 ((L T 12)) ((L T 20)) (I J 23).toNat) Z);unfold C9 MK;rw[ad] at u v w x i j y z C;rw[ab] at l o;rw[i] at l;rw[j] at o;by_cases Y:(B J 42)=true
   .have X:=O.1 Y;rw[V,BH Y,BH ⟨l.1 X.1,o.1 X.2⟩,Q,p,u,v,w,x,i,j,y,z,C];rfl
   .grind
  .obtain⟨a,c,-⟩:=h;obtain⟨-,-,-,-,-,-,-,-,q,-⟩:=t;simp only[BS,BZ,zR,w2P] at a c q;grind
theorem kB (a6:aai T)(a4:∀u∈(L T 0),Bb BT KP u)(a7:aaj T)(a8:aak T)(Y:aal T)(al:aam T)(h9:(L T 9)=[])(ad:((L T 0)).length<=24)(a9:GW T (I T 11) (L T 12))(O:¬B T 13=true)(ax:aan T)(H:(L T 22)=[])(aw:(L T 20)=CH ((L T 1)))(ag:((L T 20)).length<=40)(an:(L T 12)=CE ((L T 0)))(ao:(B T 14)=true)(h7:(L T 7)=L T 0)(N:Hr T (I T 23) (L T 24))(P:¬B T 26=true)(d:BV T GS)(i:BV T Eb)(e:BV T JI)(a:BV T FW)(g:BV T Oj):
  ((L T 12)=CE (L T 0)/\L T 7=L T 0/\I T 8=((L T 0)).length/\I T 55=((L T 24)).length)/\((L T 24)=Fg (CE (L T 0)) (CH (L T 1)))/\(DD (L T 0)/\OkR (L T 0)/\((L T 0)).length<=24/\((L T 24)).length<=40/\∀u∈(L T 24),MX (L T 0) u)/\(((B T 51)=true↔Bv (L T 0) (S T 2) < ((L T 0)).length)/\I T 50=Fs (CE (L T 0)) (S T 2)/\((L T 54)).length=1):=by
 have v:=d;clear d;have j:=i;clear i;have w:=e;clear e;obtain⟨x,a⟩:=a.cut;have F4:=a;clear a;have k:=g;clear g;have c:(L T 12)=CE (L T 0)/\L T 7=L T 0/\I T 8=((L T 0)).length/\I T 55=((L T 24)).length:=by
  obtain⟨-,-,A,-,D,E,-,y,-⟩:=v;obtain⟨z,-⟩:=j;obtain⟨-,-,-,-,-,C,-⟩:=k;simp only[BS,BZ,zR,zL,zS] at A D E y z C;grind
 have K:(L T 24)=Fg (CE (L T 0)) (CH (L T 1)):=by
  obtain⟨-,l,-⟩:=j;obtain⟨b,o,-⟩:=w;obtain⟨p,q,-⟩:=x;replace b:L T 20=(CH (L T 1)):=b;simp only[BS,BZ,zR,zL] at l o p q;obtain⟨v1,v2,Z⟩:=N;have F:=l.2 (by simpa using O);have ba:¬I T 23 < I T 21:=fun h=>P (q.2 ⟨F,p.2 h⟩);have H:=o;rw[Z,show (I T 23).toNat=((L T 20)).length by omega,c.1,b];rfl
 have J:DD (L T 0)/\OkR (L T 0)/\((L T 0)).length<=24/\((L T 24)).length<=40/\∀u∈(L T 24),MX (L T 0) u:=by
  obtain⟨W,X,p3⟩:=Y;obtain⟨Q,o2,V⟩:=Nm W;have hl:=On (M:=CE (L T 0)) (B:=CH (L T 1)) (CH (L T 1)).length;have hb:=Jg (L:=L T 1);rw[K];exact⟨o2,Q,V,by unfold Fg;omega,Mo o2 (UN X) _ (AE _)⟩
 have hN:((B T 51)=true↔Bv (L T 0) (S T 2) < ((L T 0)).length)/\I T 50=Fs (CE (L T 0)) (S T 2)/\((L T 54)).length=1:=by
  obtain⟨r,s,-,-,t,-⟩:=k;simp only[BS,BZ,zR,zL,zS,uR,Cp,zW,zC] at r s t;refine⟨?_,?_,?_⟩
  .refine Iff.trans ?_ (GB J.1);rw[s,c.1];exact Iff.rfl
  .rw[r,c.1];rfl
  .rw[t];rfl
 grind
abbrev aao(T:Tab):Prop:=(L T 12)=CE (L T 0)/\L T 7=L T 0/\I T 8=((L T 0)).length/\I T 55=((L T 24)).length
abbrev aap(T:Tab):Prop:=DD (L T 0)/\OkR (L T 0)/\((L T 0)).length<=24/\((L T 24)).length<=40/\∀u∈(L T 24),MX (L T 0) u
abbrev aaq(T:Tab):Prop:=((B T 51)=true↔Bv (L T 0) (S T 2) < ((L T 0)).length)/\I T 50=Fs (CE (L T 0)) (S T 2)/\((L T 54)).length=1
theorem pG (O:aao T)(Z:aap T)(hN:aaq T)(hS:Ba T (Bh (Bh (hds 23 [.i,.l]++(Bh (Bh (hds 11 [.i,.l]++(Bh (CA 0 HF.ks) GS)) Eb) JI)) FW) Oj))(hB:Bi T (Hh.map En.be))(hH:Bi T ((B5 OJ [.i,.l,.l] SI).map En.be)):
  (OJ).owes (SI.map (Rf.eval T))/\Ba T (hds 56 [.i,.l,.l])/\(Ja T (I T 56) (L T 57) (L T 58))/\¬B T 60=true:=by
 refine CK (nh:=56) (k:=3) (pcn:=60) (R:=86) (b:=Hh) (K:=YY) (nxt:=[.e 85,.e 73,.e 83]) (H:=[.c (.int 0),.e 7,.e 54]) (fv:=[50,2,8,12,24,51,55]) (A:=[.i,.l,.l]) (by kernel_rfl) rfl rfl rfl rfl hS (by kernel_rfl) (by kernel_rfl) hB (B6 hH) (fun s=>Ja T (aI s 0) (aL s 1) (aL s 2)) (fun s=>(((L T 24)).length - (aI s 0)).toNat) ?_ ?_
 .show Ja T (0:Int) (L T 7) (L T 54);clear hS hB hH;exact⟨Aw _,by omega,O.2.1,rfl⟩
 .intro J P hF N;replace N:Ja T (I J 56) (L J 57) (L J 58):=N;clear hS hB hH;replace hF:BV J Hh:=hF;obtain⟨F,hF⟩:=hF.cut;have F1:=hF;clear hF;have b1:=fvI (P 50 (by decide));have b6:=fvS (P 2 (by decide));have b8:=fvI (P 8 (by decide));have W:=fvL (P 12 (by decide));have X:=fvL (P 24 (by decide));have b7:=fvB (P 51 (by decide));have Y:=fvI (P 55 (by decide));clear P
  suffices hz:(B J 78=true->(((L J 58)).length+((L J 80)).length)*8<=140737488355328)/\(B J 78=true->0<=I J 50/\I J 50 < I J 8)/\(B J 60=true->((L J 57)).length=I J 8/\I J 71 < I J 8/\I J 72 < I J 8/\¬I J 71=I J 72/\ -10000<=BU (L J 57) (I J 71).toNat 1/\BU (L J 57) (I J 71).toNat 1<=10000/\ -12<=BU (L J 57) (I J 71).toNat 2/\BU (L J 57) (I J 71).toNat 2<=48)/\(B J 60=true-> -10000<=BU (L J 57) (I J 72).toNat 1/\BU (L J 57) (I J 72).toNat 1<=10000/\ -12<=BU (L J 57) (I J 72).toNat 2/\BU (L J 57) (I J 72).toNat 2<=48)/\(B J 60=true->0<=I J 72/\I J 72 < I J 8)/\(B J 60=true->0<=I J 71/\I J 71 < I J 8)/\(B J 60=true->0<=I J 56/\I J 56 < ((L J 24)).length)/\(B J 60=true->(Ja T (I J 85) (L J 73) (L J 83)))/\(B J 60=true->(((L T 24)).length - (I J 85)).toNat < (((L T 24)).length - (I J 56)).toNat) from
   let⟨r0,ay,aG,r3,r4,r5,r6,w,mz⟩:=hz;⟨⟨r0,ay,aG,r3,r4,r5,r6,trivial⟩,fun v=>⟨w v,mz v⟩⟩
  refine⟨?_,?_,?_,?_,?_,?_,?_,?_,?_⟩
  .obtain⟨o,j,-,-,-,-,-,g,h,l,-,-,c,d,-⟩:=F;obtain⟨-,-,-,ao,-,bl,-⟩:=F1;simp only[BS,BZ,zR,zL,zS,uR,Cp,zW,zC] at o j g h l c d ao bl;obtain⟨v1,v2,D,v4⟩:=N;obtain⟨y1,y2,y3⟩:=hN;obtain⟨au,V,m3,m4⟩:=O;obtain⟨t,aw,g3,g4,y⟩:=Z;have u:(L J 57)=upK (ctU (L T 12)) (L T 24) (I J 56).toNat (L T 0):=by rw[D,OP]
   have C:nmL ((L J 57))=nmL ((L T 0)):=by rw[u];exact IF _
   have q3:((L J 57)).length=((L T 0)).length:=DG C;have Q:OkR ((L J 57)):=by rw[u];exact GK aw _
   intro v;have z:=(o.1 (j.1 (ao.1 v).1).2);rw[Y] at z;rw[X] at g h l;rw[W,au] at c d;have a:=y (((L T 24)).getD (I J 56).toNat []) (by rw[Dd (by omega)];exact yM _);have p:(S J 66)=uS (((L T 24)).getD (I J 56).toNat []) 4:=g;have r:(S J 67)=uS (((L T 24)).getD (I J 56).toNat []) 5:=h;have al:(I J 71)=Bv (L T 0) (S J 66):=Eq.trans c (CO t (by rw[p];exact a.1));have ax:(I J 72)=Bv (L T 0) (S J 67):=Eq.trans d (CO t (by rw[r];exact a.2.1));have x:=a.1;have w:=a.2.1;rw[<-p] at x;rw[<-r] at w;have ne:¬Bv (L T 0) (S J 66)=Bv (L T 0) (S J 67):=FD x w (by rw[p,r];exact a.2.2);have hl:=iT (M:=L T 12) (G:=L T 24) (f:=S T 2) (i:=I T 50) (q:=((L T 0),(L T 54))) (I J 56).toNat;grind
  .obtain⟨o,j,-,-,-,-,-,g,h,l,-,-,c,d,-⟩:=F;obtain⟨-,-,-,ao,-⟩:=F1;simp only[BS,BZ,zR,zL,uR,zW,zC,zS] at o j g h l c d ao;obtain⟨v1,v2,D,v4⟩:=N;obtain⟨y1,y2,y3⟩:=hN;obtain⟨au,V,m3,m4⟩:=O;obtain⟨t,aw,g3,g4,y⟩:=Z;have u:(L J 57)=upK (ctU (L T 12)) (L T 24) (I J 56).toNat (L T 0):=by rw[D,OP]
   have C:nmL ((L J 57))=nmL ((L T 0)):=by rw[u];exact IF _
   have q3:((L J 57)).length=((L T 0)).length:=DG C;have Q:OkR ((L J 57)):=by rw[u];exact GK aw _
   intro v;have z:=(o.1 (j.1 (ao.1 v).1).2);rw[Y] at z;rw[X] at g h l;rw[W,au] at c d;have a:=y (((L T 24)).getD (I J 56).toNat []) (by rw[Dd (by omega)];exact yM _);have p:(S J 66)=uS (((L T 24)).getD (I J 56).toNat []) 4:=g;have r:(S J 67)=uS (((L T 24)).getD (I J 56).toNat []) 5:=h;have al:(I J 71)=Bv (L T 0) (S J 66):=Eq.trans c (CO t (by rw[p];exact a.1));have ax:(I J 72)=Bv (L T 0) (S J 67):=Eq.trans d (CO t (by rw[r];exact a.2.1));have x:=a.1;have w:=a.2.1;rw[<-p] at x;rw[<-r] at w;have ne:¬Bv (L T 0) (S J 66)=Bv (L T 0) (S J 67):=FD x w (by rw[p,r];exact a.2.2);have b2:=(j.1 (ao.1 v).1).1;rw[b7] at b2;have k:=y1.1 b2;have E:=y2.trans (CO t k);rw[b8,b1];omega
  .obtain⟨o,j,-,-,-,-,-,g,h,l,-,-,c,d,-⟩:=F;simp only[BS,BZ,zR,zL,uR,zW,zC,zS] at o j g h l c d;obtain⟨v1,v2,D,v4⟩:=N;obtain⟨y1,y2,y3⟩:=hN;obtain⟨au,V,m3,m4⟩:=O;obtain⟨t,aw,g3,g4,y⟩:=Z;have u:(L J 57)=upK (ctU (L T 12)) (L T 24) (I J 56).toNat (L T 0):=by rw[D,OP]
   have C:nmL ((L J 57))=nmL ((L T 0)):=by rw[u];exact IF _
   have q3:((L J 57)).length=((L T 0)).length:=DG C;have Q:OkR ((L J 57)):=by rw[u];exact GK aw _
   intro v;have z:=(o.1 (j.1 v).2);rw[Y] at z;rw[X] at g h l;rw[W,au] at c d;have a:=y (((L T 24)).getD (I J 56).toNat []) (by rw[Dd (by omega)];exact yM _);have p:(S J 66)=uS (((L T 24)).getD (I J 56).toNat []) 4:=g;have r:(S J 67)=uS (((L T 24)).getD (I J 56).toNat []) 5:=h;have al:(I J 71)=Bv (L T 0) (S J 66):=Eq.trans c (CO t (by rw[p];exact a.1));have ax:(I J 72)=Bv (L T 0) (S J 67):=Eq.trans d (CO t (by rw[r];exact a.2.1));have x:=a.1;have w:=a.2.1;rw[<-p] at x;rw[<-r] at w;have ne:¬Bv (L T 0) (S J 66)=Bv (L T 0) (S J 67):=FD x w (by rw[p,r];exact a.2.2);have:=Q (I J 71).toNat (by omega);omega
  .obtain⟨o,j,-,-,-,-,-,g,h,l,-,-,c,d,-⟩:=F;simp only[BS,BZ,zR,zL,uR,zW,zC,zS] at o j g h l c d;obtain⟨v1,v2,D,v4⟩:=N;obtain⟨y1,y2,y3⟩:=hN;obtain⟨au,V,m3,m4⟩:=O;obtain⟨t,aw,g3,g4,y⟩:=Z;have u:(L J 57)=upK (ctU (L T 12)) (L T 24) (I J 56).toNat (L T 0):=by rw[D,OP]
   have C:nmL ((L J 57))=nmL ((L T 0)):=by rw[u];exact IF _
   have q3:((L J 57)).length=((L T 0)).length:=DG C;have Q:OkR ((L J 57)):=by rw[u];exact GK aw _
   intro v;have z:=(o.1 (j.1 v).2);rw[Y] at z;rw[X] at g h l;rw[W,au] at c d;have a:=y (((L T 24)).getD (I J 56).toNat []) (by rw[Dd (by omega)];exact yM _);have p:(S J 66)=uS (((L T 24)).getD (I J 56).toNat []) 4:=g;have r:(S J 67)=uS (((L T 24)).getD (I J 56).toNat []) 5:=h;have al:(I J 71)=Bv (L T 0) (S J 66):=Eq.trans c (CO t (by rw[p];exact a.1));have ax:(I J 72)=Bv (L T 0) (S J 67):=Eq.trans d (CO t (by rw[r];exact a.2.1));have x:=a.1;have w:=a.2.1;rw[<-p] at x;rw[<-r] at w;have ne:¬Bv (L T 0) (S J 66)=Bv (L T 0) (S J 67):=FD x w (by rw[p,r];exact a.2.2);have:=Q (I J 72).toNat (by omega);exact this
  .obtain⟨o,j,-,-,-,-,-,g,h,l,-,-,c,d,-⟩:=F;simp only[BS,BZ,zR,zL,uR,zW,zC,zS] at o j g h l c d;obtain⟨v1,v2,D,v4⟩:=N;obtain⟨y1,y2,y3⟩:=hN;obtain⟨au,V,m3,m4⟩:=O;obtain⟨t,aw,g3,g4,y⟩:=Z;have u:(L J 57)=upK (ctU (L T 12)) (L T 24) (I J 56).toNat (L T 0):=by rw[D,OP]
   have C:nmL ((L J 57))=nmL ((L T 0)):=by rw[u];exact IF _
   have q3:((L J 57)).length=((L T 0)).length:=DG C;have Q:OkR ((L J 57)):=by rw[u];exact GK aw _
   intro v;have z:=(o.1 (j.1 v).2);rw[Y] at z;rw[X] at g h l;rw[W,au] at c d;have a:=y (((L T 24)).getD (I J 56).toNat []) (by rw[Dd (by omega)];exact yM _);have p:(S J 66)=uS (((L T 24)).getD (I J 56).toNat []) 4:=g;have r:(S J 67)=uS (((L T 24)).getD (I J 56).toNat []) 5:=h;have al:(I J 71)=Bv (L T 0) (S J 66):=Eq.trans c (CO t (by rw[p];exact a.1));have ax:(I J 72)=Bv (L T 0) (S J 67):=Eq.trans d (CO t (by rw[r];exact a.2.1));have x:=a.1;have w:=a.2.1;grind
  .obtain⟨o,j,-,-,-,-,-,g,h,l,-,-,c,d,-⟩:=F;simp only[BS,BZ,zR,zL,uR,zW,zC,zS] at o j g h l c d;obtain⟨v1,v2,D,v4⟩:=N;obtain⟨y1,y2,y3⟩:=hN;obtain⟨au,V,m3,m4⟩:=O;obtain⟨t,aw,g3,g4,y⟩:=Z;have u:(L J 57)=upK (ctU (L T 12)) (L T 24) (I J 56).toNat (L T 0):=by rw[D,OP]
   have C:nmL ((L J 57))=nmL ((L T 0)):=by rw[u];exact IF _
   have q3:((L J 57)).length=((L T 0)).length:=DG C;have Q:OkR ((L J 57)):=by rw[u];exact GK aw _
   intro v;have z:=(o.1 (j.1 v).2);rw[Y] at z;rw[X] at g h l;rw[W,au] at c d;have a:=y (((L T 24)).getD (I J 56).toNat []) (by rw[Dd (by omega)];exact yM _);have p:(S J 66)=uS (((L T 24)).getD (I J 56).toNat []) 4:=g;have r:(S J 67)=uS (((L T 24)).getD (I J 56).toNat []) 5:=h;have al:(I J 71)=Bv (L T 0) (S J 66):=Eq.trans c (CO t (by rw[p];exact a.1));have ax:(I J 72)=Bv (L T 0) (S J 67):=Eq.trans d (CO t (by rw[r];exact a.2.1));have x:=a.1;grind
  .obtain⟨o,j,-,-,-,-,-,g,h,l,-,-,c,d,-⟩:=F;simp only[BS,BZ,zR,zL,uR,zW,zC,zS] at o j g h l c d;grind
  .obtain⟨o,j,-,-,-,-,-,g,h,l,-,-,c,d,bi,bt,-⟩:=F;obtain⟨-,bx,b3,-,b0,bl,b4,-,b5,-,bb,-⟩:=F1;replace bi:L J 73=(FI (L J 57) (I J 71).toNat (I J 72).toNat (B J 68)):=bi;simp only[BS,BZ,zR,Dw,and_true,w2P,zL,zS,uR,Cp,zW,zC] at o j g h l c d bt bx b3 b0 bl b4 b5 bb;obtain⟨v1,v2,D,v4⟩:=N;obtain⟨y1,y2,y3⟩:=hN;obtain⟨au,V,m3,m4⟩:=O;obtain⟨t,aw,g3,g4,y⟩:=Z;have u:(L J 57)=upK (ctU (L T 12)) (L T 24) (I J 56).toNat (L T 0):=by rw[D,OP]
   have C:nmL ((L J 57))=nmL ((L T 0)):=by rw[u];exact IF _
   have q3:((L J 57)).length=((L T 0)).length:=DG C;have Q:OkR ((L J 57)):=by rw[u];exact GK aw _
   intro v;have z:=(o.1 (j.1 v).2);rw[Y] at z;rw[X] at g h l;rw[W,au] at c d;have a:=y (((L T 24)).getD (I J 56).toNat []) (by rw[Dd (by omega)];exact yM _);have p:(S J 66)=uS (((L T 24)).getD (I J 56).toNat []) 4:=g;have r:(S J 67)=uS (((L T 24)).getD (I J 56).toNat []) 5:=h;have al:(I J 71)=Bv (L T 0) (S J 66):=Eq.trans c (CO t (by rw[p];exact a.1));have ax:(I J 72)=Bv (L T 0) (S J 67):=Eq.trans d (CO t (by rw[r];exact a.2.1));have x:=a.1;have w:=a.2.1;rw[<-p] at x;rw[<-r] at w;have ne:¬Bv (L T 0) (S J 66)=Bv (L T 0) (S J 67):=FD x w (by rw[p,r];exact a.2.2);have xn:=o2' bb (by omega);rw[b1] at b0;rw[b6] at bt bx;have hc:(L J 73)=ctU (L T 12) (L J 57) (((L T 24)).getD (I J 56).toNat []):=by
    rw[bi,c,d,p,r,l,au];rfl
   have cs:hsP (L T 12) (S T 2) (I T 50) ((L J 57),(L J 58)) (((L T 24)).getD (I J 56).toNat [])=((L J 73),(L J 83)):=by
    refine Prod.ext hc.symm ?_;show (if uS (((L T 24)).getD (I J 56).toNat []) 4=S T 2\/uS (((L T 24)).getD (I J 56).toNat []) 5=(S T 2) then (L J 58)++[[.int (BU (ctU (L T 12) (L J 57) (((L T 24)).getD (I J 56).toNat [])) (I T 50).toNat 1)]] else (L J 58))=L J 83;grind
   have e:upK (hsP (L T 12) (S T 2) (I T 50)) (L T 24) (I J 85).toNat ((L T 0),(L T 54))=((L J 73),(L J 83)):=by
    rw[xn,show ((I J 56)+1).toNat=(I J 56).toNat+1 by omega];show hsP (L T 12) (S T 2) (I T 50) (upK (hsP (L T 12) (S T 2) (I T 50)) (L T 24) (I J 56).toNat ((L T 0),(L T 54))) _=_;grind
   grind
  .obtain⟨o,j,-,-,-,-,-,g,h,l,-,-,c,d,-⟩:=F;obtain⟨-,-,-,-,-,-,-,-,-,-,bb,-⟩:=F1;simp only[BS,BZ,zR,w2P,zL,uR,zW,zC,zS] at o j g h l c d bb;grind
theorem vz (bt:aai T)(bs:∀u∈(L T 0),Bb BT KP u)(bx:aaj T)(b0:aak T)(o:aal T)(a9:aam T)(h9:(L T 9)=[])(a7:((L T 0)).length<=24)(b1:GW T (I T 11) (L T 12))(b4:¬B T 13=true)(bi:aan T)(bl:(L T 22)=[])(bc:(L T 20)=CH ((L T 1)))(a8:((L T 20)).length<=40)(ba:(L T 12)=CE ((L T 0)))(bb:(B T 14)=true)(h7:(L T 7)=L T 0)(b2:Hr T (I T 23) (L T 24))(b5:¬B T 26=true)(l:aao T)(hX:(L T 24)=Fg (CE (L T 0)) (CH (L T 1)))(j:aap T)(i:aaq T)(J:Ja T (I T 56) (L T 57) (L T 58))(an:¬B T 60=true)(q:BV T GS)(v:BV T Eb)(r:BV T JI)(e:BV T FW)(s:BV T Oj)(g:BV T Hh)(t:BV T Yl):
  ((L T 87)=(if Bm (L T 0) (S T 2) < 0 then [] else (hsS (L T 0) (L T 1) (Bm (L T 0) (S T 2))).2))/\
  ((I T 88)=(if Bm (L T 0) (S T 2) < 0 then 5 else 0))/\
  (B T 51=true->0<=I T 50/\I T 50 < I T 8)/\
  (B T 14=true->((L T 1)).length<=40)/\
  ((((L T 5)).length+((L T 0)).length)*32<=140737488355328)/\
  (Bc (L T 1)=0)/\
  (BW (L T 0)=0):=by
 have N:=q;clear q;have F1:=v;clear v;have F2:=r;clear r;obtain⟨F3,e⟩:=e.cut;have F4:=e;clear e;have w:=s;clear s;obtain⟨O,g⟩:=g.cut;have F7:=g;clear g;have x:=t;clear t;refine⟨?_,?_,?_,?_,?_,?_,?_⟩
 .obtain⟨-,-,c,y,z,-⟩:=w;obtain⟨A,C,-⟩:=O;obtain⟨-,D,-⟩:=x;simp only[BS,BZ,zR,zL,zS,uR,Cp,zW] at c y z A C D;obtain⟨v1,v2,v3,M⟩:=J;obtain⟨au,V,m3,m4⟩:=l;obtain⟨F,aw,W,X,Y⟩:=j;obtain⟨d,p,y3⟩:=i;have K:(B T 52)=true↔Bm (L T 0) (S T 2) < 0:=by
   rw[c];constructor
   .intro h;have b:¬B T 51=true:=by simpa using h
    exact At fun a=>b (d.2 (FE.1 a))
   .intro h;have b:¬B T 51=true:=fun a=>(FE.2 (d.1 a)) h;simpa using b
  rw[D];by_cases h:(B T 52)=true
  .grind
  .have H:=fun a=>h (K.2 a);have b:(B T 51)=true:=At fun a=>h (c.2 (by simpa using a));have hn:=FE.1 H;rw[BG h,BG H];have b3:¬I T 56 < I T 55:=fun a=>an (C.2 ⟨b,A.2 a⟩);have Z:(L T 54)=[[.int (BU (L T 0) (Fs (CE (L T 0)) (S T 2)).toNat 1)]]:=by rw[z,y,V,p]
   rw[M,show (I T 56).toNat=((L T 24)).length by omega,Z,p,au,hX];exact pz F hn
 .obtain⟨-,-,c,-⟩:=w;obtain⟨-,-,Q,-⟩:=x;simp only[BS,BZ,zR,zL,zS] at c Q;obtain⟨v1,v2,v3,M⟩:=J;obtain⟨au,V,m3,m4⟩:=l;obtain⟨F,aw,W,X,Y⟩:=j;obtain⟨d,p,y3⟩:=i;have K:(B T 52)=true↔Bm (L T 0) (S T 2) < 0:=by
   rw[c];constructor
   .intro h;have b:¬B T 51=true:=by simpa using h
    exact At fun a=>b (d.2 (FE.1 a))
   .intro h;have b:¬B T 51=true:=fun a=>(FE.2 (d.1 a)) h;simpa using b
  grind
 .intro h;have k:=(i.1).1 h;have E:=i.2.1.trans (CO j.1 k);have:=l.2.2.1;omega
 .intro h;exact o.2.2
 .obtain⟨-,-,P,-⟩:=N;simp only[BS,zR,zL,zS] at P;grind
 .exact o.2.1
 .exact o.1
theorem re:Bl Try.prog 39 HF:=by
 refine GX FU (l:=[(41,Ea),(47,Hd),(65,FQ),(58,Gb)]) CP (by simp only[AW];exact⟨Jk,RF,U8,Yq,fun _ h=>absurd h (by simp)⟩) vF (by kernel_rfl) fun T us an J z k a1 a=>?_;change us.length=3 at z;obtain⟨⟨o,a5⟩,⟨p,bs⟩,q,-⟩:=a1;replace o:(L T 0).length<=140737488355328:=o;have y:∀u∈(L T 0),Bb BT KP u:=fun u hu=>by
  obtain⟨i,Z⟩:=Ac.1 hu;exact a5 i u Z
 replace p:(L T 1).length<=140737488355328:=p;replace q:(S T 2).size<=140737488355328:=q;have ad:=inL (j:=0) J z (by decide);have a4:=inL (j:=1) J z (by decide);have al:=inS (j:=2) J z (by decide);have s:BW (L T 0)=0/\Bc (L T 1)=0/\((L T 1)).length<=40:=by
  have h:=an (.s "HistV.p0",Ot) (by simp[HF]);change Ot us at h;unfold Ot at h;grind
 clear an;rw[AL,AL,AL,AL,AL,AL,AL,AL,AL] at a;obtain⟨d,a⟩:=cutB a;obtain⟨e,a⟩:=cutB a;obtain⟨b,a⟩:=cutB a;obtain⟨t,c⟩:=Be k (by kernel_rfl) d;obtain⟨w,x,v⟩:=mg o y p q s t;obtain⟨a9,g,K,M⟩:=pv s w x v c b e;have r:=(Be (g.append c) (l:=Eb) (by kernel_rfl) b);obtain⟨D,k⟩:=r;clear d b e c g;obtain⟨d,a⟩:=cutB a;obtain⟨e,a⟩:=cutB a;obtain⟨b,a⟩:=cutB a;obtain⟨C,c⟩:=Be k (by kernel_rfl) d;obtain⟨F,H,V,E,P,Q,W⟩:=lU o y p q s w x v K M t D C;obtain⟨ba,g,ao,aw⟩:=ow F H E c b e;have r:=(Be (g.append c) (l:=FW) (by kernel_rfl) b);obtain⟨O,k⟩:=r;clear d b e c g;obtain⟨d,a⟩:=cutB a;obtain⟨e,a⟩:=cutB a;obtain⟨b,a⟩:=cutB a;obtain⟨N,c⟩:=Be k (by kernel_rfl) d;obtain⟨Y,hX,X,hN⟩:=kB o y p q s w x v K M F H V E P Q W ao aw t D C O N;obtain⟨bb,g,a7,a8⟩:=pG Y X hN c b e;have r:=(Be (g.append c) (l:=Hh) (by kernel_rfl) b);obtain⟨B2,k⟩:=r;clear d b e c g;obtain⟨A3,hO⟩:=B8 (A:=[.l,.i]) (ag:=gf) k (by kernel_rfl) a;obtain⟨q0,q1,r0,ay,aG,r3,r4⟩:=vz o y p q s w x v K M F H V E P Q W ao aw Y hX X hN a7 a8 t D C O N B2 A3;refine⟨⟨(fun _=>bb),r0,(fun _=>ba),ay,(fun _=>a9),(fun _=>aG),(fun _=>r3),(fun _=>r4),trivial⟩,hO.trans ?_⟩;exact (lc (by show U.list (L T 87)= .list (Hl us);unfold Hl;rw[ad,a4,al];exact BI U.list q0) (lc (by show U.int (I T 88)= .int (He us);unfold He;rw[ad,al];exact BI U.int q1) rfl))
def Lo:List U->Int:=fun us=>(BW (aL us 0))
def OD:List U->Prop:=fun us=>¬BW (aL us 0)=0
def PW:Bf:={ sh:=[.one (.list [.str,k64,k64]),.one (.list [k64,k64,k64,.bool,.str,.str,.bool,k64,k64]),.one (.str)],blks:=[],outs:=[(.s "HistP.0",CW Lo)],c:= .tup [.cv .nilSlice,(Cy 3)],m':=[],pre:=[(.s "HistP.p0",OD)] }
def gQ:List En:=[⟨3,.outI "checkPn.0" PF,[.e 0]⟩]
def ZG:List En:=gQ
def vr:List ObE:=[⟨none,.pre "checkPn.p0" Oz,[.e 0]⟩]
def iA:List Rf:=[.e 3]
theorem vp:PW.sees iA (PW.runC Try.prog Gy [(41,Lg)] NZ 3000 20 39)=some ((ZG).map En.be,vr.map ObE.be,[]):=by kernel_rfl
theorem vX (e:aai T)(g:aaj T)(h:aak T)(d:¬BW (L T 0)=0)(b:BV T ZG):
  ((I T 3)=(BW (L T 0)))/\
  (¬BW (L T 0)=0):=by
 have c:=b;clear b;refine⟨?_,?_⟩
 .obtain⟨a,-⟩:=c;replace a:I T 3=(BW (L T 0)):=a;exact a
 .exact d
theorem sR:Bl Try.prog 39 PW:=by
 refine GX FU (l:=[(41,Lg)]) CP (by simp only[AW];exact⟨VR,fun _ h=>absurd h (by simp)⟩) vp (by kernel_rfl) fun T us e r g q k o=>?_;change us.length=3 at g;obtain⟨⟨a,v⟩,⟨b,w⟩,c,-⟩:=k;replace a:(L T 0).length<=140737488355328:=a;replace b:(L T 1).length<=140737488355328:=b;replace c:(S T 2).size<=140737488355328:=c;have d:=inL (j:=0) r g (by decide);have s:¬BW (L T 0)=0:=by
  have h:=e (.s "HistP.p0",OD) (by simp[PW]);change OD us at h;unfold OD at h;simp only[d] at h;exact h
 clear e
 skip
 obtain⟨i,p⟩:=B8 (A:=[.i]) (ag:=iA) q (by kernel_rfl) o;obtain⟨t,u⟩:=vX a b c s i;refine⟨⟨(fun _=>u),trivial⟩,p.trans ?_⟩;exact (lc (by show U.int (I T 3)= .int (Lo us);unfold Lo;rw[d];exact BI U.int t) rfl)
def Ln:List U->Int:=fun us=>(Bc (aL us 1))
def N9:List U->Prop:=fun us=>BW (aL us 0)=0/\¬Bc (aL us 1)=0
def Pe:Bf:={ sh:=[.one (.list [.str,k64,k64]),.one (.list [k64,k64,k64,.bool,.str,.str,.bool,k64,k64]),.one (.str)],blks:=[],outs:=[(.s "HistL.0",CW Ln)],c:= .tup [.cv .nilSlice,(Cy 3)],m':=[],pre:=[(.s "HistL.p0",N9)] }
def gT:List En:=[⟨3,.outI "checkPk.0" Ig,[.e 0]⟩,
 ⟨4,.outI "checkLn.0" PG,[.e 1]⟩]
def Y6:List En:=gT
def ux:List ObE:=[⟨none,.pre "checkLn.p0" PK,[.e 1]⟩,
 ⟨none,.pre "checkPk.p0" G4,[.e 0]⟩]
def gt:List Rf:=[.e 4]
theorem vg:Pe.sees gt (Pe.runC Try.prog Gy [(41,Ea),(47,L6)] NZ 3000 20 39)=some ((Y6).map En.be,ux.map ObE.be,[]):=by kernel_rfl
theorem ur (e:aai T)(g:aaj T)(h:aak T)(c:BW (L T 0)=0/\¬Bc (L T 1)=0)(b:BV T Y6):
  ((I T 4)=(Bc (L T 1)))/\
  (¬Bc (L T 1)=0)/\
  (BW (L T 0)=0):=by
 have d:=b;clear b;refine⟨?_,?_,?_⟩
 .obtain⟨-,a,-⟩:=d;replace a:I T 4=(Bc (L T 1)):=a;exact a
 .exact c.2
 .exact c.1
theorem rk:Bl Try.prog 39 Pe:=by
 refine GX FU (l:=[(41,Ea),(47,L6)]) CP (by simp only[AW];exact⟨Jk,Wy,fun _ h=>absurd h (by simp)⟩) vg (by kernel_rfl) fun T us i e c r o p=>?_;change us.length=3 at c;obtain⟨⟨a,w⟩,⟨b,x⟩,d,-⟩:=o;replace a:(L T 0).length<=140737488355328:=a;replace b:(L T 1).length<=140737488355328:=b;replace d:(S T 2).size<=140737488355328:=d;have s:=inL (j:=0) e c (by decide);have g:=inL (j:=1) e c (by decide);have t:BW (L T 0)=0/\¬Bc (L T 1)=0:=by
  have h:=i (.s "HistL.p0",N9) (by simp[Pe]);change N9 us at h;unfold N9 at h;simp only[s,g] at h;exact h
 clear i
 skip
 obtain⟨k,q⟩:=B8 (A:=[.i]) (ag:=gt) r (by kernel_rfl) p;obtain⟨u,v,ay⟩:=ur a b d t k;refine⟨⟨(fun _=>v),(fun _=>ay),trivial⟩,q.trans ?_⟩;exact (lc (by show U.int (I T 4)= .int (Ln us);unfold Ln;rw[g];exact BI U.int u) rfl)
end
section
open Go Go.Eng Go.Proofs
set_option maxRecDepth 100000
def Dg:List U->List (List U):=fun us=>(if (if¬BW (aL us 0)=0 then BW (aL us 0) else Bc (aL us 1))=0/\¬Bm (aL us 0) (aS us 2) < 0 then (hsS (aL us 0) (aL us 1) (Bm (aL us 0) (aS us 2))).2 else [])
def Dh:List U->Int:=fun us=>(if (if¬BW (aL us 0)=0 then BW (aL us 0) else Bc (aL us 1))=0 then (if Bm (aL us 0) (aS us 2) < 0 then 5 else 0) else (if¬BW (aL us 0)=0 then BW (aL us 0) else Bc (aL us 1)))
def Th:List U->Prop:=fun us=>((aL us 1)).length<=40\/200 < ((aL us 1)).length
def Oc:Bf:={ sh:=[.one (.list [.str,k64,k64]),.one (.list [k64,k64,k64,.bool,.str,.str,.bool,k64,k64]),.one (.str)],blks:=[],outs:=[(.s "History.0",D1 Dg),(.s "History.1",CW Dh)],c:= .tup [.ro 3 [k64],(Cy 4)],m':=[],pre:=[(.s "History.p0",Th)] }
theorem jt:Bl Try.prog 39 Oc:=WL rfl rfl (fun _=>QA) fun us b h=>by
 replace b:us.length=3:=b;have C:(aL us 1).length<=40\/200 < (aL us 1).length:=h _ (Al.2 rfl);by_cases c:BW (aL us 0)=0
 .by_cases j:Bc (aL us 1)=0
  .have A:(aL us 1).length<=40:=by have:=Mp j;omega
   have i:(if¬BW (aL us 0)=0 then BW (aL us 0) else Bc (aL us 1))=0:=by rw[c,j];rfl
   have q:Dg us=Hl us:=by
    unfold Dg Hl;by_cases d:Bm (aL us 0) (aS us 2) < 0
    .rw[BH d,BG (fun a=>a.2 d)]
    .rw[BG d,BH ⟨i,d⟩]
   have r:Dh us=He us:=by unfold Dh He;rw[BH i]
   refine⟨HF,⟨re,fun p h=>by rw[Al.1 h];exact⟨c,j,A⟩,rfl,rfl,rfl,rfl,fun T aA W w v d g s t=>dP d (fun x y=>?_) t⟩⟩;have z:Oc.us us=HF.us us:=by
    show us++[U.list (Dg us),U.int (Dh us)]=us++[U.list (Hl us),U.int (He us)];rw[q,r]
   have y:x < (HF.us us).length:=by
    show x < (us++[U.list (Hl us),U.int (He us)]).length;rw[AP,b];exact y
   have e:=AF y;rw[s x _ e,g x _ (by rw[z];exact e)]
  .have q:Dg us=[]:=by unfold Dg;exact BG (fun a=>j (Q7 a.1).2)
   have r:Dh us=Ln us:=by
    have i:¬(if¬BW (aL us 0)=0 then BW (aL us 0) else Bc (aL us 1))=0:=fun a=>j (Q7 a).2;unfold Dh;rw[BG i,BG (fun k=>k c)];rfl
   refine⟨Pe,⟨rk,fun p h=>by rw[Al.1 h];exact⟨c,j⟩,rfl,rfl,rfl,rfl,fun T aA W w v d g s t=>?_⟩⟩;have l:T 3= .list (Dg us):=g 3 _ (by unfold Bf.us;rw[AS (by omega),b];rfl);have o:T 4= .int (Dh us):=g 4 _ (by unfold Bf.us;rw[AS (by omega),b];rfl);have u:aA 3= .int (Ln us):=s 3 _ (by unfold Bf.us;rw[AS (by omega),b];rfl);rw[q] at l;rw[r] at o;exact S9 (by decide) (by decide) l (o.trans u.symm) t
 .have q:Dg us=[]:=by unfold Dg;exact BG (fun a=>c (Q7 a.1).1)
  have r:Dh us=Lo us:=by
   have i:¬(if¬BW (aL us 0)=0 then BW (aL us 0) else Bc (aL us 1))=0:=fun a=>c (Q7 a).1;unfold Dh;rw[BG i,BH c];rfl
  refine⟨PW,⟨sR,fun p h=>by rw[Al.1 h];exact c,rfl,rfl,rfl,rfl,fun T aA W w v d g s t=>?_⟩⟩;have l:T 3= .list (Dg us):=g 3 _ (by unfold Bf.us;rw[AS (by omega),b];rfl);have o:T 4= .int (Dh us):=g 4 _ (by unfold Bf.us;rw[AS (by omega),b];rfl);have u:aA 3= .int (Lo us):=s 3 _ (by unfold Bf.us;rw[AS (by omega),b];rfl);rw[q] at l;rw[r] at o;exact S9 (by decide) (by decide) l (o.trans u.symm) t
end
section
open Go Go.Eng Go.Proofs
set_option maxHeartbeats 4000000
set_option maxRecDepth 100000
def Nr:List U->Int:=fun us=>(Bm (aL us 0) (aS us 1))
def Pw:Bf:={ sh:=[.one (.list [.str,k64,k64]),.one (.str)],blks:=[],outs:=[(.s "find.0",CW Nr)],c:=(Cy 2),m':=[],pre:=[] }
def ew:List En:=[]
def kw:List En:=[ABL 3 0,
 ABH 4 2 3,
 ABI 5 4,
 ABX 6 0 2,
 ⟨7,.eqs [.s],[.e 6,.e 1]⟩,
 ABE 8 4 7,
 ABF 9 4 7,
 ⟨10,.w2 .i64 .add,[.e 2,.c (.int 1)]⟩]
def I4:List En:=kw
def eF:List ObE:=[⟨some 4,.inl,[.e 2,.e 0]⟩]
def Qo:Bs:=mkD 2 1 I4 9 [.e 10] eF [1,0]
def Ur:List Rf:=[.e 1,.e 0,.c (.int 0)]
def mD:List En:=[⟨11,.ite .i,[.e 8,.e 2,.c (.int (-1))]⟩,
 ABG 12 8 5]
def ae:List En:=mD
def wy:List ObE:=[⟨none,.owes Qo,[.e 1,.e 0,.c (.int 0)]⟩]
def nW:List Rf:=[.e 11]
theorem w9:Pw.sees nW (Pw.run Try.prog [] Bp 3000 20 76)=some ((ew++((B5 Qo [.i] Ur)++(I4++(ae)))).map En.be,wy.map ObE.be,[]):=by kernel_rfl
abbrev za(T:Tab)(a:Int):Prop:=0<=a/\a <=((L T 0)).length/\∀j:Nat,(j:Int) <a ->¬uS (((L T 0)).getD j []) 0=S T 1
variable{T:Tab}
theorem rP (X:aai T)(v:Ba T (Bh (CA 0 Pw.ks) ew))(t:Bi T (I4.map En.be))(u:Bi T ((B5 Qo [.i] Ur).map En.be)):
  (Qo).owes (Ur.map (Rf.eval T))/\Ba T (hds 2 [.i])/\(za T (I T 2))/\¬B T 9=true:=by
 refine CK (nh:=2) (k:=1) (pcn:=9) (R:=11) (b:=I4) (K:=eF) (nxt:=[.e 10]) (H:=[.c (.int 0)]) (fv:=[1,0]) (A:=[.i]) (by kernel_rfl) rfl rfl rfl rfl v (by kernel_rfl) (by kernel_rfl) t (B6 u) (fun s=>za T (aI s 0)) (fun s=>(((L T 0)).length - (aI s 0)).toNat) ?_ ?_
 .show za T (0:Int);clear v t u;exact⟨Aw _,by omega,fun j h=>by omega⟩
 .intro J w p o;replace o:za T (I J 2):=o;clear v t u;replace p:BV J I4:=p;have q:=p;clear p;have F:=fvS (w 1 (by decide));have i:=fvL (w 0 (by decide));clear w
  suffices N:(B J 4=true->0<=I J 2/\I J 2 < ((L J 0)).length)/\(B J 9=true->(za T (I J 10)))/\(B J 9=true->(((L T 0)).length - (I J 10)).toNat < (((L T 0)).length - (I J 2)).toNat) from
   let⟨Q,P,O⟩:=N;⟨⟨Q,trivial⟩,fun d=>⟨P d,O d⟩⟩
  refine⟨?_,?_,?_⟩
  .obtain⟨a,c,-⟩:=q;simp only[BS,zR,zL] at a c;obtain⟨C,D,x⟩:=o;intro d;have l:=c.1 d;rw[a,i] at l;rw[i];omega
  .obtain⟨a,c,-,y,z,-,g,e,-⟩:=q;simp only[BS,BZ,zN,zR,Dw,and_true,w2P,zL,zS] at a c y z g e;obtain⟨C,D,x⟩:=o;intro d;have r:=g.1 d;have l:=c.1 r.1;rw[a,i] at l;have V:=o2' e (by omega);refine⟨by omega,by omega,fun j W=>?_⟩;rcases Int.lt_or_le (j:Int) (I J 2) with h|h
   .exact x j h
   .have E:j=(I J 2).toNat:=by omega
    rw[E];intro M;have:(B J 7)=true:=z.2 (by rw[y,i,F];exact M);rw[this] at r;cases r.2
  .obtain⟨a,c,-,-,-,-,g,e,-⟩:=q;simp only[BS,BZ,zN,zR,w2P,zL] at a c g e;obtain⟨C,D,x⟩:=o;intro d;have l:=c.1 (g.1 d).1;rw[a,i] at l;have V:=o2' e (by omega);omega
abbrev aar(T:Tab):Prop:=(S T 1).size<=140737488355328
theorem wh (D:aai T)(A:∀u∈(L T 0),Bb BT KP u)(E:aar T)(x:za T (I T 2))(z:¬B T 9=true)(o:BV T I4)(l:BV T ae):
  ((I T 11)=(Bm (L T 0) (S T 1))):=by
 have t:=o;clear o;have v:=l;clear l
 .obtain⟨e,g,-,p,q,k,r,-⟩:=t;obtain⟨d,-⟩:=v;simp only[BS,BZ,zN,zR,Dw,and_true,zL,zS] at e g p q k r d;obtain⟨F,H,s⟩:=x;by_cases c:(B T 8)=true
  .obtain⟨b,a⟩:=k.1 c;have b:=g.1 b;have a:=q.1 a;rw[e] at b;rw[p] at a;rw[d,BH c,ig (i:=(I T 2).toNat) (by omega) (fun j w=>s j (by omega)) a];omega
  .have y:¬B T 4=true:=fun b=>by
    by_cases a:(B T 7)=true
    .exact c (k.2 ⟨b,a⟩)
    .exact z (r.2 ⟨b,by simpa using a⟩)
   have C:¬I T 2 < ((L T 0)).length:=fun h=>y (g.2 (by rw[e];exact h));rw[d,BG c,Yi fun j w=>s j (by omega)]
theorem vx:Bl Try.prog 76 Pw:=by
 refine B7 (l:=[]) CP (by intro p h;exact absurd h (by simp)) w9 (by kernel_rfl) fun T us F s g d w a=>?_;change us.length=2 at g;obtain⟨⟨b,D⟩,k,-⟩:=w;replace b:(L T 0).length<=140737488355328:=b;have E:∀u∈(L T 0),Bb BT KP u:=fun u H=>by
  obtain⟨i,Z⟩:=Ac.1 H;exact D i u Z
 replace k:(S T 1).size<=140737488355328:=k;have z:=inL (j:=0) s g (by decide);have C:=inS (j:=1) s g (by decide);clear F;rw[AL,AL,AL] at a;obtain⟨o,a⟩:=cutB a;obtain⟨q,a⟩:=cutB a;obtain⟨c,a⟩:=cutB a;obtain⟨O,e⟩:=Be d (by kernel_rfl) o;obtain⟨M,r,J,K⟩:=rP b e c q;have x:=(Be (r.append e) (l:=I4) (by kernel_rfl) c);obtain⟨v,d⟩:=x;clear o c q e r;obtain⟨t,y⟩:=B8 (A:=[.i]) (ag:=nW) d (by kernel_rfl) a;have N:=wh b E k J K v t;refine⟨⟨(fun _=>M),trivial⟩,y.trans ?_⟩;exact (lc (by show U.int (I T 11)= .int (Nr us);unfold Nr;rw[z,C];exact BI U.int N) rfl)
def J1:List U->List (List U):=fun us=>(if (if¬BW (aL us 0)=0 then BW (aL us 0) else Bc (aL us 1))=0/\¬Bm (aL us 0) (aS us 2) < 0 then (hsS (aL us 0) (aL us 1) (Bm (aL us 0) (aS us 2))).2 else [])
def J5:List U->Int:=fun us=>(if (if¬BW (aL us 0)=0 then BW (aL us 0) else Bc (aL us 1))=0 then (if Bm (aL us 0) (aS us 2) < 0 then 5 else 0) else (if¬BW (aL us 0)=0 then BW (aL us 0) else Bc (aL us 1)))
def HN:List U->Prop:=fun us=>((aL us 1)).length<=40\/200 < ((aL us 1)).length
def IA:Bf:={ sh:=[.one (.list [.str,k64,k64]),.one (.list [k64,k64,k64,.bool,.str,.str,.bool,k64,k64]),.one (.str)],blks:=[],outs:=[(.s "rHistory.0",D1 J1),(.s "rHistory.1",CW J5)],c:= .tup [.ro 3 [k64],(Cy 4)],m':=[],pre:=[(.s "rHistory.p0",HN)] }
def W1:List En:=[⟨3,.outI "rboth.0" Hm,[.e 0,.e 1]⟩,
 ⟨4,.ne,[.e 3,.c (.int 0)]⟩,
 ⟨5,.outI "rboth.0" Hm,[.e 0,.e 1]⟩,
 ABI 6 4,
 ⟨7,.outI "find.0" Nr,[.e 0,.e 2]⟩,
 ⟨8,.lt,[.e 7,.c (.int 0)]⟩,
 ABE 9 6 8,
 ABF 10 6 8,
 ⟨11,.outI "find.0" Nr,[.e 0,.e 2]⟩,
 ⟨12,.outL "rsettle.0" IY,[.e 0,.e 1,.e 11]⟩,
 ⟨13,.outL "rsettle.1" Ia,[.e 0,.e 1,.e 11]⟩,
 ⟨14,.ite .i,[.e 9,.c (.int 5),.c (.int 0)]⟩,
 ⟨15,.ite .l,[.e 9,.c (.list []),.e 13]⟩,
 ABG 16 9 10,
 ABT 17 4 5 14,
 ⟨18,.ite .l,[.e 4,.c (.list []),.e 15]⟩]
def XY:List En:=[ABG 19 4 16]
def SC:List En:=W1++(XY)
def lX:List ObE:=[⟨some 10,.pre "rsettle.p0" G5,[.e 0,.e 1,.e 11]⟩,
 ⟨some 10,.pre "rsettle.p1" G1,[.e 0,.e 1,.e 11]⟩]
def WG:List Rf:=[.e 18,.e 17]
theorem j6:IA.sees WG (IA.run Try.prog [(79,KX),(80,Ez),(76,Pw)] Bp 3000 20 40)=some ((SC).map En.be,lX.map ObE.be,[]):=by kernel_rfl
theorem jW (H:aai T)(F:∀u∈(L T 0),Bb BT KP u)(J:aaj T)(K:aak T)(D:((L T 1)).length<=40\/200 < ((L T 1)).length)(t:BV T SC):
  ((L T 18)=(if (if¬BW (L T 0)=0 then BW (L T 0) else Bc (L T 1))=0/\¬Bm (L T 0) (S T 2) < 0 then (hsS (L T 0) (L T 1) (Bm (L T 0) (S T 2))).2 else []))/\
  ((I T 17)=(if (if¬BW (L T 0)=0 then BW (L T 0) else Bc (L T 1))=0 then (if Bm (L T 0) (S T 2) < 0 then 5 else 0) else (if¬BW (L T 0)=0 then BW (L T 0) else Bc (L T 1))))/\
  (B T 10=true->BW (L T 0)=0/\Bc (L T 1)=0/\((L T 1)).length<=40)/\
  (B T 10=true-> -1<=I T 11/\I T 11 < ((L T 0)).length):=by
 obtain⟨v,t⟩:=t.cut;have E:=t;clear t;refine⟨?_,?_,?_,?_⟩
 .obtain⟨b,c,-,i,g,e,l,-,j,-,w,-,z,-,-,C,-⟩:=v;replace b:I T 3=(if¬BW (L T 0)=0 then BW (L T 0) else Bc (L T 1)):=b;replace g:I T 7=(Bm (L T 0) (S T 2)):=g;replace j:I T 11=(Bm (L T 0) (S T 2)):=j;replace w:L T 13=((hsS (L T 0) (L T 1) (I T 11)).2):=w;simp only[BS,BZ,zR,zL,zS] at c i e l z C;have q:¬B T 4=true↔I T 3=0:=⟨fun h=>At fun a=>h (c.2 a),fun h a=>(c.1 a) h⟩;rw[C];by_cases h:(B T 4)=true
  .rw[BH h,BG (fun a=>(c.1 h) (b.trans a.1))]
  .have p:=q.1 h;have r:(B T 6)=true:=i.2 (by simpa using h);rw[BG h,z];by_cases d:(B T 8)=true
   .rw[BH (l.2 ⟨r,d⟩),BG (fun a=>a.2 (by rw[<-g];exact e.1 d))]
   .rw[BG (fun a=>d (l.1 a).2),BH ⟨b.symm.trans p,fun a=>d (e.2 (by rw[g];exact a))⟩,w,j]
 .obtain⟨b,c,x,i,g,e,l,-,-,-,-,y,-,-,A,-⟩:=v;replace b:I T 3=(if¬BW (L T 0)=0 then BW (L T 0) else Bc (L T 1)):=b;replace x:I T 5=(if¬BW (L T 0)=0 then BW (L T 0) else Bc (L T 1)):=x;replace g:I T 7=(Bm (L T 0) (S T 2)):=g;simp only[BS,BZ,zR,zL,zS] at c i e l y A;have q:¬B T 4=true↔I T 3=0:=⟨fun h=>At fun a=>h (c.2 a),fun h a=>(c.1 a) h⟩;rw[A];by_cases h:(B T 4)=true
  .rw[BH h,BG (fun a=>(c.1 h) (b.trans a)),x]
  .have p:=q.1 h;have r:(B T 6)=true:=i.2 (by simpa using h);rw[BG h,BH (b.symm.trans p),y];by_cases d:(B T 8)=true
   .rw[BH (l.2 ⟨r,d⟩),BH (by rw[<-g];exact e.1 d)]
   .rw[BG (fun a=>d (l.1 a).2),BG (fun a=>d (e.2 (by rw[g];exact a)))]
 .obtain⟨b,c,-,i,-,-,-,o,-⟩:=v;replace b:I T 3=(if¬BW (L T 0)=0 then BW (L T 0) else Bc (L T 1)):=b;simp only[BS,BZ,zN,zR] at c i o;have q:¬B T 4=true↔I T 3=0:=⟨fun h=>At fun a=>h (c.2 a),fun h a=>(c.1 a) h⟩;intro h;have r:=(o.1 h).1;have p:=q.1 (by simpa using i.1 r);exact dF (b.symm.trans p) D
 .obtain⟨-,-,-,-,-,e,-,o,j,-⟩:=v;replace j:I T 11=(Bm (L T 0) (S T 2)):=j;simp only[BS,BZ,zN,zR] at e o;intro h;have d:¬B T 8=true:=by simpa using (o.1 h).2
  have k:¬I T 7 < 0:=fun a=>d (e.2 a);have:=EN (P:=L T 0) (s:=S T 2);rw[<-j] at this;omega
theorem fR:Bl Try.prog 40 IA:=by
 refine B7 (l:=[(79,KX),(80,Ez),(76,Pw)]) CP (by simp only[AW];exact⟨dV,VN,vx,fun _ h=>absurd h (by simp)⟩) j6 (by kernel_rfl) fun T us p b a v r s=>?_;change us.length=3 at a;obtain⟨⟨d,w⟩,⟨e,F⟩,g,-⟩:=r;replace d:(L T 0).length<=140737488355328:=d;have x:∀u∈(L T 0),Bb BT KP u:=fun u y=>by
  obtain⟨i,Z⟩:=Ac.1 y;exact w i u Z
 replace e:(L T 1).length<=140737488355328:=e;replace g:(S T 2).size<=140737488355328:=g;have k:=inL (j:=0) b a (by decide);have c:=inL (j:=1) b a (by decide);have o:=inS (j:=2) b a (by decide);have z:((L T 1)).length<=40\/200 < ((L T 1)).length:=by
  have h:=p (.s "rHistory.p0",HN) (by simp[IA]);change HN us at h;unfold HN at h;simp only[c] at h;exact h
 clear p
 skip
 obtain⟨q,t⟩:=B8 (A:=[.l,.i]) (ag:=WG) v (by kernel_rfl) s;obtain⟨C,D,E,ay⟩:=jW d x e g z q;refine⟨⟨E,ay,trivial⟩,t.trans ?_⟩;exact (lc (by show U.list (L T 18)= .list (J1 us);unfold J1;rw[k,c,o];exact BI U.list C) (lc (by show U.int (I T 17)= .int (J5 us);unfold J5;rw[k,c,o];exact BI U.int D) rfl))
def Mf:List U->Bool:=fun us=>(Lz (aL us 0) (aL us 1))
def K7:Bf:={ sh:=[.one (.list [.str,k64,k64]),.one (.list [.str,k64,k64])],blks:=[],outs:=[(.s "samePl.0",Jx Mf)],c:= .b 2,m':=[],pre:=[] }
def bu:List En:=[ABL 2 0,
 ABL 3 1,
 ⟨4,.ne,[.e 2,.e 3]⟩,
 ABI 5 4]
def Ma:List En:=bu
def bV:List En:=[ABL 7 0,
 ABH 8 6 7,
 ABE 9 5 8,
 ABF 10 5 8,
 ABX 11 0 6,
 ABJ 12 0 6,
 ABK 13 0 6,
 ABX 14 1 6,
 ABJ 15 1 6,
 ABK 16 1 6,
 ⟨17,.nes [.s,.i,.i],[.e 11,.e 14,.e 12,.e 15,.e 13,.e 16]⟩,
 ABE 18 9 17,
 ABF 19 9 17,
 ⟨20,.w2 .i64 .add,[.e 6,.c (.int 1)]⟩]
def Gu:List En:=bV
def WZ:List ObE:=[⟨some 9,.inl,[.e 6,.e 1]⟩,⟨some 9,.inl,[.e 6,.e 0]⟩]
def Ms:Bs:=mkD 6 1 Gu 19 [.e 20] WZ [1,0,5]
def Qu:List Rf:=[.e 1,.e 0,.e 5,.c (.int 0)]
def aP:List En:=[⟨21,.ite .b,[.e 18,.c (.bool false),.c (.bool true)]⟩,
 ABG 22 18 10,
 ⟨23,.ite .b,[.e 4,.c (.bool false),.e 21]⟩,
 ABG 24 4 22]
def Wu:List En:=aP
def rT:List ObE:=[⟨some 5,.owes Ms,[.e 1,.e 0,.e 5,.c (.int 0)]⟩]
def az:List Rf:=[.e 23]
theorem qd:K7.sees az (K7.run Try.prog [] Bp 3000 20 26)=some ((Ma++((B5 Ms [.i] Qu)++(Gu++(Wu)))).map En.be,rT.map ObE.be,[]):=by kernel_rfl
theorem fZ (o:aai T)(k:∀u∈(L T 0),Bb BT KP u)(p:aaj T)(l:∀u∈(L T 1),Bb BT KP u)(b:BV T Ma):
  ((B T 5)=true->((L T 0)).length=((L T 1)).length):=by
 have i:=b;clear b;have j:(B T 5)=true->((L T 0)).length=((L T 1)).length:=by
  obtain⟨c,d,e,g,-⟩:=i;simp only[BS,BZ,zR,zL] at c d e g;intro h;have n:¬ ¬I T 2=I T 3:=fun a=>absurd (e.2 a) (by simpa using g.1 h);have:=At n;rw[c,d] at this;omega
 exact j
abbrev zb(T:Tab)(a:Int):Prop:=0<=a/\a <=((L T 0)).length/\∀j:Nat,(j:Int) <a ->Ju (((L T 0)).getD j []) (((L T 1)).getD j [])=true
abbrev aas(T:Tab):Prop:=(B T 5)=true->((L T 0)).length=((L T 1)).length
theorem kG (ax:aai T)(Y:aas T)(P:Ba T (Bh (CA 0 K7.ks) Ma))(N:Bi T (Gu.map En.be))(O:Bi T ((B5 Ms [.i] Qu).map En.be)):
  (Ms).owes (Qu.map (Rf.eval T))/\Ba T (hds 6 [.i])/\(zb T (I T 6))/\¬B T 19=true:=by
 refine CK (nh:=6) (k:=1) (pcn:=19) (R:=21) (b:=Gu) (K:=WZ) (nxt:=[.e 20]) (H:=[.c (.int 0)]) (fv:=[1,0,5]) (A:=[.i]) (by kernel_rfl) rfl rfl rfl rfl P (by kernel_rfl) (by kernel_rfl) N (B6 O) (fun s=>zb T (aI s 0)) (fun s=>(((L T 0)).length - (aI s 0)).toNat) ?_ ?_
 .show zb T (0:Int);clear P N O;exact⟨Aw _,by omega,fun j h=>by omega⟩
 .intro J v u o;replace o:zb T (I J 6):=o;clear P N O;replace u:BV J Gu:=u;have t:=u;clear u;have F:=fvL (v 1 (by decide));have i:=fvL (v 0 (by decide));have X:=fvB (v 5 (by decide));clear v
  suffices hz:(B J 9=true->0<=I J 6/\I J 6 < ((L J 1)).length)/\(B J 9=true->0<=I J 6/\I J 6 < ((L J 0)).length)/\(B J 19=true->(zb T (I J 20)))/\(B J 19=true->(((L T 0)).length - (I J 20)).toNat < (((L T 0)).length - (I J 6)).toNat) from
   let⟨r0,ay,nx,mz⟩:=hz;⟨⟨r0,ay,trivial⟩,fun e=>⟨nx e,mz e⟩⟩
  refine⟨?_,?_,?_,?_⟩
  .obtain⟨a,c,d,-⟩:=t;simp only[BS,BZ,zR,zL] at a c d;obtain⟨Q,V,w⟩:=o;intro e;have r:=d.1 e;have l:=c.1 r.2;rw[a,i] at l;have g:=Y (by rw[<-X];exact r.1)
   first|rw[i]|rw[F]
   omega
  .obtain⟨a,c,d,-⟩:=t;simp only[BS,BZ,zR,zL] at a c d;obtain⟨Q,V,w⟩:=o;intro e;have r:=d.1 e;have l:=c.1 r.2;rw[a,i] at l;have g:=Y (by rw[<-X];exact r.1)
   first|rw[i]|rw[F]
   omega
  .obtain⟨a,c,d,-,x,y,z,C,D,E,W,-,p,q,-⟩:=t;simp only[BS,BZ,zN,zR,Dw,and_true,w2P,zL,zS] at a c d x y z C D E W p q;obtain⟨Q,V,w⟩:=o;intro e;have M:=p.1 e;have l:=c.1 (d.1 M.1).2;rw[a,i] at l;have ao:=o2' q (by omega);refine⟨by omega,by omega,fun j hj=>?_⟩;rcases Int.lt_or_le (j:Int) (I J 6) with h|h
   .exact w j h
   .have ej:j=(I J 6).toNat:=by omega
    rw[ej];refine TX.1 (At fun Z=>?_);rw[i] at x y z;rw[F] at C D E;rw[<-x,<-y,<-z,<-C,<-D,<-E] at Z;have:=W.2 Z;rw[this] at M;cases M.2
  .obtain⟨a,c,d,-,-,-,-,-,-,-,-,-,p,q,-⟩:=t;simp only[BS,BZ,zN,zR,w2P,zL] at a c d p q;obtain⟨Q,V,w⟩:=o;intro e;have l:=c.1 (d.1 (p.1 e).1).2;rw[a,i] at l;have ao:=o2' q (by omega);omega
theorem ti (ao:aai T)(ag:∀u∈(L T 0),Bb BT KP u)(aw:aaj T)(al:∀u∈(L T 1),Bb BT KP u)(Q:aas T)(W:zb T (I T 6))(Z:¬B T 19=true)(i:BV T Ma)(l:BV T Gu)(k:BV T Wu):
  ((B T 23)=(Lz (L T 0) (L T 1))):=by
 have M:=i;clear i;have N:=l;clear l;have O:=k;clear k
 .obtain⟨x,A,C,D,-⟩:=M;obtain⟨d,e,g,-,o,p,q,r,s,t,v,c,w,-⟩:=N;obtain⟨y,-,z,-⟩:=O;simp only[BS,BZ,zN,zC,zR,Dw,and_true,zL,zS] at x A C D d e g o p q r s t v c w y z;obtain⟨v1,v2,v3⟩:=W;have K:(B T 23)=true↔Lz (L T 0) (L T 1)=true:=by
   rw[jx,z];by_cases a:(B T 4)=true
   .have:=C.1 a;rw[x,A] at this;refine⟨fun h=>?_,fun h=>absurd h.1 (by omega)⟩;have:=h.1;rw[a] at this;cases this
   .have F:=D.2 (by simpa using a);have hl:=Q F;have P:(B T 21)=true↔¬B T 18=true:=by rw[y];simp
    rw[P];by_cases b:(I T 6) < I T 7
    .have H:=g.2 ⟨F,e.2 b⟩;have E:(B T 17)=true:=by
      by_cases h:(B T 17)=true
      .exact h
      .exact absurd (w.2 ⟨H,by simpa using h⟩) Z
     have V:=c.2 ⟨H,E⟩;have J:=v.1 E;rw[o,p,q,r,s,t] at J;refine⟨fun h=>absurd V h.2,fun h=>absurd (TX.2 (h.2 (I T 6).toNat (by rw[d] at b;omega))) J⟩
    .have Y:¬B T 9=true:=fun h=>b (e.1 (g.1 h).2);have X:¬B T 18=true:=fun h=>Y (c.1 h).1;rw[d] at b;refine⟨fun _=>⟨by omega,fun j hj=>v3 j (by omega)⟩,fun _=>⟨by simpa using a,X⟩⟩
  first|exact K|exact Bool.eq_iff_iff.2 K
theorem oX:Bl Try.prog 26 K7:=by
 refine B7 (l:=[]) CP (by intro p h;exact absurd h (by simp)) qd (by kernel_rfl) fun T us N w o e D a=>?_;change us.length=2 at o;obtain⟨⟨b,K⟩,⟨c,M⟩,-⟩:=D;replace b:(L T 0).length<=140737488355328:=b;have x:∀u∈(L T 0),Bb BT KP u:=fun u k=>by
  obtain⟨i,Z⟩:=Ac.1 k;exact K i u Z
 replace c:(L T 1).length<=140737488355328:=c;have y:∀u∈(L T 1),Bb BT KP u:=fun u k=>by
  obtain⟨i,Z⟩:=Ac.1 k;exact M i u Z
 have H:=inL (j:=0) w o (by decide);have J:=inL (j:=1) w o (by decide);clear N;rw[AL,AL,AL] at a;obtain⟨s,a⟩:=cutB a;obtain⟨t,a⟩:=cutB a;obtain⟨d,a⟩:=cutB a;obtain⟨q,g⟩:=Be e (by kernel_rfl) s;have r:=fZ b x c y q;obtain⟨Q,v,O,P⟩:=kG b r g d t;have E:=(Be (v.append g) (l:=Gu) (by kernel_rfl) d);obtain⟨C,e⟩:=E;clear s d t g v;obtain⟨z,F⟩:=B8 (A:=[.b]) (ag:=az) e (by kernel_rfl) a;have V:=ti b x c y r O P q C z;refine⟨⟨(fun _=>Q),trivial⟩,F.trans ?_⟩;exact (lc (by show U.bool (B T 23)= .bool (Mf us);unfold Mf;rw[H,J];exact BI U.bool V) rfl)
def P4:List U->Int:=fun us=>(Cq (aS us 0) (aI us 1) (aI us 2) (aS us 3) (aI us 4) (aI us 5))
def R8:Bf:={ sh:=[.agg [.str,k64,k64],.agg [.str,k64,k64]],blks:=[],outs:=[(.s "pair.0",CW P4)],c:=(Cy 6),m':=[],pre:=[] }
def kK:List En:=[⟨6,.outB "vplayer.0" HA,[.e 0,.e 1,.e 2]⟩,
 ABU 7 6,
 ⟨8,.outB "vplayer.0" HA,[.e 3,.e 4,.e 5]⟩,
 ⟨9,.or,[.n 6,.n 8]⟩,
 ABI 10 9,
 ⟨11,.eqs [.s],[.e 0,.e 3]⟩,
 ABE 12 10 11,
 ABF 13 10 11,
 ⟨14,.ite .i,[.e 9,.c (.int 2),.c (.int 12)]⟩,
 ABG 15 9 12,
 ⟨16,.ite .i,[.e 15,.e 14,.c (.int 0)]⟩,
 ABG 17 15 13]
def bU:List En:=kK
def wd:List ObE:=[]
def oN:List Rf:=[.e 16]
theorem ww:R8.sees oN (R8.run Try.prog [(82,Ho)] Bp 3000 20 57)=some ((bU).map En.be,wd.map ObE.be,[]):=by kernel_rfl
theorem xb (o:(S T 0).size<=140737488355328)(p:(S T 3).size<=140737488355328)(c:BV T bU):
  ((I T 16)=(Cq (S T 0) (I T 1) (I T 2) (S T 3) (I T 4) (I T 5))):=by
 have d:=c;clear c
 .obtain⟨a,-,b,l,e,g,h,-,i,j,k,-⟩:=d;replace a:B T 6=(Dl (S T 0) (I T 1) (I T 2)):=a;replace b:B T 8=(Dl (S T 3) (I T 4) (I T 5)):=b;simp only[BS,BZ,zN,zR,Dw,and_true,zL,zS] at l e g h i j k;unfold Cq;rw[<-a,<-b];clear a b;grind
theorem vZ:Bl Try.prog 57 R8:=by
 refine B7 (l:=[(82,Ho)]) CP (by simp only[AW];exact⟨Vi,fun _ h=>absurd h (by simp)⟩) ww (by kernel_rfl) fun T us v b a o g i=>?_;change us.length=6 at a;obtain⟨c,-,-,d,-⟩:=g;replace c:(S T 0).size<=140737488355328:=c;replace d:(S T 3).size<=140737488355328:=d;have p:=inS (j:=0) b a (by decide);have q:=inI (j:=1) b a (by decide);have r:=inI (j:=2) b a (by decide);have s:=inS (j:=3) b a (by decide);have t:=inI (j:=4) b a (by decide);have u:=inI (j:=5) b a (by decide);clear v
 skip
 obtain⟨e,k⟩:=B8 (A:=[.i]) (ag:=oN) o (by kernel_rfl) i;have w:=xb c d e;refine⟨trivial,k.trans ?_⟩;exact (lc (by show U.int (I T 16)= .int (P4 us);unfold P4;rw[p,q,r,s,t,u];exact BI U.int w) rfl)
def NY:List U->Int:=fun us=>(B9 (aI us 2) (aI us 0))
def NH:List U->Int:=fun us=>(Cz (B9 (aI us 2) (aI us 0)) (aI us 3))
def K5:List U->Prop:=fun us=> -10000<=(aI us 2)/\(aI us 2)<=10000/\ -12<=(aI us 3)/\(aI us 3)<=48/\ -100<=(aI us 0)/\(aI us 0)<=100
def Ly:Bf:={ sh:=[.ptr 0 0,.one (k64)],blks:=[([.str,k64,k64],23)],outs:=[(.s "move.0",CW NY),(.s "move.1",CW NH)],c:= .tup [],m':=[.cells [.s 1,(Cy 4),(Cy 5)] 23],pre:=[(.s "move.p0",K5)] }
def lB:List En:=[ABW 4 2 0,
 ⟨5,.o2 .max,[.e 4,.c (.int (-10000))]⟩,
 ⟨6,.o2 .min,[.e 5,.c (.int 10000)]⟩]
def Kl:List En:=lB
def mS:List En:=[⟨8,.lt,[.c (.int (-12)),.e 7]⟩,
 ABU 9 8,
 ABU 10 8,
 ⟨11,.w2 .i64 .sub,[.e 7,.c (.int 1)]⟩,
 ⟨12,.outI "trig.0" Iv,[.e 11]⟩,
 ⟨13,.le,[.e 12,.e 6]⟩,
 ABE 14 8 13,
 ABI 15 14,
 ⟨16,.w2 .i64 .sub,[.e 7,.c (.int 1)]⟩]
def Gg:List En:=mS
def cX:List ObE:=[⟨some 10,.pre "trig.p0" Hb,[.e 11]⟩]
def Qt:Bs:=mkD 7 1 Gg 14 [.e 16] cX [6]
def Un:List Rf:=[.e 6,.e 3]
def aV:List En:=[]
def jZ:List En:=[⟨18,.lt,[.e 17,.c (.int 48)]⟩,
 ABE 19 15 18,
 ABE 20 15 18,
 ⟨21,.w2 .i64 .add,[.e 17,.c (.int 1)]⟩,
 ⟨22,.outI "trig.0" Iv,[.e 21]⟩,
 ⟨23,.le,[.e 6,.e 22]⟩,
 ABE 24 18 23,
 ABE 25 15 24,
 ABF 26 15 24,
 ⟨27,.w2 .i64 .add,[.e 17,.c (.int 1)]⟩]
def JF:List En:=jZ
def aY:List ObE:=[⟨some 20,.pre "trig.p0" Hb,[.e 21]⟩]
def QY:Bs:=mkD 17 1 JF 25 [.e 27] aY [15,6]
def Us:List Rf:=[.e 15,.e 6,.e 7]
def tw:List En:=[]
def wc:List ObE:=[⟨some 15,.owes QY,[.e 15,.e 6,.e 7]⟩,
 ⟨none,.owes Qt,[.e 6,.e 3]⟩]
def ny:List Rf:=[.e 6,.e 17]
theorem w8:Ly.sees ny (Ly.run Try.prog [(69,Lw)] Bp 3000 20 98)=some ((Kl++((B5 Qt [.i] Un)++(Gg++(aV++((B5 QY [.i] Us)++(JF++(tw))))))).map En.be,wc.map ObE.be,[]):=by kernel_rfl
abbrev aat(T:Tab):Prop:=-10000<=I T 2/\I T 2<=10000/\ -12<=I T 3/\I T 3<=48/\ -100<=I T 0/\I T 0<=100
theorem nH (b:aar T)(c:aat T)(a:BV T Kl):
  (-12<=I T 3/\I T 3<=48):=by
 grind
abbrev zd(T:Tab)(a:Int):Prop:=-12<=a/\a <=48/\Cg (I T 6) a=Cg (I T 6) (I T 3)
theorem sW (N: -12<=I T 3/\I T 3<=48)(u:Ba T (Bh (CA 0 Ly.ks) Kl))(r:Bi T (Gg.map En.be))(t:Bi T ((B5 Qt [.i] Un).map En.be)):
  (Qt).owes (Un.map (Rf.eval T))/\Ba T (hds 7 [.i])/\(zd T (I T 7))/\¬B T 14=true:=by
 refine CK (nh:=7) (k:=1) (pcn:=14) (R:=17) (b:=Gg) (K:=cX) (nxt:=[.e 16]) (H:=[.e 3]) (fv:=[6]) (A:=[.i]) (by kernel_rfl) rfl rfl rfl rfl u (by kernel_rfl) (by kernel_rfl) r (B6 t) (fun s=> zd T (aI s 0)) (fun s=>((aI s 0)+12).toNat) ?_ ?_
 .show zd T (I T 3);grind
 .intro J v g l;replace l: zd T (I J 7):=l;clear u r t;replace g:BV J Gg:=g;have i:=g;clear g;have w:=fvI (v 6 (by decide));clear v
  suffices y:(B J 10=true-> -100<=I J 11/\I J 11<=100)/\(B J 14=true->(zd T (I J 16)))/\(B J 14=true->((I J 16)+12).toNat < ((I J 7)+12).toNat) from
   let⟨D,C,z⟩:=y;⟨⟨D,trivial⟩,fun h=>⟨C h,z h⟩⟩
  refine⟨?_,?_,?_⟩
  .obtain⟨-,-,-,a,-⟩:=i;simp only[BS,zR,w2P] at a;grind
  .obtain⟨e,-,-,a,j,o,c,-,d,-⟩:=i;replace j:I J 12=(Dp (I J 11)):=j;simp only[BS,BZ,zR,w2P] at e a o c d;obtain⟨O,P,E⟩:=l;intro h;have q:=c.1 h;have x:=e.1 q.1;have p:=o.1 q.2;have F:=o2' a (by omega);have M:=o2' d (by omega);rw[j,F,w] at p;refine⟨by omega,by omega,?_⟩;rw[M,<-E];exact (Sc x p).symm
  .obtain⟨e,-,-,-,-,-,c,-,d,-⟩:=i;simp only[BS,BZ,zR,w2P] at e c d;grind
theorem nG (d:aar T)(h:aat T)(c: -12<=I T 3/\I T 3<=48)(e: zd T (I T 7))(g:¬B T 14=true)(a:BV T Kl)(b:BV T Gg):
  (-12<=I T 7/\I T 7<=48):=by
 grind
abbrev ze(T:Tab)(a:Int):Prop:=-12<=a/\a <=48/\upG (I T 6) a=upG (I T 6) (I T 7)
theorem rN (P: -12<=I T 7/\I T 7<=48)(w:Ba T (Bh (Bh (hds 7 [.i]++(Bh (CA 0 Ly.ks) Kl)) Gg) aV))(u:Bi T (JF.map En.be))(v:Bi T ((B5 QY [.i] Us).map En.be)):
  (QY).owes (Us.map (Rf.eval T))/\Ba T (hds 17 [.i])/\(ze T (I T 17))/\¬B T 25=true:=by
 refine CK (nh:=17) (k:=1) (pcn:=25) (R:=28) (b:=JF) (K:=aY) (nxt:=[.e 27]) (H:=[.e 7]) (fv:=[15,6]) (A:=[.i]) (by kernel_rfl) rfl rfl rfl rfl w (by kernel_rfl) (by kernel_rfl) u (B6 v) (fun s=> ze T (aI s 0)) (fun s=>(48 - (aI s 0)).toNat) ?_ ?_
 .show ze T (I T 7);grind
 .intro J o h p;replace p: ze T (I J 17):=p;clear w u v;replace h:BV J JF:=h;have j:=h;clear h;have O:=fvB (o 15 (by decide));have x:=fvI (o 6 (by decide));clear o
  suffices z:(B J 20=true-> -100<=I J 21/\I J 21<=100)/\(B J 25=true->(ze T (I J 27)))/\(B J 25=true->(48 - (I J 27)).toNat < (48 - (I J 17)).toNat) from
   let⟨E,D,C⟩:=z;⟨⟨E,trivial⟩,fun i=>⟨D i,C i⟩⟩
  refine⟨?_,?_,?_⟩
  .obtain⟨-,-,-,c,-⟩:=j;simp only[BS,zR,w2P] at c;grind
  .obtain⟨a,-,-,c,l,q,d,e,-,g,-⟩:=j;replace l:I J 22=(Dp (I J 21)):=l;simp only[BS,BZ,zR,w2P] at a c q d e g;obtain⟨Q,V,F⟩:=p;intro i;have t:=d.1 (e.1 i).2;have y:=a.1 t.1;have r:=q.1 t.2;have M:=o2' c (by omega);have N:=o2' g (by omega);rw[l,M,x] at r;refine⟨by omega,by omega,?_⟩;rw[N,<-F];exact (XH y r).symm
  .obtain⟨a,-,-,-,-,-,d,e,-,g,-⟩:=j;simp only[BS,BZ,zR,w2P] at a d e g;grind
theorem we (W:aar T)(p:aat T)(V: -12<=I T 3/\I T 3<=48)(D: zd T (I T 7))(X:¬B T 14=true)(Q: -12<=I T 7/\I T 7<=48)(E: ze T (I T 17))(Y:¬B T 25=true)(h:BV T Kl)(i:BV T Gg)(j:BV T JF):
  ((I T 6)=(B9 (I T 2) (I T 0)))/\
  ((I T 17)=(Cz (B9 (I T 2) (I T 0)) (I T 3))):=by
 have k:=h;clear h;have q:=i;clear i;have r:=j;clear j;refine⟨?_,?_⟩
 .obtain⟨b,c,d,-⟩:=k;simp only[BS,zR,EK,w2P] at b c d;obtain⟨F,H,J,K,M,N⟩:=p;have g:=o2' b (by omega);have e:(I T 6)=B9 (I T 2) (I T 0):=by
   unfold B9;rw[d,c,g];omega
  exact e
 .obtain⟨b,c,d,-⟩:=k;obtain⟨C,-,-,s,l,t,u,v,-⟩:=q;obtain⟨w,-,-,x,o,y,z,A,-⟩:=r;replace l:I T 12=(Dp (I T 11)):=l;replace o:I T 22=(Dp (I T 21)):=o;simp only[BS,BZ,zR,EK,w2P] at b c d C s t u v w x y z A;obtain⟨F,H,J,K,M,N⟩:=p;have g:=o2' b (by omega);have e:(I T 6)=B9 (I T 2) (I T 0):=by
   unfold B9;rw[d,c,g];omega
  obtain⟨Z,v2,O⟩:=D;obtain⟨aO,w2,P⟩:=E;rw[<-e];unfold Cz;have hd:Cg (I T 6) (I T 3)=I T 7:=by
   rw[<-O];refine Sg fun a=>?_;grind
  rw[hd,<-P];refine (XW fun a=>?_).symm;grind
theorem ug:Bl Try.prog 98 Ly:=by
 refine B7 (l:=[(69,Lw)]) CP (by simp only[AW];exact⟨ib,fun _ h=>absurd h (by simp)⟩) w8 (by kernel_rfl) fun T us y r o g E a=>?_;change us.length=4 at o;obtain⟨-,k,-⟩:=E;replace k:(S T 1).size<=140737488355328:=k;have v:=inI (j:=0) r o (by decide);have w:=inI (j:=2) r o (by decide);have H:=inI (j:=3) r o (by decide);have t: -10000<=I T 2/\I T 2<=10000/\ -12<=I T 3/\I T 3<=48/\ -100<=I T 0/\I T 0<=100:=by
  have h:=y (.s "move.p0",K5) (by simp[Ly]);change K5 us at h;unfold K5 at h;grind
 clear y;rw[AL,AL,AL,AL,AL,AL] at a;obtain⟨d,a⟩:=cutB a;obtain⟨e,a⟩:=cutB a;obtain⟨b,a⟩:=cutB a;obtain⟨p,c⟩:=Be g (by kernel_rfl) d;have s:=nH k t p;obtain⟨M,i,z,C⟩:=sW s c b e;have q:=(Be (i.append c) (l:=Gg) (by kernel_rfl) b);obtain⟨u,g⟩:=q;clear d b e c i;obtain⟨d,a⟩:=cutB a;obtain⟨e,a⟩:=cutB a;obtain⟨b,a⟩:=cutB a;obtain⟨Q,c⟩:=Be g (by kernel_rfl) d;have x:=nG k t s z C p u;obtain⟨N,i,J,K⟩:=rN x c b e;have q:=(Be (i.append c) (l:=JF) (by kernel_rfl) b);obtain⟨D,g⟩:=q;clear d b e c i;obtain⟨V,F⟩:=B8 (A:=[.i,.i]) (ag:=ny) g (by kernel_rfl) a;obtain⟨O,P⟩:=we k t s z C x J K p u D;refine⟨⟨(fun _=>N),(fun _=>M),trivial⟩,F.trans ?_⟩;exact (lc (by show U.int (I T 6)= .int (NY us);unfold NY;rw[v,w];exact BI U.int O) (lc (by show U.int (I T 17)= .int (NH us);unfold NH;rw[v,w,H];exact BI U.int P) rfl))
def OK:List U->ByteArray:=fun us=>(if Cq (aS us 0) (aI us 1) (aI us 2) (aS us 3) (aI us 4) (aI us 5)=0 then (aS us 0) else (⟨#[]⟩:ByteArray))
def yR:List U->Int:=fun us=>(if Cq (aS us 0) (aI us 1) (aI us 2) (aS us 3) (aI us 4) (aI us 5)=0 then B9 (aI us 1) (CJ (aI us 1) (aI us 4) (aB us 6)) else 0)
def OF:List U->Int:=fun us=>(if Cq (aS us 0) (aI us 1) (aI us 2) (aS us 3) (aI us 4) (aI us 5)=0 then Cz (B9 (aI us 1) (CJ (aI us 1) (aI us 4) (aB us 6))) (aI us 2) else 0)
def Oo:List U->ByteArray:=fun us=>(if Cq (aS us 0) (aI us 1) (aI us 2) (aS us 3) (aI us 4) (aI us 5)=0 then (aS us 3) else (⟨#[]⟩:ByteArray))
def OY:List U->Int:=fun us=>(if Cq (aS us 0) (aI us 1) (aI us 2) (aS us 3) (aI us 4) (aI us 5)=0 then B9 (aI us 4) (-(CJ (aI us 1) (aI us 4) (aB us 6))) else 0)
def Oi:List U->Int:=fun us=>(if Cq (aS us 0) (aI us 1) (aI us 2) (aS us 3) (aI us 4) (aI us 5)=0 then Cz (B9 (aI us 4) (-(CJ (aI us 1) (aI us 4) (aB us 6)))) (aI us 5) else 0)
def OE:List U->Int:=fun us=>(Cq (aS us 0) (aI us 1) (aI us 2) (aS us 3) (aI us 4) (aI us 5))
def Pp:Bf:={ sh:=[.agg [.str,k64,k64],.agg [.str,k64,k64],.one (.bool)],blks:=[],outs:=[(.s "Count.0",lE OK),(.s "Count.1",CW yR),(.s "Count.2",CW OF),(.s "Count.3",lE Oo),(.s "Count.4",CW OY),(.s "Count.5",CW Oi),(.s "Count.6",CW OE)],c:= .tup [.agg [.s 7,(Cy 8),(Cy 9)],.agg [.s 10,(Cy 11),(Cy 12)],(Cy 13)],m':=[],pre:=[] }
def fx:List En:=[⟨7,.outI "pair.0" P4,[.e 0,.e 1,.e 2,.e 3,.e 4,.e 5]⟩,
 ⟨8,.ne,[.e 7,.c (.int 0)]⟩,
 ABI 9 8,
 ⟨10,.outI "gain.0" Nc,[.e 1,.e 4,.e 6]⟩,
 ⟨11,.outI "move.0" NY,[.e 10,.e 0,.e 1,.e 2]⟩,
 ⟨12,.outI "move.1" NH,[.e 10,.e 0,.e 1,.e 2]⟩,
 ⟨13,.wneg .i64,[.e 10]⟩,
 ⟨14,.outI "move.0" NY,[.e 13,.e 3,.e 4,.e 5]⟩,
 ⟨15,.outI "move.1" NH,[.e 13,.e 3,.e 4,.e 5]⟩,
 ABT 16 8 1 11,
 ABT 17 8 2 12,
 ABT 18 8 4 14,
 ABT 19 8 5 15,
 ⟨20,.ite .s,[.e 8,.c (.str ⟨#[]⟩),.e 0]⟩,
 ⟨21,.ite .i,[.e 8,.c (.int 0),.e 11]⟩,
 ⟨22,.ite .i,[.e 8,.c (.int 0),.e 12]⟩]
def gI:List En:=[⟨23,.ite .s,[.e 8,.c (.str ⟨#[]⟩),.e 3]⟩,
 ⟨24,.ite .i,[.e 8,.c (.int 0),.e 14]⟩,
 ⟨25,.ite .i,[.e 8,.c (.int 0),.e 15]⟩,
 ⟨26,.ite .i,[.e 8,.e 7,.c (.int 0)]⟩,
 ABG 27 8 9]
def YR:List En:=fx++(gI)
def vi:List ObE:=[⟨some 9,.pre "move.p0" K5,[.e 13,.e 3,.e 4,.e 5]⟩,
 ⟨some 9,.pre "move.p0" K5,[.e 10,.e 0,.e 1,.e 2]⟩,
 ⟨some 9,.pre "gain.p0" K8,[.e 1,.e 4,.e 6]⟩]
def iL:List Rf:=[.e 20,.e 21,.e 22,.e 23,.e 24,.e 25,.e 26]
theorem wG:Pp.sees iL (Pp.run Try.prog [(57,R8),(60,Ls),(98,Ly)] Bp 3000 20 16)=some ((YR).map En.be,vi.map ObE.be,[]):=by kernel_rfl
theorem wK (J:(S T 0).size<=140737488355328)(K:(S T 3).size<=140737488355328)(r:BV T YR):
  ((S T 20)=(if Cq (S T 0) (I T 1) (I T 2) (S T 3) (I T 4) (I T 5)=0 then (S T 0) else (⟨#[]⟩:ByteArray)))/\
  ((I T 21)=(if Cq (S T 0) (I T 1) (I T 2) (S T 3) (I T 4) (I T 5)=0 then B9 (I T 1) (CJ (I T 1) (I T 4) (B T 6)) else 0))/\
  ((I T 22)=(if Cq (S T 0) (I T 1) (I T 2) (S T 3) (I T 4) (I T 5)=0 then Cz (B9 (I T 1) (CJ (I T 1) (I T 4) (B T 6))) (I T 2) else 0))/\
  ((S T 23)=(if Cq (S T 0) (I T 1) (I T 2) (S T 3) (I T 4) (I T 5)=0 then (S T 3) else (⟨#[]⟩:ByteArray)))/\
  ((I T 24)=(if Cq (S T 0) (I T 1) (I T 2) (S T 3) (I T 4) (I T 5)=0 then B9 (I T 4) (-(CJ (I T 1) (I T 4) (B T 6))) else 0))/\
  ((I T 25)=(if Cq (S T 0) (I T 1) (I T 2) (S T 3) (I T 4) (I T 5)=0 then Cz (B9 (I T 4) (-(CJ (I T 1) (I T 4) (B T 6)))) (I T 5) else 0))/\
  ((I T 26)=(Cq (S T 0) (I T 1) (I T 2) (S T 3) (I T 4) (I T 5)))/\
  (B T 9=true-> -10000<=I T 4/\I T 4<=10000/\ -12<=I T 5/\I T 5<=48/\ -100<=I T 13/\I T 13<=100)/\
  (B T 9=true-> -10000<=I T 1/\I T 1<=10000/\ -12<=I T 2/\I T 2<=48/\ -100<=I T 10/\I T 10<=100)/\
  (B T 9=true-> -10000<=I T 1/\I T 1<=10000/\ -10000<=I T 4/\I T 4<=10000):=by
 obtain⟨g,r⟩:=r.cut;have s:=r;clear r;refine⟨?_,?_,?_,?_,?_,?_,?_,?_,?_,?_⟩
 .obtain⟨b,c,-,-,-,-,-,-,-,-,-,-,-,y,-⟩:=g;replace b:I T 7=(Cq (S T 0) (I T 1) (I T 2) (S T 3) (I T 4) (I T 5)):=b;simp only[BS,BZ,zR,zL,zS] at c y;by_cases h:(I T 7)=0
  .have e:¬B T 8=true:=fun a=>(c.1 a) h;rw[y,BG e,<-b,BH h]
  .rw[y,BH (c.2 h),<-b,BG h]
 .obtain⟨b,c,-,d,u,-,-,-,-,-,-,-,-,-,z,-⟩:=g;replace b:I T 7=(Cq (S T 0) (I T 1) (I T 2) (S T 3) (I T 4) (I T 5)):=b;replace d:I T 10=(CJ (I T 1) (I T 4) (B T 6)):=d;replace u:I T 11=(B9 (I T 1) (I T 10)):=u;simp only[BS,BZ,zR,zL,zS] at c z;by_cases h:(I T 7)=0
  .have e:¬B T 8=true:=fun a=>(c.1 a) h;rw[z,BG e,<-b,BH h];rw[u,d]
  .rw[z,BH (c.2 h),<-b,BG h]
 .obtain⟨b,c,-,d,-,v,-,-,-,-,-,-,-,-,-,A,-⟩:=g;replace b:I T 7=(Cq (S T 0) (I T 1) (I T 2) (S T 3) (I T 4) (I T 5)):=b;replace d:I T 10=(CJ (I T 1) (I T 4) (B T 6)):=d;replace v:I T 12=(Cz (B9 (I T 1) (I T 10)) (I T 2)):=v;simp only[BS,BZ,zR,zL,zS] at c A;by_cases h:(I T 7)=0
  .have e:¬B T 8=true:=fun a=>(c.1 a) h;rw[A,BG e,<-b,BH h];rw[v,d]
  .rw[A,BH (c.2 h),<-b,BG h]
 .obtain⟨b,c,-⟩:=g;obtain⟨C,-⟩:=s;replace b:I T 7=(Cq (S T 0) (I T 1) (I T 2) (S T 3) (I T 4) (I T 5)):=b;simp only[BS,BZ,zR,zL,zS] at c C;by_cases h:(I T 7)=0
  .have e:¬B T 8=true:=fun a=>(c.1 a) h;rw[C,BG e,<-b,BH h]
  .rw[C,BH (c.2 h),<-b,BG h]
 .obtain⟨b,c,-,d,-,-,i,w,-⟩:=g;obtain⟨-,D,-⟩:=s;replace b:I T 7=(Cq (S T 0) (I T 1) (I T 2) (S T 3) (I T 4) (I T 5)):=b;replace d:I T 10=(CJ (I T 1) (I T 4) (B T 6)):=d;replace w:I T 14=(B9 (I T 4) (I T 13)):=w;simp only[BS,BZ,zR,w2P,wnP,zL,zS] at c i D;by_cases h:(I T 7)=0
  .have e:¬B T 8=true:=fun a=>(c.1 a) h;rw[D,BG e,<-b,BH h];have k:=EH (I T 1) (I T 4) (B T 6);rw[<-d] at k;have t:=o2' i.1 (by omega);rw[w,t,d]
  .rw[D,BH (c.2 h),<-b,BG h]
 .obtain⟨b,c,-,d,-,-,i,-,x,-⟩:=g;obtain⟨-,-,E,-⟩:=s;replace b:I T 7=(Cq (S T 0) (I T 1) (I T 2) (S T 3) (I T 4) (I T 5)):=b;replace d:I T 10=(CJ (I T 1) (I T 4) (B T 6)):=d;replace x:I T 15=(Cz (B9 (I T 4) (I T 13)) (I T 5)):=x;simp only[BS,BZ,zR,w2P,wnP,zL,zS] at c i E;by_cases h:(I T 7)=0
  .have e:¬B T 8=true:=fun a=>(c.1 a) h;rw[E,BG e,<-b,BH h];have k:=EH (I T 1) (I T 4) (B T 6);rw[<-d] at k;have t:=o2' i.1 (by omega);rw[x,t,d]
  .rw[E,BH (c.2 h),<-b,BG h]
 .obtain⟨b,c,-⟩:=g;obtain⟨-,-,-,F,-⟩:=s;replace b:I T 7=(Cq (S T 0) (I T 1) (I T 2) (S T 3) (I T 4) (I T 5)):=b;simp only[BS,BZ,zR,zL,zS] at c F;rw[F,<-b];split
  .rfl
  .rename_i e;by_cases h:(I T 7)=0
   .exact h.symm
   .exact absurd (c.2 h) e
 .obtain⟨b,c,j,d,-,-,i,-⟩:=g;replace b:I T 7=(Cq (S T 0) (I T 1) (I T 2) (S T 3) (I T 4) (I T 5)):=b;replace d:I T 10=(CJ (I T 1) (I T 4) (B T 6)):=d;simp only[BS,BZ,zR,w2P,wnP] at c j i;intro o;have l:(I T 7)=0:=by
   by_cases h:(I T 7)=0
   .exact h
   .exact absurd (c.2 h) (j.1 o)
  obtain⟨p,q,H⟩:=Uz (b.symm.trans l);rw[G9] at p q;have k:=EH (I T 1) (I T 4) (B T 6);rw[<-d] at k;have t:=o2' i.1 (by omega);omega
 .obtain⟨b,c,j,d,-⟩:=g;replace b:I T 7=(Cq (S T 0) (I T 1) (I T 2) (S T 3) (I T 4) (I T 5)):=b;replace d:I T 10=(CJ (I T 1) (I T 4) (B T 6)):=d;simp only[BS,BZ,zR] at c j;intro o;have l:(I T 7)=0:=by
   by_cases h:(I T 7)=0
   .exact h
   .exact absurd (c.2 h) (j.1 o)
  obtain⟨p,q,H⟩:=Uz (b.symm.trans l);rw[G9] at p q;have k:=EH (I T 1) (I T 4) (B T 6);rw[<-d] at k;omega
 .obtain⟨b,c,j,-⟩:=g;replace b:I T 7=(Cq (S T 0) (I T 1) (I T 2) (S T 3) (I T 4) (I T 5)):=b;simp only[BS,BZ,zR] at c j;intro o;have l:(I T 7)=0:=by
   by_cases h:(I T 7)=0
   .exact h
   .exact absurd (c.2 h) (j.1 o)
  obtain⟨p,q,H⟩:=Uz (b.symm.trans l);rw[G9] at p q;omega
theorem tD:Bl Try.prog 16 Pp:=by
 refine B7 (l:=[(57,R8),(60,Ls),(98,Ly)]) CP (by simp only[AW];exact⟨vZ,iC,ug,fun _ h=>absurd h (by simp)⟩) wG (by kernel_rfl) fun T us w b a v s t=>?_;change us.length=7 at a;obtain⟨p,-,-,q,-⟩:=s;replace p:(S T 0).size<=140737488355328:=p;replace q:(S T 3).size<=140737488355328:=q;have c:=inS (j:=0) b a (by decide);have d:=inI (j:=1) b a (by decide);have e:=inI (j:=2) b a (by decide);have g:=inS (j:=3) b a (by decide);have i:=inI (j:=4) b a (by decide);have k:=inI (j:=5) b a (by decide);have o:=inB (j:=6) b a (by decide);clear w
 skip
 obtain⟨r,u⟩:=B8 (A:=[.s,.i,.i,.s,.i,.i,.i]) (ag:=iL) v (by kernel_rfl) t;obtain⟨x,y,z,C,D,E,F,H,ay,aG⟩:=wK p q r;refine⟨⟨H,ay,aG,trivial⟩,u.trans ?_⟩;exact (lc (by show U.str (S T 20)= .str (OK us);unfold OK;rw[c,d,e,g,i,k];exact BI U.str x) (lc (by show U.int (I T 21)= .int (yR us);unfold yR;rw[c,d,e,g,i,k,o];exact BI U.int y) (lc (by show U.int (I T 22)= .int (OF us);unfold OF;rw[c,d,e,g,i,k,o];exact BI U.int z) (lc (by show U.str (S T 23)= .str (Oo us);unfold Oo;rw[c,d,e,g,i,k];exact BI U.str C) (lc (by show U.int (I T 24)= .int (OY us);unfold OY;rw[c,d,e,g,i,k,o];exact BI U.int D) (lc (by show U.int (I T 25)= .int (Oi us);unfold Oi;rw[c,d,e,g,i,k,o];exact BI U.int E) (lc (by show U.int (I T 26)= .int (OE us);unfold OE;rw[c,d,e,g,i,k];exact BI U.int F) rfl)))))))
def Uy:List U->Int:=fun us=>(DC (aI us 0) (aI us 1))
def SG:Bf:={ sh:=[.one (k64),.one (k64)],blks:=[],outs:=[(.s "cmpJ.0",CW Uy)],c:=(Cy 2),m':=[],pre:=[] }
def jF:List En:=[ABH 2 0 1,
 ABI 3 2,
 ABH 4 1 0,
 ABE 5 3 4,
 ABF 6 3 4,
 ⟨7,.ite .i,[.e 5,.c (.int 1),.c (.int 0)]⟩,
 ABG 8 5 6,
 ⟨9,.ite .i,[.e 2,.c (.int (-1)),.e 7]⟩,
 ABG 10 2 8]
def cC:List En:=jF
def wS:List ObE:=[]
def nJ:List Rf:=[.e 9]
theorem wt:SG.sees nJ (SG.run Try.prog [] Bp 3000 20 124)=some ((cC).map En.be,wS.map ObE.be,[]):=by kernel_rfl
theorem xO (g:BV T cC):
  ((I T 9)=(DC (I T 0) (I T 1))):=by
 have k:=g;clear g
 .obtain⟨c,h,d,e,-,i,-,j,-⟩:=k;simp only[BS,BZ,zR,zL,zS] at c h d e i j;unfold DC;rw[j,i];by_cases O:(I T 0) < I T 1
  .rw[BH (c.2 O),BH O]
  .have C:¬B T 2=true:=fun a=>O (c.1 a);rw[BG C,BG O];by_cases b:(I T 1) < I T 0
   .rw[BH (e.2 ⟨h.2 C,d.2 b⟩),BH b]
   .rw[BG (fun a=>b (d.1 (e.1 a).2)),BG b]
theorem vq:Bl Try.prog 124 SG:=by
 refine B7 (l:=[]) CP (by intro p h;exact absurd h (by simp)) wt (by kernel_rfl) fun T us q b a i d e=>?_;change us.length=2 at a;clear d;have k:=inI (j:=0) b a (by decide);have o:=inI (j:=1) b a (by decide);clear q
 skip
 obtain⟨c,g⟩:=B8 (A:=[.i]) (ag:=nJ) i (by kernel_rfl) e;have r:=xO c;refine⟨trivial,g.trans ?_⟩;exact (lc (by show U.int (I T 9)= .int (Uy us);unfold Uy;rw[k,o];exact BI U.int r) rfl)
end
end Go.Eng
end
