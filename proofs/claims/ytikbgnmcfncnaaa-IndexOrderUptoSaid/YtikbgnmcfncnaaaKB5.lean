/-
  A part of the proof: the evaluator of code and its soundness.
-/
import Derived.Test.YtikbgnmcfncnaaaKB4
import Derived.Test.YtikbgnmcfncnaaaE4
import Derived.Test.YtikbgnmcfncnaaaE5
import Derived.Test.YtikbgnmcfncnaaaKB3
import Derived.Test.YtikbgnmcfncnaaaKB2
set_option linter.unusedVariables false
set_option linter.unusedSimpArgs false
noncomputable section
namespace Go.Eng
section
open Go Go.Eng Go.Proofs
set_option maxHeartbeats 4000000
set_option maxRecDepth 100000
theorem yr:Ez.sees iX (Ez.run Try.prog [(138,Hm),(139,De 41)] Ab 3000 20 122)=some ((If++((Ad OL [.i,.i,.l] SY)++(C1++(GV++((Ad OA [.i,.i,.i,.l] Ra)++(Ip++(rh))))))).map En.be,xT.map ObE.be,[]):=by kernel_rfl
abbrev gf(T:Tab):Prop:=I T 2<=40/\I T 2=I T 1/\(I T 13=20\/I T 13=40)/\(I T 13=20->20 < I T 2->(L T 14).length=I T 1/\Srt ltT (seg (L T 14) 0 20)/\Srt ltT (seg (L T 14) 20 (I T 2).toNat)/\Dst ltT (seg (L T 14) 0 (I T 2).toNat))
variable{T:Tab}
theorem oB (g:gf T)(a:AE T Fu):
  (B T 16=true->I T 13=20/\20 < I T 2/\I T 18=40):=by
 have e:=a;clear a;have au:B T 16=true->I T 13=20/\20 < I T 2/\I T 18=40:=by
  obtain⟨b,c,-,d,-⟩:=e;simp only[AD,AG,zR,w2P] at b c d;intro h;obtain⟨j,E,k,-⟩:=g;have i:=b.1 (c.1 h).2;have l:=o2' d (by omega);omega
 exact au
theorem qZ (w:gf T)(au:B T 16=true->I T 13=20/\20 < I T 2/\I T 18=40)(z:AK T (AO (hds 11 [.i,.i,.i,.l]++EB [1,2,7] (AO (AO (hds 3 [.i,.i,.l]++(AO (Aj 0 Ez.ks) If)) C1) GV)) Fu))(x:AR T (EJ.map En.be))(y:AR T ((Ad LF [.i,.i,.l] N6).map En.be)):
  (LF).owes (N6.map (Rf.eval T))/\AK T (hds 19 [.i,.i,.l])/\(Gx T (I T 19) (I T 20) (L T 21))/\¬B T 23=true:=by
 refine Ap (nh:=19) (k:=3) (pcn:=23) (an:=29) (H:=EJ) (K:=ZA) (nxt:=[.e 20,.e 28,.e 26]) (A:=[.c (.int 0),.e 18,.e 14]) (fv:=[13,1,16,2]) (R:=[.i,.i,.l]) (by kernel_rfl) rfl rfl rfl rfl z (by kernel_rfl) (by kernel_rfl) x (Ae y) (fun s=>Gx T (aI s 0) (aI s 1) (aL s 2)) (fun s=>(I T 2+1 - (aI s 1)).toNat) ?_ ?_
 .show Gx T (0:Int) (I T 18) (L T 14);clear z x y;intro a;exact .inl ⟨rfl,(au a).2.2,rfl⟩
 .intro J h o i;replace i:Gx T (I J 19) (I J 20) (L J 21):=i;clear z x y;replace o:AE J EJ:=o;have W:=o;clear o;have a0:=fvI (h 13 (by decide));have X:=fvI (h 1 (by decide));have u:=fvB (h 16 (by decide));have v:=fvI (h 2 (by decide));clear h;obtain⟨j,l,-,p,q,r,t,-⟩:=id W;replace q:L J 26=(AQ ltT (L J 21) (I J 19).toNat (I J 20).toNat):=q;simp only[AD,AG,zR,w2P] at j l p r t
  suffices Z:(B J 23=true->(I J 20).toNat - (I J 19).toNat < 41/\(L J 21).length=I J 1/\0<=I J 19/\I J 19 < I J 25/\I J 25 < I J 20/\I J 20<=I J 1/\Srt ltT (seg (L J 21) (I J 19).toNat (I J 25).toNat)/\Srt ltT (seg (L J 21) (I J 25).toNat (I J 20).toNat)/\Dst ltT (seg (L J 21) (I J 19).toNat (I J 20).toNat))/\(B J 23=true->(Gx T (I J 20) (I J 28) (L J 26)))/\(B J 23=true->(I T 2+1 - (I J 28)).toNat < (I T 2+1 - (I J 20)).toNat) from
   let⟨r0,nx,mz⟩:=Z;⟨⟨r0,trivial⟩,fun c=>⟨nx c,mz c⟩⟩
  refine⟨?_,?_,?_⟩
  .intro c;have b:=l.1 c;have a:B T 16=true:=by rw[<-u];exact b.1
   obtain⟨D,F,V⟩:=au a;obtain⟨M,E,N,C⟩:=w;obtain⟨t1,t2,O,P⟩:=C D F;have g:=j.1 b.2;rw[v] at g;have zz:True:=by have _:=p;trivial
   rcases i a with⟨aG,d,e⟩|⟨aG,d,e,Q⟩
   .have a2:=o2' p (by omega);rw[e,aG,d,X,show (I J 25).toNat=20 by omega];have Y:(I T 2).toNat=40:=by omega
    rw[Y] at O P;exact⟨by decide,t1,by omega,by omega,by omega,by omega,t2,O,P⟩
   .omega
  .intro c hq;have b:=l.1 c;have a:B T 16=true:=by rw[<-u];exact b.1
   obtain⟨D,F,V⟩:=au a;obtain⟨M,E,N,C⟩:=w;have g:=j.1 b.2;rw[v] at g;have aw:=o2' r (by omega);rcases i a with⟨aG,d,e⟩|⟨aG,d,e,Q⟩
   .have ax:=o2' t (by omega);refine .inr ⟨d,by omega,by omega,?_⟩;rw[q,aG,d,e];rfl
   .omega
  .intro c;have b:=l.1 c;have a:B T 16=true:=by rw[<-u];exact b.1
   obtain⟨D,F,V⟩:=au a;obtain⟨M,E,N,C⟩:=w;have g:=j.1 b.2;rw[v] at g;have aw:=o2' r (by omega);rcases i a with⟨aG,d,e⟩|⟨aG,d,e,Q⟩
   .have ax:=o2' t (by omega);omega
   .omega
theorem YT (g:gf T)(c:AK T (hds 11 [.i,.i,.i,.l]++EB [1,2,7] (AO (AO (hds 3 [.i,.i,.l]++(AO (Aj 0 Ez.ks) If)) C1) GV)))(a:AR T (Ip.map En.be)):
  (AE T Fu)/\(B T 16=true->I T 13=20/\20 < I T 2/\I T 18=40)/\((LF).owes (N6.map (Rf.eval T)))/\(Gx T (I T 19) (I T 20) (L T 21))/\(¬B T 23=true)/\(AE T EJ)/\(AE T K3)/\AK T (AO (AO (hds 19 [.i,.i,.l]++(AO (hds 11 [.i,.i,.i,.l]++EB [1,2,7] (AO (AO (hds 3 [.i,.i,.l]++(AO (Aj 0 Ez.ks) If)) C1) GV)) Fu)) EJ) K3):=by
 unfold Ip at a;rw[ABI,ABI,ABI] at a;obtain⟨h,a⟩:=cutB a;obtain⟨i,a⟩:=cutB a;obtain⟨b,a⟩:=cutB a;obtain⟨e,d⟩:=AN c (by kernel_rfl) h;have au:=oB g e;obtain⟨t,j,r,s⟩:=qZ g au d b i;have p:=(AN (j.append d) (l:=EJ) (by kernel_rfl) b);obtain⟨k,c⟩:=p;clear h b i d j;obtain⟨o,q⟩:=AN c (by kernel_rfl) a;exact⟨e,au,t,r,s,k,o,q⟩
theorem qd (M:(L T 0).length=I T 1/\I T 2=I T 1/\I T 1<=40/\(20 < I T 1->Dst ltT (L T 0)))(aP:(L T 10).length=I T 1/\(I T 2<=20->L T 10=AQ ltT (L T 0) 0 (I T 2).toNat)/\(20 < I T 2->L T 10=AQ ltT (AQ ltT (L T 0) 0 20) 20 (I T 2).toNat))(mf:20 < I T 2->(L T 10).length=I T 1/\Srt ltT (seg (L T 10) 0 20)/\Srt ltT (seg (L T 10) 20 (I T 2).toNat)/\Dst ltT (seg (L T 10) 0 (I T 2).toNat)/\AQ ltT (L T 10) 0 (I T 2).toNat=AQ ltT (L T 0) 0 (I T 2).toNat)(F:AK T (AO (AO (hds 3 [.i,.i,.l]++(AO (Aj 0 Ez.ks) If)) C1) GV))(z:AR T (Ip.map En.be))(D:AR T ((Ad OA [.i,.i,.i,.l] Ra).map En.be)):
  (OA).owes (Ra.map (Rf.eval T))/\AK T (hds 11 [.i,.i,.i,.l])/\(IZ T (I T 13) (L T 14))/\¬B T 24=true:=by
 refine Jz (nh:=11) (k:=4) (pcn:=24) (an:=36) (H:=Ip) (K:=YD) (nxt:=[.e 19,.e 20,.e 35,.e 34]) (A:=[.e 3,.e 4,.c (.int 20),.e 10]) (fv:=[1,2,7]) (R:=[.i,.i,.i,.l]) (by kernel_rfl) rfl rfl rfl rfl F (by kernel_rfl) z (Ae D) (fun s=>IZ T (aI s 2) (aL s 3)) (fun s=>(I T 2 - (aI s 2)).toNat) ?_ ?_
 .show IZ T (20:Int) (L T 10);clear F z D;exact .inl ⟨rfl,rfl⟩
 .intro J q ao hE l;replace l:IZ T (I J 13) (L J 14):=l;have ba:=fvI (q 1 (by decide));have d:=fvI (q 2 (by decide));have bx:=fvB (q 7 (by decide));clear q;clear F z D;have g1:I J 2<=40/\I J 2=I J 1/\(I J 13=20\/I J 13=40)/\(I J 13=20->20 < I J 2->(L J 14).length=I J 1/\Srt ltT (seg (L J 14) 0 20)/\Srt ltT (seg (L J 14) 20 (I J 2).toNat)/\Dst ltT (seg (L J 14) 0 (I J 2).toNat)):=by
   obtain⟨p0,p1,p2,p3⟩:=M;rw[d,ba];refine⟨by omega,by omega,?_,fun C O=>?_⟩
   .rcases l with⟨e,b⟩|⟨e,b,v3⟩
    .exact .inl e
    .exact .inr e
   .rcases l with⟨e,b⟩|⟨e,b,v3⟩
    .rw[b];obtain⟨r,t,u,v,N⟩:=mf O;exact⟨r,t,u,v⟩
    .omega
  obtain⟨X,au,bm,ax,b2,W,Y,aw⟩:=YT g1 ao hE;clear ao hE;have hN:=B9 aw (ay:=[.i,.i,.i,.l]) (ai:=[.e 19,.e 20,.e 35,.e 34]) (by kernel_rfl);clear aw;have F0:=X;clear X;have F1:=W;clear W;have F2:=Y;clear Y;obtain⟨-,-,o,-⟩:=id F1;obtain⟨j,p,Z,w,-,x,y,-⟩:=id F2;replace w:L J 32=(AQ ltT (L J 21) (I J 19).toNat (I J 2).toNat):=w;simp only[AD,AG,zN,zR,w2P,zL,zS] at o j p Z x y
  suffices hz:(B J 31=true->(I J 2).toNat - (I J 19).toNat < 41/\(L J 21).length=I J 1/\0<=I J 19/\I J 19 < I J 29/\I J 29 < I J 2/\I J 2<=I J 1/\Srt ltT (seg (L J 21) (I J 19).toNat (I J 29).toNat)/\Srt ltT (seg (L J 21) (I J 29).toNat (I J 2).toNat)/\Dst ltT (seg (L J 21) (I J 19).toNat (I J 2).toNat))/\(B J 24=true->(IZ T (I J 35) (L J 34)))/\(B J 24=true->(I T 2 - (I J 35)).toNat < (I T 2 - (I J 13)).toNat) from
   let⟨r0,nx,mz⟩:=hz;⟨hN,⟨r0,(fun _=>bm),trivial⟩,fun a=>⟨nx a,mz a⟩⟩
  refine⟨?_,?_,?_⟩
  .intro a;obtain⟨i,ag⟩:=Z.1 a;have ad:=(o.1 i).1;obtain⟨V,g,y3⟩:=au ad;obtain⟨k1,E,k3,k4⟩:=g1;obtain⟨r,t,u,v⟩:=k4 V g;have ag:=p.1 ag;rcases ax ad with⟨aG,P,c⟩|⟨aG,P,c,w4⟩
   .have Q:=o2' j (by omega);rw[c,aG,show (I J 29).toNat=20 by omega];exact⟨by omega,r,by omega,by omega,by omega,by omega,t,u,v⟩
   .have Q:=o2' j (by omega);omega
  .obtain⟨p0,p1,p2,p3⟩:=M;intro a;have i:=o.1 a;obtain⟨V,g,y3⟩:=au i.1;rw[d] at g;have bs:=o2' y (by omega);refine .inr ⟨by omega,g,?_⟩;rcases l with⟨e,b⟩|⟨e,b,v3⟩
   .obtain⟨r,t,u,v,N⟩:=mf g;rcases ax i.1 with⟨aG,P,c⟩|⟨aG,P,c,w4⟩
    .have Q:=o2' j (by omega);rw[x,ACE (p.2 (by rw[d];omega)),w,c,aG,b,d];exact N
    .have Q:=o2' j (by omega);rw[x,ACD (fun h=>by have:=p.1 h;rw[d] at this c;omega),w4,b,<-N];rw[d] at c;rw[c];rfl
   .omega
  .obtain⟨p0,p1,p2,p3⟩:=M;intro a;have i:=o.1 a;obtain⟨V,g,y3⟩:=au i.1;rw[d] at g;have bs:=o2' y (by omega);omega
theorem wX:AW Try.prog 122 Ez:=by
 refine An (l:=[(138,Hm),(139,De 41)]) A8 (by simp only[ABT];exact⟨yF,(jR 41),fun _ h=>absurd h (by simp)⟩) yr (by kernel_rfl) fun T us bs hT ab N ce o=>?_;change us.length=3 at ab;obtain⟨⟨bo,cl⟩,⟨bx,bm⟩,-⟩:=ce;replace bo:(L T 0).length<=140737488355328:=bo;have de:∀u∈(L T 0),AL AB KS u:=fun u hu=>by
  obtain⟨i,Y⟩:=ABZ.1 hu;exact cl i u Y
 replace bx:0<=I T 1:=bx;replace bm:I T 1<=140737488355328:=bm;have bk:=inL (j:=0) hT ab (by decide);have ci:=inI (j:=1) hT ab (by decide);have bl:=inI (j:=2) hT ab (by decide);have y:(L T 0).length=I T 1/\I T 2=I T 1/\I T 1<=40/\(20 < I T 1->Dst ltT (L T 0)):=by
  have h:=bs (.s "stabS.p0",Lb) (by simp[Ez]);change Lb us at h;unfold Lb at h;simp only[bk,ci,bl] at h;exact h
 clear bs;rw[ABI,ABI,ABI,ABI,ABI,ABI] at o;obtain⟨F,o⟩:=cutB o;obtain⟨M,o⟩:=cutB o;obtain⟨v,o⟩:=cutB o;obtain⟨A0,t⟩:=AN N (by kernel_rfl) F;refine ACw (Ap (nh:=3) (k:=3) (pcn:=6) (an:=10) (H:=C1) (K:=Y0) (nxt:=[.e 4,.e 9,.e 8]) (A:=[.c (.int 0),.c (.int 20),.e 0]) (fv:=[1,2]) (R:=[.i,.i,.l]) (by kernel_rfl) rfl rfl rfl rfl t (by kernel_rfl) (by kernel_rfl) v (Ae M) (fun s=>GX T (aI s 0) (aI s 1) (aL s 2)) (fun s=>(I T 2+1 - (aI s 1)).toNat)) ?_ ?_ fun⟨c4,P,ad,a1⟩=>?_
 .show GX T (0:Int) (20:Int) (L T 0);exact .inl ⟨rfl,rfl,rfl⟩
 .intro J a0 Z w;replace w:GX T (I J 3) (I J 4) (L J 5):=w;replace Z:AE J C1:=Z;have V:=Z;clear Z;have X:=fvI (a0 1 (by decide));have D:=fvI (a0 2 (by decide));clear a0;obtain⟨q,-,W,e9,-⟩:=id V;replace W:L J 8=(AQ ltT (L J 5) (I J 3).toNat (I J 4).toNat):=W;simp only[AD,zR,w2P] at q e9;obtain⟨x,p1,p2,Q⟩:=y
  suffices hz:(B J 6=true->(L J 5).length=I J 1/\0<=I J 3/\I J 3<=I J 4/\I J 4<=I J 1)/\(B J 6=true->(GX T (I J 4) (I J 9) (L J 8)))/\(B J 6=true->(I T 2+1 - (I J 9)).toNat < (I T 2+1 - (I J 4)).toNat) from
   let⟨r0,nx,mz⟩:=hz;⟨⟨r0,trivial⟩,fun r=>⟨nx r,mz r⟩⟩
  refine⟨?_,?_,?_⟩
  .intro r;have E:=q.1 r;rw[D] at E;rcases w with⟨c,d,e⟩|⟨c,d,e,p⟩|⟨c,d,e,p⟩
   .rw[X,e];omega
   .rw[X,p,By (by omega) (by omega)];omega
   .omega
  .intro r;have E:=q.1 r;rw[D] at E;have x9:=o2' e9 (by omega);rcases w with⟨c,d,e⟩|⟨c,d,e,p⟩|⟨c,d,e,p⟩
   .refine .inr (.inl ⟨d,by omega,by omega,?_⟩);rw[W,c,d,e];rfl
   .refine .inr (.inr ⟨d,by omega,by omega,?_⟩);rw[W,c,d,p];rfl
   .omega
  .intro r;have E:=q.1 r;rw[D] at E;have x9:=o2' e9 (by omega);omega
 replace ad:(I T 3=0/\I T 4=20/\L T 5=L T 0)\/(I T 3=20/\I T 4=40/\20<=I T 2/\L T 5=AQ ltT (L T 0) 0 20)\/(I T 3=40/\I T 4=60/\I T 2=40/\L T 5=AQ ltT (AQ ltT (L T 0) 0 20) 20 40):=ad;have cf:=(AN (P.append t) (l:=C1) (by kernel_rfl) v);obtain⟨B0,N⟩:=cf;clear F v M t P;obtain⟨F,o⟩:=cutB o;obtain⟨M,o⟩:=cutB o;obtain⟨v,o⟩:=cutB o;obtain⟨A1,t⟩:=AN N (by kernel_rfl) F;have V:=B0;have F1:=A1;have aP:(L T 10).length=I T 1/\(I T 2<=20->L T 10=AQ ltT (L T 0) 0 (I T 2).toNat)/\(20 < I T 2->L T 10=AQ ltT (AQ ltT (L T 0) 0 20) 20 (I T 2).toNat):=by
  obtain⟨q,-⟩:=V;obtain⟨z,-⟩:=F1;replace z:L T 10=(AQ ltT (L T 5) (I T 3).toNat (I T 2).toNat):=z;simp only[AD,zR] at q;obtain⟨x,p1,p2,Q⟩:=y;have n6:¬I T 4<=I T 2:=fun h=>a1 (q.2 h);rcases ad with⟨c,d,e⟩|⟨c,d,e,p⟩|⟨c,d,e,p⟩
  .rw[z,c,e];refine⟨?_,fun _=>rfl,fun h=>by omega⟩;rw[By (by omega) (by omega)];exact x
  .rw[z,c,p];have k:=By (lt:=ltT) (l:=L T 0) (a:=0) (b:=20) (by omega) (by omega);refine⟨?_,fun h=>?_,fun h=>rfl⟩
   .rw[By (by omega) (by omega),k];exact x
   .have O:(I T 2).toNat=20:=by omega
    rw[O];exact Iu (ABB _) (ABB _)
  .rw[z,c,p,e];have k:=By (lt:=ltT) (l:=L T 0) (a:=0) (b:=20) (by omega) (by omega);have g:AQ ltT (AQ ltT (AQ ltT (L T 0) 0 20) 20 40) 40 40=AQ ltT (AQ ltT (L T 0) 0 20) 20 40:=Iu (ABB _) (ABB _);refine⟨?_,fun h=>by omega,fun h=>g⟩;show ((AQ ltT (AQ ltT (AQ ltT (L T 0) 0 20) 20 40) 40 40).length:Int)=_;rw[g,By (by omega) (by omega),k];exact x
 have mf:20 < I T 2->(L T 10).length=I T 1/\Srt ltT (seg (L T 10) 0 20)/\Srt ltT (seg (L T 10) 20 (I T 2).toNat)/\Dst ltT (seg (L T 10) 0 (I T 2).toNat)/\AQ ltT (L T 10) 0 (I T 2).toNat=AQ ltT (L T 0) 0 (I T 2).toNat:=by
  obtain⟨x,p1,p2,Q⟩:=y;intro h;obtain⟨az,al,m3⟩:=aP;obtain⟨t1,t2,t3,t4,t5⟩:=cL wkT (l:=L T 0) (m:=20) (n:=(I T 2).toNat) (by omega) (by omega) (Q (by omega)) (m3 h);exact⟨az,t2,t3,t4,t5⟩
 obtain⟨c5,P,bt,c1⟩:=qd y aP mf t v M;have g1:I T 2<=40/\I T 2=I T 1/\(I T 13=20\/I T 13=40)/\(I T 13=20->20 < I T 2->(L T 14).length=I T 1/\Srt ltT (seg (L T 14) 0 20)/\Srt ltT (seg (L T 14) 20 (I T 2).toNat)/\Dst ltT (seg (L T 14) 0 (I T 2).toNat)):=by
  have X:I T 1=I T 1:=rfl;have D:I T 2=I T 2:=rfl;have dd:B T 7=B T 7:=rfl;have w:=bt;obtain⟨x,p1,p2,Q⟩:=y;rw[D,X];refine⟨by omega,by omega,?_,fun C O=>?_⟩
  .rcases w with⟨c,d⟩|⟨c,d,e⟩
   .exact .inl c
   .exact .inr c
  .rcases w with⟨c,d⟩|⟨c,d,e⟩
   .rw[d];obtain⟨t1,t2,t3,t4,t5⟩:=mf O;exact⟨t1,t2,t3,t4⟩
   .omega
 obtain⟨b6,au,dk,di,c2,B2,b7,bi⟩:=YT g1 (P.append (Cj (fun _ _=>rfl) t)) v;have N:=bi.append t;clear F v M t P bi;obtain⟨A3,hO⟩:=Ao (R:=[.l]) (ai:=iX) N (by kernel_rfl) o;have F2:=b6;have F3:=B2;have F4:=b7;obtain⟨q,e7,-⟩:=id V;obtain⟨a6,a7,-⟩:=id F2;obtain⟨-,a8,a9,-⟩:=id F3;simp only[AD,AG,zN,zR] at q e7 a6 a7 a8 a9;obtain⟨x,p1,p2,Q⟩:=y;have q0:L T 14=(AQ ltT (L T 0) 0 (I T 2).toNat):=by
  have cy:¬B T 16=true:=fun bb=>by
   by_cases bc:B T 22=true
   .exact c2 (a8.2 ⟨bb,bc⟩)
   .exact c1 (a9.2 ⟨bb,by simpa using bc⟩)
  have h7:B T 7=true:=by
   rw[e7];cases hb:(B T 6)
   .rfl
   .exact absurd hb a1
  have dj:¬I T 13 < I T 2:=fun h=>cy (a7.2 ⟨h7,a6.2 h⟩);rcases bt with⟨c,d⟩|⟨c,d,e⟩
  .rw[d];exact aP.2.1 (by omega)
  .exact e
 have r0:B T 7=true->(L T 5).length=I T 1/\0<=I T 3/\I T 3<=I T 2/\I T 2<=I T 1:=by
  intro r;have n6:¬I T 4<=I T 2:=fun h=>a1 (q.2 h);rcases ad with⟨c,d,e⟩|⟨c,d,e,p⟩|⟨c,d,e,p⟩
  .rw[e];omega
  .rw[p,By (ABh _) (by omega)];omega
  .have k:=By (lt:=ltT) (l:=L T 0) (a:=0) (b:=20) (by omega) (by omega);rw[p,By (by omega) (by omega),k];omega
 refine⟨⟨(fun _=>c5),r0,(fun _=>c4),trivial⟩,hO.trans ?_⟩;exact (lc (by show U.list (L T 14)= .list (ON us);unfold ON;rw[bk,bl];exact ACF U.list q0) rfl)
def QD:List U->U':=fun us=>(Bc ltT (aL us 0))
def M7:List U->Prop:=fun us=>((aL us 0)).length<=40/\(20 < ((aL us 0)).length->Dst ltT (aL us 0))
def O2:AU:={ sh:=[.one (.list [.str,k64,k64,k64,k64,k64]),.cst (.fn (.func 72) [] [])],blks:=[],outs:=[(.s "ordS.0",CI QD)],c:= .ro 1 [.str,k64,k64,k64,k64,k64],m':=[],pre:=[(.s "ordS.p0",M7)] }
def oU:List En:=[⟨1,.id .l,[.c (.list [])]⟩,
 ⟨2,.id .i,[.c (.int 0)]⟩,
 ADS 3 1 0,
 ADB 4 3,
 ⟨5,.outL "stabS.0" ON,[.e 3,.e 4,.e 4]⟩]
def bL:List En:=oU
def AAP:List ObE:=[⟨none,.pre "stabS.p0" Lb,[.e 3,.e 4,.e 4]⟩,
 ⟨none,.fits 56,[.e 1,.e 0]⟩]
def rM:List Rf:=[.e 5]
theorem zu:O2.sees rM (O2.runC Try.prog GZ [(122,Ez)] Ab 3000 20 71)=some ((bL).map En.be,AAP.map ObE.be,[]):=by kernel_rfl
theorem xp:AW Try.prog 71 O2:=by
 refine HH FB (l:=[(122,Ez)]) A8 (by simp only[ABT];exact⟨wX,fun _ h=>absurd h (by simp)⟩) zu (by kernel_rfl) fun T us o x p w s t=>?_;change us.length=1 at p;obtain⟨⟨k,y⟩,-⟩:=s;replace k:(L T 0).length<=140737488355328:=k;have E:∀u∈(L T 0),AL AB KS u:=fun u z=>by
  obtain⟨i,Y⟩:=ABZ.1 z;exact y i u Y
 have g:=inL (j:=0) x p (by decide);have A:(L T 0).length<=40/\(20 < (L T 0).length->Dst ltT (L T 0)):=by
  have h:=o (.s "ordS.p0",M7) (by simp[O2]);change M7 us at h;unfold M7 at h;simp only[g] at h;exact h
 clear o
 skip
 obtain⟨q,v⟩:=Ao (R:=[.l]) (ai:=rM) w (by kernel_rfl) t;have r:=q;obtain⟨b,-,d,a,e,-⟩:=id r;replace e:L T 5=(AQ ltT (L T 3) 0 (I T 4).toNat):=e;simp only[AD,AG,zR,zL,zS] at b d a;have C:L T 5=(Bc ltT (L T 0)):=by
  have c:L T 3=L T 0:=by rw[d,b];rfl
  rw[e,a,c];exact RO (by omega)
 have D:(L T 3).length=I T 4/\I T 4=I T 4/\I T 4<=40/\(20 < I T 4->Dst ltT (L T 3)):=by
  have c:L T 3=L T 0:=by rw[d,b];rfl
  refine⟨a.symm,rfl,?_,?_⟩
  .rw[a,c];omega
  .rw[a,c];exact fun h=>A.2 (by omega)
 have ax:((L T 1).length+(L T 0).length)*56<=140737488355328:=by
  rw[b];show (0+_)*_<=_;omega
 refine⟨⟨(fun _=>D),(fun _=>ax),trivial⟩,v.trans ?_⟩;exact (lc (by show U.list (L T 5)= .list (QD us);unfold QD;rw[g];exact ACF U.list C) rfl)
def Gy:List U->U':=fun us=>(I7 (aL us 0) (aL us 1) (aI us 2) (aI us 3))
def Gb:List U->Int:=fun us=>(HV (aI us 2) (aI us 3))
def FG:List U->Prop:=fun us=>AS (aL us 0)=0/\AM (aL us 1)=0/\(AY (aL us 1)).length<=40
def E7:AU:={ sh:=[.one (.list [.str,k64,k64]),.one (.list [k64,k64,k64,.bool,.str,.str,.bool,k64,k64]),.one (k64),.one (k64)],blks:=[],outs:=[(.s "Table.0",CI Gy),(.s "Table.1",Ba Gb)],c:= .tup [.ro 4 [.str,k64,k64,k64,k64,k64],(Ch 5)],m':=[],pre:=[(.s "Table.p0",FG)] }
abbrev Dt (T:Tab)(a:Int)(b:U'):Prop:=0<=a/\a<=(L T 0).length/\b=Ax (E2 (L T 0)) a.toNat []
abbrev EW (T:Tab)(a:Int)(b:U'):Prop:=0<=a/\a<=(L T 21).length/\b=Ax (Cl (L T 13) (L T 21)) a.toNat []
abbrev FA (T:Tab)(a:Int)(b:U'):Prop:=0<=a/\a<=I T 9/\b=Ax (HT (L T 8)) a.toNat (List.replicate (I T 9).toNat [.str ByteArray.empty,.int 0,.int 0,.int 0,.int 0,.int 0])
abbrev GQ (T:Tab)(a:Int)(b:U')(c:U'):Prop:=0<=a/\a<=(L T 25).length/\b=Ax (Sf (L T 13) (L T 25) (I T 2) (I T 3)) a.toNat (L T 62)/\c=Ax (inF (L T 25) (I T 2) (I T 3)) a.toNat []
abbrev Io (T:Tab)(a:Int)(b:U'):Prop:=0<=a/\a<=(L T 75).length/\b=Ax (Rn (L T 13) (L T 75)) a.toNat (L T 74)
def gt:List En:=[⟨4,.outI "checkPk.0" Kf,[.e 0]⟩,
 ⟨5,.outI "checkLk.0" Ol,[.e 1]⟩,
 ⟨6,.id .l,[.c (.list [])]⟩,
 ⟨7,.id .i,[.c (.int 0)]⟩,
 ADS 8 6 0,
 ADB 9 8,
 ⟨10,.id .l,[.c (.list [])]⟩,
 ADB 11 0]
def Cz:List En:=gt
def iN:List En:=[AC7 14 12 11,
 ADA 15 14,
 ADL 16 0 12,
 AC8 17 0 12,
 AC9 18 0 12,
 ⟨19,.mset 1 [.s,.i],[.e 13,.e 16,.e 12]⟩,
 ⟨20,.w2 .i64 .add,[.e 12,.c (.int 1)]⟩]
def CB:List En:=iN
def Ya:List ObE:=[⟨some 14,.fits 1,[.e 13,.c (.list [[]])]⟩,⟨some 14,.inl,[.e 12,.e 0]⟩]
def Np:Aa:=mkD 12 2 CB 14 [.e 20,.e 19] Ya [0,11]
def Rg:List Rf:=[.e 0,.e 11,.c (.int 0),.e 10]
def fz:List En:=[⟨21,.outL "books.0" LH,[.e 1]⟩,
 ADB 22 21,
 ⟨23,.id .l,[.c (.list [])]⟩]
def Dm:List En:=fz
def iS:List En:=[AC7 26 24 22,
 AC4 27 15 26,
 AC5 28 15 26,
 ADE 29 21 24,
 AC8 30 21 24,
 AC9 31 21 24,
 ADH 32 21 24,
 ADF 33 21 24,
 ADG 34 21 24,
 ADI 35 21 24,
 ADJ 36 21 24,
 ADK 37 21 24,
 ⟨38,.mget .i 1 0 [.s],[.e 13,.c (.int 0),.e 33]⟩,
 ⟨39,.mhas 1 [.s],[.e 13,.e 33]⟩,
 ⟨40,.mget .i 1 0 [.s],[.e 13,.c (.int 0),.e 34]⟩,
 ⟨41,.mhas 1 [.s],[.e 13,.e 34]⟩]
def iG:List En:=[AC4 42 27 39,
 AC4 43 39 41,
 AC4 44 27 43,
 ⟨45,.row 1 9 [.i,.i,.i,.b,.s,.s,.b,.i,.i],[.e 29,.e 30,.e 31,.e 32,.e 33,.e 34,.e 35,.e 36,.e 37]⟩,
 ADS 46 25 45,
 AC5 47 27 43,
 ADD 48 43 46 25,
 ADD 49 43 46 25,
 ⟨50,.w2 .i64 .add,[.e 24,.c (.int 1)]⟩]
def Ce:List En:=iS++(iG)
def YL:List ObE:=[⟨some 44,.fits 88,[.e 25,.e 45]⟩,⟨some 27,.inl,[.e 24,.e 21]⟩]
def OD:Aa:=mkD 24 2 Ce 27 [.e 50,.e 49] YL [13,21,15,22]
def Sb:List Rf:=[.e 13,.e 21,.e 15,.e 22,.c (.int 0),.e 23]
def gS:List En:=[⟨51,.lt,[.e 2,.c (.int 0)]⟩,
 ADA 52 51,
 AC7 53 3 2,
 AC6 54 51 53,
 ADA 55 54,
 ⟨56,.lt,[.c (.int 1099511627776),.e 3]⟩,
 AC6 57 54 56,
 ADA 58 57,
 ⟨59,.rep [.s,.i,.i,.i,.i,.i],[.e 9,.c (.str ⟨#[]⟩),.c (.int 0),.c (.int 0),.c (.int 0),.c (.int 0),.c (.int 0)]⟩,
 ⟨60,.id .i,[.e 9]⟩]
def FE:List En:=gS
def iT:List En:=[AC7 63 61 9,
 AC4 64 58 63,
 AC5 65 58 63,
 ADL 66 8 61,
 AC8 67 8 61,
 AC9 68 8 61,
 ⟨69,.rset 0 [.s],[.e 62,.e 61,.e 66]⟩,
 ⟨70,.w2 .i64 .add,[.e 61,.c (.int 1)]⟩]
def DQ:List En:=iT
def Xz:List ObE:=[⟨some 64,.inr,[.e 61,.e 60]⟩,⟨some 64,.inr,[.e 61,.e 9]⟩]
def N7:Aa:=mkD 61 2 DQ 64 [.e 70,.e 69] Xz [8,58,9,60]
def Sn:List Rf:=[.e 8,.e 58,.e 9,.e 60,.c (.int 0),.e 59]
def gT:List En:=[ADB 71 25,
 ⟨72,.id .l,[.c (.list [])]⟩]
def It:List En:=gT
def gX:List En:=[AC7 76 73 71,
 AC4 77 65 76,
 AC5 78 65 76,
 ADE 79 25 73,
 AC8 80 25 73,
 AC9 81 25 73,
 ADH 82 25 73,
 ADF 83 25 73,
 ADG 84 25 73,
 ADI 85 25 73,
 ADJ 86 25 73,
 ADK 87 25 73,
 ⟨88,.le,[.e 2,.e 81]⟩,
 AC4 89 77 88,
 AC7 90 81 3,
 AC4 91 88 90]
def gD:List En:=[AC4 92 77 91,
 ⟨93,.row 1 9 [.i,.i,.i,.b,.s,.s,.b,.i,.i],[.e 79,.e 80,.e 81,.e 82,.e 83,.e 84,.e 85,.e 86,.e 87]⟩,
 ADS 94 75 93,
 ⟨95,.mget .i 1 0 [.s],[.e 13,.c (.int 0),.e 83]⟩,
 AC8 96 74 95,
 ⟨97,.wx .i64 .add,[.e 96,.c (.int 1)]⟩,
 ⟨98,.rset 1 [.i],[.e 74,.e 95,.e 97]⟩,
 ⟨99,.mget .i 1 0 [.s],[.e 13,.c (.int 0),.e 84]⟩,
 AC9 100 98 99,
 ⟨101,.wx .i64 .add,[.e 100,.c (.int 1)]⟩,
 ⟨102,.rset 2 [.i],[.e 98,.e 99,.e 101]⟩,
 AC5 103 77 91,
 ADD 104 91 102 74,
 ADD 105 91 94 75,
 ⟨106,.ite .l,[.e 91,.e 93,.c (.list [])]⟩,
 ⟨107,.w2 .i64 .add,[.e 73,.c (.int 1)]⟩]
def EU:List En:=gX++(gD)
def Yy:List ObE:=[⟨some 92,.inr,[.e 99,.e 60]⟩,⟨some 92,.inr,[.e 99,.e 60]⟩,⟨some 92,.inr,[.e 95,.e 60]⟩,⟨some 92,.inr,[.e 95,.e 60]⟩,⟨some 92,.fits 88,[.e 75,.e 93]⟩,⟨some 77,.inl,[.e 73,.e 25]⟩]
def Ny:Aa:=mkD 73 3 EU 77 [.e 107,.e 104,.e 105] Yy [13,3,2,25,65,71,60]
def Rt:List Rf:=[.e 13,.e 3,.e 2,.e 25,.e 65,.e 71,.e 60,.c (.int 0),.e 62,.e 72]
def gJ:List En:=[ADB 108 75]
def No:List En:=gJ
def gq:List En:=[AC7 111 109 108,
 AC4 112 78 111,
 AC5 113 78 111,
 ADE 114 75 109,
 AC8 115 75 109,
 AC9 116 75 109,
 ADH 117 75 109,
 ADF 118 75 109,
 ADG 119 75 109,
 ADI 120 75 109,
 ADJ 121 75 109,
 ADK 122 75 109,
 ⟨123,.mget .i 1 0 [.s],[.e 13,.c (.int 0),.e 118]⟩,
 ⟨124,.mget .i 1 0 [.s],[.e 13,.c (.int 0),.e 119]⟩,
 ⟨125,.wx .i64 .sub,[.e 121,.e 122]⟩,
 ADP 126 110 123]
def iO:List En:=[⟨127,.wx .i64 .add,[.e 126,.e 125]⟩,
 ⟨128,.rset 4 [.i],[.e 110,.e 123,.e 127]⟩,
 ADP 129 128 124,
 ⟨130,.wx .i64 .sub,[.e 129,.e 125]⟩,
 ⟨131,.rset 4 [.i],[.e 128,.e 124,.e 130]⟩,
 ADR 132 131 123,
 AC8 133 131 124,
 ⟨134,.wx .i64 .add,[.e 132,.e 133]⟩,
 ⟨135,.rset 5 [.i],[.e 131,.e 123,.e 134]⟩,
 AC8 136 135 123,
 AC8 137 135 124,
 ⟨138,.eq,[.e 136,.e 137]⟩,
 AC4 139 112 138,
 ADQ 140 135 123,
 ⟨141,.wx .i64 .add,[.e 140,.c (.int 1)]⟩,
 ⟨142,.rset 3 [.i],[.e 135,.e 123,.e 141]⟩]
def gP:List En:=[AC5 143 112 138,
 ADD 144 138 142 135,
 ⟨145,.w2 .i64 .add,[.e 109,.c (.int 1)]⟩]
def Gz:List En:=gq++(iO++(gP))
def Y7:List ObE:=[⟨some 112,.inr,[.e 124,.e 60]⟩,⟨some 112,.inr,[.e 123,.e 60]⟩,⟨some 112,.inl,[.e 109,.e 75]⟩]
def N1:Aa:=mkD 109 2 Gz 112 [.e 145,.e 144] Y7 [13,75,78,108,60]
def R6:List Rf:=[.e 13,.e 75,.e 78,.e 108,.e 60,.c (.int 0),.e 74]
def iP:List En:=[⟨146,.ite .l,[.e 57,.c (.list []),.e 75]⟩,
 ⟨147,.ite .l,[.e 57,.c (.list []),.e 110]⟩,
 ADA 148 57,
 ⟨149,.ite .i,[.e 57,.c (.int 3),.c (.int 0)]⟩,
 AC6 150 57 58,
 ⟨151,.ne,[.e 149,.c (.int 0)]⟩,
 ADA 152 151,
 ⟨153,.outL "ordS.0" QD,[.e 147]⟩,
 ⟨154,.ite .i,[.e 151,.e 149,.c (.int 0)]⟩,
 ⟨155,.ite .l,[.e 151,.c (.list []),.e 153]⟩,
 AC6 156 151 152]
def Yi:List En:=iP
def xU:List ObE:=[⟨some 152,.pre "ordS.p0" M7,[.e 147]⟩,
 ⟨some 78,.owes N1,[.e 13,.e 75,.e 78,.e 108,.e 60,.c (.int 0),.e 74]⟩,
 ⟨some 65,.owes Ny,[.e 13,.e 3,.e 2,.e 25,.e 65,.e 71,.e 60,.c (.int 0),.e 62,.e 72]⟩,
 ⟨some 58,.owes N7,[.e 8,.e 58,.e 9,.e 60,.c (.int 0),.e 59]⟩,
 ⟨some 58,.btw (0) (68719476736),[.e 9]⟩,
 ⟨some 15,.owes OD,[.e 13,.e 21,.e 15,.e 22,.c (.int 0),.e 23]⟩,
 ⟨some 15,.pre "books.p0" Ia,[.e 1]⟩,
 ⟨none,.owes Np,[.e 0,.e 11,.c (.int 0),.e 10]⟩,
 ⟨none,.fits 32,[.e 6,.e 0]⟩,
 ⟨none,.pre "checkLk.p0" Kh,[.e 1]⟩,
 ⟨none,.pre "checkPk.p0" Hq,[.e 0]⟩]
def ju:List Rf:=[.e 155,.e 154]
theorem yJ:E7.sees ju (E7.runC Try.prog GZ [(41,EV),(47,Gf),(65,DY),(71,O2)] Ab 3000 20 30)=some ((Cz++((Ad Np [.i,.l] Rg)++(CB++(Dm++((Ad OD [.i,.l] Sb)++(Ce++(FE++((Ad N7 [.i,.l] Sn)++(DQ++(It++((Ad Ny [.i,.l,.l] Rt)++(EU++(No++((Ad N1 [.i,.l] R6)++(Gz++(Yi)))))))))))))))).map En.be,xU.map ObE.be,[]):=by kernel_rfl
theorem tX:AW Try.prog 30 E7:=by
 refine HH FB (l:=[(41,EV),(47,Gf),(65,DY),(71,O2)]) A8 (by simp only[ABT];exact⟨L5,P9,RH,xp,fun _ h=>absurd h (by simp)⟩) yJ (by kernel_rfl) fun T us hN hT ch Q i5 d=>?_;change us.length=4 at ch;obtain⟨⟨hL,kP⟩,⟨hM,kQ⟩,-⟩:=i5;replace hL:(L T 0).length<=140737488355328:=hL;replace hM:(L T 1).length<=140737488355328:=hM;have hG:=inL (j:=0) hT ch (by decide);have hH:=inL (j:=1) hT ch (by decide);have hI:=inI (j:=2) hT ch (by decide);have hK:=inI (j:=3) hT ch (by decide);have b2:AS (L T 0)=0/\AM (L T 1)=0/\(AY (L T 1)).length<=40:=by
  have h:=hN (.s "Table.p0",FG) (by simp[E7]);change FG us at h;unfold FG at h;simp only[hG,hH] at h;exact h
 clear hN;rw[ABI,ABI,ABI,ABI,ABI,ABI,ABI,ABI,ABI,ABI,ABI,ABI,ABI,ABI,ABI] at d;obtain⟨w,d⟩:=cutB d;obtain⟨x,d⟩:=cutB d;obtain⟨i,d⟩:=cutB d;obtain⟨A0,o⟩:=AN Q (by kernel_rfl) w;have r:=A0;have kB:I T 11=(L T 0).length:=by
  obtain⟨-,-,-,-,-,-,-,cu,-⟩:=r;simp only[AD,zR,zL] at cu;exact cu
 have iF:L T 10=[]:=by
  obtain⟨-,-,-,-,-,-,gv,-⟩:=r;simp only[AD,zR,zL,zS] at gv;exact gv
 have kp:(L T 0).length<=24:=by
  exact (H4 b2.1).2.2
 refine ACw (Ap (nh:=12) (k:=2) (pcn:=14) (an:=21) (H:=CB) (K:=Ya) (nxt:=[.e 20,.e 19]) (A:=[.c (.int 0),.e 10]) (fv:=[0,11]) (R:=[.i,.l]) (by kernel_rfl) rfl rfl rfl rfl o (by kernel_rfl) (by kernel_rfl) i (Ae x) (fun s=>Dt T (aI s 0) (aL s 1)) (fun s=>((L T 0).length - (aI s 0)).toNat)) ?_ ?_ fun⟨jB,y,f5,hP⟩=>?_
 .show Dt T (0:Int) (L T 10);exact⟨by omega,by omega,by rw[show (0:Int).toNat=0 from rfl];exact iF⟩
 .intro J g e q;replace q:Dt T (I J 12) (L J 13):=q;replace e:AE J CB:=e;have r:=e;clear e;have hz:=fvL (g 0 (by decide));have c3:=fvI (g 11 (by decide));clear g;obtain⟨v,-,hi,-,-,hj,ei,-⟩:=id r;simp only[AD,zR,w2P,zL,zS,uR,zW,AG,zC] at v hi hj ei;obtain⟨v1,v2,t⟩:=q
  suffices D:(B J 14=true->((L J 13).length+(([[]]:U')).length)*1<=140737488355328)/\(B J 14=true->0<=I J 12/\I J 12 < (L J 0).length)/\(B J 14=true->(Dt T (I J 20) (L J 19)))/\(B J 14=true->((L T 0).length - (I J 20)).toNat < ((L T 0).length - (I J 12)).toNat) from
   let⟨V,ax,nx,mz⟩:=D;⟨⟨V,ax,trivial⟩,fun c=>⟨nx c,mz c⟩⟩
  refine⟨?_,?_,?_,?_⟩
  .intro c;rw[c3] at v;have f2:=v.1 c;have hl:=jX (P:=L T 0) (I J 12).toNat;rw[<-t] at hl;show ((L J 13).length+1)*1<=_;omega
  .intro c;rw[c3] at v;have f2:=v.1 c;rw[hz];omega
  .intro c;rw[c3] at v;have f2:=v.1 c;have hV:=o2' ei (by omega);refine⟨by omega,by omega,?_⟩;rw[hV,show (I J 12+1).toNat=(I J 12).toNat+1 by omega,hj,hi,t,hz];show _=E2 _ _ _;unfold E2;rw[show (((I J 12).toNat:Nat):Int)=(I J 12) by omega]
  .intro c;rw[c3] at v;have f2:=v.1 c;have hV:=o2' ei (by omega);omega
 replace f5:0<=I T 12/\I T 12<=(L T 0).length/\L T 13=Ax (E2 (L T 0)) (I T 12).toNat []:=f5;have ao:=(AN (y.append o) (l:=CB) (by kernel_rfl) i);obtain⟨B0,Q⟩:=ao;clear w i x o y;obtain⟨w,d⟩:=cutB d;obtain⟨x,d⟩:=cutB d;obtain⟨i,d⟩:=cutB d;obtain⟨A1,o⟩:=AN Q (by kernel_rfl) w;have Z:=B0;have F2:=A1;have kC:I T 22=(L T 21).length:=by
  obtain⟨-,hk,-⟩:=F2;simp only[AD,zR,zL] at hk;exact hk
 have i0:L T 23=[]:=by
  obtain⟨-,-,hm,-⟩:=F2;simp only[AD,zR,zL,zS] at hm;exact hm
 have iW:L T 21=Aw (L T 1):=by
  obtain⟨a5,-⟩:=F2;replace a5:L T 21=(Aw (L T 1)):=a5;exact a5
 have kz:(L T 21).length<=40:=by
  obtain⟨a5,-⟩:=F2;replace a5:L T 21=(Aw (L T 1)):=a5;rw[a5];exact ABS Lw b2.2.2
 have c6:L T 13=BQ (L T 0):=by
  obtain⟨v,-⟩:=Z;simp only[AD,zR] at v;obtain⟨v1,v2,t⟩:=f5;have kX:¬I T 12 < I T 11:=fun h=>hP (v.2 h);rw[t,show (I T 12).toNat=(L T 0).length by omega];rfl
 have iI:B T 15=true:=by
  obtain⟨-,cv,-⟩:=Z;simp only[AD,AG,zR] at cv;exact cv.2 (by simpa using hP)
 have h8:L T 8=L T 0:=by
  obtain⟨-,-,e6,-,e8,-⟩:=r;simp only[AD,AG,zR,zL,zS] at e6 e8;rw[e8,e6];rfl
 refine ACw (Ap (nh:=24) (k:=2) (pcn:=27) (an:=51) (H:=Ce) (K:=YL) (nxt:=[.e 50,.e 49]) (A:=[.c (.int 0),.e 23]) (fv:=[13,21,15,22]) (R:=[.i,.l]) (by kernel_rfl) rfl rfl rfl rfl o (by kernel_rfl) (by kernel_rfl) i (Ae x) (fun s=>EW T (aI s 0) (aL s 1)) (fun s=>((L T 21).length - (aI s 0)).toNat)) ?_ ?_ fun⟨jM,y,f6,jp⟩=>?_
 .show EW T (0:Int) (L T 23);exact⟨by omega,by omega,by rw[show (0:Int).toNat=0 from rfl];exact i0⟩
 .intro J g e q;replace q:EW T (I J 24) (L J 25):=q;replace e:AE J Ce:=e;obtain⟨r,e⟩:=e.cut;have Z:=e;clear e;have F:=fvL (g 13 (by decide));have hA:=fvL (g 21 (by decide));have ku:=fvB (g 15 (by decide));have c4:=fvI (g 22 (by decide));clear g;obtain⟨a1,a2,-,ej,el,em,en,cx,cy,eo,eq,er,-,b4,-,b5,-⟩:=id r;obtain⟨-,es,hn,et,ho,-,-,ev,ey,-⟩:=id Z;simp only[AD,AG,zR,w2P,zL,zS,uR,Bv,zW,zC] at a1 a2 ej el em en cx cy eo eq er b4 b5 es hn et ho ev ey;obtain⟨v1,v2,t⟩:=q
  suffices D:(B J 44=true->((L J 25).length+(L J 45).length)*88<=140737488355328)/\(B J 27=true->0<=I J 24/\I J 24 < (L J 21).length)/\(B J 27=true->(EW T (I J 50) (L J 49)))/\(B J 27=true->((L T 21).length - (I J 50)).toNat < ((L T 21).length - (I J 24)).toNat) from
   let⟨V,ax,nx,mz⟩:=D;⟨⟨V,ax,trivial⟩,fun c=>⟨nx c,mz c⟩⟩
  refine⟨?_,?_,?_,?_⟩
  .intro c;have ba:=a1.1 (a2.1 (hn.1 c).1).2;rw[c4] at ba;have hl:=Nb (M:=L T 13) (B:=L T 21) (I J 24).toNat;rw[<-t] at hl;rw[et];show ((L J 25).length+1)*88<=_;omega
  .intro c;have ba:=a1.1 (a2.1 c).2;rw[c4] at ba;rw[hA];omega
  .intro c;have ba:=a1.1 (a2.1 c).2;rw[c4] at ba;have hW:=o2' ey (by omega);refine⟨by omega,by omega,?_⟩;rw[hW,show (I J 24+1).toNat=(I J 24).toNat+1 by omega];refine Eq.trans ?_ (ACF (Cl (L T 13) (L T 21) (I J 24).toNat) t);unfold Cl NP;rw[hA] at ej el em en cx cy eo eq er;rw[F] at b4 b5;rw[cx] at b4;rw[cy] at b5;by_cases p:B J 43=true
   .have hD:=es.1 p;rw[ev,ACE p,ACE ⟨b4.1 hD.1,b5.1 hD.2⟩,ho,et,ej,el,em,en,cx,cy,eo,eq,er];rfl
   .rw[ev,ACD p,ACD (fun h=>p (es.2 ⟨b4.2 h.1,b5.2 h.2⟩))]
  .intro c;have ba:=a1.1 (a2.1 c).2;rw[c4] at ba;have hW:=o2' ey (by omega);omega
 replace f6:0<=I T 24/\I T 24<=(L T 21).length/\L T 25=Ax (Cl (L T 13) (L T 21)) (I T 24).toNat []:=f6;have ao:=(AN (y.append o) (l:=Ce) (by kernel_rfl) i);obtain⟨B1,Q⟩:=ao;clear w i x o y;obtain⟨w,d⟩:=cutB d;obtain⟨x,d⟩:=cutB d;obtain⟨i,d⟩:=cutB d;obtain⟨A2,o⟩:=AN Q (by kernel_rfl) w;obtain⟨F3,B1⟩:=B1.cut;have F4:=B1;have F5:=A2;have i4:I T 9=(L T 8).length:=by
  obtain⟨-,-,-,-,-,e9,-⟩:=r;simp only[AD,zR,zL] at e9;exact e9
 have i2:I T 60=I T 9:=by
  obtain⟨-,-,-,-,-,-,-,-,-,hq,-⟩:=F5;simp only[AD,AG,zR,zL,zS] at hq;exact hq
 have kt:I T 9<=24:=by
  obtain⟨-,-,-,-,-,e9,-⟩:=r;simp only[AD,zR,zL] at e9;have:=(H4 b2.1).2.2;rw[e9,h8];omega
 have i1:L T 59=List.replicate (I T 9).toNat [.str ByteArray.empty,.int 0,.int 0,.int 0,.int 0,.int 0]:=by
  obtain⟨-,-,-,-,-,-,-,-,hp,-⟩:=F5;simp only[AD,zR,zS,uR,zW,AG,zC] at hp;exact hp
 have c5:L T 25=Mu (L T 0) (L T 1):=by
  obtain⟨a1,a2,-⟩:=F3;simp only[AD,AG,zR] at a1 a2;obtain⟨v1,v2,t⟩:=f6;have k0:¬I T 24 < I T 22:=fun h=>jp (a2.2 ⟨iI,a1.2 h⟩);rw[t,show (I T 24).toNat=(L T 21).length by omega,iW,c6];rfl
 refine ACw (Ap (nh:=61) (k:=2) (pcn:=64) (an:=71) (H:=DQ) (K:=Xz) (nxt:=[.e 70,.e 69]) (A:=[.c (.int 0),.e 59]) (fv:=[8,58,9,60]) (R:=[.i,.l]) (by kernel_rfl) rfl rfl rfl rfl o (by kernel_rfl) (by kernel_rfl) i (Ae x) (fun s=>FA T (aI s 0) (aL s 1)) (fun s=>(I T 9 - (aI s 0)).toNat)) ?_ ?_ fun⟨j0,y,c9,hQ⟩=>?_
 .show FA T (0:Int) (L T 59);exact⟨by omega,by omega,by rw[show (0:Int).toNat=0 from rfl];exact i1⟩
 .intro J g e q;replace q:FA T (I J 61) (L J 62):=q;replace e:AE J DQ:=e;have r:=e;clear e;have iA:=fvL (g 8 (by decide));have kv:=fvB (g 58 (by decide));have cb:=fvI (g 9 (by decide));have ag:=fvI (g 60 (by decide));clear g;obtain⟨ab,ad,-,hr,-,-,hs,e1,-⟩:=id r;simp only[AD,AG,zR,w2P,zL,zS,uR,zW,zC] at ab ad hr hs e1;obtain⟨v1,v2,t⟩:=q
  suffices D:(B J 64=true->0<=I J 61/\I J 61 < I J 60)/\(B J 64=true->0<=I J 61/\I J 61 < I J 9)/\(B J 64=true->(FA T (I J 70) (L J 69)))/\(B J 64=true->(I T 9 - (I J 70)).toNat < (I T 9 - (I J 61)).toNat) from
   let⟨V,ax,nx,mz⟩:=D;⟨⟨V,ax,trivial⟩,fun c=>⟨nx c,mz c⟩⟩
  refine⟨?_,?_,?_,?_⟩
  .intro c;have bb:=ab.1 (ad.1 c).2;rw[cb] at bb;rw[ag];omega
  .intro c;have bb:=ab.1 (ad.1 c).2;rw[cb] at bb;rw[cb];omega
  .intro c;have bb:=ab.1 (ad.1 c).2;rw[cb] at bb;have hX:=o2' e1 (by omega);refine⟨by omega,by omega,?_⟩;rw[hX,show (I J 61+1).toNat=(I J 61).toNat+1 by omega];refine Eq.trans ?_ (ACF (HT (L T 8) (I J 61).toNat) t);unfold HT;rw[hs,hr,iA]
  .intro c;have bb:=ab.1 (ad.1 c).2;rw[cb] at bb;have hX:=o2' e1 (by omega);omega
 replace c9:0<=I T 61/\I T 61<=I T 9/\L T 62=Ax (HT (L T 8)) (I T 61).toNat (List.replicate (I T 9).toNat [.str ByteArray.empty,.int 0,.int 0,.int 0,.int 0,.int 0]):=c9;have ao:=(AN (y.append o) (l:=DQ) (by kernel_rfl) i);obtain⟨B2,Q⟩:=ao;clear w i x o y;obtain⟨w,d⟩:=cutB d;obtain⟨x,d⟩:=cutB d;obtain⟨i,d⟩:=cutB d;obtain⟨A3,o⟩:=AN Q (by kernel_rfl) w;have F6:=B2;have F7:=A3;have kM:I T 71=(L T 25).length:=by
  obtain⟨ht,-⟩:=F7;simp only[AD,zR,zL] at ht;exact ht
 have i3:L T 72=[]:=by
  obtain⟨-,hu,-⟩:=F7;simp only[AD,zR,zL,zS] at hu;exact hu
 have N:∀s,0<=Bx (L T 13) s/\(0 < (L T 25).length->Bx (L T 13) s < I T 60):=by
  rw[i2,c6,i4,h8,c5];intro s;exact⟨(jQ s).1,fun h=>(jQ s).2 (vG h)⟩
 have kq:(L T 25).length<=40:=by
  rw[c5];exact ABS (Nb _) (ABS Lw b2.2.2)
 refine ACw (Ap (nh:=73) (k:=3) (pcn:=77) (an:=108) (H:=EU) (K:=Yy) (nxt:=[.e 107,.e 104,.e 105]) (A:=[.c (.int 0),.e 62,.e 72]) (fv:=[13,3,2,25,65,71,60]) (R:=[.i,.l,.l]) (by kernel_rfl) rfl rfl rfl rfl o (by kernel_rfl) (by kernel_rfl) i (Ae x) (fun s=>GQ T (aI s 0) (aL s 1) (aL s 2)) (fun s=>((L T 25).length - (aI s 0)).toNat)) ?_ ?_ fun⟨j1,y,ci,hR⟩=>?_
 .show GQ T (0:Int) (L T 62) (L T 72);exact⟨by omega,by omega,rfl,by rw[show (0:Int).toNat=0 from rfl];exact i3⟩
 .intro J g e q;replace q:GQ T (I J 73) (L J 74) (L J 75):=q;replace e:AE J EU:=e;obtain⟨r,e⟩:=e.cut;have Z:=e;clear e;have F:=fvL (g 13 (by decide));have f1:=fvI (g 3 (by decide));have fs:=fvI (g 2 (by decide));have f0:=fvL (g 25 (by decide));have kx:=fvB (g 65 (by decide));have a3:=fvI (g 71 (by decide));have ag:=fvI (g 60 (by decide));clear g;obtain⟨z,C,-,e3,e4,Y,e5,b7,b8,e7,fd,fn,a7,-,a9,b9,-⟩:=id r;obtain⟨b1,fr,hv,c1,hw,hx,hy,c2,gC,gG,gH,-,dj,dk,-,dm,-⟩:=id Z;simp only[AD,AG,zR,w2P,zL,zS,uR,Bv,zW,zC] at z C e3 e4 Y e5 b7 b8 e7 fd fn a7 a9 b9 b1 fr hv c1 hw hx hy c2 gC gG gH dj dk dm;obtain⟨v1,v2,t,v4⟩:=q
  suffices D:(B J 92=true->0<=I J 99/\I J 99 < I J 60)/\(B J 92=true->0<=I J 99/\I J 99 < I J 60)/\(B J 92=true->0<=I J 95/\I J 95 < I J 60)/\(B J 92=true->0<=I J 95/\I J 95 < I J 60)/\(B J 92=true->((L J 75).length+(L J 93).length)*88<=140737488355328)/\(B J 77=true->0<=I J 73/\I J 73 < (L J 25).length)/\(B J 77=true->(GQ T (I J 107) (L J 104) (L J 105)))/\(B J 77=true->((L T 25).length - (I J 107)).toNat < ((L T 25).length - (I J 73)).toNat) from
   let⟨V,ax,aK,r3,r4,r5,nx,mz⟩:=D;⟨⟨V,ax,aK,r3,r4,r5,trivial⟩,fun c=>⟨nx c,mz c⟩⟩
  refine⟨?_,?_,?_,?_,?_,?_,?_,?_⟩
  iterate 2
   .intro c;have u:=z.1 (C.1 (b1.1 c).1).2;rw[a3] at u;rw[c2,F,ag];exact⟨(N _).1,(N _).2 (by omega)⟩
  iterate 2
   .intro c;have u:=z.1 (C.1 (b1.1 c).1).2;rw[a3] at u;rw[c1,F,ag];exact⟨(N _).1,(N _).2 (by omega)⟩
  .intro c;have u:=z.1 (C.1 (b1.1 c).1).2;rw[a3] at u;have hl:=rD (G:=L T 25) (a:=I T 2) (b:=I T 3) (I J 73).toNat;rw[<-v4] at hl;rw[fr];show ((L J 75).length+1)*88<=_;omega
  .intro c;have u:=z.1 (C.1 c).2;rw[a3] at u;rw[f0];omega
  .intro c;have u:=z.1 (C.1 c).2;rw[a3] at u;have gn:=o2' dm (by omega);refine⟨by omega,by omega,?_,?_⟩
   .rw[gn,show (I J 73+1).toNat=(I J 73).toNat+1 by omega];refine Eq.trans ?_ (ACF (Sf (L T 13) (L T 25) (I T 2) (I T 3) (I J 73).toNat) t);unfold Sf;rw[f0] at Y b7 b8;rw[fs,Y] at a7;rw[f1,Y] at a9;by_cases p:B J 91=true
    .have cf:=b9.1 p;rw[dj,ACE p,ACE (show Nk (I T 2) (I T 3) (L T 25) (I J 73).toNat from⟨a7.1 cf.1,a9.1 cf.2⟩),gH,gG,gC,hy,hx,hw,c2,c1,F,b7,b8];rfl
    .rw[dj,ACD p,ACD (fun h:Nk (I T 2) (I T 3) (L T 25) (I J 73).toNat=>p (b9.2 ⟨a7.2 h.1,a9.2 h.2⟩))]
   .rw[gn,show (I J 73+1).toNat=(I J 73).toNat+1 by omega];refine Eq.trans ?_ (ACF (inF (L T 25) (I T 2) (I T 3) (I J 73).toNat) v4);unfold inF;rw[f0] at e3 e4 Y e5 b7 b8 e7 fd fn;by_cases p:B J 91=true
    .have cf:=b9.1 p;have hE:=a7.1 cf.1;have hF:=a9.1 cf.2;rw[fs,Y] at hE;rw[f1,Y] at hF;rw[dk,ACE p,ACE (show Nk (I T 2) (I T 3) (L T 25) (I J 73).toNat from⟨hE,hF⟩),hv,fr,e3,e4,Y,e5,b7,b8,e7,fd,fn];rfl
    .rw[fs,Y] at a7;rw[f1,Y] at a9;rw[dk,ACD p,ACD (fun h:Nk (I T 2) (I T 3) (L T 25) (I J 73).toNat=>p (b9.2 ⟨a7.2 h.1,a9.2 h.2⟩))]
  .intro c;have u:=z.1 (C.1 c).2;rw[a3] at u;have gn:=o2' dm (by omega);omega
 replace ci:0<=I T 73/\I T 73<=(L T 25).length/\L T 74=Ax (Sf (L T 13) (L T 25) (I T 2) (I T 3)) (I T 73).toNat (L T 62)/\L T 75=Ax (inF (L T 25) (I T 2) (I T 3)) (I T 73).toNat []:=ci;have ao:=(AN (y.append o) (l:=EU) (by kernel_rfl) i);obtain⟨B3,Q⟩:=ao;clear w i x o y;obtain⟨w,d⟩:=cutB d;obtain⟨x,d⟩:=cutB d;obtain⟨i,d⟩:=cutB d;obtain⟨A4,o⟩:=AN Q (by kernel_rfl) w;obtain⟨F8,B3⟩:=B3.cut;have F9:=B3;have h7:=A4;have kA:I T 108=(L T 75).length:=by
  obtain⟨g0,-⟩:=h7;simp only[AD,zR,zL] at g0;exact g0
 have kr:(L T 75).length<=(L T 25).length/\(L T 75).length<=40:=by
  obtain⟨v1,v2,t,v4⟩:=ci;have hl:=rD (G:=L T 25) (a:=I T 2) (b:=I T 3) (I T 73).toNat;rw[<-v4] at hl;omega
 refine ACw (Ap (nh:=109) (k:=2) (pcn:=112) (an:=146) (H:=Gz) (K:=Y7) (nxt:=[.e 145,.e 144]) (A:=[.c (.int 0),.e 74]) (fv:=[13,75,78,108,60]) (R:=[.i,.l]) (by kernel_rfl) rfl rfl rfl rfl o (by kernel_rfl) (by kernel_rfl) i (Ae x) (fun s=>Io T (aI s 0) (aL s 1)) (fun s=>((L T 75).length - (aI s 0)).toNat)) ?_ ?_ fun⟨j2,y,db,hS⟩=>?_
 .show Io T (0:Int) (L T 74);exact⟨by omega,by omega,rfl⟩
 .intro J g e q;replace q:Io T (I J 109) (L J 110):=q;replace e:AE J Gz:=e;obtain⟨r,e⟩:=e.cut;obtain⟨Z,e⟩:=e.cut;have F2:=e;clear e;have F:=fvL (g 13 (by decide));have hB:=fvL (g 75 (by decide));have ky:=fvB (g 78 (by decide));have ca:=fvI (g 108 (by decide));have ag:=fvI (g 60 (by decide));clear g;obtain⟨W,X,-,-,-,-,-,dn,ds,-,dv,d0,d1,d2,g1,g2,-⟩:=id r;obtain⟨g3,g4,g5,g6,g7,g8,g9,ha,hb,d3,d4,d5,-,hc,he,hf,-⟩:=id Z;obtain⟨-,hg,d6,-⟩:=id F2;simp only[AD,AG,zR,w2P,zL,zS,uR,zW,zC] at W X dn ds dv d0 d1 d2 g1 g2 g3 g4 g5 g6 g7 g8 g9 ha hb d3 d4 d5 hc he hf hg d6;obtain⟨v1,v2,t⟩:=q
  suffices D:(B J 112=true->0<=I J 124/\I J 124 < I J 60)/\(B J 112=true->0<=I J 123/\I J 123 < I J 60)/\(B J 112=true->0<=I J 109/\I J 109 < (L J 75).length)/\(B J 112=true->(Io T (I J 145) (L J 144)))/\(B J 112=true->((L T 75).length - (I J 145)).toNat < ((L T 75).length - (I J 109)).toNat) from
   let⟨V,ax,aK,nx,mz⟩:=D;⟨⟨V,ax,aK,trivial⟩,fun c=>⟨nx c,mz c⟩⟩
  refine⟨?_,?_,?_,?_,?_⟩
  .intro c;have al:=W.1 (X.1 c).2;rw[ca] at al;rw[d2,F,ag];exact⟨(N _).1,(N _).2 (by omega)⟩
  .intro c;have al:=W.1 (X.1 c).2;rw[ca] at al;rw[d1,F,ag];exact⟨(N _).1,(N _).2 (by omega)⟩
  .intro c;have al:=W.1 (X.1 c).2;rw[ca] at al;rw[hB];omega
  .intro c;have al:=W.1 (X.1 c).2;rw[ca] at al;have hU:=o2' d6 (by omega);refine⟨by omega,by omega,?_⟩;rw[hU,show (I J 109+1).toNat=(I J 109).toNat+1 by omega];refine Eq.trans ?_ (ACF (Rn (L T 13) (L T 75) (I J 109).toNat) t);unfold Rn;rw[hB] at dn ds dv d0;have k1:I J 123=Bx (L T 13) (Af (L T 75) (I J 109).toNat 4):=by rw[d1,dn,F];rfl
   have E:I J 124=Bx (L T 13) (Af (L T 75) (I J 109).toNat 5):=by rw[d2,ds,F];rfl
   have k3:I J 125=w64 (AJ (L T 75) (I J 109).toNat 7 - AJ (L T 75) (I J 109).toNat 8):=by rw[g1,dv,d0];rfl
   rw[<-k1,<-E,<-k3];have ix:L J 131=bT (L J 110) (I J 123) (I J 124) (I J 125):=by rw[g7,g6,g5,g4,g3,g2];rfl
   have iz:L J 135=fS (L J 131) (I J 123) (I J 124):=by rw[hb,ha,g9,g8];rfl
   rw[<-ix,<-iz,hg];unfold kR;by_cases p:B J 138=true
   .have hC:=d5.1 p;rw[d3,d4] at hC;rw[ACE p,ACE hC,hf,he,hc];rfl
   .rw[ACD p,ACD (fun h=>p (d5.2 (by rw[d3,d4];exact h)))]
  .intro c;have al:=W.1 (X.1 c).2;rw[ca] at al;have hU:=o2' d6 (by omega);omega
 replace db:0<=I T 109/\I T 109<=(L T 75).length/\L T 110=Ax (Rn (L T 13) (L T 75)) (I T 109).toNat (L T 74):=db;have ao:=(AN (y.append o) (l:=Gz) (by kernel_rfl) i);obtain⟨B4,Q⟩:=ao;clear w i x o y;obtain⟨A5,i6⟩:=Ao (R:=[.l,.i]) (ai:=ju) Q (by kernel_rfl) d;obtain⟨h9,B4⟩:=B4.cut;obtain⟨kj,B4⟩:=B4.cut;have kk:=B4;have ie:=A5;obtain⟨-,-,e6,-⟩:=id r;obtain⟨bo,-,bs,bt,-,bx,b0,b6,-⟩:=id F5;obtain⟨ab,ad,e0,-⟩:=id F6;obtain⟨z,C,e2,-⟩:=id F8;obtain⟨W,X,-⟩:=id h9;obtain⟨-,d7,-,a4,-,bm,hh,d8,d9,ee,-⟩:=id ie;replace d8:L T 153=(Bc ltT (L T 147)):=d8;simp only[AD,AG,zN,zR,zL,zS] at e6 bo bs bt bx b0 b6 ab ad e0 z C e2 W X d7 a4 bm hh d9 ee;have q0:L T 155=(I7 (L T 0) (L T 1) (I T 2) (I T 3)):=by
  have d:HV (I T 2) (I T 3)=0↔¬B T 57=true:=by
   rw[UV,b0,bt,bo,bs,bx,or_assoc]
  have f4:HV (I T 2) (I T 3)=0->L T 110=PK (L T 0) (Mu (L T 0) (L T 1)) (I T 2) (I T 3):=fun D=>by
   have cc:=b6.2 (by simpa using d.1 D);have cj:¬B T 63=true:=fun h=>hQ (ad.2 ⟨cc,h⟩);have ce:=e0.2 ⟨cc,by simpa using cj⟩;have cl:¬B T 76=true:=fun h=>hR (C.2 ⟨ce,h⟩);have f3:=e2.2 ⟨ce,by simpa using cl⟩;have f7:¬B T 111=true:=fun h=>hS (X.2 ⟨f3,h⟩);obtain⟨p1,p2,p3⟩:=c9;obtain⟨q1,q2,q3,q4⟩:=ci;obtain⟨t1,t2,t3⟩:=db;have kg:¬I T 61 < I T 9:=fun h=>cj (ab.2 h);have ki:¬I T 73 < I T 71:=fun h=>cl (z.2 h);have kf:¬I T 109 < I T 108:=fun h=>f7 (W.2 h);have gr:L T 75=kY (L T 25) (I T 2) (I T 3):=by rw[q4,show (I T 73).toNat=(L T 25).length by omega];rfl
   have gp:L T 62=st0 (L T 0):=by
    rw[p3,show (I T 61).toNat=(L T 8).length by omega,show (I T 9).toNat=(L T 8).length by omega,h8];rfl
   rw[t3,show (I T 109).toNat=(L T 75).length by omega,q3,show (I T 73).toNat=(L T 25).length by omega,gr,gp,c6,c5];rfl
  unfold I7;by_cases O:B T 57=true
  .rw[ACD (fun h=>d.1 h O),ee,ACE (bm.2 (by rw[a4,ACE O];decide))]
  .rw[ACE (d.2 O),ee,ACD (fun h=>(bm.1 h) (by rw[a4,ACD O])),d8,d7,ACD O,f4 (d.2 O)]
 have q1:I T 154=(HV (I T 2) (I T 3)):=by
  have d:HV (I T 2) (I T 3)=0↔¬B T 57=true:=by
   rw[UV,b0,bt,bo,bs,bx,or_assoc]
  by_cases O:B T 57=true
  .rw[d9,ACE (bm.2 (by rw[a4,ACE O];decide)),a4,ACE O];have:HV (I T 2) (I T 3)≠0:=fun h=>d.1 h O;unfold HV at this⊢;split at this
   .rename_i h;rw[ACE h]
   .exact absurd rfl this
  .rw[d9,ACD (fun h=>(bm.1 h) (by rw[a4,ACD O])),d.2 O]
 have V:B T 152=true->(L T 147).length<=40/\(20 < (L T 147).length->Dst ltT (L T 147)):=by
  have d:HV (I T 2) (I T 3)=0↔¬B T 57=true:=by
   rw[UV,b0,bt,bo,bs,bx,or_assoc]
  have f4:HV (I T 2) (I T 3)=0->L T 110=PK (L T 0) (Mu (L T 0) (L T 1)) (I T 2) (I T 3):=fun D=>by
   have cc:=b6.2 (by simpa using d.1 D);have cj:¬B T 63=true:=fun h=>hQ (ad.2 ⟨cc,h⟩);have ce:=e0.2 ⟨cc,by simpa using cj⟩;have cl:¬B T 76=true:=fun h=>hR (C.2 ⟨ce,h⟩);have f3:=e2.2 ⟨ce,by simpa using cl⟩;have f7:¬B T 111=true:=fun h=>hS (X.2 ⟨f3,h⟩);obtain⟨p1,p2,p3⟩:=c9;obtain⟨q1,q2,q3,q4⟩:=ci;obtain⟨t1,t2,t3⟩:=db;have kg:¬I T 61 < I T 9:=fun h=>cj (ab.2 h);have ki:¬I T 73 < I T 71:=fun h=>cl (z.2 h);have kf:¬I T 109 < I T 108:=fun h=>f7 (W.2 h);have gr:L T 75=kY (L T 25) (I T 2) (I T 3):=by rw[q4,show (I T 73).toNat=(L T 25).length by omega];rfl
   have gp:L T 62=st0 (L T 0):=by
    rw[p3,show (I T 61).toNat=(L T 8).length by omega,show (I T 9).toNat=(L T 8).length by omega,h8];rfl
   rw[t3,show (I T 109).toNat=(L T 75).length by omega,q3,show (I T 73).toNat=(L T 25).length by omega,gr,gp,c6,c5];rfl
  intro c;have i9:¬(I T 149)≠0:=fun h=>by have:=hh.1 c;rw[bm.2 h] at this;cases this
  have hO:¬B T 57=true:=fun h=>i9 (by rw[a4,ACE h];decide);rw[d7,ACD hO,f4 (d.2 hO)];obtain⟨o1,o2,o3⟩:=H4 b2.1;exact⟨by rw[qH];omega,fun _=>tN t8 o2⟩
 have ax:B T 58=true->0<=I T 9/\I T 9<=68719476736:=by
  obtain⟨-,-,e6,-,e8,e9,-⟩:=r;obtain⟨bo,-,bs,bt,-,bx,b0,b6,-⟩:=F5;simp only[AD,AG,zR,zL,zS] at e6 e8 e9 bo bs bt bx b0 b6;grind (splits:=100)
 have aK:B T 15=true->(AY (L T 1)).length<=40:=by
  obtain⟨-,-,-,-,-,-,-,cu,-⟩:=r;obtain⟨v,cv,-⟩:=Z;simp only[AD,AG,zR,zL] at cu v cv;grind (splits:=100)
 have r3:((L T 6).length+(L T 0).length)*32<=140737488355328:=by
  have h6:(L T 6).length=0:=by rw[e6];rfl
  obtain⟨o1,o2,o3⟩:=H4 b2.1;omega
 have r4:AM (L T 1)=0:=by
  first|(rfl)|(grind (splits:=100))
 have r5:AS (L T 0)=0:=by
  first|(rfl)|(grind (splits:=100))
 refine⟨⟨V,(fun _=>j2),(fun _=>j1),(fun _=>j0),ax,(fun _=>jM),aK,(fun _=>jB),(fun _=>r3),(fun _=>r4),(fun _=>r5),trivial⟩,i6.trans ?_⟩;exact (lc (by show U.list (L T 155)= .list (Gy us);unfold Gy;rw[hG,hH,hI,hK];exact ACF U.list q0) (lc (by show U.int (I T 154)= .int (Gb us);unfold Gb;rw[hI,hK];exact ACF U.int q1) rfl))
def G5:List U->Bool:=fun us=>(Kj (aL us 0) (aL us 1))
def KG:AU:={ sh:=[.one (.list [k64,k64,k64,.bool,.str,.str,.bool,k64,k64]),.one (.list [k64,k64,k64,.bool,.str,.str,.bool,k64,k64])],blks:=[],outs:=[(.s "sameSh.0",HS G5)],c:= .b 2,m':=[],pre:=[] }
abbrev ACh (T:Tab)(a:Int):Prop:=0<=a/\a<=(L T 0).length/\∀j:Nat,(j:Int) < a->D9 ((L T 0).getD j []) ((L T 1).getD j [])=true
def aR:List En:=[ADB 2 0,
 ADB 3 1,
 ⟨4,.ne,[.e 2,.e 3]⟩,
 ADA 5 4]
def MD:List En:=aR
def ep:List En:=[ADB 7 0,
 AC7 8 6 7,
 AC4 9 5 8,
 AC5 10 5 8,
 ADE 11 0 6,
 AC8 12 0 6,
 AC9 13 0 6,
 ADH 14 0 6,
 ADF 15 0 6,
 ADG 16 0 6,
 ADI 17 0 6,
 ADJ 18 0 6,
 ADK 19 0 6,
 ADE 20 1 6,
 AC8 21 1 6,
 AC9 22 1 6]
def eL:List En:=[ADH 23 1 6,
 ADF 24 1 6,
 ADG 25 1 6,
 ADI 26 1 6,
 ADJ 27 1 6,
 ADK 28 1 6,
 ⟨29,.nes [.i,.i,.i,.b,.s,.s,.b,.i,.i],[.e 11,.e 20,.e 12,.e 21,.e 13,.e 22,.e 14,.e 23,.e 15,.e 24,.e 16,.e 25,.e 17,.e 26,.e 18,.e 27,.e 19,.e 28]⟩,
 AC4 30 9 29,
 AC5 31 9 29,
 ⟨32,.w2 .i64 .add,[.e 6,.c (.int 1)]⟩]
def Fd:List En:=ep++(eL)
def Vw:List ObE:=[⟨some 9,.inl,[.e 6,.e 1]⟩,⟨some 9,.inl,[.e 6,.e 0]⟩]
def Ln:Aa:=mkD 6 1 Fd 31 [.e 32] Vw [1,0,5]
def P7:List Rf:=[.e 1,.e 0,.e 5,.c (.int 0)]
def dA:List En:=[⟨33,.ite .b,[.e 30,.c (.bool false),.c (.bool true)]⟩,
 AC6 34 30 10,
 ⟨35,.ite .b,[.e 4,.c (.bool false),.e 33]⟩,
 AC6 36 4 34]
def Vt:List En:=dA
def uM:List ObE:=[⟨some 5,.owes Ln,[.e 1,.e 0,.e 5,.c (.int 0)]⟩]
def aM:List Rf:=[.e 35]
theorem vn:KG.sees aM (KG.run Try.prog [] Ab 3000 20 25)=some ((MD++((Ad Ln [.i] P7)++(Fd++(Vt)))).map En.be,uM.map ObE.be,[]):=by kernel_rfl
theorem sH:AW Try.prog 25 KG:=by
 refine An (l:=[]) A8 (by intro p h;exact absurd h (by simp)) vn (by kernel_rfl) fun T us c2 hT bm hS cl r=>?_;change us.length=2 at bm;obtain⟨⟨b8,cy⟩,⟨b9,c0⟩,-⟩:=cl;replace b8:(L T 0).length<=140737488355328:=b8;have dk:∀u∈(L T 0),AL AB KB u:=fun u hu=>by
  obtain⟨i,Y⟩:=ABZ.1 hu;exact cy i u Y
 replace b9:(L T 1).length<=140737488355328:=b9;have dm:∀u∈(L T 1),AL AB KB u:=fun u hu=>by
  obtain⟨i,Y⟩:=ABZ.1 hu;exact c0 i u Y
 have cv:=inL (j:=0) hT bm (by decide);have cx:=inL (j:=1) hT bm (by decide);clear c2;rw[ABI,ABI,ABI] at r;obtain⟨hA,r⟩:=cutB r;obtain⟨hH,r⟩:=cutB r;obtain⟨hB,r⟩:=cutB r;obtain⟨A0,bk⟩:=AN hS (by kernel_rfl) hA;have F0:=A0;have g5:B T 5=true->(L T 0).length=(L T 1).length:=by
  obtain⟨e2,e3,e4,e5,-⟩:=F0;simp only[AD,AG,zR,zL] at e2 e3 e4 e5;intro h;have n:¬ ¬I T 2=I T 3:=fun a=>absurd (e4.2 a) (by simpa using e5.1 h);have:=ABq n;rw[e2,e3] at this;omega
 refine ACw (Ap (nh:=6) (k:=1) (pcn:=31) (an:=33) (H:=Fd) (K:=Vw) (nxt:=[.e 32]) (A:=[.c (.int 0)]) (fv:=[1,0,5]) (R:=[.i]) (by kernel_rfl) rfl rfl rfl rfl bk (by kernel_rfl) (by kernel_rfl) hB (Ae hH) (fun s=>ACh T (aI s 0)) (fun s=>((L T 0).length - (aI s 0)).toNat)) ?_ ?_ fun⟨c9,b6,bs,c7⟩=>?_
 .show ACh T (0:Int);exact⟨ABt _,by omega,fun j h=>by omega⟩
 .intro J a4 hF bo;replace bo:ACh T (I J 6):=bo;replace hF:AE J Fd:=hF;obtain⟨F0,hF⟩:=hF.cut;have F1:=hF;clear hF;have a9:=fvL (a4 1 (by decide));have t:=fvL (a4 0 (by decide));have b1:=fvB (a4 5 (by decide));clear a4;obtain⟨d,e,o,-,v,w,x,y,z,C,D,E,F,M,N,O,-⟩:=id F0;obtain⟨P,Q,V,W,X,Z,al,-,ab,a8,-⟩:=id F1;simp only[AD,AG,zN,zR,Cn,and_true,w2P,zL,zS] at d e o v w x y z C D E F M N O P Q V W X Z al ab a8;obtain⟨v1,v2,v3⟩:=bo
  suffices hz:(B J 9=true->0<=I J 6/\I J 6 < (L J 1).length)/\(B J 9=true->0<=I J 6/\I J 6 < (L J 0).length)/\(B J 31=true->(ACh T (I J 32)))/\(B J 31=true->((L T 0).length - (I J 32)).toNat < ((L T 0).length - (I J 6)).toNat) from
   let⟨r0,ax,nx,mz⟩:=hz;⟨⟨r0,ax,trivial⟩,fun c=>⟨nx c,mz c⟩⟩
  refine⟨?_,?_,?_,?_⟩
  iterate 2
   .intro c;have q:=o.1 c;have b:=e.1 q.2;rw[d,t] at b;have g:=g5 (by rw[<-b1];exact q.1)
    first|rw[t]|rw[a9]
    omega
  .intro c;have bb:=ab.1 c;have b:=e.1 (o.1 bb.1).2;rw[d,t] at b;have dj:=o2' a8 (by omega);refine⟨by omega,by omega,fun j hj=>?_⟩;rcases Int.lt_or_le (j:Int) (I J 6) with h|h
   .exact v3 j h
   .have ej:j=(I J 6).toNat:=by omega
    rw[ej];refine UG.1 (ABq fun hn=>?_);rw[t] at v w x y z C D E F;rw[a9] at M N O P Q V W X Z;rw[<-v,<-w,<-x,<-y,<-z,<-C,<-D,<-E,<-F,<-M,<-N,<-O,<-P,<-Q,<-V,<-W,<-X,<-Z] at hn;have:=al.2 hn;rw[this] at bb;cases bb.2
  .intro c;have b:=e.1 (o.1 (ab.1 c).1).2;rw[d,t] at b;have dj:=o2' a8 (by omega);omega
 replace bs:0<=I T 6/\I T 6<=(L T 0).length/\∀j:Nat,(j:Int) < I T 6->D9 ((L T 0).getD j []) ((L T 1).getD j [])=true:=bs;have cs:=(AN (b6.append bk) (l:=Fd) (by kernel_rfl) hB);obtain⟨B0,hS⟩:=cs;clear hA hB hH bk b6;obtain⟨A1,hO⟩:=Ao (R:=[.b]) (ai:=aM) hS (by kernel_rfl) r;obtain⟨F1,B0⟩:=B0.cut;have F2:=B0;have F3:=A1;obtain⟨e2,e3,e4,e5,-⟩:=id F0;obtain⟨d,e,o,-,v,w,x,y,z,C,D,E,F,M,N,O,-⟩:=id F1;obtain⟨P,Q,V,W,X,Z,al,a7,ab,-⟩:=id F2;obtain⟨bx,-,b0,-⟩:=id F3;simp only[AD,AG,zN,zC,zR,Cn,and_true,zL,zS] at e2 e3 e4 e5 d e o v w x y z C D E F M N O P Q V W X Z al a7 ab bx b0;have q0:B T 35=(Kj (L T 0) (L T 1)):=by
  obtain⟨v1,v2,v3⟩:=bs;have ca:B T 35=true↔Kj (L T 0) (L T 1)=true:=by
   rw[tE,b0];by_cases h4:B T 4=true
   .have:=e4.1 h4;rw[e2,e3] at this;refine⟨fun h=>?_,fun h=>absurd h.1 (by omega)⟩;have:=h.1;rw[h4] at this;cases this
   .have h5:=e5.2 (by simpa using h4);have hl:=g5 h5;have ch:B T 33=true↔¬B T 30=true:=by rw[bx];simp
    rw[ch];by_cases b:I T 6 < I T 7
    .have q:=o.2 ⟨h5,e.2 b⟩;have b2:B T 29=true:=by
      by_cases h:B T 29=true
      .exact h
      .exact absurd (ab.2 ⟨q,by simpa using h⟩) c7
     have cj:=a7.2 ⟨q,b2⟩;have hn:=al.1 b2;rw[v,w,x,y,z,C,D,E,F,M,N,O,P,Q,V,W,X,Z] at hn;refine⟨fun h=>absurd cj h.2,fun h=>absurd (UG.2 (h.2 (I T 6).toNat (by rw[d] at b;omega))) hn⟩
    .have n9:¬B T 9=true:=fun h=>b (e.1 (o.1 h).2);have c5:¬B T 30=true:=fun h=>n9 (a7.1 h).1;rw[d] at b;refine⟨fun _=>⟨by omega,fun j hj=>v3 j (by omega)⟩,fun _=>⟨by simpa using h4,c5⟩⟩
  first|exact ca|exact Bool.eq_iff_iff.2 ca
 refine⟨⟨(fun _=>c9),trivial⟩,hO.trans ?_⟩;exact (lc (by show U.bool (B T 35)= .bool (G5 us);unfold G5;rw[cv,cx];exact ACF U.bool q0) rfl)
def HM:List U->Bool:=fun us=>(Hb (aL us 0) (aL us 1))
def KF:AU:={ sh:=[.one (.list [.str,k64,k64]),.one (.list [.str,k64,k64])],blks:=[],outs:=[(.s "samePl.0",HS HM)],c:= .b 2,m':=[],pre:=[] }
abbrev ACk (T:Tab)(a:Int):Prop:=0<=a/\a<=(L T 0).length/\∀j:Nat,(j:Int) < a->JR ((L T 0).getD j []) ((L T 1).getD j [])=true
def aq:List En:=[ADB 2 0,
 ADB 3 1,
 ⟨4,.ne,[.e 2,.e 3]⟩,
 ADA 5 4]
def L8:List En:=aq
def eR:List En:=[ADB 7 0,
 AC7 8 6 7,
 AC4 9 5 8,
 AC5 10 5 8,
 ADL 11 0 6,
 AC8 12 0 6,
 AC9 13 0 6,
 ADL 14 1 6,
 AC8 15 1 6,
 AC9 16 1 6,
 ⟨17,.nes [.s,.i,.i],[.e 11,.e 14,.e 12,.e 15,.e 13,.e 16]⟩,
 AC4 18 9 17,
 AC5 19 9 17,
 ⟨20,.w2 .i64 .add,[.e 6,.c (.int 1)]⟩]
def Fg:List En:=eR
def Wq:List ObE:=[⟨some 9,.inl,[.e 6,.e 1]⟩,⟨some 9,.inl,[.e 6,.e 0]⟩]
def MF:Aa:=mkD 6 1 Fg 19 [.e 20] Wq [1,0,5]
def Pj:List Rf:=[.e 1,.e 0,.e 5,.c (.int 0)]
def ak:List En:=[⟨21,.ite .b,[.e 18,.c (.bool false),.c (.bool true)]⟩,
 AC6 22 18 10,
 ⟨23,.ite .b,[.e 4,.c (.bool false),.e 21]⟩,
 AC6 24 4 22]
def V3:List En:=ak
def wd:List ObE:=[⟨some 5,.owes MF,[.e 1,.e 0,.e 5,.c (.int 0)]⟩]
def dU:List Rf:=[.e 23]
theorem we:KF.sees dU (KF.run Try.prog [] Ab 3000 20 26)=some ((L8++((Ad MF [.i] Pj)++(Fg++(V3)))).map En.be,wd.map ObE.be,[]):=by kernel_rfl
theorem px:AW Try.prog 26 KF:=by
 refine An (l:=[]) A8 (by intro p h;exact absurd h (by simp)) we (by kernel_rfl) fun T us ce hT a2 hS b5 r=>?_;change us.length=2 at a2;obtain⟨⟨bl,ca⟩,⟨bm,cb⟩,-⟩:=b5;replace bl:(L T 0).length<=140737488355328:=bl;have c2:∀u∈(L T 0),AL AB KP u:=fun u hu=>by
  obtain⟨i,Y⟩:=ABZ.1 hu;exact ca i u Y
 replace bm:(L T 1).length<=140737488355328:=bm;have c3:∀u∈(L T 1),AL AB KP u:=fun u hu=>by
  obtain⟨i,Y⟩:=ABZ.1 hu;exact cb i u Y
 have b8:=inL (j:=0) hT a2 (by decide);have b9:=inL (j:=1) hT a2 (by decide);clear ce;rw[ABI,ABI,ABI] at r;obtain⟨hA,r⟩:=cutB r;obtain⟨hH,r⟩:=cutB r;obtain⟨hB,r⟩:=cutB r;obtain⟨A0,a0⟩:=AN hS (by kernel_rfl) hA;have Q:=A0;have g5:B T 5=true->(L T 0).length=(L T 1).length:=by
  obtain⟨F,M,N,O,-⟩:=Q;simp only[AD,AG,zR,zL] at F M N O;intro h;have n:¬ ¬I T 2=I T 3:=fun a=>absurd (N.2 a) (by simpa using O.1 h);have:=ABq n;rw[F,M] at this;omega
 refine ACw (Ap (nh:=6) (k:=1) (pcn:=19) (an:=21) (H:=Fg) (K:=Wq) (nxt:=[.e 20]) (A:=[.c (.int 0)]) (fv:=[1,0,5]) (R:=[.i]) (by kernel_rfl) rfl rfl rfl rfl a0 (by kernel_rfl) (by kernel_rfl) hB (Ae hH) (fun s=>ACk T (aI s 0)) (fun s=>((L T 0).length - (aI s 0)).toNat)) ?_ ?_ fun⟨cu,bi,a4,cl⟩=>?_
 .show ACk T (0:Int);exact⟨ABt _,by omega,fun j h=>by omega⟩
 .intro J X W a3;replace a3:ACk T (I J 6):=a3;replace W:AE J Fg:=W;have Q:=W;clear W;have ad:=fvL (X 1 (by decide));have t:=fvL (X 0 (by decide));have a8:=fvB (X 5 (by decide));clear X;obtain⟨d,e,o,-,v,w,x,y,z,C,E,-,D,ab,-⟩:=id Q;simp only[AD,AG,zN,zR,Cn,and_true,w2P,zL,zS] at d e o v w x y z C E D ab;obtain⟨v1,v2,v3⟩:=a3
  suffices hz:(B J 9=true->0<=I J 6/\I J 6 < (L J 1).length)/\(B J 9=true->0<=I J 6/\I J 6 < (L J 0).length)/\(B J 19=true->(ACk T (I J 20)))/\(B J 19=true->((L T 0).length - (I J 20)).toNat < ((L T 0).length - (I J 6)).toNat) from
   let⟨r0,ax,nx,mz⟩:=hz;⟨⟨r0,ax,trivial⟩,fun c=>⟨nx c,mz c⟩⟩
  refine⟨?_,?_,?_,?_⟩
  iterate 2
   .intro c;have q:=o.1 c;have b:=e.1 q.2;rw[d,t] at b;have g:=g5 (by rw[<-a8];exact q.1)
    first|rw[t]|rw[ad]
    omega
  .intro c;have al:=D.1 c;have b:=e.1 (o.1 al.1).2;rw[d,t] at b;have c1:=o2' ab (by omega);refine⟨by omega,by omega,fun j hj=>?_⟩;rcases Int.lt_or_le (j:Int) (I J 6) with h|h
   .exact v3 j h
   .have ej:j=(I J 6).toNat:=by omega
    rw[ej];refine TZ.1 (ABq fun P=>?_);rw[t] at v w x;rw[ad] at y z C;rw[<-v,<-w,<-x,<-y,<-z,<-C] at P;have:=E.2 P;rw[this] at al;cases al.2
  .intro c;have b:=e.1 (o.1 (D.1 c).1).2;rw[d,t] at b;have c1:=o2' ab (by omega);omega
 replace a4:0<=I T 6/\I T 6<=(L T 0).length/\∀j:Nat,(j:Int) < I T 6->JR ((L T 0).getD j []) ((L T 1).getD j [])=true:=a4;have b6:=(AN (bi.append a0) (l:=Fg) (by kernel_rfl) hB);obtain⟨B0,hS⟩:=b6;clear hA hB hH a0 bi;obtain⟨A1,hO⟩:=Ao (R:=[.b]) (ai:=dU) hS (by kernel_rfl) r;have F1:=B0;have F2:=A1;obtain⟨F,M,N,O,-⟩:=id Q;obtain⟨d,e,o,-,v,w,x,y,z,C,E,Z,D,-⟩:=id F1;obtain⟨a6,-,a7,-⟩:=id F2;simp only[AD,AG,zN,zC,zR,Cn,and_true,zL,zS] at F M N O d e o v w x y z C E Z D a6 a7;have q0:B T 23=(Hb (L T 0) (L T 1)):=by
  obtain⟨v1,v2,v3⟩:=a4;have bo:B T 23=true↔Hb (L T 0) (L T 1)=true:=by
   rw[nO,a7];by_cases V:B T 4=true
   .have:=N.1 V;rw[F,M] at this;refine⟨fun h=>?_,fun h=>absurd h.1 (by omega)⟩;have:=h.1;rw[V] at this;cases this
   .have h5:=O.2 (by simpa using V);have hl:=g5 h5;have b2:B T 21=true↔¬B T 18=true:=by rw[a6];simp
    rw[b2];by_cases b:I T 6 < I T 7
    .have q:=o.2 ⟨h5,e.2 b⟩;have a9:B T 17=true:=by
      by_cases h:B T 17=true
      .exact h
      .exact absurd (D.2 ⟨q,by simpa using h⟩) cl
     have b4:=Z.2 ⟨q,a9⟩;have P:=E.1 a9;rw[v,w,x,y,z,C] at P;refine⟨fun h=>absurd b4 h.2,fun h=>absurd (TZ.2 (h.2 (I T 6).toNat (by rw[d] at b;omega))) P⟩
    .have n9:¬B T 9=true:=fun h=>b (e.1 (o.1 h).2);have ci:¬B T 18=true:=fun h=>n9 (Z.1 h).1;rw[d] at b;refine⟨fun _=>⟨by omega,fun j hj=>v3 j (by omega)⟩,fun _=>⟨by simpa using V,ci⟩⟩
  first|exact bo|exact Bool.eq_iff_iff.2 bo
 refine⟨⟨(fun _=>cu),trivial⟩,hO.trans ?_⟩;exact (lc (by show U.bool (B T 23)= .bool (HM us);unfold HM;rw[b8,b9];exact ACF U.bool q0) rfl)
def Fw:List U->Bool:=fun us=>(Hp (aL us 0) (aL us 1))
def IY:AU:={ sh:=[.one (.list [.str,k64,k64,k64,k64,k64]),.one (.list [.str,k64,k64,k64,k64,k64])],blks:=[],outs:=[(.s "sameTab.0",HS Fw)],c:= .b 2,m':=[],pre:=[] }
abbrev Fv (T:Tab)(a:Int):Prop:=0<=a/\a<=(L T 0).length/\∀j:Nat,(j:Int) < a->Sv ((L T 0).getD j []) ((L T 1).getD j [])=true
def Zd:List En:=[ADB 2 0,
 ADB 3 1,
 ⟨4,.ne,[.e 2,.e 3]⟩,
 ADA 5 4]
def Kw:List En:=Zd
def ZY:List En:=[ADB 7 0,
 AC7 8 6 7,
 AC4 9 5 8,
 AC5 10 5 8,
 ADL 11 0 6,
 AC8 12 0 6,
 AC9 13 0 6,
 ADQ 14 0 6,
 ADP 15 0 6,
 ADR 16 0 6,
 ADL 17 1 6,
 AC8 18 1 6,
 AC9 19 1 6,
 ADQ 20 1 6,
 ADP 21 1 6,
 ADR 22 1 6]
def Zz:List En:=[⟨23,.nes [.s,.i,.i,.i,.i,.i],[.e 11,.e 17,.e 12,.e 18,.e 13,.e 19,.e 14,.e 20,.e 15,.e 21,.e 16,.e 22]⟩,
 AC4 24 9 23,
 AC5 25 9 23,
 ⟨26,.w2 .i64 .add,[.e 6,.c (.int 1)]⟩]
def Ef:List En:=ZY++(Zz)
def Tb:List ObE:=[⟨some 9,.inl,[.e 6,.e 1]⟩,⟨some 9,.inl,[.e 6,.e 0]⟩]
def Kr:Aa:=mkD 6 1 Ef 25 [.e 26] Tb [1,0,5]
def On:List Rf:=[.e 1,.e 0,.e 5,.c (.int 0)]
def Zp:List En:=[⟨27,.ite .b,[.e 24,.c (.bool false),.c (.bool true)]⟩,
 AC6 28 24 10,
 ⟨29,.ite .b,[.e 4,.c (.bool false),.e 27]⟩,
 AC6 30 4 28]
def Ts:List En:=Zp
def qi:List ObE:=[⟨some 5,.owes Kr,[.e 1,.e 0,.e 5,.c (.int 0)]⟩]
def Y3:List Rf:=[.e 29]
theorem si:IY.sees Y3 (IY.run Try.prog [] Ab 3000 20 37)=some ((Kw++((Ad Kr [.i] On)++(Ef++(Ts)))).map En.be,qi.map ObE.be,[]):=by kernel_rfl
theorem mn:AW Try.prog 37 IY:=by
 refine An (l:=[]) A8 (by intro p h;exact absurd h (by simp)) si (by kernel_rfl) fun T us cu hT ba hS cc r=>?_;change us.length=2 at ba;obtain⟨⟨b2,cj⟩,⟨b3,cl⟩,-⟩:=cc;replace b2:(L T 0).length<=140737488355328:=b2;have c9:∀u∈(L T 0),AL AB KS u:=fun u hu=>by
  obtain⟨i,Y⟩:=ABZ.1 hu;exact cj i u Y
 replace b3:(L T 1).length<=140737488355328:=b3;have db:∀u∈(L T 1),AL AB KS u:=fun u hu=>by
  obtain⟨i,Y⟩:=ABZ.1 hu;exact cl i u Y
 have ch:=inL (j:=0) hT ba (by decide);have ci:=inL (j:=1) hT ba (by decide);clear cu;rw[ABI,ABI,ABI] at r;obtain⟨hA,r⟩:=cutB r;obtain⟨hH,r⟩:=cutB r;obtain⟨hB,r⟩:=cutB r;obtain⟨A0,a8⟩:=AN hS (by kernel_rfl) hA;have F0:=A0;have g5:B T 5=true->(L T 0).length=(L T 1).length:=by
  obtain⟨V,X,Z,e5,-⟩:=F0;simp only[AD,AG,zR,zL] at V X Z e5;intro h;have n:¬ ¬I T 2=I T 3:=fun a=>absurd (Z.2 a) (by simpa using e5.1 h);have:=ABq n;rw[V,X] at this;omega
 refine ACw (Ap (nh:=6) (k:=1) (pcn:=25) (an:=27) (H:=Ef) (K:=Tb) (nxt:=[.e 26]) (A:=[.c (.int 0)]) (fv:=[1,0,5]) (R:=[.i]) (by kernel_rfl) rfl rfl rfl rfl a8 (by kernel_rfl) (by kernel_rfl) hB (Ae hH) (fun s=>Fv T (aI s 0)) (fun s=>((L T 0).length - (aI s 0)).toNat)) ?_ ?_ fun⟨c3,b0,bc,c1⟩=>?_
 .show Fv T (0:Int);exact⟨ABt _,by omega,fun j h=>by omega⟩
 .intro J ao Q bb;replace bb:Fv T (I J 6):=bb;replace Q:AE J Ef:=Q;obtain⟨F0,Q⟩:=Q.cut;have F1:=Q;clear Q;have a3:=fvL (ao 1 (by decide));have t:=fvL (ao 0 (by decide));have bm:=fvB (ao 5 (by decide));clear ao;obtain⟨d,e,o,-,v,w,x,y,z,C,D,E,F,M,N,O,-⟩:=id F0;obtain⟨W,-,P,a2,-⟩:=id F1;simp only[AD,AG,zN,zR,Cn,and_true,w2P,zL,zS] at d e o v w x y z C D E F M N O W P a2;obtain⟨v1,v2,v3⟩:=bb
  suffices hz:(B J 9=true->0<=I J 6/\I J 6 < (L J 1).length)/\(B J 9=true->0<=I J 6/\I J 6 < (L J 0).length)/\(B J 25=true->(Fv T (I J 26)))/\(B J 25=true->((L T 0).length - (I J 26)).toNat < ((L T 0).length - (I J 6)).toNat) from
   let⟨r0,ax,nx,mz⟩:=hz;⟨⟨r0,ax,trivial⟩,fun c=>⟨nx c,mz c⟩⟩
  refine⟨?_,?_,?_,?_⟩
  iterate 2
   .intro c;have q:=o.1 c;have b:=e.1 q.2;rw[d,t] at b;have g:=g5 (by rw[<-bm];exact q.1)
    first|rw[t]|rw[a3]
    omega
  .intro c;have a5:=P.1 c;have b:=e.1 (o.1 a5.1).2;rw[d,t] at b;have c8:=o2' a2 (by omega);refine⟨by omega,by omega,fun j hj=>?_⟩;rcases Int.lt_or_le (j:Int) (I J 6) with h|h
   .exact v3 j h
   .have ej:j=(I J 6).toNat:=by omega
    rw[ej];refine Tn.1 (ABq fun hn=>?_);rw[t] at v w x y z C;rw[a3] at D E F M N O;rw[<-v,<-w,<-x,<-y,<-z,<-C,<-D,<-E,<-F,<-M,<-N,<-O] at hn;have:=W.2 hn;rw[this] at a5;cases a5.2
  .intro c;have b:=e.1 (o.1 (P.1 c).1).2;rw[d,t] at b;have c8:=o2' a2 (by omega);omega
 replace bc:0<=I T 6/\I T 6<=(L T 0).length/\∀j:Nat,(j:Int) < I T 6->Sv ((L T 0).getD j []) ((L T 1).getD j [])=true:=bc;have ce:=(AN (b0.append a8) (l:=Ef) (by kernel_rfl) hB);obtain⟨B0,hS⟩:=ce;clear hA hB hH a8 b0;obtain⟨A1,hO⟩:=Ao (R:=[.b]) (ai:=Y3) hS (by kernel_rfl) r;obtain⟨F1,B0⟩:=B0.cut;have F2:=B0;have F3:=A1;obtain⟨V,X,Z,e5,-⟩:=id F0;obtain⟨d,e,o,-,v,w,x,y,z,C,D,E,F,M,N,O,-⟩:=id F1;obtain⟨W,a1,P,-⟩:=id F2;obtain⟨bk,-,bl,-⟩:=id F3;simp only[AD,AG,zN,zC,zR,Cn,and_true,zL,zS] at V X Z e5 d e o v w x y z C D E F M N O W a1 P bk bl;have q0:B T 29=(Hp (L T 0) (L T 1)):=by
  obtain⟨v1,v2,v3⟩:=bc;have b4:B T 29=true↔Hp (L T 0) (L T 1)=true:=by
   rw[mA,bl];by_cases h4:B T 4=true
   .have:=Z.1 h4;rw[V,X] at this;refine⟨fun h=>?_,fun h=>absurd h.1 (by omega)⟩;have:=h.1;rw[h4] at this;cases this
   .have h5:=e5.2 (by simpa using h4);have hl:=g5 h5;have b9:B T 27=true↔¬B T 24=true:=by rw[bk];simp
    rw[b9];by_cases b:I T 6 < I T 7
    .have q:=o.2 ⟨h5,e.2 b⟩;have bo:B T 23=true:=by
      by_cases h:B T 23=true
      .exact h
      .exact absurd (P.2 ⟨q,by simpa using h⟩) c1
     have cb:=a1.2 ⟨q,bo⟩;have hn:=W.1 bo;rw[v,w,x,y,z,C,D,E,F,M,N,O] at hn;refine⟨fun h=>absurd cb h.2,fun h=>absurd (Tn.2 (h.2 (I T 6).toNat (by rw[d] at b;omega))) hn⟩
    .have n9:¬B T 9=true:=fun h=>b (e.1 (o.1 h).2);have cy:¬B T 24=true:=fun h=>n9 (a1.1 h).1;rw[d] at b;refine⟨fun _=>⟨by omega,fun j hj=>v3 j (by omega)⟩,fun _=>⟨by simpa using h4,cy⟩⟩
  first|exact b4|exact Bool.eq_iff_iff.2 b4
 refine⟨⟨(fun _=>c3),trivial⟩,hO.trans ?_⟩;exact (lc (by show U.bool (B T 29)= .bool (Fw us);unfold Fw;rw[ch,ci];exact ACF U.bool q0) rfl)
def Q2:List U->Int:=fun us=>(BZ (aS us 0) (aI us 1) (aI us 2) (aS us 3) (aI us 4) (aI us 5))
def So:AU:={ sh:=[.agg [.str,k64,k64],.agg [.str,k64,k64]],blks:=[],outs:=[(.s "pair.0",Ba Q2)],c:=(Ch 6),m':=[],pre:=[] }
def oo:List En:=[⟨6,.outB "vplayer.0" GF,[.e 0,.e 1,.e 2]⟩,
 ADO 7 6,
 ⟨8,.outB "vplayer.0" GF,[.e 3,.e 4,.e 5]⟩,
 ⟨9,.or,[.n 6,.n 8]⟩,
 ADA 10 9,
 ⟨11,.eqs [.s],[.e 0,.e 3]⟩,
 AC4 12 10 11,
 AC5 13 10 11,
 ⟨14,.ite .i,[.e 9,.c (.int 2),.c (.int 12)]⟩,
 AC6 15 9 12,
 ⟨16,.ite .i,[.e 15,.e 14,.c (.int 0)]⟩,
 AC6 17 15 13]
def bf:List En:=oo
def AAJ:List ObE:=[]
def sn:List Rf:=[.e 16]
theorem AAQ:So.sees sn (So.run Try.prog [(82,Gs)] Ab 3000 20 57)=some ((bf).map En.be,AAJ.map ObE.be,[]):=by kernel_rfl
theorem yZ:AW Try.prog 57 So:=by
 refine An (l:=[(82,Gs)]) A8 (by simp only[ABT];exact⟨WB,fun _ h=>absurd h (by simp)⟩) AAQ (by kernel_rfl) fun T us H b a y v w=>?_;change us.length=6 at a;obtain⟨e,-,-,g,-⟩:=v;replace e:(S T 0).size<=140737488355328:=e;replace g:(S T 3).size<=140737488355328:=g;have z:=inS (j:=0) b a (by decide);have A:=inI (j:=1) b a (by decide);have C:=inI (j:=2) b a (by decide);have D:=inS (j:=3) b a (by decide);have E:=inI (j:=4) b a (by decide);have F:=inI (j:=5) b a (by decide);clear H
 skip
 obtain⟨i,x⟩:=Ao (R:=[.i]) (ai:=sn) y (by kernel_rfl) w;have k:=i;obtain⟨c,-,d,u,o,p,q,-,r,s,t,-⟩:=id k;replace c:B T 6=(Cd (S T 0) (I T 1) (I T 2)):=c;replace d:B T 8=(Cd (S T 3) (I T 4) (I T 5)):=d;simp only[AD,AG,zN,zR,Cn,and_true,zL,zS] at u o p q r s t;have J:I T 16=(BZ (S T 0) (I T 1) (I T 2) (S T 3) (I T 4) (I T 5)):=by
  unfold BZ;rw[<-c,<-d];clear c d;grind
 refine⟨trivial,x.trans ?_⟩;exact (lc (by show U.int (I T 16)= .int (Q2 us);unfold Q2;rw[z,A,C,D,E,F];exact ACF U.int J) rfl)
def NB:List U->Int:=fun us=>(Bd (aI us 2) (aI us 0))
def Mx:List U->Int:=fun us=>(EX (Bd (aI us 2) (aI us 0)) (aI us 3))
def KD:List U->Prop:=fun us=> -10000<=(aI us 2)/\(aI us 2)<=10000/\ -12<=(aI us 3)/\(aI us 3)<=48/\ -100<=(aI us 0)/\(aI us 0)<=100
def LZ:AU:={ sh:=[.ptr 0 0,.one (k64)],blks:=[([.str,k64,k64],23)],outs:=[(.s "move.0",Ba NB),(.s "move.1",Ba Mx)],c:= .tup [],m':=[.cells [.s 1,(Ch 4),(Ch 5)] 23],pre:=[(.s "move.p0",KD)] }
abbrev ACm (T:Tab)(a:Int):Prop:= -12<=a/\a<=48/\CA (I T 6) a=CA (I T 6) (I T 3)
abbrev ACt (T:Tab)(a:Int):Prop:= -12<=a/\a<=48/\upG (I T 6) a=upG (I T 6) (I T 7)
def kG:List En:=[ADM 4 2 0,
 ⟨5,.o2 .max,[.e 4,.c (.int (-10000))]⟩,
 ⟨6,.o2 .min,[.e 5,.c (.int 10000)]⟩]
def J3:List En:=kG
def mD:List En:=[⟨8,.lt,[.c (.int (-12)),.e 7]⟩,
 ADO 9 8,
 ADO 10 8,
 ⟨11,.w2 .i64 .sub,[.e 7,.c (.int 1)]⟩,
 ⟨12,.outI "trig.0" H9,[.e 11]⟩,
 ⟨13,.le,[.e 12,.e 6]⟩,
 AC4 14 8 13,
 ADA 15 14,
 ⟨16,.w2 .i64 .sub,[.e 7,.c (.int 1)]⟩]
def FU:List En:=mD
def ec:List ObE:=[⟨some 10,.pre "trig.p0" Gt,[.e 11]⟩]
def Pb:Aa:=mkD 7 1 FU 14 [.e 16] ec [6]
def Uf:List Rf:=[.e 6,.e 3]
def dp:List En:=[]
def kF:List En:=[⟨18,.lt,[.e 17,.c (.int 48)]⟩,
 AC4 19 15 18,
 AC4 20 15 18,
 ⟨21,.w2 .i64 .add,[.e 17,.c (.int 1)]⟩,
 ⟨22,.outI "trig.0" H9,[.e 21]⟩,
 ⟨23,.le,[.e 6,.e 22]⟩,
 AC4 24 18 23,
 AC4 25 15 24,
 AC5 26 15 24,
 ⟨27,.w2 .i64 .add,[.e 17,.c (.int 1)]⟩]
def IM:List En:=kF
def cn:List ObE:=[⟨some 20,.pre "trig.p0" Gt,[.e 21]⟩]
def P6:Aa:=mkD 17 1 IM 25 [.e 27] cn [15,6]
def Ur:List Rf:=[.e 15,.e 6,.e 7]
def vx:List En:=[]
def zM:List ObE:=[⟨some 15,.owes P6,[.e 15,.e 6,.e 7]⟩,
 ⟨none,.owes Pb,[.e 6,.e 3]⟩]
def pN:List Rf:=[.e 6,.e 17]
end
end Go.Eng
end
