/-
  A part of the proof: the evaluator of code and its soundness.
-/
import Derived.Test.YtikbgnmcfncnaaaKB3
import Derived.Test.YtikbgnmcfncnaaaE4
import Derived.Test.YtikbgnmcfncnaaaE5
set_option linter.unusedVariables false
set_option linter.unusedSimpArgs false
noncomputable section
namespace Go.Eng
section
open Go Go.Eng Go.Proofs
set_option maxHeartbeats 4000000
set_option maxRecDepth 100000
theorem zP:Hm.sees rH (Hm.run Try.prog [(72,IJ)] Ab 3000 20 138)=some ((IH++((Ad Ps [.i,.l] VD)++(KR++(ue)))).map En.be,AAU.map ObE.be,[]):=by kernel_rfl
abbrev fb(T:Tab):Prop:=0<=I T 2/\I T 2<=I T 3/\I T 2+1<=I T 5/\(I T 5<=I T 3\/I T 5=I T 2+1)/\I T 3<=I T 1/\I T 1<=140737488355328
abbrev fx(T:Tab):Prop:=(L T 6).length=I T 1/\∀u∈(L T 6),AL AB KS u
variable{T:Tab}
theorem rL (e:fb T)(au:fx T)(a:AE T G7):
  (B T 7=true->I T 5 < I T 3):=by
 have c:=a;clear a;have d:B T 7=true->I T 5 < I T 3:=by
  obtain⟨b,-⟩:=c;simp only[AD,zR] at b;exact b.1
 exact d
theorem uE (g1:fb T)(au:fx T)(r:B T 7=true->I T 5 < I T 3)(Z:AK T (AO (hds 5 [.i,.l]++EB [2,1,3] (AO (Aj 0 Hm.ks) IH)) G7))(X:AR T (FI.map En.be))(Y:AR T ((Ad NM [.i,.l] Qq).map En.be)):
  (NM).owes (Qq.map (Rf.eval T))/\AK T (hds 9 [.i,.l])/\(ACn T (I T 9) (L T 10))/\¬B T 33=true:=by
 refine Ap (nh:=9) (k:=2) (pcn:=33) (an:=52) (H:=FI) (K:=bH) (nxt:=[.e 51,.e 50]) (A:=[.e 5,.e 6]) (fv:=[7,2,1]) (R:=[.i,.l]) (by kernel_rfl) rfl rfl rfl rfl Z (by kernel_rfl) (by kernel_rfl) X (Ae Y) (fun s=>ACn T (aI s 0) (aL s 1)) (fun s=>((aI s 0)).toNat) ?_ ?_
 .show ACn T (I T 5) (L T 6);clear Z X Y;refine⟨by omega,ABt _,fun e=>?_⟩;have C:=r e;refine⟨au.1,au.2,?_,fun q hq=>absurd hq (by omega)⟩;rw[show (I T 5 - (I T 5)).toNat=0 by omega,cO (by omega) (by omega)]
 .intro J P t ad;replace ad:ACn T (I J 9) (L J 10):=ad;clear Z X Y;replace t:AE J FI:=t;obtain⟨F0,t⟩:=t.cut;obtain⟨F1,t⟩:=t.cut;have F2:=t;clear t;have z:=fvB (P 7 (by decide));have p:=fvI (P 2 (by decide));have D:=fvI (P 1 (by decide));clear P;obtain⟨h,-,-,ag,ao,aw,-,a0,a1,a2,-,a3,M,a4,a5,-⟩:=id F0;obtain⟨a6,a7,a8,V,a9,v,w,-,x,y,ba,bb,bc,bi,bk,bl,-⟩:=id F1;obtain⟨bm,bo,bs,bt,bx,b0,b1,b2,N,-⟩:=id F2;replace V:I J 30=(plN (I J 16) (I J 18) (I J 19) (I J 20) (S J 15) (I J 25) (I J 27) (I J 28) (I J 29) (S J 24)):=V;simp only[AD,AG,zR,w2P,zL,zS,uR,zW,zC] at h ag ao aw a0 a1 a2 a3 M a4 a5 a6 a7 a8 a9 v w x y ba bb bc bi bk bl bm bo bs bt bx b0 b1 b2 N;obtain⟨v1,v2,v3⟩:=ad
  suffices hz:(B J 33=true->0<=I J 35/\I J 35 < I J 1)/\(B J 33=true->0<=I J 9/\I J 9 < I J 1)/\(B J 33=true->0<=I J 9/\I J 9 < I J 1)/\(B J 33=true->0<=I J 36/\I J 36 < I J 1)/\(B J 22=true->0<=I J 23/\I J 23 < I J 1)/\(B J 14=true->0<=I J 9/\I J 9 < I J 1)/\(B J 33=true->(ACn T (I J 51) (L J 50)))/\(B J 33=true->(I J 51).toNat < (I J 9).toNat) from
   let⟨r0,ax,aK,r3,r4,r5,nx,mz⟩:=hz;⟨⟨r0,ax,aK,r3,r4,r5,trivial⟩,fun d=>⟨nx d,mz d⟩⟩
  refine⟨?_,?_,?_,?_,?_,?_,?_,?_⟩
  iterate 4
   .intro d;have b:=w.1 d;have g:=h.1 (v.1 b.2).1;rw[p] at g;have e:B T 7=true:=by rw[<-z];exact b.1
    have C:=r e;have E:=o2' x (by omega);have F:=o2' y (by omega);rw[D];omega
  .intro d;have b:=a3.1 d;have g:=h.1 b.2;rw[p] at g;have e:B T 7=true:=by rw[<-z];exact b.1
   have C:=r e;have cc:=o2' M (by omega);rw[D];omega
  .intro d;have b:=ag.1 d;have g:=h.1 b.2;rw[p] at g;have e:B T 7=true:=by rw[<-z];exact b.1
   have C:=r e;rw[D];omega
  .intro d;have b:=w.1 d;have b4:=v.1 b.2;have g:=h.1 b4.1;rw[p] at g;have e:B T 7=true:=by rw[<-z];exact b.1
   have C:=r e;have cc:=o2' M (by omega);have E:=o2' x (by omega);have F:=o2' y (by omega);have ce:=o2' N (by omega);clear M x y N;obtain⟨z1,Q,z3,z4⟩:=v3 e;obtain⟨az,al,m3⟩:=OF (l:=L T 6) (c:=L J 10) (a:=(I T 2).toNat) (i:=(I T 5).toNat) (j:=(I J 9).toNat) (by omega) (by omega) (by omega) (by rw[show (I T 5).toNat - (I J 9).toNat=(I T 5 - (I J 9)).toNat by omega];exact z3);obtain⟨m4,m5⟩:=m3 (by omega);have hj:(I J 9).toNat < (L J 10).length:=by omega
   have b6:(I J 9).toNat - 1 < (L J 10).length:=by omega
   have hn:(I J 9 - 1).toNat=(I J 9).toNat - 1:=by omega
   have sj:=Q _ (Aq hj);have cb:=Q _ (Aq b6);have O:L J 49=(L J 10).set (I J 9).toNat ((L J 10).getD ((I J 9).toNat - 1) []):=by
    rw[b1,ba,bb,bc,bi,bk,bl,F,hn];exact Nh Q hj cb
   have b9:∀u∈(L J 49),AL AB KS u:=by rw[O];exact Bi Q cb
   have W:L J 50=(L J 49).set ((I J 9).toNat - 1) ((L J 10).getD (I J 9).toNat []):=by
    rw[b2,bm,bo,bs,bt,bx,b0,E,hn];exact Nh b9 (by rw[O,ABr];exact b6) sj
   have cj:ltT ((L T 6).getD (I T 5).toNat []) (((((L T 6).take (I T 5).toNat).drop (I T 2).toNat).reverse).getD ((I T 5).toNat - (I J 9).toNat) [])=true:=by
    rw[<-m4,<-al];refine decide_eq_true ?_;have b3:=a9.1 b4.2;rw[V,aw,a0,a1,a2,ao,a5,a6,a7,a8,a4,cc,hn] at b3;exact b3
   refine⟨by omega,by omega,fun _=>⟨?_,?_,?_,fun q hq=>?_⟩⟩
   .rw[W,O,ABr,ABr];exact z1
   .rw[W];exact Bi b9 sj
   .rw[W,O,m5,ce,show (I T 5 - (I J 9 - 1)).toNat=(I T 5).toNat - ((I J 9).toNat - 1) by omega]
   .rcases Int.lt_or_le (q:Int) (I T 5 - (I J 9)) with b8|b8
    .exact z4 q b8
    .obtain rfl:q=(I T 5).toNat - (I J 9).toNat:=by omega
     exact cj
  .intro d;have g:=h.1 (v.1 (w.1 d).2).1;rw[p] at g;have ce:=o2' N (by omega);omega
theorem df (g:fb T)(au:fx T)(c:AK T (hds 5 [.i,.l]++EB [2,1,3] (AO (Aj 0 Hm.ks) IH)))(a:AR T (KR.map En.be)):
  (AE T G7)/\(B T 7=true->I T 5 < I T 3)/\((NM).owes (Qq.map (Rf.eval T)))/\(ACn T (I T 9) (L T 10))/\(¬B T 33=true)/\(AE T FI)/\(AE T Lm)/\AK T (AO (AO (hds 9 [.i,.l]++(AO (hds 5 [.i,.l]++EB [2,1,3] (AO (Aj 0 Hm.ks) IH)) G7)) FI) Lm):=by
 unfold KR at a;rw[ABI,ABI,ABI] at a;obtain⟨i,a⟩:=cutB a;obtain⟨j,a⟩:=cutB a;obtain⟨b,a⟩:=cutB a;obtain⟨e,d⟩:=AN c (by kernel_rfl) i;have h:=rL g au e;obtain⟨v,k,t,u⟩:=uE g au h d b j;have r:=(AN (k.append d) (l:=FI) (by kernel_rfl) b);obtain⟨p,c⟩:=r;clear i b j d k;obtain⟨q,s⟩:=AN c (by kernel_rfl) a;exact⟨e,h,v,t,u,p,q,s⟩
theorem vw (b2:∀u∈(L T 0),AL AB KS u)(ca:(L T 0).length=I T 1/\0<=I T 2/\I T 2<=I T 3/\I T 3<=I T 1)(h4:I T 4=I T 2+1)(ci:I T 1<=140737488355328)(E:AK T (AO (Aj 0 Hm.ks) IH))(C:AR T (KR.map En.be))(D:AR T ((Ad Ps [.i,.l] VD).map En.be)):
  (Ps).owes (VD.map (Rf.eval T))/\AK T (hds 5 [.i,.l])/\(ACr T (I T 5) (L T 6))/\¬B T 34=true:=by
 refine Jz (nh:=5) (k:=2) (pcn:=34) (an:=53) (H:=KR) (K:=fY) (nxt:=[.e 52,.e 10]) (A:=[.e 4,.e 0]) (fv:=[2,1,3]) (R:=[.i,.l]) (by kernel_rfl) rfl rfl rfl rfl E (by kernel_rfl) C (Ae D) (fun s=>ACr T (aI s 0) (aL s 1)) (fun s=>(I T 3 - (aI s 0)).toNat) ?_ ?_
 .show ACr T (I T 4) (L T 0);clear E C D;rw[h4];exact⟨ABt _,.inr rfl,ca.1,b2,by rw[show (I T 2+1).toNat=(I T 2).toNat+1 by omega,L1 (by omega)]⟩
 .intro J r a4 hE g;replace g:ACr T (I J 5) (L J 6):=g;have y:=fvI (r 2 (by decide));have h:=fvI (r 1 (by decide));have z:=fvI (r 3 (by decide));clear r;clear E C D;have g1:0<=I J 2/\I J 2<=I J 3/\I J 2+1<=I J 5/\(I J 5<=I J 3\/I J 5=I J 2+1)/\I J 3<=I J 1/\I J 1<=140737488355328:=by
   obtain⟨v1,v2,F,M,N⟩:=g;rw[y,h,z];omega
  have au:(L J 6).length=I J 1/\∀u∈(L J 6),AL AB KS u:=by
   obtain⟨v1,v2,F,M,N⟩:=g;rw[h];exact⟨F,M⟩
  obtain⟨O,p,b9,b4,cs,b,P,a5⟩:=df g1 au a4 hE;clear a4 hE;have hN:=B9 a5 (ay:=[.i,.l]) (ai:=[.e 52,.e 10]) (by kernel_rfl);clear a5;have F0:=O;clear O;obtain⟨F1,b⟩:=b.cut;obtain⟨F2,b⟩:=b.cut;have F3:=b;clear b;have F4:=P;clear P;obtain⟨x,-⟩:=id F0;obtain⟨Q,-,-,-,V,W,-,X,Y,Z,-,-,ab,ad,ag,-⟩:=id F1;obtain⟨ao,aw,ax,t,a0,a1,bm,v,-⟩:=id F2;obtain⟨w,-⟩:=id F4;replace t:I J 30=(plN (I J 16) (I J 18) (I J 19) (I J 20) (S J 15) (I J 25) (I J 27) (I J 28) (I J 29) (S J 24)):=t;simp only[AD,AG,zN,zR,w2P,zL] at x Q V W X Y Z ab ad ag ao aw ax a0 a1 bm v w;obtain⟨v1,v2,F,M,N⟩:=g
  suffices hz:(B J 34=true->(ACr T (I J 52) (L J 10)))/\(B J 34=true->(I T 3 - (I J 52)).toNat < (I T 3 - (I J 5)).toNat) from
   let⟨nx,mz⟩:=hz;⟨hN,⟨(fun _=>b9),trivial⟩,fun d=>⟨nx d,mz d⟩⟩
  refine⟨?_,?_⟩
  .obtain⟨aG,w2,w3⟩:=b4;rw[y] at aG w3;intro d;have e:=v.1 d;have p:=x.1 e.1;have ba:=o2' w (by omega);obtain⟨z1,z2,z3,z4⟩:=w3 e.1;have b1:L J 10=XX ltT (L J 6) (I T 2).toNat (I J 5).toNat:=by
    rw[z3];refine aV (l:=L J 6) (k:=(I J 5 - (I J 9)).toNat) (by omega) (by omega) (by omega) (fun q hq=>z4 q (by omega)) ?_;rcases Int.lt_or_le (I T 2) (I J 9) with h9|h9
    .refine .inr fun a6=>?_;obtain⟨az,al,m3⟩:=OF (l:=L J 6) (c:=L J 10) (a:=(I T 2).toNat) (i:=(I J 5).toNat) (j:=(I J 9).toNat) (by omega) (by omega) (by omega) (by rw[show (I J 5).toNat - (I J 9).toNat=(I J 5 - (I J 9)).toNat by omega];exact z3);obtain⟨m4,m5⟩:=m3 (by omega);rw[show (I J 5 - (I J 9)).toNat=(I J 5).toNat - (I J 9).toNat by omega,<-m4,<-al] at a6;have cb:=o2' ab (by omega);have bs:I J 30 < 0:=by
      rw[t,W,X,Y,Z,V,ag,ao,aw,ax,ad,cb,show (I J 9 - 1).toNat=(I J 9).toNat - 1 by omega];exact of_decide_eq_true a6
     have bt:B J 32=true:=a1.2 ⟨Q.2 (by rw[y];exact h9),a0.2 bs⟩;have:=e.2;simp[bt] at this
    .exact .inl (by omega)
   refine⟨by omega,?_,by rw[<-h];exact z1,z2,?_⟩
   .rw[z] at p;left;omega
   .rw[b1,ba,show (I J 5+1).toNat=(I J 5).toNat+1 by omega,Yk (by omega) (by rw[h] at*; omega),<-N]
  .intro d;have e:=v.1 d;have p:=x.1 e.1;rw[z] at p;have ba:=o2' w (by omega);omega
theorem yF:AW Try.prog 138 Hm:=by
 refine An (l:=[(72,IJ)]) A8 (by simp only[ABT];exact⟨YI,fun _ h=>absurd h (by simp)⟩) zP (by kernel_rfl) fun T us V e c q a4 a=>?_;change us.length=4 at c;obtain⟨⟨Q,a7⟩,⟨W,g⟩,-⟩:=a4;replace Q:(L T 0).length<=140737488355328:=Q;have a8:∀u∈(L T 0),AL AB KS u:=fun u hu=>by
  obtain⟨i,Y⟩:=ABZ.1 hu;exact a7 i u Y
 replace W:0<=I T 1:=W;replace g:I T 1<=140737488355328:=g;have M:=inL (j:=0) e c (by decide);have a6:=inI (j:=1) e c (by decide);have N:=inI (j:=2) e c (by decide);have O:=inI (j:=3) e c (by decide);have X:(L T 0).length=I T 1/\0<=I T 2/\I T 2<=I T 3/\I T 3<=I T 1:=by
  have h:=V (.s "insS.p0",J7) (by simp[Hm]);change J7 us at h;unfold J7 at h;simp only[M,a6,N,O] at h;exact h
 clear V;rw[ABI,ABI,ABI] at a;obtain⟨F,a⟩:=cutB a;obtain⟨H,a⟩:=cutB a;obtain⟨p,a⟩:=cutB a;obtain⟨A0,d⟩:=AN q (by kernel_rfl) F;have F0:=A0;have h4:I T 4=I T 2+1:=by
  obtain⟨z,-⟩:=F0;simp only[AD,zR,w2P] at z;exact z (by omega) (by omega)
 have g:I T 1<=140737488355328:=by
  omega
 obtain⟨bc,J,s,ba⟩:=vw a8 X h4 g d p H;have g1:0<=I T 2/\I T 2<=I T 3/\I T 2+1<=I T 5/\(I T 5<=I T 3\/I T 5=I T 2+1)/\I T 3<=I T 1/\I T 1<=140737488355328:=by
  have C:I T 2=I T 2:=rfl;have k:I T 1=I T 1:=rfl;have D:I T 3=I T 3:=rfl;have r:=s;obtain⟨Z,v2,t,v,w⟩:=r;rw[C,k,D];omega
 have au:(L T 6).length=I T 1/\∀u∈(L T 6),AL AB KS u:=by
  have C:I T 2=I T 2:=rfl;have k:I T 1=I T 1:=rfl;have D:I T 3=I T 3:=rfl;have r:=s;obtain⟨Z,v2,t,v,w⟩:=r;rw[k];exact⟨t,v⟩
 obtain⟨ag,h7,bt,bs,bb,b,al,K⟩:=df g1 au (J.append (Cj (fun _ _=>rfl) d)) p;have q:=K.append d;clear F p H d J K;obtain⟨A2,hO⟩:=Ao (R:=[.l]) (ai:=rH) q (by kernel_rfl) a;have F1:=ag;obtain⟨F2,b⟩:=b.cut;obtain⟨F3,b⟩:=b.cut;have F4:=b;have F5:=al;obtain⟨A,-⟩:=id F1;obtain⟨-,-,-,-,-,-,x,y,-⟩:=id F3;simp only[AD,AG,zN,zR] at A x y;have q0:L T 6=(AQ ltT (L T 0) (I T 2).toNat (I T 3).toNat):=by
  obtain⟨Z,v2,t,v,w⟩:=s;obtain⟨p1,p2,p3,p4⟩:=X;have h7:¬I T 5 < I T 3:=fun h=>by
   have P:=A.2 h;by_cases E:B T 32=true
   .exact bb (x.2 ⟨P,E⟩)
   .exact ba (y.2 ⟨P,by simpa using E⟩)
  rw[w];by_cases h8:I T 5=I T 3
  .rw[h8]
  .have h:I T 5=I T 2+1:=by omega
   rw[h,show (I T 2+1).toNat=(I T 2).toNat+1 by omega,L1 (by omega),Iu (by omega) (by omega)]
 refine⟨⟨(fun _=>bc),trivial⟩,hO.trans ?_⟩;exact (lc (by show U.list (L T 6)= .list (M5 us);unfold M5;rw[M,N,O];exact ACF U.list q0) rfl)
def MT:List U->U':=fun us=>(BI (aL us 0) (swS (aI us 2).toNat (aI us 3).toNat (aI us 4).toNat))
def Jv:List U->Prop:=fun us=>((aL us 0)).length=(aI us 1)/\0<=(aI us 2)/\0<=(aI us 4)/\(aI us 2)+(aI us 4)<=(aI us 3)/\(aI us 3)+(aI us 4)<=(aI us 1)
def Qn:AU:={ sh:=[.one (k64),.one (k64),.one (k64),.cst (.fn (.func 72) [] [])],blks:=[],outs:=[(.s "swS.0",CI MT)],c:= .tup [],m':=[.mrow 5 1 [.str,k64,k64,k64,k64,k64] 61],pre:=[(.s "swS.p0",Jv)],row:=some ([.str,k64,k64,k64,k64,k64],61) }
abbrev Ma (T:Tab)(a:Int)(b:U'):Prop:=0<=a/\a<=I T 4/\(b).length=I T 1/\(∀u∈b,AL AB KS u)/\b=BI (L T 0) (swS (I T 2).toNat (I T 3).toNat a.toNat)
def jv:List En:=[]
def pY:List En:=[AC7 7 5 4,
 ADA 8 7,
 ADM 9 2 5,
 ADM 10 3 5,
 ADM 11 3 5,
 ADL 12 6 11,
 AC8 13 6 11,
 AC9 14 6 11,
 ADQ 15 6 11,
 ADP 16 6 11,
 ADR 17 6 11,
 ADM 18 2 5,
 ADL 19 6 18,
 AC8 20 6 18,
 AC9 21 6 18,
 ADQ 22 6 18]
def pf:List En:=[ADP 23 6 18,
 ADR 24 6 18,
 ⟨25,.rset 0 [.s,.i,.i,.i,.i,.i],[.e 6,.e 9,.e 12,.e 13,.e 14,.e 15,.e 16,.e 17]⟩,
 ⟨26,.rset 0 [.s,.i,.i,.i,.i,.i],[.e 25,.e 10,.e 19,.e 20,.e 21,.e 22,.e 23,.e 24]⟩,
 ⟨27,.w2 .i64 .add,[.e 5,.c (.int 1)]⟩]
def KC:List En:=pY++(pf)
def jV:List ObE:=[⟨some 7,.inr,[.e 10,.e 1]⟩,⟨some 7,.inr,[.e 9,.e 1]⟩,⟨some 7,.inr,[.e 18,.e 1]⟩,⟨some 7,.inr,[.e 11,.e 1]⟩]
def Sz:Aa:=mkD 5 2 KC 7 [.e 27,.e 26] jV [2,3,4,1]
def XC:List Rf:=[.e 2,.e 3,.e 4,.e 1,.c (.int 0),.e 0]
def xu:List En:=[]
def AAg:List ObE:=[⟨none,.owes Sz,[.e 2,.e 3,.e 4,.e 1,.c (.int 0),.e 0]⟩]
def xF:List Rf:=[.e 6]
theorem AA3:Qn.sees xF (Qn.run Try.prog [] Ab 3000 20 149)=some ((jv++((Ad Sz [.i,.l] XC)++(KC++(xu)))).map En.be,AAg.map ObE.be,[]):=by kernel_rfl
theorem zl:AW Try.prog 149 Qn:=by
 refine An (l:=[]) A8 (by intro p h;exact absurd h (by simp)) AA3 (by kernel_rfl) fun T us b2 x w X b9 r=>?_;change us.length=5 at w;obtain⟨⟨b1,ce⟩,⟨b6,b0⟩,-⟩:=b9;replace b1:(L T 0).length<=140737488355328:=b1;have cf:∀u∈(L T 0),AL AB KS u:=fun u hu=>by
  obtain⟨i,Y⟩:=ABZ.1 hu;exact ce i u Y
 replace b6:0<=I T 1:=b6;replace b0:I T 1<=140737488355328:=b0;have bo:=inL (j:=0) x w (by decide);have cc:=inI (j:=1) x w (by decide);have bs:=inI (j:=2) x w (by decide);have bt:=inI (j:=3) x w (by decide);have bx:=inI (j:=4) x w (by decide);have ag:(L T 0).length=I T 1/\0<=I T 2/\0<=I T 4/\I T 2+I T 4<=I T 3/\I T 3+I T 4<=I T 1:=by
  have h:=b2 (.s "swS.p0",Jv) (by simp[Qn]);change Jv us at h;unfold Jv at h;simp only[bo,cc,bs,bt,bx] at h;exact h
 clear b2;rw[ABI,ABI,ABI] at r;obtain⟨hA,r⟩:=cutB r;obtain⟨hH,r⟩:=cutB r;obtain⟨W,r⟩:=cutB r;obtain⟨A0,Z⟩:=AN X (by kernel_rfl) hA;refine ACw (Ap (nh:=5) (k:=2) (pcn:=7) (an:=28) (H:=KC) (K:=jV) (nxt:=[.e 27,.e 26]) (A:=[.c (.int 0),.e 0]) (fv:=[2,3,4,1]) (R:=[.i,.l]) (by kernel_rfl) rfl rfl rfl rfl Z (by kernel_rfl) (by kernel_rfl) W (Ae hH) (fun s=>Ma T (aI s 0) (aL s 1)) (fun s=>(I T 4 - (aI s 0)).toNat)) ?_ ?_ fun⟨cu,bm,ad,cl⟩=>?_
 .show Ma T (0:Int) (L T 0);exact⟨ABt _,ag.2.2.1,ag.1,cf,jI.symm⟩
 .intro J y v ab;replace ab:Ma T (I J 5) (L J 6):=ab;replace v:AE J KC:=v;obtain⟨Q,v⟩:=v.cut;have F1:=v;clear v;have c6:=fvI (y 2 (by decide));have c7:=fvI (y 3 (by decide));have t:=fvI (y 4 (by decide));have c5:=fvI (y 1 (by decide));clear y;obtain⟨g,-,q,c,d,a0,a1,a2,a3,a4,a5,e,a6,a7,a8,a9,-⟩:=id Q;obtain⟨ba,bb,bc,bi,V,-⟩:=id F1;simp only[AD,zR,w2P,zL,zS,uR,zW,AG,zC] at g q c d a0 a1 a2 a3 a4 a5 e a6 a7 a8 a9 ba bb bc bi V;obtain⟨v1,v2,v3,z,v5⟩:=ab;obtain⟨p1,p2,p3,p4,p5⟩:=ag
  suffices hz:(B J 7=true->0<=I J 10/\I J 10 < I J 1)/\(B J 7=true->0<=I J 9/\I J 9 < I J 1)/\(B J 7=true->0<=I J 18/\I J 18 < I J 1)/\(B J 7=true->0<=I J 11/\I J 11 < I J 1)/\(B J 7=true->(Ma T (I J 27) (L J 26)))/\(B J 7=true->(I T 4 - (I J 27)).toNat < (I T 4 - (I J 5)).toNat) from
   let⟨r0,ax,aK,r3,nx,mz⟩:=hz;⟨⟨r0,ax,aK,r3,trivial⟩,fun a=>⟨nx a,mz a⟩⟩
  refine⟨?_,?_,?_,?_,?_,?_⟩
  iterate 4
   .intro a;have b:=g.1 a;rw[t] at b;have zz:True:=by have _:=q;have _:=c;have _:=d;have _:=e;trivial
    have N:=o2' q (by omega);have D:=o2' c (by omega);have F:=o2' d (by omega);have M:=o2' e (by omega);omega
  .intro a;have b:=g.1 a;rw[t] at b;have N:=o2' q (by omega);have D:=o2' c (by omega);have F:=o2' d (by omega);have M:=o2' e (by omega);have c2:=o2' V (by omega);have jA:(I T 2).toNat+(I J 5).toNat < (L J 6).length:=by omega
   have jB:(I T 3).toNat+(I J 5).toNat < (L J 6).length:=by omega
   have sA:=z _ (Aq jA);have sB:=z _ (Aq jB);have C:L J 25=(L J 6).set ((I T 2).toNat+(I J 5).toNat) ((L J 6).getD ((I T 3).toNat+(I J 5).toNat) []):=by
    rw[bc,a0,a1,a2,a3,a4,a5,show (I J 11).toNat=(I T 3).toNat+(I J 5).toNat by omega,show (I J 9).toNat=(I T 2).toNat+(I J 5).toNat by omega];exact Nh z jA sB
   have k1:∀u∈(L J 25),AL AB KS u:=by rw[C];exact Bi z sB
   have O:L J 26=(L J 25).set ((I T 3).toNat+(I J 5).toNat) ((L J 6).getD ((I T 2).toNat+(I J 5).toNat) []):=by
    rw[bi,a6,a7,a8,a9,ba,bb,show (I J 18).toNat=(I T 2).toNat+(I J 5).toNat by omega,show (I J 10).toNat=(I T 3).toNat+(I J 5).toNat by omega];exact Nh k1 (by rw[C,ABr];exact jB) sA
   have E:∀u∈(L J 26),AL AB KS u:=by rw[O];exact Bi k1 sA
   have aB:(L J 26).length=(L J 6).length:=by rw[O,C,ABr,ABr]
   refine⟨by omega,by omega,by rw[aB];exact v3,E,?_⟩;rw[O,C,j5 v5 (by omega) (by omega),show (I J 27).toNat=(I J 5).toNat+1 by omega]
  .intro a;have b:=g.1 a;rw[t] at b;have c2:=o2' V (by omega);omega
 replace ad:0<=I T 5/\I T 5<=I T 4/\(L T 6).length=I T 1/\(∀u∈(L T 6),AL AB KS u)/\L T 6=BI (L T 0) (swS (I T 2).toNat (I T 3).toNat (I T 5).toNat):=ad;have ca:=(AN (bm.append Z) (l:=KC) (by kernel_rfl) W);obtain⟨P,X⟩:=ca;clear hA W hH Z bm;obtain⟨A1,hO⟩:=Ao (R:=[.l]) (ai:=xF) X (by kernel_rfl) r;obtain⟨Q,P⟩:=P.cut;have F1:=P;obtain⟨g,-⟩:=id Q;simp only[AD,zR] at g;have q0:L T 6=(BI (L T 0) (swS (I T 2).toNat (I T 3).toNat (I T 4).toNat)):=by
  obtain⟨v1,v2,v3,z,v5⟩:=ad;have b:¬I T 5 < I T 4:=fun h=>cl (g.2 h);rw[v5,show (I T 5)=(I T 4) by omega]
 refine⟨⟨(fun _=>cu),trivial⟩,hO.trans ?_⟩;exact (lc (by show U.list (L T 6)= .list (MT us);unfold MT;rw[bo,bs,bt,bx];exact ACF U.list q0) rfl)
def Qk:List U->U':=fun us=>(BI (aL us 0) (rtS (aI us 2).toNat (aI us 3).toNat (aI us 4).toNat))
def M8:List U->Prop:=fun us=>((aL us 0)).length=(aI us 1)/\0<=(aI us 2)/\(aI us 2) < (aI us 3)/\(aI us 3) < (aI us 4)/\(aI us 4)<=(aI us 1)
def M9:AU:={ sh:=[.one (k64),.one (k64),.one (k64),.cst (.fn (.func 72) [] [])],blks:=[],outs:=[(.s "rotS.0",CI Qk)],c:= .tup [],m':=[.mrow 5 1 [.str,k64,k64,k64,k64,k64] 61],pre:=[(.s "rotS.p0",M8)],row:=some ([.str,k64,k64,k64,k64,k64],61) }
abbrev Js (T:Tab)(a:Int)(b:Int)(c:U'):Prop:=1<=a/\1<=b/\b<=I T 3 - (I T 2)/\a<=I T 4 - (I T 3)/\(c).length=I T 1/\BI c (rtS ((I T 3).toNat - b.toNat) (I T 3).toNat ((I T 3).toNat+a.toNat))=BI (L T 0) (rtS (I T 2).toNat (I T 3).toNat (I T 4).toNat)
def kI:List En:=[ADN 5 3 2,
 ADN 6 4 3]
def Qo:List En:=kI
def kw:List En:=[⟨10,.ne,[.e 8,.e 7]⟩,
 ADA 11 10,
 AC7 12 7 8,
 AC4 13 10 12,
 ADN 14 3 8,
 ⟨15,.outL "swS.0" MT,[.e 9,.e 1,.e 14,.e 3,.e 7]⟩,
 ADN 16 8 7,
 AC5 17 10 12,
 ADN 18 3 8,
 ADM 19 3 7,
 ADN 20 19 8,
 ⟨21,.outL "swS.0" MT,[.e 9,.e 1,.e 18,.e 20,.e 8]⟩,
 ADN 22 7 8,
 ADD 23 12 15 21,
 ADC 24 12 7 22,
 ADC 25 12 16 8]
def IB:List En:=kw
def dK:List ObE:=[⟨some 17,.pre "swS.p0" Jv,[.e 9,.e 1,.e 18,.e 20,.e 8]⟩,⟨some 13,.pre "swS.p0" Jv,[.e 9,.e 1,.e 14,.e 3,.e 7]⟩]
def QK:Aa:=mkD 7 3 IB 10 [.e 24,.e 25,.e 23] dK [1,3]
def VG:List Rf:=[.e 1,.e 3,.e 6,.e 5,.e 0]
def kW:List En:=[ADN 26 3 8,
 ⟨27,.outL "swS.0" MT,[.e 9,.e 1,.e 26,.e 3,.e 8]⟩]
def bN:List En:=kW
def yv:List ObE:=[⟨some 11,.pre "swS.p0" Jv,[.e 9,.e 1,.e 26,.e 3,.e 8]⟩,
 ⟨none,.owes QK,[.e 1,.e 3,.e 6,.e 5,.e 0]⟩]
def qX:List Rf:=[.e 27]
theorem zY:M9.sees qX (M9.run Try.prog [(149,Qn)] Ab 3000 20 146)=some ((Qo++((Ad QK [.i,.i,.l] VG)++(IB++(bN)))).map En.be,yv.map ObE.be,[]):=by kernel_rfl
theorem ye:AW Try.prog 146 M9:=by
 refine An (l:=[(149,Qn)]) A8 (by simp only[ABT];exact⟨zl,fun _ h=>absurd h (by simp)⟩) zY (by kernel_rfl) fun T us bk r g W ca d=>?_;change us.length=5 at g;obtain⟨⟨bi,cf⟩,⟨bl,bc⟩,-⟩:=ca;replace bi:(L T 0).length<=140737488355328:=bi;have c4:∀u∈(L T 0),AL AB KS u:=fun u hu=>by
  obtain⟨i,Y⟩:=ABZ.1 hu;exact cf i u Y
 replace bl:0<=I T 1:=bl;replace bc:I T 1<=140737488355328:=bc;have a8:=inL (j:=0) r g (by decide);have ce:=inI (j:=1) r g (by decide);have a9:=inI (j:=2) r g (by decide);have ba:=inI (j:=3) r g (by decide);have bb:=inI (j:=4) r g (by decide);have al:(L T 0).length=I T 1/\0<=I T 2/\I T 2 < I T 3/\I T 3 < I T 4/\I T 4<=I T 1:=by
  have h:=bk (.s "rotS.p0",M8) (by simp[M9]);change M8 us at h;unfold M8 at h;simp only[a8,ce,a9,ba,bb] at h;exact h
 clear bk;rw[ABI,ABI,ABI] at d;obtain⟨hA,d⟩:=cutB d;obtain⟨hH,d⟩:=cutB d;obtain⟨V,d⟩:=cutB d;obtain⟨A0,X⟩:=AN W (by kernel_rfl) hA;have t:=A0;have x5:I T 5=I T 3 - (I T 2):=by
  obtain⟨e5,-⟩:=t;simp only[AD,zR,w2P] at e5;exact e5 (by omega) (by omega)
 have x6:I T 6=I T 4 - (I T 3):=by
  obtain⟨-,e6,-⟩:=t;simp only[AD,zR,w2P] at e6;exact e6 (by omega) (by omega)
 refine ACw (Ap (nh:=7) (k:=3) (pcn:=10) (an:=26) (H:=IB) (K:=dK) (nxt:=[.e 24,.e 25,.e 23]) (A:=[.e 6,.e 5,.e 0]) (fv:=[1,3]) (R:=[.i,.i,.l]) (by kernel_rfl) rfl rfl rfl rfl X (by kernel_rfl) (by kernel_rfl) V (Ae hH) (fun s=>Js T (aI s 0) (aI s 1) (aL s 2)) (fun s=>((aI s 0)+(aI s 1)).toNat)) ?_ ?_ fun⟨cs,a7,ad,bm⟩=>?_
 .show Js T (I T 6) (I T 5) (L T 0);obtain⟨p1,p2,p3,p4,p5⟩:=al;exact⟨by omega,by omega,by omega,by omega,p1,by rw[show (I T 3).toNat - (I T 5).toNat=(I T 2).toNat by omega,show (I T 3).toNat+(I T 6).toNat=(I T 4).toNat by omega]⟩
 .intro J Z x ab;replace ab:Js T (I J 7) (I J 8) (L J 9):=ab;replace x:AE J IB:=x;have t:=x;clear x;have a4:=fvI (Z 1 (by decide));have b9:=fvI (Z 3 (by decide));clear Z;obtain⟨c,-,e,aw,z,v,C,a0,D,E,F,w,M,a1,N,O,-⟩:=id t;replace v:L J 15=(BI (L J 9) (swS (I J 14).toNat (I J 3).toNat (I J 7).toNat)):=v;replace w:L J 21=(BI (L J 9) (swS (I J 18).toNat (I J 20).toNat (I J 8).toNat)):=w;simp only[AD,AG,zN,zR,w2P,zL,zS] at c e aw z C a0 D E F M a1 N O;obtain⟨v1,v2,v3,v4,p,y⟩:=ab;obtain⟨p1,p2,p3,p4,p5⟩:=al
  suffices hz:(B J 17=true->(L J 9).length=I J 1/\0<=I J 18/\0<=I J 8/\I J 18+I J 8<=I J 20/\I J 20+I J 8<=I J 1)/\(B J 13=true->(L J 9).length=I J 1/\0<=I J 14/\0<=I J 7/\I J 14+I J 7<=I J 3/\I J 3+I J 7<=I J 1)/\(B J 10=true->(Js T (I J 24) (I J 25) (L J 23)))/\(B J 10=true->(I J 24+I J 25).toNat < (I J 7+I J 8).toNat) from
   let⟨r0,ax,nx,mz⟩:=hz;⟨⟨r0,ax,trivial⟩,fun b=>⟨nx b,mz b⟩⟩
  refine⟨?_,?_,?_,?_⟩
  .intro b;obtain⟨q,a⟩:=a0.1 b;have q:=c.1 q;have h:¬I J 7 < I J 8:=fun h=>by rw[e.2 h] at a;cases a
   have cy:=o2' D (by omega);have c0:=o2' E (by omega);have c1:=o2' F (by omega);rw[a4];refine⟨p,?_⟩;omega
  .intro b;obtain⟨q,a⟩:=aw.1 b;have h:=e.1 a;have cv:=o2' z (by omega);rw[a4];refine⟨p,?_⟩;omega
  .intro b;have q:=c.1 b;have cv:=o2' z (by omega);have cx:=o2' C (by omega);have cy:=o2' D (by omega);have c0:=o2' E (by omega);have c1:=o2' F (by omega);have c2:=o2' M (by omega);rw[a1,N,O];by_cases a:B J 12=true
   .rw[ACE a,ACE a,ACE a];have h:=e.1 a;refine⟨v1,by omega,by omega,v4,by rw[v,D1];exact p,?_⟩;rw[v,b9,<-y,show (I J 14).toNat=(I T 3).toNat - (I J 8).toNat by omega,show (I J 16).toNat=(I J 8).toNat - (I J 7).toNat by omega];exact qK (by omega) (by omega) (by omega)
   .rw[ACD a,ACD a,ACD a];have h:¬I J 7 < I J 8:=fun h=>a (e.2 h);refine⟨by omega,v2,v3,by omega,by rw[w,D1];exact p,?_⟩;rw[w,<-y,show (I J 18).toNat=(I T 3).toNat - (I J 8).toNat by omega,show (I J 20).toNat=(I T 3).toNat+(I J 7).toNat - (I J 8).toNat by omega,show (I J 22).toNat=(I J 7).toNat - (I J 8).toNat by omega];exact pj (by omega) (by omega) (by omega)
  .intro b;have q:=c.1 b;have cx:=o2' C (by omega);have c2:=o2' M (by omega);rw[N,O];by_cases a:B J 12=true
   .rw[ACE a,ACE a];have h:=e.1 a;omega
   .rw[ACD a,ACD a];have h:¬I J 7 < I J 8:=fun h=>a (e.2 h);omega
 replace ad:1<=I T 7/\1<=I T 8/\I T 8<=I T 3 - (I T 2)/\I T 7<=I T 4 - (I T 3)/\(L T 9).length=I T 1/\BI (L T 9) (rtS ((I T 3).toNat - (I T 8).toNat) (I T 3).toNat ((I T 3).toNat+(I T 7).toNat))=BI (L T 0) (rtS (I T 2).toNat (I T 3).toNat (I T 4).toNat):=ad;have cb:=(AN (a7.append X) (l:=IB) (by kernel_rfl) V);obtain⟨B0,W⟩:=cb;clear hA V hH X a7;obtain⟨A1,hO⟩:=Ao (R:=[.l]) (ai:=qX) W (by kernel_rfl) d;have F1:=B0;have F2:=A1;obtain⟨c,-⟩:=id F1;obtain⟨P,Q,-⟩:=id F2;replace Q:L T 27=(BI (L T 9) (swS (I T 26).toNat (I T 3).toNat (I T 8).toNat)):=Q;simp only[AD,zR,w2P] at c P;obtain⟨v1,v2,v3,v4,p,y⟩:=ad;obtain⟨p1,p2,p3,p4,p5⟩:=al;have q0:L T 27=(BI (L T 0) (rtS (I T 2).toNat (I T 3).toNat (I T 4).toNat)):=by
  have h:I T 8=I T 7:=by
   by_cases h:I T 8=I T 7
   .exact h
   .exact absurd (c.2 h) bm
  have c3:=o2' P (by omega);rw[Q,<-y,h,show (I T 26).toNat=(I T 3).toNat - (I T 7).toNat by omega];exact pn (by omega) (by omega)
 have r0:B T 11=true->(L T 9).length=I T 1/\0<=I T 26/\0<=I T 8/\I T 26+I T 8<=I T 3/\I T 3+I T 8<=I T 1:=by
  intro b;have h:I T 8=I T 7:=by
   by_cases h:I T 8=I T 7
   .exact h
   .exact absurd (c.2 h) bm
  have c3:=o2' P (by omega);refine⟨p,?_⟩;omega
 refine⟨⟨r0,(fun _=>cs),trivial⟩,hO.trans ?_⟩;exact (lc (by show U.list (L T 27)= .list (Qk us);unfold Qk;rw[a8,a9,ba,bb];exact ACF U.list q0) rfl)
end
section
open Go Go.Eng Go.Proofs
set_option maxHeartbeats 4000000
set_option maxRecDepth 100000
variable {o:Nat}
def IV:List U->U':=fun us=>(AQ ltT (aL us 0) (aI us 2).toNat (aI us 4).toNat)
def Fh (o:Nat):List U->Prop:=fun us=>(aI us 4).toNat - (aI us 2).toNat < o/\((aL us 0)).length=(aI us 1)/\0<=(aI us 2)/\(aI us 2) < (aI us 3)/\(aI us 3) < (aI us 4)/\(aI us 4)<=(aI us 1)/\Srt ltT (seg (aL us 0) (aI us 2).toNat (aI us 3).toNat)/\Srt ltT (seg (aL us 0) (aI us 3).toNat (aI us 4).toNat)/\Dst ltT (seg (aL us 0) (aI us 2).toNat (aI us 4).toNat)
def De (o:Nat):AU:={ sh:=[.one (k64),.one (k64),.one (k64),.cst (.fn (.func 72) [] [])],blks:=[],outs:=[(.s "symS.0",CI IV)],c:= .tup [],m':=[.mrow 5 1 [.str,k64,k64,k64,k64,k64] 61],pre:=[(.s "symS.p0",Fh o)],row:=some ([.str,k64,k64,k64,k64,k64],61) }
def vH:List Rf:=[.e 15,.e 16,.e 17,.e 18,.e 19,.e 20,.e 21,.e 22,.e 23,.e 24,.e 25,.e 26]
def vm:List Rf:=[.e 69,.e 70,.e 71,.e 72,.e 73,.e 74,.e 75,.e 76,.e 77,.e 78,.e 79,.e 80]
def wg:List Rf:=[.e 131,.e 132,.e 133,.e 134,.e 135,.e 136,.e 137,.e 138,.e 139,.e 140,.e 141,.e 142]
abbrev Ff (T:Tab)(a:Int)(b:Int):Prop:=I T 3<=b/\b<=a/\a<=I T 4/\(b=I T 3\/ltT ((L T 0).getD (b - 1).toNat []) ((L T 0).getD (I T 2).toNat [])=true)/\(a=I T 4\/¬ltT ((L T 0).getD a.toNat []) ((L T 0).getD (I T 2).toNat [])=true)
abbrev Gn (T:Tab)(a:Int)(b:U'):Prop:=I T 2<=a/\a<=I T 8 - 1/\(b).length=I T 1/\(∀u∈b,AL AB KS u)/\b=Bp (L T 0) (I T 2).toNat ((I T 2).toNat+1) (a.toNat+1)
abbrev GT (T:Tab)(a:Int)(b:Int):Prop:=I T 2<=b/\b<=a/\a<=I T 3/\(b=I T 2\/¬ltT ((L T 0).getD (I T 3).toNat []) ((L T 0).getD (b - 1).toNat [])=true)/\(a=I T 3\/ltT ((L T 0).getD (I T 3).toNat []) ((L T 0).getD a.toNat [])=true)
abbrev IP (T:Tab)(a:Int)(b:U'):Prop:=I T 62<=a/\a<=I T 3/\(b).length=I T 1/\(∀u∈b,AL AB KS u)/\b=Bp (L T 0) a.toNat (I T 3).toNat ((I T 3).toNat+1)
abbrev Jp (T:Tab)(a:Int)(b:Int):Prop:=I T 120<=b/\b<=a/\a<=I T 119/\(b=I T 120\/¬ltT ((L T 0).getD (I T 121 - (b - 1)).toNat []) ((L T 0).getD (b - 1).toNat [])=true)/\(a=I T 119\/ltT ((L T 0).getD (I T 121 - a).toNat []) ((L T 0).getD a.toNat [])=true)
def oQ:List En:=[ADN 5 3 2,
 ⟨6,.eq,[.e 5,.c (.int 1)]⟩]
def Eh:List En:=oQ
def mT:List En:=[AC7 9 8 7,
 AC4 10 6 9,
 AC5 11 6 9,
 ADM 12 8 7,
 ⟨13,.w1 .u64,[.e 12]⟩,
 ⟨14,.o2 .div,[.e 13,.c (.int 2)]⟩,
 ADL 15 0 14,
 AC8 16 0 14,
 AC9 17 0 14,
 ADQ 18 0 14,
 ADP 19 0 14,
 ADR 20 0 14,
 ADL 21 0 2,
 AC8 22 0 2,
 AC9 23 0 2,
 ADQ 24 0 2]
def lG:List En:=[ADP 25 0 2,
 ADR 26 0 2,
 ⟨27,.outI "cmpTab.0" Fi,vH⟩,
 ⟨28,.lt,[.e 27,.c (.int 0)]⟩,
 AC4 29 10 28,
 ⟨30,.w2 .i64 .add,[.e 14,.c (.int 1)]⟩,
 AC5 31 10 28,
 ADC 32 28 7 14,
 ADC 33 28 30 8]
def Cm:List En:=mT++(lG)
def cY:List ObE:=[⟨some 10,.inr,[.e 2,.e 1]⟩,⟨some 10,.inr,[.e 14,.e 1]⟩]
def Q5:Aa:=mkD 7 2 Cm 10 [.e 32,.e 33] cY [0,2,6,1]
def U5:List Rf:=[.e 0,.e 2,.e 6,.e 1,.e 4,.e 3]
def NL:List En:=[]
def nC:List En:=[⟨36,.w2 .i64 .sub,[.e 8,.c (.int 1)]⟩,
 AC7 37 34 36,
 AC4 38 11 37,
 AC5 39 11 37,
 ⟨40,.w2 .i64 .add,[.e 34,.c (.int 1)]⟩,
 ⟨41,.w2 .i64 .add,[.e 34,.c (.int 1)]⟩,
 ADL 42 35 41,
 AC8 43 35 41,
 AC9 44 35 41,
 ADQ 45 35 41,
 ADP 46 35 41,
 ADR 47 35 41,
 ADL 48 35 34,
 AC8 49 35 34,
 AC9 50 35 34,
 ADQ 51 35 34]
def nH:List En:=[ADP 52 35 34,
 ADR 53 35 34,
 ⟨54,.rset 0 [.s,.i,.i,.i,.i,.i],[.e 35,.e 34,.e 42,.e 43,.e 44,.e 45,.e 46,.e 47]⟩,
 ⟨55,.rset 0 [.s,.i,.i,.i,.i,.i],[.e 54,.e 40,.e 48,.e 49,.e 50,.e 51,.e 52,.e 53]⟩,
 ⟨56,.w2 .i64 .add,[.e 34,.c (.int 1)]⟩]
def Da:List En:=nC++(nH)
def ek:List ObE:=[⟨some 38,.inr,[.e 40,.e 1]⟩,⟨some 38,.inr,[.e 34,.e 1]⟩,⟨some 38,.inr,[.e 34,.e 1]⟩,⟨some 38,.inr,[.e 41,.e 1]⟩]
def Pi:Aa:=mkD 34 2 Da 38 [.e 56,.e 55] ek [11,8,1]
def Uy:List Rf:=[.e 11,.e 8,.e 1,.e 2,.e 0]
def mX:List En:=[ADA 57 6,
 ADN 58 4 3,
 ⟨59,.eq,[.e 58,.c (.int 1)]⟩,
 AC4 60 57 59]
def H3:List En:=mX
def lw:List En:=[AC7 63 62 61,
 AC4 64 60 63,
 AC5 65 60 63,
 ADM 66 62 61,
 ⟨67,.w1 .u64,[.e 66]⟩,
 ⟨68,.o2 .div,[.e 67,.c (.int 2)]⟩,
 ADL 69 0 3,
 AC8 70 0 3,
 AC9 71 0 3,
 ADQ 72 0 3,
 ADP 73 0 3,
 ADR 74 0 3,
 ADL 75 0 68,
 AC8 76 0 68,
 AC9 77 0 68,
 ADQ 78 0 68]
def lO:List En:=[ADP 79 0 68,
 ADR 80 0 68,
 ⟨81,.outI "cmpTab.0" Fi,vm⟩,
 ⟨82,.lt,[.e 81,.c (.int 0)]⟩,
 AC4 83 64 82,
 AC5 84 64 82,
 ⟨85,.w2 .i64 .add,[.e 68,.c (.int 1)]⟩,
 ADC 86 82 68 61,
 ADC 87 82 62 85]
def D4:List En:=lw++(lO)
def dQ:List ObE:=[⟨some 64,.inr,[.e 68,.e 1]⟩,⟨some 64,.inr,[.e 3,.e 1]⟩]
def Qm:Aa:=mkD 61 2 D4 64 [.e 86,.e 87] dQ [0,3,60,1]
def Up:List Rf:=[.e 0,.e 3,.e 60,.e 1,.e 3,.e 2]
def VE:List En:=[]
def mJ:List En:=[AC7 90 62 88,
 AC4 91 65 90,
 AC5 92 65 90,
 ⟨93,.w2 .i64 .sub,[.e 88,.c (.int 1)]⟩,
 ⟨94,.w2 .i64 .sub,[.e 88,.c (.int 1)]⟩,
 ADL 95 89 94,
 AC8 96 89 94,
 AC9 97 89 94,
 ADQ 98 89 94,
 ADP 99 89 94,
 ADR 100 89 94,
 ADL 101 89 88,
 AC8 102 89 88,
 AC9 103 89 88,
 ADQ 104 89 88,
 ADP 105 89 88]
def kT:List En:=[ADR 106 89 88,
 ⟨107,.rset 0 [.s,.i,.i,.i,.i,.i],[.e 89,.e 88,.e 95,.e 96,.e 97,.e 98,.e 99,.e 100]⟩,
 ⟨108,.rset 0 [.s,.i,.i,.i,.i,.i],[.e 107,.e 93,.e 101,.e 102,.e 103,.e 104,.e 105,.e 106]⟩,
 ⟨109,.w2 .i64 .sub,[.e 88,.c (.int 1)]⟩]
def Fb:List En:=mJ++(kT)
def fq:List ObE:=[⟨some 91,.inr,[.e 93,.e 1]⟩,⟨some 91,.inr,[.e 88,.e 1]⟩,⟨some 91,.inr,[.e 88,.e 1]⟩,⟨some 91,.inr,[.e 94,.e 1]⟩]
def Q0:Aa:=mkD 88 2 Fb 91 [.e 109,.e 108] fq [65,62,1]
def Ua:List Rf:=[.e 65,.e 62,.e 1,.e 3,.e 0]
def nM:List En:=[AC5 110 57 59,
 ADM 111 2 4,
 ⟨112,.w1 .u64,[.e 111]⟩,
 ⟨113,.o2 .div,[.e 112,.c (.int 2)]⟩,
 ADM 114 113 3,
 AC7 115 113 3,
 AC4 116 110 115,
 ADN 117 114 4,
 AC5 118 110 115,
 ADC 119 115 113 3,
 ADC 120 115 117 2,
 ⟨121,.w2 .i64 .sub,[.e 114,.c (.int 1)]⟩]
def Pe:List En:=nM
def lz:List En:=[AC7 124 123 122,
 AC4 125 110 124,
 AC5 126 110 124,
 ADM 127 123 122,
 ⟨128,.w1 .u64,[.e 127]⟩,
 ⟨129,.o2 .div,[.e 128,.c (.int 2)]⟩,
 ADN 130 121 129,
 ADL 131 0 130,
 AC8 132 0 130,
 AC9 133 0 130,
 ADQ 134 0 130,
 ADP 135 0 130,
 ADR 136 0 130,
 ADL 137 0 129,
 AC8 138 0 129,
 AC9 139 0 129]
def mU:List En:=[ADQ 140 0 129,
 ADP 141 0 129,
 ADR 142 0 129,
 ⟨143,.outI "cmpTab.0" Fi,wg⟩,
 ⟨144,.lt,[.e 143,.c (.int 0)]⟩,
 AC4 145 125 144,
 AC5 146 125 144,
 ⟨147,.w2 .i64 .add,[.e 129,.c (.int 1)]⟩,
 ADC 148 144 129 122,
 ADC 149 144 123 147]
def IT:List En:=lz++(mU)
def fL:List ObE:=[⟨some 125,.inr,[.e 129,.e 1]⟩,⟨some 125,.inr,[.e 130,.e 1]⟩]
def Q1:Aa:=mkD 122 2 IT 125 [.e 148,.e 149] fL [0,121,110,1]
def Uk:List Rf:=[.e 0,.e 121,.e 110,.e 1,.e 119,.e 120]
def mF:List En:=[ADN 150 114 123,
 AC7 151 123 3,
 AC4 152 126 151,
 AC7 153 3 150,
 AC4 154 151 153,
 AC4 155 126 154,
 ⟨156,.outL "rotS.0" Qk,[.e 0,.e 1,.e 123,.e 3,.e 150]⟩,
 AC5 157 126 154,
 ADD 158 154 156 0,
 AC7 159 2 123,
 AC4 160 126 159,
 AC7 161 123 113,
 AC4 162 159 161,
 AC4 163 126 162,
 ⟨164,.outL "symS.0" IV,[.e 158,.e 1,.e 2,.e 123,.e 113]⟩,
 AC5 165 126 162]
def og:List En:=[ADD 166 162 164 158,
 AC7 167 113 150,
 AC4 168 126 167,
 AC7 169 150 4,
 AC4 170 167 169,
 AC4 171 126 170,
 ⟨172,.outL "symS.0" IV,[.e 166,.e 1,.e 113,.e 150,.e 4]⟩,
 AC5 173 126 170,
 ADD 174 170 172 166,
 ADD 175 39 35 89,
 AC6 176 39 92,
 ADD 177 176 175 174]
def eV:List En:=mF++(og)
def zq (o:Nat):List ObE:=[⟨some 171,.pre "symS.p0" (Fh o),[.e 166,.e 1,.e 113,.e 150,.e 4]⟩,
 ⟨some 163,.pre "symS.p0" (Fh o),[.e 158,.e 1,.e 2,.e 123,.e 113]⟩,
 ⟨some 155,.pre "rotS.p0" M8,[.e 0,.e 1,.e 123,.e 3,.e 150]⟩,
 ⟨some 110,.owes Q1,[.e 0,.e 121,.e 110,.e 1,.e 119,.e 120]⟩,
 ⟨some 65,.owes Q0,[.e 65,.e 62,.e 1,.e 3,.e 0]⟩,
 ⟨some 60,.owes Qm,[.e 0,.e 3,.e 60,.e 1,.e 3,.e 2]⟩,
 ⟨some 11,.owes Pi,[.e 11,.e 8,.e 1,.e 2,.e 0]⟩,
 ⟨some 6,.owes Q5,[.e 0,.e 2,.e 6,.e 1,.e 4,.e 3]⟩]
def pO:List Rf:=[.e 177]
end
section
open Go Go.Eng Go.Proofs
set_option maxHeartbeats 4000000
set_option maxRecDepth 100000
variable {o:Nat}
theorem zT:(De (o+1)).sees pO ((De (o+1)).runB Try.prog [(72,IJ),(146,M9),(139,De o)] Ab 3000 20 139)=some ((Eh++((Ad Q5 [.i,.i] U5)++(Cm++(NL++((Ad Pi [.i,.l] Uy)++(Da++(H3++((Ad Qm [.i,.i] Up)++(D4++(VE++((Ad Q0 [.i,.l] Ua)++(Fb++(Pe++((Ad Q1 [.i,.i] Uk)++(IT++(eV)))))))))))))))).map En.be,(zq o).map ObE.be,[]):=by kernel_rfl
theorem xM (mb:AW Try.prog 139 (De o)):AW Try.prog 139 (De (o+1)):=by
 refine Wr (l:=[(72,IJ),(146,M9),(139,De o)]) A8 (by simp only[ABT];exact⟨YI,ye,mb,fun _ h=>absurd h (by simp)⟩) zT (by kernel_rfl) fun T us k8 hT cx hS lZ w=>?_;change us.length=5 at cx;obtain⟨⟨k7,l3⟩,⟨le,k5⟩,-⟩:=lZ;replace k7:(L T 0).length<=140737488355328:=k7;have k6:∀u∈(L T 0),AL AB KS u:=fun u l4=>by
  obtain⟨i,Y⟩:=ABZ.1 l4;exact l3 i u Y
 replace le:0<=I T 1:=le;replace k5:I T 1<=140737488355328:=k5;have k2:=inL (j:=0) hT cx (by decide);have l1:=inI (j:=1) hT cx (by decide);have k3:=inI (j:=2) hT cx (by decide);have l2:=inI (j:=3) hT cx (by decide);have k4:=inI (j:=4) hT cx (by decide);have X:(I T 4).toNat - (I T 2).toNat < (o+1)/\(L T 0).length=I T 1/\0<=I T 2/\I T 2 < I T 3/\I T 3 < I T 4/\I T 4<=I T 1/\Srt ltT (seg (L T 0) (I T 2).toNat (I T 3).toNat)/\Srt ltT (seg (L T 0) (I T 3).toNat (I T 4).toNat)/\Dst ltT (seg (L T 0) (I T 2).toNat (I T 4).toNat):=by
  have h:=k8 (.s "symS.p0",Fh (o+1)) (by simp[De]);change Fh (o+1) us at h;unfold Fh at h;simp only[k2,l1,k3,l2,k4] at h;exact h
 clear k8;rw[ABI,ABI,ABI,ABI,ABI,ABI,ABI,ABI,ABI,ABI,ABI,ABI,ABI,ABI,ABI] at w;obtain⟨Z,w⟩:=cutB w;obtain⟨hH,w⟩:=cutB w;obtain⟨M,w⟩:=cutB w;obtain⟨A0,N⟩:=AN hS (by kernel_rfl) Z;refine ACw (Ap (nh:=7) (k:=2) (pcn:=10) (an:=34) (H:=Cm) (K:=cY) (nxt:=[.e 32,.e 33]) (A:=[.e 4,.e 3]) (fv:=[0,2,6,1]) (R:=[.i,.i]) (by kernel_rfl) rfl rfl rfl rfl N (by kernel_rfl) (by kernel_rfl) M (Ae hH) (fun s=>Ff T (aI s 0) (aI s 1)) (fun s=>((aI s 0) - (aI s 1)).toNat)) ?_ ?_ fun⟨mu,ad,cy,mo⟩=>?_
 .show Ff T (I T 4) (I T 3);obtain⟨p0,Q,V,p3,p4,W,r,q,d⟩:=X;exact⟨ABt _,by omega,ABt _,.inl rfl,.inl rfl⟩
 .intro J D v P;replace P:Ff T (I J 7) (I J 8):=P;replace v:AE J Cm:=v;obtain⟨F0,v⟩:=v.cut;have F1:=v;clear v;have d3:=fvL (D 0 (by decide));have lM:=fvI (D 2 (by decide));have n6:=fvB (D 6 (by decide));have e1:=fvI (D 1 (by decide));clear D;obtain⟨e9,b4,-,c4,c8,c9,h4,ih,-,iF,iI,iW,i0,i1,-,i2,-⟩:=id F0;obtain⟨i3,i4,gr,i5,-,gs,-,gv,gC,-⟩:=id F1;replace gr:I J 27=(plN (I J 16) (I J 18) (I J 19) (I J 20) (S J 15) (I J 22) (I J 24) (I J 25) (I J 26) (S J 21)):=gr;simp only[AD,AG,zR,BY,w2P,zL,zS] at e9 b4 c4 c8 c9 h4 ih iF iI iW i0 i1 i2 i3 i4 i5 gs gv gC;obtain⟨p0,Q,V,p3,p4,W,r,q,d⟩:=X;obtain⟨v1,v2,v3,g,t⟩:=P
  suffices hz:(B J 10=true->0<=I J 2/\I J 2 < I J 1)/\(B J 10=true->0<=I J 14/\I J 14 < I J 1)/\(B J 10=true->(Ff T (I J 32) (I J 33)))/\(B J 10=true->(I J 32 - (I J 33)).toNat < (I J 7 - (I J 8)).toNat) from
   let⟨r0,ax,nx,mz⟩:=hz;⟨⟨r0,ax,trivial⟩,fun c=>⟨nx c,mz c⟩⟩
  refine⟨?_,?_,?_,?_⟩
  iterate 2
   .intro c;have h9:=e9.1 (b4.1 c).2;have cc:=o2' c4 (by omega);have ch:=c8.trans (DP (by omega) (by omega));have hp:I J 14=(I J 8+I J 7) / 2:=by rw[c9,ch,cc]
    clear r q d g t;omega
  .intro c;have h9:=e9.1 (b4.1 c).2;have cc:=o2' c4 (by omega);have ch:=c8.trans (DP (by omega) (by omega));have hp:I J 14=(I J 8+I J 7) / 2:=by rw[c9,ch,cc]
   have la:B J 28=true↔ltT ((L T 0).getD (I J 14).toNat []) ((L T 0).getD (I T 2).toNat [])=true:=by
    rw[i5,gr,h4,ih,iF,iI,iW,i0,i1,i2,i3,i4,d3,lM];exact (decide_eq_true_iff (p:=ew _ _ < 0)).symm
   have nv:=o2' gs (by omega);rw[gv,gC];by_cases cv:B J 28=true
   .rw[ACE cv,ACE cv];refine⟨by omega,by omega,v3,.inr ?_,t⟩;rw[show (I J 30 - 1).toNat=(I J 14).toNat by omega];exact la.1 cv
   .rw[ACD cv,ACD cv];exact⟨v1,by omega,by omega,g,.inr fun h=>cv (la.2 h)⟩
  .intro c;have h9:=e9.1 (b4.1 c).2;have cc:=o2' c4 (by omega);have ch:=c8.trans (DP (by omega) (by omega));have hp:I J 14=(I J 8+I J 7) / 2:=by rw[c9,ch,cc]
   have nv:=o2' gs (by omega);rw[gv,gC];clear r q d g t;split<;>omega
 replace cy:I T 3<=I T 8/\I T 8<=I T 7/\I T 7<=I T 4/\(I T 8=I T 3\/ltT ((L T 0).getD (I T 8 - 1).toNat []) ((L T 0).getD (I T 2).toNat [])=true)/\(I T 7=I T 4\/¬ltT ((L T 0).getD (I T 7).toNat []) ((L T 0).getD (I T 2).toNat [])=true):=cy;have bt:=(AN (ad.append N) (l:=Cm) (by kernel_rfl) M);obtain⟨B0,hS⟩:=bt;clear Z M hH N ad;obtain⟨Z,w⟩:=cutB w;obtain⟨hH,w⟩:=cutB w;obtain⟨M,w⟩:=cutB w;obtain⟨A1,N⟩:=AN hS (by kernel_rfl) Z;have F0:=A0;obtain⟨F1,B0⟩:=B0.cut;have F2:=B0;have om:I T 3<=I T 8/\I T 8<=I T 4:=by
  exact⟨cy.1,by have:=cy.2.1;have:=cy.2.2.1;omega⟩
 refine ACw (Ap (nh:=34) (k:=2) (pcn:=38) (an:=57) (H:=Da) (K:=ek) (nxt:=[.e 56,.e 55]) (A:=[.e 2,.e 0]) (fv:=[11,8,1]) (R:=[.i,.l]) (by kernel_rfl) rfl rfl rfl rfl N (by kernel_rfl) (by kernel_rfl) M (Ae hH) (fun s=>Gn T (aI s 0) (aL s 1)) (fun s=>(I T 8 - (aI s 0)).toNat)) ?_ ?_ fun⟨mv,ad,hc,mp⟩=>?_
 .show Gn T (I T 2) (L T 0);obtain⟨p0,Q,V,p3,p4,W,r,q,d⟩:=X;exact⟨ABt _,by omega,Q,k6,(Ie (.inr rfl) (by omega) (ABB _) (by omega)).symm⟩
 .intro J D v P;replace P:Gn T (I J 34) (L J 35):=P;replace v:AE J Da:=v;obtain⟨F0,v⟩:=v.cut;have F1:=v;clear v;have n4:=fvB (D 11 (by decide));have oi:=fvI (D 8 (by decide));have e1:=fvI (D 1 (by decide));clear D;obtain⟨a7,a3,a8,-,a9,ba,i6,i7,i8,i9,jp,jw,jM,j0,j1,j2,-⟩:=id F0;obtain⟨j3,j6,ka,kb,gH,-⟩:=id F1;simp only[AD,AG,zR,w2P,zL,zS,uR,zW,zC] at a7 a3 a8 a9 ba i6 i7 i8 i9 jp jw jM j0 j1 j2 j3 j6 ka kb gH;obtain⟨p0,Q,V,p3,p4,W,r,q,d⟩:=X;obtain⟨v1,v2,v3,g,t⟩:=P
  suffices hz:(B J 38=true->0<=I J 40/\I J 40 < I J 1)/\(B J 38=true->0<=I J 34/\I J 34 < I J 1)/\(B J 38=true->0<=I J 34/\I J 34 < I J 1)/\(B J 38=true->0<=I J 41/\I J 41 < I J 1)/\(B J 38=true->(Gn T (I J 56) (L J 55)))/\(B J 38=true->(I T 8 - (I J 56)).toNat < (I T 8 - (I J 34)).toNat) from
   let⟨r0,ax,aK,r3,nx,mz⟩:=hz;⟨⟨r0,ax,aK,r3,trivial⟩,fun c=>⟨nx c,mz c⟩⟩
  refine⟨?_,?_,?_,?_,?_,?_⟩
  iterate 4
   .intro c;have d6:=a3.1 (a8.1 c).2;have zz:True:=by have _:=a9;have _:=ba;trivial
    have c2:=o2' a7 (by omega);have e4:=o2' a9 (by omega);have e7:=o2' ba (by omega);clear r q d;omega
  .intro c;have d6:=a3.1 (a8.1 c).2;have c2:=o2' a7 (by omega);have e4:=o2' a9 (by omega);have e7:=o2' ba (by omega);have nK:=o2' gH (by omega);clear r q d;have jA:(I J 34).toNat < (L J 35).length:=by omega
   have jB:(I J 34).toNat+1 < (L J 35).length:=by omega
   have sA:=g _ (Aq jA);have sB:=g _ (Aq jB);have C:L J 54=(L J 35).set ((I J 34).toNat) ((L J 35).getD ((I J 34).toNat+1) []):=by
    rw[ka,i6,i7,i8,i9,jp,jw,show (I J 41).toNat=(I J 34).toNat+1 by omega];exact Nh g jA sB
   have k1:∀u∈(L J 54),AL AB KS u:=by rw[C];exact Bi g sB
   have O:L J 55=(L J 54).set ((I J 34).toNat+1) ((L J 35).getD ((I J 34).toNat) []):=by
    rw[kb,jM,j0,j1,j2,j3,j6,show (I J 40).toNat=(I J 34).toNat+1 by omega];exact Nh k1 (by rw[C,ABr];exact jB) sA
   have E:∀u∈(L J 55),AL AB KS u:=by rw[O];exact Bi k1 sA
   have aB:(L J 55).length=(L J 35).length:=by rw[O,C,ABr,ABr]
   refine⟨by omega,by omega,by rw[aB];exact v3,E,?_⟩;rw[O,C,pA t (by omega) (by omega),show (I J 56).toNat=(I J 34).toNat+1 by omega]
  .intro c;have d6:=a3.1 (a8.1 c).2;have c2:=o2' a7 (by omega);have nK:=o2' gH (by omega);clear r q d;omega
 replace hc:I T 2<=I T 34/\I T 34<=I T 8 - 1/\(L T 35).length=I T 1/\(∀u∈(L T 35),AL AB KS u)/\L T 35=Bp (L T 0) (I T 2).toNat ((I T 2).toNat+1) ((I T 34).toNat+1):=hc;have bt:=(AN (ad.append N) (l:=Da) (by kernel_rfl) M);obtain⟨B1,hS⟩:=bt;clear Z M hH N ad;obtain⟨Z,w⟩:=cutB w;obtain⟨hH,w⟩:=cutB w;obtain⟨M,w⟩:=cutB w;obtain⟨A2,N⟩:=AN hS (by kernel_rfl) Z;refine ACw (Ap (nh:=61) (k:=2) (pcn:=64) (an:=88) (H:=D4) (K:=dQ) (nxt:=[.e 86,.e 87]) (A:=[.e 3,.e 2]) (fv:=[0,3,60,1]) (R:=[.i,.i]) (by kernel_rfl) rfl rfl rfl rfl N (by kernel_rfl) (by kernel_rfl) M (Ae hH) (fun s=>GT T (aI s 0) (aI s 1)) (fun s=>((aI s 0) - (aI s 1)).toNat)) ?_ ?_ fun⟨mx,ad,c0,mr⟩=>?_
 .show GT T (I T 3) (I T 2);obtain⟨p0,Q,V,p3,p4,W,r,q,d⟩:=X;exact⟨ABt _,by omega,ABt _,.inl rfl,.inl rfl⟩
 .intro J D v P;replace P:GT T (I J 61) (I J 62):=P;replace v:AE J D4:=v;obtain⟨F0,v⟩:=v.cut;have F1:=v;clear v;have d3:=fvL (D 0 (by decide));have lT:=fvI (D 3 (by decide));have n7:=fvB (D 60 (by decide));have e1:=fvI (D 1 (by decide));clear D;obtain⟨bo,b6,-,d0,d1,d2,kc,ke,-,kf,kg,ki,kj,kk,-,kl,-⟩:=id F0;obtain⟨kn,kp,g2,kq,-,-,g3,g4,g5,-⟩:=id F1;replace g2:I J 81=(plN (I J 70) (I J 72) (I J 73) (I J 74) (S J 69) (I J 76) (I J 78) (I J 79) (I J 80) (S J 75)):=g2;simp only[AD,AG,zR,BY,w2P,zL,zS] at bo b6 d0 d1 d2 kc ke kf kg ki kj kk kl kn kp kq g3 g4 g5;obtain⟨p0,Q,V,p3,p4,W,r,q,d⟩:=X;obtain⟨v1,v2,v3,g,t⟩:=P
  suffices hz:(B J 64=true->0<=I J 68/\I J 68 < I J 1)/\(B J 64=true->0<=I J 3/\I J 3 < I J 1)/\(B J 64=true->(GT T (I J 86) (I J 87)))/\(B J 64=true->(I J 86 - (I J 87)).toNat < (I J 61 - (I J 62)).toNat) from
   let⟨r0,ax,nx,mz⟩:=hz;⟨⟨r0,ax,trivial⟩,fun c=>⟨nx c,mz c⟩⟩
  refine⟨?_,?_,?_,?_⟩
  iterate 2
   .intro c;have g9:=bo.1 (b6.1 c).2;have ci:=o2' d0 (by omega);have cj:=d1.trans (DP (by omega) (by omega));have hq:I J 68=(I J 62+I J 61) / 2:=by rw[d2,cj,ci]
    clear r q d g t;omega
  .intro c;have g9:=bo.1 (b6.1 c).2;have ci:=o2' d0 (by omega);have cj:=d1.trans (DP (by omega) (by omega));have hq:I J 68=(I J 62+I J 61) / 2:=by rw[d2,cj,ci]
   have lb:B J 82=true↔ltT ((L T 0).getD (I T 3).toNat []) ((L T 0).getD (I J 68).toNat [])=true:=by
    rw[kq,g2,kc,ke,kf,kg,ki,kj,kk,kl,kn,kp,d3,lT];exact (decide_eq_true_iff (p:=ew _ _ < 0)).symm
   have nN:=o2' g3 (by omega);rw[g4,g5];by_cases h:B J 82=true
   .rw[ACE h,ACE h];exact⟨v1,by omega,by omega,g,.inr (lb.1 h)⟩
   .rw[ACD h,ACD h];refine⟨by omega,by omega,v3,.inr ?_,t⟩;rw[show (I J 85 - 1).toNat=(I J 68).toNat by omega];exact fun O=>h (lb.2 O)
  .intro c;have g9:=bo.1 (b6.1 c).2;have ci:=o2' d0 (by omega);have cj:=d1.trans (DP (by omega) (by omega));have hq:I J 68=(I J 62+I J 61) / 2:=by rw[d2,cj,ci]
   have nN:=o2' g3 (by omega);rw[g4,g5];clear r q d g t;split<;>omega
 replace c0:I T 2<=I T 62/\I T 62<=I T 61/\I T 61<=I T 3/\(I T 62=I T 2\/¬ltT ((L T 0).getD (I T 3).toNat []) ((L T 0).getD (I T 62 - 1).toNat [])=true)/\(I T 61=I T 3\/ltT ((L T 0).getD (I T 3).toNat []) ((L T 0).getD (I T 61).toNat [])=true):=c0;have bt:=(AN (ad.append N) (l:=D4) (by kernel_rfl) M);obtain⟨B2,hS⟩:=bt;clear Z M hH N ad;obtain⟨Z,w⟩:=cutB w;obtain⟨hH,w⟩:=cutB w;obtain⟨M,w⟩:=cutB w;obtain⟨A3,N⟩:=AN hS (by kernel_rfl) Z;obtain⟨F3,B1⟩:=B1.cut;have F4:=B1;have F5:=A2;obtain⟨F6,B2⟩:=B2.cut;have F7:=B2;have oj:I T 2<=I T 62/\I T 62<=I T 3:=by
  exact⟨c0.1,by have:=c0.2.1;have:=c0.2.2.1;omega⟩
 refine ACw (Ap (nh:=88) (k:=2) (pcn:=91) (an:=110) (H:=Fb) (K:=fq) (nxt:=[.e 109,.e 108]) (A:=[.e 3,.e 0]) (fv:=[65,62,1]) (R:=[.i,.l]) (by kernel_rfl) rfl rfl rfl rfl N (by kernel_rfl) (by kernel_rfl) M (Ae hH) (fun s=>IP T (aI s 0) (aL s 1)) (fun s=>((aI s 0)).toNat)) ?_ ?_ fun⟨mZ,ad,he,ms⟩=>?_
 .show IP T (I T 3) (L T 0);obtain⟨p0,Q,V,p3,p4,W,r,q,d⟩:=X;exact⟨by omega,ABt _,Q,k6,(Ie (.inl rfl) (ABB _) (by omega) (by omega)).symm⟩
 .intro J D v P;replace P:IP T (I J 88) (L J 89):=P;replace v:AE J Fb:=v;obtain⟨F0,v⟩:=v.cut;have F1:=v;clear v;have oa:=fvB (D 65 (by decide));have n8:=fvI (D 62 (by decide));have e1:=fvI (D 1 (by decide));clear D;obtain⟨a4,bb,-,bc,bi,kr,kt,ku,kv,kx,hx,hy,hA,hB,hC,hD,-⟩:=id F0;obtain⟨hE,hF,hG,f5,-⟩:=id F1;simp only[AD,AG,zR,w2P,zL,zS,uR,zW,zC] at a4 bb bc bi kr kt ku kv kx hx hy hA hB hC hD hE hF hG f5;obtain⟨p0,Q,V,p3,p4,W,r,q,d⟩:=X;obtain⟨v1,v2,v3,g,t⟩:=P
  suffices hz:(B J 91=true->0<=I J 93/\I J 93 < I J 1)/\(B J 91=true->0<=I J 88/\I J 88 < I J 1)/\(B J 91=true->0<=I J 88/\I J 88 < I J 1)/\(B J 91=true->0<=I J 94/\I J 94 < I J 1)/\(B J 91=true->(IP T (I J 109) (L J 108)))/\(B J 91=true->(I J 109).toNat < (I J 88).toNat) from
   let⟨r0,ax,aK,r3,nx,mz⟩:=hz;⟨⟨r0,ax,aK,r3,trivial⟩,fun c=>⟨nx c,mz c⟩⟩
  refine⟨?_,?_,?_,?_,?_,?_⟩
  iterate 4
   .intro c;have ee:=a4.1 (bb.1 c).2;have zz:True:=by have _:=bc;have _:=bi;trivial
    have e8:=o2' bc (by omega);have fd:=o2' bi (by omega);clear r q d;omega
  .intro c;have ee:=a4.1 (bb.1 c).2;have e8:=o2' bc (by omega);have fd:=o2' bi (by omega);have ne:=o2' f5 (by omega);clear r q d;have jA:(I J 88).toNat < (L J 89).length:=by omega
   have jB:(I J 88).toNat - 1 < (L J 89).length:=by omega
   have sA:=g _ (Aq jA);have sB:=g _ (Aq jB);have C:L J 107=(L J 89).set ((I J 88).toNat) ((L J 89).getD ((I J 88).toNat - 1) []):=by
    rw[hF,kr,kt,ku,kv,kx,hx,show (I J 94).toNat=(I J 88).toNat - 1 by omega];exact Nh g jA sB
   have k1:∀u∈(L J 107),AL AB KS u:=by rw[C];exact Bi g sB
   have O:L J 108=(L J 107).set ((I J 88).toNat - 1) ((L J 89).getD ((I J 88).toNat) []):=by
    rw[hG,hy,hA,hB,hC,hD,hE,show (I J 93).toNat=(I J 88).toNat - 1 by omega];exact Nh k1 (by rw[C,ABr];exact jB) sA
   have E:∀u∈(L J 108),AL AB KS u:=by rw[O];exact Bi k1 sA
   have aB:(L J 108).length=(L J 89).length:=by rw[O,C,ABr,ABr]
   refine⟨by omega,by omega,by rw[aB];exact v3,E,?_⟩;rw[O,C,dV t (by omega) (by omega) (by omega),show (I J 109).toNat=(I J 88).toNat - 1 by omega]
  .intro c;have ee:=a4.1 (bb.1 c).2;have ne:=o2' f5 (by omega);clear r q d;omega
 replace he:I T 62<=I T 88/\I T 88<=I T 3/\(L T 89).length=I T 1/\(∀u∈(L T 89),AL AB KS u)/\L T 89=Bp (L T 0) (I T 88).toNat (I T 3).toNat ((I T 3).toNat+1):=he;have bt:=(AN (ad.append N) (l:=Fb) (by kernel_rfl) M);obtain⟨B3,hS⟩:=bt;clear Z M hH N ad;obtain⟨Z,w⟩:=cutB w;obtain⟨hH,w⟩:=cutB w;obtain⟨M,w⟩:=cutB w;obtain⟨A4,N⟩:=AN hS (by kernel_rfl) Z;obtain⟨F8,B3⟩:=B3.cut;have F9:=B3;have f4:=A4;have g7:2*I T 113<=I T 2+I T 4/\I T 2+I T 4 < 2*I T 113+2/\I T 114=I T 113+I T 3/\I T 121=I T 114 - 1/\((I T 113 < I T 3/\I T 119=I T 113/\I T 120=I T 114 - (I T 4))\/(I T 3<=I T 113/\I T 119=I T 3/\I T 120=I T 2)):=by
  obtain⟨-,hI,hK,hL,hM,f7,-,hN,-,f8,ga,hO,-⟩:=f4;simp only[AD,AG,zR,BY,w2P,zL,zS] at hI hK hL hM f7 hN f8 ga hO;obtain⟨p0,Q,V,p3,p4,W,r,q,d⟩:=X;clear r q d;have nk:=o2' hI (by omega);have nm:=hK.trans (DP (by omega) (by omega));have oW:I T 113=(I T 2+I T 4) / 2:=by rw[hL,nm,nk]
  have nn:=o2' hM (by omega);have np:=o2' hN (by omega);have ns:=o2' hO (by omega);refine⟨by omega,by omega,nn,ns,?_⟩;by_cases h:B T 115=true
  .rw[f8,ga,ACE h,ACE h];exact .inl ⟨f7.1 h,rfl,np⟩
  .rw[f8,ga,ACD h,ACD h];have O:¬I T 113 < I T 3:=fun z=>h (f7.2 z);exact .inr ⟨by omega,rfl,rfl⟩
 refine ACw (Ap (nh:=122) (k:=2) (pcn:=125) (an:=150) (H:=IT) (K:=fL) (nxt:=[.e 148,.e 149]) (A:=[.e 119,.e 120]) (fv:=[0,121,110,1]) (R:=[.i,.i]) (by kernel_rfl) rfl rfl rfl rfl N (by kernel_rfl) (by kernel_rfl) M (Ae hH) (fun s=>Jp T (aI s 0) (aI s 1)) (fun s=>((aI s 0) - (aI s 1)).toNat)) ?_ ?_ fun⟨m0,ad,hf,mt⟩=>?_
 .show Jp T (I T 119) (I T 120);obtain⟨p0,Q,V,p3,p4,W,r,q,d⟩:=X;obtain⟨ky,au,kz,kA,kB⟩:=g7;exact⟨ABt _,by omega,ABt _,.inl rfl,.inl rfl⟩
 .intro J D v P;replace P:Jp T (I J 122) (I J 123):=P;replace v:AE J IT:=v;obtain⟨F0,v⟩:=v.cut;have F1:=v;clear v;have d3:=fvL (D 0 (by decide));have lI:=fvI (D 121 (by decide));have n5:=fvB (D 110 (by decide));have e1:=fvI (D 1 (by decide));clear D;obtain⟨bm,b5,-,c5,c6,c7,b8,hP,hQ,-,hR,hU,hV,hW,hX,-⟩:=id F0;obtain⟨hZ,h0,h1,gd,h2,-,-,ge,gi,gk,-⟩:=id F1;replace gd:I J 143=(plN (I J 132) (I J 134) (I J 135) (I J 136) (S J 131) (I J 138) (I J 140) (I J 141) (I J 142) (S J 137)):=gd;simp only[AD,AG,zR,BY,w2P,zL,zS] at bm b5 c5 c6 c7 b8 hP hQ hR hU hV hW hX hZ h0 h1 h2 ge gi gk;obtain⟨p0,Q,V,p3,p4,W,r,q,d⟩:=X;obtain⟨ky,au,kz,kA,kB⟩:=g7;obtain⟨v1,v2,v3,g,t⟩:=P
  suffices hz:(B J 125=true->0<=I J 129/\I J 129 < I J 1)/\(B J 125=true->0<=I J 130/\I J 130 < I J 1)/\(B J 125=true->(Jp T (I J 148) (I J 149)))/\(B J 125=true->(I J 148 - (I J 149)).toNat < (I J 122 - (I J 123)).toNat) from
   let⟨r0,ax,nx,mz⟩:=hz;⟨⟨r0,ax,trivial⟩,fun c=>⟨nx c,mz c⟩⟩
  refine⟨?_,?_,?_,?_⟩
  iterate 2
   .intro c;have d4:=bm.1 (b5.1 c).2;have zz:True:=by have _:=b8;trivial
    have ce:=o2' c5 (by omega);have cf:=c6.trans (DP (by omega) (by omega));have ho:I J 129=(I J 123+I J 122) / 2:=by rw[c7,cf,ce]
    have e3:=o2' b8 (by omega);clear r q d g t;omega
  .intro c;have d4:=bm.1 (b5.1 c).2;have ce:=o2' c5 (by omega);have cf:=c6.trans (DP (by omega) (by omega));have ho:I J 129=(I J 123+I J 122) / 2:=by rw[c7,cf,ce]
   have e3:=o2' b8 (by omega);have hg:B J 144=true↔ltT ((L T 0).getD (I J 130).toNat []) ((L T 0).getD (I J 129).toNat [])=true:=by
    rw[h2,gd,hP,hQ,hR,hU,hV,hW,hX,hZ,h0,h1,d3];exact (decide_eq_true_iff (p:=ew _ _ < 0)).symm
   have nt:=o2' ge (by omega);rw[gi,gk];rw[e3,lI] at hg;by_cases h:B J 144=true
   .rw[ACE h,ACE h];exact⟨v1,by omega,by omega,g,.inr (hg.1 h)⟩
   .rw[ACD h,ACD h];refine⟨by omega,by omega,v3,.inr ?_,t⟩;rw[show (I J 147) - 1=(I J 129) by omega];exact fun O=>h (hg.2 O)
  .intro c;have d4:=bm.1 (b5.1 c).2;have ce:=o2' c5 (by omega);have cf:=c6.trans (DP (by omega) (by omega));have ho:I J 129=(I J 123+I J 122) / 2:=by rw[c7,cf,ce]
   have e3:=o2' b8 (by omega);have nt:=o2' ge (by omega);rw[gi,gk];clear r q d g t;split<;>omega
 replace hf:I T 120<=I T 123/\I T 123<=I T 122/\I T 122<=I T 119/\(I T 123=I T 120\/¬ltT ((L T 0).getD (I T 121 - (I T 123 - 1)).toNat []) ((L T 0).getD (I T 123 - 1).toNat [])=true)/\(I T 122=I T 119\/ltT ((L T 0).getD (I T 121 - (I T 122)).toNat []) ((L T 0).getD (I T 122).toNat [])=true):=hf;have bt:=(AN (ad.append N) (l:=IT) (by kernel_rfl) M);obtain⟨B4,hS⟩:=bt;clear Z M hH N ad;obtain⟨A5,l0⟩:=Ao (R:=[.l]) (ai:=pO) hS (by kernel_rfl) w;obtain⟨hu,B4⟩:=B4.cut;have nY:=B4;obtain⟨ey,A5⟩:=A5.cut;have hv:=A5;have sf:B T 110=true->B T 126=true/\I T 2<=I T 123/\I T 123<=I T 3/\I T 3<=I T 150/\I T 150<=I T 4/\I T 113+I T 3=I T 123+I T 150/\I T 2 < I T 113/\I T 113 < I T 4/\(I T 123=I T 2\/I T 150=I T 4\/¬ltT ((L T 0).getD (I T 150).toNat []) ((L T 0).getD ((I T 123).toNat - 1) [])=true)/\(I T 150=I T 3\/I T 123=I T 3\/ltT ((L T 0).getD ((I T 150).toNat - 1) []) ((L T 0).getD (I T 123).toNat [])=true):=by
  obtain⟨e5,e6,-⟩:=F0;obtain⟨b9,dn,ds,-⟩:=F5;obtain⟨c3,-⟩:=f4;obtain⟨bm,b5,b7,-⟩:=hu;obtain⟨h5,-⟩:=ey;simp only[AD,AG,zN,zR,w2P] at e5 e6 b9 dn ds c3 bm b5 b7 h5;obtain⟨p0,Q,V,p3,p4,W,r,q,d⟩:=X;obtain⟨ky,au,kz,kA,kB⟩:=g7;obtain⟨v1,v2,v3,g,t⟩:=hf;intro F;have d4:¬I T 123 < I T 122:=fun h=>mt (b5.2 ⟨F,bm.2 h⟩);have bk:=b7.2 ⟨F,by cases hb:B T 124;rfl;exact absurd (bm.1 hb) d4⟩;obtain⟨d7,ca⟩:=c3.1 F;have aa:I T 123=I T 122:=by omega
  have oR:¬I T 5=1:=fun h=>by rw[e6.2 h] at b9;simp at b9;rw[b9] at d7;cases d7
  have oM:¬I T 58=1:=fun h=>by rw[ds.2 h] at ca;cases ca
  have x5:=o2' e5 (by omega);have nL:=o2' dn (by omega);have o0:=o2' h5 (by omega);refine⟨bk,by omega,by omega,by omega,by omega,by omega,by omega,by omega,?_,?_⟩
  .rcases g with g|g
   .omega
   .refine .inr (.inr ?_);rw[show (I T 150).toNat=(I T 121 - (I T 123 - 1)).toNat by omega,show (I T 123).toNat - 1=(I T 123 - 1).toNat by omega];exact g
  .rcases t with t|t
   .omega
   .refine .inr (.inr ?_);rw[show (I T 150).toNat - 1=(I T 121 - (I T 122)).toNat by omega,aa];exact t
 have sg:B T 110=true->(L T 158).length=(L T 0).length/\L T 158=Bp (L T 0) (I T 123).toNat (I T 3).toNat (I T 150).toNat:=by
  obtain⟨-,db,-,dd,cl,-,gl,-,ie,-⟩:=ey;replace gl:L T 156=(BI (L T 0) (rtS (I T 123).toNat (I T 3).toNat (I T 150).toNat)):=gl;simp only[AD,AG,zR,zL,zS] at db dd cl ie;obtain⟨p0,Q,V,p3,p4,W,r,q,d⟩:=X;intro F;obtain⟨bk,q1,q2,q3,q4,q5,-⟩:=sf F;have hr:L T 158=Bp (L T 0) (I T 123).toNat (I T 3).toNat (I T 150).toNat:=by
   rw[ie];by_cases h:B T 154=true
   .rw[ACE h,gl];exact jT (by omega) (by omega) (by omega)
   .rw[ACD h];refine (Ie ?_ (by omega) (by omega) (by omega)).symm;by_cases O:I T 123 < I T 3
    .by_cases h3:I T 3 < I T 150
     .exact absurd (cl.2 ⟨db.2 O,dd.2 h3⟩) h
     .omega
    .omega
  exact⟨by rw[hr,EZ]<;>omega,hr⟩
 have sh:B T 110=true->L T 166=AQ ltT (L T 158) (I T 2).toNat (I T 113).toNat/\L T 174=AQ ltT (L T 166) (I T 113).toNat (I T 4).toNat/\(Srt ltT (seg (L T 158) (I T 2).toNat (I T 123).toNat)/\Srt ltT (seg (L T 158) (I T 123).toNat (I T 113).toNat)/\Dst ltT (seg (L T 158) (I T 2).toNat (I T 113).toNat))/\(L T 166).length=I T 1/\Srt ltT (seg (L T 166) (I T 113).toNat (I T 150).toNat)/\Srt ltT (seg (L T 166) (I T 150).toNat (I T 4).toNat)/\Dst ltT (seg (L T 166) (I T 113).toNat (I T 4).toNat):=by
  obtain⟨-,-,-,-,-,-,-,-,-,de,-,di,cs,-,gm,-⟩:=ey;obtain⟨iv,dj,-,dk,cu,-,gn,-,iz,-⟩:=hv;replace gm:L T 164=(AQ ltT (L T 158) (I T 2).toNat (I T 113).toNat):=gm;replace gn:L T 172=(AQ ltT (L T 166) (I T 113).toNat (I T 4).toNat):=gn;simp only[AD,AG,zR,zL,zS] at de di cs iv dj dk cu iz;obtain⟨p0,Q,V,p3,p4,W,r,q,d⟩:=X;intro F;obtain⟨bk,q1,q2,q3,q4,q5,q6,q7,-⟩:=sf F;obtain⟨ax,aK⟩:=sg F;obtain⟨t1,t2,t3,t4,t5,t6,t7⟩:=iY (lt:=ltT) (l:=L T 0) (a:=(I T 2).toNat) (s:=(I T 123).toNat) (m:=(I T 3).toNat) (e:=(I T 150).toNat) (b:=(I T 4).toNat) (a0:=(I T 113).toNat) (by omega) (by omega) (by omega) (by omega) (by omega) (by omega) r q d aK;have g8:L T 166=AQ ltT (L T 158) (I T 2).toNat (I T 113).toNat:=by
   rw[iv];by_cases h:B T 162=true
   .rw[ACE h,gm]
   .rw[ACD h];refine (Q3 wkT ?_ (by omega) t2 t3 t4).symm;by_cases O:I T 2 < I T 123
    .by_cases h3:I T 123 < I T 113
     .exact absurd (cs.2 ⟨de.2 O,di.2 h3⟩) h
     .omega
    .omega
  have oC:(L T 166).length=(L T 158).length:=by rw[g8];exact By (by omega) (by omega)
  have sq:∀x y:Nat,(I T 113).toNat<=x->x<=y->seg (L T 166) x y=seg (L T 158) x y:=fun x y l5 ma=>by
   rw[g8];exact eb (by omega) (by omega) l5 ma
  have u5:Srt ltT (seg (L T 166) (I T 113).toNat (I T 150).toNat):=by rw[sq _ _ (ABB _) (by omega)];exact t5
  have u6:Srt ltT (seg (L T 166) (I T 150).toNat (I T 4).toNat):=by rw[sq _ _ (by omega) (by omega)];exact t6
  have u7:Dst ltT (seg (L T 166) (I T 113).toNat (I T 4).toNat):=by rw[sq _ _ (ABB _) (by omega)];exact t7
  refine⟨g8,?_,⟨t2,t3,t4⟩,by omega,u5,u6,u7⟩;rw[iz];by_cases h:B T 170=true
  .rw[ACE h,gn]
  .rw[ACD h];refine (Q3 wkT ?_ (by omega) u5 u6 u7).symm;by_cases O:I T 113 < I T 150
   .by_cases h3:I T 150 < I T 4
    .exact absurd (cu.2 ⟨dj.2 O,dk.2 h3⟩) h
    .omega
   .omega
 obtain⟨e5,e6,-⟩:=id F0;obtain⟨e9,b4,f6,-⟩:=id F1;obtain⟨a7,a3,a8,gG,-⟩:=id F3;obtain⟨b9,dn,ds,g0,-⟩:=id F5;obtain⟨bo,b6,g1,-⟩:=id F6;obtain⟨a4,bb,g6,-⟩:=id F8;obtain⟨c3,-⟩:=id f4;obtain⟨-,-,b7,-⟩:=id hu;obtain⟨-,db,-,dd,cl,h7,-,-,-,de,-,di,cs,ik,-⟩:=id ey;obtain⟨-,dj,-,dk,cu,ix,-,-,-,gp,e0,iA,-⟩:=id hv;simp only[AD,AG,zN,zR,w2P,zL,zS] at e5 e6 e9 b4 f6 a7 a3 a8 gG b9 dn ds g0 bo b6 g1 a4 bb g6 c3 b7 db dd cl h7 de di cs ik dj dk cu ix gp e0 iA;obtain⟨p0,Q,V,p3,p4,W,r,q,d⟩:=X;have q0:L T 177=(AQ ltT (L T 0) (I T 2).toNat (I T 4).toNat):=by
  rw[iA];by_cases h6:B T 6=true
  .have x5:=o2' e5 (by omega);have os:=e6.1 h6;obtain⟨v1,v2,v3,g,t⟩:=cy;obtain⟨aG,w2,w3,w4,w5⟩:=hc;have n9:¬I T 8 < I T 7:=fun h=>mo (b4.2 ⟨h6,e9.2 h⟩);have kC:B T 11=true:=f6.2 ⟨h6,by cases hb:B T 9;rfl;exact absurd (e9.1 hb) n9⟩;have c2:=o2' a7 (by omega);have me:¬I T 34 < I T 36:=fun h=>mp (a8.2 ⟨kC,a3.2 h⟩);have kQ:B T 39=true:=gG.2 ⟨kC,by cases hb:B T 37;rfl;exact absurd (a3.1 hb) me⟩;rw[ACE (e0.2 (.inl kQ)),gp,ACE kQ,w5,show (I T 34).toNat+1=(I T 8).toNat by omega];rw[show (I T 3).toNat=(I T 2).toNat+1 by omega] at q;have h8:I T 7=I T 8:=by omega
   rw[h8] at t;refine pJ wkT (by omega) (by omega) (by omega) q d ?_ ?_
   .rcases g with g|g
    .omega
    .rw[show (I T 8 - 1).toNat=(I T 8).toNat - 1 by omega] at g;exact .inr g
   .rcases t with t|t
    .omega
    .exact .inr t
  .have lh:¬B T 39=true:=fun h=>h6 (f6.1 (gG.1 h).1).1;have d7:B T 57=true:=b9.2 (by simpa using h6);by_cases ca:B T 59=true
   .have nL:=o2' dn (by omega);have oA:=ds.1 ca;obtain⟨v1,v2,v3,g,t⟩:=c0;obtain⟨aG,w2,w3,w4,w5⟩:=he;have kX:=g0.2 ⟨d7,ca⟩;have mf:¬I T 62 < I T 61:=fun h=>mr (b6.2 ⟨kX,bo.2 h⟩);have k0:B T 65=true:=g1.2 ⟨kX,by cases hb:B T 63;rfl;exact absurd (bo.1 hb) mf⟩;have mh:¬I T 62 < I T 88:=fun h=>ms (bb.2 ⟨k0,a4.2 h⟩);have lW:B T 92=true:=g6.2 ⟨k0,by cases hb:B T 90;rfl;exact absurd (a4.1 hb) mh⟩;have h8:I T 88=I T 62:=by omega
    have h9:I T 61=I T 62:=by omega
    rw[ACE (e0.2 (.inr lW)),gp,ACD lh,w5,h8];rw[show (I T 4).toNat=(I T 3).toNat+1 by omega] at d⊢;rw[h9] at t;refine eM wkT (by omega) (by omega) (by omega) r d ?_ ?_
    .rcases g with g|g
     .omega
     .rw[show (I T 62 - 1).toNat=(I T 62).toNat - 1 by omega] at g;exact .inr g
    .rcases t with t|t
     .omega
     .exact .inr t
   .have F:=c3.2 ⟨d7,by simpa using ca⟩;have md:¬B T 176=true:=fun h=>(e0.1 h).elim lh fun h=>ca (g0.1 (g1.1 (g6.1 h).1).1).2;obtain⟨bk,q1,q2,q3,q4,q5,q6,q7,q8,q9⟩:=sf F;obtain⟨ax,aK⟩:=sg F;obtain⟨z1,z2,-⟩:=sh F;rw[ACD md];exact bZ wkT (by omega) (by omega) (by omega) (by omega) (by omega) (by omega) r q d (q8.imp (fun h=>by omega) (fun h=>h.imp (fun h=>by omega) id)) (q9.imp (fun h=>by omega) (fun h=>h.imp (fun h=>by omega) id)) aK z1 z2
 have r0:B T 171=true->(I T 4).toNat - (I T 113).toNat < o/\(L T 166).length=I T 1/\0<=I T 113/\I T 113 < I T 150/\I T 150 < I T 4/\I T 4<=I T 1/\Srt ltT (seg (L T 166) (I T 113).toNat (I T 150).toNat)/\Srt ltT (seg (L T 166) (I T 150).toNat (I T 4).toNat)/\Dst ltT (seg (L T 166) (I T 113).toNat (I T 4).toNat):=by
  intro c;obtain⟨bk,kP⟩:=ix.1 c;have F:=(b7.1 bk).1;obtain⟨-,q1,q2,q3,q4,q5,q6,q7,-⟩:=sf F;obtain⟨z1,z2,z3,z4,z5⟩:=sh F;have y1:=dj.1 (cu.1 kP).1;have y2:=dk.1 (cu.1 kP).2;exact⟨by omega,z4,by omega,y1,y2,W,z5.1,z5.2.1,z5.2.2⟩
 have ax:B T 163=true->(I T 113).toNat - (I T 2).toNat < o/\(L T 158).length=I T 1/\0<=I T 2/\I T 2 < I T 123/\I T 123 < I T 113/\I T 113<=I T 1/\Srt ltT (seg (L T 158) (I T 2).toNat (I T 123).toNat)/\Srt ltT (seg (L T 158) (I T 123).toNat (I T 113).toNat)/\Dst ltT (seg (L T 158) (I T 2).toNat (I T 113).toNat):=by
  intro c;obtain⟨bk,kM⟩:=ik.1 c;have F:=(b7.1 bk).1;obtain⟨-,q1,q2,q3,q4,q5,q6,q7,-⟩:=sf F;obtain⟨ax,aK⟩:=sg F;obtain⟨z1,z2,z3,-⟩:=sh F;have y1:=de.1 (cs.1 kM).1;have y2:=di.1 (cs.1 kM).2;exact⟨by omega,by omega,V,y1,y2,by omega,z3.1,z3.2.1,z3.2.2⟩
 have aK:B T 155=true->(L T 0).length=I T 1/\0<=I T 123/\I T 123 < I T 3/\I T 3 < I T 150/\I T 150<=I T 1:=by
  intro c;obtain⟨bk,kH⟩:=h7.1 c;obtain⟨-,q1,q2,q3,q4,-⟩:=sf (b7.1 bk).1;have y1:=db.1 (cl.1 kH).1;have y2:=dd.1 (cl.1 kH).2;exact⟨Q,by omega,y1,y2,by omega⟩
 refine⟨⟨r0,ax,aK,(fun _=>m0),(fun _=>mZ),(fun _=>mx),(fun _=>mv),(fun _=>mu),trivial⟩,l0.trans ?_⟩;exact (lc (by show U.list (L T 177)= .list (IV us);unfold IV;rw[k2,k3,k4];exact ACF U.list q0) rfl)
theorem jR:∀o:Nat,AW Try.prog 139 (De o)
 |0=>⟨fun _=>Qv,fun T us _ _ _ a=>by
   have h:=a (.s "symS.p0",Fh 0) (by simp[De]);exact absurd h.1 (Nat.not_lt_zero _)⟩
 |o+1=>xM (jR o)
end
section
open Go Go.Eng Go.Proofs
set_option maxHeartbeats 4000000
set_option maxRecDepth 100000
def ON:List U->U':=fun us=>(AQ ltT (aL us 0) 0 (aI us 2).toNat)
def Lb:List U->Prop:=fun us=>((aL us 0)).length=(aI us 1)/\(aI us 2)=(aI us 1)/\(aI us 1)<=40/\(20 < (aI us 1)->Dst ltT (aL us 0))
def Ez:AU:={ sh:=[.one (k64),.cst (.fn (.func 72) [] [])],blks:=[],outs:=[(.s "stabS.0",CI ON)],c:= .tup [],m':=[.mrow 3 1 [.str,k64,k64,k64,k64,k64] 61],pre:=[(.s "stabS.p0",Lb)],row:=some ([.str,k64,k64,k64,k64,k64],61) }
abbrev GX (T:Tab)(a:Int)(b:Int)(c:U'):Prop:=(a=0/\b=20/\c=L T 0)\/(a=20/\b=40/\20<=I T 2/\c=AQ ltT (L T 0) 0 20)\/(a=40/\b=60/\I T 2=40/\c=AQ ltT (AQ ltT (L T 0) 0 20) 20 40)
abbrev Gx (T:Tab)(a:Int)(b:Int)(c:U'):Prop:=B T 16=true->((a=0/\b=40/\c=L T 14)\/(a=40/\b=80/\I T 2=40/\c=AQ ltT (L T 14) 0 40))
abbrev IZ (T:Tab)(a:Int)(b:U'):Prop:=(a=20/\b=L T 10)\/(a=40/\20 < I T 2/\b=AQ ltT (L T 0) 0 (I T 2).toNat)
def If:List En:=[]
def iJ:List En:=[⟨6,.le,[.e 4,.e 2]⟩,
 ADA 7 6,
 ⟨8,.outL "insS.0" M5,[.e 5,.e 1,.e 3,.e 4]⟩,
 ⟨9,.w2 .i64 .add,[.e 4,.c (.int 20)]⟩]
def C1:List En:=iJ
def Y0:List ObE:=[⟨some 6,.pre "insS.p0" J7,[.e 5,.e 1,.e 3,.e 4]⟩]
def OL:Aa:=mkD 3 3 C1 6 [.e 4,.e 9,.e 8] Y0 [1,2]
def SY:List Rf:=[.e 1,.e 2,.c (.int 0),.c (.int 20),.e 0]
def gL:List En:=[⟨10,.outL "insS.0" M5,[.e 5,.e 1,.e 3,.e 2]⟩]
def GV:List En:=gL
def Z0:List En:=[AC7 15 13 2,
 AC4 16 7 15,
 AC5 17 7 15,
 ⟨18,.w2 .i64 .mul,[.c (.int 2),.e 13]⟩]
def Fu:List En:=Z0
def gR:List En:=[⟨22,.le,[.e 20,.e 2]⟩,
 AC4 23 16 22,
 AC5 24 16 22,
 ADM 25 19 13,
 ⟨26,.outL "symS.0" IV,[.e 21,.e 1,.e 19,.e 25,.e 20]⟩,
 ⟨27,.w2 .i64 .mul,[.c (.int 2),.e 13]⟩,
 ADM 28 20 27]
def EJ:List En:=gR
def ZA:List ObE:=[⟨some 23,.pre "symS.p0" (Fh 41),[.e 21,.e 1,.e 19,.e 25,.e 20]⟩]
def LF:Aa:=mkD 19 3 EJ 23 [.e 20,.e 28,.e 26] ZA [13,1,16,2]
def N6:List Rf:=[.e 13,.e 1,.e 16,.e 2,.c (.int 0),.e 18,.e 14]
def ZL:List En:=[ADM 29 19 13,
 AC7 30 29 2,
 AC4 31 24 30,
 ⟨32,.outL "symS.0" IV,[.e 21,.e 1,.e 19,.e 29,.e 2]⟩,
 AC5 33 24 30,
 ADD 34 30 32 21,
 ⟨35,.w2 .i64 .mul,[.e 13,.c (.int 2)]⟩]
def K3:List En:=ZL
def Ip:List En:=Fu++((Ad LF [.i,.i,.l] N6)++(EJ++(K3)))
def YD:List ObE:=[⟨some 31,.pre "symS.p0" (Fh 41),[.e 21,.e 1,.e 19,.e 29,.e 2]⟩,⟨some 16,.owes LF,[.e 13,.e 1,.e 16,.e 2,.c (.int 0),.e 18,.e 14]⟩]
def OA:Aa:=mkD 11 4 Ip 24 [.e 19,.e 20,.e 35,.e 34] YD [1,2,7]
def Ra:List Rf:=[.e 1,.e 2,.e 7,.e 3,.e 4,.c (.int 20),.e 10]
def rh:List En:=[]
def xT:List ObE:=[⟨some 7,.owes OA,[.e 1,.e 2,.e 7,.e 3,.e 4,.c (.int 20),.e 10]⟩,
 ⟨some 7,.pre "insS.p0" J7,[.e 5,.e 1,.e 3,.e 2]⟩,
 ⟨none,.owes OL,[.e 1,.e 2,.c (.int 0),.c (.int 20),.e 0]⟩]
def iX:List Rf:=[.e 14]
end
end Go.Eng
end
