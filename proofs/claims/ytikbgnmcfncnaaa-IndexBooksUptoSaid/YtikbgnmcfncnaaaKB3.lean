/-
  A part of the proof: the evaluator of code and its soundness.
-/
import Derived.Test.YtikbgnmcfncnaaaKB2
import Derived.Test.YtikbgnmcfncnaaaE4
import Derived.Test.YtikbgnmcfncnaaaE5
set_option linter.unusedVariables false
set_option linter.unusedSimpArgs false
noncomputable section
namespace Go.Eng
section
open Go Go.Eng Go.Proofs
set_option maxHeartbeats 4000000
set_option maxRecDepth 100000
variable {d:Nat}
theorem sG:(DW (d+1)).sees j9 ((DW (d+1)).runB Try.prog [(101,Lp),(148,Lf),(145,DW d)] Aa 3000 20 145)=some ((EJ++((Ag Nn [.i,.i] Ro)++(Ck++(Lg++((Ag OK [.i,.l] R7)++(DT++(HM++((Ag Nq [.i,.i] SK)++(Dq++(SY++((Ag Nx [.i,.l] SB)++(FB++(N6++((Ag N1 [.i,.i] Sa)++(HE++(YR)))))))))))))))).map En.be,(sH d).map ObE.be,[]):=by kernel_rfl
abbrev wh(T:Tab)(a:Int)(b:Int):Prop:=(I T 3)<=b/\b <=a/\a <=I T 4/\(b=I T 3\/ltB (((L T 0)).getD (b - 1).toNat []) (((L T 0)).getD (I T 2).toNat [])=true)/\(a=I T 4\/¬ltB (((L T 0)).getD a.toNat []) (((L T 0)).getD (I T 2).toNat [])=true)
variable{T:Tab}
theorem oX (bm:I T 1<=140737488355328)(F:(I T 4).toNat - (I T 2).toNat < (d+1)/\((L T 0)).length=I T 1/\0<=I T 2/\I T 2 < I T 3/\I T 3 < I T 4/\I T 4<=I T 1/\Srt ltB (seg (L T 0) (I T 2).toNat (I T 3).toNat)/\Srt ltB (seg (L T 0) (I T 3).toNat (I T 4).toNat)/\Dst ltB (seg (L T 0) (I T 2).toNat (I T 4).toNat))(hS:AJ T (AM (Ak 0 (DW (d+1)).ks) EJ))(hB:AU T (Ck.map En.be))(hH:AU T ((Ag Nn [.i,.i] Ro).map En.be)):
  (Nn).owes (Ro.map (Rf.eval T))/\AJ T (hds 7 [.i,.i])/\(wh T (I T 7) (I T 8))/\¬B T 10=true:=by
 refine Ax (nh:=7) (k:=2) (pcn:=10) (aO:=40) (y:=Ck) (J:=Ya) (nxt:=[.e 38,.e 39]) (H:=[.e 4,.e 3]) (fv:=[0,2,6,1]) (R:=[.i,.i]) (by kernel_rfl) rfl rfl rfl rfl hS (by kernel_rfl) (by kernel_rfl) hB (Ai hH) (fun s=>wh T (aI s 0) (aI s 1)) (fun s=>((aI s 0) - (aI s 1)).toNat) ?_ ?_
 .show wh T (I T 4) (I T 3);clear hS hB hH;obtain⟨M,N,O,P,Q,V,j,l,o⟩:=F;exact⟨uf _,by omega,uf _,.inl rfl,.inl rfl⟩
 .intro A E w x;replace x:wh T (I A 7) (I A 8):=x;clear hS hB hH;replace w:AF A Ck:=w;obtain⟨K,w⟩:=w.cut;have F1:=w;clear w;have a7:L A 0=L T 0:=fvL (E 0 (by decide));have a8:I A 2=I T 2:=fvI (E 2 (by decide));have bl:B A 6=B T 6:=fvB (E 6 (by decide));have bj:I A 1=I T 1:=fvI (E 1 (by decide));clear E
  suffices hz:(B A 10=true->0<=I A 2/\I A 2 < I A 1)/\(B A 10=true->0<=I A 14/\I A 14 < I A 1)/\(B A 10=true->(wh T (I A 38) (I A 39)))/\(B A 10=true->((I A 38) - (I A 39)).toNat < ((I A 7) - (I A 8)).toNat) from
   let⟨r0,ax,nx,mz⟩:=hz;⟨⟨r0,ax,trivial⟩,fun i=>⟨nx i,mz i⟩⟩
  refine⟨?_,?_,?_,?_⟩
  .obtain⟨g,a,-,b,c,e,-⟩:=K;simp only[AE,AI,zR,D1,w2P] at g a b c e;obtain⟨M,N,O,P,Q,V,j,l,o⟩:=F;obtain⟨W,v2,X,q,r⟩:=x;intro i;have Z:=g.1 (a.1 i).2;have t:=b (by omega) (by omega);have u:=c.trans (IV (by omega) (by omega));have ao:(I A 14)=((I A 8)+I A 7) / 2:=by rw[e,u,t]
   clear j l o q r;omega
  .obtain⟨g,a,-,b,c,e,-⟩:=K;simp only[AE,AI,zR,D1,w2P] at g a b c e;obtain⟨M,N,O,P,Q,V,j,l,o⟩:=F;obtain⟨W,v2,X,q,r⟩:=x;intro i;have Z:=g.1 (a.1 i).2;have t:=b (by omega) (by omega);have u:=c.trans (IV (by omega) (by omega));have ao:(I A 14)=((I A 8)+I A 7) / 2:=by rw[e,u,t]
   clear j l o q r;omega
  .obtain⟨g,a,-,b,c,e,a1,-,a2,-,-,-,-,-,-,a3,-⟩:=K;obtain⟨-,a4,-,-,-,-,-,-,Y,a5,-,z,-,C,D,-⟩:=F1;replace Y:I A 33=(if BV (I A 17) (I A 26)=0 then BV (I A 15) (I A 24) else BV (I A 17) (I A 26)):=Y;simp only[AE,AI,zR,D1,w2P,zL,zS] at g a b c e a1 a2 a3 a4 a5 z C D;obtain⟨M,N,O,P,Q,V,j,l,o⟩:=F;obtain⟨W,v2,X,q,r⟩:=x;intro i;have Z:=g.1 (a.1 i).2;have t:=b (by omega) (by omega);have u:=c.trans (IV (by omega) (by omega));have ao:(I A 14)=((I A 8)+I A 7) / 2:=by rw[e,u,t]
   have a6:(B A 34)=true↔ltB (((L T 0)).getD (I A 14).toNat []) (((L T 0)).getD (I T 2).toNat [])=true:=by
    rw[a5,Y,a1,a2,a3,a4,a7,a8];exact (decide_eq_true_iff (p:=ZW _ _ < 0)).symm
   have bi:=z (by omega) (by omega);rw[C,D];by_cases v:(B A 34)=true
   .rw[vC v,vC v];refine⟨by omega,by omega,X,.inr ?_,r⟩;rw[show ((I A 36) - 1).toNat=(I A 14).toNat by omega];exact a6.1 v
   .rw[vA v,vA v];exact⟨W,by omega,by omega,q,.inr fun h=>v (a6.2 h)⟩
  .obtain⟨g,a,-,b,c,e,-⟩:=K;obtain⟨-,-,-,-,-,-,-,-,-,-,-,z,-,C,D,-⟩:=F1;simp only[AE,AI,zR,D1,w2P,zL,zS] at g a b c e z C D;obtain⟨M,N,O,P,Q,V,j,l,o⟩:=F;obtain⟨W,v2,X,q,r⟩:=x;intro i;have Z:=g.1 (a.1 i).2;have t:=b (by omega) (by omega);have u:=c.trans (IV (by omega) (by omega));have ao:(I A 14)=((I A 8)+I A 7) / 2:=by rw[e,u,t]
   have bi:=z (by omega) (by omega);rw[C,D];clear j l o q r;split<;>omega
abbrev xb(T:Tab):Prop:=(L T 0).length<=140737488355328
theorem kJ (l:xb T)(k:∀u∈(L T 0),AK AD KB u)(o:0<=I T 1)(j:I T 1<=140737488355328)(q:(I T 4).toNat - (I T 2).toNat < (d+1)/\((L T 0)).length=I T 1/\0<=I T 2/\I T 2 < I T 3/\I T 3 < I T 4/\I T 4<=I T 1/\Srt ltB (seg (L T 0) (I T 2).toNat (I T 3).toNat)/\Srt ltB (seg (L T 0) (I T 3).toNat (I T 4).toNat)/\Dst ltB (seg (L T 0) (I T 2).toNat (I T 4).toNat))(b:wh T (I T 7) (I T 8))(p:¬B T 10=true)(c:AF T EJ)(a:AF T Ck):
  ((I T 3)<=I T 8/\I T 8<=I T 4):=by
 have g:=c;clear c;obtain⟨h,a⟩:=a.cut;have i:=a;clear a;have e:(I T 3)<=I T 8/\I T 8<=I T 4:=by
  exact⟨b.1,by have:=b.2.1;have:=b.2.2.1;omega⟩
 exact e
abbrev wi(T:Tab)(a:Int)(b:List (List U)):Prop:=(I T 2)<=a/\a <=I T 8 - 1/\b.length=I T 1/\(∀u∈b,AK AD KB u)/\b=B9 (L T 0) (I T 2).toNat ((I T 2).toNat+1) (a.toNat+1)
abbrev xc(T:Tab):Prop:=(I T 3)<=I T 8/\I T 8<=I T 4
theorem mS (b4:∀u∈(L T 0),AK AD KB u)(ci:I T 1<=140737488355328)(r:(I T 4).toNat - (I T 2).toNat < (d+1)/\((L T 0)).length=I T 1/\0<=I T 2/\I T 2 < I T 3/\I T 3 < I T 4/\I T 4<=I T 1/\Srt ltB (seg (L T 0) (I T 2).toNat (I T 3).toNat)/\Srt ltB (seg (L T 0) (I T 3).toNat (I T 4).toNat)/\Dst ltB (seg (L T 0) (I T 2).toNat (I T 4).toNat))(g8:xc T)(hS:AJ T (AM (AM (hds 7 [.i,.i]++(AM (Ak 0 (DW (d+1)).ks) EJ)) Ck) Lg))(hB:AU T (DT.map En.be))(hH:AU T ((Ag OK [.i,.l] R7).map En.be)):
  (OK).owes (R7.map (Rf.eval T))/\AJ T (hds 40 [.i,.l])/\(wi T (I T 40) (L T 41))/\¬B T 44=true:=by
 refine Ax (nh:=40) (k:=2) (pcn:=44) (aO:=69) (y:=DT) (J:=Zo) (nxt:=[.e 68,.e 67]) (H:=[.e 2,.e 0]) (fv:=[11,8,1]) (R:=[.i,.l]) (by kernel_rfl) rfl rfl rfl rfl hS (by kernel_rfl) (by kernel_rfl) hB (Ai hH) (fun s=>wi T (aI s 0) (aL s 1)) (fun s=>((I T 8) - (aI s 0)).toNat) ?_ ?_
 .show wi T (I T 2) (L T 0);clear hS hB hH;obtain⟨w,q,x,z,D,F,i,j,l⟩:=r;exact⟨uf _,by omega,q,b4,(QM (.inr rfl) (by omega) (tY _) (by omega)).symm⟩
 .intro A X v p;replace p:wi T (I A 40) (L A 41):=p;clear hS hB hH;replace v:AF A DT:=v;obtain⟨t,v⟩:=v.cut;have F1:=v;clear v;have ce:B A 11=B T 11:=fvB (X 11 (by decide));have cf:I A 8=I T 8:=fvI (X 8 (by decide));have cc:I A 1=I T 1:=fvI (X 1 (by decide));clear X
  suffices hz:(B A 44=true->0<=I A 46/\I A 46 < I A 1)/\(B A 44=true->0<=I A 40/\I A 40 < I A 1)/\(B A 44=true->0<=I A 40/\I A 40 < I A 1)/\(B A 44=true->0<=I A 47/\I A 47 < I A 1)/\(B A 44=true->(wi T (I A 68) (L A 67)))/\(B A 44=true->((I T 8) - (I A 68)).toNat < ((I T 8) - (I A 40)).toNat) from
   let⟨r0,ax,aE,r3,nx,mz⟩:=hz;⟨⟨r0,ax,aE,r3,trivial⟩,fun h=>⟨nx h,mz h⟩⟩
  refine⟨?_,?_,?_,?_,?_,?_⟩
  .obtain⟨c,e,g,-,a,b,-⟩:=t;simp only[AE,AI,zR,w2P] at c e g a b;obtain⟨w,q,x,z,D,F,i,j,l⟩:=r;obtain⟨Q,V,K,o,M⟩:=p;intro h;have P:=e.1 (g.1 h).2;have zz:True:=by have _:=a;have _:=b;trivial
   have W:=c (by omega) (by omega);have Y:=a (by omega) (by omega);have Z:=b (by omega) (by omega);clear i j l;omega
  .obtain⟨c,e,g,-,a,b,-⟩:=t;simp only[AE,AI,zR,w2P] at c e g a b;obtain⟨w,q,x,z,D,F,i,j,l⟩:=r;obtain⟨Q,V,K,o,M⟩:=p;intro h;have P:=e.1 (g.1 h).2;have zz:True:=by have _:=a;have _:=b;trivial
   have W:=c (by omega) (by omega);have Y:=a (by omega) (by omega);have Z:=b (by omega) (by omega);clear i j l;omega
  .obtain⟨c,e,g,-,a,b,-⟩:=t;simp only[AE,AI,zR,w2P] at c e g a b;obtain⟨w,q,x,z,D,F,i,j,l⟩:=r;obtain⟨Q,V,K,o,M⟩:=p;intro h;have P:=e.1 (g.1 h).2;have zz:True:=by have _:=a;have _:=b;trivial
   have W:=c (by omega) (by omega);have Y:=a (by omega) (by omega);have Z:=b (by omega) (by omega);clear i j l;omega
  .obtain⟨c,e,g,-,a,b,-⟩:=t;simp only[AE,AI,zR,w2P] at c e g a b;obtain⟨w,q,x,z,D,F,i,j,l⟩:=r;obtain⟨Q,V,K,o,M⟩:=p;intro h;have P:=e.1 (g.1 h).2;have zz:True:=by have _:=a;have _:=b;trivial
   have W:=c (by omega) (by omega);have Y:=a (by omega) (by omega);have Z:=b (by omega) (by omega);clear i j l;omega
  .obtain⟨c,e,g,-,a,b,a0,a1,a2,a3,a4,a5,a6,a7,a8,a9,-⟩:=t;obtain⟨ba,bb,bc,bi,bj,bl,bm,bs,bt,bx,N,-⟩:=F1;simp only[AE,AI,zR,w2P,zL,zS,uR,zW,zC] at c e g a b a0 a1 a2 a3 a4 a5 a6 a7 a8 a9 ba bb bc bi bj bl bm bs bt bx N;obtain⟨w,q,x,z,D,F,i,j,l⟩:=r;obtain⟨Q,V,K,o,M⟩:=p;intro h;have P:=e.1 (g.1 h).2;have W:=c (by omega) (by omega);have Y:=a (by omega) (by omega);have Z:=b (by omega) (by omega);have cb:=N (by omega) (by omega);clear i j l;have jA:(I A 40).toNat < ((L A 41)).length:=by omega
   have jB:(I A 40).toNat+1 < ((L A 41)).length:=by omega
   have sA:=o _ (Az jA);have sB:=o _ (Az jB);have C:(L A 66)=((L A 41)).set ((I A 40).toNat) (((L A 41)).getD ((I A 40).toNat+1) []):=by
    rw[bt,a0,a1,a2,a3,a4,a5,a6,a7,a8,show (I A 47).toNat=(I A 40).toNat+1 by omega];exact Pb o jA sB
   have k1:∀u∈(L A 66),AK AD KB u:=by rw[C];exact C9 o sB
   have O:(L A 67)=((L A 66)).set ((I A 40).toNat+1) (((L A 41)).getD ((I A 40).toNat) []):=by
    rw[bx,a9,ba,bb,bc,bi,bj,bl,bm,bs,show (I A 46).toNat=(I A 40).toNat+1 by omega];exact Pb k1 (by rw[C,ud];exact jB) sA
   have E:∀u∈(L A 67),AK AD KB u:=by rw[O];exact C9 k1 sA
   have ay:((L A 67)).length=((L A 41)).length:=by rw[O,C,ud,ud]
   refine⟨by omega,by omega,by rw[ay];exact K,E,?_⟩;rw[O,C,rV M (by omega) (by omega),show (I A 68).toNat=(I A 40).toNat+1 by omega]
  .obtain⟨c,e,g,-⟩:=t;obtain⟨-,-,-,-,-,-,-,-,-,-,N,-⟩:=F1;simp only[AE,AI,zR,w2P] at c e g N;obtain⟨w,q,x,z,D,F,i,j,l⟩:=r;obtain⟨Q,V,K,o,M⟩:=p;intro h;have P:=e.1 (g.1 h).2;have W:=c (by omega) (by omega);have cb:=N (by omega) (by omega);clear i j l;omega
abbrev wj(T:Tab)(a:Int)(b:Int):Prop:=(I T 2)<=b/\b <=a/\a <=I T 3/\(b=I T 2\/¬ltB (((L T 0)).getD (I T 3).toNat []) (((L T 0)).getD (b - 1).toNat [])=true)/\(a=I T 3\/ltB (((L T 0)).getD (I T 3).toNat []) (((L T 0)).getD a.toNat [])=true)
theorem oo (bm:I T 1<=140737488355328)(E:(I T 4).toNat - (I T 2).toNat < (d+1)/\((L T 0)).length=I T 1/\0<=I T 2/\I T 2 < I T 3/\I T 3 < I T 4/\I T 4<=I T 1/\Srt ltB (seg (L T 0) (I T 2).toNat (I T 3).toNat)/\Srt ltB (seg (L T 0) (I T 3).toNat (I T 4).toNat)/\Dst ltB (seg (L T 0) (I T 2).toNat (I T 4).toNat))(hS:AJ T (AM (AM (hds 40 [.i,.l]++(AM (AM (hds 7 [.i,.i]++(AM (Ak 0 (DW (d+1)).ks) EJ)) Ck) Lg)) DT) HM))(hB:AU T (Dq.map En.be))(hH:AU T ((Ag Nq [.i,.i] SK).map En.be)):
  (Nq).owes (SK.map (Rf.eval T))/\AJ T (hds 73 [.i,.i])/\(wj T (I T 73) (I T 74))/\¬B T 76=true:=by
 refine Ax (nh:=73) (k:=2) (pcn:=76) (aO:=106) (y:=Dq) (J:=aC) (nxt:=[.e 104,.e 105]) (H:=[.e 3,.e 2]) (fv:=[0,3,72,1]) (R:=[.i,.i]) (by kernel_rfl) rfl rfl rfl rfl hS (by kernel_rfl) (by kernel_rfl) hB (Ai hH) (fun s=>wj T (aI s 0) (aI s 1)) (fun s=>((aI s 0) - (aI s 1)).toNat) ?_ ?_
 .show wj T (I T 3) (I T 2);clear hS hB hH;obtain⟨K,M,N,P,Q,V,j,l,o⟩:=E;exact⟨uf _,by omega,uf _,.inl rfl,.inl rfl⟩
 .intro A D v w;replace w:wj T (I A 73) (I A 74):=w;clear hS hB hH;replace v:AF A Dq:=v;obtain⟨F,v⟩:=v.cut;have F1:=v;clear v;have a7:L A 0=L T 0:=fvL (D 0 (by decide));have a8:I A 3=I T 3:=fvI (D 3 (by decide));have bl:B A 72=B T 72:=fvB (D 72 (by decide));have bj:I A 1=I T 1:=fvI (D 1 (by decide));clear D
  suffices hz:(B A 76=true->0<=I A 80/\I A 80 < I A 1)/\(B A 76=true->0<=I A 3/\I A 3 < I A 1)/\(B A 76=true->(wj T (I A 104) (I A 105)))/\(B A 76=true->((I A 104) - (I A 105)).toNat < ((I A 73) - (I A 74)).toNat) from
   let⟨r0,ax,nx,mz⟩:=hz;⟨⟨r0,ax,trivial⟩,fun i=>⟨nx i,mz i⟩⟩
  refine⟨?_,?_,?_,?_⟩
  .obtain⟨a,b,-,c,e,g,-⟩:=F;simp only[AE,AI,zR,D1,w2P] at a b c e g;obtain⟨K,M,N,P,Q,V,j,l,o⟩:=E;obtain⟨W,v2,X,q,r⟩:=w;intro i;have Z:=a.1 (b.1 i).2;have t:=c (by omega) (by omega);have u:=e.trans (IV (by omega) (by omega));have ao:(I A 80)=((I A 74)+I A 73) / 2:=by rw[g,u,t]
   clear j l o q r;omega
  .obtain⟨a,b,-,c,e,g,-⟩:=F;simp only[AE,AI,zR,D1,w2P] at a b c e g;obtain⟨K,M,N,P,Q,V,j,l,o⟩:=E;obtain⟨W,v2,X,q,r⟩:=w;intro i;have Z:=a.1 (b.1 i).2;have t:=c (by omega) (by omega);have u:=e.trans (IV (by omega) (by omega));have ao:(I A 80)=((I A 74)+I A 73) / 2:=by rw[g,u,t]
   clear j l o q r;omega
  .obtain⟨a,b,-,c,e,g,a2,-,a3,-,-,-,-,-,-,a4,-⟩:=F;obtain⟨-,a5,-,-,-,-,-,-,Y,a1,-,-,x,z,C,-⟩:=F1;replace Y:I A 99=(if BV (I A 83) (I A 92)=0 then BV (I A 81) (I A 90) else BV (I A 83) (I A 92)):=Y;simp only[AE,AI,zR,D1,w2P,zL,zS] at a b c e g a2 a3 a4 a5 a1 x z C;obtain⟨K,M,N,P,Q,V,j,l,o⟩:=E;obtain⟨W,v2,X,q,r⟩:=w;intro i;have Z:=a.1 (b.1 i).2;have t:=c (by omega) (by omega);have u:=e.trans (IV (by omega) (by omega));have ao:(I A 80)=((I A 74)+I A 73) / 2:=by rw[g,u,t]
   have a6:(B A 100)=true↔ltB (((L T 0)).getD (I T 3).toNat []) (((L T 0)).getD (I A 80).toNat [])=true:=by
    rw[a1,Y,a2,a3,a4,a5,a7,a8];exact (decide_eq_true_iff (p:=ZW _ _ < 0)).symm
   have bi:=x (by omega) (by omega);rw[z,C];by_cases h:(B A 100)=true
   .rw[vC h,vC h];exact⟨W,by omega,by omega,q,.inr (a6.1 h)⟩
   .rw[vA h,vA h];refine⟨by omega,by omega,X,.inr ?_,r⟩;rw[show ((I A 103) - 1).toNat=(I A 80).toNat by omega];exact fun O=>h (a6.2 O)
  .obtain⟨a,b,-,c,e,g,-⟩:=F;obtain⟨-,-,-,-,-,-,-,-,-,-,-,-,x,z,C,-⟩:=F1;simp only[AE,AI,zR,D1,w2P,zL,zS] at a b c e g x z C;obtain⟨K,M,N,P,Q,V,j,l,o⟩:=E;obtain⟨W,v2,X,q,r⟩:=w;intro i;have Z:=a.1 (b.1 i).2;have t:=c (by omega) (by omega);have u:=e.trans (IV (by omega) (by omega));have ao:(I A 80)=((I A 74)+I A 73) / 2:=by rw[g,u,t]
   have bi:=x (by omega) (by omega);rw[z,C];clear j l o q r;split<;>omega
theorem jM (x:xb T)(w:∀u∈(L T 0),AK AD KB u)(A:0<=I T 1)(v:I T 1<=140737488355328)(F:(I T 4).toNat - (I T 2).toNat < (d+1)/\((L T 0)).length=I T 1/\0<=I T 2/\I T 2 < I T 3/\I T 3 < I T 4/\I T 4<=I T 1/\Srt ltB (seg (L T 0) (I T 2).toNat (I T 3).toNat)/\Srt ltB (seg (L T 0) (I T 3).toNat (I T 4).toNat)/\Dst ltB (seg (L T 0) (I T 2).toNat (I T 4).toNat))(y:wh T (I T 7) (I T 8))(C:¬B T 10=true)(t:xc T)(z:wi T (I T 40) (L T 41))(D:¬B T 44=true)(e:wj T (I T 73) (I T 74))(E:¬B T 76=true)(g:AF T EJ)(a:AF T Ck)(b:AF T DT)(h:AF T HM)(c:AF T Dq):
  ((I T 2)<=I T 74/\I T 74<=I T 3):=by
 have j:=g;clear g;obtain⟨k,a⟩:=a.cut;have l:=a;clear a;obtain⟨o,b⟩:=b.cut;have p:=b;clear b;have q:=h;clear h;obtain⟨r,c⟩:=c.cut;have s:=c;clear c;have i:(I T 2)<=I T 74/\I T 74<=I T 3:=by
  exact⟨e.1,by have:=e.2.1;have:=e.2.2.1;omega⟩
 exact i
abbrev wl(T:Tab)(a:Int)(b:List (List U)):Prop:=(I T 74)<=a/\a <=I T 3/\b.length=I T 1/\(∀u∈b,AK AD KB u)/\b=B9 (L T 0) a.toNat (I T 3).toNat ((I T 3).toNat+1)
abbrev xd(T:Tab):Prop:=(I T 2)<=I T 74/\I T 74<=I T 3
theorem ln (b2:∀u∈(L T 0),AK AD KB u)(cf:I T 1<=140737488355328)(q:(I T 4).toNat - (I T 2).toNat < (d+1)/\((L T 0)).length=I T 1/\0<=I T 2/\I T 2 < I T 3/\I T 3 < I T 4/\I T 4<=I T 1/\Srt ltB (seg (L T 0) (I T 2).toNat (I T 3).toNat)/\Srt ltB (seg (L T 0) (I T 3).toNat (I T 4).toNat)/\Dst ltB (seg (L T 0) (I T 2).toNat (I T 4).toNat))(ce:xd T)(hS:AJ T (AM (AM (hds 73 [.i,.i]++(AM (AM (hds 40 [.i,.l]++(AM (AM (hds 7 [.i,.i]++(AM (Ak 0 (DW (d+1)).ks) EJ)) Ck) Lg)) DT) HM)) Dq) SY))(Y:AU T (FB.map En.be))(Z:AU T ((Ag Nx [.i,.l] SB).map En.be)):
  (Nx).owes (SB.map (Rf.eval T))/\AJ T (hds 106 [.i,.l])/\(wl T (I T 106) (L T 107))/\¬B T 109=true:=by
 refine Ax (nh:=106) (k:=2) (pcn:=109) (aO:=134) (y:=FB) (J:=Zu) (nxt:=[.e 133,.e 132]) (H:=[.e 3,.e 0]) (fv:=[77,74,1]) (R:=[.i,.l]) (by kernel_rfl) rfl rfl rfl rfl hS (by kernel_rfl) (by kernel_rfl) Y (Ai Z) (fun s=>wl T (aI s 0) (aL s 1)) (fun s=>((aI s 0)).toNat) ?_ ?_
 .show wl T (I T 3) (L T 0);clear hS Y Z;obtain⟨v,p,w,x,z,D,h,i,j⟩:=q;exact⟨by omega,uf _,p,b2,(QM (.inl rfl) (tY _) (by omega) (by omega)).symm⟩
 .intro A V t o;replace o:wl T (I A 106) (L A 107):=o;clear hS Y Z;replace t:AF A FB:=t;obtain⟨r,t⟩:=t.cut;have F1:=t;clear t;have cc:B A 77=B T 77:=fvB (V 77 (by decide));have cb:I A 74=I T 74:=fvI (V 74 (by decide));have ca:I A 1=I T 1:=fvI (V 1 (by decide));clear V
  suffices hz:(B A 109=true->0<=I A 111/\I A 111 < I A 1)/\(B A 109=true->0<=I A 106/\I A 106 < I A 1)/\(B A 109=true->0<=I A 106/\I A 106 < I A 1)/\(B A 109=true->0<=I A 112/\I A 112 < I A 1)/\(B A 109=true->(wl T (I A 133) (L A 132)))/\(B A 109=true->((I A 133)).toNat < ((I A 106)).toNat) from
   let⟨r0,ax,aE,r3,nx,mz⟩:=hz;⟨⟨r0,ax,aE,r3,trivial⟩,fun g=>⟨nx g,mz g⟩⟩
  refine⟨?_,?_,?_,?_,?_,?_⟩
  .obtain⟨c,e,-,a,b,-⟩:=r;simp only[AE,AI,zR,w2P] at c e a b;obtain⟨v,p,w,x,z,D,h,i,j⟩:=q;obtain⟨P,Q,F,l,K⟩:=o;intro g;have N:=c.1 (e.1 g).2;have zz:True:=by have _:=a;have _:=b;trivial
   have W:=a (by omega) (by omega);have X:=b (by omega) (by omega);clear h i j;omega
  .obtain⟨c,e,-,a,b,-⟩:=r;simp only[AE,AI,zR,w2P] at c e a b;obtain⟨v,p,w,x,z,D,h,i,j⟩:=q;obtain⟨P,Q,F,l,K⟩:=o;intro g;have N:=c.1 (e.1 g).2;have zz:True:=by have _:=a;have _:=b;trivial
   have W:=a (by omega) (by omega);have X:=b (by omega) (by omega);clear h i j;omega
  .obtain⟨c,e,-,a,b,-⟩:=r;simp only[AE,AI,zR,w2P] at c e a b;obtain⟨v,p,w,x,z,D,h,i,j⟩:=q;obtain⟨P,Q,F,l,K⟩:=o;intro g;have N:=c.1 (e.1 g).2;have zz:True:=by have _:=a;have _:=b;trivial
   have W:=a (by omega) (by omega);have X:=b (by omega) (by omega);clear h i j;omega
  .obtain⟨c,e,-,a,b,-⟩:=r;simp only[AE,AI,zR,w2P] at c e a b;obtain⟨v,p,w,x,z,D,h,i,j⟩:=q;obtain⟨P,Q,F,l,K⟩:=o;intro g;have N:=c.1 (e.1 g).2;have zz:True:=by have _:=a;have _:=b;trivial
   have W:=a (by omega) (by omega);have X:=b (by omega) (by omega);clear h i j;omega
  .obtain⟨c,e,-,a,b,al,ao,a0,a1,a2,a3,a4,a5,a6,a7,a8,-⟩:=r;obtain⟨a9,ba,bb,bc,bi,bj,bl,bm,bs,M,-⟩:=F1;simp only[AE,AI,zR,w2P,zL,zS,uR,zW,zC] at c e a b al ao a0 a1 a2 a3 a4 a5 a6 a7 a8 a9 ba bb bc bi bj bl bm bs M;obtain⟨v,p,w,x,z,D,h,i,j⟩:=q;obtain⟨P,Q,F,l,K⟩:=o;intro g;have N:=c.1 (e.1 g).2;have W:=a (by omega) (by omega);have X:=b (by omega) (by omega);have b8:=M (by omega) (by omega);clear h i j;have jA:(I A 106).toNat < ((L A 107)).length:=by omega
   have jB:(I A 106).toNat - 1 < ((L A 107)).length:=by omega
   have sA:=l _ (Az jA);have sB:=l _ (Az jB);have C:(L A 131)=((L A 107)).set ((I A 106).toNat) (((L A 107)).getD ((I A 106).toNat - 1) []):=by
    rw[bm,al,ao,a0,a1,a2,a3,a4,a5,a6,show (I A 112).toNat=(I A 106).toNat - 1 by omega];exact Pb l jA sB
   have k1:∀u∈(L A 131),AK AD KB u:=by rw[C];exact C9 l sB
   have O:(L A 132)=((L A 131)).set ((I A 106).toNat - 1) (((L A 107)).getD ((I A 106).toNat) []):=by
    rw[bs,a7,a8,a9,ba,bb,bc,bi,bj,bl,show (I A 111).toNat=(I A 106).toNat - 1 by omega];exact Pb k1 (by rw[C,ud];exact jB) sA
   have E:∀u∈(L A 132),AK AD KB u:=by rw[O];exact C9 k1 sA
   have ay:((L A 132)).length=((L A 107)).length:=by rw[O,C,ud,ud]
   refine⟨by omega,by omega,by rw[ay];exact F,E,?_⟩;rw[O,C,mA K (by omega) (by omega) (by omega),show (I A 133).toNat=(I A 106).toNat - 1 by omega]
  .obtain⟨c,e,-⟩:=r;obtain⟨-,-,-,-,-,-,-,-,-,M,-⟩:=F1;simp only[AE,AI,zR,w2P] at c e M;obtain⟨v,p,w,x,z,D,h,i,j⟩:=q;obtain⟨P,Q,F,l,K⟩:=o;intro g;have N:=c.1 (e.1 g).2;have b8:=M (by omega) (by omega);clear h i j;omega
theorem kR (a0:xb T)(ao:∀u∈(L T 0),AK AD KB u)(a5:0<=I T 1)(al:I T 1<=140737488355328)(D:(I T 4).toNat - (I T 2).toNat < (d+1)/\((L T 0)).length=I T 1/\0<=I T 2/\I T 2 < I T 3/\I T 3 < I T 4/\I T 4<=I T 1/\Srt ltB (seg (L T 0) (I T 2).toNat (I T 3).toNat)/\Srt ltB (seg (L T 0) (I T 3).toNat (I T 4).toNat)/\Dst ltB (seg (L T 0) (I T 2).toNat (I T 4).toNat))(a1:wh T (I T 7) (I T 8))(a6:¬B T 10=true)(g8:xc T)(a2:wi T (I T 40) (L T 41))(a7:¬B T 44=true)(a3:wj T (I T 73) (I T 74))(a8:¬B T 76=true)(ad:xd T)(a4:wl T (I T 106) (L T 107))(a9:¬B T 109=true)(k:AF T EJ)(a:AF T Ck)(b:AF T DT)(l:AF T HM)(c:AF T Dq)(e:AF T FB)(o:AF T N6):
  (2*I T 137<=I T 2+I T 4/\I T 2+I T 4 < 2*I T 137+2/\I T 138=I T 137+I T 3/\I T 145=I T 138 - 1/\(((I T 137) < I T 3/\I T 143=I T 137/\I T 144=I T 138 - (I T 4))\/((I T 3)<=I T 137/\I T 143=I T 3/\I T 144=I T 2))):=by
 have M:=k;clear k;obtain⟨N,a⟩:=a.cut;have P:=a;clear a;obtain⟨Q,b⟩:=b.cut;have V:=b;clear b;have W:=l;clear l;obtain⟨X,c⟩:=c.cut;have Y:=c;clear c;obtain⟨Z,e⟩:=e.cut;have F9:=e;clear e;have w:=o;clear o;have x:2*I T 137<=I T 2+I T 4/\I T 2+I T 4 < 2*I T 137+2/\I T 138=I T 137+I T 3/\I T 145=I T 138 - 1/\(((I T 137) < I T 3/\I T 143=I T 137/\I T 144=I T 138 - (I T 4))\/((I T 3)<=I T 137/\I T 143=I T 3/\I T 144=I T 2)):=by
  obtain⟨-,p,q,r,s,g,-,t,-,i,j,v,-⟩:=w;simp only[AE,AI,zR,D1,w2P,zL,zS] at p q r s g t i j v;obtain⟨p0,p1,p2,p3,p4,p5,y,A,C⟩:=D;clear y A C;have E:=p (by omega) (by omega);have F:=q.trans (IV (by omega) (by omega));have bm:(I T 137)=((I T 2)+I T 4) / 2:=by rw[r,F,E]
  have H:=s (by omega) (by omega);have J:=t (by omega) (by omega);have K:=v (by omega) (by omega);refine⟨by omega,by omega,H,K,?_⟩;by_cases h:(B T 139)=true
  .rw[i,j,vC h,vC h];exact .inl ⟨g.1 h,rfl,J⟩
  .rw[i,j,vA h,vA h];have O:¬I T 137 < I T 3:=fun z=>h (g.2 z);exact .inr ⟨by omega,rfl,rfl⟩
 exact x
abbrev wo(T:Tab)(a:Int)(b:Int):Prop:=(I T 144)<=b/\b <=a/\a <=I T 143/\(b=I T 144\/¬ltB (((L T 0)).getD ((I T 145) - (b - 1)).toNat []) (((L T 0)).getD (b - 1).toNat [])=true)/\(a=I T 143\/ltB (((L T 0)).getD ((I T 145) -a).toNat []) (((L T 0)).getD a.toNat [])=true)
abbrev xe(T:Tab):Prop:=2*I T 137<=I T 2+I T 4/\I T 2+I T 4 < 2*I T 137+2/\I T 138=I T 137+I T 3/\I T 145=I T 138 - 1/\(((I T 137) < I T 3/\I T 143=I T 137/\I T 144=I T 138 - (I T 4))\/((I T 3)<=I T 137/\I T 143=I T 3/\I T 144=I T 2))
theorem nB (b5:I T 1<=140737488355328)(K:(I T 4).toNat - (I T 2).toNat < (d+1)/\((L T 0)).length=I T 1/\0<=I T 2/\I T 2 < I T 3/\I T 3 < I T 4/\I T 4<=I T 1/\Srt ltB (seg (L T 0) (I T 2).toNat (I T 3).toNat)/\Srt ltB (seg (L T 0) (I T 3).toNat (I T 4).toNat)/\Dst ltB (seg (L T 0) (I T 2).toNat (I T 4).toNat))(E:xe T)(hS:AJ T (AM (AM (hds 106 [.i,.l]++(AM (AM (hds 73 [.i,.i]++(AM (AM (hds 40 [.i,.l]++(AM (AM (hds 7 [.i,.i]++(AM (Ak 0 (DW (d+1)).ks) EJ)) Ck) Lg)) DT) HM)) Dq) SY)) FB) N6))(hB:AU T (HE.map En.be))(hH:AU T ((Ag N1 [.i,.i] Sa).map En.be)):
  (N1).owes (Sa.map (Rf.eval T))/\AJ T (hds 146 [.i,.i])/\(wo T (I T 146) (I T 147))/\¬B T 149=true:=by
 refine Ax (nh:=146) (k:=2) (pcn:=149) (aO:=180) (y:=HE) (J:=Yj) (nxt:=[.e 178,.e 179]) (H:=[.e 143,.e 144]) (fv:=[0,145,134,1]) (R:=[.i,.i]) (by kernel_rfl) rfl rfl rfl rfl hS (by kernel_rfl) (by kernel_rfl) hB (Ai hH) (fun s=>wo T (aI s 0) (aI s 1)) (fun s=>((aI s 0) - (aI s 1)).toNat) ?_ ?_
 .show wo T (I T 143) (I T 144);clear hS hB hH;obtain⟨W,X,Y,Z,p4,p5,l,o,q⟩:=K;obtain⟨N,ao,P,Q,V⟩:=E;exact⟨uf _,by omega,uf _,.inl rfl,.inl rfl⟩
 .intro A F w x;replace x:wo T (I A 146) (I A 147):=x;clear hS hB hH;replace w:AF A HE:=w;obtain⟨M,w⟩:=w.cut;have F1:=w;clear w;have bl:L A 0=L T 0:=fvL (F 0 (by decide));have bm:I A 145=I T 145:=fvI (F 145 (by decide));have b4:B A 134=B T 134:=fvB (F 134 (by decide));have b3:I A 1=I T 1:=fvI (F 1 (by decide));clear F
  suffices hz:(B A 149=true->0<=I A 153/\I A 153 < I A 1)/\(B A 149=true->0<=I A 154/\I A 154 < I A 1)/\(B A 149=true->(wo T (I A 178) (I A 179)))/\(B A 149=true->((I A 178) - (I A 179)).toNat < ((I A 146) - (I A 147)).toNat) from
   let⟨r0,ax,nx,mz⟩:=hz;⟨⟨r0,ax,trivial⟩,fun j=>⟨nx j,mz j⟩⟩
  refine⟨?_,?_,?_,?_⟩
  .obtain⟨b,c,-,e,g,i,a,-⟩:=M;simp only[AE,AI,zR,D1,w2P] at b c e g i a;obtain⟨W,X,Y,Z,p4,p5,l,o,q⟩:=K;obtain⟨N,ao,P,Q,V⟩:=E;obtain⟨v1,v2,v3,r,t⟩:=x;intro j;have a2:=b.1 (c.1 j).2;have zz:True:=by have _:=a;trivial
   have u:=e (by omega) (by omega);have v:=g.trans (IV (by omega) (by omega));have a8:(I A 153)=((I A 147)+I A 146) / 2:=by rw[i,v,u]
   have a0:=a (by omega) (by omega);clear l o q r t;omega
  .obtain⟨b,c,-,e,g,i,a,-⟩:=M;simp only[AE,AI,zR,D1,w2P] at b c e g i a;obtain⟨W,X,Y,Z,p4,p5,l,o,q⟩:=K;obtain⟨N,ao,P,Q,V⟩:=E;obtain⟨v1,v2,v3,r,t⟩:=x;intro j;have a2:=b.1 (c.1 j).2;have zz:True:=by have _:=a;trivial
   have u:=e (by omega) (by omega);have v:=g.trans (IV (by omega) (by omega));have a8:(I A 153)=((I A 147)+I A 146) / 2:=by rw[i,v,u]
   have a0:=a (by omega) (by omega);clear l o q r t;omega
  .obtain⟨b,c,-,e,g,i,a,ba,-,bb,-⟩:=M;obtain⟨bc,-,bi,-,-,-,-,-,-,a1,bj,-,-,z,C,D,-⟩:=F1;replace a1:I A 173=(if BV (I A 157) (I A 166)=0 then BV (I A 155) (I A 164) else BV (I A 157) (I A 166)):=a1;simp only[AE,AI,zR,D1,w2P,zL,zS] at b c e g i a ba bb bc bi bj z C D;obtain⟨W,X,Y,Z,p4,p5,l,o,q⟩:=K;obtain⟨N,ao,P,Q,V⟩:=E;obtain⟨v1,v2,v3,r,t⟩:=x;intro j;have a2:=b.1 (c.1 j).2;have u:=e (by omega) (by omega);have v:=g.trans (IV (by omega) (by omega));have a8:(I A 153)=((I A 147)+I A 146) / 2:=by rw[i,v,u]
   have a0:=a (by omega) (by omega);have a6:(B A 174)=true↔ltB (((L T 0)).getD (I A 154).toNat []) (((L T 0)).getD (I A 153).toNat [])=true:=by
    rw[bj,a1,ba,bb,bc,bi,bl];exact (decide_eq_true_iff (p:=ZW _ _ < 0)).symm
   have b1:=z (by omega) (by omega);rw[C,D];rw[a0,bm] at a6;by_cases h:(B A 174)=true
   .rw[vC h,vC h];exact⟨v1,by omega,by omega,r,.inr (a6.1 h)⟩
   .rw[vA h,vA h];refine⟨by omega,by omega,v3,.inr ?_,t⟩;rw[show (I A 177) - 1=(I A 153) by omega];exact fun O=>h (a6.2 O)
  .obtain⟨b,c,-,e,g,i,a,-⟩:=M;obtain⟨-,-,-,-,-,-,-,-,-,-,-,-,-,z,C,D,-⟩:=F1;simp only[AE,AI,zR,D1,w2P,zL,zS] at b c e g i a z C D;obtain⟨W,X,Y,Z,p4,p5,l,o,q⟩:=K;obtain⟨N,ao,P,Q,V⟩:=E;obtain⟨v1,v2,v3,r,t⟩:=x;intro j;have a2:=b.1 (c.1 j).2;have u:=e (by omega) (by omega);have v:=g.trans (IV (by omega) (by omega));have a8:(I A 153)=((I A 147)+I A 146) / 2:=by rw[i,v,u]
   have a0:=a (by omega) (by omega);have b1:=z (by omega) (by omega);rw[C,D];clear l o q r t;split<;>omega
theorem se (hi:xb T)(hh:∀u∈(L T 0),AK AD KB u)(hj:0<=I T 1)(hg:I T 1<=140737488355328)(C:(I T 4).toNat - (I T 2).toNat < (d+1)/\((L T 0)).length=I T 1/\0<=I T 2/\I T 2 < I T 3/\I T 3 < I T 4/\I T 4<=I T 1/\Srt ltB (seg (L T 0) (I T 2).toNat (I T 3).toNat)/\Srt ltB (seg (L T 0) (I T 3).toNat (I T 4).toNat)/\Dst ltB (seg (L T 0) (I T 2).toNat (I T 4).toNat))(e8:wh T (I T 7) (I T 8))(f2:¬B T 10=true)(g8:xc T)(fd:wi T (I T 40) (L T 41))(f3:¬B T 44=true)(fi:wj T (I T 73) (I T 74))(f4:¬B T 76=true)(hb:xd T)(fj:wl T (I T 106) (L T 107))(f5:¬B T 109=true)(g4:xe T)(fn:wo T (I T 146) (I T 147))(f6:¬B T 149=true)(A0:AF T EJ)(B0:AF T Ck)(B1:AF T DT)(A2:AF T HM)(B2:AF T Dq)(B3:AF T FB)(A4:AF T N6)(B4:AF T HE)(A5:AF T YR):
  ((L T 207)=(AR ltB (L T 0) (I T 2).toNat (I T 4).toNat))/\
  (B T 201=true->(I T 4).toNat - (I T 137).toNat < d/\((L T 196)).length=I T 1/\0<=I T 137/\I T 137 < I T 180/\I T 180 < I T 4/\I T 4<=I T 1/\Srt ltB (seg (L T 196) (I T 137).toNat (I T 180).toNat)/\Srt ltB (seg (L T 196) (I T 180).toNat (I T 4).toNat)/\Dst ltB (seg (L T 196) (I T 137).toNat (I T 4).toNat))/\
  (B T 193=true->(I T 137).toNat - (I T 2).toNat < d/\((L T 188)).length=I T 1/\0<=I T 2/\I T 2 < I T 147/\I T 147 < I T 137/\I T 137<=I T 1/\Srt ltB (seg (L T 188) (I T 2).toNat (I T 147).toNat)/\Srt ltB (seg (L T 188) (I T 147).toNat (I T 137).toNat)/\Dst ltB (seg (L T 188) (I T 2).toNat (I T 137).toNat))/\
  (B T 185=true->((L T 0)).length=I T 1/\0<=I T 147/\I T 147 < I T 3/\I T 3 < I T 180/\I T 180<=I T 1):=by
 have F0:=A0;clear A0;obtain⟨F1,B0⟩:=B0.cut;have F2:=B0;clear B0;obtain⟨F3,B1⟩:=B1.cut;have F4:=B1;clear B1;have F5:=A2;clear A2;obtain⟨F6,B2⟩:=B2.cut;have F7:=B2;clear B2;obtain⟨F8,B3⟩:=B3.cut;have F9:=B3;clear B3;have c7:=A4;clear A4;obtain⟨bm,B4⟩:=B4.cut;have g0:=B4;clear B4;obtain⟨N,A5⟩:=A5.cut;have b0:=A5;clear A5;have M:(B T 134)=true->B T 150=true/\I T 2<=I T 147/\I T 147<=I T 3/\I T 3<=I T 180/\I T 180<=I T 4/\I T 137+I T 3=I T 147+I T 180/\I T 2 < I T 137/\I T 137 < I T 4/\((I T 147)=I T 2\/I T 180=I T 4\/¬ltB (((L T 0)).getD (I T 180).toNat []) (((L T 0)).getD ((I T 147).toNat - 1) [])=true)/\((I T 180)=I T 3\/I T 147=I T 3\/ltB (((L T 0)).getD ((I T 180).toNat - 1) []) (((L T 0)).getD (I T 147).toNat [])=true):=by
  obtain⟨e5,e6,-⟩:=F0;obtain⟨t,ag,al,-⟩:=F5;obtain⟨P,-⟩:=c7;obtain⟨b4,dd,j,-⟩:=bm;obtain⟨de,-⟩:=N;simp only[AE,AI,zN,zR,w2P] at e5 e6 t ag al P b4 dd j de;obtain⟨H,w,z,J,K,A,r,p,k⟩:=C;obtain⟨g1,ao,g3,g5,g6⟩:=g4;obtain⟨v1,v2,v3,g,i⟩:=fn;intro c;have e2:¬I T 147 < I T 146:=fun h=>f6 (dd.2 ⟨c,b4.2 h⟩);have o:=j.2 ⟨c,by cases q:(B T 148);rfl;exact absurd (b4.1 q) e2⟩;obtain⟨a2,v⟩:=P.1 c;have aa:(I T 147)=I T 146:=by omega
  have n6:¬I T 5=1:=fun h=>by rw[e6.2 h] at t;simp at t;rw[t] at a2;cases a2
  have hm:¬I T 70=1:=fun h=>by rw[al.2 h] at v;cases v
  have x5:=e5 (by omega) (by omega);have gr:=ag (by omega) (by omega);have ho:=de (by omega) (by omega);refine⟨o,by omega,by omega,by omega,by omega,by omega,by omega,by omega,?_,?_⟩
  .rcases g with g|g
   .omega
   .refine .inr (.inr ?_);rw[show (I T 180).toNat=((I T 145) - ((I T 147) - 1)).toNat by omega,show (I T 147).toNat - 1=((I T 147) - 1).toNat by omega];exact g
  .rcases i with i|i
   .omega
   .refine .inr (.inr ?_);rw[show (I T 180).toNat - 1=((I T 145) - (I T 146)).toNat by omega,aa];exact i
 have sg:(B T 134)=true->((L T 188)).length=((L T 0)).length/\L T 188=B9 (L T 0) (I T 147).toNat (I T 3).toNat (I T 180).toNat:=by
  obtain⟨-,Q,-,V,D,-,b5,-,dj,-⟩:=N;replace b5:L T 186=(BZ (L T 0) (rtS (I T 147).toNat (I T 3).toNat (I T 180).toNat)):=b5;simp only[AE,AI,zR,zL,zS] at Q V D dj;obtain⟨H,w,z,J,K,A,r,p,k⟩:=C;intro c;obtain⟨o,q1,q2,q3,q4,q5,-⟩:=M c;have hr:(L T 188)=B9 (L T 0) (I T 147).toNat (I T 3).toNat (I T 180).toNat:=by
   rw[dj];by_cases h:(B T 184)=true
   .rw[vC h,b5];exact p9 (by omega) (by omega) (by omega)
   .rw[vA h];refine (QM ?_ (by omega) (by omega) (by omega)).symm;by_cases O:(I T 147) < I T 3
    .by_cases h3:(I T 3) < I T 180
     .exact absurd (D.2 ⟨Q.2 O,V.2 h3⟩) h
     .omega
    .omega
  exact⟨by rw[hr,FA]<;>omega,hr⟩
 have sh:(B T 134)=true->L T 196=AR ltB ((L T 188)) (I T 2).toNat (I T 137).toNat/\L T 204=AR ltB ((L T 196)) (I T 137).toNat (I T 4).toNat/\(Srt ltB (seg ((L T 188)) (I T 2).toNat (I T 147).toNat)/\Srt ltB (seg ((L T 188)) (I T 147).toNat (I T 137).toNat)/\Dst ltB (seg ((L T 188)) (I T 2).toNat (I T 137).toNat))/\((L T 196)).length=I T 1/\Srt ltB (seg ((L T 196)) (I T 137).toNat (I T 180).toNat)/\Srt ltB (seg ((L T 196)) (I T 180).toNat (I T 4).toNat)/\Dst ltB (seg ((L T 196)) (I T 137).toNat (I T 4).toNat):=by
  obtain⟨-,-,-,-,-,-,-,-,-,W,-,X,E,-,b6,-⟩:=N;obtain⟨dm,Y,-,Z,F,-,b7,-,dv,-⟩:=b0;replace b6:L T 194=(AR ltB (L T 188) (I T 2).toNat (I T 137).toNat):=b6;replace b7:L T 202=(AR ltB (L T 196) (I T 137).toNat (I T 4).toNat):=b7;simp only[AE,AI,zR,zL,zS] at W X E dm Y Z F dv;obtain⟨H,w,z,J,K,A,r,p,k⟩:=C;intro c;obtain⟨o,q1,q2,q3,q4,q5,q6,q7,-⟩:=M c;obtain⟨ax,aE⟩:=sg c;obtain⟨t1,t2,t3,t4,t5,t6,t7⟩:=pi (lt:=ltB) (l:=L T 0) (a:=(I T 2).toNat) (s:=(I T 147).toNat) (m:=(I T 3).toNat) (e:=(I T 180).toNat) (b:=(I T 4).toNat) (aC:=(I T 137).toNat) (by omega) (by omega) (by omega) (by omega) (by omega) (by omega) r p k aE;have ci:(L T 196)=AR ltB ((L T 188)) (I T 2).toNat (I T 137).toNat:=by
   rw[dm];by_cases h:(B T 192)=true
   .rw[vC h,b6]
   .rw[vA h];refine (YE wkB ?_ (by omega) t2 t3 t4).symm;by_cases O:(I T 2) < I T 147
    .by_cases h3:(I T 147) < I T 137
     .exact absurd (E.2 ⟨W.2 O,X.2 h3⟩) h
     .omega
    .omega
  have hk:((L T 196)).length=((L T 188)).length:=by rw[ci];exact Dv (by omega) (by omega)
  have sq:∀x y:Nat,(I T 137).toNat<=x->x<=y->seg ((L T 196)) x y=seg ((L T 188)) x y:=fun x y hx hy=>by
   rw[ci];exact oE (by omega) (by omega) hx hy
  have u5:Srt ltB (seg ((L T 196)) (I T 137).toNat (I T 180).toNat):=by rw[sq _ _ (tY _) (by omega)];exact t5
  have u6:Srt ltB (seg ((L T 196)) (I T 180).toNat (I T 4).toNat):=by rw[sq _ _ (by omega) (by omega)];exact t6
  have u7:Dst ltB (seg ((L T 196)) (I T 137).toNat (I T 4).toNat):=by rw[sq _ _ (tY _) (by omega)];exact t7
  refine⟨ci,?_,⟨t2,t3,t4⟩,by omega,u5,u6,u7⟩;rw[dv];by_cases h:(B T 200)=true
  .rw[vC h,b7]
  .rw[vA h];refine (YE wkB ?_ (by omega) u5 u6 u7).symm;by_cases O:(I T 137) < I T 180
   .by_cases h3:(I T 180) < I T 4
    .exact absurd (F.2 ⟨Y.2 O,Z.2 h3⟩) h
    .omega
   .omega
 refine⟨?_,?_,?_,?_⟩
 .obtain⟨e5,e6,-⟩:=F0;obtain⟨e9,c9,b2,-⟩:=F1;obtain⟨d1,ca,d2,cb,-⟩:=F3;obtain⟨t,ag,al,cc,-⟩:=F5;obtain⟨ce,d3,cf,-⟩:=F6;obtain⟨b1,db,b3,-⟩:=F8;obtain⟨P,-⟩:=c7;obtain⟨-,-,-,-,-,-,-,-,-,b8,bs,d0,-⟩:=b0;simp only[AE,AI,zN,zR,w2P,zL,zS] at e5 e6 e9 c9 b2 d1 ca d2 cb t ag al cc ce d3 cf b1 db b3 P b8 bs d0;obtain⟨H,w,z,J,K,A,r,p,k⟩:=C;rw[d0];by_cases h6:(B T 6)=true
  .have x5:=e5 (by omega) (by omega);have h5:=e6.1 h6;obtain⟨v1,v2,v3,g,i⟩:=e8;obtain⟨aJ,w2,w3,w4,w5⟩:=fd;have n9:¬I T 8 < I T 7:=fun h=>f2 (c9.2 ⟨h6,e9.2 h⟩);have d4:(B T 11)=true:=b2.2 ⟨h6,by cases q:(B T 9);rfl;exact absurd (e9.1 q) n9⟩;have hq:=d1 (by omega) (by omega);have fv:¬I T 40 < I T 42:=fun h=>f3 (d2.2 ⟨d4,ca.2 h⟩);have d8:(B T 45)=true:=cb.2 ⟨d4,by cases q:(B T 43);rfl;exact absurd (ca.1 q) fv⟩;rw[vC (bs.2 (.inl d8)),b8,vC d8,w5,show (I T 40).toNat+1=(I T 8).toNat by omega];rw[show (I T 3).toNat=(I T 2).toNat+1 by omega] at p;have h8:(I T 7)=I T 8:=by omega
   rw[h8] at i;refine rX wkB (by omega) (by omega) (by omega) p k ?_ ?_
   .rcases g with g|g
    .omega
    .rw[show ((I T 8) - 1).toNat=(I T 8).toNat - 1 by omega] at g;exact .inr g
   .rcases i with i|i
    .omega
    .exact .inr i
  .have ee:¬B T 45=true:=fun h=>h6 (b2.1 (cb.1 h).1).1;have a2:(B T 69)=true:=t.2 (by simpa using h6);by_cases v:(B T 71)=true
   .have gr:=ag (by omega) (by omega);have h7:=al.1 v;obtain⟨v1,v2,v3,g,i⟩:=fi;obtain⟨aJ,w2,w3,w4,w5⟩:=fj;have d9:=cc.2 ⟨a2,v⟩;have f0:¬I T 74 < I T 73:=fun h=>f4 (d3.2 ⟨d9,ce.2 h⟩);have ea:(B T 77)=true:=cf.2 ⟨d9,by cases q:(B T 75);rfl;exact absurd (ce.1 q) f0⟩;have fr:¬I T 74 < I T 106:=fun h=>f5 (db.2 ⟨ea,b1.2 h⟩);have e1:(B T 110)=true:=b3.2 ⟨ea,by cases q:(B T 108);rfl;exact absurd (b1.1 q) fr⟩;have h8:(I T 106)=I T 74:=by omega
    have h9:(I T 73)=I T 74:=by omega
    rw[vC (bs.2 (.inr e1)),b8,vA ee,w5,h8];rw[show (I T 4).toNat=(I T 3).toNat+1 by omega] at k⊢;rw[h9] at i;refine mW wkB (by omega) (by omega) (by omega) r k ?_ ?_
    .rcases g with g|g
     .omega
     .rw[show ((I T 74) - 1).toNat=(I T 74).toNat - 1 by omega] at g;exact .inr g
    .rcases i with i|i
     .omega
     .exact .inr i
   .have c:=P.2 ⟨a2,by simpa using v⟩;have fs:¬B T 206=true:=fun h=>(bs.1 h).elim ee fun h=>v (cc.1 (cf.1 (b3.1 h).1).1).2;obtain⟨o,q1,q2,q3,q4,q5,q6,q7,q8,q9⟩:=M c;obtain⟨ax,aE⟩:=sg c;obtain⟨z1,z2,-⟩:=sh c;rw[vA fs];exact oO wkB (by omega) (by omega) (by omega) (by omega) (by omega) (by omega) r p k (q8.imp (fun h=>by omega) (fun h=>h.imp (fun h=>by omega) id)) (q9.imp (fun h=>by omega) (fun h=>h.imp (fun h=>by omega) id)) aE z1 z2
 .obtain⟨-,-,j,-⟩:=bm;obtain⟨-,Y,-,Z,F,dn,-⟩:=b0;simp only[AE,AI,zN,zR] at j Y Z F dn;obtain⟨H,w,z,J,K,A,r,p,k⟩:=C;intro hp;obtain⟨o,d7⟩:=dn.1 hp;have c:=(j.1 o).1;obtain⟨-,q1,q2,q3,q4,q5,q6,q7,-⟩:=M c;obtain⟨z1,z2,z3,z4,z5⟩:=sh c;have y1:=Y.1 (F.1 d7).1;have y2:=Z.1 (F.1 d7).2;exact⟨by omega,z4,by omega,y1,y2,A,z5.1,z5.2.1,z5.2.2⟩
 .obtain⟨-,-,j,-⟩:=bm;obtain⟨-,-,-,-,-,-,-,-,-,W,-,X,E,dk,-⟩:=N;simp only[AE,AI,zN,zR] at j W X E dk;obtain⟨H,w,z,J,K,A,r,p,k⟩:=C;intro hp;obtain⟨o,d6⟩:=dk.1 hp;have c:=(j.1 o).1;obtain⟨-,q1,q2,q3,q4,q5,q6,q7,-⟩:=M c;obtain⟨ax,aE⟩:=sg c;obtain⟨z1,z2,z3,-⟩:=sh c;have y1:=W.1 (E.1 d6).1;have y2:=X.1 (E.1 d6).2;exact⟨by omega,by omega,z,y1,y2,by omega,z3.1,z3.2.1,z3.2.2⟩
 .obtain⟨-,-,j,-⟩:=bm;obtain⟨-,Q,-,V,D,di,-⟩:=N;simp only[AE,AI,zN,zR] at j Q V D di;obtain⟨H,w,z,J,K,A,r,p,k⟩:=C;intro hp;obtain⟨o,d5⟩:=di.1 hp;obtain⟨-,q1,q2,q3,q4,-⟩:=M (j.1 o).1;have y1:=Q.1 (D.1 d5).1;have y2:=V.1 (D.1 d5).2;exact⟨w,by omega,y1,y2,by omega⟩
theorem qf (ih:Ae Try.prog 145 (DW d)):Ae Try.prog 145 (DW (d+1)):=by
 refine dT (l:=[(101,Lp),(148,Lf),(145,DW d)]) BU (by simp only[uA];exact⟨dN,rH,ih,fun _ h=>absurd h (by simp)⟩) sG (by kernel_rfl) fun T us Z w t k ao a=>?_;change us.length=5 at t;obtain⟨⟨s,a3⟩,⟨v,o⟩,-⟩:=ao;replace s:(L T 0).length<=140737488355328:=s;have r:∀u∈(L T 0),AK AD KB u:=fun u hu=>by
  obtain⟨i,Y⟩:=uH.1 hu;exact a3 i u Y
 replace v:0<=I T 1:=v;replace o:I T 1<=140737488355328:=o;have V:aL us 0=L T 0:=inL w t (by decide);have a1:aI us 1=I T 1:=inI w t (by decide);have W:aI us 2=I T 2:=inI w t (by decide);have a2:aI us 3=I T 3:=inI w t (by decide);have X:aI us 4=I T 4:=inI w t (by decide);have q:(I T 4).toNat - (I T 2).toNat < (d+1)/\((L T 0)).length=I T 1/\0<=I T 2/\I T 2 < I T 3/\I T 3 < I T 4/\I T 4<=I T 1/\Srt ltB (seg (L T 0) (I T 2).toNat (I T 3).toNat)/\Srt ltB (seg (L T 0) (I T 3).toNat (I T 4).toNat)/\Dst ltB (seg (L T 0) (I T 2).toNat (I T 4).toNat):=by
  have h:=Z (.s "symB.p0",Eu (d+1)) (by simp[DW]);change Eu (d+1) us at h;unfold Eu at h;simp only[V,a1,W,a2,X] at h;exact h
 clear Z;rw[ti,ti,ti,ti,ti,ti,ti,ti,ti,ti,ti,ti,ti,ti,ti] at a;have e:=a.left;replace a:=a.right;have g:=a.left;replace a:=a.right;have b:=a.left;replace a:=a.right;obtain⟨x,c⟩:=AN k (by kernel_rfl) e;obtain⟨a8,j,A,C⟩:=oX o q c b g;have p:=(AN (j.append c) (l:=Ck) (by kernel_rfl) b);obtain⟨y,k⟩:=p;clear e b g c j;have e:=a.left;replace a:=a.right;have g:=a.left;replace a:=a.right;have b:=a.left;replace a:=a.right;obtain⟨A1,c⟩:=AN k (by kernel_rfl) e;have z:=kJ s r v o q A C x y;obtain⟨a9,j,J,M⟩:=mS r o q z c b g;have p:=(AN (j.append c) (l:=DT) (by kernel_rfl) b);obtain⟨E,k⟩:=p;clear e b g c j;have e:=a.left;replace a:=a.right;have g:=a.left;replace a:=a.right;have b:=a.left;replace a:=a.right;obtain⟨D,c⟩:=AN k (by kernel_rfl) e;obtain⟨ba,j,K,N⟩:=oo o q c b g;have p:=(AN (j.append c) (l:=Dq) (by kernel_rfl) b);obtain⟨F,k⟩:=p;clear e b g c j;have e:=a.left;replace a:=a.right;have g:=a.left;replace a:=a.right;have b:=a.left;replace a:=a.right;obtain⟨A3,c⟩:=AN k (by kernel_rfl) e;have H:=jM s r v o q A C z J M K N x y E D F;obtain⟨bb,j,ab,ad⟩:=ln r o q H c b g;have p:=(AN (j.append c) (l:=FB) (by kernel_rfl) b);obtain⟨P,k⟩:=p;clear e b g c j;have e:=a.left;replace a:=a.right;have g:=a.left;replace a:=a.right;have b:=a.left;replace a:=a.right;obtain⟨O,c⟩:=AN k (by kernel_rfl) e;have Q:=kR s r v o q A C z J M K N H ab ad x y E D F P O;obtain⟨bc,j,a6,a7⟩:=nB o q Q c b g;have p:=(AN (j.append c) (l:=HE) (by kernel_rfl) b);obtain⟨B4,k⟩:=p;clear e b g c j;obtain⟨A5,hO⟩:=At (R:=[.l]) (rs:=j9) k (by kernel_rfl) a;obtain⟨q0,r0,ax,aE⟩:=se s r v o q A C z J M K N H ab ad Q a6 a7 x y E D F P O B4 A5;refine⟨⟨r0,ax,aE,(fun _=>bc),(fun _=>bb),(fun _=>ba),(fun _=>a9),(fun _=>a8),trivial⟩,hO.trans ?_⟩;exact (lc (by show U.list (L T 207)= .list (G6 us);unfold G6;rw[V,W,X];exact vD U.list q0) rfl)
theorem cH:∀d:Nat,Ae Try.prog 145 (DW d)
 |0=>⟨fun _=>SD,fun T us _ _ _ a=>by
   have h:=a (.s "symB.p0",Eu 0) (by simp[DW]);exact absurd h.1 (Nat.not_lt_zero _)⟩
 |d+1=>qf (cH d)
end
section
open Go Go.Eng Go.Proofs
set_option maxHeartbeats 4000000
set_option maxRecDepth 100000
def MO:List U->List (List U):=fun us=>(AR ltB (aL us 0) 0 (aI us 2).toNat)
def JZ:List U->Prop:=fun us=>((aL us 0)).length=(aI us 1)/\(aI us 2)=(aI us 1)/\(aI us 1)<=40/\(20 < (aI us 1)->Dst ltB (aL us 0))
def Ed:AZ:={ sh:=[.one (k64),.cst (.fn (.func 101) [] [])],blks:=[],outs:=[(.s "stabB.0",Cw MO)],c:= .tup [],m':=[.mrow 3 1 [k64,k64,k64,.bool,.str,.str,.bool,k64,k64] 38],pre:=[(.s "stabB.p0",JZ)],row:=some ([k64,k64,k64,.bool,.str,.str,.bool,k64,k64],38) }
def HW:List En:=[]
def bD:List En:=[⟨6,.le,[.e 4,.e 2]⟩,
 vQ 7 6,
 ⟨8,.outL "insB.0" Lr,[.e 5,.e 1,.e 3,.e 4]⟩,
 ⟨9,.w2 .i64 .add,[.e 4,.c (.int 20)]⟩]
def Cs:List En:=bD
def Vd:List ObE:=[⟨some 6,.pre "insB.p0" IW,[.e 5,.e 1,.e 3,.e 4]⟩]
def Lx:Ac:=mkD 3 3 Cs 6 [.e 4,.e 9,.e 8] Vd [1,2]
def QK:List Rf:=[.e 1,.e 2,.c (.int 0),.c (.int 20),.e 0]
def an:List En:=[⟨10,.outL "insB.0" Lr,[.e 5,.e 1,.e 3,.e 2]⟩]
def Fp:List En:=an
def Wa:List En:=[vO 15 13 2,
 vK 16 7 15,
 vM 17 7 15,
 ⟨18,.w2 .i64 .mul,[.c (.int 2),.e 13]⟩]
def FV:List En:=Wa
def bI:List En:=[⟨22,.le,[.e 20,.e 2]⟩,
 vK 23 16 22,
 vM 24 16 22,
 vg 25 19 13,
 ⟨26,.outL "symB.0" G6,[.e 21,.e 1,.e 19,.e 25,.e 20]⟩,
 ⟨27,.w2 .i64 .mul,[.c (.int 2),.e 13]⟩,
 vg 28 20 27]
def EB:List En:=bI
def V0:List ObE:=[⟨some 23,.pre "symB.p0" (Eu 41),[.e 21,.e 1,.e 19,.e 25,.e 20]⟩]
def Jg:Ac:=mkD 19 3 EB 23 [.e 20,.e 28,.e 26] V0 [13,1,16,2]
def Lw:List Rf:=[.e 13,.e 1,.e 16,.e 2,.c (.int 0),.e 18,.e 14]
def Wm:List En:=[vg 29 19 13,
 vO 30 29 2,
 vK 31 24 30,
 ⟨32,.outL "symB.0" G6,[.e 21,.e 1,.e 19,.e 29,.e 2]⟩,
 vM 33 24 30,
 vf 34 30 32 21,
 ⟨35,.w2 .i64 .mul,[.e 13,.c (.int 2)]⟩]
def I6:List En:=Wm
def Hd:List En:=FV++((Ag Jg [.i,.i,.l] Lw)++(EB++(I6)))
def Vk:List ObE:=[⟨some 31,.pre "symB.p0" (Eu 41),[.e 21,.e 1,.e 19,.e 29,.e 2]⟩,⟨some 16,.owes Jg,[.e 13,.e 1,.e 16,.e 2,.c (.int 0),.e 18,.e 14]⟩]
def MX:Ac:=mkD 11 4 Hd 24 [.e 19,.e 20,.e 35,.e 34] Vk [1,2,7]
def Pj:List Rf:=[.e 1,.e 2,.e 7,.e 3,.e 4,.c (.int 20),.e 10]
def jD:List En:=[]
def qA:List ObE:=[⟨some 7,.owes MX,[.e 1,.e 2,.e 7,.e 3,.e 4,.c (.int 20),.e 10]⟩,
 ⟨some 7,.pre "insB.p0" IW,[.e 5,.e 1,.e 3,.e 2]⟩,
 ⟨none,.owes Lx,[.e 1,.e 2,.c (.int 0),.c (.int 20),.e 0]⟩]
def cw:List Rf:=[.e 14]
theorem qZ:Ed.sees cw (Ed.run Try.prog [(144,Ge),(145,DW 41)] Aa 3000 20 137)=some ((HW++((Ag Lx [.i,.i,.l] QK)++(Cs++(Fp++((Ag MX [.i,.i,.i,.l] Pj)++(Hd++(jD))))))).map En.be,qA.map ObE.be,[]):=by kernel_rfl
abbrev wp(T:Tab)(a:Int)(b:Int)(c:List (List U)):Prop:=(a=0/\b=20/\c=L T 0)\/(a=20/\b=40/\20<=I T 2/\c=AR ltB (L T 0) 0 20)\/(a=40/\b=60/\I T 2=40/\c=AR ltB (AR ltB (L T 0) 0 20) 20 40)
abbrev xf(T:Tab):Prop:=((L T 0)).length=I T 1/\I T 2=I T 1/\I T 1<=40/\(20 < I T 1->Dst ltB (L T 0))
variable{T:Tab}
theorem iM (x:xf T)(v:AJ T (AM (Ak 0 Ed.ks) HW))(t:AU T (Cs.map En.be))(u:AU T ((Ag Lx [.i,.i,.l] QK).map En.be)):
  (Lx).owes (QK.map (Rf.eval T))/\AJ T (hds 3 [.i,.i,.l])/\(wp T (I T 3) (I T 4) (L T 5))/\¬B T 6=true:=by
 refine Ax (nh:=3) (k:=3) (pcn:=6) (aO:=10) (y:=Cs) (J:=Vd) (nxt:=[.e 4,.e 9,.e 8]) (H:=[.c (.int 0),.c (.int 20),.e 0]) (fv:=[1,2]) (R:=[.i,.i,.l]) (by kernel_rfl) rfl rfl rfl rfl v (by kernel_rfl) (by kernel_rfl) t (Ai u) (fun s=>wp T (aI s 0) (aI s 1) (aL s 2)) (fun s=>((I T 2)+1 - (aI s 1)).toNat) ?_ ?_
 .show wp T (0:Int) (20:Int) (L T 0);clear v t u;exact .inl ⟨rfl,rfl,rfl⟩
 .intro A w o p;replace p:wp T (I A 3) (I A 4) (L A 5):=p;clear v t u;replace o:AF A Cs:=o;have q:=o;clear o;have z:I A 1=I T 1:=fvI (w 1 (by decide));have r:I A 2=I T 2:=fvI (w 2 (by decide));clear w
  suffices K:(B A 6=true->((L A 5)).length=I A 1/\0<=I A 3/\I A 3<=I A 4/\I A 4<=I A 1)/\(B A 6=true->(wp T (I A 4) (I A 9) (L A 8)))/\(B A 6=true->((I T 2)+1 - (I A 9)).toNat < ((I T 2)+1 - (I A 4)).toNat) from
   let⟨O,N,M⟩:=K;⟨⟨O,trivial⟩,fun c=>⟨N c,M c⟩⟩
  refine⟨?_,?_,?_⟩
  .obtain⟨b,-⟩:=q;simp only[AE,zR] at b;obtain⟨C,D,E,F⟩:=x;intro c;have i:=b.1 c;rw[r] at i;rcases p with⟨e,a,g⟩|⟨e,a,g,j⟩|⟨e,a,g,j⟩
   .rw[z,g];omega
   .rw[z,j,Dv (by omega) (by omega)];omega
   .omega
  .obtain⟨b,-,l,h,-⟩:=q;replace l:L A 8=(AR ltB (L A 5) (I A 3).toNat (I A 4).toNat):=l;simp only[AE,zR,w2P] at b h;obtain⟨C,D,E,F⟩:=x;intro c;have i:=b.1 c;rw[r] at i;have P:=h (by omega) (by omega);rcases p with⟨e,a,g⟩|⟨e,a,g,j⟩|⟨e,a,g,j⟩
   .refine .inr (.inl ⟨a,by omega,by omega,?_⟩);rw[l,e,a,g];rfl
   .refine .inr (.inr ⟨a,by omega,by omega,?_⟩);rw[l,e,a,j];rfl
   .omega
  .obtain⟨b,-,-,h,-⟩:=q;simp only[AE,zR,w2P] at b h;obtain⟨C,D,E,F⟩:=x;intro c;have i:=b.1 c;rw[r] at i;have P:=h (by omega) (by omega);omega
theorem gc (P:xb T)(N:∀u∈(L T 0),AK AD KB u)(Q:0<=I T 1)(M:I T 1<=140737488355328)(t:xf T)(y:wp T (I T 3) (I T 4) (L T 5))(C:¬B T 6=true)(q:AF T Cs)(p:AF T Fp):
  (((L T 10)).length=I T 1/\((I T 2)<=20->L T 10=AR ltB (L T 0) 0 (I T 2).toNat)/\(20 < I T 2->L T 10=AR ltB (AR ltB (L T 0) 0 20) 20 (I T 2).toNat))/\(20 < I T 2->((L T 10)).length=I T 1/\Srt ltB (seg (L T 10) 0 20)/\Srt ltB (seg (L T 10) 20 (I T 2).toNat)/\Dst ltB (seg (L T 10) 0 (I T 2).toNat)/\AR ltB (L T 10) 0 (I T 2).toNat=AR ltB (L T 0) 0 (I T 2).toNat):=by
 have w:=q;clear q;have x:=p;clear p;have aM:((L T 10)).length=I T 1/\((I T 2)<=20->L T 10=AR ltB (L T 0) 0 (I T 2).toNat)/\(20 < I T 2->L T 10=AR ltB (AR ltB (L T 0) 0 20) 20 (I T 2).toNat):=by
  obtain⟨r,-⟩:=w;obtain⟨c,-⟩:=x;replace c:L T 10=(AR ltB (L T 5) (I T 3).toNat (I T 2).toNat):=c;simp only[AE,zR] at r;obtain⟨i,D,E,s⟩:=t;have V:¬I T 4<=I T 2:=fun h=>C (r.2 h);rcases y with⟨e,v,j⟩|⟨e,v,j,o⟩|⟨e,v,j,o⟩
  .rw[c,e,j];refine⟨?_,fun _=>rfl,fun h=>by omega⟩;rw[Dv (by omega) (by omega)];exact i
  .rw[c,e,o];have k:=Dv (lt:=ltB) (l:=L T 0) (a:=0) (b:=20) (by omega) (by omega);refine⟨?_,fun h=>?_,fun h=>rfl⟩
   .rw[Dv (by omega) (by omega),k];exact i
   .have O:(I T 2).toNat=20:=by omega
    rw[O];exact Jf (tY _) (tY _)
  .rw[c,e,o,j];have k:=Dv (lt:=ltB) (l:=L T 0) (a:=0) (b:=20) (by omega) (by omega);have g:AR ltB (AR ltB (AR ltB (L T 0) 0 20) 20 40) 40 40=AR ltB (AR ltB (L T 0) 0 20) 20 40:=Jf (tY _) (tY _);refine⟨?_,fun h=>by omega,fun h=>g⟩;show ((AR ltB (AR ltB (AR ltB (L T 0) 0 20) 20 40) 40 40).length:Int)=_;rw[g,Dv (by omega) (by omega),k];exact i
 have A:20 < I T 2->((L T 10)).length=I T 1/\Srt ltB (seg (L T 10) 0 20)/\Srt ltB (seg (L T 10) 20 (I T 2).toNat)/\Dst ltB (seg (L T 10) 0 (I T 2).toNat)/\AR ltB (L T 10) 0 (I T 2).toNat=AR ltB (L T 0) 0 (I T 2).toNat:=by
  obtain⟨i,D,E,s⟩:=t;intro h;obtain⟨au,ag,z⟩:=aM;obtain⟨W,F,H,J,K⟩:=oC wkB (l:=L T 0) (m:=20) (n:=(I T 2).toNat) (by omega) (by omega) (s (by omega)) (z h);exact⟨au,F,H,J,K⟩
 exact⟨aM,A⟩
abbrev xg(T:Tab):Prop:=(I T 2)<=40/\I T 2=I T 1/\((I T 13)=20\/I T 13=40)/\((I T 13)=20->20 < I T 2->((L T 14)).length=I T 1/\Srt ltB (seg (L T 14) 0 20)/\Srt ltB (seg (L T 14) 20 (I T 2).toNat)/\Dst ltB (seg (L T 14) 0 (I T 2).toNat))
theorem ec (h:xg T)(a:AF T FV):
  ((B T 16)=true->I T 13=20/\20 < I T 2/\I T 18=40):=by
 have g:=a;clear a;have ao:(B T 16)=true->I T 13=20/\20 < I T 2/\I T 18=40:=by
  obtain⟨b,c,-,e,-⟩:=g;simp only[AE,AI,zR,w2P] at b c e;intro i;obtain⟨k,E,l,-⟩:=h;have j:=b.1 (c.1 i).2;have o:=e (by omega) (by omega);omega
 exact ao
abbrev wq(T:Tab)(a:Int)(b:Int)(c:List (List U)):Prop:=(B T 16)=true->((a=0/\b=40/\c=L T 14)\/(a=40/\b=80/\I T 2=40/\c=AR ltB (L T 14) 0 40))
abbrev xj(T:Tab):Prop:=(B T 16)=true->I T 13=20/\20 < I T 2/\I T 18=40
theorem jc (z:xg T)(ao:xj T)(F:AJ T (AM (hds 11 [.i,.i,.i,.l]++DN [1,2,7] (AM (AM (hds 3 [.i,.i,.l]++(AM (Ak 0 Ed.ks) HW)) Cs) Fp)) FV))(C:AU T (EB.map En.be))(D:AU T ((Ag Jg [.i,.i,.l] Lw).map En.be)):
  (Jg).owes (Lw.map (Rf.eval T))/\AJ T (hds 19 [.i,.i,.l])/\(wq T (I T 19) (I T 20) (L T 21))/\¬B T 23=true:=by
 refine Ax (nh:=19) (k:=3) (pcn:=23) (aO:=29) (y:=EB) (J:=V0) (nxt:=[.e 20,.e 28,.e 26]) (H:=[.c (.int 0),.e 18,.e 14]) (fv:=[13,1,16,2]) (R:=[.i,.i,.l]) (by kernel_rfl) rfl rfl rfl rfl F (by kernel_rfl) (by kernel_rfl) C (Ai D) (fun s=>wq T (aI s 0) (aI s 1) (aL s 2)) (fun s=>((I T 2)+1 - (aI s 1)).toNat) ?_ ?_
 .show wq T (0:Int) (I T 18) (L T 14);clear F C D;intro a;exact .inl ⟨rfl,(ao a).2.2,rfl⟩
 .intro A p r q;replace q:wq T (I A 19) (I A 20) (L A 21):=q;clear F C D;replace r:AF A EB:=r;have t:=r;clear r;have a4:I A 13=I T 13:=fvI (p 13 (by decide));have Y:I A 1=I T 1:=fvI (p 1 (by decide));have w:B A 16=B T 16:=fvB (p 16 (by decide));have x:I A 2=I T 2:=fvI (p 2 (by decide));clear p
  suffices hz:(B A 23=true->(I A 20).toNat - (I A 19).toNat < 41/\((L A 21)).length=I A 1/\0<=I A 19/\I A 19 < I A 25/\I A 25 < I A 20/\I A 20<=I A 1/\Srt ltB (seg (L A 21) (I A 19).toNat (I A 25).toNat)/\Srt ltB (seg (L A 21) (I A 25).toNat (I A 20).toNat)/\Dst ltB (seg (L A 21) (I A 19).toNat (I A 20).toNat))/\(B A 23=true->(wq T (I A 20) (I A 28) (L A 26)))/\(B A 23=true->((I T 2)+1 - (I A 28)).toNat < ((I T 2)+1 - (I A 20)).toNat) from
   let⟨r0,nx,mz⟩:=hz;⟨⟨r0,trivial⟩,fun g=>⟨nx g,mz g⟩⟩
  refine⟨?_,?_,?_⟩
  .obtain⟨b,c,-,u,-⟩:=t;simp only[AE,AI,zR,w2P] at b c u;intro g;have e:=c.1 g;have a:(B T 16)=true:=by rw[<-w];exact e.1
   obtain⟨M,N,X⟩:=ao a;obtain⟨O,E,P,K⟩:=z;obtain⟨t1,t2,Q,V⟩:=K M N;have o:=b.1 e.2;rw[x] at o;have zz:True:=by have _:=u;trivial
   rcases q a with⟨aJ,h,i⟩|⟨aJ,h,i,W⟩
   .have a6:=u (by omega) (by omega);rw[i,aJ,h,Y,show (I A 25).toNat=20 by omega];have Z:(I T 2).toNat=40:=by omega
    rw[Z] at Q V;exact⟨by decide,t1,by omega,by omega,by omega,by omega,t2,Q,V⟩
   .omega
  .obtain⟨b,c,-,-,v,j,l,-⟩:=t;replace v:L A 26=(AR ltB (L A 21) (I A 19).toNat (I A 20).toNat):=v;simp only[AE,AI,zR,w2P] at b c j l;intro g hq;have e:=c.1 g;have a:(B T 16)=true:=by rw[<-w];exact e.1
   obtain⟨M,N,X⟩:=ao a;obtain⟨O,E,P,K⟩:=z;have o:=b.1 e.2;rw[x] at o;have a2:=j (by omega) (by omega);rcases q a with⟨aJ,h,i⟩|⟨aJ,h,i,W⟩
   .have a3:=l (by omega) (by omega);refine .inr ⟨h,by omega,by omega,?_⟩;rw[v,aJ,h,i];rfl
   .omega
  .obtain⟨b,c,-,-,-,j,l,-⟩:=t;simp only[AE,AI,zR,w2P] at b c j l;intro g;have e:=c.1 g;have a:(B T 16)=true:=by rw[<-w];exact e.1
   obtain⟨M,N,X⟩:=ao a;obtain⟨O,E,P,K⟩:=z;have o:=b.1 e.2;rw[x] at o;have a2:=j (by omega) (by omega);rcases q a with⟨aJ,h,i⟩|⟨aJ,h,i,W⟩
   .have a3:=l (by omega) (by omega);omega
   .omega
theorem VX (h:xg T)(c:AJ T (hds 11 [.i,.i,.i,.l]++DN [1,2,7] (AM (AM (hds 3 [.i,.i,.l]++(AM (Ak 0 Ed.ks) HW)) Cs) Fp)))(a:AU T (Hd.map En.be)):
  (AF T FV)/\((B T 16)=true->I T 13=20/\20 < I T 2/\I T 18=40)/\((Jg).owes (Lw.map (Rf.eval T)))/\(wq T (I T 19) (I T 20) (L T 21))/\(¬B T 23=true)/\(AF T EB)/\(AF T I6)/\AJ T (AM (AM (hds 19 [.i,.i,.l]++(AM (hds 11 [.i,.i,.i,.l]++DN [1,2,7] (AM (AM (hds 3 [.i,.i,.l]++(AM (Ak 0 Ed.ks) HW)) Cs) Fp)) FV)) EB) I6):=by
 unfold Hd at a;rw[ti,ti,ti] at a;have i:=a.left;replace a:=a.right;have j:=a.left;replace a:=a.right;have b:=a.left;replace a:=a.right;obtain⟨g,e⟩:=AN c (by kernel_rfl) i;have ao:=ec h g;obtain⟨u,k,s,t⟩:=jc h ao e b j;have q:=(AN (k.append e) (l:=EB) (by kernel_rfl) b);obtain⟨o,c⟩:=q;clear i b j e k;obtain⟨p,r⟩:=AN c (by kernel_rfl) a;exact⟨g,ao,u,s,t,o,p,r⟩
abbrev wr(T:Tab)(a:Int)(b:List (List U)):Prop:=(a=20/\b=L T 10)\/(a=40/\20 < I T 2/\b=AR ltB (L T 0) 0 (I T 2).toNat)
abbrev xk(T:Tab):Prop:=((L T 10)).length=I T 1/\((I T 2)<=20->L T 10=AR ltB (L T 0) 0 (I T 2).toNat)/\(20 < I T 2->L T 10=AR ltB (AR ltB (L T 0) 0 20) 20 (I T 2).toNat)
abbrev xl(T:Tab):Prop:=20 < I T 2->((L T 10)).length=I T 1/\Srt ltB (seg (L T 10) 0 20)/\Srt ltB (seg (L T 10) 20 (I T 2).toNat)/\Dst ltB (seg (L T 10) 0 (I T 2).toNat)/\AR ltB (L T 10) 0 (I T 2).toNat=AR ltB (L T 0) 0 (I T 2).toNat
theorem jq (Q:xf T)(aM:xk T)(mf:xl T)(P:AJ T (AM (AM (hds 3 [.i,.i,.l]++(AM (Ak 0 Ed.ks) HW)) Cs) Fp))(M:AU T (Hd.map En.be))(N:AU T ((Ag MX [.i,.i,.i,.l] Pj).map En.be)):
  (MX).owes (Pj.map (Rf.eval T))/\AJ T (hds 11 [.i,.i,.i,.l])/\(wr T (I T 13) (L T 14))/\¬B T 24=true:=by
 refine HC (nh:=11) (k:=4) (pcn:=24) (aO:=36) (y:=Hd) (J:=Vk) (nxt:=[.e 19,.e 20,.e 35,.e 34]) (H:=[.e 3,.e 4,.c (.int 20),.e 10]) (fv:=[1,2,7]) (R:=[.i,.i,.i,.l]) (by kernel_rfl) rfl rfl rfl rfl P (by kernel_rfl) M (Ai N) (fun s=>wr T (aI s 2) (aL s 3)) (fun s=>((I T 2) - (aI s 2)).toNat) ?_ ?_
 .show wr T (20:Int) (L T 10);clear P M N;exact .inl ⟨rfl,rfl⟩
 .intro A t a3 hE r;replace r:wr T (I A 13) (L A 14):=r;have bj:I A 1=I T 1:=fvI (t 1 (by decide));have i:I A 2=I T 2:=fvI (t 2 (by decide));have b4:B A 7=B T 7:=fvB (t 7 (by decide));clear t;clear P M N;have g1:(I A 2)<=40/\I A 2=I A 1/\((I A 13)=20\/I A 13=40)/\((I A 13)=20->20 < I A 2->((L A 14)).length=I A 1/\Srt ltB (seg (L A 14) 0 20)/\Srt ltB (seg (L A 14) 20 (I A 2).toNat)/\Dst ltB (seg (L A 14) 0 (I A 2).toNat)):=by
   obtain⟨p0,p1,p2,p3⟩:=Q;rw[i,bj];refine⟨by omega,by omega,?_,fun C O=>?_⟩
   .rcases r with⟨j,c⟩|⟨j,c,v3⟩
    .exact .inl j
    .exact .inr j
   .rcases r with⟨j,c⟩|⟨j,c,v3⟩
    .rw[c];obtain⟨u,v,w,x,V⟩:=mf O;exact⟨u,v,w,x⟩
    .omega
  obtain⟨ab,ao,b0,a5,b7,Z,ad,a4⟩:=VX g1 a3 hE;clear a3 hE;have hN:=Bp a4 (ar:=[.i,.i,.i,.l]) (rs:=[.e 19,.e 20,.e 35,.e 34]) (by kernel_rfl);clear a4;have F0:=ab;clear ab;have z:=Z;clear Z;have D:=ad;clear ad
  suffices hz:(B A 31=true->(I A 2).toNat - (I A 19).toNat < 41/\((L A 21)).length=I A 1/\0<=I A 19/\I A 19 < I A 29/\I A 29 < I A 2/\I A 2<=I A 1/\Srt ltB (seg (L A 21) (I A 19).toNat (I A 29).toNat)/\Srt ltB (seg (L A 21) (I A 29).toNat (I A 2).toNat)/\Dst ltB (seg (L A 21) (I A 19).toNat (I A 2).toNat))/\(B A 24=true->(wr T (I A 35) (L A 34)))/\(B A 24=true->((I T 2) - (I A 35)).toNat < ((I T 2) - (I A 13)).toNat) from
   let⟨r0,nx,mz⟩:=hz;⟨hN,⟨r0,(fun _=>b0),trivial⟩,fun b=>⟨nx b,mz b⟩⟩
  refine⟨?_,?_,?_⟩
  .obtain⟨-,-,a,-⟩:=z;obtain⟨g,o,ag,-⟩:=D;simp only[AE,AI,zN,zR,w2P] at a g o ag;intro b;obtain⟨p,a1⟩:=ag.1 b;have a0:=(a.1 p).1;obtain⟨Y,l,y3⟩:=ao a0;obtain⟨k1,E,k3,k4⟩:=g1;obtain⟨u,v,w,x⟩:=k4 Y l;have a1:=o.1 a1;rcases a5 a0 with⟨aJ,W,e⟩|⟨aJ,W,e,w4⟩
   .have X:=g (by omega) (by omega);rw[e,aJ,show (I A 29).toNat=20 by omega];exact⟨by omega,u,by omega,by omega,by omega,by omega,v,w,x⟩
   .have X:=g (by omega) (by omega);omega
  .obtain⟨-,-,a,-⟩:=z;obtain⟨g,o,-,F,-,K,q,-⟩:=D;replace F:L A 32=(AR ltB (L A 21) (I A 19).toNat (I A 2).toNat):=F;simp only[AE,AI,zN,zR,w2P,zL,zS] at a g o K q;obtain⟨p0,p1,p2,p3⟩:=Q;intro b;have p:=a.1 b;obtain⟨Y,l,y3⟩:=ao p.1;rw[i] at l;have b2:=q (by omega) (by omega);refine .inr ⟨by omega,l,?_⟩;rcases r with⟨j,c⟩|⟨j,c,v3⟩
   .obtain⟨u,v,w,x,V⟩:=mf l;rcases a5 p.1 with⟨aJ,W,e⟩|⟨aJ,W,e,w4⟩
    .have X:=g (by omega) (by omega);rw[K,vC (o.2 (by rw[i];omega)),F,e,aJ,c,i];exact V
    .have X:=g (by omega) (by omega);rw[K,vA (fun h=>by have:=o.1 h;rw[i] at this e;omega),w4,c,<-V];rw[i] at e;rw[e];rfl
   .omega
  .obtain⟨-,-,a,-⟩:=z;obtain⟨-,-,-,-,-,-,q,-⟩:=D;simp only[AE,AI,zN,zR,w2P] at a q;obtain⟨p0,p1,p2,p3⟩:=Q;intro b;have p:=a.1 b;obtain⟨Y,l,y3⟩:=ao p.1;rw[i] at l;have b2:=q (by omega) (by omega);omega
theorem rE (a0:xb T)(al:∀u∈(L T 0),AK AD KB u)(a3:0<=I T 1)(ag:I T 1<=140737488355328)(E:xf T)(M:wp T (I T 3) (I T 4) (L T 5))(D:¬B T 6=true)(aM:xk T)(mf:xl T)(N:wr T (I T 13) (L T 14))(P:¬B T 24=true)(ao:xj T)(a2:wq T (I T 19) (I T 20) (L T 21))(Q:¬B T 23=true)(g1:xg T)(o:AF T Cs)(j:AF T Fp)(q:AF T FV)(p:AF T EB)(r:AF T I6):
  ((L T 14)=(AR ltB (L T 0) 0 (I T 2).toNat))/\
  (B T 7=true->((L T 5)).length=I T 1/\0<=I T 3/\I T 3<=I T 2/\I T 2<=I T 1):=by
 have s:=o;clear o;have Z:=j;clear j;have F:=q;clear q;have H:=p;clear p;have F4:=r;clear r;refine⟨?_,?_⟩
 .obtain⟨-,z,-⟩:=s;obtain⟨t,v,-⟩:=F;obtain⟨-,w,x,-⟩:=H;simp only[AE,AI,zN,zR] at z t v w x;obtain⟨V,W,X,Y⟩:=E;have O:¬B T 16=true:=fun A=>by
   by_cases C:(B T 22)=true
   .exact Q (w.2 ⟨A,C⟩)
   .exact P (x.2 ⟨A,by simpa using C⟩)
  have J:(B T 7)=true:=by
   rw[z];cases K:(B T 6)
   .rfl
   .exact absurd K D
  have a5:¬I T 13 < I T 2:=fun h=>O (v.2 ⟨J,t.2 h⟩);rcases N with⟨g,c⟩|⟨g,c,e⟩
  .rw[c];exact aM.2.1 (by omega)
  .exact e
 .obtain⟨y,-⟩:=s;simp only[AE,zR] at y;obtain⟨V,W,X,Y⟩:=E;intro hp;have n6:¬I T 4<=I T 2:=fun h=>D (y.2 h);rcases M with⟨g,c,e⟩|⟨g,c,e,i⟩|⟨g,c,e,i⟩
  .rw[e];omega
  .rw[i,Dv (uQ _) (by omega)];omega
  .have k:=Dv (lt:=ltB) (l:=L T 0) (a:=0) (b:=20) (by omega) (by omega);rw[i,Dv (by omega) (by omega),k];omega
theorem mL:Ae Try.prog 137 Ed:=by
 refine Aq (l:=[(144,Ge),(145,DW 41)]) BU (by simp only[uA];exact⟨pn,(cH 41),fun _ h=>absurd h (by simp)⟩) qZ (by kernel_rfl) fun T us J w s j ab a=>?_;change us.length=3 at s;obtain⟨⟨r,a0⟩,⟨t,q⟩,-⟩:=ab;replace r:(L T 0).length<=140737488355328:=r;have H:∀u∈(L T 0),AK AD KB u:=fun u hu=>by
  obtain⟨i,Y⟩:=uH.1 hu;exact a0 i u Y
 replace t:0<=I T 1:=t;replace q:I T 1<=140737488355328:=q;have E:aL us 0=L T 0:=inL w s (by decide);have al:aI us 1=I T 1:=inI w s (by decide);have F:aI us 2=I T 2:=inI w s (by decide);have o:((L T 0)).length=I T 1/\I T 2=I T 1/\I T 1<=40/\(20 < I T 1->Dst ltB (L T 0)):=by
  have h:=J (.s "stabB.p0",JZ) (by simp[Ed]);change JZ us at h;unfold JZ at h;simp only[E,al,F] at h;exact h
 clear J;rw[ti,ti,ti,ti,ti,ti] at a;have e:=a.left;replace a:=a.right;have g:=a.left;replace a:=a.right;have c:=a.left;replace a:=a.right;obtain⟨A0,b⟩:=AN j (by kernel_rfl) e;obtain⟨a5,k,M,P⟩:=iM o b c g;have ad:=(AN (k.append b) (l:=Cs) (by kernel_rfl) c);obtain⟨z,j⟩:=ad;clear e c g b k;have e:=a.left;replace a:=a.right;have g:=a.left;replace a:=a.right;have c:=a.left;replace a:=a.right;obtain⟨y,b⟩:=AN j (by kernel_rfl) e;obtain⟨aM,x⟩:=gc r H t q o M P z y;obtain⟨a6,k,N,a3⟩:=jq o aM x b c g;have A:(I T 2)<=40/\I T 2=I T 1/\((I T 13)=20\/I T 13=40)/\((I T 13)=20->20 < I T 2->((L T 14)).length=I T 1/\Srt ltB (seg (L T 14) 0 20)/\Srt ltB (seg (L T 14) 20 (I T 2).toNat)/\Dst ltB (seg (L T 14) 0 (I T 2).toNat)):=by
  have X:I T 1=I T 1:=rfl;have Z:I T 2=I T 2:=rfl;have bm:B T 7=B T 7:=rfl;have K:=N;obtain⟨p0,p1,p2,p3⟩:=o;rw[Z,X];refine⟨by omega,by omega,?_,fun C O=>?_⟩
  .rcases K with⟨p,v⟩|⟨p,v,v3⟩
   .exact .inl p
   .exact .inr p
  .rcases K with⟨p,v⟩|⟨p,v,v3⟩
   .rw[v];obtain⟨t1,t2,t3,t4,t5⟩:=x O;exact⟨t1,t2,t3,t4⟩
   .omega
 obtain⟨V,ao,bs,a2,a4,Q,W,D⟩:=VX A (k.append (CM (fun _ _=>rfl) b)) c;have j:=D.append b;clear e c g b k D;obtain⟨A3,hO⟩:=At (R:=[.l]) (rs:=cw) j (by kernel_rfl) a;obtain⟨q0,r0⟩:=rE r H t q o M P aM x N a3 ao a2 a4 A z y V Q W;refine⟨⟨(fun _=>a6),r0,(fun _=>a5),trivial⟩,hO.trans ?_⟩;exact (lc (by show U.list (L T 14)= .list (MO us);unfold MO;rw[E,F];exact vD U.list q0) rfl)
def LK:List U->List (List U):=fun us=>(A6 ltB (aL us 0))
def If:List U->Prop:=fun us=>((aL us 0)).length<=40/\(20 < ((aL us 0)).length->Dst ltB (aL us 0))
def NO:AZ:={ sh:=[.one (.list [k64,k64,k64,.bool,.str,.str,.bool,k64,k64]),.cst (.fn (.func 101) [] [])],blks:=[],outs:=[(.s "ordB.0",Cw LK)],c:= .ro 1 [k64,k64,k64,.bool,.str,.str,.bool,k64,k64],m':=[],pre:=[(.s "ordB.p0",If)] }
def fl:List En:=[⟨1,.id .l,[.c (.list [])]⟩,
 ⟨2,.id .i,[.c (.int 0)]⟩,
 vl 3 1 0,
 vT 4 3,
 ⟨5,.outL "stabB.0" MO,[.e 3,.e 4,.e 4]⟩]
def XN:List En:=fl
def s8:List ObE:=[⟨none,.pre "stabB.p0" JZ,[.e 3,.e 4,.e 4]⟩,
 ⟨none,.fits 88,[.e 1,.e 0]⟩]
def lW:List Rf:=[.e 5]
theorem rY:NO.sees lW (NO.runC Try.prog NP [(137,Ed)] Aa 3000 20 100)=some ((XN).map En.be,s8.map ObE.be,[]):=by kernel_rfl
theorem sy (o:xb T)(l:∀u∈(L T 0),AK AD KB u)(k:((L T 0)).length<=40/\(20 < ((L T 0)).length->Dst ltB (L T 0)))(j:AF T XN):
  ((L T 5)=(A6 ltB (L T 0)))/\
  (((L T 3)).length=I T 4/\I T 4=I T 4/\I T 4<=40/\(20 < I T 4->Dst ltB (L T 3)))/\
  ((((L T 1)).length+((L T 0)).length)*88<=140737488355328):=by
 have g:=j;clear j;refine⟨?_,?_,?_⟩
 .obtain⟨a,-,c,b,i,-⟩:=g;replace i:L T 5=(AR ltB (L T 3) 0 (I T 4).toNat):=i;simp only[AE,AI,zR,zL,zS] at a c b;have e:(L T 3)=L T 0:=by rw[c,a];rfl
  rw[i,b,e];exact OX (by omega)
 .obtain⟨a,-,c,b,-⟩:=g;simp only[AE,AI,zR,zL,zS] at a c b;have e:(L T 3)=L T 0:=by rw[c,a];rfl
  refine⟨b.symm,rfl,?_,?_⟩
  .rw[b,e];omega
  .rw[b,e];exact fun h=>k.2 (by omega)
 .obtain⟨a,-⟩:=g;simp only[AE,zR,zL,zS] at a;rw[a];show (0+_)*_<=_;omega
theorem pu:Ae Try.prog 100 NO:=by
 refine Nj L9 (l:=[(137,Ed)]) BU (by simp only[uA];exact⟨mL,fun _ h=>absurd h (by simp)⟩) rY (by kernel_rfl) fun T us c q e p j k=>?_;change us.length=1 at e;obtain⟨⟨a,r⟩,-⟩:=j;replace a:(L T 0).length<=140737488355328:=a;have s:∀u∈(L T 0),AK AD KB u:=fun u t=>by
  obtain⟨i,Y⟩:=uH.1 t;exact r i u Y
 have b:aL us 0=L T 0:=inL q e (by decide);have v:((L T 0)).length<=40/\(20 < ((L T 0)).length->Dst ltB (L T 0)):=by
  have h:=c (.s "ordB.p0",If) (by simp[NO]);change If us at h;unfold If at h;simp only[b] at h;exact h
 clear c
 skip
 obtain⟨g,o⟩:=At (R:=[.l]) (rs:=lW) p (by kernel_rfl) k;obtain⟨w,x,ax⟩:=sy a s v g;refine⟨⟨(fun _=>x),(fun _=>ax),trivial⟩,o.trans ?_⟩;exact (lc (by show U.list (L T 5)= .list (LK us);unfold LK;rw[b];exact vD U.list w) rfl)
end
end Go.Eng
end
