/-
  A part of the proof: the evaluator of code and its soundness.
-/
import Derived.Test.YtikbgnmcfncnaaaKB1
import Derived.Test.YtikbgnmcfncnaaaE4
import Derived.Test.YtikbgnmcfncnaaaE5
import Derived.Test.YtikbgnmcfncnaaaKB0
set_option linter.unusedVariables false
set_option linter.unusedSimpArgs false
noncomputable section
namespace Go.Eng
section
open Go Go.Eng Go.Proofs
set_option maxHeartbeats 4000000
set_option maxRecDepth 100000
variable {o:Nat}
theorem xN:(Er (o+1)).sees py ((Er (o+1)).runB Try.prog [(101,NK),(148,N4),(145,Er o)] Bp 3000 20 145)=some ((Fy++((B5 QS [.i,.i] Uo)++(D2++(Ns++((B5 Qh [.i,.l] Uj)++(Ep++(Ix++((B5 P2 [.i,.i] U5)++(E8++(Ug++((B5 Qn [.i,.l] U1)++(Gs++(QX++((B5 QF [.i,.i] UP)++(JD++(cH)))))))))))))))).map En.be,(wo o).map ObE.be,[]):=by kernel_rfl
abbrev bW(T:Tab)(a:Int)(b:Int):Prop:=(I T 3)<=b/\b <=a/\a <=I T 4/\(b=I T 3\/ltB (((L T 0)).getD (b - 1).toNat []) (((L T 0)).getD (I T 2).toNat [])=true)/\(a=I T 4\/¬ltB (((L T 0)).getD a.toNat []) (((L T 0)).getD (I T 2).toNat [])=true)
variable{T:Tab}
theorem rj (bl:I T 1<=140737488355328)(F:(I T 4).toNat - (I T 2).toNat < (o+1)/\((L T 0)).length=I T 1/\0<=I T 2/\I T 2 < I T 3/\I T 3 < I T 4/\I T 4<=I T 1/\Srt ltB (seg (L T 0) (I T 2).toNat (I T 3).toNat)/\Srt ltB (seg (L T 0) (I T 3).toNat (I T 4).toNat)/\Dst ltB (seg (L T 0) (I T 2).toNat (I T 4).toNat))(hS:Ba T (Bh (CA 0 (Er (o+1)).ks) Fy))(hB:Bi T (D2.map En.be))(hH:Bi T ((B5 QS [.i,.i] Uo).map En.be)):
  (QS).owes (Uo.map (Rf.eval T))/\Ba T (hds 7 [.i,.i])/\(bW T (I T 7) (I T 8))/\¬B T 10=true:=by
 refine CK (nh:=7) (k:=2) (pcn:=10) (aF:=40) (b:=D2) (K:=bL) (nxt:=[.e 38,.e 39]) (H:=[.e 4,.e 3]) (fv:=[0,2,6,1]) (A:=[.i,.i]) (by kernel_rfl) rfl rfl rfl rfl hS (by kernel_rfl) (by kernel_rfl) hB (B6 hH) (fun s=>bW T (aI s 0) (aI s 1)) (fun s=>((aI s 0) - (aI s 1)).toNat) ?_ ?_
 .show bW T (I T 4) (I T 3);clear hS hB hH;obtain⟨N,O,P,Q,V,W,j,l,q⟩:=F;exact⟨Aw _,by omega,Aw _,.inl rfl,.inl rfl⟩
 .intro J E x y;replace y:bW T (I J 7) (I J 8):=y;clear hS hB hH;replace x:BV J D2:=x;obtain⟨M,x⟩:=x.cut;have F1:=x;clear x;have a5:=fvL (E 0 (by decide));have a6:=fvI (E 2 (by decide));have bi:=fvB (E 6 (by decide));have bc:=fvI (E 1 (by decide));clear E
  suffices hz:(B J 10=true->0<=I J 2/\I J 2 < I J 1)/\(B J 10=true->0<=I J 14/\I J 14 < I J 1)/\(B J 10=true->(bW T (I J 38) (I J 39)))/\(B J 10=true->((I J 38) - (I J 39)).toNat < ((I J 7) - (I J 8)).toNat) from
   let⟨r0,aB,nx,mz⟩:=hz;⟨⟨r0,aB,trivial⟩,fun i=>⟨nx i,mz i⟩⟩
  refine⟨?_,?_,?_,?_⟩
  .obtain⟨g,a,-,c,d,e,-⟩:=M;simp only[BS,BZ,zR,EK,w2P] at g a c d e;obtain⟨N,O,P,Q,V,W,j,l,q⟩:=F;obtain⟨X,v2,Y,r,t⟩:=y;intro i;have h9:=g.1 (a.1 i).2;have u:=o2' c (by omega);have v:=d.trans (Kn (by omega) (by omega));have ao:(I J 14)=((I J 8)+I J 7) / 2:=by rw[e,v,u]
   clear j l q r t;omega
  .obtain⟨g,a,-,c,d,e,-⟩:=M;simp only[BS,BZ,zR,EK,w2P] at g a c d e;obtain⟨N,O,P,Q,V,W,j,l,q⟩:=F;obtain⟨X,v2,Y,r,t⟩:=y;intro i;have h9:=g.1 (a.1 i).2;have u:=o2' c (by omega);have v:=d.trans (Kn (by omega) (by omega));have ao:(I J 14)=((I J 8)+I J 7) / 2:=by rw[e,v,u]
   clear j l q r t;omega
  .obtain⟨g,a,-,c,d,e,ax,-,a0,-,-,-,-,-,-,a1,-⟩:=M;obtain⟨-,a2,-,-,-,-,-,-,Z,a3,-,z,-,C,D,-⟩:=F1;replace Z:I J 33=(if DC (I J 17) (I J 26)=0 then DC (I J 15) (I J 24) else DC (I J 17) (I J 26)):=Z;simp only[BS,BZ,zR,EK,w2P,zL,zS] at g a c d e ax a0 a1 a2 a3 z C D;obtain⟨N,O,P,Q,V,W,j,l,q⟩:=F;obtain⟨X,v2,Y,r,t⟩:=y;intro i;have h9:=g.1 (a.1 i).2;have u:=o2' c (by omega);have v:=d.trans (Kn (by omega) (by omega));have ao:(I J 14)=((I J 8)+I J 7) / 2:=by rw[e,v,u]
   have a4:(B J 34)=true↔ltB (((L T 0)).getD (I J 14).toNat []) (((L T 0)).getD (I T 2).toNat [])=true:=by
    rw[a3,Z,ax,a0,a1,a2,a5,a6];exact (decide_eq_true_iff (p:=eC _ _ < 0)).symm
   have bb:=o2' z (by omega);rw[C,D];by_cases w:(B J 34)=true
   .rw[BH w,BH w];refine⟨by omega,by omega,Y,.inr ?_,t⟩;rw[show ((I J 36) - 1).toNat=(I J 14).toNat by omega];exact a4.1 w
   .rw[BG w,BG w];exact⟨X,by omega,by omega,r,.inr fun h=>w (a4.2 h)⟩
  .obtain⟨g,a,-,c,d,e,-⟩:=M;obtain⟨-,-,-,-,-,-,-,-,-,-,-,z,-,C,D,-⟩:=F1;simp only[BS,BZ,zR,EK,w2P,zL,zS] at g a c d e z C D;obtain⟨N,O,P,Q,V,W,j,l,q⟩:=F;obtain⟨X,v2,Y,r,t⟩:=y;intro i;have h9:=g.1 (a.1 i).2;have u:=o2' c (by omega);have v:=d.trans (Kn (by omega) (by omega));have ao:(I J 14)=((I J 8)+I J 7) / 2:=by rw[e,v,u]
   have bb:=o2' z (by omega);rw[C,D];clear j l q r t;split<;>omega
abbrev eF(T:Tab):Prop:=(L T 0).length<=140737488355328
theorem nM (k:eF T)(j:∀u∈(L T 0),Bb BT KB u)(l:0<=I T 1)(i:I T 1<=140737488355328)(q:(I T 4).toNat - (I T 2).toNat < (o+1)/\((L T 0)).length=I T 1/\0<=I T 2/\I T 2 < I T 3/\I T 3 < I T 4/\I T 4<=I T 1/\Srt ltB (seg (L T 0) (I T 2).toNat (I T 3).toNat)/\Srt ltB (seg (L T 0) (I T 3).toNat (I T 4).toNat)/\Dst ltB (seg (L T 0) (I T 2).toNat (I T 4).toNat))(b:bW T (I T 7) (I T 8))(p:¬B T 10=true)(c:BV T Fy)(a:BV T D2):
  ((I T 3)<=I T 8/\I T 8<=I T 4):=by
 have e:=c;clear c;obtain⟨g,a⟩:=a.cut;have h:=a;clear a;have d:(I T 3)<=I T 8/\I T 8<=I T 4:=by
  exact⟨b.1,by have:=b.2.1;have:=b.2.2.1;omega⟩
 exact d
abbrev cm(T:Tab)(a:Int)(b:List (List U)):Prop:=(I T 2)<=a/\a <=I T 8 - 1/\b.length=I T 1/\(∀u∈b,Bb BT KB u)/\b=DH (L T 0) (I T 2).toNat ((I T 2).toNat+1) (a.toNat+1)
abbrev eM(T:Tab):Prop:=(I T 3)<=I T 8/\I T 8<=I T 4
theorem qm (b2:∀u∈(L T 0),Bb BT KB u)(ce:I T 1<=140737488355328)(t:(I T 4).toNat - (I T 2).toNat < (o+1)/\((L T 0)).length=I T 1/\0<=I T 2/\I T 2 < I T 3/\I T 3 < I T 4/\I T 4<=I T 1/\Srt ltB (seg (L T 0) (I T 2).toNat (I T 3).toNat)/\Srt ltB (seg (L T 0) (I T 3).toNat (I T 4).toNat)/\Dst ltB (seg (L T 0) (I T 2).toNat (I T 4).toNat))(g8:eM T)(hS:Ba T (Bh (Bh (hds 7 [.i,.i]++(Bh (CA 0 (Er (o+1)).ks) Fy)) D2) Ns))(hB:Bi T (Ep.map En.be))(hH:Bi T ((B5 Qh [.i,.l] Uj).map En.be)):
  (Qh).owes (Uj.map (Rf.eval T))/\Ba T (hds 40 [.i,.l])/\(cm T (I T 40) (L T 41))/\¬B T 44=true:=by
 refine CK (nh:=40) (k:=2) (pcn:=44) (aF:=69) (b:=Ep) (K:=ep) (nxt:=[.e 68,.e 67]) (H:=[.e 2,.e 0]) (fv:=[11,8,1]) (A:=[.i,.l]) (by kernel_rfl) rfl rfl rfl rfl hS (by kernel_rfl) (by kernel_rfl) hB (B6 hH) (fun s=>cm T (aI s 0) (aL s 1)) (fun s=>((I T 8) - (aI s 0)).toNat) ?_ ?_
 .show cm T (I T 2) (L T 0);clear hS hB hH;obtain⟨x,r,y,z,D,F,i,j,l⟩:=t;exact⟨Aw _,by omega,r,b2,(Ss (.inr rfl) (by omega) (AE _) (by omega)).symm⟩
 .intro J Y w q;replace q:cm T (I J 40) (L J 41):=q;clear hS hB hH;replace w:BV J Ep:=w;obtain⟨v,w⟩:=w.cut;have F1:=w;clear w;have ca:=fvB (Y 11 (by decide));have cb:=fvI (Y 8 (by decide));have b9:=fvI (Y 1 (by decide));clear Y
  suffices hz:(B J 44=true->0<=I J 46/\I J 46 < I J 1)/\(B J 44=true->0<=I J 40/\I J 40 < I J 1)/\(B J 44=true->0<=I J 40/\I J 40 < I J 1)/\(B J 44=true->0<=I J 47/\I J 47 < I J 1)/\(B J 44=true->(cm T (I J 68) (L J 67)))/\(B J 44=true->((I T 8) - (I J 68)).toNat < ((I T 8) - (I J 40)).toNat) from
   let⟨r0,aB,aJ,r3,nx,mz⟩:=hz;⟨⟨r0,aB,aJ,r3,trivial⟩,fun h=>⟨nx h,mz h⟩⟩
  refine⟨?_,?_,?_,?_,?_,?_⟩
  .obtain⟨d,e,g,-,a,c,-⟩:=v;simp only[BS,BZ,zR,w2P] at d e g a c;obtain⟨x,r,y,z,D,F,i,j,l⟩:=t;obtain⟨V,W,M,p,N⟩:=q;intro h;have Q:=e.1 (g.1 h).2;have zz:True:=by have _:=a;have _:=c;trivial
   have X:=o2' d (by omega);have Z:=o2' a (by omega);have ab:=o2' c (by omega);clear i j l;omega
  .obtain⟨d,e,g,-,a,c,-⟩:=v;simp only[BS,BZ,zR,w2P] at d e g a c;obtain⟨x,r,y,z,D,F,i,j,l⟩:=t;obtain⟨V,W,M,p,N⟩:=q;intro h;have Q:=e.1 (g.1 h).2;have zz:True:=by have _:=a;have _:=c;trivial
   have X:=o2' d (by omega);have Z:=o2' a (by omega);have ab:=o2' c (by omega);clear i j l;omega
  .obtain⟨d,e,g,-,a,c,-⟩:=v;simp only[BS,BZ,zR,w2P] at d e g a c;obtain⟨x,r,y,z,D,F,i,j,l⟩:=t;obtain⟨V,W,M,p,N⟩:=q;intro h;have Q:=e.1 (g.1 h).2;have zz:True:=by have _:=a;have _:=c;trivial
   have X:=o2' d (by omega);have Z:=o2' a (by omega);have ab:=o2' c (by omega);clear i j l;omega
  .obtain⟨d,e,g,-,a,c,-⟩:=v;simp only[BS,BZ,zR,w2P] at d e g a c;obtain⟨x,r,y,z,D,F,i,j,l⟩:=t;obtain⟨V,W,M,p,N⟩:=q;intro h;have Q:=e.1 (g.1 h).2;have zz:True:=by have _:=a;have _:=c;trivial
   have X:=o2' d (by omega);have Z:=o2' a (by omega);have ab:=o2' c (by omega);clear i j l;omega
  .obtain⟨d,e,g,-,a,c,aw,ax,a0,a1,a2,a3,a4,a5,a6,a7,-⟩:=v;obtain⟨a8,a9,ba,bb,bc,bi,bl,bm,bo,bs,P,-⟩:=F1;simp only[BS,BZ,zR,w2P,zL,zS,uR,zW,zC] at d e g a c aw ax a0 a1 a2 a3 a4 a5 a6 a7 a8 a9 ba bb bc bi bl bm bo bs P;obtain⟨x,r,y,z,D,F,i,j,l⟩:=t;obtain⟨V,W,M,p,N⟩:=q;intro h;have Q:=e.1 (g.1 h).2;have X:=o2' d (by omega);have Z:=o2' a (by omega);have ab:=o2' c (by omega);have b8:=o2' P (by omega);clear i j l;have jA:(I J 40).toNat < ((L J 41)).length:=by omega
   have jB:(I J 40).toNat+1 < ((L J 41)).length:=by omega
   have sA:=p _ (Ca jA);have sB:=p _ (Ca jB);have O:(L J 66)=((L J 41)).set ((I J 40).toNat) (((L J 41)).getD ((I J 40).toNat+1) []):=by
    rw[bo,aw,ax,a0,a1,a2,a3,a4,a5,a6,show (I J 47).toNat=(I J 40).toNat+1 by omega];exact Sr p jA sB
   have k1:∀u∈(L J 66),Bb BT KB u:=by rw[O];exact FY p sB
   have C:(L J 67)=((L J 66)).set ((I J 40).toNat+1) (((L J 41)).getD ((I J 40).toNat) []):=by
    rw[bs,a7,a8,a9,ba,bb,bc,bi,bl,bm,show (I J 46).toNat=(I J 40).toNat+1 by omega];exact Sr k1 (by rw[O,Au];exact jB) sA
   have E:∀u∈(L J 67),Bb BT KB u:=by rw[C];exact FY k1 sA
   have aC:((L J 67)).length=((L J 41)).length:=by rw[C,O,Au,Au]
   refine⟨by omega,by omega,by rw[aC];exact M,E,?_⟩;rw[C,O,xS N (by omega) (by omega),show (I J 68).toNat=(I J 40).toNat+1 by omega]
  .obtain⟨d,e,g,-⟩:=v;obtain⟨-,-,-,-,-,-,-,-,-,-,P,-⟩:=F1;simp only[BS,BZ,zR,w2P] at d e g P;obtain⟨x,r,y,z,D,F,i,j,l⟩:=t;obtain⟨V,W,M,p,N⟩:=q;intro h;have Q:=e.1 (g.1 h).2;have X:=o2' d (by omega);have b8:=o2' P (by omega);clear i j l;omega
abbrev ct(T:Tab)(a:Int)(b:Int):Prop:=(I T 2)<=b/\b <=a/\a <=I T 3/\(b=I T 2\/¬ltB (((L T 0)).getD (I T 3).toNat []) (((L T 0)).getD (b - 1).toNat [])=true)/\(a=I T 3\/ltB (((L T 0)).getD (I T 3).toNat []) (((L T 0)).getD a.toNat [])=true)
theorem rB (bl:I T 1<=140737488355328)(F:(I T 4).toNat - (I T 2).toNat < (o+1)/\((L T 0)).length=I T 1/\0<=I T 2/\I T 2 < I T 3/\I T 3 < I T 4/\I T 4<=I T 1/\Srt ltB (seg (L T 0) (I T 2).toNat (I T 3).toNat)/\Srt ltB (seg (L T 0) (I T 3).toNat (I T 4).toNat)/\Dst ltB (seg (L T 0) (I T 2).toNat (I T 4).toNat))(hS:Ba T (Bh (Bh (hds 40 [.i,.l]++(Bh (Bh (hds 7 [.i,.i]++(Bh (CA 0 (Er (o+1)).ks) Fy)) D2) Ns)) Ep) Ix))(hB:Bi T (E8.map En.be))(hH:Bi T ((B5 P2 [.i,.i] U5).map En.be)):
  (P2).owes (U5.map (Rf.eval T))/\Ba T (hds 73 [.i,.i])/\(ct T (I T 73) (I T 74))/\¬B T 76=true:=by
 refine CK (nh:=73) (k:=2) (pcn:=76) (aF:=106) (b:=E8) (K:=cM) (nxt:=[.e 104,.e 105]) (H:=[.e 3,.e 2]) (fv:=[0,3,72,1]) (A:=[.i,.i]) (by kernel_rfl) rfl rfl rfl rfl hS (by kernel_rfl) (by kernel_rfl) hB (B6 hH) (fun s=>ct T (aI s 0) (aI s 1)) (fun s=>((aI s 0) - (aI s 1)).toNat) ?_ ?_
 .show ct T (I T 3) (I T 2);clear hS hB hH;obtain⟨N,O,P,Q,V,W,j,l,q⟩:=F;exact⟨Aw _,by omega,Aw _,.inl rfl,.inl rfl⟩
 .intro J E w x;replace x:ct T (I J 73) (I J 74):=x;clear hS hB hH;replace w:BV J E8:=w;obtain⟨M,w⟩:=w.cut;have F1:=w;clear w;have a5:=fvL (E 0 (by decide));have a6:=fvI (E 3 (by decide));have bi:=fvB (E 72 (by decide));have bc:=fvI (E 1 (by decide));clear E
  suffices hz:(B J 76=true->0<=I J 80/\I J 80 < I J 1)/\(B J 76=true->0<=I J 3/\I J 3 < I J 1)/\(B J 76=true->(ct T (I J 104) (I J 105)))/\(B J 76=true->((I J 104) - (I J 105)).toNat < ((I J 73) - (I J 74)).toNat) from
   let⟨r0,aB,nx,mz⟩:=hz;⟨⟨r0,aB,trivial⟩,fun i=>⟨nx i,mz i⟩⟩
  refine⟨?_,?_,?_,?_⟩
  .obtain⟨a,c,-,d,e,g,-⟩:=M;simp only[BS,BZ,zR,EK,w2P] at a c d e g;obtain⟨N,O,P,Q,V,W,j,l,q⟩:=F;obtain⟨X,v2,Y,r,t⟩:=x;intro i;have ab:=a.1 (c.1 i).2;have u:=o2' d (by omega);have v:=e.trans (Kn (by omega) (by omega));have ao:(I J 80)=((I J 74)+I J 73) / 2:=by rw[g,v,u]
   clear j l q r t;omega
  .obtain⟨a,c,-,d,e,g,-⟩:=M;simp only[BS,BZ,zR,EK,w2P] at a c d e g;obtain⟨N,O,P,Q,V,W,j,l,q⟩:=F;obtain⟨X,v2,Y,r,t⟩:=x;intro i;have ab:=a.1 (c.1 i).2;have u:=o2' d (by omega);have v:=e.trans (Kn (by omega) (by omega));have ao:(I J 80)=((I J 74)+I J 73) / 2:=by rw[g,v,u]
   clear j l q r t;omega
  .obtain⟨a,c,-,d,e,g,a0,-,a1,-,-,-,-,-,-,a2,-⟩:=M;obtain⟨-,a3,-,-,-,-,-,-,Z,ax,-,-,y,z,D,-⟩:=F1;replace Z:I J 99=(if DC (I J 83) (I J 92)=0 then DC (I J 81) (I J 90) else DC (I J 83) (I J 92)):=Z;simp only[BS,BZ,zR,EK,w2P,zL,zS] at a c d e g a0 a1 a2 a3 ax y z D;obtain⟨N,O,P,Q,V,W,j,l,q⟩:=F;obtain⟨X,v2,Y,r,t⟩:=x;intro i;have ab:=a.1 (c.1 i).2;have u:=o2' d (by omega);have v:=e.trans (Kn (by omega) (by omega));have ao:(I J 80)=((I J 74)+I J 73) / 2:=by rw[g,v,u]
   have a4:(B J 100)=true↔ltB (((L T 0)).getD (I T 3).toNat []) (((L T 0)).getD (I J 80).toNat [])=true:=by
    rw[ax,Z,a0,a1,a2,a3,a5,a6];exact (decide_eq_true_iff (p:=eC _ _ < 0)).symm
   have bb:=o2' y (by omega);rw[z,D];by_cases h:(B J 100)=true
   .rw[BH h,BH h];exact⟨X,by omega,by omega,r,.inr (a4.1 h)⟩
   .rw[BG h,BG h];refine⟨by omega,by omega,Y,.inr ?_,t⟩;rw[show ((I J 103) - 1).toNat=(I J 80).toNat by omega];exact fun C=>h (a4.2 C)
  .obtain⟨a,c,-,d,e,g,-⟩:=M;obtain⟨-,-,-,-,-,-,-,-,-,-,-,-,y,z,D,-⟩:=F1;simp only[BS,BZ,zR,EK,w2P,zL,zS] at a c d e g y z D;obtain⟨N,O,P,Q,V,W,j,l,q⟩:=F;obtain⟨X,v2,Y,r,t⟩:=x;intro i;have ab:=a.1 (c.1 i).2;have u:=o2' d (by omega);have v:=e.trans (Kn (by omega) (by omega));have ao:(I J 80)=((I J 74)+I J 73) / 2:=by rw[g,v,u]
   have bb:=o2' y (by omega);rw[z,D];clear j l q r t;split<;>omega
theorem oy (x:eF T)(w:∀u∈(L T 0),Bb BT KB u)(A:0<=I T 1)(v:I T 1<=140737488355328)(F:(I T 4).toNat - (I T 2).toNat < (o+1)/\((L T 0)).length=I T 1/\0<=I T 2/\I T 2 < I T 3/\I T 3 < I T 4/\I T 4<=I T 1/\Srt ltB (seg (L T 0) (I T 2).toNat (I T 3).toNat)/\Srt ltB (seg (L T 0) (I T 3).toNat (I T 4).toNat)/\Dst ltB (seg (L T 0) (I T 2).toNat (I T 4).toNat))(y:bW T (I T 7) (I T 8))(C:¬B T 10=true)(t:eM T)(z:cm T (I T 40) (L T 41))(D:¬B T 44=true)(d:ct T (I T 73) (I T 74))(E:¬B T 76=true)(e:BV T Fy)(a:BV T D2)(b:BV T Ep)(g:BV T Ix)(c:BV T E8):
  ((I T 2)<=I T 74/\I T 74<=I T 3):=by
 have i:=e;clear e;obtain⟨j,a⟩:=a.cut;have k:=a;clear a;obtain⟨l,b⟩:=b.cut;have p:=b;clear b;have q:=g;clear g;obtain⟨r,c⟩:=c.cut;have s:=c;clear c;have h:(I T 2)<=I T 74/\I T 74<=I T 3:=by
  exact⟨d.1,by have:=d.2.1;have:=d.2.2.1;omega⟩
 exact h
abbrev cw(T:Tab)(a:Int)(b:List (List U)):Prop:=(I T 74)<=a/\a <=I T 3/\b.length=I T 1/\(∀u∈b,Bb BT KB u)/\b=DH (L T 0) a.toNat (I T 3).toNat ((I T 3).toNat+1)
abbrev eO(T:Tab):Prop:=(I T 2)<=I T 74/\I T 74<=I T 3
theorem ql (b0:∀u∈(L T 0),Bb BT KB u)(cb:I T 1<=140737488355328)(r:(I T 4).toNat - (I T 2).toNat < (o+1)/\((L T 0)).length=I T 1/\0<=I T 2/\I T 2 < I T 3/\I T 3 < I T 4/\I T 4<=I T 1/\Srt ltB (seg (L T 0) (I T 2).toNat (I T 3).toNat)/\Srt ltB (seg (L T 0) (I T 3).toNat (I T 4).toNat)/\Dst ltB (seg (L T 0) (I T 2).toNat (I T 4).toNat))(ca:eO T)(hS:Ba T (Bh (Bh (hds 73 [.i,.i]++(Bh (Bh (hds 40 [.i,.l]++(Bh (Bh (hds 7 [.i,.i]++(Bh (CA 0 (Er (o+1)).ks) Fy)) D2) Ns)) Ep) Ix)) E8) Ug))(Z:Bi T (Gs.map En.be))(hH:Bi T ((B5 Qn [.i,.l] U1).map En.be)):
  (Qn).owes (U1.map (Rf.eval T))/\Ba T (hds 106 [.i,.l])/\(cw T (I T 106) (L T 107))/\¬B T 109=true:=by
 refine CK (nh:=106) (k:=2) (pcn:=109) (aF:=134) (b:=Gs) (K:=aX) (nxt:=[.e 133,.e 132]) (H:=[.e 3,.e 0]) (fv:=[77,74,1]) (A:=[.i,.l]) (by kernel_rfl) rfl rfl rfl rfl hS (by kernel_rfl) (by kernel_rfl) Z (B6 hH) (fun s=>cw T (aI s 0) (aL s 1)) (fun s=>((aI s 0)).toNat) ?_ ?_
 .show cw T (I T 3) (L T 0);clear hS Z hH;obtain⟨w,q,x,y,z,D,h,i,j⟩:=r;exact⟨by omega,Aw _,q,b0,(Ss (.inl rfl) (AE _) (by omega) (by omega)).symm⟩
 .intro J W v p;replace p:cw T (I J 106) (L J 107):=p;clear hS Z hH;replace v:BV J Gs:=v;obtain⟨t,v⟩:=v.cut;have F1:=v;clear v;have b9:=fvB (W 77 (by decide));have b8:=fvI (W 74 (by decide));have b7:=fvI (W 1 (by decide));clear W
  suffices hz:(B J 109=true->0<=I J 111/\I J 111 < I J 1)/\(B J 109=true->0<=I J 106/\I J 106 < I J 1)/\(B J 109=true->0<=I J 106/\I J 106 < I J 1)/\(B J 109=true->0<=I J 112/\I J 112 < I J 1)/\(B J 109=true->(cw T (I J 133) (L J 132)))/\(B J 109=true->((I J 133)).toNat < ((I J 106)).toNat) from
   let⟨r0,aB,aJ,r3,nx,mz⟩:=hz;⟨⟨r0,aB,aJ,r3,trivial⟩,fun g=>⟨nx g,mz g⟩⟩
  refine⟨?_,?_,?_,?_,?_,?_⟩
  .obtain⟨d,e,-,a,c,-⟩:=t;simp only[BS,BZ,zR,w2P] at d e a c;obtain⟨w,q,x,y,z,D,h,i,j⟩:=r;obtain⟨Q,V,F,l,M⟩:=p;intro g;have P:=d.1 (e.1 g).2;have zz:True:=by have _:=a;have _:=c;trivial
   have X:=o2' a (by omega);have Y:=o2' c (by omega);clear h i j;omega
  .obtain⟨d,e,-,a,c,-⟩:=t;simp only[BS,BZ,zR,w2P] at d e a c;obtain⟨w,q,x,y,z,D,h,i,j⟩:=r;obtain⟨Q,V,F,l,M⟩:=p;intro g;have P:=d.1 (e.1 g).2;have zz:True:=by have _:=a;have _:=c;trivial
   have X:=o2' a (by omega);have Y:=o2' c (by omega);clear h i j;omega
  .obtain⟨d,e,-,a,c,-⟩:=t;simp only[BS,BZ,zR,w2P] at d e a c;obtain⟨w,q,x,y,z,D,h,i,j⟩:=r;obtain⟨Q,V,F,l,M⟩:=p;intro g;have P:=d.1 (e.1 g).2;have zz:True:=by have _:=a;have _:=c;trivial
   have X:=o2' a (by omega);have Y:=o2' c (by omega);clear h i j;omega
  .obtain⟨d,e,-,a,c,-⟩:=t;simp only[BS,BZ,zR,w2P] at d e a c;obtain⟨w,q,x,y,z,D,h,i,j⟩:=r;obtain⟨Q,V,F,l,M⟩:=p;intro g;have P:=d.1 (e.1 g).2;have zz:True:=by have _:=a;have _:=c;trivial
   have X:=o2' a (by omega);have Y:=o2' c (by omega);clear h i j;omega
  .obtain⟨d,e,-,a,c,an,ao,aw,ax,a0,a1,a2,a3,a4,a5,a6,-⟩:=t;obtain⟨a7,a8,a9,ba,bb,bc,bi,bl,bm,N,-⟩:=F1;simp only[BS,BZ,zR,w2P,zL,zS,uR,zW,zC] at d e a c an ao aw ax a0 a1 a2 a3 a4 a5 a6 a7 a8 a9 ba bb bc bi bl bm N;obtain⟨w,q,x,y,z,D,h,i,j⟩:=r;obtain⟨Q,V,F,l,M⟩:=p;intro g;have P:=d.1 (e.1 g).2;have X:=o2' a (by omega);have Y:=o2' c (by omega);have b6:=o2' N (by omega);clear h i j;have jA:(I J 106).toNat < ((L J 107)).length:=by omega
   have jB:(I J 106).toNat - 1 < ((L J 107)).length:=by omega
   have sA:=l _ (Ca jA);have sB:=l _ (Ca jB);have O:(L J 131)=((L J 107)).set ((I J 106).toNat) (((L J 107)).getD ((I J 106).toNat - 1) []):=by
    rw[bl,an,ao,aw,ax,a0,a1,a2,a3,a4,show (I J 112).toNat=(I J 106).toNat - 1 by omega];exact Sr l jA sB
   have k1:∀u∈(L J 131),Bb BT KB u:=by rw[O];exact FY l sB
   have C:(L J 132)=((L J 131)).set ((I J 106).toNat - 1) (((L J 107)).getD ((I J 106).toNat) []):=by
    rw[bm,a5,a6,a7,a8,a9,ba,bb,bc,bi,show (I J 111).toNat=(I J 106).toNat - 1 by omega];exact Sr k1 (by rw[O,Au];exact jB) sA
   have E:∀u∈(L J 132),Bb BT KB u:=by rw[C];exact FY k1 sA
   have aC:((L J 132)).length=((L J 107)).length:=by rw[C,O,Au,Au]
   refine⟨by omega,by omega,by rw[aC];exact F,E,?_⟩;rw[C,O,ss M (by omega) (by omega) (by omega),show (I J 133).toNat=(I J 106).toNat - 1 by omega]
  .obtain⟨d,e,-⟩:=t;obtain⟨-,-,-,-,-,-,-,-,-,N,-⟩:=F1;simp only[BS,BZ,zR,w2P] at d e N;obtain⟨w,q,x,y,z,D,h,i,j⟩:=r;obtain⟨Q,V,F,l,M⟩:=p;intro g;have P:=d.1 (e.1 g).2;have b6:=o2' N (by omega);clear h i j;omega
theorem pd (ao:eF T)(an:∀u∈(L T 0),Bb BT KB u)(a2:0<=I T 1)(al:I T 1<=140737488355328)(E:(I T 4).toNat - (I T 2).toNat < (o+1)/\((L T 0)).length=I T 1/\0<=I T 2/\I T 2 < I T 3/\I T 3 < I T 4/\I T 4<=I T 1/\Srt ltB (seg (L T 0) (I T 2).toNat (I T 3).toNat)/\Srt ltB (seg (L T 0) (I T 3).toNat (I T 4).toNat)/\Dst ltB (seg (L T 0) (I T 2).toNat (I T 4).toNat))(aw:bW T (I T 7) (I T 8))(a3:¬B T 10=true)(g8:eM T)(ax:cm T (I T 40) (L T 41))(a4:¬B T 44=true)(a0:ct T (I T 73) (I T 74))(a5:¬B T 76=true)(ad:eO T)(a1:cw T (I T 106) (L T 107))(a6:¬B T 109=true)(j:BV T Fy)(a:BV T D2)(b:BV T Ep)(k:BV T Ix)(c:BV T E8)(d:BV T Gs)(l:BV T QX):
  (2*I T 137<=I T 2+I T 4/\I T 2+I T 4 < 2*I T 137+2/\I T 138=I T 137+I T 3/\I T 145=I T 138 - 1/\(((I T 137) < I T 3/\I T 143=I T 137/\I T 144=I T 138 - (I T 4))\/((I T 3)<=I T 137/\I T 143=I T 3/\I T 144=I T 2))):=by
 have N:=j;clear j;obtain⟨O,a⟩:=a.cut;have P:=a;clear a;obtain⟨Q,b⟩:=b.cut;have V:=b;clear b;have W:=k;clear k;obtain⟨X,c⟩:=c.cut;have Y:=c;clear c;obtain⟨Z,d⟩:=d.cut;have F9:=d;clear d;have w:=l;clear l;have x:2*I T 137<=I T 2+I T 4/\I T 2+I T 4 < 2*I T 137+2/\I T 138=I T 137+I T 3/\I T 145=I T 138 - 1/\(((I T 137) < I T 3/\I T 143=I T 137/\I T 144=I T 138 - (I T 4))\/((I T 3)<=I T 137/\I T 143=I T 3/\I T 144=I T 2)):=by
  obtain⟨-,p,q,r,s,e,-,t,-,g,i,v,-⟩:=w;simp only[BS,BZ,zR,EK,w2P,zL,zS] at p q r s e t g i v;obtain⟨p0,p1,p2,p3,p4,p5,y,A,D⟩:=E;clear y A D;have F:=o2' p (by omega);have H:=q.trans (Kn (by omega) (by omega));have bi:(I T 137)=((I T 2)+I T 4) / 2:=by rw[r,H,F]
  have J:=o2' s (by omega);have K:=o2' t (by omega);have M:=o2' v (by omega);refine⟨by omega,by omega,J,M,?_⟩;by_cases h:(B T 139)=true
  .rw[g,i,BH h,BH h];exact .inl ⟨e.1 h,rfl,K⟩
  .rw[g,i,BG h,BG h];have C:¬I T 137 < I T 3:=fun z=>h (e.2 z);exact .inr ⟨by omega,rfl,rfl⟩
 exact x
abbrev cz(T:Tab)(a:Int)(b:Int):Prop:=(I T 144)<=b/\b <=a/\a <=I T 143/\(b=I T 144\/¬ltB (((L T 0)).getD ((I T 145) - (b - 1)).toNat []) (((L T 0)).getD (b - 1).toNat [])=true)/\(a=I T 143\/ltB (((L T 0)).getD ((I T 145) -a).toNat []) (((L T 0)).getD a.toNat [])=true)
abbrev eU(T:Tab):Prop:=2*I T 137<=I T 2+I T 4/\I T 2+I T 4 < 2*I T 137+2/\I T 138=I T 137+I T 3/\I T 145=I T 138 - 1/\(((I T 137) < I T 3/\I T 143=I T 137/\I T 144=I T 138 - (I T 4))\/((I T 3)<=I T 137/\I T 143=I T 3/\I T 144=I T 2))
theorem tJ (b3:I T 1<=140737488355328)(N:(I T 4).toNat - (I T 2).toNat < (o+1)/\((L T 0)).length=I T 1/\0<=I T 2/\I T 2 < I T 3/\I T 3 < I T 4/\I T 4<=I T 1/\Srt ltB (seg (L T 0) (I T 2).toNat (I T 3).toNat)/\Srt ltB (seg (L T 0) (I T 3).toNat (I T 4).toNat)/\Dst ltB (seg (L T 0) (I T 2).toNat (I T 4).toNat))(F:eU T)(hS:Ba T (Bh (Bh (hds 106 [.i,.l]++(Bh (Bh (hds 73 [.i,.i]++(Bh (Bh (hds 40 [.i,.l]++(Bh (Bh (hds 7 [.i,.i]++(Bh (CA 0 (Er (o+1)).ks) Fy)) D2) Ns)) Ep) Ix)) E8) Ug)) Gs) QX))(hB:Bi T (JD.map En.be))(hH:Bi T ((B5 QF [.i,.i] UP).map En.be)):
  (QF).owes (UP.map (Rf.eval T))/\Ba T (hds 146 [.i,.i])/\(cz T (I T 146) (I T 147))/\¬B T 149=true:=by
 refine CK (nh:=146) (k:=2) (pcn:=149) (aF:=180) (b:=JD) (K:=ac) (nxt:=[.e 178,.e 179]) (H:=[.e 143,.e 144]) (fv:=[0,145,134,1]) (A:=[.i,.i]) (by kernel_rfl) rfl rfl rfl rfl hS (by kernel_rfl) (by kernel_rfl) hB (B6 hH) (fun s=>cz T (aI s 0) (aI s 1)) (fun s=>((aI s 0) - (aI s 1)).toNat) ?_ ?_
 .show cz T (I T 143) (I T 144);clear hS hB hH;obtain⟨X,Y,Z,p3,p4,p5,l,q,r⟩:=N;obtain⟨P,aw,Q,V,W⟩:=F;exact⟨Aw _,by omega,Aw _,.inl rfl,.inl rfl⟩
 .intro J M x y;replace y:cz T (I J 146) (I J 147):=y;clear hS hB hH;replace x:BV J JD:=x;obtain⟨O,x⟩:=x.cut;have F1:=x;clear x;have bi:=fvL (M 0 (by decide));have bl:=fvI (M 145 (by decide));have b2:=fvB (M 134 (by decide));have b1:=fvI (M 1 (by decide));clear M
  suffices hz:(B J 149=true->0<=I J 153/\I J 153 < I J 1)/\(B J 149=true->0<=I J 154/\I J 154 < I J 1)/\(B J 149=true->(cz T (I J 178) (I J 179)))/\(B J 149=true->((I J 178) - (I J 179)).toNat < ((I J 146) - (I J 147)).toNat) from
   let⟨r0,aB,nx,mz⟩:=hz;⟨⟨r0,aB,trivial⟩,fun j=>⟨nx j,mz j⟩⟩
  refine⟨?_,?_,?_,?_⟩
  .obtain⟨c,d,-,e,g,i,a,-⟩:=O;simp only[BS,BZ,zR,EK,w2P] at c d e g i a;obtain⟨X,Y,Z,p3,p4,p5,l,q,r⟩:=N;obtain⟨P,aw,Q,V,W⟩:=F;obtain⟨v1,v2,v3,t,u⟩:=y;intro j;have a0:=c.1 (d.1 j).2;have zz:True:=by have _:=a;trivial
   have v:=o2' e (by omega);have w:=g.trans (Kn (by omega) (by omega));have a6:(I J 153)=((I J 147)+I J 146) / 2:=by rw[i,w,v]
   have ao:=o2' a (by omega);clear l q r t u;omega
  .obtain⟨c,d,-,e,g,i,a,-⟩:=O;simp only[BS,BZ,zR,EK,w2P] at c d e g i a;obtain⟨X,Y,Z,p3,p4,p5,l,q,r⟩:=N;obtain⟨P,aw,Q,V,W⟩:=F;obtain⟨v1,v2,v3,t,u⟩:=y;intro j;have a0:=c.1 (d.1 j).2;have zz:True:=by have _:=a;trivial
   have v:=o2' e (by omega);have w:=g.trans (Kn (by omega) (by omega));have a6:(I J 153)=((I J 147)+I J 146) / 2:=by rw[i,w,v]
   have ao:=o2' a (by omega);clear l q r t u;omega
  .obtain⟨c,d,-,e,g,i,a,a8,-,a9,-⟩:=O;obtain⟨ba,-,bb,-,-,-,-,-,-,ax,bc,-,-,z,D,E,-⟩:=F1;replace ax:I J 173=(if DC (I J 157) (I J 166)=0 then DC (I J 155) (I J 164) else DC (I J 157) (I J 166)):=ax;simp only[BS,BZ,zR,EK,w2P,zL,zS] at c d e g i a a8 a9 ba bb bc z D E;obtain⟨X,Y,Z,p3,p4,p5,l,q,r⟩:=N;obtain⟨P,aw,Q,V,W⟩:=F;obtain⟨v1,v2,v3,t,u⟩:=y;intro j;have a0:=c.1 (d.1 j).2;have v:=o2' e (by omega);have w:=g.trans (Kn (by omega) (by omega));have a6:(I J 153)=((I J 147)+I J 146) / 2:=by rw[i,w,v]
   have ao:=o2' a (by omega);have a4:(B J 174)=true↔ltB (((L T 0)).getD (I J 154).toNat []) (((L T 0)).getD (I J 153).toNat [])=true:=by
    rw[bc,ax,a8,a9,ba,bb,bi];exact (decide_eq_true_iff (p:=eC _ _ < 0)).symm
   have bx:=o2' z (by omega);rw[D,E];rw[ao,bl] at a4;by_cases h:(B J 174)=true
   .rw[BH h,BH h];exact⟨v1,by omega,by omega,t,.inr (a4.1 h)⟩
   .rw[BG h,BG h];refine⟨by omega,by omega,v3,.inr ?_,u⟩;rw[show (I J 177) - 1=(I J 153) by omega];exact fun C=>h (a4.2 C)
  .obtain⟨c,d,-,e,g,i,a,-⟩:=O;obtain⟨-,-,-,-,-,-,-,-,-,-,-,-,-,z,D,E,-⟩:=F1;simp only[BS,BZ,zR,EK,w2P,zL,zS] at c d e g i a z D E;obtain⟨X,Y,Z,p3,p4,p5,l,q,r⟩:=N;obtain⟨P,aw,Q,V,W⟩:=F;obtain⟨v1,v2,v3,t,u⟩:=y;intro j;have a0:=c.1 (d.1 j).2;have v:=o2' e (by omega);have w:=g.trans (Kn (by omega) (by omega));have a6:(I J 153)=((I J 147)+I J 146) / 2:=by rw[i,w,v]
   have ao:=o2' a (by omega);have bx:=o2' z (by omega);rw[D,E];clear l q r t u;split<;>omega
theorem xW (hi:eF T)(hh:∀u∈(L T 0),Bb BT KB u)(hj:0<=I T 1)(hg:I T 1<=140737488355328)(D:(I T 4).toNat - (I T 2).toNat < (o+1)/\((L T 0)).length=I T 1/\0<=I T 2/\I T 2 < I T 3/\I T 3 < I T 4/\I T 4<=I T 1/\Srt ltB (seg (L T 0) (I T 2).toNat (I T 3).toNat)/\Srt ltB (seg (L T 0) (I T 3).toNat (I T 4).toNat)/\Dst ltB (seg (L T 0) (I T 2).toNat (I T 4).toNat))(e4:bW T (I T 7) (I T 8))(f2:¬B T 10=true)(g8:eM T)(e7:cm T (I T 40) (L T 41))(f3:¬B T 44=true)(e8:ct T (I T 73) (I T 74))(f4:¬B T 76=true)(hb:eO T)(fd:cw T (I T 106) (L T 107))(f5:¬B T 109=true)(g4:eU T)(fn:cz T (I T 146) (I T 147))(f6:¬B T 149=true)(A0:BV T Fy)(B0:BV T D2)(B1:BV T Ep)(A2:BV T Ix)(B2:BV T E8)(B3:BV T Gs)(A4:BV T QX)(B4:BV T JD)(A5:BV T cH):
  ((L T 207)=(Br ltB (L T 0) (I T 2).toNat (I T 4).toNat))/\
  (B T 201=true->(I T 4).toNat - (I T 137).toNat < o/\((L T 196)).length=I T 1/\0<=I T 137/\I T 137 < I T 180/\I T 180 < I T 4/\I T 4<=I T 1/\Srt ltB (seg (L T 196) (I T 137).toNat (I T 180).toNat)/\Srt ltB (seg (L T 196) (I T 180).toNat (I T 4).toNat)/\Dst ltB (seg (L T 196) (I T 137).toNat (I T 4).toNat))/\
  (B T 193=true->(I T 137).toNat - (I T 2).toNat < o/\((L T 188)).length=I T 1/\0<=I T 2/\I T 2 < I T 147/\I T 147 < I T 137/\I T 137<=I T 1/\Srt ltB (seg (L T 188) (I T 2).toNat (I T 147).toNat)/\Srt ltB (seg (L T 188) (I T 147).toNat (I T 137).toNat)/\Dst ltB (seg (L T 188) (I T 2).toNat (I T 137).toNat))/\
  (B T 185=true->((L T 0)).length=I T 1/\0<=I T 147/\I T 147 < I T 3/\I T 3 < I T 180/\I T 180<=I T 1):=by
 have F0:=A0;clear A0;obtain⟨F1,B0⟩:=B0.cut;have F2:=B0;clear B0;obtain⟨F3,B1⟩:=B1.cut;have F4:=B1;clear B1;have F5:=A2;clear A2;obtain⟨F6,B2⟩:=B2.cut;have F7:=B2;clear B2;obtain⟨F8,B3⟩:=B3.cut;have F9:=B3;clear B3;have c4:=A4;clear A4;obtain⟨bl,B4⟩:=B4.cut;have g0:=B4;clear B4;obtain⟨O,A5⟩:=A5.cut;have bt:=A5;clear A5;have N:(B T 134)=true->B T 150=true/\I T 2<=I T 147/\I T 147<=I T 3/\I T 3<=I T 180/\I T 180<=I T 4/\I T 137+I T 3=I T 147+I T 180/\I T 2 < I T 137/\I T 137 < I T 4/\((I T 147)=I T 2\/I T 180=I T 4\/¬ltB (((L T 0)).getD (I T 180).toNat []) (((L T 0)).getD ((I T 147).toNat - 1) [])=true)/\((I T 180)=I T 3\/I T 147=I T 3\/ltB (((L T 0)).getD ((I T 180).toNat - 1) []) (((L T 0)).getD (I T 147).toNat [])=true):=by
  obtain⟨e5,e6,-⟩:=F0;obtain⟨t,al,an,-⟩:=F5;obtain⟨P,-⟩:=c4;obtain⟨b2,c8,i,-⟩:=bl;obtain⟨c9,-⟩:=O;simp only[BS,BZ,zN,zR,w2P] at e5 e6 t al an P b2 c8 i c9;obtain⟨J,w,z,K,M,A,r,p,j⟩:=D;obtain⟨g1,aw,g3,g5,g6⟩:=g4;obtain⟨v1,v2,v3,d,g⟩:=fn;intro c;have e0:¬I T 147 < I T 146:=fun h=>f6 (c8.2 ⟨c,b2.2 h⟩);have k:=i.2 ⟨c,by cases q:(B T 148);rfl;exact absurd (b2.1 q) e0⟩;obtain⟨a0,v⟩:=P.1 c;have ad:(I T 147)=I T 146:=by omega
  have n6:¬I T 5=1:=fun h=>by rw[e6.2 h] at t;simp at t;rw[t] at a0;cases a0
  have hm:¬I T 70=1:=fun h=>by rw[an.2 h] at v;cases v
  have x5:=o2' e5 (by omega);have gr:=o2' al (by omega);have ho:=o2' c9 (by omega);refine⟨k,by omega,by omega,by omega,by omega,by omega,by omega,by omega,?_,?_⟩
  .rcases d with d|d
   .omega
   .refine .inr (.inr ?_);rw[show (I T 180).toNat=((I T 145) - ((I T 147) - 1)).toNat by omega,show (I T 147).toNat - 1=((I T 147) - 1).toNat by omega];exact d
  .rcases g with g|g
   .omega
   .refine .inr (.inr ?_);rw[show (I T 180).toNat - 1=((I T 145) - (I T 146)).toNat by omega,ad];exact g
 have sg:(B T 134)=true->((L T 188)).length=((L T 0)).length/\L T 188=DH (L T 0) (I T 147).toNat (I T 3).toNat (I T 180).toNat:=by
  obtain⟨-,Q,-,V,E,-,b3,-,dd,-⟩:=O;replace b3:L T 186=(Co (L T 0) (rtS (I T 147).toNat (I T 3).toNat (I T 180).toNat)):=b3;simp only[BS,BZ,zR,zL,zS] at Q V E dd;obtain⟨J,w,z,K,M,A,r,p,j⟩:=D;intro c;obtain⟨k,q1,q2,q3,q4,q5,-⟩:=N c;have hr:(L T 188)=DH (L T 0) (I T 147).toNat (I T 3).toNat (I T 180).toNat:=by
   rw[dd];by_cases h:(B T 184)=true
   .rw[BH h,b3];exact ve (by omega) (by omega) (by omega)
   .rw[BG h];refine (Ss ?_ (by omega) (by omega) (by omega)).symm;by_cases C:(I T 147) < I T 3
    .by_cases h3:(I T 3) < I T 180
     .exact absurd (E.2 ⟨Q.2 C,V.2 h3⟩) h
     .omega
    .omega
  exact⟨by rw[hr,Gd]<;>omega,hr⟩
 have sh:(B T 134)=true->L T 196=Br ltB ((L T 188)) (I T 2).toNat (I T 137).toNat/\L T 204=Br ltB ((L T 196)) (I T 137).toNat (I T 4).toNat/\(Srt ltB (seg ((L T 188)) (I T 2).toNat (I T 147).toNat)/\Srt ltB (seg ((L T 188)) (I T 147).toNat (I T 137).toNat)/\Dst ltB (seg ((L T 188)) (I T 2).toNat (I T 137).toNat))/\((L T 196)).length=I T 1/\Srt ltB (seg ((L T 196)) (I T 137).toNat (I T 180).toNat)/\Srt ltB (seg ((L T 196)) (I T 180).toNat (I T 4).toNat)/\Dst ltB (seg ((L T 196)) (I T 137).toNat (I T 4).toNat):=by
  obtain⟨-,-,-,-,-,-,-,-,-,W,-,X,F,-,b4,-⟩:=O;obtain⟨di,Y,-,Z,H,-,b5,-,dk,-⟩:=bt;replace b4:L T 194=(Br ltB (L T 188) (I T 2).toNat (I T 137).toNat):=b4;replace b5:L T 202=(Br ltB (L T 196) (I T 137).toNat (I T 4).toNat):=b5;simp only[BS,BZ,zR,zL,zS] at W X F di Y Z H dk;obtain⟨J,w,z,K,M,A,r,p,j⟩:=D;intro c;obtain⟨k,q1,q2,q3,q4,q5,q6,q7,-⟩:=N c;obtain⟨aB,aJ⟩:=sg c;obtain⟨t1,t2,t3,t4,t5,t6,t7⟩:=ui (lt:=ltB) (l:=L T 0) (a:=(I T 2).toNat) (s:=(I T 147).toNat) (m:=(I T 3).toNat) (e:=(I T 180).toNat) (b:=(I T 4).toNat) (aY:=(I T 137).toNat) (by omega) (by omega) (by omega) (by omega) (by omega) (by omega) r p j aJ;have ce:(L T 196)=Br ltB ((L T 188)) (I T 2).toNat (I T 137).toNat:=by
   rw[di];by_cases h:(B T 192)=true
   .rw[BH h,b4]
   .rw[BG h];refine (dg wkB ?_ (by omega) t2 t3 t4).symm;by_cases C:(I T 2) < I T 147
    .by_cases h3:(I T 147) < I T 137
     .exact absurd (F.2 ⟨W.2 C,X.2 h3⟩) h
     .omega
    .omega
  have hk:((L T 196)).length=((L T 188)).length:=by rw[ce];exact HW (by omega) (by omega)
  have sq:∀x y:Nat,(I T 137).toNat<=x->x<=y->seg ((L T 196)) x y=seg ((L T 188)) x y:=fun x y hx hy=>by
   rw[ce];exact tv (by omega) (by omega) hx hy
  have u5:Srt ltB (seg ((L T 196)) (I T 137).toNat (I T 180).toNat):=by rw[sq _ _ (AE _) (by omega)];exact t5
  have u6:Srt ltB (seg ((L T 196)) (I T 180).toNat (I T 4).toNat):=by rw[sq _ _ (by omega) (by omega)];exact t6
  have u7:Dst ltB (seg ((L T 196)) (I T 137).toNat (I T 4).toNat):=by rw[sq _ _ (AE _) (by omega)];exact t7
  refine⟨ce,?_,⟨t2,t3,t4⟩,by omega,u5,u6,u7⟩;rw[dk];by_cases h:(B T 200)=true
  .rw[BH h,b5]
  .rw[BG h];refine (dg wkB ?_ (by omega) u5 u6 u7).symm;by_cases C:(I T 137) < I T 180
   .by_cases h3:(I T 180) < I T 4
    .exact absurd (H.2 ⟨Y.2 C,Z.2 h3⟩) h
    .omega
   .omega
 refine⟨?_,?_,?_,?_⟩
 .obtain⟨e5,e6,-⟩:=F0;obtain⟨e9,c6,b0,-⟩:=F1;obtain⟨dn,b7,ds,b8,-⟩:=F3;obtain⟨t,al,an,b9,-⟩:=F5;obtain⟨ca,dv,cb,-⟩:=F6;obtain⟨bx,c7,b1,-⟩:=F8;obtain⟨P,-⟩:=c4;obtain⟨-,-,-,-,-,-,-,-,-,b6,bm,dm,-⟩:=bt;simp only[BS,BZ,zN,zR,w2P,zL,zS] at e5 e6 e9 c6 b0 dn b7 ds b8 t al an b9 ca dv cb bx c7 b1 P b6 bm dm;obtain⟨J,w,z,K,M,A,r,p,j⟩:=D;rw[dm];by_cases h6:(B T 6)=true
  .have x5:=o2' e5 (by omega);have h5:=e6.1 h6;obtain⟨v1,v2,v3,d,g⟩:=e4;obtain⟨aS,w2,w3,w4,w5⟩:=e7;have n9:¬I T 8 < I T 7:=fun h=>f2 (c6.2 ⟨h6,e9.2 h⟩);have d0:(B T 11)=true:=b0.2 ⟨h6,by cases q:(B T 9);rfl;exact absurd (e9.1 q) n9⟩;have hq:=o2' dn (by omega);have fv:¬I T 40 < I T 42:=fun h=>f3 (ds.2 ⟨d0,b7.2 h⟩);have d4:(B T 45)=true:=b8.2 ⟨d0,by cases q:(B T 43);rfl;exact absurd (b7.1 q) fv⟩;rw[BH (bm.2 (.inl d4)),b6,BH d4,w5,show (I T 40).toNat+1=(I T 8).toNat by omega];rw[show (I T 3).toNat=(I T 2).toNat+1 by omega] at p;have h8:(I T 7)=I T 8:=by omega
   rw[h8] at g;refine wp wkB (by omega) (by omega) (by omega) p j ?_ ?_
   .rcases d with d|d
    .omega
    .rw[show ((I T 8) - 1).toNat=(I T 8).toNat - 1 by omega] at d;exact .inr d
   .rcases g with g|g
    .omega
    .exact .inr g
  .have d8:¬B T 45=true:=fun h=>h6 (b0.1 (b8.1 h).1).1;have a0:(B T 69)=true:=t.2 (by simpa using h6);by_cases v:(B T 71)=true
   .have gr:=o2' al (by omega);have h7:=an.1 v;obtain⟨v1,v2,v3,d,g⟩:=e8;obtain⟨aS,w2,w3,w4,w5⟩:=fd;have d5:=b9.2 ⟨a0,v⟩;have f0:¬I T 74 < I T 73:=fun h=>f4 (dv.2 ⟨d5,ca.2 h⟩);have d6:(B T 77)=true:=cb.2 ⟨d5,by cases q:(B T 75);rfl;exact absurd (ca.1 q) f0⟩;have fr:¬I T 74 < I T 106:=fun h=>f5 (c7.2 ⟨d6,bx.2 h⟩);have ey:(B T 110)=true:=b1.2 ⟨d6,by cases q:(B T 108);rfl;exact absurd (bx.1 q) fr⟩;have h8:(I T 106)=I T 74:=by omega
    have h9:(I T 73)=I T 74:=by omega
    rw[BH (bm.2 (.inr ey)),b6,BG d8,w5,h8];rw[show (I T 4).toNat=(I T 3).toNat+1 by omega] at j⊢;rw[h9] at g;refine rO wkB (by omega) (by omega) (by omega) r j ?_ ?_
    .rcases d with d|d
     .omega
     .rw[show ((I T 74) - 1).toNat=(I T 74).toNat - 1 by omega] at d;exact .inr d
    .rcases g with g|g
     .omega
     .exact .inr g
   .have c:=P.2 ⟨a0,by simpa using v⟩;have fs:¬B T 206=true:=fun h=>(bm.1 h).elim d8 fun h=>v (b9.1 (cb.1 (b1.1 h).1).1).2;obtain⟨k,q1,q2,q3,q4,q5,q6,q7,q8,q9⟩:=N c;obtain⟨aB,aJ⟩:=sg c;obtain⟨z1,z2,-⟩:=sh c;rw[BG fs];exact tM wkB (by omega) (by omega) (by omega) (by omega) (by omega) (by omega) r p j (q8.imp (fun h=>by omega) (fun h=>h.imp (fun h=>by omega) id)) (q9.imp (fun h=>by omega) (fun h=>h.imp (fun h=>by omega) id)) aJ z1 z2
 .obtain⟨-,-,i,-⟩:=bl;obtain⟨-,Y,-,Z,H,dj,-⟩:=bt;simp only[BS,BZ,zN,zR] at i Y Z H dj;obtain⟨J,w,z,K,M,A,r,p,j⟩:=D;intro hp;obtain⟨k,d3⟩:=dj.1 hp;have c:=(i.1 k).1;obtain⟨-,q1,q2,q3,q4,q5,q6,q7,-⟩:=N c;obtain⟨z1,z2,z3,z4,z5⟩:=sh c;have y1:=Y.1 (H.1 d3).1;have y2:=Z.1 (H.1 d3).2;exact⟨by omega,z4,by omega,y1,y2,A,z5.1,z5.2.1,z5.2.2⟩
 .obtain⟨-,-,i,-⟩:=bl;obtain⟨-,-,-,-,-,-,-,-,-,W,-,X,F,de,-⟩:=O;simp only[BS,BZ,zN,zR] at i W X F de;obtain⟨J,w,z,K,M,A,r,p,j⟩:=D;intro hp;obtain⟨k,d2⟩:=de.1 hp;have c:=(i.1 k).1;obtain⟨-,q1,q2,q3,q4,q5,q6,q7,-⟩:=N c;obtain⟨aB,aJ⟩:=sg c;obtain⟨z1,z2,z3,-⟩:=sh c;have y1:=W.1 (F.1 d2).1;have y2:=X.1 (F.1 d2).2;exact⟨by omega,by omega,z,y1,y2,by omega,z3.1,z3.2.1,z3.2.2⟩
 .obtain⟨-,-,i,-⟩:=bl;obtain⟨-,Q,-,V,E,db,-⟩:=O;simp only[BS,BZ,zN,zR] at i Q V E db;obtain⟨J,w,z,K,M,A,r,p,j⟩:=D;intro hp;obtain⟨k,d1⟩:=db.1 hp;obtain⟨-,q1,q2,q3,q4,-⟩:=N (i.1 k).1;have y1:=Q.1 (E.1 d1).1;have y2:=V.1 (E.1 d1).2;exact⟨w,by omega,y1,y2,by omega⟩
theorem wC (ih:Bl Try.prog 145 (Er o)):Bl Try.prog 145 (Er (o+1)):=by
 refine ja (l:=[(101,NK),(148,N4),(145,Er o)]) CP (by simp only[AW];exact⟨gj,ud,ih,fun _ h=>absurd h (by simp)⟩) xN (by kernel_rfl) fun T us ad x v k ax a=>?_;change us.length=5 at v;obtain⟨⟨t,a3⟩,⟨w,p⟩,-⟩:=ax;replace t:(L T 0).length<=140737488355328:=t;have s:∀u∈(L T 0),Bb BT KB u:=fun u hu=>by
  obtain⟨i,ab⟩:=Ac.1 hu;exact a3 i u ab
 replace w:0<=I T 1:=w;replace p:I T 1<=140737488355328:=p;have X:=inL (j:=0) x v (by decide);have a1:=inI (j:=1) x v (by decide);have Y:=inI (j:=2) x v (by decide);have a2:=inI (j:=3) x v (by decide);have Z:=inI (j:=4) x v (by decide);have r:(I T 4).toNat - (I T 2).toNat < (o+1)/\((L T 0)).length=I T 1/\0<=I T 2/\I T 2 < I T 3/\I T 3 < I T 4/\I T 4<=I T 1/\Srt ltB (seg (L T 0) (I T 2).toNat (I T 3).toNat)/\Srt ltB (seg (L T 0) (I T 3).toNat (I T 4).toNat)/\Dst ltB (seg (L T 0) (I T 2).toNat (I T 4).toNat):=by
  have h:=ad (.s "symB.p0",GY (o+1)) (by simp[Er]);change GY (o+1) us at h;unfold GY at h;simp only[X,a1,Y,a2,Z] at h;exact h
 clear ad;rw[AL,AL,AL,AL,AL,AL,AL,AL,AL,AL,AL,AL,AL,AL,AL] at a;obtain⟨d,a⟩:=cutB a;obtain⟨e,a⟩:=cutB a;obtain⟨b,a⟩:=cutB a;obtain⟨y,c⟩:=Be k (by kernel_rfl) d;obtain⟨a8,g,D,E⟩:=rj p r c b e;have q:=(Be (g.append c) (l:=D2) (by kernel_rfl) b);obtain⟨z,k⟩:=q;clear d b e c g;obtain⟨d,a⟩:=cutB a;obtain⟨e,a⟩:=cutB a;obtain⟨b,a⟩:=cutB a;obtain⟨A1,c⟩:=Be k (by kernel_rfl) d;have C:=nM t s w p r D E y z;obtain⟨a9,g,M,O⟩:=qm s p r C c b e;have q:=(Be (g.append c) (l:=Ep) (by kernel_rfl) b);obtain⟨H,k⟩:=q;clear d b e c g;obtain⟨d,a⟩:=cutB a;obtain⟨e,a⟩:=cutB a;obtain⟨b,a⟩:=cutB a;obtain⟨F,c⟩:=Be k (by kernel_rfl) d;obtain⟨ba,g,N,P⟩:=rB p r c b e;have q:=(Be (g.append c) (l:=E8) (by kernel_rfl) b);obtain⟨J,k⟩:=q;clear d b e c g;obtain⟨d,a⟩:=cutB a;obtain⟨e,a⟩:=cutB a;obtain⟨b,a⟩:=cutB a;obtain⟨A3,c⟩:=Be k (by kernel_rfl) d;have K:=oy t s w p r D E C M O N P y z H F J;obtain⟨bb,g,al,an⟩:=ql s p r K c b e;have q:=(Be (g.append c) (l:=Gs) (by kernel_rfl) b);obtain⟨V,k⟩:=q;clear d b e c g;obtain⟨d,a⟩:=cutB a;obtain⟨e,a⟩:=cutB a;obtain⟨b,a⟩:=cutB a;obtain⟨Q,c⟩:=Be k (by kernel_rfl) d;have W:=pd t s w p r D E C M O N P K al an y z H F J V Q;obtain⟨bc,g,a6,a7⟩:=tJ p r W c b e;have q:=(Be (g.append c) (l:=JD) (by kernel_rfl) b);obtain⟨B4,k⟩:=q;clear d b e c g;obtain⟨A5,hO⟩:=B8 (A:=[.l]) (ag:=py) k (by kernel_rfl) a;obtain⟨q0,r0,aB,aJ⟩:=xW t s w p r D E C M O N P K al an W a6 a7 y z H F J V Q B4 A5;refine⟨⟨r0,aB,aJ,(fun _=>bc),(fun _=>bb),(fun _=>ba),(fun _=>a9),(fun _=>a8),trivial⟩,hO.trans ?_⟩;exact (lc (by show U.list (L T 207)= .list (JG us);unfold JG;rw[X,Y,Z];exact BI U.list q0) rfl)
theorem ic:∀o:Nat,Bl Try.prog 145 (Er o)
 |0=>⟨fun _=>QA,fun T us _ _ _ a=>by
   have h:=a (.s "symB.p0",GY 0) (by simp[Er]);exact absurd h.1 (Nat.not_lt_zero _)⟩
 |o+1=>wC (ic o)
end
section
open Go Go.Eng Go.Proofs
set_option maxHeartbeats 4000000
set_option maxRecDepth 100000
def OW:List U->List (List U):=fun us=>(Br ltB (aL us 0) 0 (aI us 2).toNat)
def Lx:List U->Prop:=fun us=>((aL us 0)).length=(aI us 1)/\(aI us 2)=(aI us 1)/\(aI us 1)<=40/\(20 < (aI us 1)->Dst ltB (aL us 0))
def GM:Bf:={ sh:=[.one (k64),.cst (.fn (.func 101) [] [])],blks:=[],outs:=[(.s "stabB.0",D1 OW)],c:= .tup [],m':=[.mrow 3 1 [k64,k64,k64,.bool,.str,.str,.bool,k64,k64] 38],pre:=[(.s "stabB.p0",Lx)],row:=some ([k64,k64,k64,.bool,.str,.str,.bool,k64,k64],38) }
def Jc:List En:=[]
def gX:List En:=[⟨6,.le,[.e 4,.e 2]⟩,
 ABM 7 6,
 ⟨8,.outL "insB.0" NR,[.e 5,.e 1,.e 3,.e 4]⟩,
 ⟨9,.w2 .i64 .add,[.e 4,.c (.int 20)]⟩]
def D8:List En:=gX
def YB:List ObE:=[⟨some 6,.pre "insB.p0" Ku,[.e 5,.e 1,.e 3,.e 4]⟩]
def ON:Bs:=mkD 3 3 D8 6 [.e 4,.e 9,.e 8] YB [1,2]
def Rg:List Rf:=[.e 1,.e 2,.c (.int 0),.c (.int 20),.e 0]
def gP:List En:=[⟨10,.outL "insB.0" NR,[.e 5,.e 1,.e 3,.e 2]⟩]
def Hf:List En:=gP
def ZZ:List En:=[ABI 15 13 2,
 ABF 16 7 15,
 ABG 17 7 15,
 ⟨18,.w2 .i64 .mul,[.c (.int 2),.e 13]⟩]
def HG:List En:=ZZ
def fJ:List En:=[⟨22,.le,[.e 20,.e 2]⟩,
 ABF 23 16 22,
 ABG 24 16 22,
 ABX 25 19 13,
 ⟨26,.outL "symB.0" JG,[.e 21,.e 1,.e 19,.e 25,.e 20]⟩,
 ⟨27,.w2 .i64 .mul,[.c (.int 2),.e 13]⟩,
 ABX 28 20 27]
def FX:List En:=fJ
def Y9:List ObE:=[⟨some 23,.pre "symB.p0" (GY 41),[.e 21,.e 1,.e 19,.e 25,.e 20]⟩]
def MA:Bs:=mkD 19 3 FX 23 [.e 20,.e 28,.e 26] Y9 [13,1,16,2]
def Og:List Rf:=[.e 13,.e 1,.e 16,.e 2,.c (.int 0),.e 18,.e 14]
def ZU:List En:=[ABX 29 19 13,
 ABI 30 29 2,
 ABF 31 24 30,
 ⟨32,.outL "symB.0" JG,[.e 21,.e 1,.e 19,.e 29,.e 2]⟩,
 ABG 33 24 30,
 ABW 34 30 32 21,
 ⟨35,.w2 .i64 .mul,[.e 13,.c (.int 2)]⟩]
def LG:List En:=ZU
def Jf:List En:=HG++((B5 MA [.i,.i,.l] Og)++(FX++(LG)))
def ZD:List ObE:=[⟨some 31,.pre "symB.p0" (GY 41),[.e 21,.e 1,.e 19,.e 29,.e 2]⟩,⟨some 16,.owes MA,[.e 13,.e 1,.e 16,.e 2,.c (.int 0),.e 18,.e 14]⟩]
def Oa:Bs:=mkD 11 4 Jf 24 [.e 19,.e 20,.e 35,.e 34] ZD [1,2,7]
def Sk:List Rf:=[.e 1,.e 2,.e 7,.e 3,.e 4,.c (.int 20),.e 10]
def oD:List En:=[]
def uy:List ObE:=[⟨some 7,.owes Oa,[.e 1,.e 2,.e 7,.e 3,.e 4,.c (.int 20),.e 10]⟩,
 ⟨some 7,.pre "insB.p0" Ku,[.e 5,.e 1,.e 3,.e 2]⟩,
 ⟨none,.owes ON,[.e 1,.e 2,.c (.int 0),.c (.int 20),.e 0]⟩]
def hY:List Rf:=[.e 14]
theorem vV:GM.sees hY (GM.run Try.prog [(144,yQ),(145,Er 41)] Bp 3000 20 137)=some ((Jc++((B5 ON [.i,.i,.l] Rg)++(D8++(Hf++((B5 Oa [.i,.i,.i,.l] Sk)++(Jf++(oD))))))).map En.be,uy.map ObE.be,[]):=by kernel_rfl
abbrev cL(T:Tab)(a:Int)(b:Int)(aw:List (List U)):Prop:=(a=0/\b=20/\aw=L T 0)\/(a=20/\b=40/\20<=I T 2/\aw=Br ltB (L T 0) 0 20)\/(a=40/\b=60/\I T 2=40/\aw=Br ltB (Br ltB (L T 0) 0 20) 20 40)
abbrev eW(T:Tab):Prop:=((L T 0)).length=I T 1/\I T 2=I T 1/\I T 1<=40/\(20 < I T 1->Dst ltB (L T 0))
variable{T:Tab}
theorem ol (E:eW T)(t:Ba T (Bh (CA 0 GM.ks) Jc))(q:Bi T (D8.map En.be))(r:Bi T ((B5 ON [.i,.i,.l] Rg).map En.be)):
  (ON).owes (Rg.map (Rf.eval T))/\Ba T (hds 3 [.i,.i,.l])/\(cL T (I T 3) (I T 4) (L T 5))/\¬B T 6=true:=by
 refine CK (nh:=3) (k:=3) (pcn:=6) (aF:=10) (b:=D8) (K:=YB) (nxt:=[.e 4,.e 9,.e 8]) (H:=[.c (.int 0),.c (.int 20),.e 0]) (fv:=[1,2]) (A:=[.i,.i,.l]) (by kernel_rfl) rfl rfl rfl rfl t (by kernel_rfl) (by kernel_rfl) q (B6 r) (fun s=>cL T (aI s 0) (aI s 1) (aL s 2)) (fun s=>((I T 2)+1 - (aI s 1)).toNat) ?_ ?_
 .show cL T (0:Int) (20:Int) (L T 0);grind
 .intro J h c i;replace i:cL T (I J 3) (I J 4) (L J 5):=i;clear t q r;replace c:BV J D8:=c;have e:=c;clear c;have p:=fvI (h 1 (by decide));have x:=fvI (h 2 (by decide));clear h
  suffices z:(B J 6=true->((L J 5)).length=I J 1/\0<=I J 3/\I J 3<=I J 4/\I J 4<=I J 1)/\(B J 6=true->(cL T (I J 4) (I J 9) (L J 8)))/\(B J 6=true->((I T 2)+1 - (I J 9)).toNat < ((I T 2)+1 - (I J 4)).toNat) from
   let⟨F,D,C⟩:=z;⟨⟨F,trivial⟩,fun d=>⟨D d,C d⟩⟩
  refine⟨?_,?_,?_⟩
  .obtain⟨a,-⟩:=e;simp only[BS,zR] at a;obtain⟨M,N,O,P⟩:=E;intro d;have y:=a.1 d;rw[x] at y;rcases i with⟨u,v,j⟩|⟨u,v,j,w⟩|⟨u,v,j,w⟩
   .rw[p,j];omega
   .rw[p,w,HW (by omega) (by omega)];omega
   .omega
  .obtain⟨a,-,l,g,-⟩:=e;replace l:L J 8=(Br ltB (L J 5) (I J 3).toNat (I J 4).toNat):=l;simp only[BS,zR,w2P] at a g;grind
  .obtain⟨a,-,-,g,-⟩:=e;simp only[BS,zR,w2P] at a g;grind
theorem jz (K:eF T)(J:∀u∈(L T 0),Bb BT KB u)(M:0<=I T 1)(H:I T 1<=140737488355328)(t:eW T)(y:cL T (I T 3) (I T 4) (L T 5))(D:¬B T 6=true)(q:BV T D8)(p:BV T Hf):
  (((L T 10)).length=I T 1/\((I T 2)<=20->L T 10=Br ltB (L T 0) 0 (I T 2).toNat)/\(20 < I T 2->L T 10=Br ltB (Br ltB (L T 0) 0 20) 20 (I T 2).toNat))/\(20 < I T 2->((L T 10)).length=I T 1/\Srt ltB (seg (L T 10) 0 20)/\Srt ltB (seg (L T 10) 20 (I T 2).toNat)/\Dst ltB (seg (L T 10) 0 (I T 2).toNat)/\Br ltB (L T 10) 0 (I T 2).toNat=Br ltB (L T 0) 0 (I T 2).toNat):=by
 have w:=q;clear q;have x:=p;clear p;have aP:((L T 10)).length=I T 1/\((I T 2)<=20->L T 10=Br ltB (L T 0) 0 (I T 2).toNat)/\(20 < I T 2->L T 10=Br ltB (Br ltB (L T 0) 0 20) 20 (I T 2).toNat):=by
  obtain⟨r,-⟩:=w;obtain⟨c,-⟩:=x;replace c:L T 10=(Br ltB (L T 5) (I T 3).toNat (I T 2).toNat):=c;simp only[BS,zR] at r;obtain⟨e,E,F,s⟩:=t;have N:¬I T 4<=I T 2:=fun h=>D (r.2 h);rcases y with⟨d,v,i⟩|⟨d,v,i,j⟩|⟨d,v,i,j⟩
  .rw[c,d,i];refine⟨?_,fun _=>rfl,fun h=>by omega⟩;rw[HW (by omega) (by omega)];exact e
  .rw[c,d,j];have k:=HW (lt:=ltB) (l:=L T 0) (a:=0) (b:=20) (by omega) (by omega);refine⟨?_,fun h=>?_,fun h=>rfl⟩
   .rw[HW (by omega) (by omega),k];exact e
   .have C:(I T 2).toNat=20:=by omega
    rw[C];exact Rv (AE _) (AE _)
  .rw[c,d,j,i];have k:=HW (lt:=ltB) (l:=L T 0) (a:=0) (b:=20) (by omega) (by omega);have g:Br ltB (Br ltB (Br ltB (L T 0) 0 20) 20 40) 40 40=Br ltB (Br ltB (L T 0) 0 20) 20 40:=Rv (AE _) (AE _);refine⟨?_,fun h=>by omega,fun h=>g⟩;show ((Br ltB (Br ltB (Br ltB (L T 0) 0 20) 20 40) 40 40).length:Int)=_;rw[g,HW (by omega) (by omega),k];exact e
 have A:20 < I T 2->((L T 10)).length=I T 1/\Srt ltB (seg (L T 10) 0 20)/\Srt ltB (seg (L T 10) 20 (I T 2).toNat)/\Dst ltB (seg (L T 10) 0 (I T 2).toNat)/\Br ltB (L T 10) 0 (I T 2).toNat=Br ltB (L T 0) 0 (I T 2).toNat:=by
  obtain⟨e,E,F,s⟩:=t;intro h;obtain⟨au,V,z⟩:=aP;obtain⟨O,P,Q,W,X⟩:=sQ wkB (l:=L T 0) (m:=20) (n:=(I T 2).toNat) (by omega) (by omega) (s (by omega)) (z h);grind
 exact⟨aP,A⟩
abbrev fc(T:Tab):Prop:=(I T 2)<=40/\I T 2=I T 1/\((I T 13)=20\/I T 13=40)/\((I T 13)=20->20 < I T 2->((L T 14)).length=I T 1/\Srt ltB (seg (L T 14) 0 20)/\Srt ltB (seg (L T 14) 20 (I T 2).toNat)/\Dst ltB (seg (L T 14) 0 (I T 2).toNat))
theorem je (g:fc T)(a:BV T HG):
  ((B T 16)=true->I T 13=20/\20 < I T 2/\I T 18=40):=by
 have b:=a;clear a;have aw:(B T 16)=true->I T 13=20/\20 < I T 2/\I T 18=40:=by
  obtain⟨c,d,-,e,-⟩:=b;simp only[BS,BZ,zR,w2P] at c d e;grind
 exact aw
abbrev cR(T:Tab)(a:Int)(b:Int)(aw:List (List U)):Prop:=(B T 16)=true->((a=0/\b=40/\aw=L T 14)\/(a=40/\b=80/\I T 2=40/\aw=Br ltB (L T 14) 0 40))
abbrev fe(T:Tab):Prop:=(B T 16)=true->I T 13=20/\20 < I T 2/\I T 18=40
theorem o9 (F:fc T)(aw:fe T)(q:Ba T (Bh (hds 11 [.i,.i,.i,.l]++GC [1,2,7] (Bh (Bh (hds 3 [.i,.i,.l]++(Bh (CA 0 GM.ks) Jc)) D8) Hf)) HG))(l:Bi T (FX.map En.be))(p:Bi T ((B5 MA [.i,.i,.l] Og).map En.be)):
  (MA).owes (Og.map (Rf.eval T))/\Ba T (hds 19 [.i,.i,.l])/\(cR T (I T 19) (I T 20) (L T 21))/\¬B T 23=true:=by
 refine CK (nh:=19) (k:=3) (pcn:=23) (aF:=29) (b:=FX) (K:=Y9) (nxt:=[.e 20,.e 28,.e 26]) (H:=[.c (.int 0),.e 18,.e 14]) (fv:=[13,1,16,2]) (A:=[.i,.i,.l]) (by kernel_rfl) rfl rfl rfl rfl q (by kernel_rfl) (by kernel_rfl) l (B6 p) (fun s=>cR T (aI s 0) (aI s 1) (aL s 2)) (fun s=>((I T 2)+1 - (aI s 1)).toNat) ?_ ?_
 .show cR T (0:Int) (I T 18) (L T 14);grind
 .intro J d e t;replace t:cR T (I J 19) (I J 20) (L J 21):=t;clear q l p;replace e:BV J FX:=e;have g:=e;clear e;have C:=fvI (d 13 (by decide));have z:=fvI (d 1 (by decide));have D:=fvB (d 16 (by decide));have E:=fvI (d 2 (by decide));clear d
  suffices v:(B J 23=true->(I J 20).toNat - (I J 19).toNat < 41/\((L J 21)).length=I J 1/\0<=I J 19/\I J 19 < I J 25/\I J 25 < I J 20/\I J 20<=I J 1/\Srt ltB (seg (L J 21) (I J 19).toNat (I J 25).toNat)/\Srt ltB (seg (L J 21) (I J 25).toNat (I J 20).toNat)/\Dst ltB (seg (L J 21) (I J 19).toNat (I J 20).toNat))/\(B J 23=true->(cR T (I J 20) (I J 28) (L J 26)))/\(B J 23=true->((I T 2)+1 - (I J 28)).toNat < ((I T 2)+1 - (I J 20)).toNat) from
   let⟨y,x,w⟩:=v;⟨⟨y,trivial⟩,fun r=>⟨x r,w r⟩⟩
  refine⟨?_,?_,?_⟩
  .obtain⟨a,c,-,u,-⟩:=g;simp only[BS,BZ,zR,w2P] at a c u;grind
  .obtain⟨a,c,-,-,j,h,i,-⟩:=g;replace j:L J 26=(Br ltB (L J 21) (I J 19).toNat (I J 20).toNat):=j;simp only[BS,BZ,zR,w2P] at a c h i;grind
  .obtain⟨a,c,-,-,-,h,i,-⟩:=g;simp only[BS,BZ,zR,w2P] at a c h i;grind
theorem Ym (e:fc T)(c:Ba T (hds 11 [.i,.i,.i,.l]++GC [1,2,7] (Bh (Bh (hds 3 [.i,.i,.l]++(Bh (CA 0 GM.ks) Jc)) D8) Hf)))(a:Bi T (Jf.map En.be)):
  (BV T HG)/\((B T 16)=true->I T 13=20/\20 < I T 2/\I T 18=40)/\((MA).owes (Og.map (Rf.eval T)))/\(cR T (I T 19) (I T 20) (L T 21))/\(¬B T 23=true)/\(BV T FX)/\(BV T LG)/\Ba T (Bh (Bh (hds 19 [.i,.i,.l]++(Bh (hds 11 [.i,.i,.i,.l]++GC [1,2,7] (Bh (Bh (hds 3 [.i,.i,.l]++(Bh (CA 0 GM.ks) Jc)) D8) Hf)) HG)) FX) LG):=by
 unfold Jf at a;rw[AL,AL,AL] at a;obtain⟨g,a⟩:=cutB a;obtain⟨h,a⟩:=cutB a;obtain⟨b,a⟩:=cutB a;obtain⟨j,d⟩:=Be c (by kernel_rfl) g;have aw:=je e j;obtain⟨u,i,s,t⟩:=o9 e aw d b h;have k:=(Be (i.append d) (l:=FX) (by kernel_rfl) b);obtain⟨p,c⟩:=k;clear g b h d i;obtain⟨q,r⟩:=Be c (by kernel_rfl) a;grind
abbrev cS(T:Tab)(aw:Int)(a:List (List U)):Prop:=(aw=20/\a=L T 10)\/(aw=40/\20 < I T 2/\a=Br ltB (L T 0) 0 (I T 2).toNat)
abbrev fj(T:Tab):Prop:=((L T 10)).length=I T 1/\((I T 2)<=20->L T 10=Br ltB (L T 0) 0 (I T 2).toNat)/\(20 < I T 2->L T 10=Br ltB (Br ltB (L T 0) 0 20) 20 (I T 2).toNat)
abbrev fk(T:Tab):Prop:=20 < I T 2->((L T 10)).length=I T 1/\Srt ltB (seg (L T 10) 0 20)/\Srt ltB (seg (L T 10) 20 (I T 2).toNat)/\Dst ltB (seg (L T 10) 0 (I T 2).toNat)/\Br ltB (L T 10) 0 (I T 2).toNat=Br ltB (L T 0) 0 (I T 2).toNat
theorem qW (al:eW T)(aP:fj T)(mf:fk T)(v:Ba T (Bh (Bh (hds 3 [.i,.i,.l]++(Bh (CA 0 GM.ks) Jc)) D8) Hf))(r:Bi T (Jf.map En.be))(u:Bi T ((B5 Oa [.i,.i,.i,.l] Sk).map En.be)):
  (Oa).owes (Sk.map (Rf.eval T))/\Ba T (hds 11 [.i,.i,.i,.l])/\(cS T (I T 13) (L T 14))/\¬B T 24=true:=by
 refine NT (nh:=11) (k:=4) (pcn:=24) (aF:=36) (b:=Jf) (K:=ZD) (nxt:=[.e 19,.e 20,.e 35,.e 34]) (H:=[.e 3,.e 4,.c (.int 20),.e 10]) (fv:=[1,2,7]) (A:=[.i,.i,.i,.l]) (by kernel_rfl) rfl rfl rfl rfl v (by kernel_rfl) r (B6 u) (fun s=>cS T (aI s 2) (aL s 3)) (fun s=>((I T 2) - (aI s 2)).toNat) ?_ ?_
 .show cS T (20:Int) (L T 10);grind
 .intro J c w t z;replace z:cS T (I J 13) (L J 14):=z;have W:=fvI (c 1 (by decide));have X:=fvI (c 2 (by decide));have Y:=fvB (c 7 (by decide));clear c;clear v r u;have E:(I J 2)<=40/\I J 2=I J 1/\((I J 13)=20\/I J 13=40)/\((I J 13)=20->20 < I J 2->((L J 14)).length=I J 1/\Srt ltB (seg (L J 14) 0 20)/\Srt ltB (seg (L J 14) 20 (I J 2).toNat)/\Dst ltB (seg (L J 14) 0 (I J 2).toNat)):=by
   grind
  obtain⟨l,aw,P,Z,ad,j,p,x⟩:=Ym E w t;clear w t;have F:=DK x (ax:=[.i,.i,.i,.l]) (ag:=[.e 19,.e 20,.e 35,.e 34]) (by kernel_rfl);clear x;have V:=l;clear l;have d:=j;clear j;have e:=p;clear p
  suffices M:(B J 31=true->(I J 2).toNat - (I J 19).toNat < 41/\((L J 21)).length=I J 1/\0<=I J 19/\I J 19 < I J 29/\I J 29 < I J 2/\I J 2<=I J 1/\Srt ltB (seg (L J 21) (I J 19).toNat (I J 29).toNat)/\Srt ltB (seg (L J 21) (I J 29).toNat (I J 2).toNat)/\Dst ltB (seg (L J 21) (I J 19).toNat (I J 2).toNat))/\(B J 24=true->(cS T (I J 35) (L J 34)))/\(B J 24=true->((I T 2) - (I J 35)).toNat < ((I T 2) - (I J 13)).toNat) from
   let⟨Q,O,N⟩:=M;⟨F,⟨Q,(fun _=>P),trivial⟩,fun y=>⟨O y,N y⟩⟩
  refine⟨?_,?_,?_⟩
  .obtain⟨-,-,a,-⟩:=d;obtain⟨g,h,C,-⟩:=e;simp only[BS,BZ,zN,zR,w2P] at a g h C;grind
  .obtain⟨-,-,a,-⟩:=d;obtain⟨g,h,-,q,-,D,i,-⟩:=e;replace q:L J 32=(Br ltB (L J 21) (I J 19).toNat (I J 2).toNat):=q;simp only[BS,BZ,zN,zR,w2P,zL,zS] at a g h D i;grind
  .obtain⟨-,-,a,-⟩:=d;obtain⟨-,-,-,-,-,-,i,-⟩:=e;simp only[BS,BZ,zN,zR,w2P] at a i;grind
theorem vA (J:eF T)(H:∀u∈(L T 0),Bb BT KB u)(O:0<=I T 1)(F:I T 1<=140737488355328)(A:eW T)(y:cL T (I T 3) (I T 4) (L T 5))(z:¬B T 6=true)(aP:fj T)(P:fk T)(M:cS T (I T 13) (L T 14))(V:¬B T 24=true)(aw:fe T)(N:cR T (I T 19) (I T 20) (L T 21))(W:¬B T 23=true)(E:fc T)(c:BV T D8)(b:BV T Hf)(e:BV T HG)(d:BV T FX)(g:BV T LG):
  ((L T 14)=(Br ltB (L T 0) 0 (I T 2).toNat))/\
  (B T 7=true->((L T 5)).length=I T 1/\0<=I T 3/\I T 3<=I T 2/\I T 2<=I T 1):=by
 have i:=c;clear c;have C:=b;clear b;have q:=e;clear e;have r:=d;clear d;have D:=g;clear g;refine⟨?_,?_⟩
 .obtain⟨-,x,-⟩:=i;obtain⟨s,t,-⟩:=q;obtain⟨-,v,w,-⟩:=r;simp only[BS,BZ,zN,zR] at x s t v w;grind
 .obtain⟨j,-⟩:=i;simp only[BS,zR] at j;obtain⟨X,Y,Z,p3⟩:=A;intro K;have Q:¬I T 4<=I T 2:=fun h=>z (j.2 h);rcases y with⟨k,l,a⟩|⟨k,l,a,p⟩|⟨k,l,a,p⟩
  .rw[a];omega
  .rw[p,HW (Ak _) (by omega)];omega
  .grind
theorem sw:Bl Try.prog 137 GM:=by
 refine B7 (l:=[(144,yQ),(145,Er 41)]) CP (by simp only[AW];exact⟨vQ,(ic 41),fun _ h=>absurd h (by simp)⟩) vV (by kernel_rfl) fun T us D v r g N a=>?_;change us.length=3 at r;obtain⟨⟨q,W⟩,⟨s,p⟩,-⟩:=N;replace q:(L T 0).length<=140737488355328:=q;have C:∀u∈(L T 0),Bb BT KB u:=fun u X=>by
  obtain⟨i,ab⟩:=Ac.1 X;exact W i u ab
 replace s:0<=I T 1:=s;replace p:I T 1<=140737488355328:=p;have Q:=inL (j:=0) v r (by decide);have a3:=inI (j:=1) v r (by decide);have V:=inI (j:=2) v r (by decide);have t:((L T 0)).length=I T 1/\I T 2=I T 1/\I T 1<=40/\(20 < I T 1->Dst ltB (L T 0)):=by
  have h:=D (.s "stabB.p0",Lx) (by simp[GM]);change Lx us at h;unfold Lx at h;grind
 clear D;rw[AL,AL,AL,AL,AL,AL] at a;obtain⟨d,a⟩:=cutB a;obtain⟨e,a⟩:=cutB a;obtain⟨c,a⟩:=cutB a;obtain⟨A0,b⟩:=Be g (by kernel_rfl) d;obtain⟨an,k,E,H⟩:=ol t b c e;have O:=(Be (k.append b) (l:=D8) (by kernel_rfl) c);obtain⟨x,g⟩:=O;clear d c e b k;obtain⟨d,a⟩:=cutB a;obtain⟨e,a⟩:=cutB a;obtain⟨c,a⟩:=cutB a;obtain⟨w,b⟩:=Be g (by kernel_rfl) d;obtain⟨aP,F⟩:=jz q C s p t E H x w;obtain⟨ao,k,Y,ad⟩:=qW t aP F b c e;have y:(I T 2)<=40/\I T 2=I T 1/\((I T 13)=20\/I T 13=40)/\((I T 13)=20->20 < I T 2->((L T 14)).length=I T 1/\Srt ltB (seg (L T 14) 0 20)/\Srt ltB (seg (L T 14) 20 (I T 2).toNat)/\Dst ltB (seg (L T 14) 0 (I T 2).toNat)):=by
  grind
 obtain⟨K,aw,a4,Z,al,J,M,z⟩:=Ym y (k.append (EO (fun _ _=>rfl) b)) c;have g:=z.append b;clear d c e b k z;obtain⟨A3,P⟩:=B8 (A:=[.l]) (ag:=hY) g (by kernel_rfl) a;obtain⟨q0,r0⟩:=vA q C s p t E H aP F Y ad aw Z al y x w K J M;refine⟨⟨(fun _=>ao),r0,(fun _=>an),trivial⟩,P.trans ?_⟩;exact (lc (by show U.list (L T 14)= .list (OW us);unfold OW;rw[Q,V];exact BI U.list q0) rfl)
def Nj:List U->List (List U):=fun us=>(CX ltB (aL us 0))
def Ke:List U->Prop:=fun us=>((aL us 0)).length<=40/\(20 < ((aL us 0)).length->Dst ltB (aL us 0))
def Pc:Bf:={ sh:=[.one (.list [k64,k64,k64,.bool,.str,.str,.bool,k64,k64]),.cst (.fn (.func 101) [] [])],blks:=[],outs:=[(.s "ordB.0",D1 Nj)],c:= .ro 1 [k64,k64,k64,.bool,.str,.str,.bool,k64,k64],m':=[],pre:=[(.s "ordB.p0",Ke)] }
def ki:List En:=[⟨1,.id .l,[.c (.list [])]⟩,
 ⟨2,.id .i,[.c (.int 0)]⟩,
 ⟨3,.app,[.e 1,.e 0]⟩,
 ABL 4 3,
 ⟨5,.outL "stabB.0" OW,[.e 3,.e 4,.e 4]⟩]
def cV:List En:=ki
def wW:List ObE:=[⟨none,.pre "stabB.p0" Lx,[.e 3,.e 4,.e 4]⟩,
 ⟨none,.fits 88,[.e 1,.e 0]⟩]
def pf:List Rf:=[.e 5]
theorem wT:Pc.sees pf (Pc.runC Try.prog Gy [(137,GM)] Bp 3000 20 100)=some ((cV).map En.be,wW.map ObE.be,[]):=by kernel_rfl
theorem xB (l:eF T)(k:∀u∈(L T 0),Bb BT KB u)(j:((L T 0)).length<=40/\(20 < ((L T 0)).length->Dst ltB (L T 0)))(i:BV T cV):
  ((L T 5)=(CX ltB (L T 0)))/\
  (((L T 3)).length=I T 4/\I T 4=I T 4/\I T 4<=40/\(20 < I T 4->Dst ltB (L T 3)))/\
  ((((L T 1)).length+((L T 0)).length)*88<=140737488355328):=by
 have e:=i;clear i;refine⟨?_,?_,?_⟩
 .obtain⟨a,-,c,b,g,-⟩:=e;replace g:L T 5=(Br ltB (L T 3) 0 (I T 4).toNat):=g;simp only[BS,BZ,zR,zL,zS] at a c b;have d:(L T 3)=L T 0:=by rw[c,a];rfl
  rw[g,b,d];exact UO (by omega)
 .obtain⟨a,-,c,b,-⟩:=e;simp only[BS,BZ,zR,zL,zS] at a c b;have d:(L T 3)=L T 0:=by rw[c,a];rfl
  refine⟨b.symm,rfl,?_,?_⟩
  .rw[b,d];omega
  .rw[b,d];exact fun h=>j.2 (by omega)
 .obtain⟨a,-⟩:=e;simp only[BS,zR,zL,zS] at a;rw[a];show (0+_)*_<=_;omega
theorem uu:Bl Try.prog 100 Pc:=by
 refine GX FU (l:=[(137,GM)]) CP (by simp only[AW];exact⟨sw,fun _ h=>absurd h (by simp)⟩) wT (by kernel_rfl) fun T us c r d q g k=>?_;change us.length=1 at d;obtain⟨⟨a,s⟩,-⟩:=g;replace a:(L T 0).length<=140737488355328:=a;have t:∀u∈(L T 0),Bb BT KB u:=fun u v=>by
  obtain⟨i,ab⟩:=Ac.1 v;exact s i u ab
 have b:=inL (j:=0) r d (by decide);have w:((L T 0)).length<=40/\(20 < ((L T 0)).length->Dst ltB (L T 0)):=by
  have h:=c (.s "ordB.p0",Ke) (by simp[Pc]);change Ke us at h;unfold Ke at h;simp only[b] at h;exact h
 clear c
 skip
 obtain⟨e,p⟩:=B8 (A:=[.l]) (ag:=pf) q (by kernel_rfl) k;obtain⟨x,y,aB⟩:=xB a t w e;refine⟨⟨(fun _=>y),(fun _=>aB),trivial⟩,p.trans ?_⟩;exact (lc (by show U.list (L T 5)= .list (Nj us);unfold Nj;rw[b];exact BI U.list x) rfl)
def OG:List U->List (List U):=fun us=>CH (aL us 0)
def Lu:List U->Prop:=fun us=>(aL us 0).length<=40
def FQ:Bf:={ sh:=[.one (.list [k64,k64,k64,.bool,.str,.str,.bool,k64,k64])],blks:=[],outs:=[(.s "books.0",D1 OG)],c:= .ro 1 [k64,k64,k64,.bool,.str,.str,.bool,k64,k64],m':=[],pre:=[(.s "books.p0",Lu)] }
def se:List En:=[ABF 44 6 38,ABG 45 6 38,⟨46,.row 1 9 [.i,.i,.i,.b,.s,.s,.b,.i,.i],[.e 35,.e 36,.e 37,.e 38,.e 39,.e 40,.e 41,.e 42,.e 43]⟩,⟨47,.app,[.e 34,.e 46]⟩,ABW 48 38 34 47,⟨49,.ite .l,[.e 38,.c (.list []),.e 46]⟩]
def ri:List ObE:=[⟨some 45,.fits 88,[.e 34,.e 46]⟩]
def rY:List En:=[⟨35,.outL "ordB.0" Nj,[.e 34]⟩]
def sP:List ObE:=[⟨some 6,.pre "ordB.p0" Ke,[.e 34]⟩]
theorem vJ:(Z6 Try.prog (GN Try.prog (XB Try.prog Gy [(100,Pc)]) Bp 3000 20) (Bp 65) { Ys.none with mu:=(Bp 65).mu } 3000 rgB Try.f65 FQ.args FQ.m FQ.n).bind (cp FQ [.e 35])=
  some ((some 6,34,4,1),(some 6,48),((KC++((B5 J2 [.i,.l] Mc)++(Fd++(V2)))).map En.be,bd.map ObE.be),(se.map En.be,ri.map ObE.be),(rY.map En.be,sP.map ObE.be),[]):=by kernel_rfl
theorem oJ (l:List (List U)):((List.range l.length).map fun j=>l.getD j [])=l:=by
 refine List.ext_getElem? fun i=>?_;rw[Aj];rcases AQ i l.length with h|h
 .rw[List.getElem?_range h,AF h];simp[h]
 .rw[Ai (by simpa using h),Ai h];rfl
theorem U8:Bl Try.prog 65 FQ:=by
 refine fI (F:=Da) FU CP (l:=[(100,Pc)]) (by simp only[AW];exact⟨uu,fun _ h=>absurd h (by simp)⟩) wO Try.func65 tA (by kernel_rfl) vJ (by kernel_rfl) fun T us a9 D N hS A hE=>?_;obtain⟨O,C⟩:=nE T us (fun p hp=>absurd hp (by simp[I8])) D N hS A hE;have hx:T.get 4= .list (CI (aL us 0)):=(List.cons.inj C).1;have J:(T 4).toL=CI (aL us 0):=BI U.toL hx;have bs:(aL us 0).length<=40:=a9 (.s "books.p0",Lu) (by simp[FQ]);have a2:=inL (j:=0) D N (by decide);have a3:∀u∈L T 0,Bb BT KB u:=fun u q=>by
  obtain⟨i,ab⟩:=Ac.1 q;exact A.1.2 i u ab
 have bx:=bK (l:=aL us 0);refine⟨O,fun b1=>⟨fun M i r s y E V k4 W X k7 k8 aw=>?_,fun M y E ax=>?_⟩⟩
 .rw[J] at V W X;obtain⟨u,q,P⟩:=(JT (l:=aL us 0)).row r (List.mem_of_getElem? W);rw[a2] at P;have a4:=a3 u P;obtain⟨bl,bm,Y,Z,ad,bo,_⟩:=aw;have w:T.get 34= .list s:=k7;have K:[T.get 35,T.get 36,T.get 37,T.get 38,T.get 39,T.get 40,T.get 41,T.get 42,T.get 43]=u:=by
   have ba:=rS a4;have hd:r.drop 1=u:=by rw[q];rfl
   have k:∀j,j < 9->T.get (35+j)=u.getD j default:=fun j hj=>by
    have H:j < u.length:=by omega
    have:=k8 j (u[j]) (by rw[hd];exact AF H);rw[show 35+j=34+1+j by omega,this];simp[H]
   rw[k 0 (by omega),k 1 (by omega),k 2 (by omega),k 3 (by omega),k 4 (by omega),k 5 (by omega),k 6 (by omega),k 7 (by omega),k 8 (by omega)]
   match u,ba with
   |[a,b,c,d,e,f,g,h,i],_=>rfl
  have z:T.get 46= .list [u]:=by
   rw[<-K];exact Y
  have b0:s.length<=40:=by
   rw[X];have t:=Up (m:=M.map fun j=>(CI (aL us 0)).getD j []);rw[List.length_map] at t;have:=Nw _ M E V;omega
  have a6:lR T (.e 46)=[u]:=by show (T.get 46).toL=_;rw[z];rfl
  have a5:lR T (.e 34)=s:=by show (T.get 34).toL=_;rw[w];rfl
  refine⟨⟨fun _=>?_,trivial⟩,?_⟩
  .show ((lR T (.e 34)).length+(lR T (.e 46)).length)*88<=_;rw[a5,a6];show (s.length+1)*88<=_;omega
  .have x:uB r 4=(T.get 38).toB:=by
    rw[q,<-K];rfl
   have al:T.get 47= .list (s++[u]):=by
    have:T.get 47=U.list ((T.get 34).toL++(T.get 46).toL):=Z;rw[this,w,z];rfl
   have an:T.get 48=bif (T.get 38).toB then T.get 34 else T.get 47:=ad
   show T.get 48=_;rw[an];unfold Da;rw[x];cases (T.get 38).toB with
   |true=>simp only[cond_true,if_true];rw[w,yJ]
   |false=>
    simp only[cond_false,AZ,if_false];rw[al,q];rfl
 .rw[J] at y E;have Q:T.get 34= .list ((M.map fun j=>(CI (aL us 0)).getD j []).flatMap Da):=E;have v:((M.map fun j=>(CI (aL us 0)).getD j []).flatMap Da).Perm ((CI (aL us 0)).flatMap Da):=by
   have t:=y.map fun j=>(CI (aL us 0)).getD j [];rw[oJ] at t;exact t.flatMap_right Da
  have ag:T.get 35=D1 Nj [T.get 34]:=ax.1;have ho:T.get 35= .list (CH (aL us 0)):=by
   rw[ag,Q];show U.list (CX ltB _)=_;exact BI U.list (qP v)
  refine⟨⟨fun _=>?_,trivial⟩,?_⟩
  .show Ke [T.get 34];rw[Q];show ((M.map fun j=>(CI (aL us 0)).getD j []).flatMap Da).length<=40/\(20 < ((M.map fun j=>(CI (aL us 0)).getD j []).flatMap Da).length->Dst ltB ((M.map fun j=>(CI (aL us 0)).getD j []).flatMap Da));have:=v.length_eq;have:=Up (m:=CI (aL us 0));refine⟨by omega,fun _ a b ha x O C=>?_⟩;rw[K4] at O C;exact eJ JT (v.subset ha) (v.subset x) (by omega)
  .show [T.get 35]=[D1 OG us];rw[ho];rfl
def Nc:List U->Int:=fun us=>(CJ (aI us 0) (aI us 1) (aB us 2))
def K8:List U->Prop:=fun us=> -10000<=(aI us 0)/\(aI us 0)<=10000/\ -10000<=(aI us 1)/\(aI us 1)<=10000
def Ls:Bf:={ sh:=[.one (k64),.one (k64),.one (.bool)],blks:=[],outs:=[(.s "gain.0",CW Nc)],c:=(Cy 3),m':=[],pre:=[(.s "gain.p0",K8)] }
def ln:List En:=[ABM 3 2,
 ABI 4 0 1,
 ABF 5 2 4,
 ABV 6 1 0,
 ⟨7,.o2 .tdiv,[.e 6,.c (.int 100)]⟩,
 ⟨8,.o2 .min,[.e 7,.c (.int 19)]⟩,
 ⟨9,.pick .i,[.e 8,.c (.int 10),.c (.int 9),.c (.int 8),.c (.int 7),.c (.int 6),.c (.int 6),.c (.int 5),.c (.int 5),.c (.int 4),.c (.int 4),.c (.int 3),.c (.int 3),.c (.int 3),.c (.int 2),.c (.int 2),.c (.int 2),.c (.int 1),.c (.int 1),.c (.int 1),.c (.int 1)]⟩,
 ⟨10,.o2 .sub,[.c (.int 20),.e 9]⟩,
 ABG 11 2 4,
 ABV 12 0 1,
 ⟨13,.o2 .tdiv,[.e 12,.c (.int 100)]⟩,
 ⟨14,.o2 .min,[.e 13,.c (.int 19)]⟩,
 ⟨15,.pick .i,[.e 14,.c (.int 10),.c (.int 9),.c (.int 8),.c (.int 7),.c (.int 6),.c (.int 6),.c (.int 5),.c (.int 5),.c (.int 4),.c (.int 4),.c (.int 3),.c (.int 3),.c (.int 3),.c (.int 2),.c (.int 2),.c (.int 2),.c (.int 1),.c (.int 1),.c (.int 1),.c (.int 1)]⟩,
 ABU 16 5 10 15,
 ABH 17 5 11,
 ⟨18,.ite .i,[.e 3,.c (.int 10),.e 16]⟩]
def jK:List En:=[ABH 19 3 17]
def cn:List En:=ln++(jK)
def wP:List ObE:=[⟨some 11,.inr,[.e 14,.c (.int 20)]⟩,
 ⟨some 5,.inr,[.e 8,.c (.int 20)]⟩]
def ml:List Rf:=[.e 18]
end
end Go.Eng
end
