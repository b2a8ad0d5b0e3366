/-
  A part of the proof: the evaluator of code and its soundness.
-/
import Derived.Test.YtikbgnmcfncnaaaKB1
import Derived.Test.YtikbgnmcfncnaaaE4
import Derived.Test.YtikbgnmcfncnaaaE5
import Derived.Test.YtikbgnmcfncnaaaKB0
set_option linter.unusedVariables false
set_option linter.unusedSimpArgs false
noncomputable section
namespace Go.Eng
section
open Go Go.Eng Go.Proofs
set_option maxHeartbeats 4000000
set_option maxRecDepth 100000
theorem gi:Fh.sees ZU (Fh.run Try.prog [(72,Jm)] AW 3000 20 138)=some ((GB++((BS MF [.i,.l] Oo)++(HD++(dS)))).map En.be,g8.map ObE.be,[]):=by kernel_rfl
theorem bT {T:Tab}(hl0:(L T 0).length<=140737488355328)(hk0:∀u∈(L T 0),AT AF KS u)(lo1:0<=I T 1)(hi1:I T 1<=140737488355328)(pre0:((L T 0)).length=I T 1/\0<=I T 2/\I T 2<=I T 3/\I T 3<=I T 1)(A0:AH T GB):
  ((I T 4)=I T 2+1):=by
 have F0:=A0;clear A0;have h4:(I T 4)=I T 2+1:=by
  obtain⟨e4,-⟩:=F0;simp only[AI,zR,w2P] at e4;exact e4 (by omega) (by omega)
 have hi1:(I T 1)<=140737488355328:=by
  omega
 exact h4
theorem aR {T:Tab}(g1:0<=I T 2/\I T 2<=I T 3/\I T 2+1<=I T 5/\((I T 5)<=I T 3\/I T 5=I T 2+1)/\I T 3<=I T 1/\I T 1<=140737488355328)(g2:((L T 6)).length=I T 1/\∀u∈(L T 6),AT AF KS u)(C0_0:AH T E6):
  ((B T 7)=true->I T 5 < I T 3):=by
 have F0:=C0_0;clear C0_0;have h7:(B T 7)=true->I T 5 < I T 3:=by
  obtain⟨e7,-⟩:=F0;simp only[AI,zR] at e7;exact e7.1
 exact h7
theorem dH {T:Tab}(g1:0<=I T 2/\I T 2<=I T 3/\I T 2+1<=I T 5/\((I T 5)<=I T 3\/I T 5=I T 2+1)/\I T 3<=I T 1/\I T 1<=140737488355328)(g2:((L T 6)).length=I T 1/\∀u∈(L T 6),AT AF KS u)(h7:(B T 7)=true->I T 5 < I T 3)(hS:AK T (Ab (hds 5 [.i,.l]++FQ [2,1,3] (Ab (BK 0 Fh.ks) GB)) E6))(hB:Ac T (EJ.map En.be))(hH:Ac T ((BS Ja [.i,.l] Lp).map En.be)):
  (Ja).owes (Lp.map (Rf.eval T))/\AK T (hds 9 [.i,.l])/\((I T 2)<=I T 9/\I T 9<=I T 5/\((B T 7)=true->((L T 10)).length=I T 1/\(∀u∈(L T 10),AT AF KS u)/\L T 10=CE (((L T 6)).take (I T 2).toNat) (((((L T 6)).take (I T 5).toNat).drop (I T 2).toNat).reverse) (((L T 6)).drop ((I T 5).toNat+1)) (((L T 6)).getD (I T 5).toNat []) ((I T 5) - (I T 9)).toNat/\∀q:Nat,(q:Int) < I T 5 - (I T 9)->ltT (((L T 6)).getD (I T 5).toNat []) ((((((L T 6)).take (I T 5).toNat).drop (I T 2).toNat).reverse).getD q [])=true))/\¬B T 33=true:=by
 refine CK (nh:=9) (k:=2) (pcn:=33) (top:=52) (bes:=EJ) (bos:=UQ) (nxt:=[.e 51,.e 50]) (inits:=[.e 5,.e 6]) (fv:=[7,2,1]) (tys:=[.i,.l]) (by kernel_rfl) rfl rfl rfl rfl hS (by kernel_rfl) (by kernel_rfl) hB (BV hH) (fun s=>(I T 2)<=(aI s 0)/\(aI s 0)<=I T 5/\((B T 7)=true->((aL s 1)).length=I T 1/\(∀u∈(aL s 1),AT AF KS u)/\(aL s 1)=CE (((L T 6)).take (I T 2).toNat) (((((L T 6)).take (I T 5).toNat).drop (I T 2).toNat).reverse) (((L T 6)).drop ((I T 5).toNat+1)) (((L T 6)).getD (I T 5).toNat []) ((I T 5) - (aI s 0)).toNat/\∀q:Nat,(q:Int) < I T 5 - (aI s 0)->ltT (((L T 6)).getD (I T 5).toNat []) ((((((L T 6)).take (I T 5).toNat).drop (I T 2).toNat).reverse).getD q [])=true)) (fun s=>((aI s 0)).toNat) ?_ ?_
 .show (I T 2)<=I T 5/\I T 5<=I T 5/\((B T 7)=true->((L T 6)).length=I T 1/\(∀u∈(L T 6),AT AF KS u)/\L T 6=CE (((L T 6)).take (I T 2).toNat) (((((L T 6)).take (I T 5).toNat).drop (I T 2).toNat).reverse) (((L T 6)).drop ((I T 5).toNat+1)) (((L T 6)).getD (I T 5).toNat []) ((I T 5) - (I T 5)).toNat/\∀q:Nat,(q:Int) < I T 5 - (I T 5)->ltT (((L T 6)).getD (I T 5).toNat []) ((((((L T 6)).take (I T 5).toNat).drop (I T 2).toNat).reverse).getD q [])=true);clear hS hB hH;refine⟨by omega,Int.le_refl _,fun hb=>?_⟩;have h5:=h7 hb;refine⟨g2.1,g2.2,?_,fun q hq=>absurd hq (by omega)⟩;rw[show ((I T 5) - (I T 5)).toNat=0 by omega,Ta (by omega) (by omega)]
 .intro T2 hfv hF inv;replace inv:(I T 2)<=I T2 9/\I T2 9<=I T 5/\((B T 7)=true->((L T2 10)).length=I T 1/\(∀u∈(L T2 10),AT AF KS u)/\L T2 10=CE (((L T 6)).take (I T 2).toNat) (((((L T 6)).take (I T 5).toNat).drop (I T 2).toNat).reverse) (((L T 6)).drop ((I T 5).toNat+1)) (((L T 6)).getD (I T 5).toNat []) ((I T 5) - (I T2 9)).toNat/\∀q:Nat,(q:Int) < I T 5 - (I T2 9)->ltT (((L T 6)).getD (I T 5).toNat []) ((((((L T 6)).take (I T 5).toNat).drop (I T 2).toNat).reverse).getD q [])=true):=inv;clear hS hB hH;replace hF:AH T2 EJ:=hF;obtain⟨F0,hF⟩:=hF.cut;obtain⟨F1,hF⟩:=hF.cut;have F2:=hF;clear hF;have fv7:B T2 7=B T 7:=fvB (hfv 7 (by decide));have fv2:I T2 2=I T 2:=fvI (hfv 2 (by decide));have fv1:I T2 1=I T 1:=fvI (hfv 1 (by decide));clear hfv
  suffices hz:(B T2 33=true->0<=I T2 35/\I T2 35 < I T2 1)/\(B T2 33=true->0<=I T2 9/\I T2 9 < I T2 1)/\(B T2 33=true->0<=I T2 9/\I T2 9 < I T2 1)/\(B T2 33=true->0<=I T2 36/\I T2 36 < I T2 1)/\(B T2 22=true->0<=I T2 23/\I T2 23 < I T2 1)/\(B T2 14=true->0<=I T2 9/\I T2 9 < I T2 1)/\(B T2 33=true->((I T 2)<=I T2 51/\I T2 51<=I T 5/\((B T 7)=true->((L T2 50)).length=I T 1/\(∀u∈(L T2 50),AT AF KS u)/\L T2 50=CE (((L T 6)).take (I T 2).toNat) (((((L T 6)).take (I T 5).toNat).drop (I T 2).toNat).reverse) (((L T 6)).drop ((I T 5).toNat+1)) (((L T 6)).getD (I T 5).toNat []) ((I T 5) - (I T2 51)).toNat/\∀q:Nat,(q:Int) < I T 5 - (I T2 51)->ltT (((L T 6)).getD (I T 5).toNat []) ((((((L T 6)).take (I T 5).toNat).drop (I T 2).toNat).reverse).getD q [])=true)))/\(B T2 33=true->((I T2 51)).toNat < ((I T2 9)).toNat) from
   let⟨r0,r1,r2,r3,r4,r5,nx,mz⟩:=hz;⟨⟨r0,r1,r2,r3,r4,r5,trivial⟩,fun hp=>⟨nx hp,mz hp⟩⟩
  refine⟨?_,?_,?_,?_,?_,?_,?_,?_⟩
  .obtain⟨e11,-,-,e14,-,-,-,-,-,-,-,e22,e23,-⟩:=F0;obtain⟨-,-,-,-,e31,e32,e33,-,e35,e36,-⟩:=F1;obtain⟨-,-,-,-,-,-,-,-,e51,-⟩:=F2;simp only[AI,AP,zR,w2P] at e11 e14 e22 e23 e31 e32 e33 e35 e36 e51;obtain⟨v1,v2,v3⟩:=inv;intro hp;have h39:=e33.1 hp;have h11:=e11.1 (e32.1 h39.2).1;rw[fv2] at h11;have hb:(B T 7)=true:=by rw[<-fv7];exact h39.1
   have h5:=h7 hb;have x41:=e35 (by omega) (by omega);have x42:=e36 (by omega) (by omega);rw[fv1];omega
  .obtain⟨e11,-,-,e14,-,-,-,-,-,-,-,e22,e23,-⟩:=F0;obtain⟨-,-,-,-,e31,e32,e33,-,e35,e36,-⟩:=F1;obtain⟨-,-,-,-,-,-,-,-,e51,-⟩:=F2;simp only[AI,AP,zR,w2P] at e11 e14 e22 e23 e31 e32 e33 e35 e36 e51;obtain⟨v1,v2,v3⟩:=inv;intro hp;have h39:=e33.1 hp;have h11:=e11.1 (e32.1 h39.2).1;rw[fv2] at h11;have hb:(B T 7)=true:=by rw[<-fv7];exact h39.1
   have h5:=h7 hb;have x41:=e35 (by omega) (by omega);have x42:=e36 (by omega) (by omega);rw[fv1];omega
  .obtain⟨e11,-,-,e14,-,-,-,-,-,-,-,e22,e23,-⟩:=F0;obtain⟨-,-,-,-,e31,e32,e33,-,e35,e36,-⟩:=F1;obtain⟨-,-,-,-,-,-,-,-,e51,-⟩:=F2;simp only[AI,AP,zR,w2P] at e11 e14 e22 e23 e31 e32 e33 e35 e36 e51;obtain⟨v1,v2,v3⟩:=inv;intro hp;have h39:=e33.1 hp;have h11:=e11.1 (e32.1 h39.2).1;rw[fv2] at h11;have hb:(B T 7)=true:=by rw[<-fv7];exact h39.1
   have h5:=h7 hb;have x41:=e35 (by omega) (by omega);have x42:=e36 (by omega) (by omega);rw[fv1];omega
  .obtain⟨e11,-,-,e14,-,-,-,-,-,-,-,e22,e23,-⟩:=F0;obtain⟨-,-,-,-,e31,e32,e33,-,e35,e36,-⟩:=F1;obtain⟨-,-,-,-,-,-,-,-,e51,-⟩:=F2;simp only[AI,AP,zR,w2P] at e11 e14 e22 e23 e31 e32 e33 e35 e36 e51;obtain⟨v1,v2,v3⟩:=inv;intro hp;have h39:=e33.1 hp;have h11:=e11.1 (e32.1 h39.2).1;rw[fv2] at h11;have hb:(B T 7)=true:=by rw[<-fv7];exact h39.1
   have h5:=h7 hb;have x41:=e35 (by omega) (by omega);have x42:=e36 (by omega) (by omega);rw[fv1];omega
  .obtain⟨e11,-,-,e14,-,-,-,-,-,-,-,e22,e23,-⟩:=F0;obtain⟨-,-,-,-,e31,e32,e33,-,e35,e36,-⟩:=F1;obtain⟨-,-,-,-,-,-,-,-,e51,-⟩:=F2;simp only[AI,AP,zR,w2P] at e11 e14 e22 e23 e31 e32 e33 e35 e36 e51;obtain⟨v1,v2,v3⟩:=inv;intro hp;have h39:=e22.1 hp;have h11:=e11.1 h39.2;rw[fv2] at h11;have hb:(B T 7)=true:=by rw[<-fv7];exact h39.1
   have h5:=h7 hb;have x26:=e23 (by omega) (by omega);rw[fv1];omega
  .obtain⟨e11,-,-,e14,-,-,-,-,-,-,-,e22,e23,-⟩:=F0;obtain⟨-,-,-,-,e31,e32,e33,-,e35,e36,-⟩:=F1;obtain⟨-,-,-,-,-,-,-,-,e51,-⟩:=F2;simp only[AI,AP,zR,w2P] at e11 e14 e22 e23 e31 e32 e33 e35 e36 e51;obtain⟨v1,v2,v3⟩:=inv;intro hp;have h39:=e14.1 hp;have h11:=e11.1 h39.2;rw[fv2] at h11;have hb:(B T 7)=true:=by rw[<-fv7];exact h39.1
   have h5:=h7 hb;rw[fv1];omega
  .obtain⟨e11,-,-,-,e15,e16,-,e18,e19,e20,-,-,e23,e24,e25,-⟩:=F0;obtain⟨e27,e28,e29,e30,e31,e32,e33,-,e35,e36,e37,e38,e39,e40,e41,e42,-⟩:=F1;obtain⟨e43,e44,e45,e46,e47,e48,e49,e50,e51,-⟩:=F2;replace e30:I T2 30=(plN (I T2 16) (I T2 18) (I T2 19) (I T2 20) (S T2 15) (I T2 25) (I T2 27) (I T2 28) (I T2 29) (S T2 24)):=e30;simp only[AI,AP,zR,w2P,zL,zS,uR,zW,zC] at e11 e15 e16 e18 e19 e20 e23 e24 e25 e27 e28 e29 e31 e32 e33 e35 e36 e37 e38 e39 e40 e41 e42 e43 e44 e45 e46 e47 e48 e49 e50 e51;obtain⟨v1,v2,v3⟩:=inv;intro hp;have h39:=e33.1 hp;have h38:=e32.1 h39.2;have h11:=e11.1 h38.1;rw[fv2] at h11;have hb:(B T 7)=true:=by rw[<-fv7];exact h39.1
   have h5:=h7 hb;have x26:=e23 (by omega) (by omega);have x41:=e35 (by omega) (by omega);have x42:=e36 (by omega) (by omega);have x63:=e51 (by omega) (by omega);clear e23 e35 e36 e51;obtain⟨z1,z2,z3,z4⟩:=v3 hb;obtain⟨m1,m2,m3⟩:=Jx (l:=L T 6) (c:=L T2 10) (a:=(I T 2).toNat) (i:=(I T 5).toNat) (j:=(I T2 9).toNat) (by omega) (by omega) (by omega) (by rw[show (I T 5).toNat - (I T2 9).toNat=((I T 5) - (I T2 9)).toNat by omega];exact z3);obtain⟨m4,m5⟩:=m3 (by omega);have hj:(I T2 9).toNat < ((L T2 10)).length:=by omega
   have hj1:(I T2 9).toNat - 1 < ((L T2 10)).length:=by omega
   have hn:((I T2 9) - 1).toNat=(I T2 9).toNat - 1:=by omega
   have sj:=z2 _ (Dj hj);have sj1:=z2 _ (Dj hj1);have h61:(L T2 49)=((L T2 10)).set (I T2 9).toNat (((L T2 10)).getD ((I T2 9).toNat - 1) []):=by
    rw[e49,e37,e38,e39,e40,e41,e42,x42,hn];exact fJ z2 hj sj1
   have sh61:∀u∈(L T2 49),AT AF KS u:=by rw[h61];exact Ie z2 sj1
   have h62:(L T2 50)=((L T2 49)).set ((I T2 9).toNat - 1) (((L T2 10)).getD (I T2 9).toNat []):=by
    rw[e50,e43,e44,e45,e46,e47,e48,x41,hn];exact fJ sh61 (by rw[h61,List.length_set];exact hj1) sj
   have hlt:ltT (((L T 6)).getD (I T 5).toNat []) ((((((L T 6)).take (I T 5).toNat).drop (I T 2).toNat).reverse).getD ((I T 5).toNat - (I T2 9).toNat) [])=true:=by
    rw[<-m4,<-m2];refine decide_eq_true ?_;have h37:=e31.1 h38.2;rw[e30,e16,e18,e19,e20,e15,e25,e27,e28,e29,e24,x26,hn] at h37;exact h37
   refine⟨by omega,by omega,fun _=>⟨?_,?_,?_,fun q hq=>?_⟩⟩
   .rw[h62,h61,List.length_set,List.length_set];exact z1
   .rw[h62];exact Ie sh61 sj
   .rw[h62,h61,m5,x63,show ((I T 5) - ((I T2 9) - 1)).toNat=(I T 5).toNat - ((I T2 9).toNat - 1) by omega]
   .rcases Int.lt_or_le (q:Int) ((I T 5) - (I T2 9)) with hq2|hq2
    .exact z4 q hq2
    .obtain rfl:q=(I T 5).toNat - (I T2 9).toNat:=by omega
     exact hlt
  .obtain⟨e11,-,-,e14,-,-,-,-,-,-,-,e22,e23,-⟩:=F0;obtain⟨-,-,-,-,e31,e32,e33,-,e35,e36,-⟩:=F1;obtain⟨-,-,-,-,-,-,-,-,e51,-⟩:=F2;simp only[AI,AP,zR,w2P] at e11 e14 e22 e23 e31 e32 e33 e35 e36 e51;obtain⟨v1,v2,v3⟩:=inv;intro hp;have h11:=e11.1 (e32.1 (e33.1 hp).2).1;rw[fv2] at h11;have x63:=e51 (by omega) (by omega);omega
theorem Va {T:Tab}(g1:0<=I T 2/\I T 2<=I T 3/\I T 2+1<=I T 5/\((I T 5)<=I T 3\/I T 5=I T 2+1)/\I T 3<=I T 1/\I T 1<=140737488355328)(g2:((L T 6)).length=I T 1/\∀u∈(L T 6),AT AF KS u)(hS:AK T (hds 5 [.i,.l]++FQ [2,1,3] (Ab (BK 0 Fh.ks) GB)))(hE:Ac T (HD.map En.be)):
  (AH T E6)/\((B T 7)=true->I T 5 < I T 3)/\((Ja).owes (Lp.map (Rf.eval T)))/\((I T 2)<=I T 9/\I T 9<=I T 5/\((B T 7)=true->((L T 10)).length=I T 1/\(∀u∈(L T 10),AT AF KS u)/\L T 10=CE (((L T 6)).take (I T 2).toNat) (((((L T 6)).take (I T 5).toNat).drop (I T 2).toNat).reverse) (((L T 6)).drop ((I T 5).toNat+1)) (((L T 6)).getD (I T 5).toNat []) ((I T 5) - (I T 9)).toNat/\∀q:Nat,(q:Int) < I T 5 - (I T 9)->ltT (((L T 6)).getD (I T 5).toNat []) ((((((L T 6)).take (I T 5).toNat).drop (I T 2).toNat).reverse).getD q [])=true))/\(¬B T 33=true)/\(AH T EJ)/\(AH T In)/\AK T (Ab (Ab (hds 9 [.i,.l]++(Ab (hds 5 [.i,.l]++FQ [2,1,3] (Ab (BK 0 Fh.ks) GB)) E6)) EJ) In):=by
 unfold HD at hE;rw[v7,v7,v7] at hE;have hA:=hE.left;replace hE:=hE.right;have hH:=hE.left;replace hE:=hE.right;have hB:=hE.left;replace hE:=hE.right;obtain⟨C0_0,hS1⟩:=Ai hS (by kernel_rfl) hA;have h7:=aR g1 g2 C0_0;obtain⟨ow1,hS2,inv1,np1⟩:=dH g1 g2 h7 hS1 hB hH;have hF2:=(Ai (hS2.append hS1) (l:=EJ) (by kernel_rfl) hB);obtain⟨B1,hS⟩:=hF2;clear hA hB hH hS1 hS2;obtain⟨C0_1,hSe⟩:=Ai hS (by kernel_rfl) hE;exact⟨C0_0,h7,ow1,inv1,np1,B1,C0_1,hSe⟩
theorem ec {T:Tab}(hk0:∀u∈(L T 0),AT AF KS u)(pre0:((L T 0)).length=I T 1/\0<=I T 2/\I T 2<=I T 3/\I T 3<=I T 1)(h4:(I T 4)=I T 2+1)(hi1:(I T 1)<=140737488355328)(hS:AK T (Ab (BK 0 Fh.ks) GB))(hB:Ac T (HD.map En.be))(hH:Ac T ((BS MF [.i,.l] Oo).map En.be)):
  (MF).owes (Oo.map (Rf.eval T))/\AK T (hds 5 [.i,.l])/\((I T 2)+1<=I T 5/\((I T 5)<=I T 3\/I T 5=I T 2+1)/\((L T 6)).length=I T 1/\(∀u∈(L T 6),AT AF KS u)/\L T 6=Aw ltT (L T 0) (I T 2).toNat (I T 5).toNat)/\¬B T 34=true:=by
 refine Lf (nh:=5) (k:=2) (pcn:=34) (top:=53) (bes:=HD) (bos:=UA) (nxt:=[.e 52,.e 10]) (inits:=[.e 4,.e 0]) (fv:=[2,1,3]) (tys:=[.i,.l]) (by kernel_rfl) rfl rfl rfl rfl hS (by kernel_rfl) hB (BV hH) (fun s=>(I T 2)+1<=(aI s 0)/\((aI s 0)<=I T 3\/(aI s 0)=I T 2+1)/\((aL s 1)).length=I T 1/\(∀u∈(aL s 1),AT AF KS u)/\(aL s 1)=Aw ltT (L T 0) (I T 2).toNat (aI s 0).toNat) (fun s=>((I T 3) - (aI s 0)).toNat) ?_ ?_
 .show (I T 2)+1<=I T 4/\((I T 4)<=I T 3\/I T 4=I T 2+1)/\((L T 0)).length=I T 1/\(∀u∈(L T 0),AT AF KS u)/\L T 0=Aw ltT (L T 0) (I T 2).toNat (I T 4).toNat;clear hS hB hH;rw[h4];exact⟨Int.le_refl _,.inr rfl,pre0.1,hk0,by rw[show ((I T 2)+1).toNat=(I T 2).toNat+1 by omega,IU (by omega)]⟩
 .intro T2 hfv hS2 hE inv;replace inv:(I T 2)+1<=I T2 5/\((I T2 5)<=I T 3\/I T2 5=I T 2+1)/\((L T2 6)).length=I T 1/\(∀u∈(L T2 6),AT AF KS u)/\L T2 6=Aw ltT (L T 0) (I T 2).toNat (I T2 5).toNat:=inv;have fv2:I T2 2=I T 2:=fvI (hfv 2 (by decide));have fv1:I T2 1=I T 1:=fvI (hfv 1 (by decide));have fv3:I T2 3=I T 3:=fvI (hfv 3 (by decide));clear hfv;clear hS hB hH;have g1:0<=I T2 2/\I T2 2<=I T2 3/\I T2 2+1<=I T2 5/\((I T2 5)<=I T2 3\/I T2 5=I T2 2+1)/\I T2 3<=I T2 1/\I T2 1<=140737488355328:=by
   obtain⟨v1,v2,v3,v4,v5⟩:=inv;rw[fv2,fv1,fv3];omega
  have g2:((L T2 6)).length=I T2 1/\∀u∈(L T2 6),AT AF KS u:=by
   obtain⟨v1,v2,v3,v4,v5⟩:=inv;rw[fv1];exact⟨v3,v4⟩
  obtain⟨C0_0,h7,ow1,inv1,np1,B1,C0_1,hSe⟩:=Va g1 g2 hS2 hE;clear hS2 hE;have hN:=B7 hSe (ts:=[.i,.l]) (rs:=[.e 52,.e 10]) (by kernel_rfl);clear hSe;have F0:=C0_0;clear C0_0;obtain⟨F1,B1⟩:=B1.cut;obtain⟨F2,B1⟩:=B1.cut;have F3:=B1;clear B1;have F4:=C0_1;clear C0_1
  suffices hz:(B T2 34=true->((I T 2)+1<=I T2 52/\((I T2 52)<=I T 3\/I T2 52=I T 2+1)/\((L T2 10)).length=I T 1/\(∀u∈(L T2 10),AT AF KS u)/\L T2 10=Aw ltT (L T 0) (I T 2).toNat (I T2 52).toNat))/\(B T2 34=true->((I T 3) - (I T2 52)).toNat < ((I T 3) - (I T2 5)).toNat) from
   let⟨nx,mz⟩:=hz;⟨hN,⟨(fun _=>ow1),trivial⟩,fun hp=>⟨nx hp,mz hp⟩⟩
  refine⟨?_,?_⟩
  .obtain⟨e7,-⟩:=F0;obtain⟨e11,-,-,-,e15,e16,-,e18,e19,e20,-,-,e23,e24,e25,-⟩:=F1;obtain⟨e27,e28,e29,e30,e31,e32,e33,e34,-⟩:=F2;obtain⟨e52,-⟩:=F4;replace e30:I T2 30=(plN (I T2 16) (I T2 18) (I T2 19) (I T2 20) (S T2 15) (I T2 25) (I T2 27) (I T2 28) (I T2 29) (S T2 24)):=e30;simp only[AI,AP,zN,zR,w2P,zL] at e7 e11 e15 e16 e18 e19 e20 e23 e24 e25 e27 e28 e29 e31 e32 e33 e34 e52;obtain⟨v1,v2,v3,v4,v5⟩:=inv;obtain⟨w1,w2,w3⟩:=inv1;rw[fv2] at w1 w3;intro hp;have hb:=e34.1 hp;have h7:=e7.1 hb.1;have x64:=e52 (by omega) (by omega);obtain⟨z1,z2,z3,z4⟩:=w3 hb.1;have hdone:(L T2 10)=Q1 ltT ((L T2 6)) (I T 2).toNat (I T2 5).toNat:=by
    rw[z3];refine Vn (l:=L T2 6) (k:=((I T2 5) - (I T2 9)).toNat) (by omega) (by omega) (by omega) (fun q hq=>z4 q (by omega)) ?_;rcases Int.lt_or_le (I T 2) (I T2 9) with h9|h9
    .refine .inr fun hlt=>?_;obtain⟨m1,m2,m3⟩:=Jx (l:=L T2 6) (c:=L T2 10) (a:=(I T 2).toNat) (i:=(I T2 5).toNat) (j:=(I T2 9).toNat) (by omega) (by omega) (by omega) (by rw[show (I T2 5).toNat - (I T2 9).toNat=((I T2 5) - (I T2 9)).toNat by omega];exact z3);obtain⟨m4,m5⟩:=m3 (by omega);rw[show ((I T2 5) - (I T2 9)).toNat=(I T2 5).toNat - (I T2 9).toNat by omega,<-m4,<-m2] at hlt;have x26:=e23 (by omega) (by omega);have h36:(I T2 30) < 0:=by
      rw[e30,e16,e18,e19,e20,e15,e25,e27,e28,e29,e24,x26,show ((I T2 9) - 1).toNat=(I T2 9).toNat - 1 by omega];exact of_decide_eq_true hlt
     have h38:(B T2 32)=true:=e32.2 ⟨e11.2 (by rw[fv2];exact h9),e31.2 h36⟩;have:=hb.2;simp[h38] at this
    .exact .inl (by omega)
   refine⟨by omega,?_,by rw[<-fv1];exact z1,z2,?_⟩
   .rw[fv3] at h7;left;omega
   .rw[hdone,x64,show ((I T2 5)+1).toNat=(I T2 5).toNat+1 by omega,Re (by omega) (by rw[fv1] at*; omega),<-v5]
  .obtain⟨e7,-⟩:=F0;obtain⟨-,-,-,-,-,-,-,e34,-⟩:=F2;obtain⟨e52,-⟩:=F4;simp only[AI,AP,zN,zR,w2P] at e7 e34 e52;obtain⟨v1,v2,v3,v4,v5⟩:=inv;intro hp;have hb:=e34.1 hp;have h7:=e7.1 hb.1;rw[fv3] at h7;have x64:=e52 (by omega) (by omega);omega
theorem gh {T:Tab}(hl0:(L T 0).length<=140737488355328)(hk0:∀u∈(L T 0),AT AF KS u)(lo1:0<=I T 1)(pre0:((L T 0)).length=I T 1/\0<=I T 2/\I T 2<=I T 3/\I T 3<=I T 1)(h4:(I T 4)=I T 2+1)(hi1:(I T 1)<=140737488355328)(inv0:(I T 2)+1<=I T 5/\((I T 5)<=I T 3\/I T 5=I T 2+1)/\((L T 6)).length=I T 1/\(∀u∈(L T 6),AT AF KS u)/\L T 6=Aw ltT (L T 0) (I T 2).toNat (I T 5).toNat)(np0:¬B T 34=true)(h7:(B T 7)=true->I T 5 < I T 3)(inv1:(I T 2)<=I T 9/\I T 9<=I T 5/\((B T 7)=true->((L T 10)).length=I T 1/\(∀u∈(L T 10),AT AF KS u)/\L T 10=CE (((L T 6)).take (I T 2).toNat) (((((L T 6)).take (I T 5).toNat).drop (I T 2).toNat).reverse) (((L T 6)).drop ((I T 5).toNat+1)) (((L T 6)).getD (I T 5).toNat []) ((I T 5) - (I T 9)).toNat/\∀q:Nat,(q:Int) < I T 5 - (I T 9)->ltT (((L T 6)).getD (I T 5).toNat []) ((((((L T 6)).take (I T 5).toNat).drop (I T 2).toNat).reverse).getD q [])=true))(np1:¬B T 33=true)(g1:0<=I T 2/\I T 2<=I T 3/\I T 2+1<=I T 5/\((I T 5)<=I T 3\/I T 5=I T 2+1)/\I T 3<=I T 1/\I T 1<=140737488355328)(g2:((L T 6)).length=I T 1/\∀u∈(L T 6),AT AF KS u)(A0:AH T GB)(C0_0:AH T E6)(B1:AH T EJ)(C0_1:AH T In):
  ((L T 6)=(Aw ltT (L T 0) (I T 2).toNat (I T 3).toNat)):=by
 have F0:=A0;clear A0;have F1:=C0_0;clear C0_0;obtain⟨F2,B1⟩:=B1.cut;obtain⟨F3,B1⟩:=B1.cut;have F4:=B1;clear B1;have F5:=C0_1;clear C0_1
 .obtain⟨e7,-⟩:=F1;obtain⟨-,-,-,-,-,-,e33,e34,-⟩:=F3;simp only[AI,AP,zN,zR] at e7 e33 e34;obtain⟨v1,v2,v3,v4,v5⟩:=inv0;obtain⟨p1,p2,p3,p4⟩:=pre0;have h7:¬I T 5 < I T 3:=fun h=>by
   have hb:=e7.2 h;by_cases h38:(B T 32)=true
   .exact np1 (e33.2 ⟨hb,h38⟩)
   .exact np0 (e34.2 ⟨hb,by simpa using h38⟩)
  rw[v5];by_cases h8:(I T 5)=I T 3
  .rw[h8]
  .have h:(I T 5)=I T 2+1:=by omega
   rw[h,show ((I T 2)+1).toNat=(I T 2).toNat+1 by omega,IU (by omega),KK (by omega) (by omega)]
theorem gR:Ae Try.prog 138 Fh:=by
 refine BH (l:=[(72,Jm)]) Bh (by simp only[wJ];exact⟨Zk,fun _ h=>absurd h (by simp)⟩) gi (by kernel_rfl) fun T us hpre hT hul hS hBd hE=>?_;change us.length=4 at hul;obtain⟨⟨hl0,he0⟩,⟨lo1,hi1⟩,-⟩:=hBd;replace hl0:(L T 0).length<=140737488355328:=hl0;have hk0:∀u∈(L T 0),AT AF KS u:=fun u hu=>by
  obtain⟨i,hi⟩:=wP.1 hu;exact he0 i u hi
 replace lo1:0<=I T 1:=lo1;replace hi1:I T 1<=140737488355328:=hi1;have ha0:aL us 0=L T 0:=inL hT hul (by decide);have ha1:aI us 1=I T 1:=inI hT hul (by decide);have ha2:aI us 2=I T 2:=inI hT hul (by decide);have ha3:aI us 3=I T 3:=inI hT hul (by decide);have pre0:((L T 0)).length=I T 1/\0<=I T 2/\I T 2<=I T 3/\I T 3<=I T 1:=by
  have h:=hpre (.s "insS.p0",HC) (by simp[Fh]);change HC us at h;unfold HC at h;simp only[ha0,ha1,ha2,ha3] at h;exact h
 clear hpre;rw[v7,v7,v7] at hE;have hA:=hE.left;replace hE:=hE.right;have hH:=hE.left;replace hE:=hE.right;have hB:=hE.left;replace hE:=hE.right;obtain⟨A0,hS1⟩:=Ai hS (by kernel_rfl) hA;have h4:=bT hl0 hk0 lo1 hi1 pre0 A0;obtain⟨ow0,hS2,inv0,np0⟩:=ec hk0 pre0 h4 hi1 hS1 hB hH;have g1:0<=I T 2/\I T 2<=I T 3/\I T 2+1<=I T 5/\((I T 5)<=I T 3\/I T 5=I T 2+1)/\I T 3<=I T 1/\I T 1<=140737488355328:=by
  have fv2:I T 2=I T 2:=rfl;have fv1:I T 1=I T 1:=rfl;have fv3:I T 3=I T 3:=rfl;have inv:=inv0;obtain⟨v1,v2,v3,v4,v5⟩:=inv;rw[fv2,fv1,fv3];omega
 have g2:((L T 6)).length=I T 1/\∀u∈(L T 6),AT AF KS u:=by
  have fv2:I T 2=I T 2:=rfl;have fv1:I T 1=I T 1:=rfl;have fv3:I T 3=I T 3:=rfl;have inv:=inv0;obtain⟨v1,v2,v3,v4,v5⟩:=inv;rw[fv1];exact⟨v3,v4⟩
 obtain⟨C0_0,h7,ow1,inv1,np1,B1,C0_1,hSe⟩:=Va g1 g2 (hS2.append (C7 (fun _ _=>rfl) hS1)) hB;have hS:=hSe.append hS1;clear hA hB hH hS1 hS2 hSe;obtain⟨A2,hO⟩:=BG (tys:=[.l]) (rs:=ZU) hS (by kernel_rfl) hE;have q0:=gh hl0 hk0 lo1 pre0 h4 hi1 inv0 np0 h7 inv1 np1 g1 g2 A0 C0_0 B1 C0_1;refine⟨⟨(fun _=>ow0),trivial⟩,hO.trans ?_⟩;exact (lc (by show U.list (L T 6)= .list (JK us);unfold JK;rw[ha0,ha2,ha3];exact congrArg U.list q0) rfl)
end
section
open Go Go.Eng Go.Proofs
def Oy:List U->List (List U):=fun us=>((aL us 0))
def Ly:List U->Prop:=fun us=>False
def Pn:AV:={ sh:=[.one (k64),.one (k64),.one (k64),.cst (.fn (.func 72) [] [])],blks:=[],outs:=[(.s "symS.0",Eg Oy)],c:= .tup [],m':=[.mrow 5 1 [.str,k64,k64,k64,k64,k64] 61],pre:=[(.s "symS.p0",Ly)],row:=some ([.str,k64,k64,k64,k64,k64],61) }
theorem fZ:Ae Try.prog 139 Pn:=by
 refine⟨fun _=>Oj,fun T us _ _ _ hp=>?_⟩;exact (hp (.s "symS.p0",Ly) (by simp[Pn])).elim
end
section
open Go Go.Eng Go.Proofs
set_option maxHeartbeats 4000000
set_option maxRecDepth 100000
def Jt:List U->List (List U):=fun us=>(Aw ltT (aL us 0) 0 (aI us 2).toNat)
def Ht:List U->Prop:=fun us=>((aL us 0)).length=(aI us 1)/\(aI us 2)=(aI us 1)/\(aI us 1)<=20
def Dy:AV:={ sh:=[.one (k64),.cst (.fn (.func 72) [] [])],blks:=[],outs:=[(.s "stabS.0",Eg Jt)],c:= .tup [],m':=[.mrow 3 1 [.str,k64,k64,k64,k64,k64] 61],pre:=[(.s "stabS.p0",Ht)],row:=some ([.str,k64,k64,k64,k64,k64],61) }
def GD:List En:=[]
def WX:List En:=[⟨6,.le,[.e 4,.e 2]⟩,
 ⟨7,.not,[.e 6]⟩,
 ⟨8,.outL "insS.0" JK,[.e 5,.e 1,.e 3,.e 4]⟩,
 ⟨9,.w2 .i64 .add,[.e 4,.c (.int 20)]⟩]
def CW:List En:=WX
def Rw:List ObE:=[⟨some 6,.pre "insS.p0" HC,[.e 5,.e 1,.e 3,.e 4]⟩]
def Jv:Ag:=mkD 3 3 CW 6 [.e 4,.e 9,.e 8] Rw [1,2]
def NF:List Rf:=[.e 1,.e 2,.c (.int 0),.c (.int 20),.e 0]
def WM:List En:=[⟨10,.outL "insS.0" JK,[.e 5,.e 1,.e 3,.e 2]⟩]
def Ei:List En:=WM
def Sx:List En:=[⟨15,.lt,[.e 13,.e 2]⟩,
 ⟨16,.and,[.e 7,.e 15]⟩,
 ⟨17,.and,[.e 7,.n 15]⟩,
 ⟨18,.w2 .i64 .mul,[.c (.int 2),.e 13]⟩]
def ET:List En:=Sx
def WJ:List En:=[⟨22,.le,[.e 20,.e 2]⟩,
 ⟨23,.and,[.e 16,.e 22]⟩,
 ⟨24,.and,[.e 16,.n 22]⟩,
 ⟨25,.w2 .i64 .add,[.e 19,.e 13]⟩,
 ⟨26,.outL "symS.0" Oy,[.e 21,.e 1,.e 19,.e 25,.e 20]⟩,
 ⟨27,.w2 .i64 .mul,[.c (.int 2),.e 13]⟩,
 ⟨28,.w2 .i64 .add,[.e 20,.e 27]⟩]
def DY:List En:=WJ
def Rm:List ObE:=[⟨some 23,.pre "symS.p0" Ly,[.e 21,.e 1,.e 19,.e 25,.e 20]⟩]
def H6:Ag:=mkD 19 3 DY 23 [.e 20,.e 28,.e 26] Rm [13,1,16,2]
def KC:List Rf:=[.e 13,.e 1,.e 16,.e 2,.c (.int 0),.e 18,.e 14]
def Ss:List En:=[⟨29,.w2 .i64 .add,[.e 19,.e 13]⟩,
 ⟨30,.lt,[.e 29,.e 2]⟩,
 ⟨31,.and,[.e 24,.e 30]⟩,
 ⟨32,.outL "symS.0" Oy,[.e 21,.e 1,.e 19,.e 29,.e 2]⟩,
 ⟨33,.and,[.e 24,.n 30]⟩,
 ⟨34,.ite .l,[.e 30,.e 32,.e 21]⟩,
 ⟨35,.w2 .i64 .mul,[.e 13,.c (.int 2)]⟩]
def Hj:List En:=Ss
def GT:List En:=ET++((BS H6 [.i,.i,.l] KC)++(DY++(Hj)))
def SP:List ObE:=[⟨some 31,.pre "symS.p0" Ly,[.e 21,.e 1,.e 19,.e 29,.e 2]⟩,⟨some 16,.owes H6,[.e 13,.e 1,.e 16,.e 2,.c (.int 0),.e 18,.e 14]⟩]
def KL:Ag:=mkD 11 4 GT 24 [.e 19,.e 20,.e 35,.e 34] SP [1,2,7]
def Mu:List Rf:=[.e 1,.e 2,.e 7,.e 3,.e 4,.c (.int 20),.e 10]
def bF:List En:=[]
def fb:List ObE:=[⟨some 7,.owes KL,[.e 1,.e 2,.e 7,.e 3,.e 4,.c (.int 20),.e 10]⟩,
 ⟨some 7,.pre "insS.p0" HC,[.e 5,.e 1,.e 3,.e 2]⟩,
 ⟨none,.owes Jv,[.e 1,.e 2,.c (.int 0),.c (.int 20),.e 0]⟩]
def XZ:List Rf:=[.e 14]
theorem gN:Dy.sees XZ (Dy.run Try.prog [(138,Fh),(139,Pn)] AW 3000 20 122)=some ((GD++((BS Jv [.i,.i,.l] NF)++(CW++(Ei++((BS KL [.i,.i,.i,.l] Mu)++(GT++(bF))))))).map En.be,fb.map ObE.be,[]):=by kernel_rfl
theorem Zj {T:Tab}(pre0:((L T 0)).length=I T 1/\I T 2=I T 1/\I T 1<=20)(hS:AK T (Ab (BK 0 Dy.ks) GD))(hB:Ac T (CW.map En.be))(hH:Ac T ((BS Jv [.i,.i,.l] NF).map En.be)):
  (Jv).owes (NF.map (Rf.eval T))/\AK T (hds 3 [.i,.i,.l])/\(((I T 3)=0/\I T 4=20/\L T 5=L T 0)\/((I T 3)=20/\I T 4=40/\I T 2=20/\L T 5=Aw ltT (L T 0) 0 20))/\¬B T 6=true:=by
 refine CK (nh:=3) (k:=3) (pcn:=6) (top:=10) (bes:=CW) (bos:=Rw) (nxt:=[.e 4,.e 9,.e 8]) (inits:=[.c (.int 0),.c (.int 20),.e 0]) (fv:=[1,2]) (tys:=[.i,.i,.l]) (by kernel_rfl) rfl rfl rfl rfl hS (by kernel_rfl) (by kernel_rfl) hB (BV hH) (fun s=>((aI s 0)=0/\(aI s 1)=20/\(aL s 2)=L T 0)\/((aI s 0)=20/\(aI s 1)=40/\I T 2=20/\(aL s 2)=Aw ltT (L T 0) 0 20)) (fun s=>((I T 2)+1 - (aI s 1)).toNat) ?_ ?_
 .show ((0:Int)=0/\(20:Int)=20/\L T 0=L T 0)\/((0:Int)=20/\(20:Int)=40/\I T 2=20/\L T 0=Aw ltT (L T 0) 0 20);clear hS hB hH;exact .inl ⟨rfl,rfl,rfl⟩
 .intro T2 hfv hF inv;replace inv:((I T2 3)=0/\I T2 4=20/\L T2 5=L T 0)\/((I T2 3)=20/\I T2 4=40/\I T 2=20/\L T2 5=Aw ltT (L T 0) 0 20):=inv;clear hS hB hH;replace hF:AH T2 CW:=hF;have F0:=hF;clear hF;have fv1:I T2 1=I T 1:=fvI (hfv 1 (by decide));have fv2:I T2 2=I T 2:=fvI (hfv 2 (by decide));clear hfv
  suffices hz:(B T2 6=true->((L T2 5)).length=I T2 1/\0<=I T2 3/\I T2 3<=I T2 4/\I T2 4<=I T2 1)/\(B T2 6=true->(((I T2 4)=0/\I T2 9=20/\L T2 8=L T 0)\/((I T2 4)=20/\I T2 9=40/\I T 2=20/\L T2 8=Aw ltT (L T 0) 0 20)))/\(B T2 6=true->((I T 2)+1 - (I T2 9)).toNat < ((I T 2)+1 - (I T2 4)).toNat) from
   let⟨r0,nx,mz⟩:=hz;⟨⟨r0,trivial⟩,fun hp=>⟨nx hp,mz hp⟩⟩
  refine⟨?_,?_,?_⟩
  .obtain⟨e6,-⟩:=F0;simp only[AI,zR] at e6;intro hp;have h6:=e6.1 hp;rw[fv2] at h6;rcases inv with⟨v1,v2,v3⟩|⟨v1,v2,v3,v4⟩
   .rw[fv1,v3];omega
   .omega
  .obtain⟨e6,-,e8,e9,-⟩:=F0;replace e8:L T2 8=(Aw ltT (L T2 5) (I T2 3).toNat (I T2 4).toNat):=e8;simp only[AI,zR,w2P] at e6 e9;intro hp;have h6:=e6.1 hp;rw[fv2] at h6;have x9:=e9 (by omega) (by omega);rcases inv with⟨v1,v2,v3⟩|⟨v1,v2,v3,v4⟩
   .refine .inr ⟨v2,by omega,by omega,?_⟩;rw[e8,v1,v2,v3];rfl
   .omega
  .obtain⟨e6,-,-,e9,-⟩:=F0;simp only[AI,zR,w2P] at e6 e9;intro hp;have h6:=e6.1 hp;rw[fv2] at h6;have x9:=e9 (by omega) (by omega);omega
theorem X2 {T:Tab}(hl0:(L T 0).length<=140737488355328)(hk0:∀u∈(L T 0),AT AF KS u)(lo1:0<=I T 1)(hi1:I T 1<=140737488355328)(pre0:((L T 0)).length=I T 1/\I T 2=I T 1/\I T 1<=20)(inv0:((I T 3)=0/\I T 4=20/\L T 5=L T 0)\/((I T 3)=20/\I T 4=40/\I T 2=20/\L T 5=Aw ltT (L T 0) 0 20))(np0:¬B T 6=true)(B0:AH T CW)(A1:AH T Ei):
  ((I T 2)<=20):=by
 have F0:=B0;clear B0;have F1:=A1;clear A1;have h20:(I T 2)<=20:=by
  omega
 exact h20
theorem Yy {T:Tab}(g1:(I T 13)=20/\I T 2<=20)(C1_0:AH T ET):
  (¬B T 16=true):=by
 have F0:=C1_0;clear C1_0;have g2:¬B T 16=true:=by
  obtain⟨e15,e16,-⟩:=F0;simp only[AI,AP,zR] at e15 e16;intro hp;have h15:=e15.1 (e16.1 hp).2;omega
 exact g2
theorem ZO {T:Tab}(g2:¬B T 16=true)(hS:AK T (Ab (hds 11 [.i,.i,.i,.l]++FQ [1,2,7] (Ab (Ab (hds 3 [.i,.i,.l]++(Ab (BK 0 Dy.ks) GD)) CW) Ei)) ET))(hB:Ac T (DY.map En.be))(hH:Ac T ((BS H6 [.i,.i,.l] KC).map En.be)):
  (H6).owes (KC.map (Rf.eval T))/\AK T (hds 19 [.i,.i,.l])/\(True)/\¬B T 23=true:=by
 refine CK (nh:=19) (k:=3) (pcn:=23) (top:=29) (bes:=DY) (bos:=Rm) (nxt:=[.e 20,.e 28,.e 26]) (inits:=[.c (.int 0),.e 18,.e 14]) (fv:=[13,1,16,2]) (tys:=[.i,.i,.l]) (by kernel_rfl) rfl rfl rfl rfl hS (by kernel_rfl) (by kernel_rfl) hB (BV hH) (fun s=>True) (fun s=>((aI s 1)).toNat) ?_ ?_
 .show True;clear hS hB hH;trivial
 .intro T2 hfv hF inv;replace inv:True:=inv;clear hS hB hH;replace hF:AH T2 DY:=hF;have F0:=hF;clear hF;have fv13:I T2 13=I T 13:=fvI (hfv 13 (by decide));have fv1:I T2 1=I T 1:=fvI (hfv 1 (by decide));have fv16:B T2 16=B T 16:=fvB (hfv 16 (by decide));have fv2:I T2 2=I T 2:=fvI (hfv 2 (by decide));clear hfv
  suffices hz:(B T2 23=true->False)/\(B T2 23=true->(True))/\(B T2 23=true->((I T2 28)).toNat < ((I T2 20)).toNat) from
   let⟨r0,nx,mz⟩:=hz;⟨⟨r0,trivial⟩,fun hp=>⟨nx hp,mz hp⟩⟩
  refine⟨?_,?_,?_⟩
  .obtain⟨-,e23,-⟩:=F0;simp only[AI,AP,zR] at e23;intro hp;exact absurd (e23.1 hp).1 (by rw[fv16];exact g2)
  .obtain⟨-,e23,-⟩:=F0;simp only[AI,AP,zR] at e23;intro hp;exact absurd (e23.1 hp).1 (by rw[fv16];exact g2)
  .obtain⟨-,e23,-⟩:=F0;simp only[AI,AP,zR] at e23;intro hp;exact absurd (e23.1 hp).1 (by rw[fv16];exact g2)
theorem Rv {T:Tab}(g1:(I T 13)=20/\I T 2<=20)(hS:AK T (hds 11 [.i,.i,.i,.l]++FQ [1,2,7] (Ab (Ab (hds 3 [.i,.i,.l]++(Ab (BK 0 Dy.ks) GD)) CW) Ei)))(hE:Ac T (GT.map En.be)):
  (AH T ET)/\(¬B T 16=true)/\((H6).owes (KC.map (Rf.eval T)))/\(True)/\(¬B T 23=true)/\(AH T DY)/\(AH T Hj)/\AK T (Ab (Ab (hds 19 [.i,.i,.l]++(Ab (hds 11 [.i,.i,.i,.l]++FQ [1,2,7] (Ab (Ab (hds 3 [.i,.i,.l]++(Ab (BK 0 Dy.ks) GD)) CW) Ei)) ET)) DY) Hj):=by
 unfold GT at hE;rw[v7,v7,v7] at hE;have hA:=hE.left;replace hE:=hE.right;have hH:=hE.left;replace hE:=hE.right;have hB:=hE.left;replace hE:=hE.right;obtain⟨C1_0,hS1⟩:=Ai hS (by kernel_rfl) hA;have g2:=Yy g1 C1_0;obtain⟨ow2,hS2,inv2,np2⟩:=ZO g2 hS1 hB hH;have hF2:=(Ai (hS2.append hS1) (l:=DY) (by kernel_rfl) hB);obtain⟨B2,hS⟩:=hF2;clear hA hB hH hS1 hS2;obtain⟨C1_1,hSe⟩:=Ai hS (by kernel_rfl) hE;exact⟨C1_0,g2,ow2,inv2,np2,B2,C1_1,hSe⟩
theorem bU {T:Tab}(h20:(I T 2)<=20)(hS:AK T (Ab (Ab (hds 3 [.i,.i,.l]++(Ab (BK 0 Dy.ks) GD)) CW) Ei))(hB:Ac T (GT.map En.be))(hH:Ac T ((BS KL [.i,.i,.i,.l] Mu).map En.be)):
  (KL).owes (Mu.map (Rf.eval T))/\AK T (hds 11 [.i,.i,.i,.l])/\((I T 13)=20/\L T 14=L T 10)/\¬B T 24=true:=by
 refine Lf (nh:=11) (k:=4) (pcn:=24) (top:=36) (bes:=GT) (bos:=SP) (nxt:=[.e 19,.e 20,.e 35,.e 34]) (inits:=[.e 3,.e 4,.c (.int 20),.e 10]) (fv:=[1,2,7]) (tys:=[.i,.i,.i,.l]) (by kernel_rfl) rfl rfl rfl rfl hS (by kernel_rfl) hB (BV hH) (fun s=>(aI s 2)=20/\(aL s 3)=L T 10) (fun s=>((aI s 2)).toNat) ?_ ?_
 .show (20:Int)=20/\L T 10=L T 10;clear hS hB hH;exact⟨rfl,rfl⟩
 .intro T2 hfv hS2 hE inv;replace inv:(I T2 13)=20/\L T2 14=L T 10:=inv;have fv1:I T2 1=I T 1:=fvI (hfv 1 (by decide));have fv2:I T2 2=I T 2:=fvI (hfv 2 (by decide));have fv7:B T2 7=B T 7:=fvB (hfv 7 (by decide));clear hfv;clear hS hB hH;have g1:(I T2 13)=20/\I T2 2<=20:=by
   rw[fv2];exact⟨inv.1,h20⟩
  obtain⟨C1_0,g2,ow2,inv2,np2,B2,C1_1,hSe⟩:=Rv g1 hS2 hE;clear hS2 hE;have hN:=B7 hSe (ts:=[.i,.i,.i,.l]) (rs:=[.e 19,.e 20,.e 35,.e 34]) (by kernel_rfl);clear hSe;have F0:=C1_0;clear C1_0;have F1:=B2;clear B2;have F2:=C1_1;clear C1_1
  suffices hz:(B T2 31=true->False)/\(B T2 24=true->((I T2 35)=20/\L T2 34=L T 10))/\(B T2 24=true->((I T2 35)).toNat < ((I T2 13)).toNat) from
   let⟨r0,nx,mz⟩:=hz;⟨hN,⟨r0,(fun _=>ow2),trivial⟩,fun hp=>⟨nx hp,mz hp⟩⟩
  refine⟨?_,?_,?_⟩
  .obtain⟨e15,e16,-⟩:=F0;obtain⟨-,-,e24,-⟩:=F1;obtain⟨-,-,e31,-⟩:=F2;simp only[AI,AP,zN,zR] at e15 e16 e24 e31;intro hp;have h16:=e15.1 (e16.1 (e24.1 (e31.1 hp).1).1).2;omega
  .obtain⟨e15,e16,-⟩:=F0;obtain⟨-,-,e24,-⟩:=F1;simp only[AI,AP,zN,zR] at e15 e16 e24;intro hp;have h16:=e15.1 (e16.1 (e24.1 hp).1).2;omega
  .obtain⟨e15,e16,-⟩:=F0;obtain⟨-,-,e24,-⟩:=F1;simp only[AI,AP,zN,zR] at e15 e16 e24;intro hp;have h16:=e15.1 (e16.1 (e24.1 hp).1).2;omega
theorem gX {T:Tab}(hl0:(L T 0).length<=140737488355328)(hk0:∀u∈(L T 0),AT AF KS u)(lo1:0<=I T 1)(hi1:I T 1<=140737488355328)(pre0:((L T 0)).length=I T 1/\I T 2=I T 1/\I T 1<=20)(inv0:((I T 3)=0/\I T 4=20/\L T 5=L T 0)\/((I T 3)=20/\I T 4=40/\I T 2=20/\L T 5=Aw ltT (L T 0) 0 20))(np0:¬B T 6=true)(h20:(I T 2)<=20)(inv1:(I T 13)=20/\L T 14=L T 10)(np1:¬B T 24=true)(g2:¬B T 16=true)(inv2:True)(np2:¬B T 23=true)(g1:(I T 13)=20/\I T 2<=20)(B0:AH T CW)(A1:AH T Ei)(C1_0:AH T ET)(B2:AH T DY)(C1_1:AH T Hj):
  ((L T 14)=(Aw ltT (L T 0) 0 (I T 2).toNat))/\
  (B T 7=true->((L T 5)).length=I T 1/\0<=I T 3/\I T 3<=I T 2/\I T 2<=I T 1):=by
 have F0:=B0;clear B0;have F1:=A1;clear A1;have F2:=C1_0;clear C1_0;have F3:=B2;clear B2;have F4:=C1_1;clear C1_1;refine⟨?_,?_⟩
 .obtain⟨e10,-⟩:=F1;replace e10:L T 10=(Aw ltT (L T 5) (I T 3).toNat (I T 2).toNat):=e10;rw[inv1.2,e10];rcases inv0 with⟨v1,v2,v3⟩|⟨v1,v2,v3,v4⟩
  .rw[v1,v3];rfl
  .rw[v1,v3];show Aw ltT (L T 5) 20 20=Aw ltT (L T 0) 0 20;rw[KK (vr _) (vr _),v4]
 .intro hp;rcases inv0 with⟨v1,v2,v3⟩|⟨v1,v2,v3,v4⟩
  .rw[v3];omega
  .rw[v4,Th (wX _) (by omega)];omega
theorem dZ:Ae Try.prog 122 Dy:=by
 refine BH (l:=[(138,Fh),(139,Pn)]) Bh (by simp only[wJ];exact⟨gR,fZ,fun _ h=>absurd h (by simp)⟩) gN (by kernel_rfl) fun T us hpre hT hul hS hBd hE=>?_;change us.length=3 at hul;obtain⟨⟨hl0,he0⟩,⟨lo1,hi1⟩,-⟩:=hBd;replace hl0:(L T 0).length<=140737488355328:=hl0;have hk0:∀u∈(L T 0),AT AF KS u:=fun u hu=>by
  obtain⟨i,hi⟩:=wP.1 hu;exact he0 i u hi
 replace lo1:0<=I T 1:=lo1;replace hi1:I T 1<=140737488355328:=hi1;have ha0:aL us 0=L T 0:=inL hT hul (by decide);have ha1:aI us 1=I T 1:=inI hT hul (by decide);have ha2:aI us 2=I T 2:=inI hT hul (by decide);have pre0:((L T 0)).length=I T 1/\I T 2=I T 1/\I T 1<=20:=by
  have h:=hpre (.s "stabS.p0",Ht) (by simp[Dy]);change Ht us at h;unfold Ht at h;simp only[ha0,ha1,ha2] at h;exact h
 clear hpre;rw[v7,v7,v7,v7,v7,v7] at hE;have hA:=hE.left;replace hE:=hE.right;have hH:=hE.left;replace hE:=hE.right;have hB:=hE.left;replace hE:=hE.right;obtain⟨A0,hS1⟩:=Ai hS (by kernel_rfl) hA;obtain⟨ow0,hS2,inv0,np0⟩:=Zj pre0 hS1 hB hH;have hF2:=(Ai (hS2.append hS1) (l:=CW) (by kernel_rfl) hB);obtain⟨B0,hS⟩:=hF2;clear hA hB hH hS1 hS2;have hA:=hE.left;replace hE:=hE.right;have hH:=hE.left;replace hE:=hE.right;have hB:=hE.left;replace hE:=hE.right;obtain⟨A1,hS1⟩:=Ai hS (by kernel_rfl) hA;have h20:=X2 hl0 hk0 lo1 hi1 pre0 inv0 np0 B0 A1;obtain⟨ow1,hS2,inv1,np1⟩:=bU h20 hS1 hB hH;have g1:(I T 13)=20/\I T 2<=20:=by
  have fv1:I T 1=I T 1:=rfl;have fv2:I T 2=I T 2:=rfl;have fv7:B T 7=B T 7:=rfl;have inv:=inv1;rw[fv2];exact⟨inv.1,h20⟩
 obtain⟨C1_0,g2,ow2,inv2,np2,B2,C1_1,hSe⟩:=Rv g1 (hS2.append (C7 (fun _ _=>rfl) hS1)) hB;have hS:=hSe.append hS1;clear hA hB hH hS1 hS2 hSe;obtain⟨A3,hO⟩:=BG (tys:=[.l]) (rs:=XZ) hS (by kernel_rfl) hE;obtain⟨q0,r0⟩:=gX hl0 hk0 lo1 hi1 pre0 inv0 np0 h20 inv1 np1 g2 inv2 np2 g1 B0 A1 C1_0 B2 C1_1;refine⟨⟨(fun _=>ow1),r0,(fun _=>ow0),trivial⟩,hO.trans ?_⟩;exact (lc (by show U.list (L T 14)= .list (Jt us);unfold Jt;rw[ha0,ha2];exact congrArg U.list q0) rfl)
def MG:List U->List (List U):=fun us=>(C5 ltT (aL us 0))
def JB:List U->Prop:=fun us=>((aL us 0)).length<=20
def LG:AV:={ sh:=[.one (.list [.str,k64,k64,k64,k64,k64]),.cst (.fn (.func 72) [] [])],blks:=[],outs:=[(.s "ordS.0",Eg MG)],c:= .ro 1 [.str,k64,k64,k64,k64,k64],m':=[],pre:=[(.s "ordS.p0",JB)] }
def X8:List En:=[⟨1,.id .l,[.c (.list [])]⟩,
 ⟨2,.id .i,[.c (.int 0)]⟩,
 ⟨3,.app,[.e 1,.e 0]⟩,
 ⟨4,.len,[.e 3]⟩,
 ⟨5,.outL "stabS.0" Jt,[.e 3,.e 4,.e 4]⟩]
def T7:List En:=X8
def gu:List ObE:=[⟨none,.pre "stabS.p0" Ht,[.e 3,.e 4,.e 4]⟩,
 ⟨none,.fits 56,[.e 1,.e 0]⟩]
def ZX:List Rf:=[.e 5]
theorem gg:LG.sees ZX (LG.runC Try.prog Kn [(122,Dy)] AW 3000 20 71)=some ((T7).map En.be,gu.map ObE.be,[]):=by kernel_rfl
theorem iY {T:Tab}(hl0:(L T 0).length<=140737488355328)(hk0:∀u∈(L T 0),AT AF KS u)(pre0:((L T 0)).length<=20)(A0:AH T T7):
  ((L T 5)=(C5 ltT (L T 0)))/\
  (((L T 3)).length=I T 4/\I T 4=I T 4/\I T 4<=20)/\
  ((((L T 1)).length+((L T 0)).length)*56<=140737488355328):=by
 have F0:=A0;clear A0;refine⟨?_,?_,?_⟩
 .obtain⟨e1,-,e3,e4,e5,-⟩:=F0;replace e5:L T 5=(Aw ltT (L T 3) 0 (I T 4).toNat):=e5;simp only[AI,AP,zR,zL,zS] at e1 e3 e4;have h3:(L T 3)=L T 0:=by rw[e3,e1];rfl
  rw[e5,e4,h3];exact Ug (by omega)
 .obtain⟨e1,-,e3,e4,-⟩:=F0;simp only[AI,AP,zR,zL,zS] at e1 e3 e4;have h3:(L T 3)=L T 0:=by rw[e3,e1];rfl
  refine⟨e4.symm,rfl,?_⟩;rw[e4,h3];omega
 .obtain⟨e1,-⟩:=F0;simp only[AI,zR,zL,zS] at e1;rw[e1];show (0+_)*_<=_;omega
theorem fz:Ae Try.prog 71 LG:=by
 refine LM Ju (l:=[(122,Dy)]) Bh (by simp only[wJ];exact⟨dZ,fun _ h=>absurd h (by simp)⟩) gg (by kernel_rfl) fun T us hpre hT hul hS hBd hE=>?_;change us.length=1 at hul;obtain⟨⟨hl0,he0⟩,-⟩:=hBd;replace hl0:(L T 0).length<=140737488355328:=hl0;have hk0:∀u∈(L T 0),AT AF KS u:=fun u hu=>by
  obtain⟨i,hi⟩:=wP.1 hu;exact he0 i u hi
 have ha0:aL us 0=L T 0:=inL hT hul (by decide);have pre0:((L T 0)).length<=20:=by
  have h:=hpre (.s "ordS.p0",JB) (by simp[LG]);change JB us at h;unfold JB at h;simp only[ha0] at h;exact h
 clear hpre
 skip
 obtain⟨A0,hO⟩:=BG (tys:=[.l]) (rs:=ZX) hS (by kernel_rfl) hE;obtain⟨q0,r0,r1⟩:=iY hl0 hk0 pre0 A0;refine⟨⟨(fun _=>r0),(fun _=>r1),trivial⟩,hO.trans ?_⟩;exact (lc (by show U.list (L T 5)= .list (MG us);unfold MG;rw[ha0];exact congrArg U.list q0) rfl)
def KA:List U->List (List U):=fun us=>(RH (aL us 0) (aL us 1) (aI us 2) (aI us 3))
def Jn:List U->Int:=fun us=>(Gh (aI us 2) (aI us 3))
def Hv:List U->Prop:=fun us=>(((aL us 0)).length<=20/\((aL us 1)).length<=20)/\Bj (aL us 0)=0/\B8 (aL us 1)=0
def Dr:AV:={ sh:=[.one (.list [.str,k64,k64]),.one (.list [k64,k64,k64,.bool,.str,.str,.bool,k64,k64]),.one (k64),.one (k64)],blks:=[],outs:=[(.s "Table.0",Eg KA),(.s "Table.1",Bl Jn)],c:= .tup [.ro 4 [.str,k64,k64,k64,k64,k64],(C4 5)],m':=[],pre:=[(.s "Table.p0",Hv)] }
def WF:List En:=[⟨4,.outI "checkPk.0" OO,[.e 0]⟩,
 ⟨5,.outI "checkLk.0" OT,[.e 1]⟩,
 ⟨6,.id .l,[.c (.list [])]⟩,
 ⟨7,.id .i,[.c (.int 0)]⟩,
 ⟨8,.app,[.e 6,.e 0]⟩,
 ⟨9,.len,[.e 8]⟩,
 ⟨10,.id .l,[.c (.list [])]⟩,
 ⟨11,.len,[.e 0]⟩]
def CZ:List En:=WF
def V1:List En:=[⟨14,.lt,[.e 12,.e 11]⟩,
 ⟨15,.not,[.e 14]⟩,
 ⟨16,.get .s 0,[.e 0,.e 12]⟩,
 ⟨17,.get .i 1,[.e 0,.e 12]⟩,
 ⟨18,.get .i 2,[.e 0,.e 12]⟩,
 ⟨19,.mset 1 [.s,.i],[.e 13,.e 16,.e 12]⟩,
 ⟨20,.w2 .i64 .add,[.e 12,.c (.int 1)]⟩]
def Bs:List En:=V1
def SK:List ObE:=[⟨some 14,.fits 1,[.e 13,.c (.list [[]])]⟩,⟨some 14,.inl,[.e 12,.e 0]⟩]
def KR:Ag:=mkD 12 2 Bs 14 [.e 20,.e 19] SK [0,11]
def NI:List Rf:=[.e 0,.e 11,.c (.int 0),.e 10]
def WI:List En:=[⟨21,.outL "books.0" Me,[.e 1]⟩,
 ⟨22,.len,[.e 21]⟩,
 ⟨23,.id .l,[.c (.list [])]⟩]
def C8:List En:=WI
def Wh:List En:=[⟨26,.lt,[.e 24,.e 22]⟩,
 ⟨27,.and,[.e 15,.e 26]⟩,
 ⟨28,.and,[.e 15,.n 26]⟩,
 ⟨29,.get .i 0,[.e 21,.e 24]⟩,
 ⟨30,.get .i 1,[.e 21,.e 24]⟩,
 ⟨31,.get .i 2,[.e 21,.e 24]⟩,
 ⟨32,.get .b 3,[.e 21,.e 24]⟩,
 ⟨33,.get .s 4,[.e 21,.e 24]⟩,
 ⟨34,.get .s 5,[.e 21,.e 24]⟩,
 ⟨35,.get .b 6,[.e 21,.e 24]⟩,
 ⟨36,.get .i 7,[.e 21,.e 24]⟩,
 ⟨37,.get .i 8,[.e 21,.e 24]⟩,
 ⟨38,.mget .i 1 0 [.s],[.e 13,.c (.int 0),.e 33]⟩,
 ⟨39,.mhas 1 [.s],[.e 13,.e 33]⟩,
 ⟨40,.mget .i 1 0 [.s],[.e 13,.c (.int 0),.e 34]⟩,
 ⟨41,.mhas 1 [.s],[.e 13,.e 34]⟩]
def Wl:List En:=[⟨42,.and,[.e 27,.e 39]⟩,
 ⟨43,.and,[.e 39,.e 41]⟩,
 ⟨44,.and,[.e 27,.e 43]⟩,
 ⟨45,.row 1 9 [.i,.i,.i,.b,.s,.s,.b,.i,.i],[.e 29,.e 30,.e 31,.e 32,.e 33,.e 34,.e 35,.e 36,.e 37]⟩,
 ⟨46,.app,[.e 25,.e 45]⟩,
 ⟨47,.and,[.e 27,.n 43]⟩,
 ⟨48,.ite .l,[.e 43,.e 46,.e 25]⟩,
 ⟨49,.ite .l,[.e 43,.e 46,.e 25]⟩,
 ⟨50,.w2 .i64 .add,[.e 24,.c (.int 1)]⟩]
def CG:List En:=Wh++(Wl)
def SD:List ObE:=[⟨some 44,.fits 88,[.e 25,.e 45]⟩,⟨some 27,.inl,[.e 24,.e 21]⟩]
def Jw:Ag:=mkD 24 2 CG 27 [.e 50,.e 49] SD [13,21,15,22]
def Mj:List Rf:=[.e 13,.e 21,.e 15,.e 22,.c (.int 0),.e 23]
def WW:List En:=[⟨51,.lt,[.e 2,.c (.int 0)]⟩,
 ⟨52,.not,[.e 51]⟩,
 ⟨53,.lt,[.e 3,.e 2]⟩,
 ⟨54,.or,[.e 51,.e 53]⟩,
 ⟨55,.not,[.e 54]⟩,
 ⟨56,.lt,[.c (.int 1099511627776),.e 3]⟩,
 ⟨57,.or,[.e 54,.e 56]⟩,
 ⟨58,.not,[.e 57]⟩,
 ⟨59,.rep [.s,.i,.i,.i,.i,.i],[.e 9,.c (.str ⟨#[]⟩),.c (.int 0),.c (.int 0),.c (.int 0),.c (.int 0),.c (.int 0)]⟩,
 ⟨60,.id .i,[.e 9]⟩]
def D5:List En:=WW
def WH:List En:=[⟨63,.lt,[.e 61,.e 9]⟩,
 ⟨64,.and,[.e 58,.e 63]⟩,
 ⟨65,.and,[.e 58,.n 63]⟩,
 ⟨66,.get .s 0,[.e 8,.e 61]⟩,
 ⟨67,.get .i 1,[.e 8,.e 61]⟩,
 ⟨68,.get .i 2,[.e 8,.e 61]⟩,
 ⟨69,.rset 0 [.s],[.e 62,.e 61,.e 66]⟩,
 ⟨70,.w2 .i64 .add,[.e 61,.c (.int 1)]⟩]
def Cq:List En:=WH
def Rp:List ObE:=[⟨some 64,.inr,[.e 61,.e 60]⟩,⟨some 64,.inr,[.e 61,.e 9]⟩]
def J3:Ag:=mkD 61 2 Cq 64 [.e 70,.e 69] Rp [8,58,9,60]
def NX:List Rf:=[.e 8,.e 58,.e 9,.e 60,.c (.int 0),.e 59]
def V2:List En:=[⟨71,.len,[.e 25]⟩,
 ⟨72,.id .l,[.c (.list [])]⟩]
def GF:List En:=V2
def Vu:List En:=[⟨76,.lt,[.e 73,.e 71]⟩,
 ⟨77,.and,[.e 65,.e 76]⟩,
 ⟨78,.and,[.e 65,.n 76]⟩,
 ⟨79,.get .i 0,[.e 25,.e 73]⟩,
 ⟨80,.get .i 1,[.e 25,.e 73]⟩,
 ⟨81,.get .i 2,[.e 25,.e 73]⟩,
 ⟨82,.get .b 3,[.e 25,.e 73]⟩,
 ⟨83,.get .s 4,[.e 25,.e 73]⟩,
 ⟨84,.get .s 5,[.e 25,.e 73]⟩,
 ⟨85,.get .b 6,[.e 25,.e 73]⟩,
 ⟨86,.get .i 7,[.e 25,.e 73]⟩,
 ⟨87,.get .i 8,[.e 25,.e 73]⟩,
 ⟨88,.le,[.e 2,.e 81]⟩,
 ⟨89,.and,[.e 77,.e 88]⟩,
 ⟨90,.lt,[.e 81,.e 3]⟩,
 ⟨91,.and,[.e 88,.e 90]⟩]
def V0:List En:=[⟨92,.and,[.e 77,.e 91]⟩,
 ⟨93,.row 1 9 [.i,.i,.i,.b,.s,.s,.b,.i,.i],[.e 79,.e 80,.e 81,.e 82,.e 83,.e 84,.e 85,.e 86,.e 87]⟩,
 ⟨94,.app,[.e 75,.e 93]⟩,
 ⟨95,.mget .i 1 0 [.s],[.e 13,.c (.int 0),.e 83]⟩,
 ⟨96,.get .i 1,[.e 74,.e 95]⟩,
 ⟨97,.wx .i64 .add,[.e 96,.c (.int 1)]⟩,
 ⟨98,.rset 1 [.i],[.e 74,.e 95,.e 97]⟩,
 ⟨99,.mget .i 1 0 [.s],[.e 13,.c (.int 0),.e 84]⟩,
 ⟨100,.get .i 2,[.e 98,.e 99]⟩,
 ⟨101,.wx .i64 .add,[.e 100,.c (.int 1)]⟩,
 ⟨102,.rset 2 [.i],[.e 98,.e 99,.e 101]⟩,
 ⟨103,.and,[.e 77,.n 91]⟩,
 ⟨104,.ite .l,[.e 91,.e 102,.e 74]⟩,
 ⟨105,.ite .l,[.e 91,.e 94,.e 75]⟩,
 ⟨106,.ite .l,[.e 91,.e 93,.c (.list [])]⟩,
 ⟨107,.w2 .i64 .add,[.e 73,.c (.int 1)]⟩]
def Dg:List En:=Vu++(V0)
def R9:List ObE:=[⟨some 92,.inr,[.e 99,.e 60]⟩,⟨some 92,.inr,[.e 99,.e 60]⟩,⟨some 92,.inr,[.e 95,.e 60]⟩,⟨some 92,.inr,[.e 95,.e 60]⟩,⟨some 92,.fits 88,[.e 75,.e 93]⟩,⟨some 77,.inl,[.e 73,.e 25]⟩]
def J9:Ag:=mkD 73 3 Dg 77 [.e 107,.e 104,.e 105] R9 [13,3,2,25,65,71,60]
def NB:List Rf:=[.e 13,.e 3,.e 2,.e 25,.e 65,.e 71,.e 60,.c (.int 0),.e 62,.e 72]
def WP:List En:=[⟨108,.len,[.e 75]⟩]
def J8:List En:=WP
def WY:List En:=[⟨111,.lt,[.e 109,.e 108]⟩,
 ⟨112,.and,[.e 78,.e 111]⟩,
 ⟨113,.and,[.e 78,.n 111]⟩,
 ⟨114,.get .i 0,[.e 75,.e 109]⟩,
 ⟨115,.get .i 1,[.e 75,.e 109]⟩,
 ⟨116,.get .i 2,[.e 75,.e 109]⟩,
 ⟨117,.get .b 3,[.e 75,.e 109]⟩,
 ⟨118,.get .s 4,[.e 75,.e 109]⟩,
 ⟨119,.get .s 5,[.e 75,.e 109]⟩,
 ⟨120,.get .b 6,[.e 75,.e 109]⟩,
 ⟨121,.get .i 7,[.e 75,.e 109]⟩,
 ⟨122,.get .i 8,[.e 75,.e 109]⟩,
 ⟨123,.mget .i 1 0 [.s],[.e 13,.c (.int 0),.e 118]⟩,
 ⟨124,.mget .i 1 0 [.s],[.e 13,.c (.int 0),.e 119]⟩,
 ⟨125,.wx .i64 .sub,[.e 121,.e 122]⟩,
 ⟨126,.get .i 4,[.e 110,.e 123]⟩]
def V7:List En:=[⟨127,.wx .i64 .add,[.e 126,.e 125]⟩,
 ⟨128,.rset 4 [.i],[.e 110,.e 123,.e 127]⟩,
 ⟨129,.get .i 4,[.e 128,.e 124]⟩,
 ⟨130,.wx .i64 .sub,[.e 129,.e 125]⟩,
 ⟨131,.rset 4 [.i],[.e 128,.e 124,.e 130]⟩,
 ⟨132,.get .i 5,[.e 131,.e 123]⟩,
 ⟨133,.get .i 1,[.e 131,.e 124]⟩,
 ⟨134,.wx .i64 .add,[.e 132,.e 133]⟩,
 ⟨135,.rset 5 [.i],[.e 131,.e 123,.e 134]⟩,
 ⟨136,.get .i 1,[.e 135,.e 123]⟩,
 ⟨137,.get .i 1,[.e 135,.e 124]⟩,
 ⟨138,.eq,[.e 136,.e 137]⟩,
 ⟨139,.and,[.e 112,.e 138]⟩,
 ⟨140,.get .i 3,[.e 135,.e 123]⟩,
 ⟨141,.wx .i64 .add,[.e 140,.c (.int 1)]⟩,
 ⟨142,.rset 3 [.i],[.e 135,.e 123,.e 141]⟩]
def WL:List En:=[⟨143,.and,[.e 112,.n 138]⟩,
 ⟨144,.ite .l,[.e 138,.e 142,.e 135]⟩,
 ⟨145,.w2 .i64 .add,[.e 109,.c (.int 1)]⟩]
def E4:List En:=WY++(V7++(WL))
def R6:List ObE:=[⟨some 112,.inr,[.e 124,.e 60]⟩,⟨some 112,.inr,[.e 123,.e 60]⟩,⟨some 112,.inl,[.e 109,.e 75]⟩]
def Jq:Ag:=mkD 109 2 E4 112 [.e 145,.e 144] R6 [13,75,78,108,60]
def NR:List Rf:=[.e 13,.e 75,.e 78,.e 108,.e 60,.c (.int 0),.e 74]
def WS:List En:=[⟨146,.ite .l,[.e 57,.c (.list []),.e 75]⟩,
 ⟨147,.ite .l,[.e 57,.c (.list []),.e 110]⟩,
 ⟨148,.not,[.e 57]⟩,
 ⟨149,.ite .i,[.e 57,.c (.int 3),.c (.int 0)]⟩,
 ⟨150,.or,[.e 57,.e 58]⟩,
 ⟨151,.ne,[.e 149,.c (.int 0)]⟩,
 ⟨152,.not,[.e 151]⟩,
 ⟨153,.outL "ordS.0" MG,[.e 147]⟩,
 ⟨154,.ite .i,[.e 151,.e 149,.c (.int 0)]⟩,
 ⟨155,.ite .l,[.e 151,.c (.list []),.e 153]⟩,
 ⟨156,.or,[.e 151,.e 152]⟩]
def Rl:List En:=WS
def fk:List ObE:=[⟨some 152,.pre "ordS.p0" JB,[.e 147]⟩,
 ⟨some 78,.owes Jq,[.e 13,.e 75,.e 78,.e 108,.e 60,.c (.int 0),.e 74]⟩,
 ⟨some 65,.owes J9,[.e 13,.e 3,.e 2,.e 25,.e 65,.e 71,.e 60,.c (.int 0),.e 62,.e 72]⟩,
 ⟨some 58,.owes J3,[.e 8,.e 58,.e 9,.e 60,.c (.int 0),.e 59]⟩,
 ⟨some 58,.btw (0) (68719476736),[.e 9]⟩,
 ⟨some 15,.owes Jw,[.e 13,.e 21,.e 15,.e 22,.c (.int 0),.e 23]⟩,
 ⟨some 15,.pre "books.p0" Nd,[.e 1]⟩,
 ⟨none,.owes KR,[.e 0,.e 11,.c (.int 0),.e 10]⟩,
 ⟨none,.fits 32,[.e 6,.e 0]⟩,
 ⟨none,.pre "checkLk.p0" Og,[.e 1]⟩,
 ⟨none,.pre "checkPk.p0" OG,[.e 0]⟩]
def W3:List Rf:=[.e 155,.e 154]
end
end Go.Eng
end
