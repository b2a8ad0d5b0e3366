/-
  A part of the proof: K_insSd K_insS.
-/
import Derived.Test.YtikbgnmcfncnaaaE4
import Derived.Test.YtikbgnmcfncnaaaE5
import Derived.Test.YtikbgnmcfncnaaaKcmpTab
set_option linter.unusedVariables false
set_option linter.unusedSimpArgs false
noncomputable section
namespace Go.Eng
section
open Go Go.Eng Go.Proofs
set_option maxHeartbeats 4000000
set_option maxRecDepth 100000
def JK:List U->List (List U):=fun us=>(Aw ltT (aL us 0) (aI us 2).toNat (aI us 3).toNat)
def HC:List U->Prop:=fun us=>((aL us 0)).length=(aI us 1)/\0<=(aI us 2)/\(aI us 2)<=(aI us 3)/\(aI us 3)<=(aI us 1)
def Fh:AV:={ sh:=[.one (k64),.one (k64),.cst (.fn (.func 72) [] [])],blks:=[],outs:=[(.s "insS.0",Eg JK)],c:= .tup [],m':=[.mrow 4 1 [.str,k64,k64,k64,k64,k64] 61],pre:=[(.s "insS.p0",HC)],row:=some ([.str,k64,k64,k64,k64,k64],61) }
def eG:List Rf:=[.e 15,.e 16,.e 17,.e 18,.e 19,.e 20,.e 24,.e 25,.e 26,.e 27,.e 28,.e 29]
def Xp:List En:=[⟨4,.w2 .i64 .add,[.e 2,.c (.int 1)]⟩]
def GB:List En:=Xp
def Un:List En:=[⟨7,.lt,[.e 5,.e 3]⟩,
 ⟨8,.not,[.e 7]⟩]
def E6:List En:=Un
def Y1:List En:=[⟨11,.lt,[.e 2,.e 9]⟩,
 ⟨12,.and,[.e 7,.e 11]⟩,
 ⟨13,.and,[.e 7,.e 11]⟩,
 ⟨14,.and,[.e 7,.e 11]⟩,
 ⟨15,.get .s 0,[.e 10,.e 9]⟩,
 ⟨16,.get .i 1,[.e 10,.e 9]⟩,
 ⟨17,.get .i 2,[.e 10,.e 9]⟩,
 ⟨18,.get .i 3,[.e 10,.e 9]⟩,
 ⟨19,.get .i 4,[.e 10,.e 9]⟩,
 ⟨20,.get .i 5,[.e 10,.e 9]⟩,
 ⟨21,.and,[.e 7,.e 11]⟩,
 ⟨22,.and,[.e 7,.e 11]⟩,
 ⟨23,.w2 .i64 .sub,[.e 9,.c (.int 1)]⟩,
 ⟨24,.get .s 0,[.e 10,.e 23]⟩,
 ⟨25,.get .i 1,[.e 10,.e 23]⟩,
 ⟨26,.get .i 2,[.e 10,.e 23]⟩]
def YG:List En:=[⟨27,.get .i 3,[.e 10,.e 23]⟩,
 ⟨28,.get .i 4,[.e 10,.e 23]⟩,
 ⟨29,.get .i 5,[.e 10,.e 23]⟩,
 ⟨30,.outI "cmpTab.0" IP,eG⟩,
 ⟨31,.lt,[.e 30,.c (.int 0)]⟩,
 ⟨32,.and,[.e 11,.e 31]⟩,
 ⟨33,.and,[.e 7,.e 32]⟩,
 ⟨34,.and,[.e 7,.n 32]⟩,
 ⟨35,.w2 .i64 .sub,[.e 9,.c (.int 1)]⟩,
 ⟨36,.w2 .i64 .sub,[.e 9,.c (.int 1)]⟩,
 ⟨37,.get .s 0,[.e 10,.e 36]⟩,
 ⟨38,.get .i 1,[.e 10,.e 36]⟩,
 ⟨39,.get .i 2,[.e 10,.e 36]⟩,
 ⟨40,.get .i 3,[.e 10,.e 36]⟩,
 ⟨41,.get .i 4,[.e 10,.e 36]⟩,
 ⟨42,.get .i 5,[.e 10,.e 36]⟩]
def Xu:List En:=[⟨43,.get .s 0,[.e 10,.e 9]⟩,
 ⟨44,.get .i 1,[.e 10,.e 9]⟩,
 ⟨45,.get .i 2,[.e 10,.e 9]⟩,
 ⟨46,.get .i 3,[.e 10,.e 9]⟩,
 ⟨47,.get .i 4,[.e 10,.e 9]⟩,
 ⟨48,.get .i 5,[.e 10,.e 9]⟩,
 ⟨49,.rset 0 [.s,.i,.i,.i,.i,.i],[.e 10,.e 9,.e 37,.e 38,.e 39,.e 40,.e 41,.e 42]⟩,
 ⟨50,.rset 0 [.s,.i,.i,.i,.i,.i],[.e 49,.e 35,.e 43,.e 44,.e 45,.e 46,.e 47,.e 48]⟩,
 ⟨51,.w2 .i64 .sub,[.e 9,.c (.int 1)]⟩]
def EJ:List En:=Y1++(YG++(Xu))
def UQ:List ObE:=[⟨some 33,.inr,[.e 35,.e 1]⟩,⟨some 33,.inr,[.e 9,.e 1]⟩,⟨some 33,.inr,[.e 9,.e 1]⟩,⟨some 33,.inr,[.e 36,.e 1]⟩,⟨some 22,.inr,[.e 23,.e 1]⟩,⟨some 14,.inr,[.e 9,.e 1]⟩]
def Ja:Ag:=mkD 9 2 EJ 33 [.e 51,.e 50] UQ [7,2,1]
def Lp:List Rf:=[.e 7,.e 2,.e 1,.e 5,.e 6]
def Vj:List En:=[⟨52,.w2 .i64 .add,[.e 5,.c (.int 1)]⟩]
def In:List En:=Vj
def HD:List En:=E6++((BS Ja [.i,.l] Lp)++(EJ++(In)))
def UA:List ObE:=[⟨some 7,.owes Ja,[.e 7,.e 2,.e 1,.e 5,.e 6]⟩]
def MF:Ag:=mkD 5 2 HD 34 [.e 52,.e 10] UA [2,1,3]
def Oo:List Rf:=[.e 2,.e 1,.e 3,.e 4,.e 0]
def dS:List En:=[]
def g8:List ObE:=[⟨none,.owes MF,[.e 2,.e 1,.e 3,.e 4,.e 0]⟩]
def ZU:List Rf:=[.e 6]
theorem gi:Fh.sees ZU (Fh.run Try.prog [(72,Jm)] AW 3000 20 138)=some ((GB++((BS MF [.i,.l] Oo)++(HD++(dS)))).map En.be,g8.map ObE.be,[]):=by kernel_rfl
theorem bT {T:Tab}(hl0:(L T 0).length<=140737488355328)(hk0:∀u∈(L T 0),AT AF KS u)(lo1:0<=I T 1)(hi1:I T 1<=140737488355328)(pre0:((L T 0)).length=I T 1/\0<=I T 2/\I T 2<=I T 3/\I T 3<=I T 1)(A0:AH T GB):
  ((I T 4)=I T 2+1):=by
 have F0:=A0;clear A0;have h4:(I T 4)=I T 2+1:=by
  obtain⟨e4,-⟩:=F0;simp only[AI,zR,w2P] at e4;exact e4 (by omega) (by omega)
 have hi1:(I T 1)<=140737488355328:=by
  omega
 exact h4
theorem aR {T:Tab}(g1:0<=I T 2/\I T 2<=I T 3/\I T 2+1<=I T 5/\((I T 5)<=I T 3\/I T 5=I T 2+1)/\I T 3<=I T 1/\I T 1<=140737488355328)(g2:((L T 6)).length=I T 1/\∀u∈(L T 6),AT AF KS u)(C0_0:AH T E6):
  ((B T 7)=true->I T 5 < I T 3):=by
 have F0:=C0_0;clear C0_0;have h7:(B T 7)=true->I T 5 < I T 3:=by
  obtain⟨e7,-⟩:=F0;simp only[AI,zR] at e7;exact e7.1
 exact h7
theorem dH {T:Tab}(g1:0<=I T 2/\I T 2<=I T 3/\I T 2+1<=I T 5/\((I T 5)<=I T 3\/I T 5=I T 2+1)/\I T 3<=I T 1/\I T 1<=140737488355328)(g2:((L T 6)).length=I T 1/\∀u∈(L T 6),AT AF KS u)(h7:(B T 7)=true->I T 5 < I T 3)(hS:AK T (Ab (hds 5 [.i,.l]++FQ [2,1,3] (Ab (BK 0 Fh.ks) GB)) E6))(hB:Ac T (EJ.map En.be))(hH:Ac T ((BS Ja [.i,.l] Lp).map En.be)):
  (Ja).owes (Lp.map (Rf.eval T))/\AK T (hds 9 [.i,.l])/\((I T 2)<=I T 9/\I T 9<=I T 5/\((B T 7)=true->((L T 10)).length=I T 1/\(∀u∈(L T 10),AT AF KS u)/\L T 10=CE (((L T 6)).take (I T 2).toNat) (((((L T 6)).take (I T 5).toNat).drop (I T 2).toNat).reverse) (((L T 6)).drop ((I T 5).toNat+1)) (((L T 6)).getD (I T 5).toNat []) ((I T 5) - (I T 9)).toNat/\∀q:Nat,(q:Int) < I T 5 - (I T 9)->ltT (((L T 6)).getD (I T 5).toNat []) ((((((L T 6)).take (I T 5).toNat).drop (I T 2).toNat).reverse).getD q [])=true))/\¬B T 33=true:=by
 refine CK (nh:=9) (k:=2) (pcn:=33) (top:=52) (bes:=EJ) (bos:=UQ) (nxt:=[.e 51,.e 50]) (inits:=[.e 5,.e 6]) (fv:=[7,2,1]) (tys:=[.i,.l]) (by kernel_rfl) rfl rfl rfl rfl hS (by kernel_rfl) (by kernel_rfl) hB (BV hH) (fun s=>(I T 2)<=(aI s 0)/\(aI s 0)<=I T 5/\((B T 7)=true->((aL s 1)).length=I T 1/\(∀u∈(aL s 1),AT AF KS u)/\(aL s 1)=CE (((L T 6)).take (I T 2).toNat) (((((L T 6)).take (I T 5).toNat).drop (I T 2).toNat).reverse) (((L T 6)).drop ((I T 5).toNat+1)) (((L T 6)).getD (I T 5).toNat []) ((I T 5) - (aI s 0)).toNat/\∀q:Nat,(q:Int) < I T 5 - (aI s 0)->ltT (((L T 6)).getD (I T 5).toNat []) ((((((L T 6)).take (I T 5).toNat).drop (I T 2).toNat).reverse).getD q [])=true)) (fun s=>((aI s 0)).toNat) ?_ ?_
 .show (I T 2)<=I T 5/\I T 5<=I T 5/\((B T 7)=true->((L T 6)).length=I T 1/\(∀u∈(L T 6),AT AF KS u)/\L T 6=CE (((L T 6)).take (I T 2).toNat) (((((L T 6)).take (I T 5).toNat).drop (I T 2).toNat).reverse) (((L T 6)).drop ((I T 5).toNat+1)) (((L T 6)).getD (I T 5).toNat []) ((I T 5) - (I T 5)).toNat/\∀q:Nat,(q:Int) < I T 5 - (I T 5)->ltT (((L T 6)).getD (I T 5).toNat []) ((((((L T 6)).take (I T 5).toNat).drop (I T 2).toNat).reverse).getD q [])=true);clear hS hB hH;refine⟨by omega,Int.le_refl _,fun hb=>?_⟩;have h5:=h7 hb;refine⟨g2.1,g2.2,?_,fun q hq=>absurd hq (by omega)⟩;rw[show ((I T 5) - (I T 5)).toNat=0 by omega,Ta (by omega) (by omega)]
 .intro T2 hfv hF inv;replace inv:(I T 2)<=I T2 9/\I T2 9<=I T 5/\((B T 7)=true->((L T2 10)).length=I T 1/\(∀u∈(L T2 10),AT AF KS u)/\L T2 10=CE (((L T 6)).take (I T 2).toNat) (((((L T 6)).take (I T 5).toNat).drop (I T 2).toNat).reverse) (((L T 6)).drop ((I T 5).toNat+1)) (((L T 6)).getD (I T 5).toNat []) ((I T 5) - (I T2 9)).toNat/\∀q:Nat,(q:Int) < I T 5 - (I T2 9)->ltT (((L T 6)).getD (I T 5).toNat []) ((((((L T 6)).take (I T 5).toNat).drop (I T 2).toNat).reverse).getD q [])=true):=inv;clear hS hB hH;replace hF:AH T2 EJ:=hF;obtain⟨F0,hF⟩:=hF.cut;obtain⟨F1,hF⟩:=hF.cut;have F2:=hF;clear hF;have fv7:B T2 7=B T 7:=fvB (hfv 7 (by decide));have fv2:I T2 2=I T 2:=fvI (hfv 2 (by decide));have fv1:I T2 1=I T 1:=fvI (hfv 1 (by decide));clear hfv
  suffices hz:(B T2 33=true->0<=I T2 35/\I T2 35 < I T2 1)/\(B T2 33=true->0<=I T2 9/\I T2 9 < I T2 1)/\(B T2 33=true->0<=I T2 9/\I T2 9 < I T2 1)/\(B T2 33=true->0<=I T2 36/\I T2 36 < I T2 1)/\(B T2 22=true->0<=I T2 23/\I T2 23 < I T2 1)/\(B T2 14=true->0<=I T2 9/\I T2 9 < I T2 1)/\(B T2 33=true->((I T 2)<=I T2 51/\I T2 51<=I T 5/\((B T 7)=true->((L T2 50)).length=I T 1/\(∀u∈(L T2 50),AT AF KS u)/\L T2 50=CE (((L T 6)).take (I T 2).toNat) (((((L T 6)).take (I T 5).toNat).drop (I T 2).toNat).reverse) (((L T 6)).drop ((I T 5).toNat+1)) (((L T 6)).getD (I T 5).toNat []) ((I T 5) - (I T2 51)).toNat/\∀q:Nat,(q:Int) < I T 5 - (I T2 51)->ltT (((L T 6)).getD (I T 5).toNat []) ((((((L T 6)).take (I T 5).toNat).drop (I T 2).toNat).reverse).getD q [])=true)))/\(B T2 33=true->((I T2 51)).toNat < ((I T2 9)).toNat) from
   let⟨r0,r1,r2,r3,r4,r5,nx,mz⟩:=hz;⟨⟨r0,r1,r2,r3,r4,r5,trivial⟩,fun hp=>⟨nx hp,mz hp⟩⟩
  refine⟨?_,?_,?_,?_,?_,?_,?_,?_⟩
  .obtain⟨e11,-,-,e14,-,-,-,-,-,-,-,e22,e23,-⟩:=F0;obtain⟨-,-,-,-,e31,e32,e33,-,e35,e36,-⟩:=F1;obtain⟨-,-,-,-,-,-,-,-,e51,-⟩:=F2;simp only[AI,AP,zR,w2P] at e11 e14 e22 e23 e31 e32 e33 e35 e36 e51;obtain⟨v1,v2,v3⟩:=inv;intro hp;have h39:=e33.1 hp;have h11:=e11.1 (e32.1 h39.2).1;rw[fv2] at h11;have hb:(B T 7)=true:=by rw[<-fv7];exact h39.1
   have h5:=h7 hb;have x41:=e35 (by omega) (by omega);have x42:=e36 (by omega) (by omega);rw[fv1];omega
  .obtain⟨e11,-,-,e14,-,-,-,-,-,-,-,e22,e23,-⟩:=F0;obtain⟨-,-,-,-,e31,e32,e33,-,e35,e36,-⟩:=F1;obtain⟨-,-,-,-,-,-,-,-,e51,-⟩:=F2;simp only[AI,AP,zR,w2P] at e11 e14 e22 e23 e31 e32 e33 e35 e36 e51;obtain⟨v1,v2,v3⟩:=inv;intro hp;have h39:=e33.1 hp;have h11:=e11.1 (e32.1 h39.2).1;rw[fv2] at h11;have hb:(B T 7)=true:=by rw[<-fv7];exact h39.1
   have h5:=h7 hb;have x41:=e35 (by omega) (by omega);have x42:=e36 (by omega) (by omega);rw[fv1];omega
  .obtain⟨e11,-,-,e14,-,-,-,-,-,-,-,e22,e23,-⟩:=F0;obtain⟨-,-,-,-,e31,e32,e33,-,e35,e36,-⟩:=F1;obtain⟨-,-,-,-,-,-,-,-,e51,-⟩:=F2;simp only[AI,AP,zR,w2P] at e11 e14 e22 e23 e31 e32 e33 e35 e36 e51;obtain⟨v1,v2,v3⟩:=inv;intro hp;have h39:=e33.1 hp;have h11:=e11.1 (e32.1 h39.2).1;rw[fv2] at h11;have hb:(B T 7)=true:=by rw[<-fv7];exact h39.1
   have h5:=h7 hb;have x41:=e35 (by omega) (by omega);have x42:=e36 (by omega) (by omega);rw[fv1];omega
  .obtain⟨e11,-,-,e14,-,-,-,-,-,-,-,e22,e23,-⟩:=F0;obtain⟨-,-,-,-,e31,e32,e33,-,e35,e36,-⟩:=F1;obtain⟨-,-,-,-,-,-,-,-,e51,-⟩:=F2;simp only[AI,AP,zR,w2P] at e11 e14 e22 e23 e31 e32 e33 e35 e36 e51;obtain⟨v1,v2,v3⟩:=inv;intro hp;have h39:=e33.1 hp;have h11:=e11.1 (e32.1 h39.2).1;rw[fv2] at h11;have hb:(B T 7)=true:=by rw[<-fv7];exact h39.1
   have h5:=h7 hb;have x41:=e35 (by omega) (by omega);have x42:=e36 (by omega) (by omega);rw[fv1];omega
  .obtain⟨e11,-,-,e14,-,-,-,-,-,-,-,e22,e23,-⟩:=F0;obtain⟨-,-,-,-,e31,e32,e33,-,e35,e36,-⟩:=F1;obtain⟨-,-,-,-,-,-,-,-,e51,-⟩:=F2;simp only[AI,AP,zR,w2P] at e11 e14 e22 e23 e31 e32 e33 e35 e36 e51;obtain⟨v1,v2,v3⟩:=inv;intro hp;have h39:=e22.1 hp;have h11:=e11.1 h39.2;rw[fv2] at h11;have hb:(B T 7)=true:=by rw[<-fv7];exact h39.1
   have h5:=h7 hb;have x26:=e23 (by omega) (by omega);rw[fv1];omega
  .obtain⟨e11,-,-,e14,-,-,-,-,-,-,-,e22,e23,-⟩:=F0;obtain⟨-,-,-,-,e31,e32,e33,-,e35,e36,-⟩:=F1;obtain⟨-,-,-,-,-,-,-,-,e51,-⟩:=F2;simp only[AI,AP,zR,w2P] at e11 e14 e22 e23 e31 e32 e33 e35 e36 e51;obtain⟨v1,v2,v3⟩:=inv;intro hp;have h39:=e14.1 hp;have h11:=e11.1 h39.2;rw[fv2] at h11;have hb:(B T 7)=true:=by rw[<-fv7];exact h39.1
   have h5:=h7 hb;rw[fv1];omega
  .obtain⟨e11,-,-,-,e15,e16,-,e18,e19,e20,-,-,e23,e24,e25,-⟩:=F0;obtain⟨e27,e28,e29,e30,e31,e32,e33,-,e35,e36,e37,e38,e39,e40,e41,e42,-⟩:=F1;obtain⟨e43,e44,e45,e46,e47,e48,e49,e50,e51,-⟩:=F2;replace e30:I T2 30=(plN (I T2 16) (I T2 18) (I T2 19) (I T2 20) (S T2 15) (I T2 25) (I T2 27) (I T2 28) (I T2 29) (S T2 24)):=e30;simp only[AI,AP,zR,w2P,zL,zS,uR,zW,zC] at e11 e15 e16 e18 e19 e20 e23 e24 e25 e27 e28 e29 e31 e32 e33 e35 e36 e37 e38 e39 e40 e41 e42 e43 e44 e45 e46 e47 e48 e49 e50 e51;obtain⟨v1,v2,v3⟩:=inv;intro hp;have h39:=e33.1 hp;have h38:=e32.1 h39.2;have h11:=e11.1 h38.1;rw[fv2] at h11;have hb:(B T 7)=true:=by rw[<-fv7];exact h39.1
   have h5:=h7 hb;have x26:=e23 (by omega) (by omega);have x41:=e35 (by omega) (by omega);have x42:=e36 (by omega) (by omega);have x63:=e51 (by omega) (by omega);clear e23 e35 e36 e51;obtain⟨z1,z2,z3,z4⟩:=v3 hb;obtain⟨m1,m2,m3⟩:=Jx (l:=L T 6) (c:=L T2 10) (a:=(I T 2).toNat) (i:=(I T 5).toNat) (j:=(I T2 9).toNat) (by omega) (by omega) (by omega) (by rw[show (I T 5).toNat - (I T2 9).toNat=((I T 5) - (I T2 9)).toNat by omega];exact z3);obtain⟨m4,m5⟩:=m3 (by omega);have hj:(I T2 9).toNat < ((L T2 10)).length:=by omega
   have hj1:(I T2 9).toNat - 1 < ((L T2 10)).length:=by omega
   have hn:((I T2 9) - 1).toNat=(I T2 9).toNat - 1:=by omega
   have sj:=z2 _ (Dj hj);have sj1:=z2 _ (Dj hj1);have h61:(L T2 49)=((L T2 10)).set (I T2 9).toNat (((L T2 10)).getD ((I T2 9).toNat - 1) []):=by
    rw[e49,e37,e38,e39,e40,e41,e42,x42,hn];exact fJ z2 hj sj1
   have sh61:∀u∈(L T2 49),AT AF KS u:=by rw[h61];exact Ie z2 sj1
   have h62:(L T2 50)=((L T2 49)).set ((I T2 9).toNat - 1) (((L T2 10)).getD (I T2 9).toNat []):=by
    rw[e50,e43,e44,e45,e46,e47,e48,x41,hn];exact fJ sh61 (by rw[h61,List.length_set];exact hj1) sj
   have hlt:ltT (((L T 6)).getD (I T 5).toNat []) ((((((L T 6)).take (I T 5).toNat).drop (I T 2).toNat).reverse).getD ((I T 5).toNat - (I T2 9).toNat) [])=true:=by
    rw[<-m4,<-m2];refine decide_eq_true ?_;have h37:=e31.1 h38.2;rw[e30,e16,e18,e19,e20,e15,e25,e27,e28,e29,e24,x26,hn] at h37;exact h37
   refine⟨by omega,by omega,fun _=>⟨?_,?_,?_,fun q hq=>?_⟩⟩
   .rw[h62,h61,List.length_set,List.length_set];exact z1
   .rw[h62];exact Ie sh61 sj
   .rw[h62,h61,m5,x63,show ((I T 5) - ((I T2 9) - 1)).toNat=(I T 5).toNat - ((I T2 9).toNat - 1) by omega]
   .rcases Int.lt_or_le (q:Int) ((I T 5) - (I T2 9)) with hq2|hq2
    .exact z4 q hq2
    .obtain rfl:q=(I T 5).toNat - (I T2 9).toNat:=by omega
     exact hlt
  .obtain⟨e11,-,-,e14,-,-,-,-,-,-,-,e22,e23,-⟩:=F0;obtain⟨-,-,-,-,e31,e32,e33,-,e35,e36,-⟩:=F1;obtain⟨-,-,-,-,-,-,-,-,e51,-⟩:=F2;simp only[AI,AP,zR,w2P] at e11 e14 e22 e23 e31 e32 e33 e35 e36 e51;obtain⟨v1,v2,v3⟩:=inv;intro hp;have h11:=e11.1 (e32.1 (e33.1 hp).2).1;rw[fv2] at h11;have x63:=e51 (by omega) (by omega);omega
theorem Va {T:Tab}(g1:0<=I T 2/\I T 2<=I T 3/\I T 2+1<=I T 5/\((I T 5)<=I T 3\/I T 5=I T 2+1)/\I T 3<=I T 1/\I T 1<=140737488355328)(g2:((L T 6)).length=I T 1/\∀u∈(L T 6),AT AF KS u)(hS:AK T (hds 5 [.i,.l]++FQ [2,1,3] (Ab (BK 0 Fh.ks) GB)))(hE:Ac T (HD.map En.be)):
  (AH T E6)/\((B T 7)=true->I T 5 < I T 3)/\((Ja).owes (Lp.map (Rf.eval T)))/\((I T 2)<=I T 9/\I T 9<=I T 5/\((B T 7)=true->((L T 10)).length=I T 1/\(∀u∈(L T 10),AT AF KS u)/\L T 10=CE (((L T 6)).take (I T 2).toNat) (((((L T 6)).take (I T 5).toNat).drop (I T 2).toNat).reverse) (((L T 6)).drop ((I T 5).toNat+1)) (((L T 6)).getD (I T 5).toNat []) ((I T 5) - (I T 9)).toNat/\∀q:Nat,(q:Int) < I T 5 - (I T 9)->ltT (((L T 6)).getD (I T 5).toNat []) ((((((L T 6)).take (I T 5).toNat).drop (I T 2).toNat).reverse).getD q [])=true))/\(¬B T 33=true)/\(AH T EJ)/\(AH T In)/\AK T (Ab (Ab (hds 9 [.i,.l]++(Ab (hds 5 [.i,.l]++FQ [2,1,3] (Ab (BK 0 Fh.ks) GB)) E6)) EJ) In):=by
 unfold HD at hE;rw[List.map_append,List.map_append,List.map_append] at hE;have hA:=hE.left;replace hE:=hE.right;have hH:=hE.left;replace hE:=hE.right;have hB:=hE.left;replace hE:=hE.right;obtain⟨C0_0,hS1⟩:=Ai hS (by kernel_rfl) hA;have h7:=aR g1 g2 C0_0;obtain⟨ow1,hS2,inv1,np1⟩:=dH g1 g2 h7 hS1 hB hH;have hF2:=(Ai (hS2.append hS1) (l:=EJ) (by kernel_rfl) hB);obtain⟨B1,hS⟩:=hF2;clear hA hB hH hS1 hS2;obtain⟨C0_1,hSe⟩:=Ai hS (by kernel_rfl) hE;exact⟨C0_0,h7,ow1,inv1,np1,B1,C0_1,hSe⟩
theorem ec {T:Tab}(hk0:∀u∈(L T 0),AT AF KS u)(pre0:((L T 0)).length=I T 1/\0<=I T 2/\I T 2<=I T 3/\I T 3<=I T 1)(h4:(I T 4)=I T 2+1)(hi1:(I T 1)<=140737488355328)(hS:AK T (Ab (BK 0 Fh.ks) GB))(hB:Ac T (HD.map En.be))(hH:Ac T ((BS MF [.i,.l] Oo).map En.be)):
  (MF).owes (Oo.map (Rf.eval T))/\AK T (hds 5 [.i,.l])/\((I T 2)+1<=I T 5/\((I T 5)<=I T 3\/I T 5=I T 2+1)/\((L T 6)).length=I T 1/\(∀u∈(L T 6),AT AF KS u)/\L T 6=Aw ltT (L T 0) (I T 2).toNat (I T 5).toNat)/\¬B T 34=true:=by
 refine Lf (nh:=5) (k:=2) (pcn:=34) (top:=53) (bes:=HD) (bos:=UA) (nxt:=[.e 52,.e 10]) (inits:=[.e 4,.e 0]) (fv:=[2,1,3]) (tys:=[.i,.l]) (by kernel_rfl) rfl rfl rfl rfl hS (by kernel_rfl) hB (BV hH) (fun s=>(I T 2)+1<=(aI s 0)/\((aI s 0)<=I T 3\/(aI s 0)=I T 2+1)/\((aL s 1)).length=I T 1/\(∀u∈(aL s 1),AT AF KS u)/\(aL s 1)=Aw ltT (L T 0) (I T 2).toNat (aI s 0).toNat) (fun s=>((I T 3) - (aI s 0)).toNat) ?_ ?_
 .show (I T 2)+1<=I T 4/\((I T 4)<=I T 3\/I T 4=I T 2+1)/\((L T 0)).length=I T 1/\(∀u∈(L T 0),AT AF KS u)/\L T 0=Aw ltT (L T 0) (I T 2).toNat (I T 4).toNat;clear hS hB hH;rw[h4];exact⟨Int.le_refl _,.inr rfl,pre0.1,hk0,by rw[show ((I T 2)+1).toNat=(I T 2).toNat+1 by omega,IU (by omega)]⟩
 .intro T2 hfv hS2 hE inv;replace inv:(I T 2)+1<=I T2 5/\((I T2 5)<=I T 3\/I T2 5=I T 2+1)/\((L T2 6)).length=I T 1/\(∀u∈(L T2 6),AT AF KS u)/\L T2 6=Aw ltT (L T 0) (I T 2).toNat (I T2 5).toNat:=inv;have fv2:I T2 2=I T 2:=fvI (hfv 2 (by decide));have fv1:I T2 1=I T 1:=fvI (hfv 1 (by decide));have fv3:I T2 3=I T 3:=fvI (hfv 3 (by decide));clear hfv;clear hS hB hH;have g1:0<=I T2 2/\I T2 2<=I T2 3/\I T2 2+1<=I T2 5/\((I T2 5)<=I T2 3\/I T2 5=I T2 2+1)/\I T2 3<=I T2 1/\I T2 1<=140737488355328:=by
   obtain⟨v1,v2,v3,v4,v5⟩:=inv;rw[fv2,fv1,fv3];omega
  have g2:((L T2 6)).length=I T2 1/\∀u∈(L T2 6),AT AF KS u:=by
   obtain⟨v1,v2,v3,v4,v5⟩:=inv;rw[fv1];exact⟨v3,v4⟩
  obtain⟨C0_0,h7,ow1,inv1,np1,B1,C0_1,hSe⟩:=Va g1 g2 hS2 hE;clear hS2 hE;have hN:=B7 hSe (ts:=[.i,.l]) (rs:=[.e 52,.e 10]) (by kernel_rfl);clear hSe;have F0:=C0_0;clear C0_0;obtain⟨F1,B1⟩:=B1.cut;obtain⟨F2,B1⟩:=B1.cut;have F3:=B1;clear B1;have F4:=C0_1;clear C0_1
  suffices hz:(B T2 34=true->((I T 2)+1<=I T2 52/\((I T2 52)<=I T 3\/I T2 52=I T 2+1)/\((L T2 10)).length=I T 1/\(∀u∈(L T2 10),AT AF KS u)/\L T2 10=Aw ltT (L T 0) (I T 2).toNat (I T2 52).toNat))/\(B T2 34=true->((I T 3) - (I T2 52)).toNat < ((I T 3) - (I T2 5)).toNat) from
   let⟨nx,mz⟩:=hz;⟨hN,⟨(fun _=>ow1),trivial⟩,fun hp=>⟨nx hp,mz hp⟩⟩
  refine⟨?_,?_⟩
  .obtain⟨e7,-⟩:=F0;obtain⟨e11,-,-,-,e15,e16,-,e18,e19,e20,-,-,e23,e24,e25,-⟩:=F1;obtain⟨e27,e28,e29,e30,e31,e32,e33,e34,-⟩:=F2;obtain⟨e52,-⟩:=F4;replace e30:I T2 30=(plN (I T2 16) (I T2 18) (I T2 19) (I T2 20) (S T2 15) (I T2 25) (I T2 27) (I T2 28) (I T2 29) (S T2 24)):=e30;simp only[AI,AP,zN,zR,w2P,zL] at e7 e11 e15 e16 e18 e19 e20 e23 e24 e25 e27 e28 e29 e31 e32 e33 e34 e52;obtain⟨v1,v2,v3,v4,v5⟩:=inv;obtain⟨w1,w2,w3⟩:=inv1;rw[fv2] at w1 w3;intro hp;have hb:=e34.1 hp;have h7:=e7.1 hb.1;have x64:=e52 (by omega) (by omega);obtain⟨z1,z2,z3,z4⟩:=w3 hb.1;have hdone:(L T2 10)=Q1 ltT ((L T2 6)) (I T 2).toNat (I T2 5).toNat:=by
    rw[z3];refine Vn (l:=L T2 6) (k:=((I T2 5) - (I T2 9)).toNat) (by omega) (by omega) (by omega) (fun q hq=>z4 q (by omega)) ?_;rcases Int.lt_or_le (I T 2) (I T2 9) with h9|h9
    .refine .inr fun hlt=>?_;obtain⟨m1,m2,m3⟩:=Jx (l:=L T2 6) (c:=L T2 10) (a:=(I T 2).toNat) (i:=(I T2 5).toNat) (j:=(I T2 9).toNat) (by omega) (by omega) (by omega) (by rw[show (I T2 5).toNat - (I T2 9).toNat=((I T2 5) - (I T2 9)).toNat by omega];exact z3);obtain⟨m4,m5⟩:=m3 (by omega);rw[show ((I T2 5) - (I T2 9)).toNat=(I T2 5).toNat - (I T2 9).toNat by omega,<-m4,<-m2] at hlt;have x26:=e23 (by omega) (by omega);have h36:(I T2 30) < 0:=by
      rw[e30,e16,e18,e19,e20,e15,e25,e27,e28,e29,e24,x26,show ((I T2 9) - 1).toNat=(I T2 9).toNat - 1 by omega];exact of_decide_eq_true hlt
     have h38:(B T2 32)=true:=e32.2 ⟨e11.2 (by rw[fv2];exact h9),e31.2 h36⟩;have:=hb.2;simp[h38] at this
    .exact .inl (by omega)
   refine⟨by omega,?_,by rw[<-fv1];exact z1,z2,?_⟩
   .rw[fv3] at h7;left;omega
   .rw[hdone,x64,show ((I T2 5)+1).toNat=(I T2 5).toNat+1 by omega,Re (by omega) (by rw[fv1] at*; omega),<-v5]
  .obtain⟨e7,-⟩:=F0;obtain⟨-,-,-,-,-,-,-,e34,-⟩:=F2;obtain⟨e52,-⟩:=F4;simp only[AI,AP,zN,zR,w2P] at e7 e34 e52;obtain⟨v1,v2,v3,v4,v5⟩:=inv;intro hp;have hb:=e34.1 hp;have h7:=e7.1 hb.1;rw[fv3] at h7;have x64:=e52 (by omega) (by omega);omega
theorem gh {T:Tab}(hl0:(L T 0).length<=140737488355328)(hk0:∀u∈(L T 0),AT AF KS u)(lo1:0<=I T 1)(pre0:((L T 0)).length=I T 1/\0<=I T 2/\I T 2<=I T 3/\I T 3<=I T 1)(h4:(I T 4)=I T 2+1)(hi1:(I T 1)<=140737488355328)(inv0:(I T 2)+1<=I T 5/\((I T 5)<=I T 3\/I T 5=I T 2+1)/\((L T 6)).length=I T 1/\(∀u∈(L T 6),AT AF KS u)/\L T 6=Aw ltT (L T 0) (I T 2).toNat (I T 5).toNat)(np0:¬B T 34=true)(h7:(B T 7)=true->I T 5 < I T 3)(inv1:(I T 2)<=I T 9/\I T 9<=I T 5/\((B T 7)=true->((L T 10)).length=I T 1/\(∀u∈(L T 10),AT AF KS u)/\L T 10=CE (((L T 6)).take (I T 2).toNat) (((((L T 6)).take (I T 5).toNat).drop (I T 2).toNat).reverse) (((L T 6)).drop ((I T 5).toNat+1)) (((L T 6)).getD (I T 5).toNat []) ((I T 5) - (I T 9)).toNat/\∀q:Nat,(q:Int) < I T 5 - (I T 9)->ltT (((L T 6)).getD (I T 5).toNat []) ((((((L T 6)).take (I T 5).toNat).drop (I T 2).toNat).reverse).getD q [])=true))(np1:¬B T 33=true)(g1:0<=I T 2/\I T 2<=I T 3/\I T 2+1<=I T 5/\((I T 5)<=I T 3\/I T 5=I T 2+1)/\I T 3<=I T 1/\I T 1<=140737488355328)(g2:((L T 6)).length=I T 1/\∀u∈(L T 6),AT AF KS u)(A0:AH T GB)(C0_0:AH T E6)(B1:AH T EJ)(C0_1:AH T In):
  ((L T 6)=(Aw ltT (L T 0) (I T 2).toNat (I T 3).toNat)):=by
 have F0:=A0;clear A0;have F1:=C0_0;clear C0_0;obtain⟨F2,B1⟩:=B1.cut;obtain⟨F3,B1⟩:=B1.cut;have F4:=B1;clear B1;have F5:=C0_1;clear C0_1
 .obtain⟨e7,-⟩:=F1;obtain⟨-,-,-,-,-,-,e33,e34,-⟩:=F3;simp only[AI,AP,zN,zR] at e7 e33 e34;obtain⟨v1,v2,v3,v4,v5⟩:=inv0;obtain⟨p1,p2,p3,p4⟩:=pre0;have h7:¬I T 5 < I T 3:=fun h=>by
   have hb:=e7.2 h;by_cases h38:(B T 32)=true
   .exact np1 (e33.2 ⟨hb,h38⟩)
   .exact np0 (e34.2 ⟨hb,by simpa using h38⟩)
  rw[v5];by_cases h8:(I T 5)=I T 3
  .rw[h8]
  .have h:(I T 5)=I T 2+1:=by omega
   rw[h,show ((I T 2)+1).toNat=(I T 2).toNat+1 by omega,IU (by omega),KK (by omega) (by omega)]
theorem gR:Ae Try.prog 138 Fh:=by
 refine BH (l:=[(72,Jm)]) Bh (by simp only[List.forall_mem_cons];exact⟨Zk,fun _ h=>absurd h (by simp)⟩) gi (by kernel_rfl) fun T us hpre hT hul hS hBd hE=>?_;change us.length=4 at hul;obtain⟨⟨hl0,he0⟩,⟨lo1,hi1⟩,-⟩:=hBd;replace hl0:(L T 0).length<=140737488355328:=hl0;have hk0:∀u∈(L T 0),AT AF KS u:=fun u hu=>by
  obtain⟨i,hi⟩:=List.mem_iff_getElem?.1 hu;exact he0 i u hi
 replace lo1:0<=I T 1:=lo1;replace hi1:I T 1<=140737488355328:=hi1;have ha0:aL us 0=L T 0:=inL hT hul (by decide);have ha1:aI us 1=I T 1:=inI hT hul (by decide);have ha2:aI us 2=I T 2:=inI hT hul (by decide);have ha3:aI us 3=I T 3:=inI hT hul (by decide);have pre0:((L T 0)).length=I T 1/\0<=I T 2/\I T 2<=I T 3/\I T 3<=I T 1:=by
  have h:=hpre (.s "insS.p0",HC) (by simp[Fh]);change HC us at h;unfold HC at h;simp only[ha0,ha1,ha2,ha3] at h;exact h
 clear hpre;rw[List.map_append,List.map_append,List.map_append] at hE;have hA:=hE.left;replace hE:=hE.right;have hH:=hE.left;replace hE:=hE.right;have hB:=hE.left;replace hE:=hE.right;obtain⟨A0,hS1⟩:=Ai hS (by kernel_rfl) hA;have h4:=bT hl0 hk0 lo1 hi1 pre0 A0;obtain⟨ow0,hS2,inv0,np0⟩:=ec hk0 pre0 h4 hi1 hS1 hB hH;have g1:0<=I T 2/\I T 2<=I T 3/\I T 2+1<=I T 5/\((I T 5)<=I T 3\/I T 5=I T 2+1)/\I T 3<=I T 1/\I T 1<=140737488355328:=by
  have fv2:I T 2=I T 2:=rfl;have fv1:I T 1=I T 1:=rfl;have fv3:I T 3=I T 3:=rfl;have inv:=inv0;obtain⟨v1,v2,v3,v4,v5⟩:=inv;rw[fv2,fv1,fv3];omega
 have g2:((L T 6)).length=I T 1/\∀u∈(L T 6),AT AF KS u:=by
  have fv2:I T 2=I T 2:=rfl;have fv1:I T 1=I T 1:=rfl;have fv3:I T 3=I T 3:=rfl;have inv:=inv0;obtain⟨v1,v2,v3,v4,v5⟩:=inv;rw[fv1];exact⟨v3,v4⟩
 obtain⟨C0_0,h7,ow1,inv1,np1,B1,C0_1,hSe⟩:=Va g1 g2 (hS2.append (C7 (fun _ _=>rfl) hS1)) hB;have hS:=hSe.append hS1;clear hA hB hH hS1 hS2 hSe;obtain⟨A2,hO⟩:=BG (tys:=[.l]) (rs:=ZU) hS (by kernel_rfl) hE;have q0:=gh hl0 hk0 lo1 pre0 h4 hi1 inv0 np0 h7 inv1 np1 g1 g2 A0 C0_0 B1 C0_1;refine⟨⟨(fun _=>ow0),trivial⟩,hO.trans ?_⟩;exact (lc (by show U.list (L T 6)= .list (JK us);unfold JK;rw[ha0,ha2,ha3];exact congrArg U.list q0) rfl)
end
end Go.Eng
end
