/-
  A part of the proof: K_stabSd K_stabS.
-/
import Derived.Test.YtikbgnmcfncnaaaE4
import Derived.Test.YtikbgnmcfncnaaaE5
import Derived.Test.YtikbgnmcfncnaaaKinsS
import Derived.Test.YtikbgnmcfncnaaaKsymS
set_option linter.unusedVariables false
set_option linter.unusedSimpArgs false
noncomputable section
namespace Go.Eng
section
open Go Go.Eng Go.Proofs
set_option maxHeartbeats 4000000
set_option maxRecDepth 100000
def Jt:List U->List (List U):=fun us=>(Aw ltT (aL us 0) 0 (aI us 2).toNat)
def Ht:List U->Prop:=fun us=>((aL us 0)).length=(aI us 1)/\(aI us 2)=(aI us 1)/\(aI us 1)<=20
def Dy:AV:={ sh:=[.one (k64),.cst (.fn (.func 72) [] [])],blks:=[],outs:=[(.s "stabS.0",Eg Jt)],c:= .tup [],m':=[.mrow 3 1 [.str,k64,k64,k64,k64,k64] 61],pre:=[(.s "stabS.p0",Ht)],row:=some ([.str,k64,k64,k64,k64,k64],61) }
def GD:List En:=[]
def WX:List En:=[⟨6,.le,[.e 4,.e 2]⟩,
 ⟨7,.not,[.e 6]⟩,
 ⟨8,.outL "insS.0" JK,[.e 5,.e 1,.e 3,.e 4]⟩,
 ⟨9,.w2 .i64 .add,[.e 4,.c (.int 20)]⟩]
def CW:List En:=WX
def Rw:List ObE:=[⟨some 6,.pre "insS.p0" HC,[.e 5,.e 1,.e 3,.e 4]⟩]
def Jv:Ag:=mkD 3 3 CW 6 [.e 4,.e 9,.e 8] Rw [1,2]
def NF:List Rf:=[.e 1,.e 2,.c (.int 0),.c (.int 20),.e 0]
def WM:List En:=[⟨10,.outL "insS.0" JK,[.e 5,.e 1,.e 3,.e 2]⟩]
def Ei:List En:=WM
def Sx:List En:=[⟨15,.lt,[.e 13,.e 2]⟩,
 ⟨16,.and,[.e 7,.e 15]⟩,
 ⟨17,.and,[.e 7,.n 15]⟩,
 ⟨18,.w2 .i64 .mul,[.c (.int 2),.e 13]⟩]
def ET:List En:=Sx
def WJ:List En:=[⟨22,.le,[.e 20,.e 2]⟩,
 ⟨23,.and,[.e 16,.e 22]⟩,
 ⟨24,.and,[.e 16,.n 22]⟩,
 ⟨25,.w2 .i64 .add,[.e 19,.e 13]⟩,
 ⟨26,.outL "symS.0" Oy,[.e 21,.e 1,.e 19,.e 25,.e 20]⟩,
 ⟨27,.w2 .i64 .mul,[.c (.int 2),.e 13]⟩,
 ⟨28,.w2 .i64 .add,[.e 20,.e 27]⟩]
def DY:List En:=WJ
def Rm:List ObE:=[⟨some 23,.pre "symS.p0" Ly,[.e 21,.e 1,.e 19,.e 25,.e 20]⟩]
def H6:Ag:=mkD 19 3 DY 23 [.e 20,.e 28,.e 26] Rm [13,1,16,2]
def KC:List Rf:=[.e 13,.e 1,.e 16,.e 2,.c (.int 0),.e 18,.e 14]
def Ss:List En:=[⟨29,.w2 .i64 .add,[.e 19,.e 13]⟩,
 ⟨30,.lt,[.e 29,.e 2]⟩,
 ⟨31,.and,[.e 24,.e 30]⟩,
 ⟨32,.outL "symS.0" Oy,[.e 21,.e 1,.e 19,.e 29,.e 2]⟩,
 ⟨33,.and,[.e 24,.n 30]⟩,
 ⟨34,.ite .l,[.e 30,.e 32,.e 21]⟩,
 ⟨35,.w2 .i64 .mul,[.e 13,.c (.int 2)]⟩]
def Hj:List En:=Ss
def GT:List En:=ET++((BS H6 [.i,.i,.l] KC)++(DY++(Hj)))
def SP:List ObE:=[⟨some 31,.pre "symS.p0" Ly,[.e 21,.e 1,.e 19,.e 29,.e 2]⟩,⟨some 16,.owes H6,[.e 13,.e 1,.e 16,.e 2,.c (.int 0),.e 18,.e 14]⟩]
def KL:Ag:=mkD 11 4 GT 24 [.e 19,.e 20,.e 35,.e 34] SP [1,2,7]
def Mu:List Rf:=[.e 1,.e 2,.e 7,.e 3,.e 4,.c (.int 20),.e 10]
def bF:List En:=[]
def fb:List ObE:=[⟨some 7,.owes KL,[.e 1,.e 2,.e 7,.e 3,.e 4,.c (.int 20),.e 10]⟩,
 ⟨some 7,.pre "insS.p0" HC,[.e 5,.e 1,.e 3,.e 2]⟩,
 ⟨none,.owes Jv,[.e 1,.e 2,.c (.int 0),.c (.int 20),.e 0]⟩]
def XZ:List Rf:=[.e 14]
theorem gN:Dy.sees XZ (Dy.run Try.prog [(138,Fh),(139,Pn)] AW 3000 20 122)=some ((GD++((BS Jv [.i,.i,.l] NF)++(CW++(Ei++((BS KL [.i,.i,.i,.l] Mu)++(GT++(bF))))))).map En.be,fb.map ObE.be,[]):=by kernel_rfl
theorem Zj {T:Tab}(pre0:((L T 0)).length=I T 1/\I T 2=I T 1/\I T 1<=20)(hS:AK T (Ab (BK 0 Dy.ks) GD))(hB:Ac T (CW.map En.be))(hH:Ac T ((BS Jv [.i,.i,.l] NF).map En.be)):
  (Jv).owes (NF.map (Rf.eval T))/\AK T (hds 3 [.i,.i,.l])/\(((I T 3)=0/\I T 4=20/\L T 5=L T 0)\/((I T 3)=20/\I T 4=40/\I T 2=20/\L T 5=Aw ltT (L T 0) 0 20))/\¬B T 6=true:=by
 refine CK (nh:=3) (k:=3) (pcn:=6) (top:=10) (bes:=CW) (bos:=Rw) (nxt:=[.e 4,.e 9,.e 8]) (inits:=[.c (.int 0),.c (.int 20),.e 0]) (fv:=[1,2]) (tys:=[.i,.i,.l]) (by kernel_rfl) rfl rfl rfl rfl hS (by kernel_rfl) (by kernel_rfl) hB (BV hH) (fun s=>((aI s 0)=0/\(aI s 1)=20/\(aL s 2)=L T 0)\/((aI s 0)=20/\(aI s 1)=40/\I T 2=20/\(aL s 2)=Aw ltT (L T 0) 0 20)) (fun s=>((I T 2)+1 - (aI s 1)).toNat) ?_ ?_
 .show ((0:Int)=0/\(20:Int)=20/\L T 0=L T 0)\/((0:Int)=20/\(20:Int)=40/\I T 2=20/\L T 0=Aw ltT (L T 0) 0 20);clear hS hB hH;exact .inl ⟨rfl,rfl,rfl⟩
 .intro T2 hfv hF inv;replace inv:((I T2 3)=0/\I T2 4=20/\L T2 5=L T 0)\/((I T2 3)=20/\I T2 4=40/\I T 2=20/\L T2 5=Aw ltT (L T 0) 0 20):=inv;clear hS hB hH;replace hF:AH T2 CW:=hF;have F0:=hF;clear hF;have fv1:I T2 1=I T 1:=fvI (hfv 1 (by decide));have fv2:I T2 2=I T 2:=fvI (hfv 2 (by decide));clear hfv
  suffices hz:(B T2 6=true->((L T2 5)).length=I T2 1/\0<=I T2 3/\I T2 3<=I T2 4/\I T2 4<=I T2 1)/\(B T2 6=true->(((I T2 4)=0/\I T2 9=20/\L T2 8=L T 0)\/((I T2 4)=20/\I T2 9=40/\I T 2=20/\L T2 8=Aw ltT (L T 0) 0 20)))/\(B T2 6=true->((I T 2)+1 - (I T2 9)).toNat < ((I T 2)+1 - (I T2 4)).toNat) from
   let⟨r0,nx,mz⟩:=hz;⟨⟨r0,trivial⟩,fun hp=>⟨nx hp,mz hp⟩⟩
  refine⟨?_,?_,?_⟩
  .obtain⟨e6,-⟩:=F0;simp only[AI,zR] at e6;intro hp;have h6:=e6.1 hp;rw[fv2] at h6;rcases inv with⟨v1,v2,v3⟩|⟨v1,v2,v3,v4⟩
   .rw[fv1,v3];omega
   .omega
  .obtain⟨e6,-,e8,e9,-⟩:=F0;replace e8:L T2 8=(Aw ltT (L T2 5) (I T2 3).toNat (I T2 4).toNat):=e8;simp only[AI,zR,w2P] at e6 e9;intro hp;have h6:=e6.1 hp;rw[fv2] at h6;have x9:=e9 (by omega) (by omega);rcases inv with⟨v1,v2,v3⟩|⟨v1,v2,v3,v4⟩
   .refine .inr ⟨v2,by omega,by omega,?_⟩;rw[e8,v1,v2,v3];rfl
   .omega
  .obtain⟨e6,-,-,e9,-⟩:=F0;simp only[AI,zR,w2P] at e6 e9;intro hp;have h6:=e6.1 hp;rw[fv2] at h6;have x9:=e9 (by omega) (by omega);omega
theorem X2 {T:Tab}(hl0:(L T 0).length<=140737488355328)(hk0:∀u∈(L T 0),AT AF KS u)(lo1:0<=I T 1)(hi1:I T 1<=140737488355328)(pre0:((L T 0)).length=I T 1/\I T 2=I T 1/\I T 1<=20)(inv0:((I T 3)=0/\I T 4=20/\L T 5=L T 0)\/((I T 3)=20/\I T 4=40/\I T 2=20/\L T 5=Aw ltT (L T 0) 0 20))(np0:¬B T 6=true)(B0:AH T CW)(A1:AH T Ei):
  ((I T 2)<=20):=by
 have F0:=B0;clear B0;have F1:=A1;clear A1;have h20:(I T 2)<=20:=by
  omega
 exact h20
theorem Yy {T:Tab}(g1:(I T 13)=20/\I T 2<=20)(C1_0:AH T ET):
  (¬B T 16=true):=by
 have F0:=C1_0;clear C1_0;have g2:¬B T 16=true:=by
  obtain⟨e15,e16,-⟩:=F0;simp only[AI,AP,zR] at e15 e16;intro hp;have h15:=e15.1 (e16.1 hp).2;omega
 exact g2
theorem ZO {T:Tab}(g2:¬B T 16=true)(hS:AK T (Ab (hds 11 [.i,.i,.i,.l]++FQ [1,2,7] (Ab (Ab (hds 3 [.i,.i,.l]++(Ab (BK 0 Dy.ks) GD)) CW) Ei)) ET))(hB:Ac T (DY.map En.be))(hH:Ac T ((BS H6 [.i,.i,.l] KC).map En.be)):
  (H6).owes (KC.map (Rf.eval T))/\AK T (hds 19 [.i,.i,.l])/\(True)/\¬B T 23=true:=by
 refine CK (nh:=19) (k:=3) (pcn:=23) (top:=29) (bes:=DY) (bos:=Rm) (nxt:=[.e 20,.e 28,.e 26]) (inits:=[.c (.int 0),.e 18,.e 14]) (fv:=[13,1,16,2]) (tys:=[.i,.i,.l]) (by kernel_rfl) rfl rfl rfl rfl hS (by kernel_rfl) (by kernel_rfl) hB (BV hH) (fun s=>True) (fun s=>((aI s 1)).toNat) ?_ ?_
 .show True;clear hS hB hH;trivial
 .intro T2 hfv hF inv;replace inv:True:=inv;clear hS hB hH;replace hF:AH T2 DY:=hF;have F0:=hF;clear hF;have fv13:I T2 13=I T 13:=fvI (hfv 13 (by decide));have fv1:I T2 1=I T 1:=fvI (hfv 1 (by decide));have fv16:B T2 16=B T 16:=fvB (hfv 16 (by decide));have fv2:I T2 2=I T 2:=fvI (hfv 2 (by decide));clear hfv
  suffices hz:(B T2 23=true->False)/\(B T2 23=true->(True))/\(B T2 23=true->((I T2 28)).toNat < ((I T2 20)).toNat) from
   let⟨r0,nx,mz⟩:=hz;⟨⟨r0,trivial⟩,fun hp=>⟨nx hp,mz hp⟩⟩
  refine⟨?_,?_,?_⟩
  .obtain⟨-,e23,-⟩:=F0;simp only[AI,AP,zR] at e23;intro hp;exact absurd (e23.1 hp).1 (by rw[fv16];exact g2)
  .obtain⟨-,e23,-⟩:=F0;simp only[AI,AP,zR] at e23;intro hp;exact absurd (e23.1 hp).1 (by rw[fv16];exact g2)
  .obtain⟨-,e23,-⟩:=F0;simp only[AI,AP,zR] at e23;intro hp;exact absurd (e23.1 hp).1 (by rw[fv16];exact g2)
theorem Rv {T:Tab}(g1:(I T 13)=20/\I T 2<=20)(hS:AK T (hds 11 [.i,.i,.i,.l]++FQ [1,2,7] (Ab (Ab (hds 3 [.i,.i,.l]++(Ab (BK 0 Dy.ks) GD)) CW) Ei)))(hE:Ac T (GT.map En.be)):
  (AH T ET)/\(¬B T 16=true)/\((H6).owes (KC.map (Rf.eval T)))/\(True)/\(¬B T 23=true)/\(AH T DY)/\(AH T Hj)/\AK T (Ab (Ab (hds 19 [.i,.i,.l]++(Ab (hds 11 [.i,.i,.i,.l]++FQ [1,2,7] (Ab (Ab (hds 3 [.i,.i,.l]++(Ab (BK 0 Dy.ks) GD)) CW) Ei)) ET)) DY) Hj):=by
 unfold GT at hE;rw[List.map_append,List.map_append,List.map_append] at hE;have hA:=hE.left;replace hE:=hE.right;have hH:=hE.left;replace hE:=hE.right;have hB:=hE.left;replace hE:=hE.right;obtain⟨C1_0,hS1⟩:=Ai hS (by kernel_rfl) hA;have g2:=Yy g1 C1_0;obtain⟨ow2,hS2,inv2,np2⟩:=ZO g2 hS1 hB hH;have hF2:=(Ai (hS2.append hS1) (l:=DY) (by kernel_rfl) hB);obtain⟨B2,hS⟩:=hF2;clear hA hB hH hS1 hS2;obtain⟨C1_1,hSe⟩:=Ai hS (by kernel_rfl) hE;exact⟨C1_0,g2,ow2,inv2,np2,B2,C1_1,hSe⟩
theorem bU {T:Tab}(h20:(I T 2)<=20)(hS:AK T (Ab (Ab (hds 3 [.i,.i,.l]++(Ab (BK 0 Dy.ks) GD)) CW) Ei))(hB:Ac T (GT.map En.be))(hH:Ac T ((BS KL [.i,.i,.i,.l] Mu).map En.be)):
  (KL).owes (Mu.map (Rf.eval T))/\AK T (hds 11 [.i,.i,.i,.l])/\((I T 13)=20/\L T 14=L T 10)/\¬B T 24=true:=by
 refine Lf (nh:=11) (k:=4) (pcn:=24) (top:=36) (bes:=GT) (bos:=SP) (nxt:=[.e 19,.e 20,.e 35,.e 34]) (inits:=[.e 3,.e 4,.c (.int 20),.e 10]) (fv:=[1,2,7]) (tys:=[.i,.i,.i,.l]) (by kernel_rfl) rfl rfl rfl rfl hS (by kernel_rfl) hB (BV hH) (fun s=>(aI s 2)=20/\(aL s 3)=L T 10) (fun s=>((aI s 2)).toNat) ?_ ?_
 .show (20:Int)=20/\L T 10=L T 10;clear hS hB hH;exact⟨rfl,rfl⟩
 .intro T2 hfv hS2 hE inv;replace inv:(I T2 13)=20/\L T2 14=L T 10:=inv;have fv1:I T2 1=I T 1:=fvI (hfv 1 (by decide));have fv2:I T2 2=I T 2:=fvI (hfv 2 (by decide));have fv7:B T2 7=B T 7:=fvB (hfv 7 (by decide));clear hfv;clear hS hB hH;have g1:(I T2 13)=20/\I T2 2<=20:=by
   rw[fv2];exact⟨inv.1,h20⟩
  obtain⟨C1_0,g2,ow2,inv2,np2,B2,C1_1,hSe⟩:=Rv g1 hS2 hE;clear hS2 hE;have hN:=B7 hSe (ts:=[.i,.i,.i,.l]) (rs:=[.e 19,.e 20,.e 35,.e 34]) (by kernel_rfl);clear hSe;have F0:=C1_0;clear C1_0;have F1:=B2;clear B2;have F2:=C1_1;clear C1_1
  suffices hz:(B T2 31=true->False)/\(B T2 24=true->((I T2 35)=20/\L T2 34=L T 10))/\(B T2 24=true->((I T2 35)).toNat < ((I T2 13)).toNat) from
   let⟨r0,nx,mz⟩:=hz;⟨hN,⟨r0,(fun _=>ow2),trivial⟩,fun hp=>⟨nx hp,mz hp⟩⟩
  refine⟨?_,?_,?_⟩
  .obtain⟨e15,e16,-⟩:=F0;obtain⟨-,-,e24,-⟩:=F1;obtain⟨-,-,e31,-⟩:=F2;simp only[AI,AP,zN,zR] at e15 e16 e24 e31;intro hp;have h16:=e15.1 (e16.1 (e24.1 (e31.1 hp).1).1).2;omega
  .obtain⟨e15,e16,-⟩:=F0;obtain⟨-,-,e24,-⟩:=F1;simp only[AI,AP,zN,zR] at e15 e16 e24;intro hp;have h16:=e15.1 (e16.1 (e24.1 hp).1).2;omega
  .obtain⟨e15,e16,-⟩:=F0;obtain⟨-,-,e24,-⟩:=F1;simp only[AI,AP,zN,zR] at e15 e16 e24;intro hp;have h16:=e15.1 (e16.1 (e24.1 hp).1).2;omega
theorem gX {T:Tab}(hl0:(L T 0).length<=140737488355328)(hk0:∀u∈(L T 0),AT AF KS u)(lo1:0<=I T 1)(hi1:I T 1<=140737488355328)(pre0:((L T 0)).length=I T 1/\I T 2=I T 1/\I T 1<=20)(inv0:((I T 3)=0/\I T 4=20/\L T 5=L T 0)\/((I T 3)=20/\I T 4=40/\I T 2=20/\L T 5=Aw ltT (L T 0) 0 20))(np0:¬B T 6=true)(h20:(I T 2)<=20)(inv1:(I T 13)=20/\L T 14=L T 10)(np1:¬B T 24=true)(g2:¬B T 16=true)(inv2:True)(np2:¬B T 23=true)(g1:(I T 13)=20/\I T 2<=20)(B0:AH T CW)(A1:AH T Ei)(C1_0:AH T ET)(B2:AH T DY)(C1_1:AH T Hj):
  ((L T 14)=(Aw ltT (L T 0) 0 (I T 2).toNat))/\
  (B T 7=true->((L T 5)).length=I T 1/\0<=I T 3/\I T 3<=I T 2/\I T 2<=I T 1):=by
 have F0:=B0;clear B0;have F1:=A1;clear A1;have F2:=C1_0;clear C1_0;have F3:=B2;clear B2;have F4:=C1_1;clear C1_1;refine⟨?_,?_⟩
 .obtain⟨e10,-⟩:=F1;replace e10:L T 10=(Aw ltT (L T 5) (I T 3).toNat (I T 2).toNat):=e10;rw[inv1.2,e10];rcases inv0 with⟨v1,v2,v3⟩|⟨v1,v2,v3,v4⟩
  .rw[v1,v3];rfl
  .rw[v1,v3];show Aw ltT (L T 5) 20 20=Aw ltT (L T 0) 0 20;rw[KK (Nat.le_refl _) (Nat.le_refl _),v4]
 .intro hp;rcases inv0 with⟨v1,v2,v3⟩|⟨v1,v2,v3,v4⟩
  .rw[v3];omega
  .rw[v4,Th (Nat.zero_le _) (by omega)];omega
theorem dZ:Ae Try.prog 122 Dy:=by
 refine BH (l:=[(138,Fh),(139,Pn)]) Bh (by simp only[List.forall_mem_cons];exact⟨gR,fZ,fun _ h=>absurd h (by simp)⟩) gN (by kernel_rfl) fun T us hpre hT hul hS hBd hE=>?_;change us.length=3 at hul;obtain⟨⟨hl0,he0⟩,⟨lo1,hi1⟩,-⟩:=hBd;replace hl0:(L T 0).length<=140737488355328:=hl0;have hk0:∀u∈(L T 0),AT AF KS u:=fun u hu=>by
  obtain⟨i,hi⟩:=List.mem_iff_getElem?.1 hu;exact he0 i u hi
 replace lo1:0<=I T 1:=lo1;replace hi1:I T 1<=140737488355328:=hi1;have ha0:aL us 0=L T 0:=inL hT hul (by decide);have ha1:aI us 1=I T 1:=inI hT hul (by decide);have ha2:aI us 2=I T 2:=inI hT hul (by decide);have pre0:((L T 0)).length=I T 1/\I T 2=I T 1/\I T 1<=20:=by
  have h:=hpre (.s "stabS.p0",Ht) (by simp[Dy]);change Ht us at h;unfold Ht at h;simp only[ha0,ha1,ha2] at h;exact h
 clear hpre;rw[List.map_append,List.map_append,List.map_append,List.map_append,List.map_append,List.map_append] at hE;have hA:=hE.left;replace hE:=hE.right;have hH:=hE.left;replace hE:=hE.right;have hB:=hE.left;replace hE:=hE.right;obtain⟨A0,hS1⟩:=Ai hS (by kernel_rfl) hA;obtain⟨ow0,hS2,inv0,np0⟩:=Zj pre0 hS1 hB hH;have hF2:=(Ai (hS2.append hS1) (l:=CW) (by kernel_rfl) hB);obtain⟨B0,hS⟩:=hF2;clear hA hB hH hS1 hS2;have hA:=hE.left;replace hE:=hE.right;have hH:=hE.left;replace hE:=hE.right;have hB:=hE.left;replace hE:=hE.right;obtain⟨A1,hS1⟩:=Ai hS (by kernel_rfl) hA;have h20:=X2 hl0 hk0 lo1 hi1 pre0 inv0 np0 B0 A1;obtain⟨ow1,hS2,inv1,np1⟩:=bU h20 hS1 hB hH;have g1:(I T 13)=20/\I T 2<=20:=by
  have fv1:I T 1=I T 1:=rfl;have fv2:I T 2=I T 2:=rfl;have fv7:B T 7=B T 7:=rfl;have inv:=inv1;rw[fv2];exact⟨inv.1,h20⟩
 obtain⟨C1_0,g2,ow2,inv2,np2,B2,C1_1,hSe⟩:=Rv g1 (hS2.append (C7 (fun _ _=>rfl) hS1)) hB;have hS:=hSe.append hS1;clear hA hB hH hS1 hS2 hSe;obtain⟨A3,hO⟩:=BG (tys:=[.l]) (rs:=XZ) hS (by kernel_rfl) hE;obtain⟨q0,r0⟩:=gX hl0 hk0 lo1 hi1 pre0 inv0 np0 h20 inv1 np1 g2 inv2 np2 g1 B0 A1 C1_0 B2 C1_1;refine⟨⟨(fun _=>ow1),r0,(fun _=>ow0),trivial⟩,hO.trans ?_⟩;exact (lc (by show U.list (L T 14)= .list (Jt us);unfold Jt;rw[ha0,ha2];exact congrArg U.list q0) rfl)
end
end Go.Eng
end
