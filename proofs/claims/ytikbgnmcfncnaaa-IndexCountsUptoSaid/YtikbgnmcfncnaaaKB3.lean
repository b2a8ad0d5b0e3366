/-
  A part of the proof: K_Table K_worksd K_works.
-/
import Derived.Test.YtikbgnmcfncnaaaKB2
import Derived.Test.YtikbgnmcfncnaaaE4
import Derived.Test.YtikbgnmcfncnaaaE5
import Derived.Test.YtikbgnmcfncnaaaKB0
set_option linter.unusedVariables false
set_option linter.unusedSimpArgs false
noncomputable section
namespace Go.Eng
section
open Go Go.Eng Go.Proofs
set_option maxHeartbeats 4000000
set_option maxRecDepth 100000
theorem gV:Dr.sees W3 (Dr.runC Try.prog Kn [(41,NL),(47,MZ),(65,GI),(71,LG)] AW 3000 20 30)=some ((CZ++((BS KR [.i,.l] NI)++(Bs++(C8++((BS Jw [.i,.l] Mj)++(CG++(D5++((BS J3 [.i,.l] NX)++(Cq++(GF++((BS J9 [.i,.l,.l] NB)++(Dg++(J8++((BS Jq [.i,.l] NR)++(E4++(Rl)))))))))))))))).map En.be,fk.map ObE.be,[]):=by kernel_rfl
theorem ZG {T:Tab}(hl0:(L T 0).length<=140737488355328)(hl1:(L T 1).length<=140737488355328)(pre0:(((L T 0)).length<=20/\((L T 1)).length<=20)/\Bj (L T 0)=0/\B8 (L T 1)=0)(A0:AH T CZ):
  ((I T 11)=((L T 0)).length)/\((L T 10)=[]):=by
 have F0:=A0;clear A0;have h11:(I T 11)=((L T 0)).length:=by
  obtain⟨-,-,-,-,-,-,-,e11,-⟩:=F0;simp only[AI,zR,zL] at e11;exact e11
 have h10:(L T 10)=[]:=by
  obtain⟨-,-,-,-,-,-,e10,-⟩:=F0;simp only[AI,zR,zL,zS] at e10;exact e10
 exact⟨h11,h10⟩
theorem Zw {T:Tab}(pre0:(((L T 0)).length<=20/\((L T 1)).length<=20)/\Bj (L T 0)=0/\B8 (L T 1)=0)(h11:(I T 11)=((L T 0)).length)(h10:(L T 10)=[])(hS:AK T (Ab (BK 0 Dr.ks) CZ))(hB:Ac T (Bs.map En.be))(hH:Ac T ((BS KR [.i,.l] NI).map En.be)):
  (KR).owes (NI.map (Rf.eval T))/\AK T (hds 12 [.i,.l])/\(0<=I T 12/\I T 12<=((L T 0)).length/\L T 13=AZ (DP ((L T 0))) (I T 12).toNat [])/\¬B T 14=true:=by
 refine CK (nh:=12) (k:=2) (pcn:=14) (top:=21) (bes:=Bs) (bos:=SK) (nxt:=[.e 20,.e 19]) (inits:=[.c (.int 0),.e 10]) (fv:=[0,11]) (tys:=[.i,.l]) (by kernel_rfl) rfl rfl rfl rfl hS (by kernel_rfl) (by kernel_rfl) hB (BV hH) (fun s=>0<=(aI s 0)/\(aI s 0)<=((L T 0)).length/\(aL s 1)=AZ (DP ((L T 0))) (aI s 0).toNat []) (fun s=>(((L T 0)).length - (aI s 0)).toNat) ?_ ?_
 .show 0<=(0:Int)/\(0:Int)<=((L T 0)).length/\L T 10=AZ (DP ((L T 0))) (0:Int).toNat [];clear hS hB hH;exact⟨by omega,by omega,by rw[show (0:Int).toNat=0 from rfl];exact h10⟩
 .intro T2 hfv hF inv;replace inv:0<=I T2 12/\I T2 12<=((L T 0)).length/\L T2 13=AZ (DP ((L T 0))) (I T2 12).toNat []:=inv;clear hS hB hH;replace hF:AH T2 Bs:=hF;have F0:=hF;clear hF;have fv0:L T2 0=L T 0:=fvL (hfv 0 (by decide));have fv11:I T2 11=I T 11:=fvI (hfv 11 (by decide));clear hfv
  suffices hz:(B T2 14=true->(((L T2 13)).length+(([[]]:List (List U))).length)*1<=140737488355328)/\(B T2 14=true->0<=I T2 12/\I T2 12 < ((L T2 0)).length)/\(B T2 14=true->(0<=I T2 20/\I T2 20<=((L T 0)).length/\L T2 19=AZ (DP ((L T 0))) (I T2 20).toNat []))/\(B T2 14=true->(((L T 0)).length - (I T2 20)).toNat < (((L T 0)).length - (I T2 12)).toNat) from
   let⟨r0,r1,nx,mz⟩:=hz;⟨⟨r0,r1,trivial⟩,fun hp=>⟨nx hp,mz hp⟩⟩
  refine⟨?_,?_,?_,?_⟩
  .obtain⟨e14,-⟩:=F0;simp only[AI,zR] at e14;obtain⟨v1,v2,v3⟩:=inv;intro hp;rw[fv11] at e14;have h14:=e14.1 hp;have hl:=gI (P:=L T 0) (I T2 12).toNat;rw[<-v3] at hl;show (((L T2 13)).length+1)*1<=_;omega
  .obtain⟨e14,-⟩:=F0;simp only[AI,zR] at e14;obtain⟨v1,v2,v3⟩:=inv;intro hp;rw[fv11] at e14;have h14:=e14.1 hp;rw[fv0];omega
  .obtain⟨e14,-,e16,-,-,e19,e20,-⟩:=F0;simp only[AI,zR,w2P,zL,zS,uR,zW,AP,zC] at e14 e16 e19 e20;obtain⟨v1,v2,v3⟩:=inv;intro hp;rw[fv11] at e14;have h14:=e14.1 hp;have x20:=e20 (by omega) (by omega);refine⟨by omega,by omega,?_⟩;rw[x20,show ((I T2 12)+1).toNat=(I T2 12).toNat+1 by omega,e19,e16,v3,fv0];show _=DP _ _ _;unfold DP;rw[show (((I T2 12).toNat:Nat):Int)=(I T2 12) by omega]
  .obtain⟨e14,-,-,-,-,-,e20,-⟩:=F0;simp only[AI,zR,w2P] at e14 e20;obtain⟨v1,v2,v3⟩:=inv;intro hp;rw[fv11] at e14;have h14:=e14.1 hp;have x20:=e20 (by omega) (by omega);omega
theorem Xl {T:Tab}(hl0:(L T 0).length<=140737488355328)(hl1:(L T 1).length<=140737488355328)(pre0:(((L T 0)).length<=20/\((L T 1)).length<=20)/\Bj (L T 0)=0/\B8 (L T 1)=0)(h11:(I T 11)=((L T 0)).length)(h10:(L T 10)=[])(inv0:0<=I T 12/\I T 12<=((L T 0)).length/\L T 13=AZ (DP ((L T 0))) (I T 12).toNat [])(np0:¬B T 14=true)(A0:AH T CZ)(B0:AH T Bs)(A1:AH T C8):
  ((I T 22)=((L T 21)).length)/\((L T 23)=[])/\((L T 21)=Df ((L T 1)))/\(((L T 21)).length<=20)/\((L T 13)=Gf ((L T 0)))/\((B T 15)=true)/\((L T 8)=L T 0):=by
 have F0:=A0;clear A0;have F1:=B0;clear B0;have F2:=A1;clear A1;have h22:(I T 22)=((L T 21)).length:=by
  obtain⟨-,e22,-⟩:=F2;simp only[AI,zR,zL] at e22;exact e22
 have h23:(L T 23)=[]:=by
  obtain⟨-,-,e23,-⟩:=F2;simp only[AI,zR,zL,zS] at e23;exact e23
 have h21:(L T 21)=Df ((L T 1)):=by
  obtain⟨e21,-⟩:=F2;replace e21:L T 21=(Df (L T 1)):=e21;exact e21
 have g21:((L T 21)).length<=20:=by
  obtain⟨e21,-⟩:=F2;replace e21:L T 21=(Df (L T 1)):=e21;rw[e21];exact wI SV pre0.1.2
 have h13:(L T 13)=Gf ((L T 0)):=by
  obtain⟨e14,-⟩:=F1;simp only[AI,zR] at e14;obtain⟨v1,v2,v3⟩:=inv0;have n14:¬I T 12 < I T 11:=fun h=>np0 (e14.2 h);rw[v3,show (I T 12).toNat=((L T 0)).length by omega];rfl
 have h15:(B T 15)=true:=by
  obtain⟨-,e15,-⟩:=F1;simp only[AI,AP,zR] at e15;exact e15.2 (by simpa using np0)
 have h8:(L T 8)=L T 0:=by
  obtain⟨-,-,e6,-,e8,-⟩:=F0;simp only[AI,AP,zR,zL,zS] at e6 e8;rw[e8,e6];rfl
 exact⟨h22,h23,h21,g21,h13,h15,h8⟩
theorem bM {T:Tab}(h22:(I T 22)=((L T 21)).length)(h23:(L T 23)=[])(g21:((L T 21)).length<=20)(hS:AK T (Ab (Ab (hds 12 [.i,.l]++(Ab (BK 0 Dr.ks) CZ)) Bs) C8))(hB:Ac T (CG.map En.be))(hH:Ac T ((BS Jw [.i,.l] Mj).map En.be)):
  (Jw).owes (Mj.map (Rf.eval T))/\AK T (hds 24 [.i,.l])/\(0<=I T 24/\I T 24<=((L T 21)).length/\L T 25=AZ (Dq ((L T 13)) ((L T 21))) (I T 24).toNat [])/\¬B T 27=true:=by
 refine CK (nh:=24) (k:=2) (pcn:=27) (top:=51) (bes:=CG) (bos:=SD) (nxt:=[.e 50,.e 49]) (inits:=[.c (.int 0),.e 23]) (fv:=[13,21,15,22]) (tys:=[.i,.l]) (by kernel_rfl) rfl rfl rfl rfl hS (by kernel_rfl) (by kernel_rfl) hB (BV hH) (fun s=>0<=(aI s 0)/\(aI s 0)<=((L T 21)).length/\(aL s 1)=AZ (Dq ((L T 13)) ((L T 21))) (aI s 0).toNat []) (fun s=>(((L T 21)).length - (aI s 0)).toNat) ?_ ?_
 .show 0<=(0:Int)/\(0:Int)<=((L T 21)).length/\L T 23=AZ (Dq ((L T 13)) ((L T 21))) (0:Int).toNat [];clear hS hB hH;exact⟨by omega,by omega,by rw[show (0:Int).toNat=0 from rfl];exact h23⟩
 .intro T2 hfv hF inv;replace inv:0<=I T2 24/\I T2 24<=((L T 21)).length/\L T2 25=AZ (Dq ((L T 13)) ((L T 21))) (I T2 24).toNat []:=inv;clear hS hB hH;replace hF:AH T2 CG:=hF;obtain⟨F0,hF⟩:=hF.cut;have F1:=hF;clear hF;have fv13:L T2 13=L T 13:=fvL (hfv 13 (by decide));have fv21:L T2 21=L T 21:=fvL (hfv 21 (by decide));have fv15:B T2 15=B T 15:=fvB (hfv 15 (by decide));have fv22:I T2 22=I T 22:=fvI (hfv 22 (by decide));clear hfv
  suffices hz:(B T2 44=true->(((L T2 25)).length+((L T2 45)).length)*88<=140737488355328)/\(B T2 27=true->0<=I T2 24/\I T2 24 < ((L T2 21)).length)/\(B T2 27=true->(0<=I T2 50/\I T2 50<=((L T 21)).length/\L T2 49=AZ (Dq ((L T 13)) ((L T 21))) (I T2 50).toNat []))/\(B T2 27=true->(((L T 21)).length - (I T2 50)).toNat < (((L T 21)).length - (I T2 24)).toNat) from
   let⟨r0,r1,nx,mz⟩:=hz;⟨⟨r0,r1,trivial⟩,fun hp=>⟨nx hp,mz hp⟩⟩
  refine⟨?_,?_,?_,?_⟩
  .obtain⟨e26,e27,-⟩:=F0;obtain⟨-,-,e44,e45,-⟩:=F1;simp only[AI,AP,zR,zL,zS,uR,DM,zW] at e26 e27 e44 e45;obtain⟨v1,v2,v3⟩:=inv;intro hp;have h26:=e26.1 (e27.1 (e44.1 hp).1).2;rw[fv22] at h26;have hl:=Sc (M:=L T 13) (B:=L T 21) (I T2 24).toNat;rw[<-v3] at hl;rw[e45];show (((L T2 25)).length+1)*88<=_;omega
  .obtain⟨e26,e27,-⟩:=F0;simp only[AI,AP,zR] at e26 e27;obtain⟨v1,v2,v3⟩:=inv;intro hp;have h26:=e26.1 (e27.1 hp).2;rw[fv22] at h26;rw[fv21];omega
  .obtain⟨e26,e27,-,e29,e30,e31,e32,e33,e34,e35,e36,e37,-,e39,-,e41,-⟩:=F0;obtain⟨-,e43,-,e45,e46,-,-,e49,e50,-⟩:=F1;simp only[AI,AP,zR,w2P,zL,zS,uR,DM,zW,zC] at e26 e27 e29 e30 e31 e32 e33 e34 e35 e36 e37 e39 e41 e43 e45 e46 e49 e50;obtain⟨v1,v2,v3⟩:=inv;intro hp;have h26:=e26.1 (e27.1 hp).2;rw[fv22] at h26;have x50:=e50 (by omega) (by omega);refine⟨by omega,by omega,?_⟩;rw[x50,show ((I T2 24)+1).toNat=(I T2 24).toNat+1 by omega];refine Eq.trans ?_ (congrArg (Dq ((L T 13)) ((L T 21)) (I T2 24).toNat) v3);unfold Dq Qy;rw[fv21] at e29 e30 e31 e32 e33 e34 e35 e36 e37;rw[fv13] at e39 e41;rw[e33] at e39;rw[e34] at e41;by_cases hb:(B T2 43)=true
   .have h43:=e43.1 hb;rw[e49,if_pos hb,if_pos ⟨e39.1 h43.1,e41.1 h43.2⟩,e46,e45,e29,e30,e31,e32,e33,e34,e35,e36,e37];rfl
   .rw[e49,if_neg hb,if_neg (fun h=>hb (e43.2 ⟨e39.2 h.1,e41.2 h.2⟩))]
  .obtain⟨e26,e27,-⟩:=F0;obtain⟨-,-,-,-,-,-,-,-,e50,-⟩:=F1;simp only[AI,AP,zR,w2P] at e26 e27 e50;obtain⟨v1,v2,v3⟩:=inv;intro hp;have h26:=e26.1 (e27.1 hp).2;rw[fv22] at h26;have x50:=e50 (by omega) (by omega);omega
theorem YT {T:Tab}(hl0:(L T 0).length<=140737488355328)(hl1:(L T 1).length<=140737488355328)(pre0:(((L T 0)).length<=20/\((L T 1)).length<=20)/\Bj (L T 0)=0/\B8 (L T 1)=0)(h11:(I T 11)=((L T 0)).length)(h10:(L T 10)=[])(inv0:0<=I T 12/\I T 12<=((L T 0)).length/\L T 13=AZ (DP ((L T 0))) (I T 12).toNat [])(np0:¬B T 14=true)(h22:(I T 22)=((L T 21)).length)(h23:(L T 23)=[])(h21:(L T 21)=Df ((L T 1)))(g21:((L T 21)).length<=20)(h13:(L T 13)=Gf ((L T 0)))(h15:(B T 15)=true)(h8:(L T 8)=L T 0)(inv1:0<=I T 24/\I T 24<=((L T 21)).length/\L T 25=AZ (Dq ((L T 13)) ((L T 21))) (I T 24).toNat [])(np1:¬B T 27=true)(A0:AH T CZ)(B0:AH T Bs)(A1:AH T C8)(B1:AH T CG)(A2:AH T D5):
  ((I T 9)=((L T 8)).length)/\((I T 60)=I T 9)/\((I T 9)<=20)/\((L T 59)=List.replicate (I T 9).toNat [.str ByteArray.empty,.int 0,.int 0,.int 0,.int 0,.int 0])/\((L T 25)=KT ((L T 0)) ((L T 1))):=by
 have F0:=A0;clear A0;have F1:=B0;clear B0;have F2:=A1;clear A1;obtain⟨F3,B1⟩:=B1.cut;have F4:=B1;clear B1;have F5:=A2;clear A2;have h9:(I T 9)=((L T 8)).length:=by
  obtain⟨-,-,-,-,-,e9,-⟩:=F0;simp only[AI,zR,zL] at e9;exact e9
 have h60:(I T 60)=I T 9:=by
  obtain⟨-,-,-,-,-,-,-,-,-,e60,-⟩:=F5;simp only[AI,AP,zR,zL,zS] at e60;exact e60
 have c9:(I T 9)<=20:=by
  obtain⟨-,-,-,-,-,e9,-⟩:=F0;simp only[AI,zR,zL] at e9;have:=pre0.1.1;rw[e9,h8];omega
 have h59:(L T 59)=List.replicate (I T 9).toNat [.str ByteArray.empty,.int 0,.int 0,.int 0,.int 0,.int 0]:=by
  obtain⟨-,-,-,-,-,-,-,-,e59,-⟩:=F5;simp only[AI,zR,zS,uR,zW,AP,zC] at e59;exact e59
 have g25:(L T 25)=KT ((L T 0)) ((L T 1)):=by
  obtain⟨e26,e27,-⟩:=F3;simp only[AI,AP,zR] at e26 e27;obtain⟨v1,v2,v3⟩:=inv1;have n26:¬I T 24 < I T 22:=fun h=>np1 (e27.2 ⟨h15,e26.2 h⟩);rw[v3,show (I T 24).toNat=((L T 21)).length by omega,h21,h13];rfl
 exact⟨h9,h60,c9,h59,g25⟩
theorem Zp {T:Tab}(h9:(I T 9)=((L T 8)).length)(h60:(I T 60)=I T 9)(c9:(I T 9)<=20)(h59:(L T 59)=List.replicate (I T 9).toNat [.str ByteArray.empty,.int 0,.int 0,.int 0,.int 0,.int 0])(hS:AK T (Ab (Ab (hds 24 [.i,.l]++(Ab (Ab (hds 12 [.i,.l]++(Ab (BK 0 Dr.ks) CZ)) Bs) C8)) CG) D5))(hB:Ac T (Cq.map En.be))(hH:Ac T ((BS J3 [.i,.l] NX).map En.be)):
  (J3).owes (NX.map (Rf.eval T))/\AK T (hds 61 [.i,.l])/\(0<=I T 61/\I T 61<=I T 9/\L T 62=AZ (IK ((L T 8))) (I T 61).toNat (List.replicate (I T 9).toNat [.str ByteArray.empty,.int 0,.int 0,.int 0,.int 0,.int 0]))/\¬B T 64=true:=by
 refine CK (nh:=61) (k:=2) (pcn:=64) (top:=71) (bes:=Cq) (bos:=Rp) (nxt:=[.e 70,.e 69]) (inits:=[.c (.int 0),.e 59]) (fv:=[8,58,9,60]) (tys:=[.i,.l]) (by kernel_rfl) rfl rfl rfl rfl hS (by kernel_rfl) (by kernel_rfl) hB (BV hH) (fun s=>0<=(aI s 0)/\(aI s 0)<=I T 9/\(aL s 1)=AZ (IK ((L T 8))) (aI s 0).toNat (List.replicate (I T 9).toNat [.str ByteArray.empty,.int 0,.int 0,.int 0,.int 0,.int 0])) (fun s=>((I T 9) - (aI s 0)).toNat) ?_ ?_
 .show 0<=(0:Int)/\(0:Int)<=I T 9/\L T 59=AZ (IK ((L T 8))) (0:Int).toNat (List.replicate (I T 9).toNat [.str ByteArray.empty,.int 0,.int 0,.int 0,.int 0,.int 0]);clear hS hB hH;exact⟨by omega,by omega,by rw[show (0:Int).toNat=0 from rfl];exact h59⟩
 .intro T2 hfv hF inv;replace inv:0<=I T2 61/\I T2 61<=I T 9/\L T2 62=AZ (IK ((L T 8))) (I T2 61).toNat (List.replicate (I T 9).toNat [.str ByteArray.empty,.int 0,.int 0,.int 0,.int 0,.int 0]):=inv;clear hS hB hH;replace hF:AH T2 Cq:=hF;have F0:=hF;clear hF;have fv8:L T2 8=L T 8:=fvL (hfv 8 (by decide));have fv58:B T2 58=B T 58:=fvB (hfv 58 (by decide));have fv9:I T2 9=I T 9:=fvI (hfv 9 (by decide));have fv60:I T2 60=I T 60:=fvI (hfv 60 (by decide));clear hfv
  suffices hz:(B T2 64=true->0<=I T2 61/\I T2 61 < I T2 60)/\(B T2 64=true->0<=I T2 61/\I T2 61 < I T2 9)/\(B T2 64=true->(0<=I T2 70/\I T2 70<=I T 9/\L T2 69=AZ (IK ((L T 8))) (I T2 70).toNat (List.replicate (I T 9).toNat [.str ByteArray.empty,.int 0,.int 0,.int 0,.int 0,.int 0])))/\(B T2 64=true->((I T 9) - (I T2 70)).toNat < ((I T 9) - (I T2 61)).toNat) from
   let⟨r0,r1,nx,mz⟩:=hz;⟨⟨r0,r1,trivial⟩,fun hp=>⟨nx hp,mz hp⟩⟩
  refine⟨?_,?_,?_,?_⟩
  .obtain⟨e63,e64,-⟩:=F0;simp only[AI,AP,zR] at e63 e64;obtain⟨v1,v2,v3⟩:=inv;intro hp;have h63:=e63.1 (e64.1 hp).2;rw[fv9] at h63;rw[fv60];omega
  .obtain⟨e63,e64,-⟩:=F0;simp only[AI,AP,zR] at e63 e64;obtain⟨v1,v2,v3⟩:=inv;intro hp;have h63:=e63.1 (e64.1 hp).2;rw[fv9] at h63;rw[fv9];omega
  .obtain⟨e63,e64,-,e66,-,-,e69,e70,-⟩:=F0;simp only[AI,AP,zR,w2P,zL,zS,uR,zW,zC] at e63 e64 e66 e69 e70;obtain⟨v1,v2,v3⟩:=inv;intro hp;have h63:=e63.1 (e64.1 hp).2;rw[fv9] at h63;have x70:=e70 (by omega) (by omega);refine⟨by omega,by omega,?_⟩;rw[x70,show ((I T2 61)+1).toNat=(I T2 61).toNat+1 by omega];refine Eq.trans ?_ (congrArg (IK ((L T 8)) (I T2 61).toNat) v3);unfold IK;rw[e69,e66,fv8]
  .obtain⟨e63,e64,-,-,-,-,-,e70,-⟩:=F0;simp only[AI,AP,zR,w2P] at e63 e64 e70;obtain⟨v1,v2,v3⟩:=inv;intro hp;have h63:=e63.1 (e64.1 hp).2;rw[fv9] at h63;have x70:=e70 (by omega) (by omega);omega
theorem Yo {T:Tab}(hl0:(L T 0).length<=140737488355328)(hl1:(L T 1).length<=140737488355328)(pre0:(((L T 0)).length<=20/\((L T 1)).length<=20)/\Bj (L T 0)=0/\B8 (L T 1)=0)(h11:(I T 11)=((L T 0)).length)(h10:(L T 10)=[])(inv0:0<=I T 12/\I T 12<=((L T 0)).length/\L T 13=AZ (DP ((L T 0))) (I T 12).toNat [])(np0:¬B T 14=true)(h22:(I T 22)=((L T 21)).length)(h23:(L T 23)=[])(h21:(L T 21)=Df ((L T 1)))(g21:((L T 21)).length<=20)(h13:(L T 13)=Gf ((L T 0)))(h15:(B T 15)=true)(h8:(L T 8)=L T 0)(inv1:0<=I T 24/\I T 24<=((L T 21)).length/\L T 25=AZ (Dq ((L T 13)) ((L T 21))) (I T 24).toNat [])(np1:¬B T 27=true)(h9:(I T 9)=((L T 8)).length)(h60:(I T 60)=I T 9)(c9:(I T 9)<=20)(h59:(L T 59)=List.replicate (I T 9).toNat [.str ByteArray.empty,.int 0,.int 0,.int 0,.int 0,.int 0])(g25:(L T 25)=KT ((L T 0)) ((L T 1)))(inv2:0<=I T 61/\I T 61<=I T 9/\L T 62=AZ (IK ((L T 8))) (I T 61).toNat (List.replicate (I T 9).toNat [.str ByteArray.empty,.int 0,.int 0,.int 0,.int 0,.int 0]))(np2:¬B T 64=true)(A0:AH T CZ)(B0:AH T Bs)(A1:AH T C8)(B1:AH T CG)(A2:AH T D5)(B2:AH T Cq)(A3:AH T GF):
  ((I T 71)=((L T 25)).length)/\((L T 72)=[])/\(∀s,0<=Cj ((L T 13)) s/\(0 < ((L T 25)).length->Cj ((L T 13)) s < I T 60))/\(((L T 25)).length<=20):=by
 have F0:=A0;clear A0;have F1:=B0;clear B0;have F2:=A1;clear A1;obtain⟨F3,B1⟩:=B1.cut;have F4:=B1;clear B1;have F5:=A2;clear A2;have F6:=B2;clear B2;have F7:=A3;clear A3;have h71:(I T 71)=((L T 25)).length:=by
  obtain⟨e71,-⟩:=F7;simp only[AI,zR,zL] at e71;exact e71
 have h72:(L T 72)=[]:=by
  obtain⟨-,e72,-⟩:=F7;simp only[AI,zR,zL,zS] at e72;exact e72
 have gk:∀s,0<=Cj ((L T 13)) s/\(0 < ((L T 25)).length->Cj ((L T 13)) s < I T 60):=by
  rw[h60,h13,h9,h8,g25];intro s;exact⟨(Ww s).1,fun h=>(Ww s).2 (dD h)⟩
 have c25:((L T 25)).length<=20:=by
  rw[g25];exact wI (Sc _) (wI SV pre0.1.2)
 exact⟨h71,h72,gk,c25⟩
theorem ZQ {T:Tab}(h71:(I T 71)=((L T 25)).length)(h72:(L T 72)=[])(gk:∀s,0<=Cj ((L T 13)) s/\(0 < ((L T 25)).length->Cj ((L T 13)) s < I T 60))(c25:((L T 25)).length<=20)(hS:AK T (Ab (Ab (hds 61 [.i,.l]++(Ab (Ab (hds 24 [.i,.l]++(Ab (Ab (hds 12 [.i,.l]++(Ab (BK 0 Dr.ks) CZ)) Bs) C8)) CG) D5)) Cq) GF))(hB:Ac T (Dg.map En.be))(hH:Ac T ((BS J9 [.i,.l,.l] NB).map En.be)):
  (J9).owes (NB.map (Rf.eval T))/\AK T (hds 73 [.i,.l,.l])/\(0<=I T 73/\I T 73<=((L T 25)).length/\L T 74=AZ (IL ((L T 13)) ((L T 25)) (I T 2) (I T 3)) (I T 73).toNat ((L T 62))/\L T 75=AZ (inF ((L T 25)) (I T 2) (I T 3)) (I T 73).toNat [])/\¬B T 77=true:=by
 refine CK (nh:=73) (k:=3) (pcn:=77) (top:=108) (bes:=Dg) (bos:=R9) (nxt:=[.e 107,.e 104,.e 105]) (inits:=[.c (.int 0),.e 62,.e 72]) (fv:=[13,3,2,25,65,71,60]) (tys:=[.i,.l,.l]) (by kernel_rfl) rfl rfl rfl rfl hS (by kernel_rfl) (by kernel_rfl) hB (BV hH) (fun s=>0<=(aI s 0)/\(aI s 0)<=((L T 25)).length/\(aL s 1)=AZ (IL ((L T 13)) ((L T 25)) (I T 2) (I T 3)) (aI s 0).toNat ((L T 62))/\(aL s 2)=AZ (inF ((L T 25)) (I T 2) (I T 3)) (aI s 0).toNat []) (fun s=>(((L T 25)).length - (aI s 0)).toNat) ?_ ?_
 .show 0<=(0:Int)/\(0:Int)<=((L T 25)).length/\L T 62=AZ (IL ((L T 13)) ((L T 25)) (I T 2) (I T 3)) (0:Int).toNat ((L T 62))/\L T 72=AZ (inF ((L T 25)) (I T 2) (I T 3)) (0:Int).toNat [];clear hS hB hH;exact⟨by omega,by omega,rfl,by rw[show (0:Int).toNat=0 from rfl];exact h72⟩
 .intro T2 hfv hF inv;replace inv:0<=I T2 73/\I T2 73<=((L T 25)).length/\L T2 74=AZ (IL ((L T 13)) ((L T 25)) (I T 2) (I T 3)) (I T2 73).toNat ((L T 62))/\L T2 75=AZ (inF ((L T 25)) (I T 2) (I T 3)) (I T2 73).toNat []:=inv;clear hS hB hH;replace hF:AH T2 Dg:=hF;obtain⟨F0,hF⟩:=hF.cut;have F1:=hF;clear hF;have fv13:L T2 13=L T 13:=fvL (hfv 13 (by decide));have fv3:I T2 3=I T 3:=fvI (hfv 3 (by decide));have fv2:I T2 2=I T 2:=fvI (hfv 2 (by decide));have fv25:L T2 25=L T 25:=fvL (hfv 25 (by decide));have fv65:B T2 65=B T 65:=fvB (hfv 65 (by decide));have fv71:I T2 71=I T 71:=fvI (hfv 71 (by decide));have fv60:I T2 60=I T 60:=fvI (hfv 60 (by decide));clear hfv
  suffices hz:(B T2 92=true->0<=I T2 99/\I T2 99 < I T2 60)/\(B T2 92=true->0<=I T2 99/\I T2 99 < I T2 60)/\(B T2 92=true->0<=I T2 95/\I T2 95 < I T2 60)/\(B T2 92=true->0<=I T2 95/\I T2 95 < I T2 60)/\(B T2 92=true->(((L T2 75)).length+((L T2 93)).length)*88<=140737488355328)/\(B T2 77=true->0<=I T2 73/\I T2 73 < ((L T2 25)).length)/\(B T2 77=true->(0<=I T2 107/\I T2 107<=((L T 25)).length/\L T2 104=AZ (IL ((L T 13)) ((L T 25)) (I T 2) (I T 3)) (I T2 107).toNat ((L T 62))/\L T2 105=AZ (inF ((L T 25)) (I T 2) (I T 3)) (I T2 107).toNat []))/\(B T2 77=true->(((L T 25)).length - (I T2 107)).toNat < (((L T 25)).length - (I T2 73)).toNat) from
   let⟨r0,r1,r2,r3,r4,r5,nx,mz⟩:=hz;⟨⟨r0,r1,r2,r3,r4,r5,trivial⟩,fun hp=>⟨nx hp,mz hp⟩⟩
  refine⟨?_,?_,?_,?_,?_,?_,?_,?_⟩
  .obtain⟨e76,e77,-⟩:=F0;obtain⟨e92,-,-,-,-,-,-,e99,-⟩:=F1;simp only[AI,AP,zR,zL,uR,zW,zC,zS] at e76 e77 e92 e99;obtain⟨v1,v2,v3,v4⟩:=inv;intro hp;have h76:=e76.1 (e77.1 (e92.1 hp).1).2;rw[fv71] at h76;rw[e99,fv13,fv60];exact⟨(gk _).1,(gk _).2 (by omega)⟩
  .obtain⟨e76,e77,-⟩:=F0;obtain⟨e92,-,-,-,-,-,-,e99,-⟩:=F1;simp only[AI,AP,zR,zL,uR,zW,zC,zS] at e76 e77 e92 e99;obtain⟨v1,v2,v3,v4⟩:=inv;intro hp;have h76:=e76.1 (e77.1 (e92.1 hp).1).2;rw[fv71] at h76;rw[e99,fv13,fv60];exact⟨(gk _).1,(gk _).2 (by omega)⟩
  .obtain⟨e76,e77,-⟩:=F0;obtain⟨e92,-,-,e95,-⟩:=F1;simp only[AI,AP,zR,zL,uR,zW,zC,zS] at e76 e77 e92 e95;obtain⟨v1,v2,v3,v4⟩:=inv;intro hp;have h76:=e76.1 (e77.1 (e92.1 hp).1).2;rw[fv71] at h76;rw[e95,fv13,fv60];exact⟨(gk _).1,(gk _).2 (by omega)⟩
  .obtain⟨e76,e77,-⟩:=F0;obtain⟨e92,-,-,e95,-⟩:=F1;simp only[AI,AP,zR,zL,uR,zW,zC,zS] at e76 e77 e92 e95;obtain⟨v1,v2,v3,v4⟩:=inv;intro hp;have h76:=e76.1 (e77.1 (e92.1 hp).1).2;rw[fv71] at h76;rw[e95,fv13,fv60];exact⟨(gk _).1,(gk _).2 (by omega)⟩
  .obtain⟨e76,e77,-⟩:=F0;obtain⟨e92,e93,-⟩:=F1;simp only[AI,AP,zR,zL,zS,uR,DM,zW] at e76 e77 e92 e93;obtain⟨v1,v2,v3,v4⟩:=inv;intro hp;have h76:=e76.1 (e77.1 (e92.1 hp).1).2;rw[fv71] at h76;have hl:=Zv (G:=L T 25) (a:=I T 2) (b:=I T 3) (I T2 73).toNat;rw[<-v4] at hl;rw[e93];show (((L T2 75)).length+1)*88<=_;omega
  .obtain⟨e76,e77,-⟩:=F0;simp only[AI,AP,zR] at e76 e77;obtain⟨v1,v2,v3,v4⟩:=inv;intro hp;have h76:=e76.1 (e77.1 hp).2;rw[fv71] at h76;rw[fv25];omega
  .obtain⟨e76,e77,-,e79,e80,e81,e82,e83,e84,e85,e86,e87,e88,-,e90,e91,-⟩:=F0;obtain⟨-,e93,e94,e95,e96,e97,e98,e99,e100,e101,e102,-,e104,e105,-,e107,-⟩:=F1;simp only[AI,AP,zR,w2P,zL,zS,uR,DM,zW,zC] at e76 e77 e79 e80 e81 e82 e83 e84 e85 e86 e87 e88 e90 e91 e93 e94 e95 e96 e97 e98 e99 e100 e101 e102 e104 e105 e107;obtain⟨v1,v2,v3,v4⟩:=inv;intro hp;have h76:=e76.1 (e77.1 hp).2;rw[fv71] at h76;have x107:=e107 (by omega) (by omega);refine⟨by omega,by omega,?_,?_⟩
   .rw[x107,show ((I T2 73)+1).toNat=(I T2 73).toNat+1 by omega];refine Eq.trans ?_ (congrArg (IL ((L T 13)) ((L T 25)) (I T 2) (I T 3) (I T2 73).toNat) v3);unfold IL;rw[fv25] at e81 e83 e84;rw[fv2,e81] at e88;rw[fv3,e81] at e90;by_cases hb:(B T2 91)=true
    .have h91:=e91.1 hb;rw[e104,if_pos hb,if_pos (show J4 (I T 2) (I T 3) ((L T 25)) (I T2 73).toNat from⟨e88.1 h91.1,e90.1 h91.2⟩),e102,e101,e100,e98,e97,e96,e99,e95,fv13,e83,e84];rfl
    .rw[e104,if_neg hb,if_neg (fun h:J4 (I T 2) (I T 3) ((L T 25)) (I T2 73).toNat=>hb (e91.2 ⟨e88.2 h.1,e90.2 h.2⟩))]
   .rw[x107,show ((I T2 73)+1).toNat=(I T2 73).toNat+1 by omega];refine Eq.trans ?_ (congrArg (inF ((L T 25)) (I T 2) (I T 3) (I T2 73).toNat) v4);unfold inF;rw[fv25] at e79 e80 e81 e82 e83 e84 e85 e86 e87;by_cases hb:(B T2 91)=true
    .have h91:=e91.1 hb;have h88:=e88.1 h91.1;have h90:=e90.1 h91.2;rw[fv2,e81] at h88;rw[fv3,e81] at h90;rw[e105,if_pos hb,if_pos (show J4 (I T 2) (I T 3) ((L T 25)) (I T2 73).toNat from⟨h88,h90⟩),e94,e93,e79,e80,e81,e82,e83,e84,e85,e86,e87];rfl
    .rw[fv2,e81] at e88;rw[fv3,e81] at e90;rw[e105,if_neg hb,if_neg (fun h:J4 (I T 2) (I T 3) ((L T 25)) (I T2 73).toNat=>hb (e91.2 ⟨e88.2 h.1,e90.2 h.2⟩))]
  .obtain⟨e76,e77,-⟩:=F0;obtain⟨-,-,-,-,-,-,-,-,-,-,-,-,-,-,-,e107,-⟩:=F1;simp only[AI,AP,zR,w2P] at e76 e77 e107;obtain⟨v1,v2,v3,v4⟩:=inv;intro hp;have h76:=e76.1 (e77.1 hp).2;rw[fv71] at h76;have x107:=e107 (by omega) (by omega);omega
theorem Xc {T:Tab}(hl0:(L T 0).length<=140737488355328)(hl1:(L T 1).length<=140737488355328)(pre0:(((L T 0)).length<=20/\((L T 1)).length<=20)/\Bj (L T 0)=0/\B8 (L T 1)=0)(h11:(I T 11)=((L T 0)).length)(h10:(L T 10)=[])(inv0:0<=I T 12/\I T 12<=((L T 0)).length/\L T 13=AZ (DP ((L T 0))) (I T 12).toNat [])(np0:¬B T 14=true)(h22:(I T 22)=((L T 21)).length)(h23:(L T 23)=[])(h21:(L T 21)=Df ((L T 1)))(g21:((L T 21)).length<=20)(h13:(L T 13)=Gf ((L T 0)))(h15:(B T 15)=true)(h8:(L T 8)=L T 0)(inv1:0<=I T 24/\I T 24<=((L T 21)).length/\L T 25=AZ (Dq ((L T 13)) ((L T 21))) (I T 24).toNat [])(np1:¬B T 27=true)(h9:(I T 9)=((L T 8)).length)(h60:(I T 60)=I T 9)(c9:(I T 9)<=20)(h59:(L T 59)=List.replicate (I T 9).toNat [.str ByteArray.empty,.int 0,.int 0,.int 0,.int 0,.int 0])(g25:(L T 25)=KT ((L T 0)) ((L T 1)))(inv2:0<=I T 61/\I T 61<=I T 9/\L T 62=AZ (IK ((L T 8))) (I T 61).toNat (List.replicate (I T 9).toNat [.str ByteArray.empty,.int 0,.int 0,.int 0,.int 0,.int 0]))(np2:¬B T 64=true)(h71:(I T 71)=((L T 25)).length)(h72:(L T 72)=[])(gk:∀s,0<=Cj ((L T 13)) s/\(0 < ((L T 25)).length->Cj ((L T 13)) s < I T 60))(c25:((L T 25)).length<=20)(inv3:0<=I T 73/\I T 73<=((L T 25)).length/\L T 74=AZ (IL ((L T 13)) ((L T 25)) (I T 2) (I T 3)) (I T 73).toNat ((L T 62))/\L T 75=AZ (inF ((L T 25)) (I T 2) (I T 3)) (I T 73).toNat [])(np3:¬B T 77=true)(A0:AH T CZ)(B0:AH T Bs)(A1:AH T C8)(B1:AH T CG)(A2:AH T D5)(B2:AH T Cq)(A3:AH T GF)(B3:AH T Dg)(A4:AH T J8):
  ((I T 108)=((L T 75)).length)/\(((L T 75)).length<=((L T 25)).length/\((L T 75)).length<=20):=by
 have F0:=A0;clear A0;have F1:=B0;clear B0;have F2:=A1;clear A1;obtain⟨F3,B1⟩:=B1.cut;have F4:=B1;clear B1;have F5:=A2;clear A2;have F6:=B2;clear B2;have F7:=A3;clear A3;obtain⟨F8,B3⟩:=B3.cut;have F9:=B3;clear B3;have F10:=A4;clear A4;have h108:(I T 108)=((L T 75)).length:=by
  obtain⟨e108,-⟩:=F10;simp only[AI,zR,zL] at e108;exact e108
 have c75:((L T 75)).length<=((L T 25)).length/\((L T 75)).length<=20:=by
  obtain⟨v1,v2,v3,v4⟩:=inv3;have hl:=Zv (G:=L T 25) (a:=I T 2) (b:=I T 3) (I T 73).toNat;rw[<-v4] at hl;omega
 exact⟨h108,c75⟩
theorem cF {T:Tab}(gk:∀s,0<=Cj ((L T 13)) s/\(0 < ((L T 25)).length->Cj ((L T 13)) s < I T 60))(h108:(I T 108)=((L T 75)).length)(c75:((L T 75)).length<=((L T 25)).length/\((L T 75)).length<=20)(hS:AK T (Ab (Ab (hds 73 [.i,.l,.l]++(Ab (Ab (hds 61 [.i,.l]++(Ab (Ab (hds 24 [.i,.l]++(Ab (Ab (hds 12 [.i,.l]++(Ab (BK 0 Dr.ks) CZ)) Bs) C8)) CG) D5)) Cq) GF)) Dg) J8))(hB:Ac T (E4.map En.be))(hH:Ac T ((BS Jq [.i,.l] NR).map En.be)):
  (Jq).owes (NR.map (Rf.eval T))/\AK T (hds 109 [.i,.l])/\(0<=I T 109/\I T 109<=((L T 75)).length/\L T 110=AZ (JD ((L T 13)) ((L T 75))) (I T 109).toNat ((L T 74)))/\¬B T 112=true:=by
 refine CK (nh:=109) (k:=2) (pcn:=112) (top:=146) (bes:=E4) (bos:=R6) (nxt:=[.e 145,.e 144]) (inits:=[.c (.int 0),.e 74]) (fv:=[13,75,78,108,60]) (tys:=[.i,.l]) (by kernel_rfl) rfl rfl rfl rfl hS (by kernel_rfl) (by kernel_rfl) hB (BV hH) (fun s=>0<=(aI s 0)/\(aI s 0)<=((L T 75)).length/\(aL s 1)=AZ (JD ((L T 13)) ((L T 75))) (aI s 0).toNat ((L T 74))) (fun s=>(((L T 75)).length - (aI s 0)).toNat) ?_ ?_
 .show 0<=(0:Int)/\(0:Int)<=((L T 75)).length/\L T 74=AZ (JD ((L T 13)) ((L T 75))) (0:Int).toNat ((L T 74));clear hS hB hH;exact⟨by omega,by omega,rfl⟩
 .intro T2 hfv hF inv;replace inv:0<=I T2 109/\I T2 109<=((L T 75)).length/\L T2 110=AZ (JD ((L T 13)) ((L T 75))) (I T2 109).toNat ((L T 74)):=inv;clear hS hB hH;replace hF:AH T2 E4:=hF;obtain⟨F0,hF⟩:=hF.cut;obtain⟨F1,hF⟩:=hF.cut;have F2:=hF;clear hF;have fv13:L T2 13=L T 13:=fvL (hfv 13 (by decide));have fv75:L T2 75=L T 75:=fvL (hfv 75 (by decide));have fv78:B T2 78=B T 78:=fvB (hfv 78 (by decide));have fv108:I T2 108=I T 108:=fvI (hfv 108 (by decide));have fv60:I T2 60=I T 60:=fvI (hfv 60 (by decide));clear hfv
  suffices hz:(B T2 112=true->0<=I T2 124/\I T2 124 < I T2 60)/\(B T2 112=true->0<=I T2 123/\I T2 123 < I T2 60)/\(B T2 112=true->0<=I T2 109/\I T2 109 < ((L T2 75)).length)/\(B T2 112=true->(0<=I T2 145/\I T2 145<=((L T 75)).length/\L T2 144=AZ (JD ((L T 13)) ((L T 75))) (I T2 145).toNat ((L T 74))))/\(B T2 112=true->(((L T 75)).length - (I T2 145)).toNat < (((L T 75)).length - (I T2 109)).toNat) from
   let⟨r0,r1,r2,nx,mz⟩:=hz;⟨⟨r0,r1,r2,trivial⟩,fun hp=>⟨nx hp,mz hp⟩⟩
  refine⟨?_,?_,?_,?_,?_⟩
  .obtain⟨e111,e112,-,-,-,-,-,-,-,-,-,-,-,e124,-⟩:=F0;simp only[AI,AP,zR,zL,uR,zW,zC,zS] at e111 e112 e124;obtain⟨v1,v2,v3⟩:=inv;intro hp;have h111:=e111.1 (e112.1 hp).2;rw[fv108] at h111;rw[e124,fv13,fv60];exact⟨(gk _).1,(gk _).2 (by omega)⟩
  .obtain⟨e111,e112,-,-,-,-,-,-,-,-,-,-,e123,-⟩:=F0;simp only[AI,AP,zR,zL,uR,zW,zC,zS] at e111 e112 e123;obtain⟨v1,v2,v3⟩:=inv;intro hp;have h111:=e111.1 (e112.1 hp).2;rw[fv108] at h111;rw[e123,fv13,fv60];exact⟨(gk _).1,(gk _).2 (by omega)⟩
  .obtain⟨e111,e112,-⟩:=F0;simp only[AI,AP,zR] at e111 e112;obtain⟨v1,v2,v3⟩:=inv;intro hp;have h111:=e111.1 (e112.1 hp).2;rw[fv108] at h111;rw[fv75];omega
  .obtain⟨e111,e112,-,-,-,-,-,e118,e119,-,e121,e122,e123,e124,e125,e126,-⟩:=F0;obtain⟨e127,e128,e129,e130,e131,e132,e133,e134,e135,e136,e137,e138,-,e140,e141,e142,-⟩:=F1;obtain⟨-,e144,e145,-⟩:=F2;simp only[AI,AP,zR,w2P,zL,zS,uR,zW,zC] at e111 e112 e118 e119 e121 e122 e123 e124 e125 e126 e127 e128 e129 e130 e131 e132 e133 e134 e135 e136 e137 e138 e140 e141 e142 e144 e145;obtain⟨v1,v2,v3⟩:=inv;intro hp;have h111:=e111.1 (e112.1 hp).2;rw[fv108] at h111;have x145:=e145 (by omega) (by omega);refine⟨by omega,by omega,?_⟩;rw[x145,show ((I T2 109)+1).toNat=(I T2 109).toNat+1 by omega];refine Eq.trans ?_ (congrArg (JD ((L T 13)) ((L T 75)) (I T2 109).toNat) v3);unfold JD;rw[fv75] at e118 e119 e121 e122;have k1:(I T2 123)=Cj ((L T 13)) (Cc ((L T 75)) (I T2 109).toNat 4):=by rw[e123,e118,fv13];rfl
   have k2:(I T2 124)=Cj ((L T 13)) (Cc ((L T 75)) (I T2 109).toNat 5):=by rw[e124,e119,fv13];rfl
   have k3:(I T2 125)=w64 (Bx ((L T 75)) (I T2 109).toNat 7 - Bx ((L T 75)) (I T2 109).toNat 8):=by rw[e125,e121,e122];rfl
   rw[<-k1,<-k2,<-k3];have a1:(L T2 131)=eK ((L T2 110)) (I T2 123) (I T2 124) (I T2 125):=by rw[e131,e130,e129,e128,e127,e126];rfl
   have a2:(L T2 135)=cr ((L T2 131)) (I T2 123) (I T2 124):=by rw[e135,e134,e133,e132];rfl
   rw[<-a1,<-a2,e144];unfold dG;by_cases hb:(B T2 138)=true
   .have h138:=e138.1 hb;rw[e136,e137] at h138;rw[if_pos hb,if_pos h138,e142,e141,e140];rfl
   .rw[if_neg hb,if_neg (fun h=>hb (e138.2 (by rw[e136,e137];exact h)))]
  .obtain⟨e111,e112,-⟩:=F0;obtain⟨-,-,e145,-⟩:=F2;simp only[AI,AP,zR,w2P] at e111 e112 e145;obtain⟨v1,v2,v3⟩:=inv;intro hp;have h111:=e111.1 (e112.1 hp).2;rw[fv108] at h111;have x145:=e145 (by omega) (by omega);omega
theorem fm {T:Tab}(hl0:(L T 0).length<=140737488355328)(hl1:(L T 1).length<=140737488355328)(pre0:(((L T 0)).length<=20/\((L T 1)).length<=20)/\Bj (L T 0)=0/\B8 (L T 1)=0)(h11:(I T 11)=((L T 0)).length)(h10:(L T 10)=[])(inv0:0<=I T 12/\I T 12<=((L T 0)).length/\L T 13=AZ (DP ((L T 0))) (I T 12).toNat [])(np0:¬B T 14=true)(h22:(I T 22)=((L T 21)).length)(h23:(L T 23)=[])(h21:(L T 21)=Df ((L T 1)))(g21:((L T 21)).length<=20)(h13:(L T 13)=Gf ((L T 0)))(h15:(B T 15)=true)(h8:(L T 8)=L T 0)(inv1:0<=I T 24/\I T 24<=((L T 21)).length/\L T 25=AZ (Dq ((L T 13)) ((L T 21))) (I T 24).toNat [])(np1:¬B T 27=true)(h9:(I T 9)=((L T 8)).length)(h60:(I T 60)=I T 9)(c9:(I T 9)<=20)(h59:(L T 59)=List.replicate (I T 9).toNat [.str ByteArray.empty,.int 0,.int 0,.int 0,.int 0,.int 0])(g25:(L T 25)=KT ((L T 0)) ((L T 1)))(inv2:0<=I T 61/\I T 61<=I T 9/\L T 62=AZ (IK ((L T 8))) (I T 61).toNat (List.replicate (I T 9).toNat [.str ByteArray.empty,.int 0,.int 0,.int 0,.int 0,.int 0]))(np2:¬B T 64=true)(h71:(I T 71)=((L T 25)).length)(h72:(L T 72)=[])(gk:∀s,0<=Cj ((L T 13)) s/\(0 < ((L T 25)).length->Cj ((L T 13)) s < I T 60))(c25:((L T 25)).length<=20)(inv3:0<=I T 73/\I T 73<=((L T 25)).length/\L T 74=AZ (IL ((L T 13)) ((L T 25)) (I T 2) (I T 3)) (I T 73).toNat ((L T 62))/\L T 75=AZ (inF ((L T 25)) (I T 2) (I T 3)) (I T 73).toNat [])(np3:¬B T 77=true)(h108:(I T 108)=((L T 75)).length)(c75:((L T 75)).length<=((L T 25)).length/\((L T 75)).length<=20)(inv4:0<=I T 109/\I T 109<=((L T 75)).length/\L T 110=AZ (JD ((L T 13)) ((L T 75))) (I T 109).toNat ((L T 74)))(np4:¬B T 112=true)(A0:AH T CZ)(B0:AH T Bs)(A1:AH T C8)(B1:AH T CG)(A2:AH T D5)(B2:AH T Cq)(A3:AH T GF)(B3:AH T Dg)(A4:AH T J8)(B4:AH T E4)(A5:AH T Rl):
  ((L T 155)=(RH (L T 0) (L T 1) (I T 2) (I T 3)))/\
  ((I T 154)=(Gh (I T 2) (I T 3)))/\
  (B T 152=true->((L T 147)).length<=20)/\
  (B T 58=true->0<=I T 9/\I T 9<=68719476736)/\
  (B T 15=true->((L T 1)).length<=20)/\
  ((((L T 6)).length+((L T 0)).length)*32<=140737488355328)/\
  (B8 (L T 1)=0)/\
  (Bj (L T 0)=0):=by
 have F0:=A0;clear A0;have F1:=B0;clear B0;have F2:=A1;clear A1;obtain⟨F3,B1⟩:=B1.cut;have F4:=B1;clear B1;have F5:=A2;clear A2;have F6:=B2;clear B2;have F7:=A3;clear A3;obtain⟨F8,B3⟩:=B3.cut;have F9:=B3;clear B3;have F10:=A4;clear A4;obtain⟨F11,B4⟩:=B4.cut;obtain⟨F12,B4⟩:=B4.cut;have F13:=B4;clear B4;have F14:=A5;clear A5;refine⟨?_,?_,?_,?_,?_,?_,?_,?_⟩
 .obtain⟨e51,-,e53,e54,-,e56,e57,e58,-⟩:=F5;obtain⟨e63,e64,e65,-⟩:=F6;obtain⟨e76,e77,e78,-⟩:=F8;obtain⟨e111,e112,-⟩:=F11;obtain⟨-,e147,-,e149,-,e151,-,e153,-,e155,-⟩:=F14;replace e153:L T 153=(C5 ltT (L T 147)):=e153;simp only[AI,AP,zN,zR,zL,zS] at e51 e53 e54 e56 e57 e58 e63 e64 e65 e76 e77 e78 e111 e112 e147 e149 e151 e155;have hE:Gh (I T 2) (I T 3)=0↔¬B T 57=true:=by
   rw[Oi,e57,e54,e51,e53,e56,or_assoc]
  have hst:Gh (I T 2) (I T 3)=0->L T 110=Kt ((L T 0)) (KT ((L T 0)) ((L T 1))) (I T 2) (I T 3):=fun hz=>by
   have h58:=e58.2 (by simpa using hE.1 hz);have n63:¬B T 63=true:=fun h=>np2 (e64.2 ⟨h58,h⟩);have h65:=e65.2 ⟨h58,by simpa using n63⟩;have n76:¬B T 76=true:=fun h=>np3 (e77.2 ⟨h65,h⟩);have h78:=e78.2 ⟨h65,by simpa using n76⟩;have n111:¬B T 111=true:=fun h=>np4 (e112.2 ⟨h78,h⟩);obtain⟨p1,p2,p3⟩:=inv2;obtain⟨q1,q2,q3,q4⟩:=inv3;obtain⟨t1,t2,t3⟩:=inv4;have x61:¬I T 61 < I T 9:=fun h=>n63 (e63.2 h);have x73:¬I T 73 < I T 71:=fun h=>n76 (e76.2 h);have x109:¬I T 109 < I T 108:=fun h=>n111 (e111.2 h);have y75:(L T 75)=YO ((L T 25)) (I T 2) (I T 3):=by rw[q4,show (I T 73).toNat=((L T 25)).length by omega];rfl
   have y62:(L T 62)=st0 ((L T 0)):=by
    rw[p3,show (I T 61).toNat=((L T 8)).length by omega,show (I T 9).toNat=((L T 8)).length by omega,h8];rfl
   rw[t3,show (I T 109).toNat=((L T 75)).length by omega,q3,show (I T 73).toNat=((L T 25)).length by omega,y75,y62,h13,g25];rfl
  unfold RH;by_cases h57:(B T 57)=true
  .rw[if_neg (fun h=>hE.1 h h57),e155,if_pos (e151.2 (by rw[e149,if_pos h57];decide))]
  .rw[if_pos (hE.2 h57),e155,if_neg (fun h=>(e151.1 h) (by rw[e149,if_neg h57])),e153,e147,if_neg h57,hst (hE.2 h57)]
 .obtain⟨e51,-,e53,e54,-,e56,e57,-⟩:=F5;obtain⟨-,-,-,e149,-,e151,-,-,e154,-⟩:=F14;simp only[AI,AP,zR,zL,zS] at e51 e53 e54 e56 e57 e149 e151 e154;have hE:Gh (I T 2) (I T 3)=0↔¬B T 57=true:=by
   rw[Oi,e57,e54,e51,e53,e56,or_assoc]
  by_cases h57:(B T 57)=true
  .rw[e154,if_pos (e151.2 (by rw[e149,if_pos h57];decide)),e149,if_pos h57];have:Gh (I T 2) (I T 3)≠0:=fun h=>hE.1 h h57;unfold Gh at this⊢;split at this
   .rename_i h;rw[if_pos h]
   .exact absurd rfl this
  .rw[e154,if_neg (fun h=>(e151.1 h) (by rw[e149,if_neg h57])),hE.2 h57]
 .obtain⟨e51,-,e53,e54,-,e56,e57,e58,-⟩:=F5;obtain⟨e63,e64,e65,-⟩:=F6;obtain⟨e76,e77,e78,-⟩:=F8;obtain⟨e111,e112,-⟩:=F11;obtain⟨-,e147,-,e149,-,e151,e152,-⟩:=F14;simp only[AI,AP,zN,zR,zL,zS] at e51 e53 e54 e56 e57 e58 e63 e64 e65 e76 e77 e78 e111 e112 e147 e149 e151 e152;have hE:Gh (I T 2) (I T 3)=0↔¬B T 57=true:=by
   rw[Oi,e57,e54,e51,e53,e56,or_assoc]
  have hst:Gh (I T 2) (I T 3)=0->L T 110=Kt ((L T 0)) (KT ((L T 0)) ((L T 1))) (I T 2) (I T 3):=fun hz=>by
   have h58:=e58.2 (by simpa using hE.1 hz);have n63:¬B T 63=true:=fun h=>np2 (e64.2 ⟨h58,h⟩);have h65:=e65.2 ⟨h58,by simpa using n63⟩;have n76:¬B T 76=true:=fun h=>np3 (e77.2 ⟨h65,h⟩);have h78:=e78.2 ⟨h65,by simpa using n76⟩;have n111:¬B T 111=true:=fun h=>np4 (e112.2 ⟨h78,h⟩);obtain⟨p1,p2,p3⟩:=inv2;obtain⟨q1,q2,q3,q4⟩:=inv3;obtain⟨t1,t2,t3⟩:=inv4;have x61:¬I T 61 < I T 9:=fun h=>n63 (e63.2 h);have x73:¬I T 73 < I T 71:=fun h=>n76 (e76.2 h);have x109:¬I T 109 < I T 108:=fun h=>n111 (e111.2 h);have y75:(L T 75)=YO ((L T 25)) (I T 2) (I T 3):=by rw[q4,show (I T 73).toNat=((L T 25)).length by omega];rfl
   have y62:(L T 62)=st0 ((L T 0)):=by
    rw[p3,show (I T 61).toNat=((L T 8)).length by omega,show (I T 9).toNat=((L T 8)).length by omega,h8];rfl
   rw[t3,show (I T 109).toNat=((L T 75)).length by omega,q3,show (I T 73).toNat=((L T 25)).length by omega,y75,y62,h13,g25];rfl
  intro hp;have n149:¬(I T 149)≠0:=fun h=>by have:=e152.1 hp;rw[e151.2 h] at this;cases this
  have n57:¬B T 57=true:=fun h=>n149 (by rw[e149,if_pos h];decide);rw[e147,if_neg n57,hst (hE.2 n57)];show (Kt _ _ _ _).length<=20;rw[bp];exact pre0.1.1
 .obtain⟨-,-,e6,-,e8,e9,-⟩:=F0;obtain⟨e51,-,e53,e54,-,e56,e57,e58,-⟩:=F5;simp only[AI,AP,zR,zL,zS] at e6 e8 e9 e51 e53 e54 e56 e57 e58;grind (splits:=100)
 .obtain⟨-,-,-,-,-,-,-,e11,-⟩:=F0;obtain⟨e14,e15,-⟩:=F1;simp only[AI,AP,zR,zL] at e11 e14 e15;grind (splits:=100)
 .obtain⟨-,-,e6,-⟩:=F0;simp only[AI,zR,zL,zS] at e6;have h6:((L T 6)).length=0:=by rw[e6];rfl
  omega
 .first|(rfl)|(grind (splits:=100))
 .first|(rfl)|(grind (splits:=100))
theorem cW:Ae Try.prog 30 Dr:=by
 refine LM Ju (l:=[(41,NL),(47,MZ),(65,GI),(71,LG)]) Bh (by simp only[wJ];exact⟨Xg,ZL,ct,fz,fun _ h=>absurd h (by simp)⟩) gV (by kernel_rfl) fun T us hpre hT hul hS hBd hE=>?_;change us.length=4 at hul;obtain⟨⟨hl0,he0⟩,⟨hl1,he1⟩,-⟩:=hBd;replace hl0:(L T 0).length<=140737488355328:=hl0;replace hl1:(L T 1).length<=140737488355328:=hl1;have ha0:aL us 0=L T 0:=inL hT hul (by decide);have ha1:aL us 1=L T 1:=inL hT hul (by decide);have ha2:aI us 2=I T 2:=inI hT hul (by decide);have ha3:aI us 3=I T 3:=inI hT hul (by decide);have pre0:(((L T 0)).length<=20/\((L T 1)).length<=20)/\Bj (L T 0)=0/\B8 (L T 1)=0:=by
  have h:=hpre (.s "Table.p0",Hv) (by simp[Dr]);change Hv us at h;unfold Hv at h;simp only[ha0,ha1] at h;exact h
 clear hpre;rw[v7,v7,v7,v7,v7,v7,v7,v7,v7,v7,v7,v7,v7,v7,v7] at hE;have hA:=hE.left;replace hE:=hE.right;have hH:=hE.left;replace hE:=hE.right;have hB:=hE.left;replace hE:=hE.right;obtain⟨A0,hS1⟩:=Ai hS (by kernel_rfl) hA;obtain⟨h11,h10⟩:=ZG hl0 hl1 pre0 A0;obtain⟨ow0,hS2,inv0,np0⟩:=Zw pre0 h11 h10 hS1 hB hH;have hF2:=(Ai (hS2.append hS1) (l:=Bs) (by kernel_rfl) hB);obtain⟨B0,hS⟩:=hF2;clear hA hB hH hS1 hS2;have hA:=hE.left;replace hE:=hE.right;have hH:=hE.left;replace hE:=hE.right;have hB:=hE.left;replace hE:=hE.right;obtain⟨A1,hS1⟩:=Ai hS (by kernel_rfl) hA;obtain⟨h22,h23,h21,g21,h13,h15,h8⟩:=Xl hl0 hl1 pre0 h11 h10 inv0 np0 A0 B0 A1;obtain⟨ow1,hS2,inv1,np1⟩:=bM h22 h23 g21 hS1 hB hH;have hF2:=(Ai (hS2.append hS1) (l:=CG) (by kernel_rfl) hB);obtain⟨B1,hS⟩:=hF2;clear hA hB hH hS1 hS2;have hA:=hE.left;replace hE:=hE.right;have hH:=hE.left;replace hE:=hE.right;have hB:=hE.left;replace hE:=hE.right;obtain⟨A2,hS1⟩:=Ai hS (by kernel_rfl) hA;obtain⟨h9,h60,c9,h59,g25⟩:=YT hl0 hl1 pre0 h11 h10 inv0 np0 h22 h23 h21 g21 h13 h15 h8 inv1 np1 A0 B0 A1 B1 A2;obtain⟨ow2,hS2,inv2,np2⟩:=Zp h9 h60 c9 h59 hS1 hB hH;have hF2:=(Ai (hS2.append hS1) (l:=Cq) (by kernel_rfl) hB);obtain⟨B2,hS⟩:=hF2;clear hA hB hH hS1 hS2;have hA:=hE.left;replace hE:=hE.right;have hH:=hE.left;replace hE:=hE.right;have hB:=hE.left;replace hE:=hE.right;obtain⟨A3,hS1⟩:=Ai hS (by kernel_rfl) hA;obtain⟨h71,h72,gk,c25⟩:=Yo hl0 hl1 pre0 h11 h10 inv0 np0 h22 h23 h21 g21 h13 h15 h8 inv1 np1 h9 h60 c9 h59 g25 inv2 np2 A0 B0 A1 B1 A2 B2 A3;obtain⟨ow3,hS2,inv3,np3⟩:=ZQ h71 h72 gk c25 hS1 hB hH;have hF2:=(Ai (hS2.append hS1) (l:=Dg) (by kernel_rfl) hB);obtain⟨B3,hS⟩:=hF2;clear hA hB hH hS1 hS2;have hA:=hE.left;replace hE:=hE.right;have hH:=hE.left;replace hE:=hE.right;have hB:=hE.left;replace hE:=hE.right;obtain⟨A4,hS1⟩:=Ai hS (by kernel_rfl) hA;obtain⟨h108,c75⟩:=Xc hl0 hl1 pre0 h11 h10 inv0 np0 h22 h23 h21 g21 h13 h15 h8 inv1 np1 h9 h60 c9 h59 g25 inv2 np2 h71 h72 gk c25 inv3 np3 A0 B0 A1 B1 A2 B2 A3 B3 A4;obtain⟨ow4,hS2,inv4,np4⟩:=cF gk h108 c75 hS1 hB hH;have hF2:=(Ai (hS2.append hS1) (l:=E4) (by kernel_rfl) hB);obtain⟨B4,hS⟩:=hF2;clear hA hB hH hS1 hS2;obtain⟨A5,hO⟩:=BG (tys:=[.l,.i]) (rs:=W3) hS (by kernel_rfl) hE;obtain⟨q0,q1,r0,r1,r2,r3,r4,r5⟩:=fm hl0 hl1 pre0 h11 h10 inv0 np0 h22 h23 h21 g21 h13 h15 h8 inv1 np1 h9 h60 c9 h59 g25 inv2 np2 h71 h72 gk c25 inv3 np3 h108 c75 inv4 np4 A0 B0 A1 B1 A2 B2 A3 B3 A4 B4 A5;refine⟨⟨r0,(fun _=>ow4),(fun _=>ow3),(fun _=>ow2),r1,(fun _=>ow1),r2,(fun _=>ow0),(fun _=>r3),(fun _=>r4),(fun _=>r5),trivial⟩,hO.trans ?_⟩;exact (lc (by show U.list (L T 155)= .list (KA us);unfold KA;rw[ha0,ha1,ha2,ha3];exact congrArg U.list q0) (lc (by show U.int (I T 154)= .int (Jn us);unfold Jn;rw[ha2,ha3];exact congrArg U.int q1) rfl))
def Db:List U->Bool:=fun us=>(true)
def G6:AV:={ sh:=[],blks:=[],outs:=[(.s "works.0",LP Db)],c:= .b 0,m':=[],pre:=[] }
def Wc:List En:=[⟨0,.row 3 3 [.s,.i,.i,.s,.i,.i,.s,.i,.i],[.c (.str ⟨#[97,110,110]⟩),.c (.int 2000),.c (.int 0),.c (.str ⟨#[98,111,98]⟩),.c (.int 1500),.c (.int 10),.c (.str ⟨#[99,97,116]⟩),.c (.int 1000),.c (.int 20)]⟩,
 ⟨1,.id .i,[.c (.int 1)]⟩,
 ⟨2,.get .s 0,[.e 0,.e 1]⟩,
 ⟨3,.get .i 1,[.e 0,.e 1]⟩,
 ⟨4,.get .i 2,[.e 0,.e 1]⟩,
 ⟨5,.id .i,[.c (.int 0)]⟩,
 ⟨6,.get .s 0,[.e 0,.e 5]⟩,
 ⟨7,.get .i 1,[.e 0,.e 5]⟩,
 ⟨8,.get .i 2,[.e 0,.e 5]⟩,
 ⟨9,.outS "Count.0" GZ,[.e 2,.e 3,.e 4,.e 6,.e 7,.e 8,.c (.bool true)]⟩,
 ⟨10,.outI "Count.1" GW,[.e 2,.e 3,.e 4,.e 6,.e 7,.e 8,.c (.bool true)]⟩,
 ⟨11,.outI "Count.2" GL,[.e 2,.e 3,.e 4,.e 6,.e 7,.e 8,.c (.bool true)]⟩,
 ⟨12,.outS "Count.3" GM,[.e 2,.e 3,.e 4,.e 6,.e 7,.e 8,.c (.bool true)]⟩,
 ⟨13,.outI "Count.4" GK,[.e 2,.e 3,.e 4,.e 6,.e 7,.e 8,.c (.bool true)]⟩,
 ⟨14,.outI "Count.5" GQ,[.e 2,.e 3,.e 4,.e 6,.e 7,.e 8,.c (.bool true)]⟩,
 ⟨15,.outI "Count.6" GS,[.e 2,.e 3,.e 4,.e 6,.e 7,.e 8,.c (.bool true)]⟩]
def Wa:List En:=[⟨16,.row 3 9 [.i,.i,.i,.b,.s,.s,.b,.i,.i,.i,.i,.i,.b,.s,.s,.b,.i,.i,.i,.i,.i,.b,.s,.s,.b,.i,.i],[.c (.int 1),.c (.int 0),.c (.int 5),.c (.bool false),.c (.str ⟨#[97,110,110]⟩),.c (.str ⟨#[98,111,98]⟩),.c (.bool true),.c (.int 26),.c (.int 20),.c (.int 2),.c (.int 0),.c (.int 6),.c (.bool false),.c (.str ⟨#[98,111,98]⟩),.c (.str ⟨#[99,97,116]⟩),.c (.bool true),.c (.int 26),.c (.int 3),.c (.int 3),.c (.int 0),.c (.int 7),.c (.bool false),.c (.str ⟨#[99,97,116]⟩),.c (.str ⟨#[97,110,110]⟩),.c (.bool true),.c (.int 26),.c (.int 25)]⟩,
 ⟨17,.outL "Table.0" KA,[.e 0,.e 16,.c (.int 0),.c (.int 100)]⟩,
 ⟨18,.outI "Table.1" Jn,[.e 0,.e 16,.c (.int 0),.c (.int 100)]⟩,
 ⟨19,.w2 .i64 .add,[.e 15,.e 18]⟩,
 ⟨20,.eq,[.e 19,.c (.int 0)]⟩,
 ⟨21,.id .b,[.e 20]⟩,
 ⟨22,.eqs [.s,.i,.i],[.e 9,.c (.str ⟨#[98,111,98]⟩),.e 10,.c (.int 1514),.e 11,.c (.int 10)]⟩,
 ⟨23,.and,[.e 20,.e 22]⟩,
 ⟨24,.id .b,[.e 23]⟩,
 ⟨25,.eqs [.s,.i,.i],[.e 12,.c (.str ⟨#[97,110,110]⟩),.e 13,.c (.int 1986),.e 14,.c (.int 0)]⟩,
 ⟨26,.and,[.e 23,.e 25]⟩,
 ⟨27,.id .b,[.e 26]⟩,
 ⟨28,.len,[.e 17]⟩,
 ⟨29,.eq,[.e 28,.c (.int 3)]⟩,
 ⟨30,.and,[.e 26,.e 29]⟩,
 ⟨31,.id .b,[.e 30]⟩]
def Wb:List En:=[⟨32,.id .i,[.c (.int 0)]⟩,
 ⟨33,.get .s 0,[.e 17,.e 32]⟩,
 ⟨34,.get .i 1,[.e 17,.e 32]⟩,
 ⟨35,.get .i 2,[.e 17,.e 32]⟩,
 ⟨36,.get .i 3,[.e 17,.e 32]⟩,
 ⟨37,.get .i 4,[.e 17,.e 32]⟩,
 ⟨38,.get .i 5,[.e 17,.e 32]⟩,
 ⟨39,.eqs [.s,.i,.i,.i,.i,.i],[.e 33,.c (.str ⟨#[98,111,98]⟩),.e 34,.c (.int 1),.e 35,.c (.int 1),.e 36,.c (.int 1),.e 37,.c (.int 17),.e 38,.c (.int 1)]⟩,
 ⟨40,.and,[.e 30,.e 39]⟩]
def R4:List En:=Wc++(Wa++(Wb))
def fN:List ObE:=[⟨some 31,.inl,[.c (.int 0),.e 17]⟩,
 ⟨none,.pre "Table.p0" Hv,[.e 0,.e 16,.c (.int 0),.c (.int 100)]⟩,
 ⟨none,.inl,[.c (.int 0),.e 0]⟩,
 ⟨none,.inl,[.c (.int 1),.e 0]⟩]
def Wu:List Rf:=[.e 40]
theorem gG:G6.sees Wu (G6.run Try.prog [(16,FC),(30,Dr)] AW 3000 20 15)=some ((R4).map En.be,fN.map ObE.be,[]):=by kernel_rfl
theorem gP {T:Tab}(A0:AH T R4):
  ((B T 40)=(true))/\
  (B T 31=true->0<=(0:Int)/\(0:Int) < ((L T 17)).length)/\
  ((((L T 0)).length<=20/\((L T 16)).length<=20)/\Bj (L T 0)=0/\B8 (L T 16)=0)/\
  (0<=(0:Int)/\(0:Int) < ((L T 0)).length)/\
  (0<=(1:Int)/\(1:Int) < ((L T 0)).length):=by
 obtain⟨F0,A0⟩:=A0.cut;obtain⟨F1,A0⟩:=A0.cut;have F2:=A0;clear A0;have x2:((S T 2)=Qz/\I T 3=1500/\I T 4=10)/\S T 6=Te/\I T 7=2000/\I T 8=0:=by
  obtain⟨e0,e1,e2,e3,e4,e5,e6,e7,e8,-⟩:=F0;simp only[AI,AP,zR,zL,zS,uR,DM,zW] at e0 e1 e2 e3 e4 e5 e6 e7 e8;refine⟨⟨?_,?_,?_⟩,?_,?_,?_⟩
  .rw[e2,e1,e0];rfl
  .rw[e3,e1,e0];rfl
  .rw[e4,e1,e0];rfl
  .rw[e6,e5,e0];rfl
  .rw[e7,e5,e0];rfl
  .rw[e8,e5,e0];rfl
 have x0:(L T 0)=dI/\L T 16=dK:=by
  obtain⟨e0,-⟩:=F0;obtain⟨e16,-⟩:=F1;simp only[AI,zC,zR,zL,zS,uR,DM,zW] at e0 e16;exact⟨by rw[e0];rfl,by rw[e16];rfl⟩
 refine⟨?_,?_,?_,?_,?_⟩
 .obtain⟨-,-,-,-,-,-,-,-,-,e9,e10,e11,e12,e13,e14,e15,-⟩:=F0;obtain⟨-,e17,e18,e19,e20,-,e22,e23,-,e25,e26,-,e28,e29,e30,-⟩:=F1;obtain⟨e32,e33,e34,e35,e36,e37,e38,e39,e40,-⟩:=F2;replace e9:S T 9=(if Am (S T 2) (I T 3) (I T 4) (S T 6) (I T 7) (I T 8)=0 then (S T 2) else (⟨#[]⟩:ByteArray)):=e9;replace e10:I T 10=(if Am (S T 2) (I T 3) (I T 4) (S T 6) (I T 7) (I T 8)=0 then Ax (I T 3) (Ar (I T 3) (I T 7) true) else 0):=e10;replace e11:I T 11=(if Am (S T 2) (I T 3) (I T 4) (S T 6) (I T 7) (I T 8)=0 then CT (Ax (I T 3) (Ar (I T 3) (I T 7) true)) (I T 4) else 0):=e11;replace e12:S T 12=(if Am (S T 2) (I T 3) (I T 4) (S T 6) (I T 7) (I T 8)=0 then (S T 6) else (⟨#[]⟩:ByteArray)):=e12;replace e13:I T 13=(if Am (S T 2) (I T 3) (I T 4) (S T 6) (I T 7) (I T 8)=0 then Ax (I T 7) (-(Ar (I T 3) (I T 7) true)) else 0):=e13;replace e14:I T 14=(if Am (S T 2) (I T 3) (I T 4) (S T 6) (I T 7) (I T 8)=0 then CT (Ax (I T 7) (-(Ar (I T 3) (I T 7) true))) (I T 8) else 0):=e14;replace e15:I T 15=(Am (S T 2) (I T 3) (I T 4) (S T 6) (I T 7) (I T 8)):=e15;replace e17:L T 17=(RH (L T 0) (L T 16) (0:Int) (100:Int)):=e17;replace e18:I T 18=(Gh (0:Int) (100:Int)):=e18;simp only[AI,AP,zR,EN,and_true,w2P,zL,zS] at e19 e20 e22 e23 e25 e26 e28 e29 e30 e32 e33 e34 e35 e36 e37 e38 e39 e40;obtain⟨⟨q2,q3,q4⟩,q6,q7,q8⟩:=x2;obtain⟨q0,q16⟩:=x0;rw[q2,q3,q4,q6,q7,q8] at e9 e10 e11 e12 e13 e14 e15;rw[if_pos XD] at e9 e10 e11 e12 e13 e14;rw[q0,q16] at e17;have q17:(L T 17)=Id:=e17;have q18:(I T 18)=0:=e18.trans iC;have q15:(I T 15)=0:=e15.trans XD;have h19:=e19 (by omega) (by omega);have h20:=e20.2 (by omega);have h22:=e22.2 ⟨e9,e10.trans ex_i,e11.trans ex_g⟩;have h25:=e25.2 ⟨e12,e13.trans ex_j,e14.trans ex_h⟩;have h28:(I T 28)=3:=by rw[e28,q17,bQ];rfl
  have h30:=e30.2 ⟨e26.2 ⟨e23.2 ⟨h20,h22⟩,h25⟩,e29.2 h28⟩;rw[q17,e32] at e33 e34 e35 e36 e37 e38;obtain⟨r0,r1,r2,r3,r4,r5⟩:=ib;exact e40.2 ⟨h30,e39.2 ⟨e33.trans r0,e34.trans r1,e35.trans r2,e36.trans r3,e37.trans r4,e38.trans r5⟩⟩
 .obtain⟨-,e17,-⟩:=F1;replace e17:L T 17=(RH (L T 0) (L T 16) (0:Int) (100:Int)):=e17;obtain⟨q0,q16⟩:=x0;rw[q0,q16] at e17;have q17:(L T 17)=Id:=e17;intro _;rw[q17,bQ];decide
 .obtain⟨q0,q16⟩:=x0;rw[q0,q16];exact⟨⟨by decide,by decide⟩,Y3,Z0⟩
 .obtain⟨q0,q16⟩:=x0;rw[q0];decide
 .obtain⟨q0,q16⟩:=x0;rw[q0];decide
theorem U9:Ae Try.prog 15 G6:=by
 refine BH (l:=[(16,FC),(30,Dr)]) Bh (by simp only[wJ];exact⟨PF,cW,fun _ h=>absurd h (by simp)⟩) gG (by kernel_rfl) fun T us hpre hT hul hS hBd hE=>?_;change us.length=0 at hul;clear hBd;clear hpre
 skip
 obtain⟨A0,hO⟩:=BG (tys:=[.b]) (rs:=Wu) hS (by kernel_rfl) hE;obtain⟨q0,r0,r1,r2,r3⟩:=gP A0;refine⟨⟨r0,(fun _=>r1),(fun _=>r2),(fun _=>r3),trivial⟩,hO.trans ?_⟩;exact (lc (by show U.bool (B T 40)= .bool (Db us);unfold Db;exact congrArg U.bool q0) rfl)
end
end Go.Eng
end
