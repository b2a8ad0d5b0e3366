/-
  A part of the proof: K_rballd K_rball.
-/
import Derived.Test.YtmlmcidljiibaaaE3
import Derived.Test.YtmlmcidljiibaaaE4
import Derived.Test.YtmlmcidljiibaaaKrpoint
set_option linter.unusedVariables false
set_option linter.unusedSimpArgs false
noncomputable section
open Go Go.Eng Go.Proofs
set_option maxHeartbeats 4000000
set_option maxRecDepth 100000
namespace Go.Eng
def HL:List U→Int:=fun us=>(AQ (aI us 0) (aL us 1))
def II:Ak:={ sh:=[.one (k64),.one (.list [k64,k64,k64])],blks:=[],outs:=[(.s "rball.0",Bj HL)],c:=(CR 2),m':=[],pre:=[] }
def Ul:List En:=[⟨2,.le,[.c (.int 1),.e 0]⟩,
 ⟨3,.id .b,[.e 2]⟩,
 ⟨4,.le,[.e 0,.c (.int 16384)]⟩,
 ⟨5,.and,[.e 2,.e 4]⟩,
 ⟨6,.not,[.e 5]⟩,
 ⟨7,.len,[.e 1]⟩,
 ⟨8,.lt,[.c (.int 12),.e 7]⟩,
 ⟨9,.and,[.e 5,.e 8]⟩,
 ⟨10,.and,[.e 5,.n 8]⟩]
def Tm:List En:=[⟨12,.len,[.e 1]⟩,
 ⟨13,.lt,[.e 11,.e 12]⟩,
 ⟨14,.and,[.e 10,.e 13]⟩,
 ⟨15,.and,[.e 10,.n 13]⟩,
 ⟨16,.get .i 0,[.e 1,.e 11]⟩,
 ⟨17,.get .i 1,[.e 1,.e 11]⟩,
 ⟨18,.outB "rpoint.0" GY,[.e 16,.e 17]⟩,
 ⟨19,.and,[.e 14,.e 18]⟩,
 ⟨20,.get .i 2,[.e 1,.e 11]⟩,
 ⟨21,.le,[.c (.int 1),.e 20]⟩,
 ⟨22,.and,[.e 19,.e 21]⟩,
 ⟨23,.le,[.e 20,.c (.int 16384)]⟩,
 ⟨24,.and,[.e 21,.e 23]⟩,
 ⟨25,.or,[.n 18,.n 24]⟩,
 ⟨26,.and,[.e 14,.e 25]⟩,
 ⟨27,.and,[.e 14,.n 25]⟩]
def Tx:List En:=[⟨28,.w2 .i64 .add,[.e 11,.c (.int 1)]⟩]
def L0:List En:=Ul
def Eb:List En:=Tm++(Tx)
def Qc:List ObE:=[⟨some 19,.inl,[.e 11,.e 1]⟩,⟨some 14,.inl,[.e 11,.e 1]⟩]
def JD:Ae:=mkD 11 1 Eb 27 [.e 28] Qc [1,10]
def L2:List Rf:=[.e 1,.e 10,.c (.int 0)]
def UD:List En:=[⟨29,.ite .i,[.e 26,.c (.int 2),.c (.int 0)]⟩,
 ⟨30,.or,[.e 26,.e 15]⟩,
 ⟨31,.ite .i,[.e 9,.c (.int 6),.e 29]⟩,
 ⟨32,.or,[.e 9,.e 30]⟩,
 ⟨33,.ite .i,[.e 6,.c (.int 3),.e 31]⟩,
 ⟨34,.or,[.e 6,.e 32]⟩]
def QT:List En:=UD
def df:List ObE:=[⟨some 10,.owes JD,[.e 1,.e 10,.c (.int 0)]⟩]
def V3:List Rf:=[.e 33]
theorem dS:II.sees V3 (II.run Try.prog [(80,FX)] Ah 3000 20 61)=some ((L0++((BJ JD [.i] L2)++(Eb++(QT)))).map En.be,df.map ObE.be,[]):=by kernel_rfl
theorem Yp {T:Tab}(hl1:(L T 1).length≤140737488355328)(hS:AL T (Al (BT 0 II.ks) L0))(hB:Ag T (Eb.map En.be))(hH:Ag T ((BJ JD [.i] L2).map En.be)):
  (JD).owes (L2.map (Rf.eval T))∧AL T (hds 11 [.i])∧(0≤I T 11∧I T 11≤((L T 1)).length∧(∀j:Nat,(j:Int) < I T 11→Ax (((L T 1)).getD j [])=true))∧¬B T 27=true:=by
 refine Bl (nh:=11) (k:=1) (pcn:=27) (top:=29) (bes:=Eb) (bos:=Qc) (nxt:=[.e 28]) (inits:=[.c (.int 0)]) (fv:=[1,10]) (tys:=[.i]) (by kernel_rfl) rfl rfl rfl rfl hS (by kernel_rfl) (by kernel_rfl) hB (BK hH) (fun s=>0≤(aI s 0)∧(aI s 0)≤((L T 1)).length∧(∀j:Nat,(j:Int) < (aI s 0)→Ax (((L T 1)).getD j [])=true)) (fun s=>(((L T 1)).length - (aI s 0)).toNat) ?_ ?_
 ·show 0≤(0:Int)∧(0:Int)≤((L T 1)).length∧(∀j:Nat,(j:Int) < (0:Int)→Ax (((L T 1)).getD j [])=true)
  clear hS hB hH
  exact⟨by omega,by omega,fun j hj=>absurd hj (by omega)⟩
 ·intro T2 hfv hF inv
  replace inv:0≤I T2 11∧I T2 11≤((L T 1)).length∧(∀j:Nat,(j:Int) < I T2 11→Ax (((L T 1)).getD j [])=true):=inv
  clear hS hB hH
  replace hF:AJ T2 Eb:=hF
  obtain⟨F0,hF⟩:=hF.cut
  have F1:=hF;clear hF
  have fv1:L T2 1=L T 1:=fvL (hfv 1 (by decide))
  have fv10:B T2 10=B T 10:=fvB (hfv 10 (by decide))
  clear hfv
  suffices hz:(B T2 19=true→0≤I T2 11∧I T2 11 < ((L T2 1)).length)∧(B T2 14=true→0≤I T2 11∧I T2 11 < ((L T2 1)).length)∧(B T2 27=true→(0≤I T2 28∧I T2 28≤((L T 1)).length∧(∀j:Nat,(j:Int) < I T2 28→Ax (((L T 1)).getD j [])=true)))∧(B T2 27=true→(((L T 1)).length - (I T2 28)).toNat < (((L T 1)).length - (I T2 11)).toNat) from
   let⟨r0,r1,nx,mz⟩:=hz;⟨⟨r0,r1,trivial⟩,fun hp=>⟨nx hp,mz hp⟩⟩
  refine⟨?_,?_,?_,?_⟩
  ·obtain⟨e12,e13,e14,-,e16,e17,e18,e19,-⟩:=F0
   replace e18:B T2 18=(AH (I T2 16) (I T2 17)):=e18
   simp only[AE,AF,zR,zL] at*
   obtain⟨v1,v2,v3⟩:=inv
   intro hp
   have h4:=e13.1 (e14.1 (e19.1 hp).1).2
   rw[e12,fv1] at h4
   rw[fv1]
   omega
  ·obtain⟨e12,e13,e14,-⟩:=F0
   simp only[AE,AF,zR,zL] at e12 e13 e14
   obtain⟨v1,v2,v3⟩:=inv
   intro hp
   have h4:=e13.1 (e14.1 hp).2
   rw[e12,fv1] at h4
   rw[fv1]
   omega
  ·obtain⟨e12,e13,e14,-,e16,e17,e18,-,e20,e21,-,e23,e24,e25,-,e27,-⟩:=F0
   obtain⟨e28,-⟩:=F1
   replace e18:B T2 18=(AH (I T2 16) (I T2 17)):=e18
   simp only[AE,AF,zN,zR,w2P,zL] at*
   obtain⟨v1,v2,v3⟩:=inv
   intro hp
   have h4:=e13.1 (e14.1 (e27.1 hp).1).2
   rw[e12,fv1] at h4
   have e:(I T2 28)=I T2 11+1:=e28 (by omega) (by omega)
   have h18:¬B T2 25=true→Ax (((L T 1)).getD (I T2 11).toNat [])=true:=fun h=>C4.2 (by rw[←fv1,←e16,←e17,←e20];clear v3;grind)
   refine⟨by omega,by omega,fun j hj=>?_⟩
   by_cases hj2:(j:Int) < I T2 11
   ·exact v3 j hj2
   ·obtain rfl:j=(I T2 11).toNat:=by omega
    exact h18 (by clear v3;grind)
  ·obtain⟨e12,e13,e14,-,e16,e17,e18,-,e20,e21,-,e23,e24,e25,-,e27,-⟩:=F0
   obtain⟨e28,-⟩:=F1
   replace e18:B T2 18=(AH (I T2 16) (I T2 17)):=e18
   simp only[AE,AF,zN,zR,w2P,zL] at*
   obtain⟨v1,v2,v3⟩:=inv
   intro hp
   have h4:=e13.1 (e14.1 (e27.1 hp).1).2
   rw[e12,fv1] at h4
   have e:(I T2 28)=I T2 11+1:=e28 (by omega) (by omega)
   omega
theorem cJ {T:Tab}(hl1:(L T 1).length≤140737488355328)(inv0:0≤I T 11∧I T 11≤((L T 1)).length∧(∀j:Nat,(j:Int) < I T 11→Ax (((L T 1)).getD j [])=true))(np0:¬B T 27=true)(A0:AJ T L0)(B0:AJ T Eb)(A1:AJ T QT):
  ((I T 33)=(AQ (I T 0) (L T 1))):=by
 have F0:=A0;clear A0
 obtain⟨F1,B0⟩:=B0.cut
 have F2:=B0;clear B0
 have F3:=A1;clear A1
 ·obtain⟨e2,-,e4,e5,e6,e7,e8,e9,e10,-⟩:=F0
  obtain⟨e12,e13,e14,-,e16,e17,e18,-,e20,e21,-,e23,e24,e25,e26,e27,-⟩:=F1
  obtain⟨e29,-,e31,-,e33,-⟩:=F3
  replace e18:B T 18=(AH (I T 16) (I T 17)):=e18
  simp only[AE,AF,zN,zR,zL] at*
  obtain⟨w1,w2,w3⟩:=inv0
  have h5:Bx (I T 0)=B T 5:=Bool.eq_iff_iff.2 (by rw[CN];clear w3;grind)
  unfold AQ
  rw[h5,e33,e31,e29]
  cases k5:(B T 5) with
  |false=>rw[if_pos (e6.2 k5),if_pos (by decide)]
  |true=>
   have k6:¬B T 6=true:=fun h=>by rw[e6.1 h] at k5;cases k5
   rw[if_neg k6,if_neg (by decide:¬ ¬true=true)]
   by_cases c:12 < ((L T 1)).length
   ·rw[if_pos (e9.2 ⟨k5,e8.2 (by omega)⟩),if_pos c]
   ·have k8:(B T 8)=false:=by rw[←Bool.not_eq_true];exact fun h=>c (by have:=e8.1 h;omega)
    rw[if_neg (fun h=>by rw[(e9.1 h).2] at k8;cases k8),if_neg c]
    have k10:(B T 10)=true:=e10.2 ⟨k5,k8⟩
    by_cases h26:(B T 26)=true
    ·rw[if_pos h26]
     obtain⟨h14,h25⟩:=e26.1 h26
     have h13:=e13.1 (e14.1 h14).2
     rw[if_neg (MU (j:=(I T 11).toNat) (by omega) (fun h=>?_))]
     rw[C4,←e16,←e17,←e20] at h
     clear w3
     grind
    ·rw[if_neg h26,if_pos]
     refine Ck.2 fun j hj=>w3 j ?_
     have:¬I T 11 < I T 12:=fun h=>by
      have h14:(B T 14)=true:=e14.2 ⟨k10,e13.2 h⟩
      clear w3
      grind
     omega
theorem Z0:Aq Try.prog 61 II:=by
 refine Ai (l:=[(80,FX)]) BX (by simp only[List.forall_mem_cons];exact⟨Q8,fun _ h=>absurd h (by simp)⟩) dS (by kernel_rfl) fun T us hpre hT hul hS hBd hE=>?_
 change us.length=2 at hul
 obtain⟨-,⟨hl1,he1⟩,-⟩:=hBd
 replace hl1:(L T 1).length≤140737488355328:=hl1
 have ha0:aI us 0=I T 0:=inI hT hul (by decide)
 have ha1:aL us 1=L T 1:=inL hT hul (by decide)
 clear hpre
 rw[List.map_append,List.map_append,List.map_append] at hE
 have hA:=hE.left
 replace hE:=hE.right
 have hH:=hE.left
 replace hE:=hE.right
 have hB:=hE.left
 replace hE:=hE.right
 obtain⟨A0,hS1⟩:=Ac hS (by kernel_rfl) hA
 obtain⟨ow0,hS2,inv0,np0⟩:=Yp hl1 hS1 hB hH
 have hF2:=(Ac (hS2.append hS1) (l:=Eb) (by kernel_rfl) hB)
 obtain⟨B0,hS⟩:=hF2
 clear hA hB hH hS1 hS2
 obtain⟨A1,hO⟩:=Ar (tys:=[.i]) (rs:=V3) hS (by kernel_rfl) hE
 have q0:=cJ hl1 inv0 np0 A0 B0 A1
 refine⟨⟨(fun _=>ow0),trivial⟩,hO.trans ?_⟩
 exact (lc (by show U.int (I T 33)= .int (HL us);unfold HL;rw[ha0,ha1];exact congrArg U.int q0) rfl)
end Go.Eng
end
