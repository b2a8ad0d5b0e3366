/-
  A part of the proof: K_cballd K_cball.
-/
import Derived.Test.YtmlmcidljiibaaaE4
import Derived.Test.YtmlmcidljiibaaaE5
import Derived.Test.YtmlmcidljiibaaaKtcheck
set_option linter.unusedVariables false
set_option linter.unusedSimpArgs false
noncomputable section
open Go Go.Eng Go.Proofs
set_option maxHeartbeats 4000000
set_option maxRecDepth 100000
namespace Go.Eng
def H3:List U→Int:=fun us=>(AT (aI us 0) (aL us 1))
def GR:Ak:={ sh:=[.one (k64),.one (.list [k64,k64,k64])],blks:=[],outs:=[(.s "cball.0",Bi H3)],c:=(CP 2),m':=[],pre:=[] }
def VV:List En:=[⟨2,.le,[.c (.int 1),.e 0]⟩,
 ⟨3,.id .b,[.e 2]⟩,
 ⟨4,.le,[.e 0,.c (.int 16384)]⟩,
 ⟨5,.and,[.e 2,.e 4]⟩,
 ⟨6,.len,[.e 1]⟩,
 ⟨7,.lt,[.c (.int 12),.e 6]⟩,
 ⟨8,.and,[.e 5,.e 7]⟩,
 ⟨9,.and,[.e 5,.n 7]⟩,
 ⟨10,.len,[.e 1]⟩]
def Vo:List En:=[⟨12,.lt,[.e 11,.e 10]⟩,
 ⟨13,.and,[.e 9,.e 12]⟩,
 ⟨14,.and,[.e 9,.n 12]⟩,
 ⟨15,.get .i 0,[.e 1,.e 11]⟩,
 ⟨16,.get .i 1,[.e 1,.e 11]⟩,
 ⟨17,.get .i 2,[.e 1,.e 11]⟩,
 ⟨18,.outI "tcheck.0" FM,[.e 15,.e 16]⟩,
 ⟨19,.ne,[.e 18,.c (.int 0)]⟩,
 ⟨20,.and,[.e 13,.n 19]⟩,
 ⟨21,.le,[.c (.int 1),.e 17]⟩,
 ⟨22,.and,[.e 20,.e 21]⟩,
 ⟨23,.le,[.e 17,.c (.int 16384)]⟩,
 ⟨24,.and,[.e 21,.e 23]⟩,
 ⟨25,.or,[.e 19,.n 24]⟩,
 ⟨26,.and,[.e 13,.e 25]⟩,
 ⟨27,.and,[.e 13,.n 25]⟩]
def V2:List En:=[⟨28,.w2 .i64 .add,[.e 11,.c (.int 1)]⟩]
def KG:List En:=VV
def Ew:List En:=Vo++(V2)
def Si:List ObE:=[⟨some 13,.inl,[.e 11,.e 1]⟩]
def Jy:Ae:=mkD 11 1 Ew 27 [.e 28] Si [1,9,10]
def NV:List Rf:=[.e 1,.e 9,.e 10,.c (.int 0)]
def Wx:List En:=[⟨29,.ite .i,[.e 26,.e 11,.c (.int (-1))]⟩,
 ⟨30,.or,[.e 26,.e 14]⟩,
 ⟨31,.le,[.c (.int 0),.e 29]⟩,
 ⟨32,.and,[.e 9,.e 31]⟩,
 ⟨33,.and,[.e 9,.n 31]⟩,
 ⟨34,.ite .i,[.e 7,.c (.int 6),.c (.int 2)]⟩,
 ⟨35,.or,[.e 8,.e 32]⟩,
 ⟨36,.not,[.e 5]⟩,
 ⟨37,.ite .i,[.e 5,.e 34,.c (.int 3)]⟩,
 ⟨38,.or,[.e 35,.e 36]⟩,
 ⟨39,.ite .i,[.e 38,.e 37,.c (.int 0)]⟩,
 ⟨40,.or,[.e 38,.e 33]⟩]
def Rm:List En:=Wx
def gU:List ObE:=[⟨some 9,.owes Jy,[.e 1,.e 9,.e 10,.c (.int 0)]⟩]
def Xa:List Rf:=[.e 39]
theorem ff:GR.sees Xa (GR.run Try.prog [(76,EA)] Ag 3000 20 53)=some ((KG++((Ax Jy [.i] NV)++(Ew++(Rm)))).map En.be,gU.map ObE.be,[]):=by kernel_rfl
theorem YQ {T:Tab}(hl1:(L T 1).length≤140737488355328)(A0:AI T KG):
  ((I T 10)=((L T 1)).length):=by
 have F0:=A0;clear A0
 have h10:(I T 10)=((L T 1)).length:=by
  obtain⟨-,-,-,-,-,-,-,-,e10,-⟩:=F0
  simp only[AE,zR,zL] at e10
  exact e10
 exact h10
theorem bv {T:Tab}(hl1:(L T 1).length≤140737488355328)(h10:(I T 10)=((L T 1)).length)(hS:AL T (Am (BG 0 GR.ks) KG))(hB:AX T (Ew.map En.be))(hH:AX T ((Ax Jy [.i] NV).map En.be)):
  (Jy).owes (NV.map (Rf.eval T))∧AL T (hds 11 [.i])∧(0≤I T 11∧I T 11≤((L T 1)).length∧(∀j:Nat,(j:Int) < I T 11→Aq (((L T 1)).getD j [])=true))∧¬B T 27=true:=by
 refine BS (nh:=11) (k:=1) (pcn:=27) (top:=29) (bes:=Ew) (bos:=Si) (nxt:=[.e 28]) (inits:=[.c (.int 0)]) (fv:=[1,9,10]) (tys:=[.i]) (by kernel_rfl) rfl rfl rfl rfl hS (by kernel_rfl) (by kernel_rfl) hB (Ay hH) (fun s=>0≤(aI s 0)∧(aI s 0)≤((L T 1)).length∧(∀j:Nat,(j:Int) < (aI s 0)→Aq (((L T 1)).getD j [])=true)) (fun s=>(((L T 1)).length - (aI s 0)).toNat) ?_ ?_
 ·show 0≤(0:Int)∧(0:Int)≤((L T 1)).length∧(∀j:Nat,(j:Int) < (0:Int)→Aq (((L T 1)).getD j [])=true)
  clear hS hB hH
  exact⟨by omega,by omega,fun j hj=>absurd hj (by omega)⟩
 ·intro T2 hfv hF inv
  replace inv:0≤I T2 11∧I T2 11≤((L T 1)).length∧(∀j:Nat,(j:Int) < I T2 11→Aq (((L T 1)).getD j [])=true):=inv
  clear hS hB hH
  replace hF:AI T2 Ew:=hF
  obtain⟨F0,hF⟩:=hF.cut
  have F1:=hF;clear hF
  have fv1:L T2 1=L T 1:=fvL (hfv 1 (by decide))
  have fv9:B T2 9=B T 9:=fvB (hfv 9 (by decide))
  have fv10:I T2 10=I T 10:=fvI (hfv 10 (by decide))
  clear hfv
  suffices hz:(B T2 13=true→0≤I T2 11∧I T2 11 < ((L T2 1)).length)∧(B T2 27=true→(0≤I T2 28∧I T2 28≤((L T 1)).length∧(∀j:Nat,(j:Int) < I T2 28→Aq (((L T 1)).getD j [])=true)))∧(B T2 27=true→(((L T 1)).length - (I T2 28)).toNat < (((L T 1)).length - (I T2 11)).toNat) from
   let⟨r0,nx,mz⟩:=hz;⟨⟨r0,trivial⟩,fun hp=>⟨nx hp,mz hp⟩⟩
  refine⟨?_,?_,?_⟩
  ·obtain⟨e12,e13,-⟩:=F0
   simp only[AE,AG,zR] at e12 e13
   obtain⟨v1,v2,v3⟩:=inv
   intro hp
   have h4:=e12.1 (e13.1 hp).2
   rw[fv1]
   omega
  ·obtain⟨e12,e13,-,e15,e16,e17,e18,e19,-,e21,-,e23,e24,e25,-,e27,-⟩:=F0
   obtain⟨e28,-⟩:=F1
   replace e18:I T2 18=(if AF (I T2 15) (I T2 16)=true then 0 else 2):=e18
   simp only[AE,AG,zN,zR,w2P,zL] at*
   obtain⟨v1,v2,v3⟩:=inv
   intro hp
   have h4:=e12.1 (e13.1 (e27.1 hp).1).2
   have e:(I T2 28)=I T2 11+1:=e28 (by omega) (by omega)
   have h18:¬B T2 25=true→Aq (((L T 1)).getD (I T2 11).toNat [])=true:=fun h=>DB.2 (by rw[←fv1,←e15,←e16,←e17];clear v3;grind)
   refine⟨by omega,by omega,fun j hj=>?_⟩
   by_cases hj2:(j:Int) < I T2 11
   ·exact v3 j hj2
   ·obtain rfl:j=(I T2 11).toNat:=by omega
    exact h18 (by clear v3;grind)
  ·obtain⟨e12,e13,-,e15,e16,e17,e18,e19,-,e21,-,e23,e24,e25,-,e27,-⟩:=F0
   obtain⟨e28,-⟩:=F1
   replace e18:I T2 18=(if AF (I T2 15) (I T2 16)=true then 0 else 2):=e18
   simp only[AE,AG,zN,zR,w2P,zL] at*
   obtain⟨v1,v2,v3⟩:=inv
   intro hp
   have h4:=e12.1 (e13.1 (e27.1 hp).1).2
   have e:(I T2 28)=I T2 11+1:=e28 (by omega) (by omega)
   omega
theorem gW {T:Tab}(hl1:(L T 1).length≤140737488355328)(h10:(I T 10)=((L T 1)).length)(inv0:0≤I T 11∧I T 11≤((L T 1)).length∧(∀j:Nat,(j:Int) < I T 11→Aq (((L T 1)).getD j [])=true))(np0:¬B T 27=true)(A0:AI T KG)(B0:AI T Ew)(A1:AI T Rm):
  ((I T 39)=(AT (I T 0) (L T 1))):=by
 have F0:=A0;clear A0
 obtain⟨F1,B0⟩:=B0.cut
 have F2:=B0;clear B0
 have F3:=A1;clear A1
 ·obtain⟨e2,-,e4,e5,e6,e7,e8,e9,e10,-⟩:=F0
  obtain⟨e12,e13,-,e15,e16,e17,e18,e19,-,e21,-,e23,e24,e25,e26,e27,-⟩:=F1
  obtain⟨e29,-,e31,e32,-,e34,e35,e36,e37,e38,e39,-⟩:=F3
  replace e18:I T 18=(if AF (I T 15) (I T 16)=true then 0 else 2):=e18
  simp only[AE,AG,zN,zR,zL] at*
  obtain⟨w1,w2,w3⟩:=inv0
  have h5:Bn (I T 0)=B T 5:=Bool.eq_iff_iff.2 (by rw[Bp];clear w3;grind)
  unfold AT
  rw[h5,e39,e37,e34]
  cases k5:(B T 5) with
  |false=>
   have k36:=e36.2 k5
   rw[if_pos (e38.2 (.inr k36)),if_neg (by decide),if_pos (by decide)]
  |true=>
   have k36:(B T 36)=false:=by rw[←Bool.not_eq_true];exact fun h=>by rw[e36.1 h] at k5;cases k5
   rw[if_pos rfl,if_neg (by decide:¬ ¬true=true)]
   by_cases c:12 < ((L T 1)).length
   ·have k7:=e7.2 (by omega)
    rw[if_pos k7,if_pos c,if_pos (e38.2 (.inl (e35.2 (.inl (e8.2 ⟨k5,k7⟩)))))]
   ·have k7:(B T 7)=false:=by rw[←Bool.not_eq_true];exact fun h=>c (by have:=e7.1 h;omega)
    have k8:(B T 8)=false:=by rw[←Bool.not_eq_true];exact fun h=>by rw[(e8.1 h).2] at k7;cases k7
    rw[k7,if_neg (by decide:¬false=true),if_neg c]
    have k9:(B T 9)=true:=e9.2 ⟨k5,k7⟩
    by_cases h26:(B T 26)=true
    ·obtain⟨h13,h25⟩:=e26.1 h26
     have h12:=e12.1 (e13.1 h13).2
     have k38:(B T 38)=true:=e38.2 (.inl (e35.2 (.inr (e32.2 ⟨k9,e31.2 (by rw[e29,if_pos h26];omega)⟩))))
     rw[if_pos k38,if_neg (Mp (j:=(I T 11).toNat) (by omega) (fun h=>?_))]
     rw[DB,←e15,←e16,←e17] at h
     have e18:(I T 18)=if AF (I T 15) (I T 16)=true then 0 else 2:=e18
     clear w3
     grind
    ·have k38:¬B T 38=true:=fun h=>by
      have h31:¬B T 31=true:=fun h=>by have:=e31.1 h;rw[e29,if_neg h26] at this;omega
      clear w3
      grind
     rw[if_neg k38,if_pos]
     refine CX.2 fun j hj=>w3 j ?_
     have:¬I T 11 < I T 10:=fun h=>by
      have h13:(B T 13)=true:=e13.2 ⟨k9,e12.2 h⟩
      clear w3
      grind
     omega
theorem Tc:Ao Try.prog 53 GR:=by
 refine AZ (l:=[(76,EA)]) BH (by simp only[List.forall_mem_cons];exact⟨Nj,fun _ h=>absurd h (by simp)⟩) ff (by kernel_rfl) fun T us hpre hT hul hS hBd hE=>?_
 change us.length=2 at hul
 obtain⟨-,⟨hl1,he1⟩,-⟩:=hBd
 replace hl1:(L T 1).length≤140737488355328:=hl1
 have ha0:aI us 0=I T 0:=inI hT hul (by decide)
 have ha1:aL us 1=L T 1:=inL hT hul (by decide)
 clear hpre
 rw[List.map_append,List.map_append,List.map_append] at hE
 have hA:=hE.left
 replace hE:=hE.right
 have hH:=hE.left
 replace hE:=hE.right
 have hB:=hE.left
 replace hE:=hE.right
 obtain⟨A0,hS1⟩:=AV hS (by kernel_rfl) hA
 have h10:=YQ hl1 A0
 obtain⟨ow0,hS2,inv0,np0⟩:=bv hl1 h10 hS1 hB hH
 have hF2:=(AV (hS2.append hS1) (l:=Ew) (by kernel_rfl) hB)
 obtain⟨B0,hS⟩:=hF2
 clear hA hB hH hS1 hS2
 obtain⟨A1,hO⟩:=Ap (tys:=[.i]) (rs:=Xa) hS (by kernel_rfl) hE
 have q0:=gW hl1 h10 inv0 np0 A0 B0 A1
 refine⟨⟨(fun _=>ow0),trivial⟩,hO.trans ?_⟩
 exact (lc (by show U.int (I T 39)= .int (H3 us);unfold H3;rw[ha0,ha1];exact congrArg U.int q0) rfl)
end Go.Eng
end
