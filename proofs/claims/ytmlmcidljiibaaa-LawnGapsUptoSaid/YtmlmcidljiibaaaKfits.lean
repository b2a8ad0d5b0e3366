/-
  A part of the proof: K_fitsd K_fits.
-/
import Derived.Test.YtmlmcidljiibaaaE3
import Derived.Test.YtmlmcidljiibaaaE4
set_option linter.unusedVariables false
set_option linter.unusedSimpArgs false
noncomputable section
open Go Go.Eng Go.Proofs
set_option maxHeartbeats 4000000
set_option maxRecDepth 100000
namespace Go.Eng
def FZ:List U→Bool:=fun us=>(Bz (aL us 0))
def FN:Ak:={ sh:=[.one (.list [k64,k64])],blks:=[],outs:=[(.s "fits.0",EK FZ)],c:= .b 1,m':=[],pre:=[] }
def XM:List En:=[⟨1,.len,[.e 0]⟩]
def Wv:List En:=[⟨3,.lt,[.e 2,.e 1]⟩,
 ⟨4,.not,[.e 3]⟩,
 ⟨5,.get .i 0,[.e 0,.e 2]⟩,
 ⟨6,.get .i 1,[.e 0,.e 2]⟩,
 ⟨7,.wneg .i64,[.e 5]⟩,
 ⟨8,.wneg .i64,[.e 6]⟩,
 ⟨9,.o2 .max,[.e 5,.e 7]⟩,
 ⟨10,.o2 .max,[.e 9,.e 6]⟩,
 ⟨11,.o2 .max,[.e 10,.e 8]⟩,
 ⟨12,.lt,[.c (.int 4194304),.e 11]⟩,
 ⟨13,.and,[.e 3,.n 12]⟩,
 ⟨14,.o2 .min,[.e 5,.e 6]⟩,
 ⟨15,.lt,[.e 14,.c (.int (-4194304))]⟩,
 ⟨16,.or,[.e 12,.e 15]⟩,
 ⟨17,.and,[.e 3,.e 16]⟩,
 ⟨18,.and,[.e 3,.n 16]⟩]
def WQ:List En:=[⟨19,.w2 .i64 .add,[.e 2,.c (.int 1)]⟩]
def K6:List En:=XM
def Fd:List En:=Wv++(WQ)
def Rq:List ObE:=[⟨some 3,.inl,[.e 2,.e 0]⟩]
def Kl:Ae:=mkD 2 1 Fd 18 [.e 19] Rq [0,1]
def Nt:List Rf:=[.e 0,.e 1,.c (.int 0)]
def Wz:List En:=[⟨20,.ite .b,[.e 17,.c (.bool false),.c (.bool true)]⟩,
 ⟨21,.or,[.e 17,.e 4]⟩]
def TE:List En:=Wz
def dq:List ObE:=[⟨none,.owes Kl,[.e 0,.e 1,.c (.int 0)]⟩]
def ZF:List Rf:=[.e 20]
theorem dm:FN.sees ZF (FN.run Try.prog [] Ah 3000 20 93)=some ((K6++((BJ Kl [.i] Nt)++(Fd++(TE)))).map En.be,dq.map ObE.be,[]):=by kernel_rfl
theorem Xn {T:Tab}(hl0:(L T 0).length≤140737488355328)(A0:AJ T K6):
  ((I T 1)=((L T 0)).length):=by
 have F0:=A0;clear A0
 have h1:(I T 1)=((L T 0)).length:=by
  obtain⟨e1,-⟩:=F0
  simp only[AE,zR,zL] at e1
  exact e1
 exact h1
theorem aq {T:Tab}(hl0:(L T 0).length≤140737488355328)(h1:(I T 1)=((L T 0)).length)(hS:AL T (Al (BT 0 FN.ks) K6))(hB:Ag T (Fd.map En.be))(hH:Ag T ((BJ Kl [.i] Nt).map En.be)):
  (Kl).owes (Nt.map (Rf.eval T))∧AL T (hds 2 [.i])∧(0≤I T 2∧I T 2≤((L T 0)).length∧(∀j:Nat,(j:Int) < I T 2→AH (AA (L T 0) j 0) (AA (L T 0) j 1)=true))∧¬B T 18=true:=by
 refine Bl (nh:=2) (k:=1) (pcn:=18) (top:=20) (bes:=Fd) (bos:=Rq) (nxt:=[.e 19]) (inits:=[.c (.int 0)]) (fv:=[0,1]) (tys:=[.i]) (by kernel_rfl) rfl rfl rfl rfl hS (by kernel_rfl) (by kernel_rfl) hB (BK hH) (fun s=>0≤(aI s 0)∧(aI s 0)≤((L T 0)).length∧(∀j:Nat,(j:Int) < (aI s 0)→AH (AA (L T 0) j 0) (AA (L T 0) j 1)=true)) (fun s=>(((L T 0)).length - (aI s 0)).toNat) ?_ ?_
 ·show 0≤(0:Int)∧(0:Int)≤((L T 0)).length∧(∀j:Nat,(j:Int) < (0:Int)→AH (AA (L T 0) j 0) (AA (L T 0) j 1)=true)
  clear hS hB hH
  exact⟨by omega,by omega,fun j hj=>absurd hj (by omega)⟩
 ·intro T2 hfv hF inv
  replace inv:0≤I T2 2∧I T2 2≤((L T 0)).length∧(∀j:Nat,(j:Int) < I T2 2→AH (AA (L T 0) j 0) (AA (L T 0) j 1)=true):=inv
  clear hS hB hH
  replace hF:AJ T2 Fd:=hF
  obtain⟨F0,hF⟩:=hF.cut
  have F1:=hF;clear hF
  have fv0:L T2 0=L T 0:=fvL (hfv 0 (by decide))
  have fv1:I T2 1=I T 1:=fvI (hfv 1 (by decide))
  clear hfv
  suffices hz:(B T2 3=true→0≤I T2 2∧I T2 2 < ((L T2 0)).length)∧(B T2 18=true→(0≤I T2 19∧I T2 19≤((L T 0)).length∧(∀j:Nat,(j:Int) < I T2 19→AH (AA (L T 0) j 0) (AA (L T 0) j 1)=true)))∧(B T2 18=true→(((L T 0)).length - (I T2 19)).toNat < (((L T 0)).length - (I T2 2)).toNat) from
   let⟨r0,nx,mz⟩:=hz;⟨⟨r0,trivial⟩,fun hp=>⟨nx hp,mz hp⟩⟩
  refine⟨?_,?_,?_⟩
  ·obtain⟨e3,-⟩:=F0
   simp only[AE,zR] at e3
   obtain⟨v1,v2,v3⟩:=inv
   intro hp
   have h3:=e3.1 hp
   rw[fv0]
   omega
  ·obtain⟨e3,-,e5,e6,e7,e8,e9,e10,e11,e12,-,e14,e15,e16,-,e18,-⟩:=F0
   obtain⟨e19,-⟩:=F1
   simp only[AE,AF,zN,zR,AR,w2P,wnP,zL] at*
   obtain⟨v1,v2,v3⟩:=inv
   intro hp
   have hlt:(I T2 2) < ((L T 0)).length:=by have h3:=e3.1 (e18.1 hp).1;omega
   have e:(I T2 19)=I T2 2+1:=e19 (by omega) (by omega)
   refine⟨by omega,by omega,fun j hj=>?_⟩
   by_cases hj2:(j:Int) < I T2 2
   ·exact v3 j hj2
   ·obtain rfl:j=(I T2 2).toNat:=by omega
    rw[Av]
    rw[←fv0,←e5,←e6]
    have h16:=(e18.1 hp).2
    clear v3
    grind
  ·obtain⟨e3,-,e5,e6,e7,e8,e9,e10,e11,e12,-,e14,e15,e16,-,e18,-⟩:=F0
   obtain⟨e19,-⟩:=F1
   simp only[AE,AF,zN,zR,AR,w2P,wnP,zL] at*
   obtain⟨v1,v2,v3⟩:=inv
   intro hp
   have hlt:(I T2 2) < ((L T 0)).length:=by have h3:=e3.1 (e18.1 hp).1;omega
   have e:(I T2 19)=I T2 2+1:=e19 (by omega) (by omega)
   omega
theorem eB {T:Tab}(hl0:(L T 0).length≤140737488355328)(h1:(I T 1)=((L T 0)).length)(inv0:0≤I T 2∧I T 2≤((L T 0)).length∧(∀j:Nat,(j:Int) < I T 2→AH (AA (L T 0) j 0) (AA (L T 0) j 1)=true))(np0:¬B T 18=true)(A0:AJ T K6)(B0:AJ T Fd)(A1:AJ T TE):
  ((B T 20)=(Bz (L T 0))):=by
 have F0:=A0;clear A0
 obtain⟨F1,B0⟩:=B0.cut
 have F2:=B0;clear B0
 have F3:=A1;clear A1
 ·obtain⟨e1,-⟩:=F0
  obtain⟨e3,-,e5,e6,e7,e8,e9,e10,e11,e12,-,e14,e15,e16,e17,e18,-⟩:=F1
  obtain⟨e20,-⟩:=F3
  simp only[AE,AF,zN,zC,zR,AR,w2P,wnP,zL] at*
  obtain⟨w1,w2,w3⟩:=inv0
  refine Bool.eq_iff_iff.2 (Iff.trans ?_ R6.symm)
  constructor
  ·intro h j hj
   refine w3 j ?_
   have h17:=e20.1 h
   by_cases h3:(I T 2) < I T 1
   ·clear w3
    grind
   ·omega
  ·intro h
   rw[e20]
   cases h17:(B T 17) with
   |false=>rfl
   |true=>
    obtain⟨h3,h16⟩:=e17.1 h17
    have h3:=e3.1 h3
    have:=h (I T 2).toNat (by omega)
    rw[Av,←e5,←e6] at this
    clear w3 h
    grind
theorem QE:Aq Try.prog 93 FN:=by
 refine Ai (l:=[]) BX (by intro p h;exact absurd h (by simp)) dm (by kernel_rfl) fun T us hpre hT hul hS hBd hE=>?_
 change us.length=1 at hul
 obtain⟨⟨hl0,he0⟩,-⟩:=hBd
 replace hl0:(L T 0).length≤140737488355328:=hl0
 have ha0:aL us 0=L T 0:=inL hT hul (by decide)
 clear hpre
 rw[List.map_append,List.map_append,List.map_append] at hE
 have hA:=hE.left
 replace hE:=hE.right
 have hH:=hE.left
 replace hE:=hE.right
 have hB:=hE.left
 replace hE:=hE.right
 obtain⟨A0,hS1⟩:=Ac hS (by kernel_rfl) hA
 have h1:=Xn hl0 A0
 obtain⟨ow0,hS2,inv0,np0⟩:=aq hl0 h1 hS1 hB hH
 have hF2:=(Ac (hS2.append hS1) (l:=Fd) (by kernel_rfl) hB)
 obtain⟨B0,hS⟩:=hF2
 clear hA hB hH hS1 hS2
 obtain⟨A1,hO⟩:=Ar (tys:=[.b]) (rs:=ZF) hS (by kernel_rfl) hE
 have q0:=eB hl0 h1 inv0 np0 A0 B0 A1
 refine⟨⟨(fun _=>ow0),trivial⟩,hO.trans ?_⟩
 exact (lc (by show U.bool (B T 20)= .bool (FZ us);unfold FZ;rw[ha0];exact congrArg U.bool q0) rfl)
end Go.Eng
end
