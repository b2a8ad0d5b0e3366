/-
  A part of the proof: K_fitsd K_fits.
-/
import Derived.Test.YtmlmcidljiibaaaE4
import Derived.Test.YtmlmcidljiibaaaE5
set_option linter.unusedVariables false
set_option linter.unusedSimpArgs false
noncomputable section
open Go Go.Eng Go.Proofs
set_option maxHeartbeats 4000000
set_option maxRecDepth 100000
namespace Go.Eng
def GH:List U→Bool:=fun us=>(B6 (aL us 0))
def Fk:Ak:={ sh:=[.one (.list [k64,k64])],blks:=[],outs:=[(.s "fits.0",DF GH)],c:= .b 1,m':=[],pre:=[] }
def Yx:List En:=[⟨1,.len,[.e 0]⟩]
def Yt:List En:=[⟨3,.lt,[.e 2,.e 1]⟩,
 ⟨4,.not,[.e 3]⟩,
 ⟨5,.get .i 0,[.e 0,.e 2]⟩,
 ⟨6,.get .i 1,[.e 0,.e 2]⟩,
 ⟨7,.wneg .i64,[.e 5]⟩,
 ⟨8,.wneg .i64,[.e 6]⟩,
 ⟨9,.o2 .max,[.e 5,.e 7]⟩,
 ⟨10,.o2 .max,[.e 9,.e 6]⟩,
 ⟨11,.o2 .max,[.e 10,.e 8]⟩,
 ⟨12,.lt,[.c (.int 4194304),.e 11]⟩,
 ⟨13,.and,[.e 3,.n 12]⟩,
 ⟨14,.o2 .min,[.e 5,.e 6]⟩,
 ⟨15,.lt,[.e 14,.c (.int (-4194304))]⟩,
 ⟨16,.or,[.e 12,.e 15]⟩,
 ⟨17,.and,[.e 3,.e 16]⟩,
 ⟨18,.and,[.e 3,.n 16]⟩]
def Y9:List En:=[⟨19,.w2 .i64 .add,[.e 2,.c (.int 1)]⟩]
def ME:List En:=Yx
def Fx:List En:=Yt++(Y9)
def VJ:List ObE:=[⟨some 3,.inl,[.e 2,.e 0]⟩]
def Lz:Ae:=mkD 2 1 Fx 18 [.e 19] VJ [0,1]
def Ot:List Rf:=[.e 0,.e 1,.c (.int 0)]
def ZZ:List En:=[⟨20,.ite .b,[.e 17,.c (.bool false),.c (.bool true)]⟩,
 ⟨21,.or,[.e 17,.e 4]⟩]
def Ug:List En:=ZZ
def iz:List ObE:=[⟨none,.owes Lz,[.e 0,.e 1,.c (.int 0)]⟩]
def ap:List Rf:=[.e 20]
theorem iv:Fk.sees ap (Fk.run Try.prog [] Ag 3000 20 93)=some ((ME++((Ax Lz [.i] Ot)++(Fx++(Ug)))).map En.be,iz.map ObE.be,[]):=by kernel_rfl
theorem Z2 {T:Tab}(hl0:(L T 0).length≤140737488355328)(A0:AI T ME):
  ((I T 1)=((L T 0)).length):=by
 have F0:=A0;clear A0
 have h1:(I T 1)=((L T 0)).length:=by
  obtain⟨e1,-⟩:=F0
  simp only[AE,zR,zL] at e1
  exact e1
 exact h1
theorem dF {T:Tab}(hl0:(L T 0).length≤140737488355328)(h1:(I T 1)=((L T 0)).length)(hS:AL T (Am (BG 0 Fk.ks) ME))(hB:AX T (Fx.map En.be))(hH:AX T ((Ax Lz [.i] Ot).map En.be)):
  (Lz).owes (Ot.map (Rf.eval T))∧AL T (hds 2 [.i])∧(0≤I T 2∧I T 2≤((L T 0)).length∧(∀j:Nat,(j:Int) < I T 2→AF (AA (L T 0) j 0) (AA (L T 0) j 1)=true))∧¬B T 18=true:=by
 refine BS (nh:=2) (k:=1) (pcn:=18) (top:=20) (bes:=Fx) (bos:=VJ) (nxt:=[.e 19]) (inits:=[.c (.int 0)]) (fv:=[0,1]) (tys:=[.i]) (by kernel_rfl) rfl rfl rfl rfl hS (by kernel_rfl) (by kernel_rfl) hB (Ay hH) (fun s=>0≤(aI s 0)∧(aI s 0)≤((L T 0)).length∧(∀j:Nat,(j:Int) < (aI s 0)→AF (AA (L T 0) j 0) (AA (L T 0) j 1)=true)) (fun s=>(((L T 0)).length - (aI s 0)).toNat) ?_ ?_
 ·show 0≤(0:Int)∧(0:Int)≤((L T 0)).length∧(∀j:Nat,(j:Int) < (0:Int)→AF (AA (L T 0) j 0) (AA (L T 0) j 1)=true)
  clear hS hB hH
  exact⟨by omega,by omega,fun j hj=>absurd hj (by omega)⟩
 ·intro T2 hfv hF inv
  replace inv:0≤I T2 2∧I T2 2≤((L T 0)).length∧(∀j:Nat,(j:Int) < I T2 2→AF (AA (L T 0) j 0) (AA (L T 0) j 1)=true):=inv
  clear hS hB hH
  replace hF:AI T2 Fx:=hF
  obtain⟨F0,hF⟩:=hF.cut
  have F1:=hF;clear hF
  have fv0:L T2 0=L T 0:=fvL (hfv 0 (by decide))
  have fv1:I T2 1=I T 1:=fvI (hfv 1 (by decide))
  clear hfv
  suffices hz:(B T2 3=true→0≤I T2 2∧I T2 2 < ((L T2 0)).length)∧(B T2 18=true→(0≤I T2 19∧I T2 19≤((L T 0)).length∧(∀j:Nat,(j:Int) < I T2 19→AF (AA (L T 0) j 0) (AA (L T 0) j 1)=true)))∧(B T2 18=true→(((L T 0)).length - (I T2 19)).toNat < (((L T 0)).length - (I T2 2)).toNat) from
   let⟨r0,nx,mz⟩:=hz;⟨⟨r0,trivial⟩,fun hp=>⟨nx hp,mz hp⟩⟩
  refine⟨?_,?_,?_⟩
  ·obtain⟨e3,-⟩:=F0
   simp only[AE,zR] at e3
   obtain⟨v1,v2,v3⟩:=inv
   intro hp
   have h3:=e3.1 hp
   rw[fv0]
   omega
  ·obtain⟨e3,-,e5,e6,e7,e8,e9,e10,e11,e12,-,e14,e15,e16,-,e18,-⟩:=F0
   obtain⟨e19,-⟩:=F1
   simp only[AE,AG,zN,zR,AS,w2P,wnP,zL] at*
   obtain⟨v1,v2,v3⟩:=inv
   intro hp
   have hlt:(I T2 2) < ((L T 0)).length:=by have h3:=e3.1 (e18.1 hp).1;omega
   have e:(I T2 19)=I T2 2+1:=e19 (by omega) (by omega)
   refine⟨by omega,by omega,fun j hj=>?_⟩
   by_cases hj2:(j:Int) < I T2 2
   ·exact v3 j hj2
   ·obtain rfl:j=(I T2 2).toNat:=by omega
    rw[Af]
    rw[←fv0,←e5,←e6]
    have h16:=(e18.1 hp).2
    clear v3
    grind
  ·obtain⟨e3,-,e5,e6,e7,e8,e9,e10,e11,e12,-,e14,e15,e16,-,e18,-⟩:=F0
   obtain⟨e19,-⟩:=F1
   simp only[AE,AG,zN,zR,AS,w2P,wnP,zL] at*
   obtain⟨v1,v2,v3⟩:=inv
   intro hp
   have hlt:(I T2 2) < ((L T 0)).length:=by have h3:=e3.1 (e18.1 hp).1;omega
   have e:(I T2 19)=I T2 2+1:=e19 (by omega) (by omega)
   omega
theorem ig {T:Tab}(hl0:(L T 0).length≤140737488355328)(h1:(I T 1)=((L T 0)).length)(inv0:0≤I T 2∧I T 2≤((L T 0)).length∧(∀j:Nat,(j:Int) < I T 2→AF (AA (L T 0) j 0) (AA (L T 0) j 1)=true))(np0:¬B T 18=true)(A0:AI T ME)(B0:AI T Fx)(A1:AI T Ug):
  ((B T 20)=(B6 (L T 0))):=by
 have F0:=A0;clear A0
 obtain⟨F1,B0⟩:=B0.cut
 have F2:=B0;clear B0
 have F3:=A1;clear A1
 ·obtain⟨e1,-⟩:=F0
  obtain⟨e3,-,e5,e6,e7,e8,e9,e10,e11,e12,-,e14,e15,e16,e17,e18,-⟩:=F1
  obtain⟨e20,-⟩:=F3
  simp only[AE,AG,zN,zC,zR,AS,w2P,wnP,zL] at*
  obtain⟨w1,w2,w3⟩:=inv0
  refine Bool.eq_iff_iff.2 (Iff.trans ?_ Up.symm)
  constructor
  ·intro h j hj
   refine w3 j ?_
   have h17:=e20.1 h
   by_cases h3:(I T 2) < I T 1
   ·clear w3
    grind
   ·omega
  ·intro h
   rw[e20]
   cases h17:(B T 17) with
   |false=>rfl
   |true=>
    obtain⟨h3,h16⟩:=e17.1 h17
    have h3:=e3.1 h3
    have:=h (I T 2).toNat (by omega)
    rw[Af,←e5,←e6] at this
    clear w3 h
    grind
theorem Qq:Ao Try.prog 93 Fk:=by
 refine AZ (l:=[]) BH (by intro p h;exact absurd h (by simp)) iv (by kernel_rfl) fun T us hpre hT hul hS hBd hE=>?_
 change us.length=1 at hul
 obtain⟨⟨hl0,he0⟩,-⟩:=hBd
 replace hl0:(L T 0).length≤140737488355328:=hl0
 have ha0:aL us 0=L T 0:=inL hT hul (by decide)
 clear hpre
 rw[List.map_append,List.map_append,List.map_append] at hE
 have hA:=hE.left
 replace hE:=hE.right
 have hH:=hE.left
 replace hE:=hE.right
 have hB:=hE.left
 replace hE:=hE.right
 obtain⟨A0,hS1⟩:=AV hS (by kernel_rfl) hA
 have h1:=Z2 hl0 A0
 obtain⟨ow0,hS2,inv0,np0⟩:=dF hl0 h1 hS1 hB hH
 have hF2:=(AV (hS2.append hS1) (l:=Fx) (by kernel_rfl) hB)
 obtain⟨B0,hS⟩:=hF2
 clear hA hB hH hS1 hS2
 obtain⟨A1,hO⟩:=Ap (tys:=[.b]) (rs:=ap) hS (by kernel_rfl) hE
 have q0:=ig hl0 h1 inv0 np0 A0 B0 A1
 refine⟨⟨(fun _=>ow0),trivial⟩,hO.trans ?_⟩
 exact (lc (by show U.bool (B T 20)= .bool (GH us);unfold GH;rw[ha0];exact congrArg U.bool q0) rfl)
end Go.Eng
end
