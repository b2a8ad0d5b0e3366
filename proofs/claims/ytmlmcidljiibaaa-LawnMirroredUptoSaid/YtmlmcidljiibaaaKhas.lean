/-
  A part of the proof: K_hasd K_has.
-/
import Derived.Test.YtmlmcidljiibaaaXQlMirrored
import Derived.Test.YtmlmcidljiibaaaE4
import Derived.Test.YtmlmcidljiibaaaE5
set_option linter.unusedVariables false
set_option linter.unusedSimpArgs false
noncomputable section
open Go Go.Eng Go.Proofs
set_option maxHeartbeats 4000000
set_option maxRecDepth 100000
namespace Go.Eng
def LM:List U→Bool:=fun us=>(EJ (aL us 0) (aI us 1))
def Jz:Ak:={ sh:=[.one (.list [k64]),.one (k64)],blks:=[],outs:=[(.s "has.0",DF LM)],c:= .b 2,m':=[],pre:=[] }
def W7:List En:=[]
def bp:List En:=[⟨3,.len,[.e 0]⟩,
 ⟨4,.lt,[.e 2,.e 3]⟩,
 ⟨5,.not,[.e 4]⟩,
 ⟨6,.get .i 0,[.e 0,.e 2]⟩,
 ⟨7,.eq,[.e 6,.e 1]⟩,
 ⟨8,.and,[.e 4,.e 7]⟩,
 ⟨9,.and,[.e 4,.n 7]⟩,
 ⟨10,.w2 .i64 .add,[.e 2,.c (.int 1)]⟩]
def HE:List En:=bp
def X4:List ObE:=[⟨some 4,.inl,[.e 2,.e 0]⟩]
def Nn:Ae:=mkD 2 1 HE 9 [.e 10] X4 [1,0]
def RP:List Rf:=[.e 1,.e 0,.c (.int 0)]
def aC:List En:=[⟨11,.ite .b,[.e 8,.c (.bool true),.c (.bool false)]⟩,
 ⟨12,.or,[.e 8,.e 5]⟩]
def XL:List En:=aC
def jq:List ObE:=[⟨none,.owes Nn,[.e 1,.e 0,.c (.int 0)]⟩]
def fD:List Rf:=[.e 11]
theorem ji:Jz.sees fD (Jz.run Try.prog [] Ag 3000 20 18)=some ((W7++((Ax Nn [.i] RP)++(HE++(XL)))).map En.be,jq.map ObE.be,[]):=by kernel_rfl
theorem fc {T:Tab}(hl0:(L T 0).length≤140737488355328)(hS:AL T (Am (BG 0 Jz.ks) W7))(hB:AX T (HE.map En.be))(hH:AX T ((Ax Nn [.i] RP).map En.be)):
  (Nn).owes (RP.map (Rf.eval T))∧AL T (hds 2 [.i])∧(0≤I T 2∧I T 2≤((L T 0)).length∧∀q:Nat,(q:Int) < I T 2→¬AA ((L T 0)) q 0=I T 1)∧¬B T 9=true:=by
 refine BS (nh:=2) (k:=1) (pcn:=9) (top:=11) (bes:=HE) (bos:=X4) (nxt:=[.e 10]) (inits:=[.c (.int 0)]) (fv:=[1,0]) (tys:=[.i]) (by kernel_rfl) rfl rfl rfl rfl hS (by kernel_rfl) (by kernel_rfl) hB (Ay hH) (fun s=>0≤(aI s 0)∧(aI s 0)≤((L T 0)).length∧∀q:Nat,(q:Int) < (aI s 0)→¬AA ((L T 0)) q 0=I T 1) (fun s=>(((L T 0)).length - (aI s 0)).toNat) ?_ ?_
 ·show 0≤(0:Int)∧(0:Int)≤((L T 0)).length∧∀q:Nat,(q:Int) < (0:Int)→¬AA ((L T 0)) q 0=I T 1
  clear hS hB hH
  exact⟨by omega,by omega,fun q h=>absurd h (by omega)⟩
 ·intro T2 hfv hF inv
  replace inv:0≤I T2 2∧I T2 2≤((L T 0)).length∧∀q:Nat,(q:Int) < I T2 2→¬AA ((L T 0)) q 0=I T 1:=inv
  clear hS hB hH
  replace hF:AI T2 HE:=hF
  have F0:=hF;clear hF
  have fv1:I T2 1=I T 1:=fvI (hfv 1 (by decide))
  have fv0:L T2 0=L T 0:=fvL (hfv 0 (by decide))
  clear hfv
  suffices hz:(B T2 4=true→0≤I T2 2∧I T2 2 < ((L T2 0)).length)∧(B T2 9=true→(0≤I T2 10∧I T2 10≤((L T 0)).length∧∀q:Nat,(q:Int) < I T2 10→¬AA ((L T 0)) q 0=I T 1))∧(B T2 9=true→(((L T 0)).length - (I T2 10)).toNat < (((L T 0)).length - (I T2 2)).toNat) from
   let⟨r0,nx,mz⟩:=hz;⟨⟨r0,trivial⟩,fun hp=>⟨nx hp,mz hp⟩⟩
  refine⟨?_,?_,?_⟩
  ·obtain⟨e3,e4,-⟩:=F0
   simp only[AE,zR,zL] at e3 e4
   obtain⟨v1,v2,v3⟩:=inv
   intro hp
   have h:=e4.1 hp
   rw[e3,fv0] at h
   rw[fv0]
   omega
  ·obtain⟨e3,e4,-,e6,e7,-,e9,e10,-⟩:=F0
   simp only[AE,AG,zN,zR,w2P,zL] at*
   obtain⟨v1,v2,v3⟩:=inv
   intro hp
   have hq:=e9.1 hp
   have h:=e4.1 hq.1
   rw[e3,fv0] at h
   have e:(I T2 10)=I T2 2+1:=e10 (by omega) (by omega)
   refine⟨by omega,by omega,fun q hq'=>?_⟩
   by_cases hq2:(q:Int) < I T2 2
   ·exact v3 q hq2
   obtain rfl:q=(I T2 2).toNat:=by omega
   intro hc
   have:=e7.2 (by rw[e6,fv0,fv1];exact hc)
   have z:=hq.2
   simp[this] at z
  ·obtain⟨e3,e4,-,e6,e7,-,e9,e10,-⟩:=F0
   simp only[AE,AG,zN,zR,w2P,zL] at*
   obtain⟨v1,v2,v3⟩:=inv
   intro hp
   have hq:=e9.1 hp
   have h:=e4.1 hq.1
   rw[e3,fv0] at h
   have e:(I T2 10)=I T2 2+1:=e10 (by omega) (by omega)
   omega
theorem jj {T:Tab}(hl0:(L T 0).length≤140737488355328)(inv0:0≤I T 2∧I T 2≤((L T 0)).length∧∀q:Nat,(q:Int) < I T 2→¬AA ((L T 0)) q 0=I T 1)(np0:¬B T 9=true)(B0:AI T HE)(A1:AI T XL):
  ((B T 11)=(EJ (L T 0) (I T 1))):=by
 have F0:=B0;clear B0
 have F1:=A1;clear A1
 ·obtain⟨e3,e4,-,e6,e7,e8,e9,-⟩:=F0
  obtain⟨e11,-⟩:=F1
  simp only[AE,AG,zN,zC,zR,zL] at*
  obtain⟨v1,v2,v3⟩:=inv0
  refine Bool.eq_iff_iff.2 ?_
  rw[gN]
  have h11:(B T 11)=true↔B T 8=true:=by clear v3;grind
  rw[h11]
  constructor
  ·intro h
   have h1:=e8.1 h
   have h2:=e4.1 h1.1
   refine⟨(I T 2).toNat,by omega,?_⟩
   rw[←e6]
   exact e7.1 h1.2
  ·rintro⟨j,hj,hc⟩
   have h2:(I T 2) < ((L T 0)).length:=by
    apply Classical.byContradiction
    intro hn
    exact v3 j (by omega) hc
   have h4:(B T 4)=true:=e4.2 (by omega)
   cases k:(B T 7) with
   |true=>exact e8.2 ⟨h4,k⟩
   |false=>have z:=e9.2 ⟨h4,k⟩;simp[np0] at z
theorem bu:Ao Try.prog 18 Jz:=by
 refine AZ (l:=[]) BH (by intro p h;exact absurd h (by simp)) ji (by kernel_rfl) fun T us hpre hT hul hS hBd hE=>?_
 change us.length=2 at hul
 obtain⟨⟨hl0,he0⟩,-⟩:=hBd
 replace hl0:(L T 0).length≤140737488355328:=hl0
 have ha0:aL us 0=L T 0:=inL hT hul (by decide)
 have ha1:aI us 1=I T 1:=inI hT hul (by decide)
 clear hpre
 rw[List.map_append,List.map_append,List.map_append] at hE
 have hA:=hE.left
 replace hE:=hE.right
 have hH:=hE.left
 replace hE:=hE.right
 have hB:=hE.left
 replace hE:=hE.right
 obtain⟨A0,hS1⟩:=AV hS (by kernel_rfl) hA
 obtain⟨ow0,hS2,inv0,np0⟩:=fc hl0 hS1 hB hH
 have hF2:=(AV (hS2.append hS1) (l:=HE) (by kernel_rfl) hB)
 obtain⟨B0,hS⟩:=hF2
 clear hA hB hH hS1 hS2
 obtain⟨A1,hO⟩:=Ap (tys:=[.b]) (rs:=fD) hS (by kernel_rfl) hE
 have q0:=jj hl0 inv0 np0 B0 A1
 refine⟨⟨(fun _=>ow0),trivial⟩,hO.trans ?_⟩
 exact (lc (by show U.bool (B T 11)= .bool (LM us);unfold LM;rw[ha0,ha1];exact congrArg U.bool q0) rfl)
end Go.Eng
end
