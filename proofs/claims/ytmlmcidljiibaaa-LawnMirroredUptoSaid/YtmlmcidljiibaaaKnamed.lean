/-
  A part of the proof: K_namedd K_named.
-/
import Derived.Test.YtmlmcidljiibaaaE4
import Derived.Test.YtmlmcidljiibaaaE5
set_option linter.unusedVariables false
set_option linter.unusedSimpArgs false
noncomputable section
open Go Go.Eng Go.Proofs
set_option maxHeartbeats 4000000
set_option maxRecDepth 100000
namespace Go.Eng
def Js:List U→Bool:=fun us=>(BC (aS us 0))
def I5:Ak:={ sh:=[.one (.str)],blks:=[],outs:=[(.s "named.0",DF Js)],c:= .b 1,m':=[],pre:=[] }
def WM:List En:=[⟨1,.slen,[.e 0]⟩,
 ⟨2,.lt,[.e 1,.c (.int 1)]⟩,
 ⟨3,.not,[.e 2]⟩,
 ⟨4,.slen,[.e 0]⟩,
 ⟨5,.lt,[.c (.int 20),.e 4]⟩,
 ⟨6,.or,[.e 2,.e 5]⟩,
 ⟨7,.not,[.e 6]⟩]
def Vc:List En:=[⟨9,.slen,[.e 0]⟩,
 ⟨10,.lt,[.e 8,.e 9]⟩,
 ⟨11,.and,[.e 7,.e 10]⟩,
 ⟨12,.and,[.e 7,.n 10]⟩,
 ⟨13,.sat,[.e 0,.e 8]⟩,
 ⟨14,.le,[.c (.int 97),.e 13]⟩,
 ⟨15,.and,[.e 11,.e 14]⟩,
 ⟨16,.sat,[.e 0,.e 8]⟩,
 ⟨17,.le,[.e 16,.c (.int 122)]⟩,
 ⟨18,.and,[.e 14,.e 17]⟩,
 ⟨19,.and,[.e 11,.n 18]⟩,
 ⟨20,.sat,[.e 0,.e 8]⟩,
 ⟨21,.le,[.c (.int 48),.e 20]⟩,
 ⟨22,.and,[.e 19,.e 21]⟩,
 ⟨23,.sat,[.e 0,.e 8]⟩,
 ⟨24,.le,[.e 23,.c (.int 57)]⟩]
def V5:List En:=[⟨25,.and,[.e 21,.e 24]⟩,
 ⟨26,.or,[.e 18,.e 25]⟩,
 ⟨27,.and,[.e 11,.e 26]⟩,
 ⟨28,.and,[.e 11,.n 26]⟩,
 ⟨29,.w2 .i64 .add,[.e 8,.c (.int 1)]⟩]
def Mk:List En:=WM
def Ei:List En:=Vc++(V5)
def Re:List ObE:=[⟨some 22,.ins,[.e 0,.e 8]⟩,⟨some 19,.ins,[.e 0,.e 8]⟩,⟨some 15,.ins,[.e 0,.e 8]⟩,⟨some 11,.ins,[.e 0,.e 8]⟩]
def KO:Ae:=mkD 8 1 Ei 27 [.e 29] Re [0,7]
def M0:List Rf:=[.e 0,.e 7,.c (.int 0)]
def VY:List En:=[⟨30,.ite .b,[.e 28,.c (.bool false),.c (.bool true)]⟩,
 ⟨31,.or,[.e 28,.e 12]⟩,
 ⟨32,.ite .b,[.e 6,.c (.bool false),.e 30]⟩,
 ⟨33,.or,[.e 6,.e 31]⟩]
def Sc:List En:=VY
def fl:List ObE:=[⟨some 7,.owes KO,[.e 0,.e 7,.c (.int 0)]⟩]
def XR:List Rf:=[.e 32]
theorem gJ:I5.sees XR (I5.run Try.prog [] Ag 3000 20 65)=some ((Mk++((Ax KO [.i] M0)++(Ei++(Sc)))).map En.be,fl.map ObE.be,[]):=by kernel_rfl
theorem bP {T:Tab}(hz0:(S T 0).size≤140737488355328)(hS:AL T (Am (BG 0 I5.ks) Mk))(hB:AX T (Ei.map En.be))(hH:AX T ((Ax KO [.i] M0).map En.be)):
  (KO).owes (M0.map (Rf.eval T))∧AL T (hds 8 [.i])∧(0≤I T 8∧I T 8≤((S T 0)).size∧(∀j:Nat,(j:Int) < I T 8→okB (S T 0) j))∧¬B T 27=true:=by
 refine BS (nh:=8) (k:=1) (pcn:=27) (top:=30) (bes:=Ei) (bos:=Re) (nxt:=[.e 29]) (inits:=[.c (.int 0)]) (fv:=[0,7]) (tys:=[.i]) (by kernel_rfl) rfl rfl rfl rfl hS (by kernel_rfl) (by kernel_rfl) hB (Ay hH) (fun s=>0≤(aI s 0)∧(aI s 0)≤((S T 0)).size∧(∀j:Nat,(j:Int) < (aI s 0)→okB (S T 0) j)) (fun s=>(((S T 0)).size - (aI s 0)).toNat) ?_ ?_
 ·show 0≤(0:Int)∧(0:Int)≤((S T 0)).size∧(∀j:Nat,(j:Int) < (0:Int)→okB (S T 0) j)
  clear hS hB hH
  exact⟨by omega,by omega,fun j hj=>absurd hj (by omega)⟩
 ·intro T2 hfv hF inv
  replace inv:0≤I T2 8∧I T2 8≤((S T 0)).size∧(∀j:Nat,(j:Int) < I T2 8→okB (S T 0) j):=inv
  clear hS hB hH
  replace hF:AI T2 Ei:=hF
  obtain⟨F0,hF⟩:=hF.cut
  have F1:=hF;clear hF
  have fv0:S T2 0=S T 0:=fvS (hfv 0 (by decide))
  have fv7:B T2 7=B T 7:=fvB (hfv 7 (by decide))
  clear hfv
  suffices hz:(B T2 22=true→0≤I T2 8∧I T2 8 < ((S T2 0)).size)∧(B T2 19=true→0≤I T2 8∧I T2 8 < ((S T2 0)).size)∧(B T2 15=true→0≤I T2 8∧I T2 8 < ((S T2 0)).size)∧(B T2 11=true→0≤I T2 8∧I T2 8 < ((S T2 0)).size)∧(B T2 27=true→(0≤I T2 29∧I T2 29≤((S T 0)).size∧(∀j:Nat,(j:Int) < I T2 29→okB (S T 0) j)))∧(B T2 27=true→(((S T 0)).size - (I T2 29)).toNat < (((S T 0)).size - (I T2 8)).toNat) from
   let⟨r0,r1,r2,r3,nx,mz⟩:=hz;⟨⟨r0,r1,r2,r3,trivial⟩,fun hp=>⟨nx hp,mz hp⟩⟩
  refine⟨?_,?_,?_,?_,?_,?_⟩
  ·obtain⟨e9,e10,e11,-,e13,e14,-,e16,e17,e18,e19,e20,e21,e22,-⟩:=F0
   simp only[AE,AG,zN,zR,zS] at*
   obtain⟨v1,v2,v3⟩:=inv
   intro hp
   have h11:(B T2 11)=true:=by clear v3;grind
   have h10:=e10.1 (e11.1 h11).2
   rw[e9,fv0] at h10
   rw[fv0]
   omega
  ·obtain⟨e9,e10,e11,-,e13,e14,-,e16,e17,e18,e19,-⟩:=F0
   simp only[AE,AG,zN,zR,zS] at*
   obtain⟨v1,v2,v3⟩:=inv
   intro hp
   have h11:(B T2 11)=true:=by clear v3;grind
   have h10:=e10.1 (e11.1 h11).2
   rw[e9,fv0] at h10
   rw[fv0]
   omega
  ·obtain⟨e9,e10,e11,-,e13,e14,e15,-⟩:=F0
   simp only[AE,AG,zR,zS] at*
   obtain⟨v1,v2,v3⟩:=inv
   intro hp
   have h11:(B T2 11)=true:=by clear v3;grind
   have h10:=e10.1 (e11.1 h11).2
   rw[e9,fv0] at h10
   rw[fv0]
   omega
  ·obtain⟨e9,e10,e11,-⟩:=F0
   simp only[AE,AG,zR,zS] at e9 e10 e11
   obtain⟨v1,v2,v3⟩:=inv
   intro hp
   have h11:(B T2 11)=true:=by clear v3;grind
   have h10:=e10.1 (e11.1 h11).2
   rw[e9,fv0] at h10
   rw[fv0]
   omega
  ·obtain⟨e9,e10,e11,-,e13,e14,-,e16,e17,e18,-,e20,e21,-,e23,e24,-⟩:=F0
   obtain⟨e25,e26,e27,-,e29,-⟩:=F1
   simp only[AE,AG,zR,w2P,zS] at*
   obtain⟨v1,v2,v3⟩:=inv
   intro hp
   have h27:=e27.1 hp
   have h10:=e10.1 (e11.1 h27.1).2
   rw[e9,fv0] at h10
   have e:(I T2 29)=I T2 8+1:=e29 (by omega) (by omega)
   refine⟨by omega,by omega,fun j hj=>?_⟩
   by_cases hj2:(j:Int) < I T2 8
   ·exact v3 j hj2
   ·obtain rfl:j=(I T2 8).toNat:=by omega
    unfold okB
    have q13:(I T2 13)=Bm (S T 0) (I T2 8).toNat:=by rw[e13,fv0]
    have q16:(I T2 16)=Bm (S T 0) (I T2 8).toNat:=by rw[e16,fv0]
    have q20:(I T2 20)=Bm (S T 0) (I T2 8).toNat:=by rw[e20,fv0]
    have q23:(I T2 23)=Bm (S T 0) (I T2 8).toNat:=by rw[e23,fv0]
    have h26:=h27.2
    clear v3
    grind
  ·obtain⟨e9,e10,e11,-,e13,e14,-,e16,e17,e18,-,e20,e21,-,e23,e24,-⟩:=F0
   obtain⟨e25,e26,e27,-,e29,-⟩:=F1
   simp only[AE,AG,zR,w2P,zS] at*
   obtain⟨v1,v2,v3⟩:=inv
   intro hp
   have h10:=e10.1 (e11.1 (e27.1 hp).1).2
   rw[e9,fv0] at h10
   have e:(I T2 29)=I T2 8+1:=e29 (by omega) (by omega)
   omega
theorem gj {T:Tab}(hz0:(S T 0).size≤140737488355328)(inv0:0≤I T 8∧I T 8≤((S T 0)).size∧(∀j:Nat,(j:Int) < I T 8→okB (S T 0) j))(np0:¬B T 27=true)(A0:AI T Mk)(B0:AI T Ei)(A1:AI T Sc):
  ((B T 32)=(BC (S T 0))):=by
 have F0:=A0;clear A0
 obtain⟨F1,B0⟩:=B0.cut
 have F2:=B0;clear B0
 have F3:=A1;clear A1
 ·obtain⟨e1,e2,-,e4,e5,e6,e7,-⟩:=F0
  obtain⟨e9,e10,e11,-,e13,e14,-,e16,e17,e18,-,e20,e21,-,e23,e24,-⟩:=F1
  obtain⟨e25,e26,e27,e28,-⟩:=F2
  obtain⟨e30,-,e32,-⟩:=F3
  simp only[AE,AG,zN,zC,zR,zL,zS] at*
  obtain⟨w1,w2,w3⟩:=inv0
  refine Bool.eq_iff_iff.2 (Iff.trans ?_ eP.symm)
  have q13:(I T 13)=Bm (S T 0) (I T 8).toNat:=e13
  have q16:(I T 16)=Bm (S T 0) (I T 8).toNat:=e16
  have q20:(I T 20)=Bm (S T 0) (I T 8).toNat:=e20
  have q23:(I T 23)=Bm (S T 0) (I T 8).toNat:=e23
  constructor
  ·intro h
   have h6:¬B T 6=true:=by clear w3;grind
   have h28:¬B T 28=true:=by clear w3;grind
   have h11:¬B T 11=true:=fun h=>by
    have h26:(B T 26)=true:=by clear w3;grind
    have z:=e27.2 ⟨h,h26⟩
    simp[np0] at z
   have h10:¬B T 10=true:=by clear w3;grind
   have hn:¬I T 8 < ((S T 0)).size:=fun h=>h10 (e10.2 (by rw[e9];exact h))
   refine⟨by clear w3;grind,by clear w3;grind,fun j hj=>w3 j (by omega)⟩
  ·rintro⟨h1,h2,h3⟩
   have h6:¬B T 6=true:=by clear w3 h3;grind
   have h28:¬B T 28=true:=fun h=>by
    have h11:(B T 11)=true:=by clear w3 h3;grind
    have h10:(I T 8) < ((S T 0)).size:=by have:=e10.1 (e11.1 h11).2;rw[e9] at this;exact this
    have hk:=h3 (I T 8).toNat (by omega)
    unfold okB at hk
    clear w3 h3
    grind
   clear w3 h3
   grind
theorem dV:Ao Try.prog 65 I5:=by
 refine AZ (l:=[]) BH (by intro p h;exact absurd h (by simp)) gJ (by kernel_rfl) fun T us hpre hT hul hS hBd hE=>?_
 change us.length=1 at hul
 obtain⟨hz0,-⟩:=hBd
 replace hz0:(S T 0).size≤140737488355328:=hz0
 have ha0:aS us 0=S T 0:=inS hT hul (by decide)
 clear hpre
 rw[List.map_append,List.map_append,List.map_append] at hE
 have hA:=hE.left
 replace hE:=hE.right
 have hH:=hE.left
 replace hE:=hE.right
 have hB:=hE.left
 replace hE:=hE.right
 obtain⟨A0,hS1⟩:=AV hS (by kernel_rfl) hA
 obtain⟨ow0,hS2,inv0,np0⟩:=bP hz0 hS1 hB hH
 have hF2:=(AV (hS2.append hS1) (l:=Ei) (by kernel_rfl) hB)
 obtain⟨B0,hS⟩:=hF2
 clear hA hB hH hS1 hS2
 obtain⟨A1,hO⟩:=Ap (tys:=[.b]) (rs:=XR) hS (by kernel_rfl) hE
 have q0:=gj hz0 inv0 np0 A0 B0 A1
 refine⟨⟨(fun _=>ow0),trivial⟩,hO.trans ?_⟩
 exact (lc (by show U.bool (B T 32)= .bool (Js us);unfold Js;rw[ha0];exact congrArg U.bool q0) rfl)
end Go.Eng
end
