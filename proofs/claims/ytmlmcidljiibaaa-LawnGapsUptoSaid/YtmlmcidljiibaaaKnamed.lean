/-
  A part of the proof: K_namedd K_named.
-/
import Derived.Test.YtmlmcidljiibaaaE3
import Derived.Test.YtmlmcidljiibaaaE4
set_option linter.unusedVariables false
set_option linter.unusedSimpArgs false
noncomputable section
open Go Go.Eng Go.Proofs
set_option maxHeartbeats 4000000
set_option maxRecDepth 100000
namespace Go.Eng
def JX:List U→Bool:=fun us=>(A8 (aS us 0))
def H5:Ak:={ sh:=[.one (.str)],blks:=[],outs:=[(.s "named.0",EK JX)],c:= .b 1,m':=[],pre:=[] }
def Ur:List En:=[⟨1,.slen,[.e 0]⟩,
 ⟨2,.lt,[.e 1,.c (.int 1)]⟩,
 ⟨3,.not,[.e 2]⟩,
 ⟨4,.slen,[.e 0]⟩,
 ⟨5,.lt,[.c (.int 20),.e 4]⟩,
 ⟨6,.or,[.e 2,.e 5]⟩,
 ⟨7,.not,[.e 6]⟩]
def UZ:List En:=[⟨9,.slen,[.e 0]⟩,
 ⟨10,.lt,[.e 8,.e 9]⟩,
 ⟨11,.and,[.e 7,.e 10]⟩,
 ⟨12,.and,[.e 7,.n 10]⟩,
 ⟨13,.sat,[.e 0,.e 8]⟩,
 ⟨14,.le,[.c (.int 97),.e 13]⟩,
 ⟨15,.and,[.e 11,.e 14]⟩,
 ⟨16,.sat,[.e 0,.e 8]⟩,
 ⟨17,.le,[.e 16,.c (.int 122)]⟩,
 ⟨18,.and,[.e 14,.e 17]⟩,
 ⟨19,.and,[.e 11,.n 18]⟩,
 ⟨20,.sat,[.e 0,.e 8]⟩,
 ⟨21,.le,[.c (.int 48),.e 20]⟩,
 ⟨22,.and,[.e 19,.e 21]⟩,
 ⟨23,.sat,[.e 0,.e 8]⟩,
 ⟨24,.le,[.e 23,.c (.int 57)]⟩]
def UC:List En:=[⟨25,.and,[.e 21,.e 24]⟩,
 ⟨26,.or,[.e 18,.e 25]⟩,
 ⟨27,.and,[.e 11,.e 26]⟩,
 ⟨28,.and,[.e 11,.n 26]⟩,
 ⟨29,.w2 .i64 .add,[.e 8,.c (.int 1)]⟩]
def L4:List En:=Ur
def EV:List En:=UZ++(UC)
def Ql:List ObE:=[⟨some 22,.ins,[.e 0,.e 8]⟩,⟨some 19,.ins,[.e 0,.e 8]⟩,⟨some 15,.ins,[.e 0,.e 8]⟩,⟨some 11,.ins,[.e 0,.e 8]⟩]
def Ip:Ae:=mkD 8 1 EV 27 [.e 29] Ql [0,7]
def Lt:List Rf:=[.e 0,.e 7,.c (.int 0)]
def VA:List En:=[⟨30,.ite .b,[.e 28,.c (.bool false),.c (.bool true)]⟩,
 ⟨31,.or,[.e 28,.e 12]⟩,
 ⟨32,.ite .b,[.e 6,.c (.bool false),.e 30]⟩,
 ⟨33,.or,[.e 6,.e 31]⟩]
def Qs:List En:=VA
def bd:List ObE:=[⟨some 7,.owes Ip,[.e 0,.e 7,.c (.int 0)]⟩]
def Vo:List Rf:=[.e 32]
theorem ck:H5.sees Vo (H5.run Try.prog [] Ah 3000 20 65)=some ((L4++((BJ Ip [.i] Lt)++(EV++(Qs)))).map En.be,bd.map ObE.be,[]):=by kernel_rfl
theorem YE {T:Tab}(hz0:(S T 0).size≤140737488355328)(hS:AL T (Al (BT 0 H5.ks) L4))(hB:Ag T (EV.map En.be))(hH:Ag T ((BJ Ip [.i] Lt).map En.be)):
  (Ip).owes (Lt.map (Rf.eval T))∧AL T (hds 8 [.i])∧(0≤I T 8∧I T 8≤((S T 0)).size∧(∀j:Nat,(j:Int) < I T 8→okB (S T 0) j))∧¬B T 27=true:=by
 refine Bl (nh:=8) (k:=1) (pcn:=27) (top:=30) (bes:=EV) (bos:=Ql) (nxt:=[.e 29]) (inits:=[.c (.int 0)]) (fv:=[0,7]) (tys:=[.i]) (by kernel_rfl) rfl rfl rfl rfl hS (by kernel_rfl) (by kernel_rfl) hB (BK hH) (fun s=>0≤(aI s 0)∧(aI s 0)≤((S T 0)).size∧(∀j:Nat,(j:Int) < (aI s 0)→okB (S T 0) j)) (fun s=>(((S T 0)).size - (aI s 0)).toNat) ?_ ?_
 ·show 0≤(0:Int)∧(0:Int)≤((S T 0)).size∧(∀j:Nat,(j:Int) < (0:Int)→okB (S T 0) j)
  clear hS hB hH
  exact⟨by omega,by omega,fun j hj=>absurd hj (by omega)⟩
 ·intro T2 hfv hF inv
  replace inv:0≤I T2 8∧I T2 8≤((S T 0)).size∧(∀j:Nat,(j:Int) < I T2 8→okB (S T 0) j):=inv
  clear hS hB hH
  replace hF:AJ T2 EV:=hF
  obtain⟨F0,hF⟩:=hF.cut
  have F1:=hF;clear hF
  have fv0:S T2 0=S T 0:=fvS (hfv 0 (by decide))
  have fv7:B T2 7=B T 7:=fvB (hfv 7 (by decide))
  clear hfv
  suffices hz:(B T2 22=true→0≤I T2 8∧I T2 8 < ((S T2 0)).size)∧(B T2 19=true→0≤I T2 8∧I T2 8 < ((S T2 0)).size)∧(B T2 15=true→0≤I T2 8∧I T2 8 < ((S T2 0)).size)∧(B T2 11=true→0≤I T2 8∧I T2 8 < ((S T2 0)).size)∧(B T2 27=true→(0≤I T2 29∧I T2 29≤((S T 0)).size∧(∀j:Nat,(j:Int) < I T2 29→okB (S T 0) j)))∧(B T2 27=true→(((S T 0)).size - (I T2 29)).toNat < (((S T 0)).size - (I T2 8)).toNat) from
   let⟨r0,r1,r2,r3,nx,mz⟩:=hz;⟨⟨r0,r1,r2,r3,trivial⟩,fun hp=>⟨nx hp,mz hp⟩⟩
  refine⟨?_,?_,?_,?_,?_,?_⟩
  ·obtain⟨e9,e10,e11,-,e13,e14,-,e16,e17,e18,e19,e20,e21,e22,-⟩:=F0
   simp only[AE,AF,zN,zR,zS] at*
   obtain⟨v1,v2,v3⟩:=inv
   intro hp
   have h11:(B T2 11)=true:=by clear v3;grind
   have h10:=e10.1 (e11.1 h11).2
   rw[e9,fv0] at h10
   rw[fv0]
   omega
  ·obtain⟨e9,e10,e11,-,e13,e14,-,e16,e17,e18,e19,-⟩:=F0
   simp only[AE,AF,zN,zR,zS] at*
   obtain⟨v1,v2,v3⟩:=inv
   intro hp
   have h11:(B T2 11)=true:=by clear v3;grind
   have h10:=e10.1 (e11.1 h11).2
   rw[e9,fv0] at h10
   rw[fv0]
   omega
  ·obtain⟨e9,e10,e11,-,e13,e14,e15,-⟩:=F0
   simp only[AE,AF,zR,zS] at*
   obtain⟨v1,v2,v3⟩:=inv
   intro hp
   have h11:(B T2 11)=true:=by clear v3;grind
   have h10:=e10.1 (e11.1 h11).2
   rw[e9,fv0] at h10
   rw[fv0]
   omega
  ·obtain⟨e9,e10,e11,-⟩:=F0
   simp only[AE,AF,zR,zS] at e9 e10 e11
   obtain⟨v1,v2,v3⟩:=inv
   intro hp
   have h11:(B T2 11)=true:=by clear v3;grind
   have h10:=e10.1 (e11.1 h11).2
   rw[e9,fv0] at h10
   rw[fv0]
   omega
  ·obtain⟨e9,e10,e11,-,e13,e14,-,e16,e17,e18,-,e20,e21,-,e23,e24,-⟩:=F0
   obtain⟨e25,e26,e27,-,e29,-⟩:=F1
   simp only[AE,AF,zR,w2P,zS] at*
   obtain⟨v1,v2,v3⟩:=inv
   intro hp
   have h27:=e27.1 hp
   have h10:=e10.1 (e11.1 h27.1).2
   rw[e9,fv0] at h10
   have e:(I T2 29)=I T2 8+1:=e29 (by omega) (by omega)
   refine⟨by omega,by omega,fun j hj=>?_⟩
   by_cases hj2:(j:Int) < I T2 8
   ·exact v3 j hj2
   ·obtain rfl:j=(I T2 8).toNat:=by omega
    unfold okB
    have q13:(I T2 13)=Bk (S T 0) (I T2 8).toNat:=by rw[e13,fv0]
    have q16:(I T2 16)=Bk (S T 0) (I T2 8).toNat:=by rw[e16,fv0]
    have q20:(I T2 20)=Bk (S T 0) (I T2 8).toNat:=by rw[e20,fv0]
    have q23:(I T2 23)=Bk (S T 0) (I T2 8).toNat:=by rw[e23,fv0]
    have h26:=h27.2
    clear v3
    grind
  ·obtain⟨e9,e10,e11,-,e13,e14,-,e16,e17,e18,-,e20,e21,-,e23,e24,-⟩:=F0
   obtain⟨e25,e26,e27,-,e29,-⟩:=F1
   simp only[AE,AF,zR,w2P,zS] at*
   obtain⟨v1,v2,v3⟩:=inv
   intro hp
   have h10:=e10.1 (e11.1 (e27.1 hp).1).2
   rw[e9,fv0] at h10
   have e:(I T2 29)=I T2 8+1:=e29 (by omega) (by omega)
   omega
theorem bi {T:Tab}(hz0:(S T 0).size≤140737488355328)(inv0:0≤I T 8∧I T 8≤((S T 0)).size∧(∀j:Nat,(j:Int) < I T 8→okB (S T 0) j))(np0:¬B T 27=true)(A0:AJ T L4)(B0:AJ T EV)(A1:AJ T Qs):
  ((B T 32)=(A8 (S T 0))):=by
 have F0:=A0;clear A0
 obtain⟨F1,B0⟩:=B0.cut
 have F2:=B0;clear B0
 have F3:=A1;clear A1
 ·obtain⟨e1,e2,-,e4,e5,e6,e7,-⟩:=F0
  obtain⟨e9,e10,e11,-,e13,e14,-,e16,e17,e18,-,e20,e21,-,e23,e24,-⟩:=F1
  obtain⟨e25,e26,e27,e28,-⟩:=F2
  obtain⟨e30,-,e32,-⟩:=F3
  simp only[AE,AF,zN,zC,zR,zL,zS] at*
  obtain⟨w1,w2,w3⟩:=inv0
  refine Bool.eq_iff_iff.2 (Iff.trans ?_ au.symm)
  have q13:(I T 13)=Bk (S T 0) (I T 8).toNat:=e13
  have q16:(I T 16)=Bk (S T 0) (I T 8).toNat:=e16
  have q20:(I T 20)=Bk (S T 0) (I T 8).toNat:=e20
  have q23:(I T 23)=Bk (S T 0) (I T 8).toNat:=e23
  constructor
  ·intro h
   have h6:¬B T 6=true:=by clear w3;grind
   have h28:¬B T 28=true:=by clear w3;grind
   have h11:¬B T 11=true:=fun h=>by
    have h26:(B T 26)=true:=by clear w3;grind
    have z:=e27.2 ⟨h,h26⟩
    simp[np0] at z
   have h10:¬B T 10=true:=by clear w3;grind
   have hn:¬I T 8 < ((S T 0)).size:=fun h=>h10 (e10.2 (by rw[e9];exact h))
   refine⟨by clear w3;grind,by clear w3;grind,fun j hj=>w3 j (by omega)⟩
  ·rintro⟨h1,h2,h3⟩
   have h6:¬B T 6=true:=by clear w3 h3;grind
   have h28:¬B T 28=true:=fun h=>by
    have h11:(B T 11)=true:=by clear w3 h3;grind
    have h10:(I T 8) < ((S T 0)).size:=by have:=e10.1 (e11.1 h11).2;rw[e9] at this;exact this
    have hk:=h3 (I T 8).toNat (by omega)
    unfold okB at hk
    clear w3 h3
    grind
   clear w3 h3
   grind
theorem aP:Aq Try.prog 65 H5:=by
 refine Ai (l:=[]) BX (by intro p h;exact absurd h (by simp)) ck (by kernel_rfl) fun T us hpre hT hul hS hBd hE=>?_
 change us.length=1 at hul
 obtain⟨hz0,-⟩:=hBd
 replace hz0:(S T 0).size≤140737488355328:=hz0
 have ha0:aS us 0=S T 0:=inS hT hul (by decide)
 clear hpre
 rw[List.map_append,List.map_append,List.map_append] at hE
 have hA:=hE.left
 replace hE:=hE.right
 have hH:=hE.left
 replace hE:=hE.right
 have hB:=hE.left
 replace hE:=hE.right
 obtain⟨A0,hS1⟩:=Ac hS (by kernel_rfl) hA
 obtain⟨ow0,hS2,inv0,np0⟩:=YE hz0 hS1 hB hH
 have hF2:=(Ac (hS2.append hS1) (l:=EV) (by kernel_rfl) hB)
 obtain⟨B0,hS⟩:=hF2
 clear hA hB hH hS1 hS2
 obtain⟨A1,hO⟩:=Ar (tys:=[.b]) (rs:=Vo) hS (by kernel_rfl) hE
 have q0:=bi hz0 inv0 np0 A0 B0 A1
 refine⟨⟨(fun _=>ow0),trivial⟩,hO.trans ?_⟩
 exact (lc (by show U.bool (B T 32)= .bool (JX us);unfold JX;rw[ha0];exact congrArg U.bool q0) rfl)
end Go.Eng
end
