/-
  A part of the proof: K_samed K_same.
-/
import Derived.Test.YtmlmcidljiibaaaXQlWays
import Derived.Test.YtmlmcidljiibaaaE3
import Derived.Test.YtmlmcidljiibaaaE4
set_option linter.unusedVariables false
set_option linter.unusedSimpArgs false
noncomputable section
open Go Go.Eng Go.Proofs
set_option maxHeartbeats 4000000
set_option maxRecDepth 100000
namespace Go.Eng
def Jd:List U→Bool:=fun us=>(Jp (aL us 0) (aL us 1))
def Ku:Ak:={ sh:=[.one (.list [k64]),.one (.list [k64])],blks:=[],outs:=[(.s "same.0",DF Jd)],c:= .b 2,m':=[],pre:=[] }
def ZC:List En:=[⟨2,.len,[.e 0]⟩,
 ⟨3,.len,[.e 1]⟩,
 ⟨4,.ne,[.e 2,.e 3]⟩,
 ⟨5,.not,[.e 4]⟩]
def L2:List En:=ZC
def Yv:List En:=[⟨7,.len,[.e 0]⟩,
 ⟨8,.lt,[.e 6,.e 7]⟩,
 ⟨9,.and,[.e 5,.e 8]⟩,
 ⟨10,.and,[.e 5,.n 8]⟩,
 ⟨11,.get .i 0,[.e 0,.e 6]⟩,
 ⟨12,.get .i 0,[.e 1,.e 6]⟩,
 ⟨13,.ne,[.e 11,.e 12]⟩,
 ⟨14,.and,[.e 9,.e 13]⟩,
 ⟨15,.and,[.e 9,.n 13]⟩,
 ⟨16,.w2 .i64 .add,[.e 6,.c (.int 1)]⟩]
def GI:List En:=Yv
def UW:List ObE:=[⟨some 9,.inl,[.e 6,.e 1]⟩,⟨some 9,.inl,[.e 6,.e 0]⟩]
def L3:Ae:=mkD 6 1 GI 15 [.e 16] UW [1,0,5]
def PB:List Rf:=[.e 1,.e 0,.e 5,.c (.int 0)]
def Zb:List En:=[⟨17,.ite .b,[.e 14,.c (.bool false),.c (.bool true)]⟩,
 ⟨18,.or,[.e 14,.e 10]⟩,
 ⟨19,.ite .b,[.e 4,.c (.bool false),.e 17]⟩,
 ⟨20,.or,[.e 4,.e 18]⟩]
def Uy:List En:=Zb
def jL:List ObE:=[⟨some 5,.owes L3,[.e 1,.e 0,.e 5,.c (.int 0)]⟩]
def bn:List Rf:=[.e 19]
theorem jI:Ku.sees bn (Ku.run Try.prog [] Ag 3000 20 21)=some ((L2++((Ax L3 [.i] PB)++(GI++(Uy)))).map En.be,jL.map ObE.be,[]):=by kernel_rfl
theorem ac {T:Tab}(hl0:(L T 0).length≤140737488355328)(hl1:(L T 1).length≤140737488355328)(A0:AI T L2):
  ((B T 5)=true↔((L T 0)).length=((L T 1)).length):=by
 have F0:=A0;clear A0
 have h5:(B T 5)=true↔((L T 0)).length=((L T 1)).length:=by
  obtain⟨e2,e3,e4,e5,-⟩:=F0
  simp only[AE,AG,zR,zL] at*
  have:(B T 4)=true↔¬((L T 0)).length=((L T 1)).length:=by rw[e4,e2,e3];omega
  grind
 exact h5
theorem dP {T:Tab}(hl0:(L T 0).length≤140737488355328)(h5:(B T 5)=true↔((L T 0)).length=((L T 1)).length)(hS:AL T (Am (BG 0 Ku.ks) L2))(hB:AX T (GI.map En.be))(hH:AX T ((Ax L3 [.i] PB).map En.be)):
  (L3).owes (PB.map (Rf.eval T))∧AL T (hds 6 [.i])∧(0≤I T 6∧I T 6≤((L T 0)).length∧∀q:Nat,(q:Int) < I T 6→AA ((L T 0)) q 0=AA ((L T 1)) q 0)∧¬B T 15=true:=by
 refine BS (nh:=6) (k:=1) (pcn:=15) (top:=17) (bes:=GI) (bos:=UW) (nxt:=[.e 16]) (inits:=[.c (.int 0)]) (fv:=[1,0,5]) (tys:=[.i]) (by kernel_rfl) rfl rfl rfl rfl hS (by kernel_rfl) (by kernel_rfl) hB (Ay hH) (fun s=>0≤(aI s 0)∧(aI s 0)≤((L T 0)).length∧∀q:Nat,(q:Int) < (aI s 0)→AA ((L T 0)) q 0=AA ((L T 1)) q 0) (fun s=>(((L T 0)).length - (aI s 0)).toNat) ?_ ?_
 ·show 0≤(0:Int)∧(0:Int)≤((L T 0)).length∧∀q:Nat,(q:Int) < (0:Int)→AA ((L T 0)) q 0=AA ((L T 1)) q 0
  clear hS hB hH
  exact⟨by omega,by omega,fun q h=>absurd h (by omega)⟩
 ·intro T2 hfv hF inv
  replace inv:0≤I T2 6∧I T2 6≤((L T 0)).length∧∀q:Nat,(q:Int) < I T2 6→AA ((L T 0)) q 0=AA ((L T 1)) q 0:=inv
  clear hS hB hH
  replace hF:AI T2 GI:=hF
  have F0:=hF;clear hF
  have fv1:L T2 1=L T 1:=fvL (hfv 1 (by decide))
  have fv0:L T2 0=L T 0:=fvL (hfv 0 (by decide))
  have fv5:B T2 5=B T 5:=fvB (hfv 5 (by decide))
  clear hfv
  suffices hz:(B T2 9=true→0≤I T2 6∧I T2 6 < ((L T2 1)).length)∧(B T2 9=true→0≤I T2 6∧I T2 6 < ((L T2 0)).length)∧(B T2 15=true→(0≤I T2 16∧I T2 16≤((L T 0)).length∧∀q:Nat,(q:Int) < I T2 16→AA ((L T 0)) q 0=AA ((L T 1)) q 0))∧(B T2 15=true→(((L T 0)).length - (I T2 16)).toNat < (((L T 0)).length - (I T2 6)).toNat) from
   let⟨r0,r1,nx,mz⟩:=hz;⟨⟨r0,r1,trivial⟩,fun hp=>⟨nx hp,mz hp⟩⟩
  refine⟨?_,?_,?_,?_⟩
  ·obtain⟨e7,e8,e9,-⟩:=F0
   simp only[AE,AG,zR,zL] at e7 e8 e9
   obtain⟨v1,v2,v3⟩:=inv
   intro hp
   have h1:=e9.1 hp
   have h:=e8.1 h1.2
   have h5:=h5.1 (fv5▸h1.1)
   rw[e7,fv0] at h
   try rw[fv0]
   try rw[fv1]
   omega
  ·obtain⟨e7,e8,e9,-⟩:=F0
   simp only[AE,AG,zR,zL] at e7 e8 e9
   obtain⟨v1,v2,v3⟩:=inv
   intro hp
   have h1:=e9.1 hp
   have h:=e8.1 h1.2
   have h5:=h5.1 (fv5▸h1.1)
   rw[e7,fv0] at h
   try rw[fv0]
   try rw[fv1]
   omega
  ·obtain⟨e7,e8,e9,-,e11,e12,e13,-,e15,e16,-⟩:=F0
   simp only[AE,AG,zN,zR,w2P,zL] at*
   obtain⟨v1,v2,v3⟩:=inv
   intro hp
   have hq:=e15.1 hp
   have h:=e8.1 (e9.1 hq.1).2
   rw[e7,fv0] at h
   have e:(I T2 16)=I T2 6+1:=e16 (by omega) (by omega)
   refine⟨by omega,by omega,fun q hq'=>?_⟩
   by_cases hq2:(q:Int) < I T2 6
   ·exact v3 q hq2
   obtain rfl:q=(I T2 6).toNat:=by omega
   rw[←fv0,←fv1,←e11,←e12]
   have h13:=hq.2
   clear v3
   grind
  ·obtain⟨e7,e8,e9,-,e11,e12,e13,-,e15,e16,-⟩:=F0
   simp only[AE,AG,zN,zR,w2P,zL] at*
   obtain⟨v1,v2,v3⟩:=inv
   intro hp
   have h:=e8.1 (e9.1 (e15.1 hp).1).2
   rw[e7,fv0] at h
   have e:(I T2 16)=I T2 6+1:=e16 (by omega) (by omega)
   omega
theorem i6 {T:Tab}(hl0:(L T 0).length≤140737488355328)(hl1:(L T 1).length≤140737488355328)(h5:(B T 5)=true↔((L T 0)).length=((L T 1)).length)(inv0:0≤I T 6∧I T 6≤((L T 0)).length∧∀q:Nat,(q:Int) < I T 6→AA ((L T 0)) q 0=AA ((L T 1)) q 0)(np0:¬B T 15=true)(A0:AI T L2)(B0:AI T GI)(A1:AI T Uy):
  ((B T 19)=(Jp (L T 0) (L T 1))):=by
 have F0:=A0;clear A0
 have F1:=B0;clear B0
 have F2:=A1;clear A1
 ·obtain⟨e2,e3,e4,e5,-⟩:=F0
  obtain⟨e7,e8,e9,-,e11,e12,e13,e14,e15,-⟩:=F1
  obtain⟨e17,-,e19,-⟩:=F2
  simp only[AE,AG,zN,zC,zR,zL] at*
  obtain⟨v1,v2,v3⟩:=inv0
  refine Bool.eq_iff_iff.2 ?_
  rw[ct,←h5]
  have h19:(B T 19)=true↔((B T 5)=true∧B T 14=false):=by clear v3 e2 e3 h5;grind
  rw[h19]
  constructor
  ·rintro⟨h1,h2⟩
   refine⟨h1,?_⟩
   have hn:¬I T 6 < ((L T 0)).length:=fun hlt=>by
    have hc:(B T 9)=true:=e9.2 ⟨h1,e8.2 (by omega)⟩
    cases k:(B T 13) with
    |true=>have z:=e14.2 ⟨hc,k⟩;simp[h2] at z
    |false=>have z:=e15.2 ⟨hc,k⟩;simp[np0] at z
   exact fun j hj=>v3 j (by omega)
  ·rintro⟨h1,h2⟩
   refine⟨h1,?_⟩
   cases k:(B T 14) with
   |false=>rfl
   |true=>
    have h3:=e14.1 k
    have h4:=e8.1 (e9.1 h3.1).2
    have h6:=h2 (I T 6).toNat (by omega)
    rw[←e11,←e12] at h6
    exact absurd h6 (e13.1 h3.2)
theorem gH:Ao Try.prog 21 Ku:=by
 refine AZ (l:=[]) BH (by intro p h;exact absurd h (by simp)) jI (by kernel_rfl) fun T us hpre hT hul hS hBd hE=>?_
 change us.length=2 at hul
 obtain⟨⟨hl0,he0⟩,⟨hl1,he1⟩,-⟩:=hBd
 replace hl0:(L T 0).length≤140737488355328:=hl0
 replace hl1:(L T 1).length≤140737488355328:=hl1
 have ha0:aL us 0=L T 0:=inL hT hul (by decide)
 have ha1:aL us 1=L T 1:=inL hT hul (by decide)
 clear hpre
 rw[List.map_append,List.map_append,List.map_append] at hE
 have hA:=hE.left
 replace hE:=hE.right
 have hH:=hE.left
 replace hE:=hE.right
 have hB:=hE.left
 replace hE:=hE.right
 obtain⟨A0,hS1⟩:=AV hS (by kernel_rfl) hA
 have h5:=ac hl0 hl1 A0
 obtain⟨ow0,hS2,inv0,np0⟩:=dP hl0 h5 hS1 hB hH
 have hF2:=(AV (hS2.append hS1) (l:=GI) (by kernel_rfl) hB)
 obtain⟨B0,hS⟩:=hF2
 clear hA hB hH hS1 hS2
 obtain⟨A1,hO⟩:=Ap (tys:=[.b]) (rs:=bn) hS (by kernel_rfl) hE
 have q0:=i6 hl0 hl1 h5 inv0 np0 A0 B0 A1
 refine⟨⟨(fun _=>ow0),trivial⟩,hO.trans ?_⟩
 exact (lc (by show U.bool (B T 19)= .bool (Jd us);unfold Jd;rw[ha0,ha1];exact congrArg U.bool q0) rfl)
end Go.Eng
end
