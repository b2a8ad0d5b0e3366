/-
  A part of the proof: K_cmpord K_cmpor.
-/
import Derived.Test.YtmlmcidljiibaaaE4
import Derived.Test.YtmlmcidljiibaaaE5
set_option linter.unusedVariables false
set_option linter.unusedSimpArgs false
noncomputable section
open Go Go.Eng Go.Proofs
set_option maxHeartbeats 4000000
set_option maxRecDepth 100000
namespace Go.Eng
def Jm:List U→Int:=fun us=>(orS (aL us 0))
def Iv:Ak:={ sh:=[.one (.list [k64])],blks:=[],outs:=[(.s "cmpor.0",Bi Jm)],c:=(CP 1),m':=[],pre:=[] }
def Vr:List En:=[⟨1,.len,[.e 0]⟩]
def Wy:List En:=[⟨3,.lt,[.e 2,.e 1]⟩,
 ⟨4,.not,[.e 3]⟩,
 ⟨5,.get .i 0,[.e 0,.e 2]⟩,
 ⟨6,.ne,[.e 5,.c (.int 0)]⟩,
 ⟨7,.and,[.e 3,.e 6]⟩,
 ⟨8,.and,[.e 3,.n 6]⟩,
 ⟨9,.w2 .i64 .add,[.e 2,.c (.int 1)]⟩]
def J3:List En:=Vr
def Ee:List En:=Wy
def SP:List ObE:=[⟨some 3,.inl,[.e 2,.e 0]⟩]
def Jn:Ae:=mkD 2 1 Ee 8 [.e 9] SP [0,1]
def M1:List Rf:=[.e 0,.e 1,.c (.int 0)]
def Wj:List En:=[⟨10,.ite .i,[.e 7,.e 5,.c (.int 0)]⟩,
 ⟨11,.or,[.e 7,.e 4]⟩]
def Rw:List En:=Wj
def iV:List ObE:=[⟨none,.owes Jn,[.e 0,.e 1,.c (.int 0)]⟩]
def XI:List Rf:=[.e 10]
theorem fg:Iv.sees XI (Iv.run Try.prog [] Ag 3000 20 121)=some ((J3++((Ax Jn [.i] M1)++(Ee++(Rw)))).map En.be,iV.map ObE.be,[]):=by kernel_rfl
theorem ZO {T:Tab}(hl0:(L T 0).length≤140737488355328)(A0:AI T J3):
  ((I T 1)=((L T 0)).length):=by
 have F0:=A0;clear A0
 have h1:(I T 1)=((L T 0)).length:=by
  obtain⟨e1,-⟩:=F0
  simp only[AE,zR,zL] at e1
  exact e1
 exact h1
theorem Zo {T:Tab}(hl0:(L T 0).length≤140737488355328)(h1:(I T 1)=((L T 0)).length)(hS:AL T (Am (BG 0 Iv.ks) J3))(hB:AX T (Ee.map En.be))(hH:AX T ((Ax Jn [.i] M1).map En.be)):
  (Jn).owes (M1.map (Rf.eval T))∧AL T (hds 2 [.i])∧(0≤I T 2∧I T 2≤((L T 0)).length∧orS (L T 0)=orS (((L T 0)).drop (I T 2).toNat))∧¬B T 8=true:=by
 refine BS (nh:=2) (k:=1) (pcn:=8) (top:=10) (bes:=Ee) (bos:=SP) (nxt:=[.e 9]) (inits:=[.c (.int 0)]) (fv:=[0,1]) (tys:=[.i]) (by kernel_rfl) rfl rfl rfl rfl hS (by kernel_rfl) (by kernel_rfl) hB (Ay hH) (fun s=>0≤(aI s 0)∧(aI s 0)≤((L T 0)).length∧orS (L T 0)=orS (((L T 0)).drop (aI s 0).toNat)) (fun s=>(((L T 0)).length - (aI s 0)).toNat) ?_ ?_
 ·show 0≤(0:Int)∧(0:Int)≤((L T 0)).length∧orS (L T 0)=orS (((L T 0)).drop (0:Int).toNat)
  clear hS hB hH
  exact⟨by omega,by omega,rfl⟩
 ·intro T2 hfv hF inv
  replace inv:0≤I T2 2∧I T2 2≤((L T 0)).length∧orS (L T 0)=orS (((L T 0)).drop (I T2 2).toNat):=inv
  clear hS hB hH
  replace hF:AI T2 Ee:=hF
  have F0:=hF;clear hF
  have fv0:L T2 0=L T 0:=fvL (hfv 0 (by decide))
  have fv1:I T2 1=I T 1:=fvI (hfv 1 (by decide))
  clear hfv
  suffices hz:(B T2 3=true→0≤I T2 2∧I T2 2 < ((L T2 0)).length)∧(B T2 8=true→(0≤I T2 9∧I T2 9≤((L T 0)).length∧orS (L T 0)=orS (((L T 0)).drop (I T2 9).toNat)))∧(B T2 8=true→(((L T 0)).length - (I T2 9)).toNat < (((L T 0)).length - (I T2 2)).toNat) from
   let⟨r0,nx,mz⟩:=hz;⟨⟨r0,trivial⟩,fun hp=>⟨nx hp,mz hp⟩⟩
  refine⟨?_,?_,?_⟩
  ·obtain⟨e3,-⟩:=F0
   simp only[AE,zR] at e3
   obtain⟨v1,v2,v3⟩:=inv
   intro hp
   have h3:=e3.1 hp
   rw[fv0]
   omega
  ·obtain⟨e3,-,e5,e6,-,e8,e9,-⟩:=F0
   simp only[AE,AG,zN,zR,w2P,zL] at*
   obtain⟨v1,v2,v3⟩:=inv
   intro hp
   have h8:=e8.1 hp
   have hlt:(I T2 2) < ((L T 0)).length:=by have h3:=e3.1 h8.1;omega
   have e:(I T2 9)=I T2 2+1:=e9 (by omega) (by omega)
   refine⟨by omega,by omega,?_⟩
   rw[v3,TP (by omega),e,show ((I T2 2)+1).toNat=(I T2 2).toNat+1 by omega,if_pos]
   rw[←fv0,←e5]
   clear v3
   grind
  ·obtain⟨e3,-,e5,e6,-,e8,e9,-⟩:=F0
   simp only[AE,AG,zN,zR,w2P,zL] at*
   obtain⟨v1,v2,v3⟩:=inv
   intro hp
   have hlt:(I T2 2) < ((L T 0)).length:=by have h3:=e3.1 (e8.1 hp).1;omega
   have e:(I T2 9)=I T2 2+1:=e9 (by omega) (by omega)
   omega
theorem hJ {T:Tab}(hl0:(L T 0).length≤140737488355328)(h1:(I T 1)=((L T 0)).length)(inv0:0≤I T 2∧I T 2≤((L T 0)).length∧orS (L T 0)=orS (((L T 0)).drop (I T 2).toNat))(np0:¬B T 8=true)(A0:AI T J3)(B0:AI T Ee)(A1:AI T Rw):
  ((I T 10)=(orS (L T 0))):=by
 have F0:=A0;clear A0
 have F1:=B0;clear B0
 have F2:=A1;clear A1
 ·obtain⟨e1,-⟩:=F0
  obtain⟨e3,-,e5,e6,e7,e8,-⟩:=F1
  obtain⟨e10,-⟩:=F2
  simp only[AE,AG,zN,zR,zL] at*
  obtain⟨w1,w2,w3⟩:=inv0
  rw[w3,e10]
  by_cases h3:(I T 2) < I T 1
  ·rw[TP (by omega),←e5]
   clear w3
   grind
  ·have h7:¬B T 7=true:=fun h=>h3 (e3.1 (e7.1 h).1)
   rw[if_neg h7,List.drop_eq_nil_of_le (by omega)]
   rfl
theorem dC:Ao Try.prog 121 Iv:=by
 refine AZ (l:=[]) BH (by intro p h;exact absurd h (by simp)) fg (by kernel_rfl) fun T us hpre hT hul hS hBd hE=>?_
 change us.length=1 at hul
 obtain⟨⟨hl0,he0⟩,-⟩:=hBd
 replace hl0:(L T 0).length≤140737488355328:=hl0
 have ha0:aL us 0=L T 0:=inL hT hul (by decide)
 clear hpre
 rw[List.map_append,List.map_append,List.map_append] at hE
 have hA:=hE.left
 replace hE:=hE.right
 have hH:=hE.left
 replace hE:=hE.right
 have hB:=hE.left
 replace hE:=hE.right
 obtain⟨A0,hS1⟩:=AV hS (by kernel_rfl) hA
 have h1:=ZO hl0 A0
 obtain⟨ow0,hS2,inv0,np0⟩:=Zo hl0 h1 hS1 hB hH
 have hF2:=(AV (hS2.append hS1) (l:=Ee) (by kernel_rfl) hB)
 obtain⟨B0,hS⟩:=hF2
 clear hA hB hH hS1 hS2
 obtain⟨A1,hO⟩:=Ap (tys:=[.i]) (rs:=XI) hS (by kernel_rfl) hE
 have q0:=hJ hl0 h1 inv0 np0 A0 B0 A1
 refine⟨⟨(fun _=>ow0),trivial⟩,hO.trans ?_⟩
 exact (lc (by show U.int (I T 10)= .int (Jm us);unfold Jm;rw[ha0];exact congrArg U.int q0) rfl)
end Go.Eng
end
