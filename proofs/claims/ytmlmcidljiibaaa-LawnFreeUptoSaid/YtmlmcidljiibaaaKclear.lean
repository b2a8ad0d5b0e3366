/-
  A part of the proof: K_cleard K_clear.
-/
import Derived.Test.YtmlmcidljiibaaaXQlFree
import Derived.Test.YtmlmcidljiibaaaE3
import Derived.Test.YtmlmcidljiibaaaE4
import Derived.Test.YtmlmcidljiibaaaKsquare
set_option linter.unusedVariables false
set_option linter.unusedSimpArgs false
noncomputable section
open Go Go.Eng Go.Proofs
set_option maxHeartbeats 4000000
set_option maxRecDepth 100000
namespace Go.Eng
def sH:List U→Bool:=fun us=>(Ba (aI us 0) (aI us 1) (aI us 2) (aL us 3))
def rv:List U→Prop:=fun us=>AH (aI us 0) (aI us 1)=true
def sC:List U→Prop:=fun us=>Bx (aI us 2)=true
def sA:List U→Prop:=fun us=>((aL us 3)).all Ax=true
def sF:Ak:={ sh:=[.agg [k64,k64],.one (k64),.one (.list [k64,k64,k64])],blks:=[],outs:=[(.s "clear.0",EK sH)],c:= .b 4,m':=[],pre:=[(.s "clear.p0",rv),(.s "clear.p1",sC),(.s "clear.p2",sA)] }
def sZ:List En:=[]
def sm:List En:=[⟨5,.len,[.e 3]⟩,
 ⟨6,.lt,[.e 4,.e 5]⟩,
 ⟨7,.not,[.e 6]⟩,
 ⟨8,.get .i 2,[.e 3,.e 4]⟩,
 ⟨9,.w2 .i64 .add,[.e 2,.e 8]⟩,
 ⟨10,.get .i 0,[.e 3,.e 4]⟩,
 ⟨11,.get .i 1,[.e 3,.e 4]⟩,
 ⟨12,.outI "square.0" qd,[.e 0,.e 1,.e 10,.e 11]⟩,
 ⟨13,.w2 .i64 .mul,[.e 9,.e 9]⟩,
 ⟨14,.lt,[.e 12,.e 13]⟩,
 ⟨15,.and,[.e 6,.e 14]⟩,
 ⟨16,.and,[.e 6,.n 14]⟩,
 ⟨17,.w2 .i64 .add,[.e 4,.c (.int 1)]⟩]
def sD:List En:=sm
def sc:List ObE:=[⟨some 6,.pre "square.p0" qX,[.e 0,.e 1,.e 10,.e 11]⟩,⟨some 6,.pre "square.p1" qY,[.e 0,.e 1,.e 10,.e 11]⟩,⟨some 6,.inl,[.e 4,.e 3]⟩,⟨some 6,.inl,[.e 4,.e 3]⟩]
def sP:Ae:=mkD 4 1 sD 16 [.e 17] sc [0,1,3,2]
def sR:List Rf:=[.e 0,.e 1,.e 3,.e 2,.c (.int 0)]
def so:List En:=[⟨18,.ite .b,[.e 15,.c (.bool false),.c (.bool true)]⟩,
 ⟨19,.or,[.e 15,.e 7]⟩]
def sa:List En:=so
def tR:List ObE:=[⟨none,.owes sP,[.e 0,.e 1,.e 3,.e 2,.c (.int 0)]⟩]
def sz:List Rf:=[.e 18]
theorem tO:sF.sees sz (sF.run Try.prog [(39,qZ)] Ah 3000 20 35)=some ((sZ++((BJ sP [.i] sR)++(sD++(sa)))).map En.be,tR.map ObE.be,[]):=by kernel_rfl
theorem tI {T:Tab}(hl3:(L T 3).length≤140737488355328)(pre0:AH (I T 0) (I T 1)=true)(pre1:Bx (I T 2)=true)(pre2:((L T 3)).all Ax=true)(hS:AL T (Al (BT 0 sF.ks) sZ))(hB:Ag T (sD.map En.be))(hH:Ag T ((BJ sP [.i] sR).map En.be)):
  (sP).owes (sR.map (Rf.eval T))∧AL T (hds 4 [.i])∧(0≤I T 4∧I T 4≤((L T 3)).length∧∀q:Nat,(q:Int) < I T 4→¬sq (I T 0) (I T 1) (AA ((L T 3)) q 0) (AA ((L T 3)) q 1) < ((I T 2)+AA ((L T 3)) q 2)*((I T 2)+AA ((L T 3)) q 2))∧¬B T 16=true:=by
 refine Bl (nh:=4) (k:=1) (pcn:=16) (top:=18) (bes:=sD) (bos:=sc) (nxt:=[.e 17]) (inits:=[.c (.int 0)]) (fv:=[0,1,3,2]) (tys:=[.i]) (by kernel_rfl) rfl rfl rfl rfl hS (by kernel_rfl) (by kernel_rfl) hB (BK hH) (fun s=>0≤(aI s 0)∧(aI s 0)≤((L T 3)).length∧∀q:Nat,(q:Int) < (aI s 0)→¬sq (I T 0) (I T 1) (AA ((L T 3)) q 0) (AA ((L T 3)) q 1) < ((I T 2)+AA ((L T 3)) q 2)*((I T 2)+AA ((L T 3)) q 2)) (fun s=>(((L T 3)).length - (aI s 0)).toNat) ?_ ?_
 ·show 0≤(0:Int)∧(0:Int)≤((L T 3)).length∧∀q:Nat,(q:Int) < (0:Int)→¬sq (I T 0) (I T 1) (AA ((L T 3)) q 0) (AA ((L T 3)) q 1) < ((I T 2)+AA ((L T 3)) q 2)*((I T 2)+AA ((L T 3)) q 2)
  clear hS hB hH
  exact⟨by omega,by omega,fun q h=>absurd h (by omega)⟩
 ·intro T2 hfv hF inv
  replace inv:0≤I T2 4∧I T2 4≤((L T 3)).length∧∀q:Nat,(q:Int) < I T2 4→¬sq (I T 0) (I T 1) (AA ((L T 3)) q 0) (AA ((L T 3)) q 1) < ((I T 2)+AA ((L T 3)) q 2)*((I T 2)+AA ((L T 3)) q 2):=inv
  clear hS hB hH
  replace hF:AJ T2 sD:=hF
  have F0:=hF;clear hF
  have fv0:I T2 0=I T 0:=fvI (hfv 0 (by decide))
  have fv1:I T2 1=I T 1:=fvI (hfv 1 (by decide))
  have fv3:L T2 3=L T 3:=fvL (hfv 3 (by decide))
  have fv2:I T2 2=I T 2:=fvI (hfv 2 (by decide))
  clear hfv
  have hx:(B T2 6)=true→I T2 4 < ((L T 3)).length∧(0≤I T2 4→((B T2 14)=true↔sq (I T 0) (I T 1) (AA ((L T 3)) (I T2 4).toNat 0) (AA ((L T 3)) (I T2 4).toNat 1) < ((I T 2)+AA ((L T 3)) (I T2 4).toNat 2)*((I T 2)+AA ((L T 3)) (I T2 4).toNat 2))):=by
   obtain⟨e5,e6,-,e8,e9,e10,e11,e12,e13,e14,-⟩:=F0
   replace e12:I T2 12=(sq (I T2 0) (I T2 1) (I T2 10) (I T2 11)):=e12
   simp only[AE,zR,w2P,zL] at*
   intro hp
   have h2:=e6.1 hp
   rw[e5,fv3] at h2
   refine⟨h2,fun v1=>?_⟩
   have pr:=CN.1 pre1
   obtain⟨pq,r1,r2⟩:=C4.1 (Ck.1 pre2 (I T2 4).toNat (by omega))
   rw[fv3] at e8 e10 e11
   rw[←e8] at r1 r2
   have x9:=e9 (by omega) (by omega)
   have m3:=sqB (a:=I T2 9) (A:=32768) (by omega)
   have x13:=e13 (by omega) (by omega)
   rw[e14,e12,x13,x9,fv0,fv1,fv2,e10,e11,e8]
  suffices hz:(B T2 6=true→(-8388608≤I T2 0∧I T2 0≤8388608)∧(-8388608≤I T2 1∧I T2 1≤8388608))∧(B T2 6=true→(-8388608≤I T2 10∧I T2 10≤8388608)∧(-8388608≤I T2 11∧I T2 11≤8388608))∧(B T2 6=true→0≤I T2 4∧I T2 4 < ((L T2 3)).length)∧(B T2 6=true→0≤I T2 4∧I T2 4 < ((L T2 3)).length)∧(B T2 16=true→(0≤I T2 17∧I T2 17≤((L T 3)).length∧∀q:Nat,(q:Int) < I T2 17→¬sq (I T 0) (I T 1) (AA ((L T 3)) q 0) (AA ((L T 3)) q 1) < ((I T 2)+AA ((L T 3)) q 2)*((I T 2)+AA ((L T 3)) q 2)))∧(B T2 16=true→(((L T 3)).length - (I T2 17)).toNat < (((L T 3)).length - (I T2 4)).toNat) from
   let⟨r0,r1,r2,r3,nx,mz⟩:=hz;⟨⟨r0,r1,r2,r3,trivial⟩,fun hp=>⟨nx hp,mz hp⟩⟩
  refine⟨?_,?_,?_,?_,?_,?_⟩
  ·obtain⟨e5,e6,-⟩:=F0
   simp only[AE,zR,zL] at e5 e6
   intro hp
   obtain⟨v1,v2,v3⟩:=inv
   obtain⟨h1,-⟩:=hx hp
   obtain⟨⟨p1,p2⟩,p3,p4⟩:=Av.1 pre0
   omega
  ·obtain⟨e5,e6,-,-,-,e10,e11,-⟩:=F0
   simp only[AE,zR,zL] at*
   intro hp
   obtain⟨v1,v2,v3⟩:=inv
   obtain⟨h1,-⟩:=hx hp
   obtain⟨pq,r1,r2⟩:=C4.1 (Ck.1 pre2 (I T2 4).toNat (by omega))
   obtain⟨⟨p1,p2⟩,p3,p4⟩:=Av.1 pq
   rw[fv3] at e10 e11
   omega
  ·obtain⟨e5,e6,-⟩:=F0
   simp only[AE,zR,zL] at e5 e6
   intro hp
   obtain⟨v1,v2,v3⟩:=inv
   obtain⟨h1,-⟩:=hx hp
   rw[fv3]
   omega
  ·obtain⟨e5,e6,-⟩:=F0
   simp only[AE,zR,zL] at e5 e6
   intro hp
   obtain⟨v1,v2,v3⟩:=inv
   obtain⟨h1,-⟩:=hx hp
   rw[fv3]
   omega
  ·obtain⟨e5,e6,-,e8,e9,e10,e11,e12,e13,e14,-,e16,e17,-⟩:=F0
   replace e12:I T2 12=(sq (I T2 0) (I T2 1) (I T2 10) (I T2 11)):=e12
   simp only[AE,AF,zN,zR,w2P,zL] at*
   obtain⟨v1,v2,v3⟩:=inv
   intro hp
   have hq:=e16.1 hp
   obtain⟨h1,h2⟩:=hx hq.1
   have h2:=h2 v1
   have e:(I T2 17)=I T2 4+1:=e17 (by omega) (by omega)
   refine⟨by omega,by omega,fun q hq'=>?_⟩
   by_cases hq2:(q:Int) < I T2 4
   ·exact v3 q hq2
   obtain rfl:q=(I T2 4).toNat:=by omega
   intro hc
   have h44:=h2.2 hc
   have z:=hq.2
   simp[h44] at z
  ·obtain⟨e5,e6,-,e8,e9,e10,e11,e12,e13,e14,-,e16,e17,-⟩:=F0
   replace e12:I T2 12=(sq (I T2 0) (I T2 1) (I T2 10) (I T2 11)):=e12
   simp only[AE,AF,zN,zR,w2P,zL] at*
   obtain⟨v1,v2,v3⟩:=inv
   intro hp
   have hq:=e16.1 hp
   obtain⟨h1,h2⟩:=hx hq.1
   have e:(I T2 17)=I T2 4+1:=e17 (by omega) (by omega)
   omega
theorem tQ {T:Tab}(hl3:(L T 3).length≤140737488355328)(pre0:AH (I T 0) (I T 1)=true)(pre1:Bx (I T 2)=true)(pre2:((L T 3)).all Ax=true)(inv0:0≤I T 4∧I T 4≤((L T 3)).length∧∀q:Nat,(q:Int) < I T 4→¬sq (I T 0) (I T 1) (AA ((L T 3)) q 0) (AA ((L T 3)) q 1) < ((I T 2)+AA ((L T 3)) q 2)*((I T 2)+AA ((L T 3)) q 2))(np0:¬B T 16=true)(B0:AJ T sD)(A1:AJ T sa):
  ((B T 18)=(Ba (I T 0) (I T 1) (I T 2) (L T 3))):=by
 have F0:=B0;clear B0
 have F1:=A1;clear A1
 have hx:(B T 6)=true→I T 4 < ((L T 3)).length∧(0≤I T 4→((B T 14)=true↔sq (I T 0) (I T 1) (AA ((L T 3)) (I T 4).toNat 0) (AA ((L T 3)) (I T 4).toNat 1) < ((I T 2)+AA ((L T 3)) (I T 4).toNat 2)*((I T 2)+AA ((L T 3)) (I T 4).toNat 2))):=by
  obtain⟨e5,e6,-,e8,e9,e10,e11,e12,e13,e14,-⟩:=F0
  replace e12:I T 12=(sq (I T 0) (I T 1) (I T 10) (I T 11)):=e12
  simp only[AE,zR,w2P,zL] at*
  intro hp
  have h2:=e6.1 hp
  rw[e5] at h2
  refine⟨h2,fun v1=>?_⟩
  have pr:=CN.1 pre1
  obtain⟨pq,r1,r2⟩:=C4.1 (Ck.1 pre2 (I T 4).toNat (by omega))
  rw[←e8] at r1 r2
  have x9:=e9 (by omega) (by omega)
  have m3:=sqB (a:=I T 9) (A:=32768) (by omega)
  have x13:=e13 (by omega) (by omega)
  rw[e14,e12,x13,x9,e10,e11,e8]
 ·obtain⟨e5,e6,-,e8,e9,e10,e11,e12,e13,e14,e15,e16,-⟩:=F0
  obtain⟨e18,-⟩:=F1
  replace e12:I T 12=(sq (I T 0) (I T 1) (I T 10) (I T 11)):=e12
  simp only[AE,AF,zN,zC,zR,w2P,zL] at*
  obtain⟨v1,v2,v3⟩:=inv0
  unfold Ba
  refine Bool.eq_iff_iff.2 ?_
  rw[Ck]
  have h18:(B T 18)=true↔B T 15=false:=by rw[e18]
  rw[h18]
  constructor
  ·intro h
   have h2:¬I T 4 < ((L T 3)).length:=fun h2=>by
    have hc:(B T 6)=true:=e6.2 (by omega)
    cases k:(B T 14) with
    |true=>have z:=e15.2 ⟨hc,k⟩;simp[h] at z
    |false=>have z:=e16.2 ⟨hc,k⟩;simp[np0] at z
   intro j hj
   rw[Bool.not_eq_true',decide_eq_false_iff_not]
   exact v3 j (by omega)
  ·intro hall
   cases k:(B T 15) with
   |false=>rfl
   |true=>
    have h1:=e15.1 k
    obtain⟨h2,h3⟩:=hx h1.1
    have h4:=hall (I T 4).toNat (by omega)
    rw[Bool.not_eq_true',decide_eq_false_iff_not] at h4
    exact absurd ((h3 v1).1 h1.2) h4
theorem tL:Aq Try.prog 35 sF:=by
 refine Ai (l:=[(39,qZ)]) BX (by simp only[List.forall_mem_cons];exact⟨rE,fun _ h=>absurd h (by simp)⟩) tO (by kernel_rfl) fun T us hpre hT hul hS hBd hE=>?_
 change us.length=4 at hul
 obtain⟨-,-,-,⟨hl3,he3⟩,-⟩:=hBd
 replace hl3:(L T 3).length≤140737488355328:=hl3
 have ha0:aI us 0=I T 0:=inI hT hul (by decide)
 have ha1:aI us 1=I T 1:=inI hT hul (by decide)
 have ha2:aI us 2=I T 2:=inI hT hul (by decide)
 have ha3:aL us 3=L T 3:=inL hT hul (by decide)
 have pre0:AH (I T 0) (I T 1)=true:=by
  have h:=hpre (.s "clear.p0",rv) (by simp[sF])
  change rv us at h
  unfold rv at h
  simp only[ha0,ha1] at h
  exact h
 have pre1:Bx (I T 2)=true:=by
  have h:=hpre (.s "clear.p1",sC) (by simp[sF])
  change sC us at h
  unfold sC at h
  simp only[ha2] at h
  exact h
 have pre2:((L T 3)).all Ax=true:=by
  have h:=hpre (.s "clear.p2",sA) (by simp[sF])
  change sA us at h
  unfold sA at h
  simp only[ha3] at h
  exact h
 clear hpre
 rw[List.map_append,List.map_append,List.map_append] at hE
 have hA:=hE.left
 replace hE:=hE.right
 have hH:=hE.left
 replace hE:=hE.right
 have hB:=hE.left
 replace hE:=hE.right
 obtain⟨A0,hS1⟩:=Ac hS (by kernel_rfl) hA
 obtain⟨ow0,hS2,inv0,np0⟩:=tI hl3 pre0 pre1 pre2 hS1 hB hH
 have hF2:=(Ac (hS2.append hS1) (l:=sD) (by kernel_rfl) hB)
 obtain⟨B0,hS⟩:=hF2
 clear hA hB hH hS1 hS2
 obtain⟨A1,hO⟩:=Ar (tys:=[.b]) (rs:=sz) hS (by kernel_rfl) hE
 have q0:=tQ hl3 pre0 pre1 pre2 inv0 np0 B0 A1
 refine⟨⟨(fun _=>ow0),trivial⟩,hO.trans ?_⟩
 exact (lc (by show U.bool (B T 18)= .bool (sH us);unfold sH;rw[ha0,ha1,ha2,ha3];exact congrArg U.bool q0) rfl)
end Go.Eng
end
