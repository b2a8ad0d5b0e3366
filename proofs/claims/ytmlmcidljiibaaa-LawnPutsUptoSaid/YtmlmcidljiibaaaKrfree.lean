/-
  A part of the proof: K_rfreed K_rfree.
-/
import Derived.Test.YtmlmcidljiibaaaE3
import Derived.Test.YtmlmcidljiibaaaE4
set_option linter.unusedVariables false
set_option linter.unusedSimpArgs false
noncomputable section
open Go Go.Eng Go.Proofs
set_option maxHeartbeats 4000000
set_option maxRecDepth 100000
namespace Go.Eng
def HU:List U→Bool:=fun us=>(Ba (aI us 0) (aI us 1) (aI us 2) (aL us 3))
def Fu:List U→Prop:=fun us=>AH (aI us 0) (aI us 1)=true
def Fl:List U→Prop:=fun us=>Bx (aI us 2)=true
def GA:List U→Prop:=fun us=>((aL us 3)).all Ax=true
def FC:Ak:={ sh:=[.agg [k64,k64],.one (k64),.one (.list [k64,k64,k64])],blks:=[],outs:=[(.s "rfree.0",EK HU)],c:= .b 4,m':=[],pre:=[(.s "rfree.p0",Fu),(.s "rfree.p1",Fl),(.s "rfree.p2",GA)] }
def QR:List En:=[]
def UB:List En:=[⟨5,.len,[.e 3]⟩,
 ⟨6,.lt,[.e 4,.e 5]⟩,
 ⟨7,.not,[.e 6]⟩,
 ⟨8,.get .i 2,[.e 3,.e 4]⟩,
 ⟨9,.w2 .i64 .add,[.e 2,.e 8]⟩,
 ⟨10,.get .i 0,[.e 3,.e 4]⟩,
 ⟨11,.get .i 1,[.e 3,.e 4]⟩,
 ⟨12,.w2 .i64 .sub,[.e 0,.e 10]⟩,
 ⟨13,.w2 .i64 .sub,[.e 0,.e 10]⟩,
 ⟨14,.w2 .i64 .mul,[.e 12,.e 13]⟩,
 ⟨15,.w2 .i64 .sub,[.e 1,.e 11]⟩,
 ⟨16,.w2 .i64 .sub,[.e 1,.e 11]⟩,
 ⟨17,.w2 .i64 .mul,[.e 15,.e 16]⟩,
 ⟨18,.w2 .i64 .add,[.e 14,.e 17]⟩,
 ⟨19,.w2 .i64 .mul,[.e 9,.e 9]⟩,
 ⟨20,.lt,[.e 18,.e 19]⟩]
def Tq:List En:=[⟨21,.and,[.e 6,.e 20]⟩,
 ⟨22,.and,[.e 6,.n 20]⟩,
 ⟨23,.w2 .i64 .add,[.e 4,.c (.int 1)]⟩]
def EY:List En:=UB++(Tq)
def RF:List ObE:=[⟨some 6,.inl,[.e 4,.e 3]⟩,⟨some 6,.inl,[.e 4,.e 3]⟩]
def JH:Ae:=mkD 4 1 EY 22 [.e 23] RF [1,0,3,2]
def Li:List Rf:=[.e 1,.e 0,.e 3,.e 2,.c (.int 0)]
def Uw:List En:=[⟨24,.ite .b,[.e 21,.c (.bool false),.c (.bool true)]⟩,
 ⟨25,.or,[.e 21,.e 7]⟩]
def Q5:List En:=Uw
def cG:List ObE:=[⟨none,.owes JH,[.e 1,.e 0,.e 3,.e 2,.c (.int 0)]⟩]
def VK:List Rf:=[.e 24]
theorem bh:FC.sees VK (FC.run Try.prog [] Ah 3000 20 64)=some ((QR++((BJ JH [.i] Li)++(EY++(Q5)))).map En.be,cG.map ObE.be,[]):=by kernel_rfl
theorem YY {T:Tab}(hl3:(L T 3).length≤140737488355328)(pre0:AH (I T 0) (I T 1)=true)(pre1:Bx (I T 2)=true)(pre2:((L T 3)).all Ax=true)(hS:AL T (Al (BT 0 FC.ks) QR))(hB:Ag T (EY.map En.be))(hH:Ag T ((BJ JH [.i] Li).map En.be)):
  (JH).owes (Li.map (Rf.eval T))∧AL T (hds 4 [.i])∧(0≤I T 4∧I T 4≤((L T 3)).length∧∀q:Nat,(q:Int) < I T 4→¬sq (I T 0) (I T 1) (AA ((L T 3)) q 0) (AA ((L T 3)) q 1) < ((I T 2)+AA ((L T 3)) q 2)*((I T 2)+AA ((L T 3)) q 2))∧¬B T 22=true:=by
 refine Bl (nh:=4) (k:=1) (pcn:=22) (top:=24) (bes:=EY) (bos:=RF) (nxt:=[.e 23]) (inits:=[.c (.int 0)]) (fv:=[1,0,3,2]) (tys:=[.i]) (by kernel_rfl) rfl rfl rfl rfl hS (by kernel_rfl) (by kernel_rfl) hB (BK hH) (fun s=>0≤(aI s 0)∧(aI s 0)≤((L T 3)).length∧∀q:Nat,(q:Int) < (aI s 0)→¬sq (I T 0) (I T 1) (AA ((L T 3)) q 0) (AA ((L T 3)) q 1) < ((I T 2)+AA ((L T 3)) q 2)*((I T 2)+AA ((L T 3)) q 2)) (fun s=>(((L T 3)).length - (aI s 0)).toNat) ?_ ?_
 ·show 0≤(0:Int)∧(0:Int)≤((L T 3)).length∧∀q:Nat,(q:Int) < (0:Int)→¬sq (I T 0) (I T 1) (AA ((L T 3)) q 0) (AA ((L T 3)) q 1) < ((I T 2)+AA ((L T 3)) q 2)*((I T 2)+AA ((L T 3)) q 2)
  clear hS hB hH
  exact⟨by omega,by omega,fun q h=>absurd h (by omega)⟩
 ·intro T2 hfv hF inv
  replace inv:0≤I T2 4∧I T2 4≤((L T 3)).length∧∀q:Nat,(q:Int) < I T2 4→¬sq (I T 0) (I T 1) (AA ((L T 3)) q 0) (AA ((L T 3)) q 1) < ((I T 2)+AA ((L T 3)) q 2)*((I T 2)+AA ((L T 3)) q 2):=inv
  clear hS hB hH
  replace hF:AJ T2 EY:=hF
  obtain⟨F0,hF⟩:=hF.cut
  have F1:=hF;clear hF
  have fv1:I T2 1=I T 1:=fvI (hfv 1 (by decide))
  have fv0:I T2 0=I T 0:=fvI (hfv 0 (by decide))
  have fv3:L T2 3=L T 3:=fvL (hfv 3 (by decide))
  have fv2:I T2 2=I T 2:=fvI (hfv 2 (by decide))
  clear hfv
  have hx:(B T2 6)=true→I T2 4 < ((L T 3)).length∧(0≤I T2 4→((B T2 20)=true↔sq (I T 0) (I T 1) (AA ((L T 3)) (I T2 4).toNat 0) (AA ((L T 3)) (I T2 4).toNat 1) < ((I T 2)+AA ((L T 3)) (I T2 4).toNat 2)*((I T 2)+AA ((L T 3)) (I T2 4).toNat 2))):=by
   obtain⟨e5,e6,-,e8,e9,e10,e11,e12,e13,e14,e15,e16,e17,e18,e19,e20,-⟩:=F0
   simp only[AE,zR,w2P,zL] at*
   intro hp
   have h2:=e6.1 hp
   rw[e5,fv3] at h2
   refine⟨h2,fun v1=>?_⟩
   obtain⟨⟨p1,p2⟩,p3,p4⟩:=Av.1 pre0
   have pr:=CN.1 pre1
   have pb:=C4.1 (Ck.1 pre2 (I T2 4).toNat (by omega))
   obtain⟨pq,r1,r2⟩:=pb
   obtain⟨⟨q1,q2⟩,q3,q4⟩:=Av.1 pq
   rw[fv3] at e8 e10 e11
   rw[←e10] at q1 q2
   rw[←e11] at q3 q4
   rw[←e8] at r1 r2
   have x9:=e9 (by omega) (by omega)
   have x12:=e12 (by omega) (by omega)
   have x13:=e13 (by omega) (by omega)
   have x15:=e15 (by omega) (by omega)
   have x16:=e16 (by omega) (by omega)
   have m1:=sqB (a:=I T2 12) (A:=8388608) (by omega)
   have m2:=sqB (a:=I T2 15) (A:=8388608) (by omega)
   have m3:=sqB (a:=I T2 9) (A:=32768) (by omega)
   have y13:(I T2 13)=I T2 12:=by rw[x13,x12]
   have y16:(I T2 16)=I T2 15:=by rw[x16,x15]
   have x14:=e14 (by rw[y13];omega) (by rw[y13];omega)
   have x17:=e17 (by rw[y16];omega) (by rw[y16];omega)
   have x19:=e19 (by omega) (by omega)
   rw[y13] at x14
   rw[y16] at x17
   have x18:=e18 (by omega) (by omega)
   rw[e20,x18,x14,x17,x19]
   unfold sq
   rw[←e10,←e11,←e8,←fv0,←fv1,←fv2,←x12,←x15,←x9]
  suffices hz:(B T2 6=true→0≤I T2 4∧I T2 4 < ((L T2 3)).length)∧(B T2 6=true→0≤I T2 4∧I T2 4 < ((L T2 3)).length)∧(B T2 22=true→(0≤I T2 23∧I T2 23≤((L T 3)).length∧∀q:Nat,(q:Int) < I T2 23→¬sq (I T 0) (I T 1) (AA ((L T 3)) q 0) (AA ((L T 3)) q 1) < ((I T 2)+AA ((L T 3)) q 2)*((I T 2)+AA ((L T 3)) q 2)))∧(B T2 22=true→(((L T 3)).length - (I T2 23)).toNat < (((L T 3)).length - (I T2 4)).toNat) from
   let⟨r0,r1,nx,mz⟩:=hz;⟨⟨r0,r1,trivial⟩,fun hp=>⟨nx hp,mz hp⟩⟩
  refine⟨?_,?_,?_,?_⟩
  ·obtain⟨e5,e6,-⟩:=F0
   simp only[AE,zR,zL] at e5 e6
   obtain⟨v1,v2,v3⟩:=inv
   intro hp
   have h:=e6.1 hp
   rw[e5,fv3] at h
   rw[fv3]
   omega
  ·obtain⟨e5,e6,-⟩:=F0
   simp only[AE,zR,zL] at e5 e6
   obtain⟨v1,v2,v3⟩:=inv
   intro hp
   have h:=e6.1 hp
   rw[e5,fv3] at h
   rw[fv3]
   omega
  ·obtain⟨e5,e6,-,e8,e9,e10,e11,e12,e13,e14,e15,e16,e17,e18,e19,e20,-⟩:=F0
   obtain⟨-,e22,e23,-⟩:=F1
   simp only[AE,AF,zN,zR,w2P,zL] at*
   obtain⟨v1,v2,v3⟩:=inv
   intro hp
   have hq:=e22.1 hp
   obtain⟨h1,h2⟩:=hx hq.1
   have h2:=h2 v1
   have e:(I T2 23)=I T2 4+1:=e23 (by omega) (by omega)
   refine⟨by omega,by omega,fun q hq'=>?_⟩
   by_cases hq2:(q:Int) < I T2 4
   ·exact v3 q hq2
   obtain rfl:q=(I T2 4).toNat:=by omega
   intro hc
   have h44:=h2.2 hc
   have z:=hq.2
   simp[h44] at z
  ·obtain⟨e5,e6,-,e8,e9,e10,e11,e12,e13,e14,e15,e16,e17,e18,e19,e20,-⟩:=F0
   obtain⟨-,e22,e23,-⟩:=F1
   simp only[AE,AF,zN,zR,w2P,zL] at*
   obtain⟨v1,v2,v3⟩:=inv
   intro hp
   have hq:=e22.1 hp
   obtain⟨h1,h2⟩:=hx hq.1
   have e:(I T2 23)=I T2 4+1:=e23 (by omega) (by omega)
   omega
theorem cg {T:Tab}(hl3:(L T 3).length≤140737488355328)(pre0:AH (I T 0) (I T 1)=true)(pre1:Bx (I T 2)=true)(pre2:((L T 3)).all Ax=true)(inv0:0≤I T 4∧I T 4≤((L T 3)).length∧∀q:Nat,(q:Int) < I T 4→¬sq (I T 0) (I T 1) (AA ((L T 3)) q 0) (AA ((L T 3)) q 1) < ((I T 2)+AA ((L T 3)) q 2)*((I T 2)+AA ((L T 3)) q 2))(np0:¬B T 22=true)(B0:AJ T EY)(A1:AJ T Q5):
  ((B T 24)=(Ba (I T 0) (I T 1) (I T 2) (L T 3))):=by
 obtain⟨F0,B0⟩:=B0.cut
 have F1:=B0;clear B0
 have F2:=A1;clear A1
 have hx:(B T 6)=true→I T 4 < ((L T 3)).length∧(0≤I T 4→((B T 20)=true↔sq (I T 0) (I T 1) (AA ((L T 3)) (I T 4).toNat 0) (AA ((L T 3)) (I T 4).toNat 1) < ((I T 2)+AA ((L T 3)) (I T 4).toNat 2)*((I T 2)+AA ((L T 3)) (I T 4).toNat 2))):=by
  obtain⟨e5,e6,-,e8,e9,e10,e11,e12,e13,e14,e15,e16,e17,e18,e19,e20,-⟩:=F0
  simp only[AE,zR,w2P,zL] at*
  intro hp
  have h2:=e6.1 hp
  rw[e5] at h2
  refine⟨h2,fun v1=>?_⟩
  obtain⟨⟨p1,p2⟩,p3,p4⟩:=Av.1 pre0
  have pr:=CN.1 pre1
  have pb:=C4.1 (Ck.1 pre2 (I T 4).toNat (by omega))
  obtain⟨pq,r1,r2⟩:=pb
  obtain⟨⟨q1,q2⟩,q3,q4⟩:=Av.1 pq
  rw[←e10] at q1 q2
  rw[←e11] at q3 q4
  rw[←e8] at r1 r2
  have x9:=e9 (by omega) (by omega)
  have x12:=e12 (by omega) (by omega)
  have x13:=e13 (by omega) (by omega)
  have x15:=e15 (by omega) (by omega)
  have x16:=e16 (by omega) (by omega)
  have m1:=sqB (a:=I T 12) (A:=8388608) (by omega)
  have m2:=sqB (a:=I T 15) (A:=8388608) (by omega)
  have m3:=sqB (a:=I T 9) (A:=32768) (by omega)
  have y13:(I T 13)=I T 12:=by rw[x13,x12]
  have y16:(I T 16)=I T 15:=by rw[x16,x15]
  have x14:=e14 (by rw[y13];omega) (by rw[y13];omega)
  have x17:=e17 (by rw[y16];omega) (by rw[y16];omega)
  have x19:=e19 (by omega) (by omega)
  rw[y13] at x14
  rw[y16] at x17
  have x18:=e18 (by omega) (by omega)
  rw[e20,x18,x14,x17,x19]
  unfold sq
  rw[←e10,←e11,←e8,←x12,←x15,←x9]
 ·obtain⟨e5,e6,-,e8,e9,e10,e11,e12,e13,e14,e15,e16,e17,e18,e19,e20,-⟩:=F0
  obtain⟨e21,e22,-⟩:=F1
  obtain⟨e24,-⟩:=F2
  simp only[AE,AF,zN,zC,zR,w2P,zL] at*
  obtain⟨v1,v2,v3⟩:=inv0
  unfold Ba
  refine Bool.eq_iff_iff.2 ?_
  rw[Ck]
  have h24:(B T 24)=true↔B T 21=false:=by rw[e24]
  rw[h24]
  constructor
  ·intro h
   have h2:¬I T 4 < ((L T 3)).length:=fun h2=>by
    have hc:(B T 6)=true:=e6.2 (by omega)
    cases k:(B T 20) with
    |true=>have z:=e21.2 ⟨hc,k⟩;simp[h] at z
    |false=>have z:=e22.2 ⟨hc,k⟩;simp[np0] at z
   intro j hj
   rw[Bool.not_eq_true',decide_eq_false_iff_not]
   exact v3 j (by omega)
  ·intro hall
   cases k:(B T 21) with
   |false=>rfl
   |true=>
    have h1:=e21.1 k
    obtain⟨h2,h3⟩:=hx h1.1
    have h4:=hall (I T 4).toNat (by omega)
    rw[Bool.not_eq_true',decide_eq_false_iff_not] at h4
    exact absurd ((h3 v1).1 h1.2) h4
theorem aY:Aq Try.prog 64 FC:=by
 refine Ai (l:=[]) BX (by intro p h;exact absurd h (by simp)) bh (by kernel_rfl) fun T us hpre hT hul hS hBd hE=>?_
 change us.length=4 at hul
 obtain⟨-,-,-,⟨hl3,he3⟩,-⟩:=hBd
 replace hl3:(L T 3).length≤140737488355328:=hl3
 have ha0:aI us 0=I T 0:=inI hT hul (by decide)
 have ha1:aI us 1=I T 1:=inI hT hul (by decide)
 have ha2:aI us 2=I T 2:=inI hT hul (by decide)
 have ha3:aL us 3=L T 3:=inL hT hul (by decide)
 have pre0:AH (I T 0) (I T 1)=true:=by
  have h:=hpre (.s "rfree.p0",Fu) (by simp[FC])
  change Fu us at h
  unfold Fu at h
  simp only[ha0,ha1] at h
  exact h
 have pre1:Bx (I T 2)=true:=by
  have h:=hpre (.s "rfree.p1",Fl) (by simp[FC])
  change Fl us at h
  unfold Fl at h
  simp only[ha2] at h
  exact h
 have pre2:((L T 3)).all Ax=true:=by
  have h:=hpre (.s "rfree.p2",GA) (by simp[FC])
  change GA us at h
  unfold GA at h
  simp only[ha3] at h
  exact h
 clear hpre
 rw[List.map_append,List.map_append,List.map_append] at hE
 have hA:=hE.left
 replace hE:=hE.right
 have hH:=hE.left
 replace hE:=hE.right
 have hB:=hE.left
 replace hE:=hE.right
 obtain⟨A0,hS1⟩:=Ac hS (by kernel_rfl) hA
 obtain⟨ow0,hS2,inv0,np0⟩:=YY hl3 pre0 pre1 pre2 hS1 hB hH
 have hF2:=(Ac (hS2.append hS1) (l:=EY) (by kernel_rfl) hB)
 obtain⟨B0,hS⟩:=hF2
 clear hA hB hH hS1 hS2
 obtain⟨A1,hO⟩:=Ar (tys:=[.b]) (rs:=VK) hS (by kernel_rfl) hE
 have q0:=cg hl3 pre0 pre1 pre2 inv0 np0 B0 A1
 refine⟨⟨(fun _=>ow0),trivial⟩,hO.trans ?_⟩
 exact (lc (by show U.bool (B T 24)= .bool (HU us);unfold HU;rw[ha0,ha1,ha2,ha3];exact congrArg U.bool q0) rfl)
end Go.Eng
end
