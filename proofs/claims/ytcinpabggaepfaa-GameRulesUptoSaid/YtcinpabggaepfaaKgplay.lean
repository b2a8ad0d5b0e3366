/-
  A part of the proof: K_gplayc K_gplay.
-/
import Derived.Test.YtcinpabggaepfaaKgplayc0
import Derived.Test.YtcinpabggaepfaaKgplayc1
import Derived.Test.YtcinpabggaepfaaKgplayc2
import Derived.Test.YtcinpabggaepfaaKgplayc3
set_option linter.unusedVariables false
set_option linter.unusedSimpArgs false
noncomputable section
open Go Go.Eng Go.Proofs
set_option maxHeartbeats 4000000
set_option maxRecDepth 100000
namespace Go.Eng
theorem hY {T:Tab}(hF:AK T Bo)(k102:(B T 102)=true)(r104:(I T 104)=1∨I T 104=2∨I T 104=3∨I T 104=4)(r105:(I T 105)=0∨I T 105=1∨I T 105=2∨I T 105=3)(g:Gm)(h27:(I T 27)=AX g.code)(h30:(B T 30)=Aw g.code)(h32:(B T 32)=BI g.code)(h82:(I T 82)=Cn g)(h4:(I T 4)=g.ball)(h3:(I T 3)=g.side)(h22:(B T 22)=g.half)(hba:0≤I T 4∧I T 4≤3)(hp: -1000≤I T 85∧I T 85≤1000000000000000∧ -1000≤I T 86∧I T 86≤1000000000000000∧ -1000≤I T 87∧I T 87≤1000000000000000∧ -1000≤I T 88∧I T 88≤1000000000000000):St.mk (B T 387) (B T 385) (I T 384) (B T 386) (I T 372) (I T 373) (I T 374) (I T 375) (B T 376) (B T 377) (B T 378) (B T 379) (B T 380) (B T 381) (B T 382) (B T 383)=Br g (St.mk (B T 100) (B T 98) (I T 97) (B T 99) (I T 85) (I T 86) (I T 87) (I T 88) (B T 89) (B T 90) (B T 91) (B T 92) (B T 93) (B T 94) (B T 95) (B T 96)) (I T 104) (I T 105):=by
 rcases r104 with k104|k104|k104|k104
 ·
  rcases r105 with k105|k105|k105|k105
  ·
   exact dA hF k102 k104 k105 g ⟨h27,h30,h32,h82,h4,h3,h22,hba,hp⟩
  ·
   exact cx hF k102 k104 k105 g ⟨h27,h30,h32,h82,h4,h3,h22,hba,hp⟩
  ·
   exact de hF k102 k104 k105 g ⟨h27,h30,h32,h82,h4,h3,h22,hba,hp⟩
  ·
   exact dJ hF k102 k104 k105 g ⟨h27,h30,h32,h82,h4,h3,h22,hba,hp⟩
 ·
  rcases r105 with k105|k105|k105|k105
  ·
   exact cP hF k102 k104 k105 g ⟨h27,h30,h32,h82,h4,h3,h22,hba,hp⟩
  ·
   exact dK hF k102 k104 k105 g ⟨h27,h30,h32,h82,h4,h3,h22,hba,hp⟩
  ·
   exact dz hF k102 k104 k105 g ⟨h27,h30,h32,h82,h4,h3,h22,hba,hp⟩
  ·
   exact dD hF k102 k104 k105 g ⟨h27,h30,h32,h82,h4,h3,h22,hba,hp⟩
 ·
  rcases r105 with k105|k105|k105|k105
  ·
   exact cS hF k102 k104 k105 g ⟨h27,h30,h32,h82,h4,h3,h22,hba,hp⟩
  ·
   exact cB hF k102 k104 k105 g ⟨h27,h30,h32,h82,h4,h3,h22,hba,hp⟩
  ·
   exact Z3 hF k102 k104 k105 g ⟨h27,h30,h32,h82,h4,h3,h22,hba,hp⟩
  ·
   exact ZC hF k102 k104 k105 g ⟨h27,h30,h32,h82,h4,h3,h22,hba,hp⟩
 ·
  rcases r105 with k105|k105|k105|k105
  ·
   exact aq hF k102 k104 k105 g ⟨h27,h30,h32,h82,h4,h3,h22,hba,hp⟩
  ·
   exact aW hF k102 k104 k105 g ⟨h27,h30,h32,h82,h4,h3,h22,hba,hp⟩
  ·
   exact ZO hF k102 k104 k105 g ⟨h27,h30,h32,h82,h4,h3,h22,hba,hp⟩
  ·
   exact Zf hF k102 k104 k105 g ⟨h27,h30,h32,h82,h4,h3,h22,hba,hp⟩
theorem jd:Ev.sees bh (Ev.run Try.prog [(54,Ib)] Ba 3000 20 52)=some ((Kn++((Ek KT [.i,.i,.i,.i,.i,.b,.b,.b,.b,.b,.b,.b,.b,.i,.b,.b,.b] NN)++(Bo++(UY)))).map En.be,kC.map ObE.be,[]):=by kernel_rfl
theorem dc {T:Tab}(hl0:(L T 0).length≤140737488355328)(g:Gm)(hg:g=gT T 1)(pre0:0≤I T 1∧I T 1≤3∧I T 27=AX (I T 1)∧I T 28=Ac (I T 1)∧I T 29=Ab (I T 1)∧B T 30=Aw (I T 1)∧B T 31=Ao (I T 1)∧B T 32=BI (I T 1))(pre1:AR g=true)(pre2:Ag g=true)(pre3:BX g (L T 0)=true)(g1:Gm)(z1:g1=gT T 1)(A0:AK T Kn):
  (0≤I T 1)∧((I T 1)≤3)∧((I T 27)=AX (I T 1))∧((I T 28)=Ac (I T 1))∧((I T 29)=Ab (I T 1))∧((B T 30)=Aw (I T 1))∧((B T 31)=Ao (I T 1))∧((B T 32)=BI (I T 1))∧(g.code=I T 1)∧((I T 82)=Cn g)∧(DF g (L T 0) ((L T 0)).length)∧((I T 27)=AX g.code)∧((B T 30)=Aw g.code)∧((B T 32)=BI g.code)∧(St.mk false false (-1) false (I T 6) (I T 7) (I T 8) (I T 9) (B T 10) (B T 11) (B T 12) (B T 13) (B T 78) (B T 79) (B T 80) (B T 81)=EL g)∧(0≤I T 6∧I T 6≤13+0∧0≤I T 7∧I T 7≤13+0∧0≤I T 8∧I T 8≤13+0∧0≤I T 9∧I T 9≤13+0)∧(0≤I T 4∧I T 4≤3)∧(0≤I T 3∧I T 3≤1∧0≤I T 24)∧((I T 2)=2→0≤I T 5∧I T 5≤3)∧((I T 83)=((L T 0)).length)∧((B T 39)=true↔Ck (L T 0)=true)∧((B T 66)=true→Ck (L T 0)=false):=by
 obtain⟨F0,A0⟩:=A0.cut
 obtain⟨F1,A0⟩:=A0.cut
 obtain⟨F2,A0⟩:=A0.cut
 have F3:=A0;clear A0
 obtain⟨u0,u1,u2,u3,u4,u5,u6,u7⟩:=pre0
 have hcd:g.code=I T 1:=by rw[hg]
 have hcr:(I T 82)=Cn g:=by
  obtain⟨-,-,e67,-⟩:=F2
  obtain⟨-,e82,-⟩:=F3
  simp only[AA,AD,zR,zL] at e67 e82
  subst hg;simp only[Cn];grind
 have hev:DF g (L T 0) ((L T 0)).length:=HU.1 pre3
 have h27:(I T 27)=AX g.code:=by rw[hcd];exact u2
 have h30:(B T 30)=Aw g.code:=by rw[hcd];exact u5
 have h32:(B T 32)=BI g.code:=by rw[hcd];exact u7
 have hst:St.mk false false (-1) false (I T 6) (I T 7) (I T 8) (I T 9) (B T 10) (B T 11) (B T 12) (B T 13) (B T 78) (B T 79) (B T 80) (B T 81)=EL g:=by
  obtain⟨-,-,e67,-,e69,e70,e71,e72,e73,e74,e75,e76,-,e78,e79,e80,-⟩:=F2
  obtain⟨e81,e82,-⟩:=F3
  simp only[AA,AD,zC,zR,zL] at*
  subst hg
  simp only[EL,←hcr,St.mk.injEq,true_and,and_true]
  refine⟨?_,?_,?_,?_⟩<;>(refine AU ?_;simp only[Bool.or_eq_true,decide_eq_true_eq];grind)
 have hpb:0≤I T 6∧I T 6≤13+0∧0≤I T 7∧I T 7≤13+0∧0≤I T 8∧I T 8≤13+0∧0≤I T 9∧I T 9≤13+0:=by have h:=Jl pre1;rw[hg] at h;simp only[Nat.reduceAdd] at h;omega
 have hba:0≤I T 4∧I T 4≤3:=by have h:=(Bs pre1).2.2.1 pre2;rw[hg] at h;exact h
 have hbr:0≤I T 3∧I T 3≤1∧0≤I T 24:=by have h:=DB (Bs pre1).1;have h2:=IK pre1;rw[hg] at h h2;exact⟨h.2.2.2.2.1,h.2.2.2.2.2.1,h2⟩
 have htk:(I T 2)=2→0≤I T 5∧I T 5≤3:=by have h:=(Bs pre1).2.2.2.1;rw[hg] at h;exact h
 have h83:(I T 83)=((L T 0)).length:=by
  obtain⟨-,-,e83,-⟩:=F3
  simp only[AA,zR,zL] at e83
  exact e83
 have hflt:(B T 39)=true↔Ck (L T 0)=true:=by
  obtain⟨e33,e34,-,e36,e37,e38,e39,-⟩:=F0
  simp only[AA,AD,zR,Af,zL] at*
  simp only[Ck,Bool.and_eq_true,decide_eq_true_eq]
  have e:(I T 36).toNat=((L T 0)).length - 1:=by omega
  rw[e] at e37
  rw[e39,e34,e38,e37]
  grind
 have hnf:(B T 66)=true→Ck (L T 0)=false:=by
  obtain⟨e33,e34,-,e36,e37,e38,e39,-⟩:=F0
  obtain⟨-,e66,-⟩:=F2
  simp only[AA,AD,zR,Af,zL] at*
  intro h
  cases hb:Ck (L T 0) with
  |false=>rfl
  |true=>rw[←hflt] at hb;grind
 exact⟨u0,u1,u2,u3,u4,u5,u6,u7,hcd,hcr,hev,h27,h30,h32,hst,hpb,hba,hbr,htk,h83,hflt,hnf⟩
theorem ff {T:Tab}(hl0:(L T 0).length≤140737488355328)(g:Gm)(hg:g=gT T 1)(hcr:(I T 82)=Cn g)(hev:DF g (L T 0) ((L T 0)).length)(h27:(I T 27)=AX g.code)(h30:(B T 30)=Aw g.code)(h32:(B T 32)=BI g.code)(hst:St.mk false false (-1) false (I T 6) (I T 7) (I T 8) (I T 9) (B T 10) (B T 11) (B T 12) (B T 13) (B T 78) (B T 79) (B T 80) (B T 81)=EL g)(hpb:0≤I T 6∧I T 6≤13+0∧0≤I T 7∧I T 7≤13+0∧0≤I T 8∧I T 8≤13+0∧0≤I T 9∧I T 9≤13+0)(hba:0≤I T 4∧I T 4≤3)(h83:(I T 83)=((L T 0)).length)(hnf:(B T 66)=true→Ck (L T 0)=false)(hS:Ay T (J7 (EE 0 Ev.ks) Kn))(hB:CJ T (Bo.map En.be))(hH:CJ T ((Ek KT [.i,.i,.i,.i,.i,.b,.b,.b,.b,.b,.b,.b,.b,.i,.b,.b,.b] NN).map En.be)):
  (KT).owes (NN.map (Rf.eval T))∧Ay T (hds 84 [.i,.i,.i,.i,.i,.b,.b,.b,.b,.b,.b,.b,.b,.i,.b,.b,.b])∧(0≤I T 84∧I T 84≤((L T 0)).length∧St.mk (B T 100) (B T 98) (I T 97) (B T 99) (I T 85) (I T 86) (I T 87) (I T 88) (B T 89) (B T 90) (B T 91) (B T 92) (B T 93) (B T 94) (B T 95) (B T 96)=Cw g (L T 0) (I T 84).toNat∧(0≤I T 85∧I T 85≤13+I T 84∧0≤I T 86∧I T 86≤13+I T 84∧0≤I T 87∧I T 87≤13+I T 84∧0≤I T 88∧I T 88≤13+I T 84))∧¬B T 102=true:=by
 refine Gx (nh:=84) (k:=17) (pcn:=102) (top:=389) (bes:=Bo) (bos:=Ud) (nxt:=[.e 388,.e 372,.e 373,.e 374,.e 375,.e 376,.e 377,.e 378,.e 379,.e 380,.e 381,.e 382,.e 383,.e 384,.e 385,.e 386,.e 387]) (inits:=[.c (.int 0),.e 6,.e 7,.e 8,.e 9,.e 10,.e 11,.e 12,.e 13,.e 78,.e 79,.e 80,.e 81,.c (.int (-1)),.c (.bool false),.c (.bool false),.c (.bool false)]) (fv:=[4,82,27,32,22,3,30,0,66,83]) (tys:=[.i,.i,.i,.i,.i,.b,.b,.b,.b,.b,.b,.b,.b,.i,.b,.b,.b]) (by kernel_rfl) rfl rfl rfl rfl hS (by kernel_rfl) (by kernel_rfl) hB (Ec hH) (fun s=>0≤(aI s 0)∧(aI s 0)≤((L T 0)).length∧St.mk (aB s 16) (aB s 14) (aI s 13) (aB s 15) (aI s 1) (aI s 2) (aI s 3) (aI s 4) (aB s 5) (aB s 6) (aB s 7) (aB s 8) (aB s 9) (aB s 10) (aB s 11) (aB s 12)=Cw g (L T 0) (aI s 0).toNat∧(0≤(aI s 1)∧(aI s 1)≤13+(aI s 0)∧0≤(aI s 2)∧(aI s 2)≤13+(aI s 0)∧0≤(aI s 3)∧(aI s 3)≤13+(aI s 0)∧0≤(aI s 4)∧(aI s 4)≤13+(aI s 0))) (fun s=>(((L T 0)).length - (aI s 0)).toNat) ?_ ?_
 ·show 0≤(0:Int)∧(0:Int)≤((L T 0)).length∧St.mk (false:Bool) (false:Bool) ((-1):Int) (false:Bool) (I T 6) (I T 7) (I T 8) (I T 9) (B T 10) (B T 11) (B T 12) (B T 13) (B T 78) (B T 79) (B T 80) (B T 81)=Cw g (L T 0) (0:Int).toNat∧(0≤I T 6∧I T 6≤13+(0:Int)∧0≤I T 7∧I T 7≤13+(0:Int)∧0≤I T 8∧I T 8≤13+(0:Int)∧0≤I T 9∧I T 9≤13+(0:Int))
  clear hS hB hH
  exact⟨by omega,by omega,hst,by omega⟩
 ·intro T2 hfv hF inv
  replace inv:0≤I T2 84∧I T2 84≤((L T 0)).length∧St.mk (B T2 100) (B T2 98) (I T2 97) (B T2 99) (I T2 85) (I T2 86) (I T2 87) (I T2 88) (B T2 89) (B T2 90) (B T2 91) (B T2 92) (B T2 93) (B T2 94) (B T2 95) (B T2 96)=Cw g (L T 0) (I T2 84).toNat∧(0≤I T2 85∧I T2 85≤13+I T2 84∧0≤I T2 86∧I T2 86≤13+I T2 84∧0≤I T2 87∧I T2 87≤13+I T2 84∧0≤I T2 88∧I T2 88≤13+I T2 84):=inv
  clear hS hB hH
  replace hF:AK T2 Bo:=hF
  have hFa:=hF
  obtain⟨F0,hF⟩:=hF.cut
  obtain⟨F1,hF⟩:=hF.cut
  obtain⟨F2,hF⟩:=hF.cut
  obtain⟨F3,hF⟩:=hF.cut
  obtain⟨F4,hF⟩:=hF.cut
  obtain⟨F5,hF⟩:=hF.cut
  obtain⟨F6,hF⟩:=hF.cut
  obtain⟨F7,hF⟩:=hF.cut
  obtain⟨F8,hF⟩:=hF.cut
  obtain⟨F9,hF⟩:=hF.cut
  obtain⟨F10,hF⟩:=hF.cut
  obtain⟨F11,hF⟩:=hF.cut
  obtain⟨F12,hF⟩:=hF.cut
  obtain⟨F13,hF⟩:=hF.cut
  obtain⟨F14,hF⟩:=hF.cut
  obtain⟨F15,hF⟩:=hF.cut
  obtain⟨F16,hF⟩:=hF.cut
  have F17:=hF;clear hF
  have fv4:I T2 4=I T 4:=fvI (hfv 4 (by decide))
  have fv82:I T2 82=I T 82:=fvI (hfv 82 (by decide))
  have fv27:I T2 27=I T 27:=fvI (hfv 27 (by decide))
  have fv32:B T2 32=B T 32:=fvB (hfv 32 (by decide))
  have fv22:B T2 22=B T 22:=fvB (hfv 22 (by decide))
  have fv3:I T2 3=I T 3:=fvI (hfv 3 (by decide))
  have fv30:B T2 30=B T 30:=fvB (hfv 30 (by decide))
  have fv0:L T2 0=L T 0:=fvL (hfv 0 (by decide))
  have fv66:B T2 66=B T 66:=fvB (hfv 66 (by decide))
  have fv83:I T2 83=I T 83:=fvI (hfv 83 (by decide))
  clear hfv
  obtain⟨w1,w2,w3,w4⟩:=inv
  obtain⟨s,hs⟩:∃s:St,s=St.mk (B T2 100) (B T2 98) (I T2 97) (B T2 99) (I T2 85) (I T2 86) (I T2 87) (I T2 88) (B T2 89) (B T2 90) (B T2 91) (B T2 92) (B T2 93) (B T2 94) (B T2 95) (B T2 96):=⟨_,rfl⟩
  have w3:s=Cw g (L T 0) (I T2 84).toNat:=by rw[hs];exact w3
  have hb:(B T2 102)=true→(0≤I T2 105∧I T2 105≤3)∧(1≤I T2 104∧I T2 104≤4):=by
   obtain⟨e101,e102,-,e104,e105,-⟩:=F0
   simp only[AA,AD,zR,zL] at*
   intro h
   have h2:=hev (I T2 84).toNat
   have hlt:(I T2 84) < ((L T 0)).length:=by rw[←h83,←fv83];grind
   have h66:(B T 66)=true:=by grind
   have hn:=hnf h66
   clear hst w3 w4
   simp only[Ck,Bool.and_eq_false_iff,decide_eq_false_iff_not] at hn
   have e1:(I T2 104)=At (L T 0) (I T2 84).toNat 0:=by rw[e104,fv0]
   have e2:(I T2 105)=At (L T 0) (I T2 84).toNat 1:=by rw[e105,fv0]
   rw[←e1,←e2] at h2
   obtain⟨q1,q2,q3,q4⟩:=h2 (by omega)
   have h5:¬I T2 104=5:=fun h5=>by
    have:=q3 h5
    have e3:(I T2 84).toNat=((L T 0)).length - 1:=by omega
    rw[e3] at e1
    rcases hn with hn|hn
    ·omega
    ·exact hn (by rw[←e1];exact h5)
   refine⟨?_,q1,by omega⟩
   have q5:=(q4 h5).1
   clear q4 q3 h2 hn hnf h83 e1 e2
   simp only[inS,AY,Bool.and_eq_true,Bool.or_eq_true,decide_eq_true_eq] at q5
   omega
  clear hev hst hnf
  have c105:(B T2 102)=true→(0≤I T2 105∧I T2 105≤3)∧(1≤I T2 104∧I T2 104≤4):=by
   obtain⟨e101,e102,-,e104,e105,-⟩:=F0
   simp only[AA,AD,zR,zL] at*
   exact hb
  suffices hz:(B T2 260=true→0≤I T2 105∧I T2 105 < 4)∧(B T2 260=true→0≤I T2 105∧I T2 105 < 4)∧(B T2 260=true→0≤I T2 105∧I T2 105 < 4)∧(B T2 254=true→0≤I T2 4∧I T2 4 < 4)∧(B T2 241=true→0≤I T2 227∧I T2 227 < 4)∧(B T2 237=true→0≤I T2 227∧I T2 227 < 4)∧(B T2 225=true→0≤I T2 105∧I T2 105 < 4)∧(B T2 184=true→0≤I T2 105∧I T2 105 < 4)∧(B T2 184=true→0≤I T2 105∧I T2 105 < 4)∧(B T2 166=true→0≤I T2 105∧I T2 105 < 4)∧(B T2 166=true→0≤I T2 105∧I T2 105 < 4)∧(B T2 152=true→0≤I T2 105∧I T2 105 < 4)∧(B T2 144=true→0≤I T2 105∧I T2 105 < 4)∧(B T2 140=true→0≤I T2 4∧I T2 4 < 4)∧(B T2 133=true→¬I T2 104=0)∧(B T2 133=true→0≤I T2 104∧I T2 104 < 5)∧(B T2 102=true→0≤I T2 105∧I T2 105 < 4)∧(B T2 102=true→0≤I T2 84∧I T2 84 < ((L T2 0)).length)∧(B T2 102=true→(0≤I T2 388∧I T2 388≤((L T 0)).length∧St.mk (B T2 387) (B T2 385) (I T2 384) (B T2 386) (I T2 372) (I T2 373) (I T2 374) (I T2 375) (B T2 376) (B T2 377) (B T2 378) (B T2 379) (B T2 380) (B T2 381) (B T2 382) (B T2 383)=Cw g (L T 0) (I T2 388).toNat∧(0≤I T2 372∧I T2 372≤13+I T2 388∧0≤I T2 373∧I T2 373≤13+I T2 388∧0≤I T2 374∧I T2 374≤13+I T2 388∧0≤I T2 375∧I T2 375≤13+I T2 388)))∧(B T2 102=true→(((L T 0)).length - (I T2 388)).toNat < (((L T 0)).length - (I T2 84)).toNat) from
   let⟨r0,r1,r2,r3,r4,r5,r6,r7,r8,r9,r10,r11,r12,r13,r14,r15,r16,r17,nx,mz⟩:=hz;⟨⟨r0,r1,r2,r3,r4,r5,r6,r7,r8,r9,r10,r11,r12,r13,r14,r15,r16,r17,trivial⟩,fun hp=>⟨nx hp,mz hp⟩⟩
  refine⟨?_,?_,?_,?_,?_,?_,?_,?_,?_,?_,?_,?_,?_,?_,?_,?_,?_,?_,?_,?_⟩
  ·obtain⟨e101,e102,-,e104,-,e106,e107,e108,-,e110,e111,e112,e113,e114,-,e116,-⟩:=F0
   obtain⟨e117,e118,-,-,-,e122,-,e124,-,-,-,e128,-,-,e131,e132,-⟩:=F1
   obtain⟨e133,e134,-⟩:=F2
   obtain⟨-,e150,e151,-⟩:=F3
   obtain⟨-,-,-,-,-,-,-,-,-,-,e223,e224,e225,e226,e227,e228,-⟩:=F7
   obtain⟨e229,-,-,e232,e233,e234,e235,-,-,e238,e239,e240,-,e242,e243,e244,-⟩:=F8
   obtain⟨e245,-,e247,e248,-,e250,e251,-,e253,-,e255,e256,e257,e258,-,e260,-⟩:=F9
   simp only[AA,AD,zN,zR,AN,AM,and_false,or_false,Af,w2P,zL] at*
   grind (splits:=100)
  ·obtain⟨e101,e102,-,e104,-,e106,e107,e108,-,e110,e111,e112,e113,e114,-,e116,-⟩:=F0
   obtain⟨e117,e118,-,-,-,e122,-,e124,-,-,-,e128,-,-,e131,e132,-⟩:=F1
   obtain⟨e133,e134,-⟩:=F2
   obtain⟨-,e150,e151,-⟩:=F3
   obtain⟨-,-,-,-,-,-,-,-,-,-,e223,e224,e225,e226,e227,e228,-⟩:=F7
   obtain⟨e229,-,-,e232,e233,e234,e235,-,-,e238,e239,e240,-,e242,e243,e244,-⟩:=F8
   obtain⟨e245,-,e247,e248,-,e250,e251,-,e253,-,e255,e256,e257,e258,-,e260,-⟩:=F9
   simp only[AA,AD,zN,zR,AN,AM,and_false,or_false,Af,w2P,zL] at*
   grind (splits:=100)
  ·obtain⟨e101,e102,-,e104,-,e106,e107,e108,-,e110,e111,e112,e113,e114,-,e116,-⟩:=F0
   obtain⟨e117,e118,-,-,-,e122,-,e124,-,-,-,e128,-,-,e131,e132,-⟩:=F1
   obtain⟨e133,e134,-⟩:=F2
   obtain⟨-,e150,e151,-⟩:=F3
   obtain⟨-,-,-,-,-,-,-,-,-,-,e223,e224,e225,e226,e227,e228,-⟩:=F7
   obtain⟨e229,-,-,e232,e233,e234,e235,-,-,e238,e239,e240,-,e242,e243,e244,-⟩:=F8
   obtain⟨e245,-,e247,e248,-,e250,e251,-,e253,-,e255,e256,e257,e258,-,e260,-⟩:=F9
   simp only[AA,AD,zN,zR,AN,AM,and_false,or_false,Af,w2P,zL] at*
   grind (splits:=100)
  ·obtain⟨e101,e102,-,e104,-,e106,e107,e108,-,e110,e111,e112,e113,e114,-,e116,-⟩:=F0
   obtain⟨e117,e118,-,-,-,e122,-,e124,-,-,-,e128,-,-,e131,e132,-⟩:=F1
   obtain⟨e133,e134,-⟩:=F2
   obtain⟨-,e150,e151,-⟩:=F3
   obtain⟨-,-,-,-,-,-,-,-,-,-,e223,e224,e225,e226,e227,e228,-⟩:=F7
   obtain⟨e229,-,-,e232,e233,e234,e235,-,-,e238,e239,e240,-,e242,e243,e244,-⟩:=F8
   obtain⟨e245,-,e247,e248,-,e250,e251,e252,e253,e254,-⟩:=F9
   simp only[AA,AD,zN,zR,AN,AM,and_false,or_false,Af,w2P,zL] at*
   grind (splits:=100)
  ·obtain⟨e101,e102,-,e104,-,e106,e107,e108,-,e110,e111,e112,e113,e114,-,e116,-⟩:=F0
   obtain⟨e117,e118,-,-,-,e122,-,e124,-,-,-,e128,-,-,e131,e132,-⟩:=F1
   obtain⟨e133,e134,-⟩:=F2
   obtain⟨-,e150,e151,-⟩:=F3
   obtain⟨-,-,-,-,-,-,-,-,-,-,e223,e224,e225,e226,e227,e228,-⟩:=F7
   obtain⟨e229,-,-,e232,e233,e234,e235,e236,-,e238,e239,e240,e241,-⟩:=F8
   simp only[AA,AD,zN,zR,AN,AM,and_false,or_false,Af,w2P,zL] at*
   grind (splits:=100)
  ·obtain⟨e101,e102,-,e104,-,e106,e107,e108,-,e110,e111,e112,e113,e114,-,e116,-⟩:=F0
   obtain⟨e117,e118,-,-,-,e122,-,e124,-,-,-,e128,-,-,e131,e132,-⟩:=F1
   obtain⟨e133,e134,-⟩:=F2
   obtain⟨-,e150,e151,-⟩:=F3
   obtain⟨-,-,-,-,-,-,-,-,-,-,e223,e224,e225,e226,e227,e228,-⟩:=F7
   obtain⟨e229,-,-,e232,e233,e234,e235,e236,e237,-⟩:=F8
   simp only[AA,AD,zN,zR,AN,AM,and_false,or_false,Af,w2P,zL] at*
   grind (splits:=100)
  ·obtain⟨e101,e102,-,e104,-,e106,e107,e108,-,e110,e111,e112,e113,e114,-,e116,-⟩:=F0
   obtain⟨e117,e118,-,-,-,e122,-,e124,-,-,-,e128,-,-,e131,e132,-⟩:=F1
   obtain⟨e133,e134,-⟩:=F2
   obtain⟨-,e150,e151,-⟩:=F3
   obtain⟨-,-,-,-,-,-,-,-,-,-,e223,e224,e225,-⟩:=F7
   simp only[AA,AD,zN,zR,AN,AM,and_false,or_false,zL] at*
   grind (splits:=100)
  ·obtain⟨e101,e102,-,e104,-,e106,e107,e108,-,e110,e111,e112,e113,e114,-,e116,-⟩:=F0
   obtain⟨e117,e118,-,-,-,e122,-,e124,-,-,-,e128,-,-,e131,e132,-⟩:=F1
   obtain⟨e133,e134,-⟩:=F2
   obtain⟨-,e150,e151,e152,e153,e154,-,-,-,e158,e159,e160,e161,-,e163,e164,-⟩:=F3
   obtain⟨-,e182,e183,e184,-⟩:=F5
   simp only[AA,AD,zN,zR,AN,AM,and_false,or_false,Af,zL] at*
   grind (splits:=100)
  ·obtain⟨e101,e102,-,e104,-,e106,e107,e108,-,e110,e111,e112,e113,e114,-,e116,-⟩:=F0
   obtain⟨e117,e118,-,-,-,e122,-,e124,-,-,-,e128,-,-,e131,e132,-⟩:=F1
   obtain⟨e133,e134,-⟩:=F2
   obtain⟨-,e150,e151,e152,e153,e154,-,-,-,e158,e159,e160,e161,-,e163,e164,-⟩:=F3
   obtain⟨-,e182,e183,e184,-⟩:=F5
   simp only[AA,AD,zN,zR,AN,AM,and_false,or_false,Af,zL] at*
   grind (splits:=100)
  ·obtain⟨e101,e102,-,e104,-,e106,e107,e108,-,e110,e111,e112,e113,e114,-,e116,-⟩:=F0
   obtain⟨e117,e118,-,-,-,e122,-,e124,-,-,-,e128,-,-,e131,e132,-⟩:=F1
   obtain⟨e133,e134,-⟩:=F2
   obtain⟨-,e150,e151,e152,e153,e154,-,-,-,e158,e159,e160,e161,-,e163,e164,-⟩:=F3
   obtain⟨e165,e166,-⟩:=F4
   simp only[AA,AD,zN,zR,AN,AM,and_false,or_false,Af,zL] at*
   grind (splits:=100)
  ·obtain⟨e101,e102,-,e104,-,e106,e107,e108,-,e110,e111,e112,e113,e114,-,e116,-⟩:=F0
   obtain⟨e117,e118,-,-,-,e122,-,e124,-,-,-,e128,-,-,e131,e132,-⟩:=F1
   obtain⟨e133,e134,-⟩:=F2
   obtain⟨-,e150,e151,e152,e153,e154,-,-,-,e158,e159,e160,e161,-,e163,e164,-⟩:=F3
   obtain⟨e165,e166,-⟩:=F4
   simp only[AA,AD,zN,zR,AN,AM,and_false,or_false,Af,zL] at*
   grind (splits:=100)
  ·obtain⟨e101,e102,-,e104,-,e106,e107,e108,-,e110,e111,e112,e113,e114,-,e116,-⟩:=F0
   obtain⟨e117,e118,-,-,-,e122,-,e124,-,-,-,e128,-,-,e131,e132,-⟩:=F1
   obtain⟨e133,e134,-⟩:=F2
   obtain⟨-,e150,e151,e152,-⟩:=F3
   simp only[AA,AD,zN,zR,AN,AM,and_false,or_false,zL] at*
   grind (splits:=100)
  ·obtain⟨e101,e102,-,e104,-,e106,e107,e108,-,e110,e111,e112,e113,e114,-,e116,-⟩:=F0
   obtain⟨e117,e118,-,-,-,e122,-,e124,-,-,-,e128,-,-,e131,e132,-⟩:=F1
   obtain⟨e133,e134,e135,e136,-,e138,-,-,e141,e142,-,e144,-⟩:=F2
   simp only[AA,AD,zN,zR,AN,AM,and_false,or_false,zL] at*
   grind (splits:=100)
  ·obtain⟨e101,e102,-,e104,-,e106,e107,e108,-,e110,e111,e112,e113,e114,-,e116,-⟩:=F0
   obtain⟨e117,e118,-,-,-,e122,-,e124,-,-,-,e128,-,-,e131,e132,-⟩:=F1
   obtain⟨e133,e134,e135,e136,-,e138,-,e140,-⟩:=F2
   simp only[AA,AD,zN,zR,AN,AM,and_false,or_false,zL] at*
   grind (splits:=100)
  ·obtain⟨e101,e102,-,e104,-,e106,e107,e108,-,e110,e111,e112,e113,e114,-,e116,-⟩:=F0
   obtain⟨e117,e118,-,-,-,e122,-,e124,-,-,-,e128,-,-,e131,e132,-⟩:=F1
   obtain⟨e133,-⟩:=F2
   simp only[AA,AD,zN,zR,AN,AM,and_false,or_false,zL] at*
   grind (splits:=100)
  ·obtain⟨e101,e102,-,e104,-,e106,e107,e108,-,e110,e111,e112,e113,e114,-,e116,-⟩:=F0
   obtain⟨e117,e118,-,-,-,e122,-,e124,-,-,-,e128,-,-,e131,e132,-⟩:=F1
   obtain⟨e133,-⟩:=F2
   simp only[AA,AD,zN,zR,AN,AM,and_false,or_false,zL] at*
   grind (splits:=100)
  ·obtain⟨e101,e102,-,e104,-⟩:=F0
   simp only[AA,AD,zR,zL] at e101 e102 e104
   grind (splits:=100)
  ·clear c105
   obtain⟨e101,e102,-⟩:=F0
   simp only[AA,AD,zR] at e101 e102
   grind (splits:=100)
  ·obtain⟨e101,e102,-,e104,e105,-⟩:=F0
   obtain⟨-,-,-,-,-,-,-,-,-,-,-,-,-,-,-,e388,-⟩:=F17
   simp only[AA,AD,zR,w2P,zL] at*
   intro h98
   have hlt:(I T2 84) < ((L T 0)).length:=by rw[←h83,←fv83];grind
   have e:(I T2 388)=I T2 84+1:=e388 (by omega) (by omega)
   obtain⟨hb,hk⟩:=hb h98
   have ST:=hY (T:=T2) hFa h98 (by omega) (by omega) g (by rw[fv27];exact h27) (by rw[fv30];exact h30) (by rw[fv32];exact h32) (by rw[fv82];exact hcr) (by rw[fv4,hg]) (by rw[fv3,hg]) (by rw[fv22,hg]) (by rw[fv4];exact hba) (by omega)
   clear hFa
   refine⟨by omega,by rw[e];omega,?_,?_⟩
   ·rw[e,show ((I T2 84)+1).toNat=(I T2 84).toNat+1 by omega]
    show _=Br g (Cw g (L T 0) (I T2 84).toNat) (At (L T 0) (I T2 84).toNat 0) (At (L T 0) (I T2 84).toNat 1)
    rw[←w3,hs,←fv0,←e104,←e105]
    exact ST
   ·have z0:=congrArg St.p0 ST
    have z1:=congrArg St.p1 ST
    have z2:=congrArg St.p2 ST
    have z3:=congrArg St.p3 ST
    clear ST
    simp only[Br] at z0 z1 z2 z3
    rw[e,z0,z1,z2,z3]
    clear z0 z1 z2 z3 w3
    refine⟨?_,?_,?_,?_,?_,?_,?_,?_⟩<;>(split<;>(try split)<;>(try split)<;>omega)
  ·obtain⟨e101,e102,-⟩:=F0
   obtain⟨-,-,-,-,-,-,-,-,-,-,-,-,-,-,-,e388,-⟩:=F17
   simp only[AA,AD,zR,w2P] at e101 e102 e388
   intro h98
   have hlt:(I T2 84) < ((L T 0)).length:=by rw[←h83,←fv83];grind
   have e:(I T2 388)=I T2 84+1:=e388 (by omega) (by omega)
   omega
theorem jP {T:Tab}(hl0:(L T 0).length≤140737488355328)(g:Gm)(hg:g=gT T 1)(pre1:AR g=true)(pre2:Ag g=true)(pre3:BX g (L T 0)=true)(g1:Gm)(z1:g1=gT T 1)(u0:0≤I T 1)(u1:(I T 1)≤3)(u2:(I T 27)=AX (I T 1))(u3:(I T 28)=Ac (I T 1))(u4:(I T 29)=Ab (I T 1))(u5:(B T 30)=Aw (I T 1))(u6:(B T 31)=Ao (I T 1))(u7:(B T 32)=BI (I T 1))(hcd:g.code=I T 1)(hcr:(I T 82)=Cn g)(hev:DF g (L T 0) ((L T 0)).length)(h27:(I T 27)=AX g.code)(h30:(B T 30)=Aw g.code)(h32:(B T 32)=BI g.code)(hst:St.mk false false (-1) false (I T 6) (I T 7) (I T 8) (I T 9) (B T 10) (B T 11) (B T 12) (B T 13) (B T 78) (B T 79) (B T 80) (B T 81)=EL g)(hpb:0≤I T 6∧I T 6≤13+0∧0≤I T 7∧I T 7≤13+0∧0≤I T 8∧I T 8≤13+0∧0≤I T 9∧I T 9≤13+0)(hba:0≤I T 4∧I T 4≤3)(hbr:0≤I T 3∧I T 3≤1∧0≤I T 24)(htk:(I T 2)=2→0≤I T 5∧I T 5≤3)(h83:(I T 83)=((L T 0)).length)(hflt:(B T 39)=true↔Ck (L T 0)=true)(hnf:(B T 66)=true→Ck (L T 0)=false)(inv0:0≤I T 84∧I T 84≤((L T 0)).length∧St.mk (B T 100) (B T 98) (I T 97) (B T 99) (I T 85) (I T 86) (I T 87) (I T 88) (B T 89) (B T 90) (B T 91) (B T 92) (B T 93) (B T 94) (B T 95) (B T 96)=Cw g (L T 0) (I T 84).toNat∧(0≤I T 85∧I T 85≤13+I T 84∧0≤I T 86∧I T 86≤13+I T 84∧0≤I T 87∧I T 87≤13+I T 84∧0≤I T 88∧I T 88≤13+I T 84))(np0:¬B T 102=true)(g2:Gm)(z2:g2=Gm.mk (I T 1) (I T 2) (I T 3) (I T 4) (I T 5) (I T 85) (I T 86) (I T 87) (I T 88) (B T 89) (B T 90) (B T 91) (B T 92) (B T 93) (B T 94) (B T 95) (B T 96) (I T 18) (I T 19) (B T 20) (B T 21) (B T 22) (I T 23) (I T 24) (I T 25) (I T 26))(A0:AK T Kn)(B0:AK T Bo)(A1:AK T UY):
  (gT T 608=Ch g (L T 0))∧
  (B T 477=true→0≤I T 1∧I T 1≤3∧I T 27=AX (I T 1)∧I T 28=Ac (I T 1)∧I T 29=Ab (I T 1)∧B T 30=Aw (I T 1)∧B T 31=Ao (I T 1)∧B T 32=BI (I T 1))∧
  (B T 477=true→((I T 4)= -1∨(0≤I T 4∧I T 4≤3))∧0≤I T 3∧I T 3≤1∧0≤I T 24)∧
  (B T 442=true→0≤I T 1∧I T 1≤3∧I T 27=AX (I T 1)∧I T 28=Ac (I T 1)∧I T 29=Ab (I T 1)∧B T 30=Aw (I T 1)∧B T 31=Ao (I T 1)∧B T 32=BI (I T 1))∧
  (B T 442=true→((I T 4)= -1∨(0≤I T 4∧I T 4≤3))∧0≤I T 3∧I T 3≤1∧0≤I T 24)∧
  (B T 439=true→0≤I T 4∧I T 4 < 4)∧
  (B T 68=true→0≤I T 5∧I T 5 < 4)∧
  (B T 39=true→0≤I T 1∧I T 1≤3∧I T 27=AX (I T 1)∧I T 28=Ac (I T 1)∧I T 29=Ab (I T 1)∧B T 30=Aw (I T 1)∧B T 31=Ao (I T 1)∧B T 32=BI (I T 1))∧
  (B T 39=true→((I T 4)= -1∨(0≤I T 4∧I T 4≤3))∧0≤I T 3∧I T 3≤1∧0≤I T 24)∧
  (B T 35=true→0≤I T 36∧I T 36 < ((L T 0)).length):=by
 have hFa:=A1
 obtain⟨F0,A0⟩:=A0.cut
 obtain⟨F1,A0⟩:=A0.cut
 obtain⟨F2,A0⟩:=A0.cut
 have F3:=A0;clear A0
 obtain⟨F4,B0⟩:=B0.cut
 obtain⟨F5,B0⟩:=B0.cut
 obtain⟨F6,B0⟩:=B0.cut
 obtain⟨F7,B0⟩:=B0.cut
 obtain⟨F8,B0⟩:=B0.cut
 obtain⟨F9,B0⟩:=B0.cut
 obtain⟨F10,B0⟩:=B0.cut
 obtain⟨F11,B0⟩:=B0.cut
 obtain⟨F12,B0⟩:=B0.cut
 obtain⟨F13,B0⟩:=B0.cut
 obtain⟨F14,B0⟩:=B0.cut
 obtain⟨F15,B0⟩:=B0.cut
 obtain⟨F16,B0⟩:=B0.cut
 obtain⟨F17,B0⟩:=B0.cut
 obtain⟨F18,B0⟩:=B0.cut
 obtain⟨F19,B0⟩:=B0.cut
 obtain⟨F20,B0⟩:=B0.cut
 have F21:=B0;clear B0
 obtain⟨F22,A1⟩:=A1.cut
 obtain⟨F23,A1⟩:=A1.cut
 obtain⟨F24,A1⟩:=A1.cut
 obtain⟨F25,A1⟩:=A1.cut
 obtain⟨F26,A1⟩:=A1.cut
 obtain⟨F27,A1⟩:=A1.cut
 obtain⟨F28,A1⟩:=A1.cut
 obtain⟨F29,A1⟩:=A1.cut
 obtain⟨F30,A1⟩:=A1.cut
 obtain⟨F31,A1⟩:=A1.cut
 obtain⟨F32,A1⟩:=A1.cut
 obtain⟨F33,A1⟩:=A1.cut
 obtain⟨F34,A1⟩:=A1.cut
 obtain⟨F35,A1⟩:=A1.cut
 obtain⟨F36,A1⟩:=A1.cut
 have F37:=A1;clear A1
 obtain⟨w1,w2,w3,w4⟩:=inv0
 obtain⟨s,hs⟩:∃s:St,s=St.mk (B T 100) (B T 98) (I T 97) (B T 99) (I T 85) (I T 86) (I T 87) (I T 88) (B T 89) (B T 90) (B T 91) (B T 92) (B T 93) (B T 94) (B T 95) (B T 96):=⟨_,rfl⟩
 have w3:s=Cw g (L T 0) (I T 84).toNat:=by rw[hs];exact w3
 have hg1:g1=g:=by rw[z1,hg]
 have hg2:g2=C9 g s:=by rw[z2,hg,hs];rfl
 have hend:(B T 66)=true→I T 84=((L T 0)).length:=by
  obtain⟨e33,e34,-,e36,e37,e38,e39,-⟩:=F0
  obtain⟨-,e66,-⟩:=F2
  obtain⟨-,-,e83,-⟩:=F3
  obtain⟨e101,e102,-⟩:=F4
  simp only[AA,AD,zR,Af,zL] at*
  intro h;rw[←h83] at w2⊢;grind (splits:=60)
 have hit:(B T 66)=true→Cw g (L T 0) ((L T 0)).length=s:=by
  obtain⟨e33,e34,-,e36,e37,e38,e39,-⟩:=F0
  obtain⟨-,e66,-⟩:=F2
  simp only[AA,AD,zR,Af,zL] at*
  intro h
  rw[w3,show (I T 84).toNat=((L T 0)).length by have:=hend h;omega]
 have h66:(B T 66)=true↔¬B T 39=true:=by
  obtain⟨e33,e34,-,e36,e37,e38,e39,-⟩:=F0
  obtain⟨-,e66,-⟩:=F2
  simp only[AA,AD,zR,Af,zL] at*
  exact e66
 have h412:(B T 66)=true→((B T 412)=true↔B5 s=true):=by
  obtain⟨e33,e34,-,e36,e37,e38,e39,-⟩:=F0
  obtain⟨-,e66,-⟩:=F2
  obtain⟨-,-,e83,-⟩:=F3
  obtain⟨e101,-,e103,-⟩:=F4
  obtain⟨e389,-,e391,e392,e393,e394,e395,-,e397,e398,e399,-,-,-,e403,-⟩:=F22
  obtain⟨e405,-,-,-,e409,-,-,e412,-⟩:=F23
  simp only[AA,AD,zN,zR,Af,zL] at*
  subst hs
  intro h
  have:=hend h
  simp only[B5,Bool.and_eq_true,Bool.or_eq_true,decide_eq_true_eq]
  grind (splits:=40)
 have h434:(B T 66)=true→B T 412=true→I T 434=if (I T 85)=13∧I T 87=13 then 0 else 1:=by
  obtain⟨e33,e34,-,e36,e37,e38,e39,-⟩:=F0
  obtain⟨-,e66,-⟩:=F2
  obtain⟨-,-,e83,-⟩:=F3
  obtain⟨e101,-,e103,-⟩:=F4
  obtain⟨e389,-,e391,e392,e393,e394,e395,-,e397,e398,e399,-,-,-,e403,-⟩:=F22
  obtain⟨e405,-,-,-,e409,-,-,e412,e413,e414,-,e416,e417,e418,e419,e420,-⟩:=F23
  obtain⟨-,e422,e423,e424,-,-,-,e428,-,e430,-,-,-,e434,-⟩:=F24
  simp only[AA,AD,zN,zR,Af,zL] at*
  intro h
  have:=hend h
  grind (splits:=40)
 have h441:(B T 441)=true↔(s.over=true∨¬sIn s (I T 4)=true):=by
  obtain⟨-,-,-,e440,e441,-⟩:=F25
  simp only[AA,AD,zN,zR,AN,AM,and_false,or_false] at e440 e441
  subst hs
  simp only[sIn,AY,Bool.and_eq_true,Bool.or_eq_true,decide_eq_true_eq]
  grind (splits:=60)
 have h470:(B T 470)=true↔¬s.roquet= -1:=by
  obtain⟨-,e470,-⟩:=F27
  simp only[AA,zR] at e470
  subst hs
  exact e470
 have h475:(B T 475)=true↔(s.run=true∨¬Cn g= -1):=by
  obtain⟨-,-,e67,-⟩:=F2
  obtain⟨-,e82,-⟩:=F3
  obtain⟨-,-,-,-,-,e474,e475,-⟩:=F27
  simp only[AA,AD,zR,zL] at*
  subst hs
  rw[←hcr,e475,e474]
 have hstk:Ch g (L T 0)=if (B T 39)=true then AW g else if (B T 412)=true then { C9 g s with phase:=4,winner:=I T 434,ball:= -1,taken:= -1,d0:=false,d1:=false,d2:=false,d3:=false,half:=false,began:=0,lastb:= -1 } else if (B T 441)=true then AW (C9 g s) else if (B T 470)=true then { C9 g s with taken:=I T 97,phase:=2 } else if (B T 475)=true then { C9 g s with taken:= -1,phase:=3 } else AW (C9 g s):=by
  have er:s.roquet=I T 97:=by rw[hs]
  have ep:s.p0=I T 85∧s.p2=I T 87:=by rw[hs];exact⟨rfl,rfl⟩
  have eb:g.ball=I T 4:=by rw[hg]
  unfold Ch
  by_cases h:(B T 39)=true
  ·rw[if_pos h,if_pos (hflt.1 h)]
  ·have h':(B T 66)=true:=h66.2 h
   rw[if_neg h,if_neg (fun z=>h (hflt.2 z)),hit h']
   unfold Hg
   have a1:=h412 h'
   have a2:=h434 h'
   rw[←ep.1,←ep.2] at a2
   rw[←eb] at h441
   rw[←er]
   clear hg hs hflt hend hit h412 h434 h66
   by_cases k1:(B T 412)=true
   ·rw[if_pos k1,if_pos (a1.1 k1),a2 k1]
   ·rw[if_neg k1,if_neg (fun z=>k1 (a1.2 z))]
    by_cases k2:(B T 441)=true
    ·rw[if_pos k2,if_pos (h441.1 k2)]
    ·rw[if_neg k2,if_neg (fun z=>k2 (h441.2 z))]
     by_cases k3:(B T 470)=true
     ·rw[if_pos k3,if_pos (h470.1 k3)]
     ·rw[if_neg k3,if_neg (fun z=>k3 (h470.2 z))]
      by_cases k5:(B T 475)=true
      ·rw[if_pos k5,if_neg (by have:=h475.1 k5;rintro⟨x1,x2⟩;rcases this with h|h;exact x1 h;exact h x2)]
      ·rw[if_neg k5,if_pos (by constructor;exact fun h=>k5 (h475.2 (.inl h));exact Classical.byContradiction fun h=>k5 (h475.2 (.inr h)))]
 clear hflt hend hit h412 h434 h441 h470 h475 w3 w4 hev hst hcr
 have cr1_0:gT T 40=AW g1:=by
  obtain⟨-,-,-,-,-,-,-,e40,e41,e42,e43,e44,e45,e46,e47,e48,-⟩:=F0
  obtain⟨e49,e50,e51,e52,e53,e54,e55,e56,e57,e58,e59,e60,e61,e62,e63,e64,-⟩:=F1
  obtain⟨e65,-⟩:=F2
  rw[←show gAt 0 (BR.map (Rf.eval T))=g1 from z1.symm]
  exact Bk e40 e41 e42 e43 e44 e45 e46 e47 e48 e49 e50 e51 e52 e53 e54 e55 e56 e57 e58 e59 e60 e61 e62 e63 e64 e65
 have cr2_0:gT T 443=AW g2:=by
  obtain⟨-,-,-,-,-,-,e443,e444,e445,e446,e447,e448,e449,e450,e451,e452,-⟩:=F25
  obtain⟨e453,e454,e455,e456,e457,e458,e459,e460,e461,e462,e463,e464,e465,e466,e467,e468,-⟩:=F26
  rw[←show gAt 0 (AZ.map (Rf.eval T))=g2 from z2.symm]
  exact Bk e443 e444 e445 e446 e447 e448 e449 e450 e451 e452 e453 e454 e455 e456 e457 e458 e459 e460 e461 e462 e463 e464 e465 e466 e467 e468
 have cr2_1:gT T 478=AW g2:=by
  obtain⟨-,-,-,-,-,-,-,-,-,e478,e479,e480,e481,e482,e483,e484,-⟩:=F27
  obtain⟨e485,e486,e487,e488,e489,e490,e491,e492,e493,e494,e495,e496,e497,e498,e499,e500,-⟩:=F28
  obtain⟨e501,e502,e503,-⟩:=F29
  rw[←show gAt 0 (AZ.map (Rf.eval T))=g2 from z2.symm]
  exact Bk e478 e479 e480 e481 e482 e483 e484 e485 e486 e487 e488 e489 e490 e491 e492 e493 e494 e495 e496 e497 e498 e499 e500 e501 e502 e503
 refine⟨?_,?_,?_,?_,?_,?_,?_,?_,?_,?_⟩
 ·rw[hstk]
  clear hstk
  rcases Bool.eq_false_or_eq_true (B T 39) with k39|k39
  ·
   refine (BC (Ap (K:=[(39,.b,.c (.bool true))]) (outs:=Jp) (os:=[.e 40,.e 41,.e 42,.e 43,.e 44,.e 45,.e 46,.e 47,.e 48,.e 49,.e 50,.e 51,.e 52,.e 53,.e 54,.e 55,.e 56,.e 57,.e 58,.e 59,.e 60,.e 61,.e 62,.e 63,.e 64,.e 65]) ⟨k39,trivial⟩ hFa (by kernel_rfl))).trans ?_
   show gT T 40=_
   rw[cr1_0,if_pos k39,hg1]
  ·
   rcases Bool.eq_false_or_eq_true (B T 412) with k412|k412
   ·
    refine (BC (Ap (K:=[(39,.b,.c (.bool false)),(412,.b,.c (.bool true))]) (outs:=Jp) (os:=[.e 1,.c (.int 4),.e 3,.c (.int (-1)),.c (.int (-1)),.e 85,.e 86,.e 87,.e 88,.e 89,.e 90,.e 91,.e 92,.c (.bool false),.c (.bool false),.c (.bool false),.c (.bool false),.e 18,.e 19,.e 20,.e 21,.c (.bool false),.e 23,.c (.int 0),.c (.int (-1)),.e 434]) ⟨k39,k412,trivial⟩ hFa (by kernel_rfl))).trans ?_
    show Gm.mk (I T 1) (4) (I T 3) (-1) (-1) (I T 85) (I T 86) (I T 87) (I T 88) (B T 89) (B T 90) (B T 91) (B T 92) false false false false (I T 18) (I T 19) (B T 20) (B T 21) false (I T 23) (0) (-1) (I T 434)=_
    rw[if_neg (by rw[k39];decide),if_pos k412]
    subst hg hs
    rfl
   ·
    rcases Bool.eq_false_or_eq_true (B T 441) with k441|k441
    ·
     refine (BC (Ap (K:=[(39,.b,.c (.bool false)),(412,.b,.c (.bool false)),(441,.b,.c (.bool true))]) (outs:=Jp) (os:=[.e 443,.e 444,.e 445,.e 446,.e 447,.e 448,.e 449,.e 450,.e 451,.e 452,.e 453,.e 454,.e 455,.e 456,.e 457,.e 458,.e 459,.e 460,.e 461,.e 462,.e 463,.e 464,.e 465,.e 466,.e 467,.e 468]) ⟨k39,k412,k441,trivial⟩ hFa (by kernel_rfl))).trans ?_
     show gT T 443=_
     rw[if_neg (by rw[k39];decide),if_neg (by rw[k412];decide),if_pos k441,cr2_0,hg2]
    ·
     rcases Bool.eq_false_or_eq_true (B T 470) with k470|k470
     ·
      refine (BC (Ap (K:=[(39,.b,.c (.bool false)),(412,.b,.c (.bool false)),(441,.b,.c (.bool false)),(470,.b,.c (.bool true))]) (outs:=Jp) (os:=[.e 1,.c (.int 2),.e 3,.e 4,.e 97,.e 85,.e 86,.e 87,.e 88,.e 89,.e 90,.e 91,.e 92,.e 93,.e 94,.e 95,.e 96,.e 18,.e 19,.e 20,.e 21,.e 22,.e 23,.e 24,.e 25,.e 26]) ⟨k39,k412,k441,k470,trivial⟩ hFa (by kernel_rfl))).trans ?_
      show Gm.mk (I T 1) (2) (I T 3) (I T 4) (I T 97) (I T 85) (I T 86) (I T 87) (I T 88) (B T 89) (B T 90) (B T 91) (B T 92) (B T 93) (B T 94) (B T 95) (B T 96) (I T 18) (I T 19) (B T 20) (B T 21) (B T 22) (I T 23) (I T 24) (I T 25) (I T 26)=_
      rw[if_neg (by rw[k39];decide),if_neg (by rw[k412];decide),if_neg (by rw[k441];decide),if_pos k470,hg,hs]
      rfl
     ·
      rcases Bool.eq_false_or_eq_true (B T 475) with k475|k475
      ·
       refine (BC (Ap (K:=[(39,.b,.c (.bool false)),(412,.b,.c (.bool false)),(441,.b,.c (.bool false)),(470,.b,.c (.bool false)),(475,.b,.c (.bool true))]) (outs:=Jp) (os:=[.e 1,.c (.int 3),.e 3,.e 4,.c (.int (-1)),.e 85,.e 86,.e 87,.e 88,.e 89,.e 90,.e 91,.e 92,.e 93,.e 94,.e 95,.e 96,.e 18,.e 19,.e 20,.e 21,.e 22,.e 23,.e 24,.e 25,.e 26]) ⟨k39,k412,k441,k470,k475,trivial⟩ hFa (by kernel_rfl))).trans ?_
       show Gm.mk (I T 1) (3) (I T 3) (I T 4) (-1) (I T 85) (I T 86) (I T 87) (I T 88) (B T 89) (B T 90) (B T 91) (B T 92) (B T 93) (B T 94) (B T 95) (B T 96) (I T 18) (I T 19) (B T 20) (B T 21) (B T 22) (I T 23) (I T 24) (I T 25) (I T 26)=_
       rw[if_neg (by rw[k39];decide),if_neg (by rw[k412];decide),if_neg (by rw[k441];decide),if_neg (by rw[k470];decide),if_pos k475,hg,hs]
       rfl
      ·
       refine (BC (Ap (K:=[(39,.b,.c (.bool false)),(412,.b,.c (.bool false)),(441,.b,.c (.bool false)),(470,.b,.c (.bool false)),(475,.b,.c (.bool false))]) (outs:=Jp) (os:=[.e 478,.e 479,.e 480,.e 481,.e 482,.e 483,.e 484,.e 485,.e 486,.e 487,.e 488,.e 489,.e 490,.e 491,.e 492,.e 493,.e 494,.e 495,.e 496,.e 497,.e 498,.e 499,.e 500,.e 501,.e 502,.e 503]) ⟨k39,k412,k441,k470,k475,trivial⟩ hFa (by kernel_rfl))).trans ?_
       show gT T 478=_
       rw[if_neg (by rw[k39];decide),if_neg (by rw[k412];decide),if_neg (by rw[k441];decide),if_neg (by rw[k470];decide),if_neg (by rw[k475];decide),cr2_1,hg2]
 ·obtain⟨e33,e34,-,e36,e37,e38,e39,-⟩:=F0
  obtain⟨-,e66,e67,-⟩:=F2
  obtain⟨-,e82,e83,-⟩:=F3
  obtain⟨e101,-,e103,-⟩:=F4
  obtain⟨e389,-,e391,e392,e393,e394,e395,-,e397,e398,e399,-,-,-,e403,-⟩:=F22
  obtain⟨e405,-,-,-,e409,-,-,e412,-⟩:=F23
  obtain⟨e437,-,-,e440,e441,-⟩:=F25
  obtain⟨e469,e470,-,e472,-,e474,e475,-,e477,-⟩:=F27
  simp only[AA,AD,zN,zR,AN,AM,and_false,or_false,Af,zL] at*
  grind (splits:=100)
 ·obtain⟨e33,e34,-,e36,e37,e38,e39,-⟩:=F0
  obtain⟨-,e66,e67,-⟩:=F2
  obtain⟨-,e82,e83,-⟩:=F3
  obtain⟨e101,-,e103,-⟩:=F4
  obtain⟨e389,-,e391,e392,e393,e394,e395,-,e397,e398,e399,-,-,-,e403,-⟩:=F22
  obtain⟨e405,-,-,-,e409,-,-,e412,-⟩:=F23
  obtain⟨e437,-,-,e440,e441,-⟩:=F25
  obtain⟨e469,e470,-,e472,-,e474,e475,-,e477,-⟩:=F27
  simp only[AA,AD,zN,zR,AN,AM,and_false,or_false,Af,zL] at*
  grind (splits:=100)
 ·obtain⟨e33,e34,-,e36,e37,e38,e39,-⟩:=F0
  obtain⟨-,e66,-⟩:=F2
  obtain⟨-,-,e83,-⟩:=F3
  obtain⟨e101,-,e103,-⟩:=F4
  obtain⟨e389,-,e391,e392,e393,e394,e395,-,e397,e398,e399,-,-,-,e403,-⟩:=F22
  obtain⟨e405,-,-,-,e409,-,-,e412,-⟩:=F23
  obtain⟨e437,-,-,e440,e441,e442,-⟩:=F25
  simp only[AA,AD,zN,zR,AN,AM,and_false,or_false,Af,zL] at*
  grind (splits:=100)
 ·obtain⟨e33,e34,-,e36,e37,e38,e39,-⟩:=F0
  obtain⟨-,e66,-⟩:=F2
  obtain⟨-,-,e83,-⟩:=F3
  obtain⟨e101,-,e103,-⟩:=F4
  obtain⟨e389,-,e391,e392,e393,e394,e395,-,e397,e398,e399,-,-,-,e403,-⟩:=F22
  obtain⟨e405,-,-,-,e409,-,-,e412,-⟩:=F23
  obtain⟨e437,-,-,e440,e441,e442,-⟩:=F25
  simp only[AA,AD,zN,zR,AN,AM,and_false,or_false,Af,zL] at*
  grind (splits:=100)
 ·obtain⟨e33,e34,-,e36,e37,e38,e39,-⟩:=F0
  obtain⟨-,e66,-⟩:=F2
  obtain⟨-,-,e83,-⟩:=F3
  obtain⟨e101,-,e103,-⟩:=F4
  obtain⟨e389,-,e391,e392,e393,e394,e395,-,e397,e398,e399,-,-,-,e403,-⟩:=F22
  obtain⟨e405,-,-,-,e409,-,-,e412,-⟩:=F23
  obtain⟨e437,-,e439,-⟩:=F25
  simp only[AA,AD,zN,zR,Af,zL] at*
  grind (splits:=100)
 ·obtain⟨e33,e34,-,e36,e37,e38,e39,-⟩:=F0
  obtain⟨-,e66,e67,e68,-⟩:=F2
  simp only[AA,AD,zR,Af,zL] at*
  grind (splits:=100)
 ·obtain⟨e33,e34,-,e36,e37,e38,e39,-⟩:=F0
  simp only[AA,AD,zR,Af,zL] at*
  grind (splits:=100)
 ·obtain⟨e33,e34,-,e36,e37,e38,e39,-⟩:=F0
  simp only[AA,AD,zR,Af,zL] at*
  grind (splits:=100)
 ·obtain⟨e33,e34,e35,e36,-⟩:=F0
  simp only[AA,AD,zR,Af,zL] at*
  grind (splits:=100)
theorem iF:CA Try.prog 52 Ev:=by
 refine Bu (l:=[(54,Ib)]) C6 (by simp only[List.forall_mem_cons];exact⟨bo,fun _ h=>absurd h (by simp)⟩) jd (by kernel_rfl) fun T us hpre hT hul hS hBd hE=>?_
 change us.length=33 at hul
 obtain⟨⟨hl0,he0⟩,-⟩:=hBd
 replace hl0:(L T 0).length≤140737488355328:=hl0
 obtain⟨g,hg⟩:∃g:Gm,g=gT T 1:=⟨_,rfl⟩
 have hgu:gAt 1 us=g:=by rw[hg];exact DV hT hul (by decide)
 have ha0:aL us 0=L T 0:=inL hT hul (by decide)
 have ha1:aI us 1=I T 1:=inI hT hul (by decide)
 have ha27:aI us 27=I T 27:=inI hT hul (by decide)
 have ha28:aI us 28=I T 28:=inI hT hul (by decide)
 have ha29:aI us 29=I T 29:=inI hT hul (by decide)
 have ha30:aB us 30=B T 30:=inB hT hul (by decide)
 have ha31:aB us 31=B T 31:=inB hT hul (by decide)
 have ha32:aB us 32=B T 32:=inB hT hul (by decide)
 have pre0:0≤I T 1∧I T 1≤3∧I T 27=AX (I T 1)∧I T 28=Ac (I T 1)∧I T 29=Ab (I T 1)∧B T 30=Aw (I T 1)∧B T 31=Ao (I T 1)∧B T 32=BI (I T 1):=by
  have h:=hpre (.s "gplay.p0",JV) (by simp[Ev])
  change JV us at h
  unfold JV at h
  simp only[ha1,ha27,ha28,ha29,ha30,ha31,ha32] at h
  exact h
 have pre1:AR g=true:=by
  have h:=hpre (.s "gplay.p1",GN) (by simp[Ev])
  change GN us at h
  unfold GN at h
  simp only[hgu] at h
  exact h
 have pre2:Ag g=true:=by
  have h:=hpre (.s "gplay.p2",GH) (by simp[Ev])
  change GH us at h
  unfold GH at h
  simp only[hgu] at h
  exact h
 have pre3:BX g (L T 0)=true:=by
  have h:=hpre (.s "gplay.p3",Gh) (by simp[Ev])
  change Gh us at h
  unfold Gh at h
  simp only[hgu,ha0] at h
  exact h
 clear hpre
 rw[List.map_append,List.map_append,List.map_append] at hE
 have hA:=hE.left
 replace hE:=hE.right
 have hH:=hE.left
 replace hE:=hE.right
 have hB:=hE.left
 replace hE:=hE.right
 obtain⟨A0,hS1⟩:=Cp hS (by kernel_rfl) hA
 obtain⟨g1,z1⟩:∃g:Gm,g=gT T 1:=⟨_,rfl⟩
 obtain⟨u0,u1,u2,u3,u4,u5,u6,u7,hcd,hcr,hev,h27,h30,h32,hst,hpb,hba,hbr,htk,h83,hflt,hnf⟩:=dc hl0 g hg pre0 pre1 pre2 pre3 g1 z1 A0
 obtain⟨ow0,hS2,inv0,np0⟩:=ff hl0 g hg hcr hev h27 h30 h32 hst hpb hba h83 hnf hS1 hB hH
 have hF2:=(Cp (hS2.append hS1) (l:=Bo) (by kernel_rfl) hB)
 obtain⟨B0,hS⟩:=hF2
 clear hA hB hH hS1 hS2
 obtain⟨A1,hO⟩:=CK (tys:=[.i,.i,.i,.i,.i,.i,.i,.i,.i,.b,.b,.b,.b,.b,.b,.b,.b,.i,.i,.b,.b,.b,.i,.i,.i,.i]) (rs:=bh) hS (by kernel_rfl) hE
 obtain⟨g2,z2⟩:∃g:Gm,g=Gm.mk (I T 1) (I T 2) (I T 3) (I T 4) (I T 5) (I T 85) (I T 86) (I T 87) (I T 88) (B T 89) (B T 90) (B T 91) (B T 92) (B T 93) (B T 94) (B T 95) (B T 96) (I T 18) (I T 19) (B T 20) (B T 21) (B T 22) (I T 23) (I T 24) (I T 25) (I T 26):=⟨_,rfl⟩
 obtain⟨whole,r0,r1,r2,r3,r4,r5,r6,r7,r8⟩:=jP hl0 g hg pre1 pre2 pre3 g1 z1 u0 u1 u2 u3 u4 u5 u6 u7 hcd hcr hev h27 h30 h32 hst hpb hba hbr htk h83 hflt hnf inv0 np0 g2 z2 A0 B0 A1
 have hog:Bf us=Ch g (L T 0):=by unfold Bf;rw[hgu,ha0]
 replace whole:=whole.trans hog.symm
 refine⟨⟨r0,r1,r2,r3,r4,(fun _=>ow0),r5,r6,r7,r8,trivial⟩,hO.trans ?_⟩
 exact Ka whole rfl
end Go.Eng
end
