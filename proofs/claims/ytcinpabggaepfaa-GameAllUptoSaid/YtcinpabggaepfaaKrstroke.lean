/-
  A part of the proof: K_rstrokec K_rstroke.
-/
import Derived.Test.YtcinpabggaepfaaKrstrokec0
import Derived.Test.YtcinpabggaepfaaKrstrokec1
import Derived.Test.YtcinpabggaepfaaKrstrokec2
import Derived.Test.YtcinpabggaepfaaKrstrokec3
set_option linter.unusedVariables false
set_option linter.unusedSimpArgs false
noncomputable section
open Go Go.Eng Go.Proofs
set_option maxHeartbeats 4000000
set_option maxRecDepth 100000
namespace Go.Eng
theorem cg {T:Tab}(hF:AK T BM)(k98:(B T 98)=true)(r69:(I T 69)=1∨I T 69=2∨I T 69=3∨I T 69=4)(r68:(I T 68)=0∨I T 68=1∨I T 68=2∨I T 68=3)(a118:(I T 118)=I T 69)(h27:(I T 27)=AX (I T 0))(h30:(B T 30)=Aw (I T 0))(h32:(B T 32)=BI (I T 0))(h47:(I T 47)=Cn (gT T 0))(hba:0≤I T 3∧I T 3≤3)(hp: -1000≤I T 53∧I T 53≤1000000000000000∧ -1000≤I T 54∧I T 54≤1000000000000000∧ -1000≤I T 55∧I T 55≤1000000000000000∧ -1000≤I T 56∧I T 56≤1000000000000000):St.mk (B T 339) (B T 340) (I T 341) (B T 342) (I T 327) (I T 328) (I T 329) (I T 330) (B T 331) (B T 332) (B T 333) (B T 334) (B T 335) (B T 336) (B T 337) (B T 338)=Br (gT T 0) (St.mk (B T 48) (B T 49) (I T 50) (B T 52) (I T 53) (I T 54) (I T 55) (I T 56) (B T 57) (B T 58) (B T 59) (B T 60) (B T 61) (B T 62) (B T 63) (B T 64)) (I T 69) (I T 68):=by
 rcases r69 with k69|k69|k69|k69
 ·
  rcases r68 with k68|k68|k68|k68
  ·
   exact X5 hF k98 k69 k68 a118 ⟨h27,h30,h32,h47,hba,hp⟩
  ·
   exact YX hF k98 k69 k68 a118 ⟨h27,h30,h32,h47,hba,hp⟩
  ·
   exact YM hF k98 k69 k68 a118 ⟨h27,h30,h32,h47,hba,hp⟩
  ·
   exact WO hF k98 k69 k68 a118 ⟨h27,h30,h32,h47,hba,hp⟩
 ·
  rcases r68 with k68|k68|k68|k68
  ·
   exact WS hF k98 k69 k68 a118 ⟨h27,h30,h32,h47,hba,hp⟩
  ·
   exact Wd hF k98 k69 k68 a118 ⟨h27,h30,h32,h47,hba,hp⟩
  ·
   exact WN hF k98 k69 k68 a118 ⟨h27,h30,h32,h47,hba,hp⟩
  ·
   exact W3 hF k98 k69 k68 a118 ⟨h27,h30,h32,h47,hba,hp⟩
 ·
  rcases r68 with k68|k68|k68|k68
  ·
   exact Xr hF k98 k69 k68 a118 ⟨h27,h30,h32,h47,hba,hp⟩
  ·
   exact Xi hF k98 k69 k68 a118 ⟨h27,h30,h32,h47,hba,hp⟩
  ·
   exact Vk hF k98 k69 k68 a118 ⟨h27,h30,h32,h47,hba,hp⟩
  ·
   exact Vc hF k98 k69 k68 a118 ⟨h27,h30,h32,h47,hba,hp⟩
 ·
  rcases r68 with k68|k68|k68|k68
  ·
   exact Vl hF k98 k69 k68 a118 ⟨h27,h30,h32,h47,hba,hp⟩
  ·
   exact VL hF k98 k69 k68 a118 ⟨h27,h30,h32,h47,hba,hp⟩
  ·
   exact VH hF k98 k69 k68 a118 ⟨h27,h30,h32,h47,hba,hp⟩
  ·
   exact Vo hF k98 k69 k68 a118 ⟨h27,h30,h32,h47,hba,hp⟩
theorem fC:Dx.sees UC (Dx.run Try.prog [(43,De),(62,JS)] Ba 3000 20 61)=some ((JA++((Ek I7 [.b,.b,.i,.i,.b,.i,.i,.i,.i,.b,.b,.b,.b,.b,.b,.b,.b] Kp)++(BM++(Pm)))).map En.be,eN.map ObE.be,[]):=by kernel_rfl
theorem XM {T:Tab}(hl26:(L T 26).length≤140737488355328)(g:Gm)(hg:g=gT T 0)(pre0:AR g=true)(pre1:Ag g=true)(pre2:BX g (L T 26)=true)(A0:AK T JA):
  ((I T 47)=Cn g)∧(DF g (L T 26) ((L T 26)).length)∧((I T 27)=AX (I T 0))∧((B T 30)=Aw (I T 0))∧((B T 32)=BI (I T 0))∧(St.mk false false (-1) false (I T 5) (I T 6) (I T 7) (I T 8) (B T 9) (B T 10) (B T 11) (B T 12) (B T 43) (B T 44) (B T 45) (B T 46)=EL g)∧(0≤I T 5∧I T 5≤13+0∧0≤I T 6∧I T 6≤13+0∧0≤I T 7∧I T 7≤13+0∧0≤I T 8∧I T 8≤13+0)∧(0≤I T 3∧I T 3≤3)∧(0≤I T 2∧I T 2≤1∧0≤I T 23)∧((I T 1)=2→0≤I T 4∧I T 4≤3):=by
 obtain⟨F0,A0⟩:=A0.cut
 have F1:=A0;clear A0
 have hcr:(I T 47)=Cn g:=by
  obtain⟨-,-,-,-,-,-,e33,-⟩:=F0
  obtain⟨-,-,-,-,e47,-⟩:=F1
  simp only[AA,AD,zR,zL] at e33 e47
  subst hg;simp only[Cn];grind
 have hev:DF g (L T 26) ((L T 26)).length:=HU.1 pre2
 have h27:(I T 27)=AX (I T 0):=by
  obtain⟨e27,-⟩:=F0
  replace e27:I T 27=(AX (I T 0)):=e27
  exact e27
 have h30:(B T 30)=Aw (I T 0):=by
  obtain⟨-,-,-,e30,-⟩:=F0
  replace e30:B T 30=(Aw (I T 0)):=e30
  exact e30
 have h32:(B T 32)=BI (I T 0):=by
  obtain⟨-,-,-,-,-,e32,-⟩:=F0
  replace e32:B T 32=(BI (I T 0)):=e32
  exact e32
 have hst:St.mk false false (-1) false (I T 5) (I T 6) (I T 7) (I T 8) (B T 9) (B T 10) (B T 11) (B T 12) (B T 43) (B T 44) (B T 45) (B T 46)=EL g:=by
  obtain⟨-,-,-,-,-,-,e33,e34,e35,e36,e37,e38,e39,e40,e41,-⟩:=F0
  obtain⟨e43,e44,e45,e46,e47,-⟩:=F1
  simp only[AA,AD,zC,zR,zL] at*
  subst hg
  simp only[EL,←hcr,St.mk.injEq,true_and,and_true]
  refine⟨?_,?_,?_,?_⟩<;>(refine AU ?_;simp only[Bool.or_eq_true,decide_eq_true_eq];grind)
 have hpb:0≤I T 5∧I T 5≤13+0∧0≤I T 6∧I T 6≤13+0∧0≤I T 7∧I T 7≤13+0∧0≤I T 8∧I T 8≤13+0:=by have h:=Jl pre0;rw[hg] at h;simp only[Nat.reduceAdd] at h;omega
 have hba:0≤I T 3∧I T 3≤3:=by have h:=(Bs pre0).2.2.1 pre1;rw[hg] at h;exact h
 have hbr:0≤I T 2∧I T 2≤1∧0≤I T 23:=by have h:=DB (Bs pre0).1;have h2:=IK pre0;rw[hg] at h h2;exact⟨h.2.2.2.2.1,h.2.2.2.2.2.1,h2⟩
 have htk:(I T 1)=2→0≤I T 4∧I T 4≤3:=by have h:=(Bs pre0).2.2.2.1;rw[hg] at h;exact h
 exact⟨hcr,hev,h27,h30,h32,hst,hpb,hba,hbr,htk⟩
theorem ZK {T:Tab}(hl26:(L T 26).length≤140737488355328)(g:Gm)(hg:g=gT T 0)(hcr:(I T 47)=Cn g)(hev:DF g (L T 26) ((L T 26)).length)(h27:(I T 27)=AX (I T 0))(h30:(B T 30)=Aw (I T 0))(h32:(B T 32)=BI (I T 0))(hst:St.mk false false (-1) false (I T 5) (I T 6) (I T 7) (I T 8) (B T 9) (B T 10) (B T 11) (B T 12) (B T 43) (B T 44) (B T 45) (B T 46)=EL g)(hpb:0≤I T 5∧I T 5≤13+0∧0≤I T 6∧I T 6≤13+0∧0≤I T 7∧I T 7≤13+0∧0≤I T 8∧I T 8≤13+0)(hba:0≤I T 3∧I T 3≤3)(hbr:0≤I T 2∧I T 2≤1∧0≤I T 23)(hS:Ay T (J7 (EE 0 Dx.ks) JA))(hB:CJ T (BM.map En.be))(hH:CJ T ((Ek I7 [.b,.b,.i,.i,.b,.i,.i,.i,.i,.b,.b,.b,.b,.b,.b,.b,.b] Kp).map En.be)):
  (I7).owes (Kp.map (Rf.eval T))∧Ay T (hds 48 [.b,.b,.i,.i,.b,.i,.i,.i,.i,.b,.b,.b,.b,.b,.b,.b,.b])∧(0≤I T 51∧I T 51≤((L T 26)).length∧St.mk (B T 48) (B T 49) (I T 50) (B T 52) (I T 53) (I T 54) (I T 55) (I T 56) (B T 57) (B T 58) (B T 59) (B T 60) (B T 61) (B T 62) (B T 63) (B T 64)=Cw g (L T 26) (I T 51).toNat∧(0≤I T 53∧I T 53≤13+I T 51∧0≤I T 54∧I T 54≤13+I T 51∧0≤I T 55∧I T 55≤13+I T 51∧0≤I T 56∧I T 56≤13+I T 51)∧(∀j:Nat,(j:Int) < I T 51→¬At (L T 26) j 0=5))∧¬B T 343=true:=by
 refine Gx (nh:=48) (k:=17) (pcn:=343) (top:=345) (bes:=BM) (bos:=PL) (nxt:=[.e 339,.e 340,.e 341,.e 344,.e 342,.e 327,.e 328,.e 329,.e 330,.e 331,.e 332,.e 333,.e 334,.e 335,.e 336,.e 337,.e 338]) (inits:=[.c (.bool false),.c (.bool false),.c (.int (-1)),.c (.int 0),.c (.bool false),.e 5,.e 6,.e 7,.e 8,.e 9,.e 10,.e 11,.e 12,.e 43,.e 44,.e 45,.e 46]) (fv:=[3,47,27,32,30,26,21,2,0,1,4,5,6,7,8,9,10,11,12,13,14,15,16,17,18,19,20,22,23,24,25]) (tys:=[.b,.b,.i,.i,.b,.i,.i,.i,.i,.b,.b,.b,.b,.b,.b,.b,.b]) (by kernel_rfl) rfl rfl rfl rfl hS (by kernel_rfl) (by kernel_rfl) hB (Ec hH) (fun s=>0≤(aI s 3)∧(aI s 3)≤((L T 26)).length∧St.mk (aB s 0) (aB s 1) (aI s 2) (aB s 4) (aI s 5) (aI s 6) (aI s 7) (aI s 8) (aB s 9) (aB s 10) (aB s 11) (aB s 12) (aB s 13) (aB s 14) (aB s 15) (aB s 16)=Cw g (L T 26) (aI s 3).toNat∧(0≤(aI s 5)∧(aI s 5)≤13+(aI s 3)∧0≤(aI s 6)∧(aI s 6)≤13+(aI s 3)∧0≤(aI s 7)∧(aI s 7)≤13+(aI s 3)∧0≤(aI s 8)∧(aI s 8)≤13+(aI s 3))∧(∀j:Nat,(j:Int) < (aI s 3)→¬At (L T 26) j 0=5)) (fun s=>(((L T 26)).length - (aI s 3)).toNat) ?_ ?_
 ·show 0≤(0:Int)∧(0:Int)≤((L T 26)).length∧St.mk (false:Bool) (false:Bool) ((-1):Int) (false:Bool) (I T 5) (I T 6) (I T 7) (I T 8) (B T 9) (B T 10) (B T 11) (B T 12) (B T 43) (B T 44) (B T 45) (B T 46)=Cw g (L T 26) (0:Int).toNat∧(0≤I T 5∧I T 5≤13+(0:Int)∧0≤I T 6∧I T 6≤13+(0:Int)∧0≤I T 7∧I T 7≤13+(0:Int)∧0≤I T 8∧I T 8≤13+(0:Int))∧(∀j:Nat,(j:Int) < (0:Int)→¬At (L T 26) j 0=5)
  clear hS hB hH
  exact⟨by omega,by omega,hst,by omega,fun j hj=>absurd hj (by omega)⟩
 ·intro T2 hfv hF inv
  replace inv:0≤I T2 51∧I T2 51≤((L T 26)).length∧St.mk (B T2 48) (B T2 49) (I T2 50) (B T2 52) (I T2 53) (I T2 54) (I T2 55) (I T2 56) (B T2 57) (B T2 58) (B T2 59) (B T2 60) (B T2 61) (B T2 62) (B T2 63) (B T2 64)=Cw g (L T 26) (I T2 51).toNat∧(0≤I T2 53∧I T2 53≤13+I T2 51∧0≤I T2 54∧I T2 54≤13+I T2 51∧0≤I T2 55∧I T2 55≤13+I T2 51∧0≤I T2 56∧I T2 56≤13+I T2 51)∧(∀j:Nat,(j:Int) < I T2 51→¬At (L T 26) j 0=5):=inv
  clear hS hB hH
  replace hF:AK T2 BM:=hF
  have hFa:=hF
  obtain⟨F0,hF⟩:=hF.cut
  obtain⟨F1,hF⟩:=hF.cut
  obtain⟨F2,hF⟩:=hF.cut
  obtain⟨F3,hF⟩:=hF.cut
  obtain⟨F4,hF⟩:=hF.cut
  obtain⟨F5,hF⟩:=hF.cut
  obtain⟨F6,hF⟩:=hF.cut
  obtain⟨F7,hF⟩:=hF.cut
  obtain⟨F8,hF⟩:=hF.cut
  obtain⟨F9,hF⟩:=hF.cut
  obtain⟨F10,hF⟩:=hF.cut
  obtain⟨F11,hF⟩:=hF.cut
  obtain⟨F12,hF⟩:=hF.cut
  obtain⟨F13,hF⟩:=hF.cut
  obtain⟨F14,hF⟩:=hF.cut
  obtain⟨F15,hF⟩:=hF.cut
  obtain⟨F16,hF⟩:=hF.cut
  have F17:=hF;clear hF
  have fv3:I T2 3=I T 3:=fvI (hfv 3 (by decide))
  have fv47:I T2 47=I T 47:=fvI (hfv 47 (by decide))
  have fv27:I T2 27=I T 27:=fvI (hfv 27 (by decide))
  have fv32:B T2 32=B T 32:=fvB (hfv 32 (by decide))
  have fv30:B T2 30=B T 30:=fvB (hfv 30 (by decide))
  have fv26:L T2 26=L T 26:=fvL (hfv 26 (by decide))
  have fv21:B T2 21=B T 21:=fvB (hfv 21 (by decide))
  have fv2:I T2 2=I T 2:=fvI (hfv 2 (by decide))
  have fv0:I T2 0=I T 0:=fvI (hfv 0 (by decide))
  have fv1:I T2 1=I T 1:=fvI (hfv 1 (by decide))
  have fv4:I T2 4=I T 4:=fvI (hfv 4 (by decide))
  have fv5:I T2 5=I T 5:=fvI (hfv 5 (by decide))
  have fv6:I T2 6=I T 6:=fvI (hfv 6 (by decide))
  have fv7:I T2 7=I T 7:=fvI (hfv 7 (by decide))
  have fv8:I T2 8=I T 8:=fvI (hfv 8 (by decide))
  have fv9:B T2 9=B T 9:=fvB (hfv 9 (by decide))
  have fv10:B T2 10=B T 10:=fvB (hfv 10 (by decide))
  have fv11:B T2 11=B T 11:=fvB (hfv 11 (by decide))
  have fv12:B T2 12=B T 12:=fvB (hfv 12 (by decide))
  have fv13:B T2 13=B T 13:=fvB (hfv 13 (by decide))
  have fv14:B T2 14=B T 14:=fvB (hfv 14 (by decide))
  have fv15:B T2 15=B T 15:=fvB (hfv 15 (by decide))
  have fv16:B T2 16=B T 16:=fvB (hfv 16 (by decide))
  have fv17:I T2 17=I T 17:=fvI (hfv 17 (by decide))
  have fv18:I T2 18=I T 18:=fvI (hfv 18 (by decide))
  have fv19:B T2 19=B T 19:=fvB (hfv 19 (by decide))
  have fv20:B T2 20=B T 20:=fvB (hfv 20 (by decide))
  have fv22:I T2 22=I T 22:=fvI (hfv 22 (by decide))
  have fv23:I T2 23=I T 23:=fvI (hfv 23 (by decide))
  have fv24:I T2 24=I T 24:=fvI (hfv 24 (by decide))
  have fv25:I T2 25=I T 25:=fvI (hfv 25 (by decide))
  clear hfv
  obtain⟨g1,z1⟩:∃g:Gm,g=gT T2 0:=⟨_,rfl⟩
  have cr1_0:gT T2 72=AW g1:=by
   obtain⟨-,-,-,-,-,-,-,e72,e73,e74,e75,e76,e77,e78,e79,e80,-⟩:=F0
   obtain⟨e81,e82,e83,e84,e85,e86,e87,e88,e89,e90,e91,e92,e93,e94,e95,e96,-⟩:=F1
   obtain⟨e97,-⟩:=F2
   rw[←show gAt 0 (A3.map (Rf.eval T2))=g1 from z1.symm]
   exact Bk e72 e73 e74 e75 e76 e77 e78 e79 e80 e81 e82 e83 e84 e85 e86 e87 e88 e89 e90 e91 e92 e93 e94 e95 e96 e97
  obtain⟨w1,w2,w3,w4,w5⟩:=inv
  obtain⟨s,hs⟩:∃s:St,s=St.mk (B T2 48) (B T2 49) (I T2 50) (B T2 52) (I T2 53) (I T2 54) (I T2 55) (I T2 56) (B T2 57) (B T2 58) (B T2 59) (B T2 60) (B T2 61) (B T2 62) (B T2 63) (B T2 64):=⟨_,rfl⟩
  have w3:s=Cw g (L T 26) (I T2 51).toNat:=by rw[hs];exact w3
  have hb:(B T2 98)=true→0≤I T2 68∧I T2 68≤3:=by
   obtain⟨e65,e66,-,e68,e69,e70,-⟩:=F0
   obtain⟨-,e98,-⟩:=F2
   simp only[AA,AD,zN,zR,zL] at*
   intro h
   have h2:=hev (I T2 51).toNat
   clear hst w3 w4 w5
   subst hg
   simp only[Kw,inS,AY,Bool.and_eq_true,Bool.or_eq_true,decide_eq_true_eq] at h2
   grind (splits:=40)
  have hk:(B T2 98)=true→1≤I T2 69∧I T2 69≤4:=by
   obtain⟨e65,e66,-,-,e69,e70,-⟩:=F0
   obtain⟨-,e98,-⟩:=F2
   simp only[AA,AD,zN,zR,zL] at*
   intro h
   have h2:=hev (I T2 51).toNat
   clear hst w3 w4 w5
   subst hg
   simp only[Kw] at h2
   grind (splits:=40)
  have e118b:(I T2 118)=I T2 69:=by
   obtain⟨-,-,-,-,e69,-⟩:=F0
   obtain⟨-,-,-,-,-,e118,-⟩:=F3
   simp only[AA,zR,zL] at e69 e118
   rw[e118,e69]
  have c1098:(B T2 343)=true→B T2 98=true:=by
   clear hl26 hpb w1 w2 w3 w4 w5
   obtain⟨e65,e66,-,e68,e69,e70,-⟩:=F0
   obtain⟨-,e98,e99,-,e101,-,e103,e104,e105,-,e107,-,e109,e110,e111,e112,-⟩:=F2
   obtain⟨e113,-,e115,e116,e117,e118,e119,e120,-⟩:=F3
   obtain⟨-,-,-,-,e133,e134,e135,e136,e137,-,e139,e140,e141,-⟩:=F4
   obtain⟨-,-,-,-,-,-,-,-,-,e186,e187,e188,e189,e190,e191,e192,-⟩:=F7
   obtain⟨e193,-,e195,-,-,-,e199,e200,-,e202,e203,e204,e205,e206,e207,-⟩:=F8
   obtain⟨e209,e210,-,-,e213,-,-,e216,-,e218,e219,e220,e221,e222,-⟩:=F9
   obtain⟨-,-,-,-,-,-,-,-,-,-,-,-,e253,e254,-⟩:=F11
   obtain⟨-,e290,e291,-⟩:=F14
   obtain⟨-,-,-,e308,-⟩:=F15
   obtain⟨-,-,-,-,e325,e326,-⟩:=F16
   obtain⟨-,-,-,-,-,-,e343,-⟩:=F17
   simp only[AA,AD,zN,zR,AN,AM,and_false,or_false,Af,w2P,zL] at*
   grind (splits:=100)
  suffices hz:(B T2 222=true→0≤I T2 68∧I T2 68 < 4)∧(B T2 222=true→0≤I T2 68∧I T2 68 < 4)∧(B T2 222=true→0≤I T2 68∧I T2 68 < 4)∧(B T2 215=true→0≤I T2 3∧I T2 3 < 4)∧(B T2 188=true→0≤I T2 68∧I T2 68 < 4)∧(B T2 188=true→0≤I T2 190∧I T2 190 < 4)∧(B T2 170=true→0≤I T2 68∧I T2 68 < 4)∧(B T2 170=true→0≤I T2 68∧I T2 68 < 4)∧(B T2 146=true→0≤I T2 68∧I T2 68 < 4)∧(B T2 146=true→0≤I T2 68∧I T2 68 < 4)∧(B T2 135=true→0≤I T2 68∧I T2 68 < 4)∧(B T2 127=true→0≤I T2 68∧I T2 68 < 4)∧(B T2 124=true→0≤I T2 3∧I T2 3 < 4)∧(B T2 113=true→0≤I T2 51∧I T2 51 < ((L T2 26)).length)∧(B T2 98=true→0≤I T2 68∧I T2 68 < 4)∧(B T2 71=true→((I T2 3)= -1∨(0≤I T2 3∧I T2 3≤3))∧0≤I T2 2∧I T2 2≤1∧0≤I T2 23)∧(B T2 66=true→0≤I T2 51∧I T2 51 < ((L T2 26)).length)∧(B T2 66=true→0≤I T2 51∧I T2 51 < ((L T2 26)).length)∧(B T2 343=true→(0≤I T2 344∧I T2 344≤((L T 26)).length∧St.mk (B T2 339) (B T2 340) (I T2 341) (B T2 342) (I T2 327) (I T2 328) (I T2 329) (I T2 330) (B T2 331) (B T2 332) (B T2 333) (B T2 334) (B T2 335) (B T2 336) (B T2 337) (B T2 338)=Cw g (L T 26) (I T2 344).toNat∧(0≤I T2 327∧I T2 327≤13+I T2 344∧0≤I T2 328∧I T2 328≤13+I T2 344∧0≤I T2 329∧I T2 329≤13+I T2 344∧0≤I T2 330∧I T2 330≤13+I T2 344)∧(∀j:Nat,(j:Int) < I T2 344→¬At (L T 26) j 0=5)))∧(B T2 343=true→(((L T 26)).length - (I T2 344)).toNat < (((L T 26)).length - (I T2 51)).toNat) from
   let⟨r0,r1,r2,r3,r4,r5,r6,r7,r8,r9,r10,r11,r12,r13,r14,r15,r16,r17,nx,mz⟩:=hz;⟨⟨r0,r1,r2,r3,r4,r5,r6,r7,r8,r9,r10,r11,r12,r13,r14,r15,r16,r17,trivial⟩,fun hp=>⟨nx hp,mz hp⟩⟩
  refine⟨?_,?_,?_,?_,?_,?_,?_,?_,?_,?_,?_,?_,?_,?_,?_,?_,?_,?_,?_,?_⟩
  ·clear c1098
   obtain⟨e65,e66,-,e68,e69,e70,-⟩:=F0
   obtain⟨-,e98,e99,-,e101,-,e103,e104,e105,-,e107,-,e109,e110,e111,-⟩:=F2
   obtain⟨e113,-,e115,e116,e117,e118,e119,-⟩:=F3
   obtain⟨-,-,-,-,e133,e134,-⟩:=F4
   obtain⟨-,-,-,-,-,-,-,-,-,e186,e187,e188,e189,e190,e191,e192,-⟩:=F7
   obtain⟨e193,-,e195,-,-,-,e199,e200,-,e202,e203,e204,-,e206,e207,-⟩:=F8
   obtain⟨e209,e210,-,-,e213,-,-,e216,-,e218,e219,e220,-,e222,-⟩:=F9
   simp only[AA,AD,zN,zR,AN,AM,and_false,or_false,Af,w2P,zL] at*
   grind (splits:=100)
  ·clear c1098
   obtain⟨e65,e66,-,e68,e69,e70,-⟩:=F0
   obtain⟨-,e98,e99,-,e101,-,e103,e104,e105,-,e107,-,e109,e110,e111,-⟩:=F2
   obtain⟨e113,-,e115,e116,e117,e118,e119,-⟩:=F3
   obtain⟨-,-,-,-,e133,e134,-⟩:=F4
   obtain⟨-,-,-,-,-,-,-,-,-,e186,e187,e188,e189,e190,e191,e192,-⟩:=F7
   obtain⟨e193,-,e195,-,-,-,e199,e200,-,e202,e203,e204,-,e206,e207,-⟩:=F8
   obtain⟨e209,e210,-,-,e213,-,-,e216,-,e218,e219,e220,-,e222,-⟩:=F9
   simp only[AA,AD,zN,zR,AN,AM,and_false,or_false,Af,w2P,zL] at*
   grind (splits:=100)
  ·clear c1098
   obtain⟨e65,e66,-,e68,e69,e70,-⟩:=F0
   obtain⟨-,e98,e99,-,e101,-,e103,e104,e105,-,e107,-,e109,e110,e111,-⟩:=F2
   obtain⟨e113,-,e115,e116,e117,e118,e119,-⟩:=F3
   obtain⟨-,-,-,-,e133,e134,-⟩:=F4
   obtain⟨-,-,-,-,-,-,-,-,-,e186,e187,e188,e189,e190,e191,e192,-⟩:=F7
   obtain⟨e193,-,e195,-,-,-,e199,e200,-,e202,e203,e204,-,e206,e207,-⟩:=F8
   obtain⟨e209,e210,-,-,e213,-,-,e216,-,e218,e219,e220,-,e222,-⟩:=F9
   simp only[AA,AD,zN,zR,AN,AM,and_false,or_false,Af,w2P,zL] at*
   grind (splits:=100)
  ·clear c1098
   obtain⟨e65,e66,-,e68,e69,e70,-⟩:=F0
   obtain⟨-,e98,e99,-,e101,-,e103,e104,e105,-,e107,-,e109,e110,e111,-⟩:=F2
   obtain⟨e113,-,e115,e116,e117,e118,e119,-⟩:=F3
   obtain⟨-,-,-,-,e133,e134,-⟩:=F4
   obtain⟨-,-,-,-,-,-,-,-,-,e186,e187,e188,e189,e190,e191,e192,-⟩:=F7
   obtain⟨e193,-,e195,-,-,-,e199,e200,-,e202,e203,e204,-,e206,e207,-⟩:=F8
   obtain⟨e209,e210,-,e212,e213,-,e215,-⟩:=F9
   simp only[AA,AD,zN,zR,AN,AM,and_false,or_false,Af,w2P,zL] at*
   grind (splits:=100)
  ·clear c1098
   obtain⟨e65,e66,-,e68,e69,e70,-⟩:=F0
   obtain⟨-,e98,e99,-,e101,-,e103,e104,e105,-,e107,-,e109,e110,e111,-⟩:=F2
   obtain⟨e113,-,-,-,-,e118,e119,-⟩:=F3
   obtain⟨-,-,-,-,e133,e134,-⟩:=F4
   obtain⟨-,-,-,-,-,-,-,-,-,e186,e187,e188,-⟩:=F7
   simp only[AA,AD,zN,zR,AN,AM,and_false,or_false,zL] at*
   grind (splits:=100)
  ·clear c1098
   obtain⟨e65,e66,-,e68,e69,e70,-⟩:=F0
   obtain⟨-,e98,e99,-,e101,-,e103,e104,e105,-,e107,-,e109,e110,e111,-⟩:=F2
   obtain⟨e113,-,-,-,-,e118,e119,-⟩:=F3
   obtain⟨-,-,-,-,e133,e134,-⟩:=F4
   obtain⟨-,-,-,-,-,-,-,-,-,e186,e187,e188,e189,e190,-⟩:=F7
   simp only[AA,AD,zN,zR,AN,AM,and_false,or_false,Af,w2P,zL] at*
   grind (splits:=100)
  ·clear c1098
   obtain⟨e65,e66,-,e68,e69,e70,-⟩:=F0
   obtain⟨-,e98,e99,-,e101,-,e103,e104,e105,-,e107,-,e109,e110,e111,-⟩:=F2
   obtain⟨e113,-,e115,e116,e117,e118,e119,-⟩:=F3
   obtain⟨-,-,-,-,e133,e134,e135,e136,e137,-,e139,-,e141,-⟩:=F4
   obtain⟨-,-,-,-,-,-,e167,-,e169,e170,-⟩:=F6
   simp only[AA,AD,zN,zR,AN,AM,and_false,or_false,Af,zL] at*
   grind (splits:=100)
  ·clear c1098
   obtain⟨e65,e66,-,e68,e69,e70,-⟩:=F0
   obtain⟨-,e98,e99,-,e101,-,e103,e104,e105,-,e107,-,e109,e110,e111,-⟩:=F2
   obtain⟨e113,-,e115,e116,e117,e118,e119,-⟩:=F3
   obtain⟨-,-,-,-,e133,e134,e135,e136,e137,-,e139,-,e141,-⟩:=F4
   obtain⟨-,-,-,-,-,-,e167,-,e169,e170,-⟩:=F6
   simp only[AA,AD,zN,zR,AN,AM,and_false,or_false,Af,zL] at*
   grind (splits:=100)
  ·clear c1098
   obtain⟨e65,e66,-,e68,e69,e70,-⟩:=F0
   obtain⟨-,e98,e99,-,e101,-,e103,e104,e105,-,e107,-,e109,e110,e111,-⟩:=F2
   obtain⟨e113,-,e115,e116,e117,e118,e119,-⟩:=F3
   obtain⟨-,-,-,-,e133,e134,e135,e136,e137,-,e139,-,e141,e142,-,e144,-⟩:=F4
   obtain⟨e145,e146,-⟩:=F5
   simp only[AA,AD,zN,zR,AN,AM,and_false,or_false,Af,zL] at*
   grind (splits:=100)
  ·clear c1098
   obtain⟨e65,e66,-,e68,e69,e70,-⟩:=F0
   obtain⟨-,e98,e99,-,e101,-,e103,e104,e105,-,e107,-,e109,e110,e111,-⟩:=F2
   obtain⟨e113,-,e115,e116,e117,e118,e119,-⟩:=F3
   obtain⟨-,-,-,-,e133,e134,e135,e136,e137,-,e139,-,e141,e142,-,e144,-⟩:=F4
   obtain⟨e145,e146,-⟩:=F5
   simp only[AA,AD,zN,zR,AN,AM,and_false,or_false,Af,zL] at*
   grind (splits:=100)
  ·clear c1098
   obtain⟨e65,e66,-,e68,e69,e70,-⟩:=F0
   obtain⟨-,e98,e99,-,e101,-,e103,e104,e105,-,e107,-,e109,e110,e111,-⟩:=F2
   obtain⟨e113,-,-,-,-,e118,e119,-⟩:=F3
   obtain⟨-,-,-,-,e133,e134,e135,-⟩:=F4
   simp only[AA,AD,zN,zR,AN,AM,and_false,or_false,zL] at*
   grind (splits:=100)
  ·clear c1098
   obtain⟨e65,e66,-,e68,e69,e70,-⟩:=F0
   obtain⟨-,e98,e99,-,e101,-,e103,e104,e105,-,e107,-,e109,e110,e111,-⟩:=F2
   obtain⟨e113,-,-,-,-,e118,e119,e120,e121,-,e123,-,e125,e126,e127,-⟩:=F3
   simp only[AA,AD,zN,zR,AN,AM,and_false,or_false,zL] at*
   grind (splits:=100)
  ·clear c1098
   obtain⟨e65,e66,-,e68,e69,e70,-⟩:=F0
   obtain⟨-,e98,e99,-,e101,-,e103,e104,e105,-,e107,-,e109,e110,e111,-⟩:=F2
   obtain⟨e113,-,-,-,-,e118,e119,e120,e121,-,e123,e124,-⟩:=F3
   simp only[AA,AD,zN,zR,AN,AM,and_false,or_false,zL] at*
   grind (splits:=100)
  ·clear c1098
   obtain⟨e65,e66,-,e68,e69,e70,-⟩:=F0
   obtain⟨-,e98,e99,-,e101,-,e103,e104,e105,-,e107,-,e109,e110,e111,-⟩:=F2
   obtain⟨e113,-⟩:=F3
   simp only[AA,AD,zN,zR,AN,AM,and_false,or_false,zL] at*
   grind (splits:=100)
  ·clear c1098
   obtain⟨e65,e66,-,e68,e69,e70,-⟩:=F0
   obtain⟨-,e98,-⟩:=F2
   simp only[AA,AD,zN,zR,zL] at*
   grind (splits:=100)
  ·clear c1098
   obtain⟨e65,e66,-,-,e69,e70,e71,-⟩:=F0
   simp only[AA,AD,zR,zL] at*
   grind (splits:=100)
  ·clear c1098
   obtain⟨e65,e66,-⟩:=F0
   simp only[AA,zR,zL] at e65 e66
   grind (splits:=100)
  ·clear c1098
   obtain⟨e65,e66,-⟩:=F0
   simp only[AA,zR,zL] at e65 e66
   grind (splits:=100)
  ·obtain⟨e65,e66,-,e68,e69,e70,-⟩:=F0
   obtain⟨-,e98,-⟩:=F2
   obtain⟨-,-,-,-,-,-,-,e344,-⟩:=F17
   simp only[AA,AD,zN,zR,w2P,zL] at*
   intro hp
   have h98:=c1098 hp
   have hlt:(I T2 51) < (L T 26).length:=by rw[←fv26];grind
   have e:(I T2 344)=I T2 51+1:=e344 (by omega) (by omega)
   have hb:=hb h98
   have hk:=hk h98
   have hgT:gT T2 0=g:=by simp only[gT,Nat.reduceAdd,fv0,fv1,fv2,fv3,fv4,fv5,fv6,fv7,fv8,fv9,fv10,fv11,fv12,fv13,fv14,fv15,fv16,fv17,fv18,fv19,fv20,fv21,fv22,fv23,fv24,fv25];exact hg.symm
   have ST:=cg (T:=T2) hFa h98 (by omega) (by omega) e118b (by rw[fv27,fv0];exact h27) (by rw[fv30,fv0];exact h30) (by rw[fv32,fv0];exact h32) (by rw[fv47,hgT];exact hcr) (by rw[fv3];exact hba) (by omega)
   clear hFa
   refine⟨by omega,by rw[e];omega,?_,?_,?_⟩
   ·rw[e,show ((I T2 51)+1).toNat=(I T2 51).toNat+1 by omega]
    show _=Br g (Cw g (L T 26) (I T2 51).toNat) (At (L T 26) (I T2 51).toNat 0) (At (L T 26) (I T2 51).toNat 1)
    rw[←w3,hs,←fv26,←e69,←e68,←hgT]
    exact ST
   ·have z0:=congrArg St.p0 ST
    have z1:=congrArg St.p1 ST
    have z2:=congrArg St.p2 ST
    have z3:=congrArg St.p3 ST
    clear ST
    simp only[Br] at z0 z1 z2 z3
    rw[e,z0,z1,z2,z3]
    clear z0 z1 z2 z3 w3 w5 hev hst
    refine⟨?_,?_,?_,?_,?_,?_,?_,?_⟩<;>(split<;>(try split)<;>(try split)<;>omega)
   ·intro j hj
    by_cases h:(j:Int) < I T2 51
    ·exact w5 j h
    ·obtain rfl:j=(I T2 51).toNat:=by omega
     rw[←fv26,←e69];omega
  ·obtain⟨e65,e66,-⟩:=F0
   obtain⟨-,e98,-⟩:=F2
   obtain⟨-,-,-,-,-,-,-,e344,-⟩:=F17
   simp only[AA,AD,zN,zR,w2P,zL] at*
   intro hp
   have h98:=c1098 hp
   have hlt:(I T2 51) < (L T 26).length:=by rw[←fv26];grind
   have e:(I T2 344)=I T2 51+1:=e344 (by omega) (by omega)
   omega
theorem fH {T:Tab}(hl26:(L T 26).length≤140737488355328)(g:Gm)(hg:g=gT T 0)(pre0:AR g=true)(pre1:Ag g=true)(pre2:BX g (L T 26)=true)(hcr:(I T 47)=Cn g)(hev:DF g (L T 26) ((L T 26)).length)(h27:(I T 27)=AX (I T 0))(h30:(B T 30)=Aw (I T 0))(h32:(B T 32)=BI (I T 0))(hst:St.mk false false (-1) false (I T 5) (I T 6) (I T 7) (I T 8) (B T 9) (B T 10) (B T 11) (B T 12) (B T 43) (B T 44) (B T 45) (B T 46)=EL g)(hpb:0≤I T 5∧I T 5≤13+0∧0≤I T 6∧I T 6≤13+0∧0≤I T 7∧I T 7≤13+0∧0≤I T 8∧I T 8≤13+0)(hba:0≤I T 3∧I T 3≤3)(hbr:0≤I T 2∧I T 2≤1∧0≤I T 23)(htk:(I T 1)=2→0≤I T 4∧I T 4≤3)(inv0:0≤I T 51∧I T 51≤((L T 26)).length∧St.mk (B T 48) (B T 49) (I T 50) (B T 52) (I T 53) (I T 54) (I T 55) (I T 56) (B T 57) (B T 58) (B T 59) (B T 60) (B T 61) (B T 62) (B T 63) (B T 64)=Cw g (L T 26) (I T 51).toNat∧(0≤I T 53∧I T 53≤13+I T 51∧0≤I T 54∧I T 54≤13+I T 51∧0≤I T 55∧I T 55≤13+I T 51∧0≤I T 56∧I T 56≤13+I T 51)∧(∀j:Nat,(j:Int) < I T 51→¬At (L T 26) j 0=5))(np0:¬B T 343=true)(g2:Gm)(z2:g2=gT T 0)(g3:Gm)(z3:g3=Gm.mk (I T 0) (I T 1) (I T 2) (I T 3) (I T 4) (I T 53) (I T 54) (I T 55) (I T 56) (B T 57) (B T 58) (B T 59) (B T 60) (B T 61) (B T 62) (B T 63) (B T 64) (I T 17) (I T 18) (B T 19) (B T 20) (B T 21) (I T 22) (I T 23) (I T 24) (I T 25))(A0:AK T JA)(B0:AK T BM)(A1:AK T Pm):
  (gT T 555=Ch g (L T 26))∧
  (B T 399=true→((I T 3)= -1∨(0≤I T 3∧I T 3≤3))∧0≤I T 2∧I T 2≤1∧0≤I T 23)∧
  (B T 365=true→((I T 3)= -1∨(0≤I T 3∧I T 3≤3))∧0≤I T 2∧I T 2≤1∧0≤I T 23)∧
  (B T 362=true→0≤I T 3∧I T 3 < 4)∧
  (B T 33=true→0≤I T 4∧I T 4 < 4):=by
 have hFa:=A1
 obtain⟨F0,A0⟩:=A0.cut
 have F1:=A0;clear A0
 obtain⟨F2,B0⟩:=B0.cut
 obtain⟨F3,B0⟩:=B0.cut
 obtain⟨F4,B0⟩:=B0.cut
 obtain⟨F5,B0⟩:=B0.cut
 obtain⟨F6,B0⟩:=B0.cut
 obtain⟨F7,B0⟩:=B0.cut
 obtain⟨F8,B0⟩:=B0.cut
 obtain⟨F9,B0⟩:=B0.cut
 obtain⟨F10,B0⟩:=B0.cut
 obtain⟨F11,B0⟩:=B0.cut
 obtain⟨F12,B0⟩:=B0.cut
 obtain⟨F13,B0⟩:=B0.cut
 obtain⟨F14,B0⟩:=B0.cut
 obtain⟨F15,B0⟩:=B0.cut
 obtain⟨F16,B0⟩:=B0.cut
 obtain⟨F17,B0⟩:=B0.cut
 obtain⟨F18,B0⟩:=B0.cut
 have F19:=B0;clear B0
 obtain⟨F20,A1⟩:=A1.cut
 obtain⟨F21,A1⟩:=A1.cut
 obtain⟨F22,A1⟩:=A1.cut
 obtain⟨F23,A1⟩:=A1.cut
 obtain⟨F24,A1⟩:=A1.cut
 obtain⟨F25,A1⟩:=A1.cut
 obtain⟨F26,A1⟩:=A1.cut
 obtain⟨F27,A1⟩:=A1.cut
 obtain⟨F28,A1⟩:=A1.cut
 obtain⟨F29,A1⟩:=A1.cut
 obtain⟨F30,A1⟩:=A1.cut
 obtain⟨F31,A1⟩:=A1.cut
 obtain⟨F32,A1⟩:=A1.cut
 obtain⟨F33,A1⟩:=A1.cut
 obtain⟨F34,A1⟩:=A1.cut
 have F35:=A1;clear A1
 have x343:(B T 343)=true↔B T 98=true:=by
  obtain⟨-,-,-,-,-,-,-,-,-,-,-,-,-,-,-,e112,-⟩:=F4
  obtain⟨e113,-,-,-,-,-,-,e120,-⟩:=F5
  obtain⟨-,-,-,-,e133,-,e135,-,-,-,-,e140,e141,-⟩:=F6
  obtain⟨-,-,-,-,-,-,-,-,-,e186,-,e188,-⟩:=F9
  obtain⟨-,-,-,-,-,-,-,-,-,-,-,-,e205,e206,-⟩:=F10
  obtain⟨-,-,-,-,-,-,-,-,-,-,-,-,e221,e222,-⟩:=F11
  obtain⟨-,-,-,-,-,-,-,-,-,-,-,-,e253,e254,-⟩:=F13
  obtain⟨-,e290,e291,-⟩:=F16
  obtain⟨-,-,-,e308,-⟩:=F17
  obtain⟨-,-,-,-,e325,e326,-⟩:=F18
  obtain⟨-,-,-,-,-,-,e343,-⟩:=F19
  simp only[AA,AD,zN,zR] at*
  grind (splits:=60)
 obtain⟨w1,w2,w3,w4,w5⟩:=inv0
 obtain⟨s,hs⟩:∃s:St,s=St.mk (B T 48) (B T 49) (I T 50) (B T 52) (I T 53) (I T 54) (I T 55) (I T 56) (B T 57) (B T 58) (B T 59) (B T 60) (B T 61) (B T 62) (B T 63) (B T 64):=⟨_,rfl⟩
 have w3:s=Cw g (L T 26) (I T 51).toNat:=by rw[hs];exact w3
 have hg1:g2=g:=by rw[z2,hg]
 have hg2:g3=C9 g s:=by rw[z3,hg,hs];rfl
 have hend:(B T 71)=false→I T 51=((L T 26)).length:=by
  obtain⟨e65,e66,-,-,-,e70,e71,-⟩:=F2
  obtain⟨-,e98,-⟩:=F4
  simp only[AA,AD,zN,zR,zL] at*
  have np1:=mt x343.2 (by simpa using np0)
  clear np0
  grind (splits:=60)
 have hflt:(B T 71)=true↔Ck (L T 26)=true:=by
  obtain⟨e65,e66,-,-,e69,e70,e71,-⟩:=F2
  simp only[AA,AD,zR,zL] at*
  constructor
  ·intro h
   have h2:=hev (I T 51).toNat
   have hlt:(I T 51) < ((L T 26)).length:=by grind
   have hk:At (L T 26) (I T 51).toNat 0=5:=by grind
   have h3:=(h2 (by omega)).2.2.1 hk
   have e:(I T 51).toNat=((L T 26)).length - 1:=by omega
   rw[e] at hk
   simp only[Ck,hk,decide_true,Bool.and_true,decide_eq_true_eq]
   omega
  ·intro h
   simp only[Ck,Bool.and_eq_true,decide_eq_true_eq] at h
   cases hb:B T 71 with
   |true=>rfl
   |false=>exact absurd h.2 (w5 _ (by have:=hend hb;omega))
 have hit:(B T 71)=false→Cw g (L T 26) ((L T 26)).length=s:=by
  obtain⟨e65,e66,-,-,e69,e70,e71,-⟩:=F2
  simp only[AA,AD,zR,zL] at*
  intro h
  rw[w3,show (I T 51).toNat=((L T 26)).length by have:=hend h;omega]
 have h361:(B T 71)=false→((B T 361)=true↔B5 s=true):=by
  obtain⟨e65,e66,e67,-,e69,e70,e71,-⟩:=F2
  obtain⟨e345,-,e347,e348,e349,e350,e351,-,e353,e354,e355,-⟩:=F20
  obtain⟨e361,-⟩:=F21
  simp only[AA,AD,zN,zR,zL] at*
  subst hs
  intro h
  have:=hend h
  simp only[B5,Bool.and_eq_true,Bool.or_eq_true,decide_eq_true_eq]
  grind (splits:=40)
 have h357:(B T 71)=false→I T 357=if (I T 53)=13∧I T 55=13 then 0 else 1:=by
  obtain⟨e65,e66,e67,-,e69,e70,e71,-⟩:=F2
  obtain⟨e345,-,e347,e348,e349,-,-,-,-,-,-,-,e357,-⟩:=F20
  simp only[AA,AD,zR,zL] at*
  intro h
  have:=hend h
  grind (splits:=40)
 have h365:(B T 71)=false→((B T 365)=true↔(¬B T 361=true∧(s.over=true∨¬sIn s (I T 3)=true))):=by
  obtain⟨e65,e66,e67,-,e69,e70,e71,-⟩:=F2
  obtain⟨e345,-,e347,e348,e349,e350,e351,-,e353,e354,e355,e356,-⟩:=F20
  obtain⟨e361,-,e363,e364,e365,-⟩:=F21
  simp only[AA,AD,zN,zR,AN,AM,and_false,or_false,zL] at*
  subst hs
  intro h
  have:=hend h
  simp only[sIn,AY,Bool.and_eq_true,Bool.or_eq_true,decide_eq_true_eq]
  grind (splits:=60)
 have h394:(B T 71)=false→((B T 394)=true↔(¬B T 361=true∧¬B T 365=true∧¬s.roquet= -1)):=by
  obtain⟨e65,e66,e67,-,e69,e70,e71,-⟩:=F2
  obtain⟨e345,-,e347,e348,e349,e350,e351,-,e353,e354,e355,e356,-⟩:=F20
  obtain⟨e361,-,e363,e364,e365,-⟩:=F21
  obtain⟨-,-,-,-,-,-,-,-,-,-,-,-,-,-,-,e392,-⟩:=F22
  obtain⟨e393,e394,-⟩:=F23
  simp only[AA,AD,zN,zR,AN,AM,and_false,or_false,zL] at*
  subst hs
  intro h
  have:=hend h
  grind (splits:=60)
 have h399:(B T 71)=false→((B T 399)=true↔(¬B T 361=true∧¬B T 365=true∧s.roquet= -1∧¬s.run=true∧Cn g= -1)):=by
  obtain⟨-,-,-,-,-,-,e33,-⟩:=F0
  obtain⟨-,-,-,-,e47,-⟩:=F1
  obtain⟨e65,e66,e67,-,e69,e70,e71,-⟩:=F2
  obtain⟨e345,-,e347,e348,e349,e350,e351,-,e353,e354,e355,e356,-⟩:=F20
  obtain⟨e361,-,e363,e364,e365,-⟩:=F21
  obtain⟨-,-,-,-,-,-,-,-,-,-,-,-,-,-,-,e392,-⟩:=F22
  obtain⟨e393,-,e395,-,e397,e398,e399,-⟩:=F23
  simp only[AA,AD,zN,zR,AN,AM,and_false,or_false,zL] at*
  subst hs
  intro h
  have:=hend h
  rw[←hcr]
  grind (splits:=60)
 have hstk:Ch g (L T 26)=if (B T 71)=true then AW g else if (B T 361)=true then { C9 g s with phase:=4,winner:=I T 357,ball:= -1,taken:= -1,d0:=false,d1:=false,d2:=false,d3:=false,half:=false,began:=0,lastb:= -1 } else if (B T 365)=true then AW (C9 g s) else if (B T 394)=true then { C9 g s with taken:=I T 50,phase:=2 } else if (B T 399)=true then AW (C9 g s) else { C9 g s with taken:= -1,phase:=3 }:=by
  have er:s.roquet=I T 50:=by rw[hs]
  have ep:s.p0=I T 53∧s.p2=I T 55:=by rw[hs];exact⟨rfl,rfl⟩
  unfold Ch
  by_cases h:(B T 71)=true
  ·rw[if_pos h,if_pos (hflt.1 h)]
  ·have h':(B T 71)=false:=by simpa using h
   rw[if_neg h,if_neg (fun z=>h (hflt.2 z)),hit h']
   unfold Hg
   have eb:g.ball=I T 3:=by rw[hg]
   rw[eb]
   have a1:=h361 h'
   have a2:=h357 h'
   have a3:=h365 h'
   have a4:=h394 h'
   have a5:=h399 h'
   rw[a2,←ep.1,←ep.2,←er]
   clear hg hs hflt hend hit h361 h357 h365 h394 h399
   by_cases k1:(B T 361)=true
   ·rw[if_pos k1,if_pos (a1.1 k1)]
   ·rw[if_neg k1,if_neg (fun z=>k1 (a1.2 z))]
    by_cases k2:(B T 365)=true
    ·rw[if_pos k2,if_pos (a3.1 k2).2]
    ·rw[if_neg k2,if_neg (fun z=>k2 (a3.2 ⟨k1,z⟩))]
     by_cases k3:(B T 394)=true
     ·rw[if_pos k3,if_pos (a4.1 k3).2.2]
     ·rw[if_neg k3,if_neg (fun z=>k3 (a4.2 ⟨k1,k2,z⟩))]
      have k4:s.roquet= -1:=Classical.byContradiction fun z=>k3 (a4.2 ⟨k1,k2,z⟩)
      by_cases k5:(B T 399)=true
      ·rw[if_pos k5,if_pos (a5.1 k5).2.2.2]
      ·rw[if_neg k5,if_neg (fun z=>k5 (a5.2 ⟨k1,k2,k4,z⟩))]
 clear hflt hend hit h361 h357 h365 h394 h399 w3 w4 w5 hev hst hcr
 have cr2_0:gT T 72=AW g2:=by
  obtain⟨-,-,-,-,-,-,-,e72,e73,e74,e75,e76,e77,e78,e79,e80,-⟩:=F2
  obtain⟨e81,e82,e83,e84,e85,e86,e87,e88,e89,e90,e91,e92,e93,e94,e95,e96,-⟩:=F3
  obtain⟨e97,-⟩:=F4
  rw[←show gAt 0 (A3.map (Rf.eval T))=g2 from z2.symm]
  exact Bk e72 e73 e74 e75 e76 e77 e78 e79 e80 e81 e82 e83 e84 e85 e86 e87 e88 e89 e90 e91 e92 e93 e94 e95 e96 e97
 have cr3_0:gT T 366=AW g3:=by
  obtain⟨-,-,-,-,-,e366,e367,e368,e369,e370,e371,e372,e373,e374,e375,e376,-⟩:=F21
  obtain⟨e377,e378,e379,e380,e381,e382,e383,e384,e385,e386,e387,e388,e389,e390,e391,-⟩:=F22
  rw[←show gAt 0 (AT.map (Rf.eval T))=g3 from z3.symm]
  exact Bk e366 e367 e368 e369 e370 e371 e372 e373 e374 e375 e376 e377 e378 e379 e380 e381 e382 e383 e384 e385 e386 e387 e388 e389 e390 e391
 have cr3_1:gT T 400=AW g3:=by
  obtain⟨-,-,-,-,-,-,-,e400,e401,e402,e403,e404,e405,e406,e407,e408,-⟩:=F23
  obtain⟨e409,e410,e411,e412,e413,e414,e415,e416,e417,e418,e419,e420,e421,e422,e423,e424,-⟩:=F24
  obtain⟨e425,-⟩:=F25
  rw[←show gAt 0 (AT.map (Rf.eval T))=g3 from z3.symm]
  exact Bk e400 e401 e402 e403 e404 e405 e406 e407 e408 e409 e410 e411 e412 e413 e414 e415 e416 e417 e418 e419 e420 e421 e422 e423 e424 e425
 refine⟨?_,?_,?_,?_,?_⟩
 ·rw[hstk]
  clear hstk
  rcases Bool.eq_false_or_eq_true (B T 71) with k71|k71
  ·
   refine (BC (Ap (K:=[(71,.b,.c (.bool true))]) (outs:=IC) (os:=[.e 72,.e 73,.e 74,.e 75,.e 76,.e 77,.e 78,.e 79,.e 80,.e 81,.e 82,.e 83,.e 84,.e 85,.e 86,.e 87,.e 88,.e 89,.e 90,.e 91,.e 92,.e 93,.e 94,.e 95,.e 96,.e 97]) ⟨k71,trivial⟩ hFa (by kernel_rfl))).trans ?_
   show gT T 72=_
   rw[cr2_0,if_pos k71,hg1]
  ·
   rcases Bool.eq_false_or_eq_true (B T 361) with k361|k361
   ·
    refine (BC (Ap (K:=[(71,.b,.c (.bool false)),(361,.b,.c (.bool true))]) (outs:=IC) (os:=[.e 0,.c (.int 4),.e 2,.c (.int (-1)),.c (.int (-1)),.e 53,.e 54,.e 55,.e 56,.e 57,.e 58,.e 59,.e 60,.c (.bool false),.c (.bool false),.c (.bool false),.c (.bool false),.e 17,.e 18,.e 19,.e 20,.c (.bool false),.e 22,.c (.int 0),.c (.int (-1)),.e 357]) ⟨k71,k361,trivial⟩ hFa (by kernel_rfl))).trans ?_
    show Gm.mk (I T 0) (4) (I T 2) (-1) (-1) (I T 53) (I T 54) (I T 55) (I T 56) (B T 57) (B T 58) (B T 59) (B T 60) false false false false (I T 17) (I T 18) (B T 19) (B T 20) false (I T 22) (0) (-1) (I T 357)=_
    rw[if_neg (by rw[k71];decide),if_pos k361]
    subst hg hs
    rfl
   ·
    rcases Bool.eq_false_or_eq_true (B T 365) with k365|k365
    ·
     refine (BC (Ap (K:=[(71,.b,.c (.bool false)),(361,.b,.c (.bool false)),(365,.b,.c (.bool true))]) (outs:=IC) (os:=[.e 366,.e 367,.e 368,.e 369,.e 370,.e 371,.e 372,.e 373,.e 374,.e 375,.e 376,.e 377,.e 378,.e 379,.e 380,.e 381,.e 382,.e 383,.e 384,.e 385,.e 386,.e 387,.e 388,.e 389,.e 390,.e 391]) ⟨k71,k361,k365,trivial⟩ hFa (by kernel_rfl))).trans ?_
     show gT T 366=_
     rw[if_neg (by rw[k71];decide),if_neg (by rw[k361];decide),if_pos k365,cr3_0,hg2]
    ·
     rcases Bool.eq_false_or_eq_true (B T 394) with k394|k394
     ·
      refine (BC (Ap (K:=[(71,.b,.c (.bool false)),(361,.b,.c (.bool false)),(365,.b,.c (.bool false)),(394,.b,.c (.bool true))]) (outs:=IC) (os:=[.e 0,.c (.int 2),.e 2,.e 3,.e 50,.e 53,.e 54,.e 55,.e 56,.e 57,.e 58,.e 59,.e 60,.e 61,.e 62,.e 63,.e 64,.e 17,.e 18,.e 19,.e 20,.e 21,.e 22,.e 23,.e 24,.e 25]) ⟨k71,k361,k365,k394,trivial⟩ hFa (by kernel_rfl))).trans ?_
      show Gm.mk (I T 0) (2) (I T 2) (I T 3) (I T 50) (I T 53) (I T 54) (I T 55) (I T 56) (B T 57) (B T 58) (B T 59) (B T 60) (B T 61) (B T 62) (B T 63) (B T 64) (I T 17) (I T 18) (B T 19) (B T 20) (B T 21) (I T 22) (I T 23) (I T 24) (I T 25)=_
      rw[if_neg (by rw[k71];decide),if_neg (by rw[k361];decide),if_neg (by rw[k365];decide),if_pos k394,hg,hs]
      rfl
     ·
      rcases Bool.eq_false_or_eq_true (B T 399) with k399|k399
      ·
       refine (BC (Ap (K:=[(71,.b,.c (.bool false)),(361,.b,.c (.bool false)),(365,.b,.c (.bool false)),(394,.b,.c (.bool false)),(399,.b,.c (.bool true))]) (outs:=IC) (os:=[.e 400,.e 401,.e 402,.e 403,.e 404,.e 405,.e 406,.e 407,.e 408,.e 409,.e 410,.e 411,.e 412,.e 413,.e 414,.e 415,.e 416,.e 417,.e 418,.e 419,.e 420,.e 421,.e 422,.e 423,.e 424,.e 425]) ⟨k71,k361,k365,k394,k399,trivial⟩ hFa (by kernel_rfl))).trans ?_
       show gT T 400=_
       rw[if_neg (by rw[k71];decide),if_neg (by rw[k361];decide),if_neg (by rw[k365];decide),if_neg (by rw[k394];decide),if_pos k399,cr3_1,hg2]
      ·
       refine (BC (Ap (K:=[(71,.b,.c (.bool false)),(361,.b,.c (.bool false)),(365,.b,.c (.bool false)),(394,.b,.c (.bool false)),(399,.b,.c (.bool false))]) (outs:=IC) (os:=[.e 0,.c (.int 3),.e 2,.e 3,.c (.int (-1)),.e 53,.e 54,.e 55,.e 56,.e 57,.e 58,.e 59,.e 60,.e 61,.e 62,.e 63,.e 64,.e 17,.e 18,.e 19,.e 20,.e 21,.e 22,.e 23,.e 24,.e 25]) ⟨k71,k361,k365,k394,k399,trivial⟩ hFa (by kernel_rfl))).trans ?_
       show Gm.mk (I T 0) (3) (I T 2) (I T 3) (-1) (I T 53) (I T 54) (I T 55) (I T 56) (B T 57) (B T 58) (B T 59) (B T 60) (B T 61) (B T 62) (B T 63) (B T 64) (I T 17) (I T 18) (B T 19) (B T 20) (B T 21) (I T 22) (I T 23) (I T 24) (I T 25)=_
       rw[if_neg (by rw[k71];decide),if_neg (by rw[k361];decide),if_neg (by rw[k365];decide),if_neg (by rw[k394];decide),if_neg (by rw[k399];decide),hg,hs]
       rfl
 ·obtain⟨-,-,-,-,-,-,e33,-⟩:=F0
  obtain⟨-,-,-,-,e47,-⟩:=F1
  obtain⟨e65,e66,e67,-⟩:=F2
  obtain⟨e345,-,e347,e348,-,e350,e351,-,e353,e354,-,e356,-⟩:=F20
  obtain⟨-,-,e363,e364,-⟩:=F21
  obtain⟨-,-,-,-,-,-,-,-,-,-,-,-,-,-,-,e392,-⟩:=F22
  obtain⟨e393,-,e395,-,e397,e398,e399,-⟩:=F23
  simp only[AA,AD,zN,zR,AN,AM,and_false,or_false,zL] at*
  grind (splits:=100)
 ·obtain⟨e65,e66,e67,-⟩:=F2
  obtain⟨e345,-,e347,e348,-,e350,e351,-,e353,e354,-,e356,-⟩:=F20
  obtain⟨-,-,e363,e364,e365,-⟩:=F21
  simp only[AA,AD,zN,zR,AN,AM,and_false,or_false,zL] at*
  grind (splits:=100)
 ·obtain⟨e65,e66,e67,-⟩:=F2
  obtain⟨e345,-,e347,e348,-,e350,e351,-,e353,e354,-,e356,-⟩:=F20
  obtain⟨-,e362,-⟩:=F21
  simp only[AA,AD,zN,zR,zL] at*
  grind (splits:=100)
 ·obtain⟨-,-,-,-,-,-,e33,-⟩:=F0
  simp only[AA,zR] at e33
  grind (splits:=100)
theorem dZ:CA Try.prog 61 Dx:=by
 refine Bu (l:=[(43,De),(62,JS)]) C6 (by simp only[List.forall_mem_cons];exact⟨Jo,bk,fun _ h=>absurd h (by simp)⟩) fC (by kernel_rfl) fun T us hpre hT hul hS hBd hE=>?_
 change us.length=27 at hul
 obtain⟨-,-,-,-,-,-,-,-,-,-,-,-,-,-,-,⟨hl26,he26⟩,-⟩:=hBd
 replace hl26:(L T 26).length≤140737488355328:=hl26
 obtain⟨g,hg⟩:∃g:Gm,g=gT T 0:=⟨_,rfl⟩
 have hgu:gAt 0 us=g:=by rw[hg];exact DV hT hul (by decide)
 have ha26:aL us 26=L T 26:=inL hT hul (by decide)
 have pre0:AR g=true:=by
  have h:=hpre (.s "rstroke.p0",D3) (by simp[Dx])
  change D3 us at h
  unfold D3 at h
  simp only[hgu] at h
  exact h
 have pre1:Ag g=true:=by
  have h:=hpre (.s "rstroke.p1",EA) (by simp[Dx])
  change EA us at h
  unfold EA at h
  simp only[hgu] at h
  exact h
 have pre2:BX g (L T 26)=true:=by
  have h:=hpre (.s "rstroke.p2",EB) (by simp[Dx])
  change EB us at h
  unfold EB at h
  simp only[hgu,ha26] at h
  exact h
 clear hpre
 rw[List.map_append,List.map_append,List.map_append] at hE
 have hA:=hE.left
 replace hE:=hE.right
 have hH:=hE.left
 replace hE:=hE.right
 have hB:=hE.left
 replace hE:=hE.right
 obtain⟨A0,hS1⟩:=Cp hS (by kernel_rfl) hA
 obtain⟨hcr,hev,h27,h30,h32,hst,hpb,hba,hbr,htk⟩:=XM hl26 g hg pre0 pre1 pre2 A0
 obtain⟨ow0,hS2,inv0,np0⟩:=ZK hl26 g hg hcr hev h27 h30 h32 hst hpb hba hbr hS1 hB hH
 have hF2:=(Cp (hS2.append hS1) (l:=BM) (by kernel_rfl) hB)
 obtain⟨B0,hS⟩:=hF2
 clear hA hB hH hS1 hS2
 obtain⟨g2,z2⟩:∃g:Gm,g=gT T 0:=⟨_,rfl⟩
 obtain⟨A1,hO⟩:=CK (tys:=[.i,.i,.i,.i,.i,.i,.i,.i,.i,.b,.b,.b,.b,.b,.b,.b,.b,.i,.i,.b,.b,.b,.i,.i,.i,.i]) (rs:=UC) hS (by kernel_rfl) hE
 obtain⟨g3,z3⟩:∃g:Gm,g=Gm.mk (I T 0) (I T 1) (I T 2) (I T 3) (I T 4) (I T 53) (I T 54) (I T 55) (I T 56) (B T 57) (B T 58) (B T 59) (B T 60) (B T 61) (B T 62) (B T 63) (B T 64) (I T 17) (I T 18) (B T 19) (B T 20) (B T 21) (I T 22) (I T 23) (I T 24) (I T 25):=⟨_,rfl⟩
 obtain⟨whole,r0,r1,r2,r3⟩:=fH hl26 g hg pre0 pre1 pre2 hcr hev h27 h30 h32 hst hpb hba hbr htk inv0 np0 g2 z2 g3 z3 A0 B0 A1
 have hog:BF us=Ch g (L T 26):=by unfold BF;rw[hgu,ha26]
 replace whole:=whole.trans hog.symm
 refine⟨⟨r0,r1,r2,(fun _=>ow0),r3,trivial⟩,hO.trans ?_⟩
 exact Ka whole rfl
end Go.Eng
end
