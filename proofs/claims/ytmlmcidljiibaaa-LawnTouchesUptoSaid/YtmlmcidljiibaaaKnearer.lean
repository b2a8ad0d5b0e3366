/-
  A part of the proof: K_nearerd K_nearer.
-/
import Derived.Test.YtmlmcidljiibaaaXQlTouches
import Derived.Test.YtmlmcidljiibaaaE3
import Derived.Test.YtmlmcidljiibaaaE4
import Derived.Test.YtmlmcidljiibaaaKwide
set_option linter.unusedVariables false
set_option linter.unusedSimpArgs false
noncomputable section
open Go Go.Eng Go.Proofs
set_option maxHeartbeats 4000000
set_option maxRecDepth 100000
namespace Go.Eng
def hL:List U→Bool:=fun us=>(Kp (aI us 0) (aI us 1) (aI us 2) (aI us 3) (aI us 4) (aI us 5) (aI us 6))
def gw:List U→Prop:=fun us=>AH (aI us 0) (aI us 1)=true
def gx:List U→Prop:=fun us=>AH (aI us 2) (aI us 3)=true
def gy:List U→Prop:=fun us=>AH (aI us 4) (aI us 5)=true
def gz:List U→Prop:=fun us=>0≤(aI us 6)∧(aI us 6)≤65536
def gZ:Ak:={ sh:=[.agg [k64,k64],.agg [k64,k64],.agg [k64,k64],.one (k64)],blks:=[],outs:=[(.s "nearer.0",EK hL)],c:= .b 7,m':=[],pre:=[(.s "nearer.p0",gw),(.s "nearer.p1",gx),(.s "nearer.p2",gy),(.s "nearer.p3",gz)] }
def jF:List En:=[⟨7,.w2 .i64 .sub,[.e 2,.e 0]⟩,
 ⟨8,.w2 .i64 .sub,[.e 3,.e 1]⟩,
 ⟨9,.w2 .i64 .sub,[.e 4,.e 0]⟩,
 ⟨10,.w2 .i64 .sub,[.e 5,.e 1]⟩,
 ⟨11,.w2 .i64 .mul,[.e 7,.e 9]⟩,
 ⟨12,.w2 .i64 .mul,[.e 8,.e 10]⟩,
 ⟨13,.w2 .i64 .add,[.e 11,.e 12]⟩,
 ⟨14,.w2 .i64 .mul,[.e 7,.e 7]⟩,
 ⟨15,.w2 .i64 .mul,[.e 8,.e 8]⟩,
 ⟨16,.w2 .i64 .add,[.e 14,.e 15]⟩,
 ⟨17,.le,[.e 13,.c (.int 0)]⟩,
 ⟨18,.w2 .i64 .sub,[.e 0,.e 4]⟩,
 ⟨19,.w2 .i64 .sub,[.e 0,.e 4]⟩,
 ⟨20,.w2 .i64 .mul,[.e 18,.e 19]⟩,
 ⟨21,.w2 .i64 .sub,[.e 1,.e 5]⟩,
 ⟨22,.w2 .i64 .sub,[.e 1,.e 5]⟩]
def jR:List En:=[⟨23,.w2 .i64 .mul,[.e 21,.e 22]⟩,
 ⟨24,.w2 .i64 .add,[.e 20,.e 23]⟩,
 ⟨25,.w2 .i64 .mul,[.e 6,.e 6]⟩,
 ⟨26,.lt,[.e 24,.e 25]⟩,
 ⟨27,.not,[.e 17]⟩,
 ⟨28,.le,[.e 16,.e 13]⟩,
 ⟨29,.and,[.e 27,.e 28]⟩,
 ⟨30,.w2 .i64 .sub,[.e 2,.e 4]⟩,
 ⟨31,.w2 .i64 .sub,[.e 2,.e 4]⟩,
 ⟨32,.w2 .i64 .mul,[.e 30,.e 31]⟩,
 ⟨33,.w2 .i64 .sub,[.e 3,.e 5]⟩,
 ⟨34,.w2 .i64 .sub,[.e 3,.e 5]⟩,
 ⟨35,.w2 .i64 .mul,[.e 33,.e 34]⟩,
 ⟨36,.w2 .i64 .add,[.e 32,.e 35]⟩,
 ⟨37,.w2 .i64 .mul,[.e 6,.e 6]⟩,
 ⟨38,.lt,[.e 36,.e 37]⟩]
def jH:List En:=[⟨39,.and,[.e 27,.n 28]⟩,
 ⟨40,.w2 .i64 .mul,[.e 7,.e 10]⟩,
 ⟨41,.w2 .i64 .mul,[.e 8,.e 9]⟩,
 ⟨42,.w2 .i64 .sub,[.e 40,.e 41]⟩,
 ⟨43,.wneg .i64,[.e 42]⟩,
 ⟨44,.o2 .max,[.e 42,.e 43]⟩,
 ⟨45,.w1 .u64,[.e 44]⟩,
 ⟨46,.w1 .u64,[.e 44]⟩,
 ⟨47,.outI "wide.0" iA,[.e 45,.e 46]⟩,
 ⟨48,.outI "wide.1" iC,[.e 45,.e 46]⟩,
 ⟨49,.w1 .u64,[.e 16]⟩,
 ⟨50,.w2 .i64 .mul,[.e 6,.e 6]⟩,
 ⟨51,.w1 .u64,[.e 50]⟩,
 ⟨52,.outI "wide.0" iA,[.e 49,.e 51]⟩,
 ⟨53,.outI "wide.1" iC,[.e 49,.e 51]⟩,
 ⟨54,.lt,[.e 47,.e 52]⟩]
def jK:List En:=[⟨55,.and,[.e 39,.n 54]⟩,
 ⟨56,.eq,[.e 47,.e 52]⟩,
 ⟨57,.and,[.e 55,.e 56]⟩,
 ⟨58,.lt,[.e 48,.e 53]⟩,
 ⟨59,.and,[.e 56,.e 58]⟩,
 ⟨60,.or,[.e 54,.e 59]⟩,
 ⟨61,.ite .b,[.e 29,.e 38,.e 60]⟩,
 ⟨62,.or,[.e 29,.e 39]⟩,
 ⟨63,.ite .b,[.e 17,.e 26,.e 61]⟩,
 ⟨64,.or,[.e 17,.e 62]⟩]
def ip:List En:=jF++(jR++(jH++(jK)))
def kJ:List ObE:=[]
def jI:List Rf:=[.e 63]
theorem kK:gZ.sees jI (gZ.run Try.prog [(113,iX)] Ah 3000 20 99)=some ((ip).map En.be,kJ.map ObE.be,[]):=by kernel_rfl
theorem kG {T:Tab}(pre0:AH (I T 0) (I T 1)=true)(pre1:AH (I T 2) (I T 3)=true)(pre2:AH (I T 4) (I T 5)=true)(pre3:0≤I T 6∧I T 6≤65536)(A0:AJ T ip):
  ((B T 63)=(Kp (I T 0) (I T 1) (I T 2) (I T 3) (I T 4) (I T 5) (I T 6))):=by
 obtain⟨F0,A0⟩:=A0.cut
 obtain⟨F1,A0⟩:=A0.cut
 obtain⟨F2,A0⟩:=A0.cut
 have F3:=A0;clear A0
 ·obtain⟨e7,e8,e9,e10,e11,e12,e13,e14,e15,e16,e17,e18,e19,e20,e21,e22,-⟩:=F0
  obtain⟨e23,e24,e25,e26,e27,e28,e29,e30,e31,e32,e33,e34,e35,e36,e37,e38,-⟩:=F1
  obtain⟨-,e40,e41,e42,e43,e44,e45,e46,e47,e48,e49,e50,e51,e52,e53,e54,-⟩:=F2
  obtain⟨-,e56,-,e58,e59,e60,e61,-,e63,-⟩:=F3
  replace e47:I T 47=((I T 45)*(I T 46) / 18446744073709551616):=e47
  replace e48:I T 48=((I T 45)*(I T 46) % 18446744073709551616):=e48
  replace e52:I T 52=((I T 49)*(I T 51) / 18446744073709551616):=e52
  replace e53:I T 53=((I T 49)*(I T 51) % 18446744073709551616):=e53
  simp only[AE,AF,zR,AR,w2P,wnP,zL] at*
  rw[Av] at pre0 pre1 pre2
  have d7:=e7 (by omega) (by omega)
  have d8:=e8 (by omega) (by omega)
  have d9:=e9 (by omega) (by omega)
  have d10:=e10 (by omega) (by omega)
  have d18:=e18 (by omega) (by omega)
  have d19:=e19 (by omega) (by omega)
  have d21:=e21 (by omega) (by omega)
  have d22:=e22 (by omega) (by omega)
  have d30:=e30 (by omega) (by omega)
  have d31:=e31 (by omega) (by omega)
  have d33:=e33 (by omega) (by omega)
  have d34:=e34 (by omega) (by omega)
  have m11:=L9 (a:=I T 7) (b:=I T 9) (A:=8388608) (B:=8388608) (by omega) (by omega)
  have d11:=e11 (by omega) (by omega)
  have m12:=L9 (a:=I T 8) (b:=I T 10) (A:=8388608) (B:=8388608) (by omega) (by omega)
  have d12:=e12 (by omega) (by omega)
  have d13:=e13 (by omega) (by omega)
  have p14:=sqB (a:=I T 7) (A:=8388608) (by omega)
  have d14:=e14 (by omega) (by omega)
  have p15:=sqB (a:=I T 8) (A:=8388608) (by omega)
  have d15:=e15 (by omega) (by omega)
  have d16:=e16 (by omega) (by omega)
  have m20:=L9 (a:=I T 18) (b:=I T 19) (A:=8388608) (B:=8388608) (by omega) (by omega)
  have d20:=e20 (by omega) (by omega)
  have m23:=L9 (a:=I T 21) (b:=I T 22) (A:=8388608) (B:=8388608) (by omega) (by omega)
  have d23:=e23 (by omega) (by omega)
  have d24:=e24 (by omega) (by omega)
  have p25:=sqB (a:=I T 6) (A:=65536) (by omega)
  have d25:=e25 (by omega) (by omega)
  have d37:=e37 (by omega) (by omega)
  have d50:=e50 (by omega) (by omega)
  have m32:=L9 (a:=I T 30) (b:=I T 31) (A:=8388608) (B:=8388608) (by omega) (by omega)
  have d32:=e32 (by omega) (by omega)
  have m35:=L9 (a:=I T 33) (b:=I T 34) (A:=8388608) (B:=8388608) (by omega) (by omega)
  have d35:=e35 (by omega) (by omega)
  have d36:=e36 (by omega) (by omega)
  have m40:=L9 (a:=I T 7) (b:=I T 10) (A:=8388608) (B:=8388608) (by omega) (by omega)
  have d40:=e40 (by omega) (by omega)
  have m41:=L9 (a:=I T 8) (b:=I T 9) (A:=8388608) (B:=8388608) (by omega) (by omega)
  have d41:=e41 (by omega) (by omega)
  have d42:=e42 (by omega) (by omega)
  have d43:=e43.1 (by omega) (by omega)
  have a44:=dw (m:=I T 42) (n:=I T 44) (by rw[e44,d43])
  have u44:0≤I T 44∧I T 44≤140737488355328:=by rw[e44,d43];split<;>omega
  rw[bT] at e45 e46 e49 e51
  have d45:(I T 45)=I T 44:=by omega
  have d46:(I T 46)=I T 44:=by omega
  have d49:(I T 49)=I T 16:=by omega
  have d51:(I T 51)=I T 50:=by omega
  have hX:(I T 45)*I T 46=I T 42*I T 42:=by rw[d45,d46,a44]
  have hY:(I T 49)*I T 51=I T 16*I T 25:=by rw[d49,d51,d50,d25]
  have hW:=kP ((I T 42)*I T 42) ((I T 16)*I T 25)
  rw[hX] at e47 e48
  rw[hY] at e52 e53
  rw[←e47,←e48,←e52,←e53] at hW
  rw[dc (dot:=I T 13) (long:=I T 16) (cross:=I T 42) (qa:=I T 24) (qb:=I T 36) (ss:=I T 25) (by rw[d13,d11,d12,d7,d8,d9,d10]) (by rw[d16,d14,d15,d7,d8]) (by rw[d42,d40,d41,d7,d8,d9,d10]) (by rw[d24,d20,d23,d18,d19,d21,d22]) (by rw[d36,d32,d35,d30,d31,d33,d34]) d25]
  have h37:(I T 37)=I T 25:=by rw[d37,d25]
  have h60:=e60.trans (or_congr e54 (e59.trans (and_congr e56 e58)))
  rw[hW] at h60
  have h38:=e38
  rw[h37] at h38
  refine Bool.eq_iff_iff.2 ?_
  by_cases c1:(I T 13)≤0
  ·rw[if_pos c1,decide_eq_true_eq,←e26]
   have:=e17.2 c1
   rw[e63]
   simp[this]
  ·rw[if_neg c1]
   have c1':¬B T 17=true:=fun h=>c1 (e17.1 h)
   by_cases c2:(I T 16)≤I T 13
   ·rw[if_pos c2,decide_eq_true_eq,←h38]
    have:=e28.2 c2
    rw[Bool.not_eq_true] at c1'
    have h29:(B T 29)=true:=by rw[e29,e27];simp[this,c1']
    rw[e63,e61]
    simp[h29,c1']
   ·rw[if_neg c2,decide_eq_true_eq,←h60]
    have c2':¬B T 28=true:=fun h=>c2 (e28.1 h)
    rw[Bool.not_eq_true] at c1' c2'
    have h29:¬B T 29=true:=by rw[e29,e27];simp[c2',c1']
    rw[Bool.not_eq_true] at h29
    rw[e63,e61]
    simp[h29,c1']
theorem jr:Aq Try.prog 99 gZ:=by
 refine Ai (l:=[(113,iX)]) BX (by simp only[List.forall_mem_cons];exact⟨kQ,fun _ h=>absurd h (by simp)⟩) kK (by kernel_rfl) fun T us hpre hT hul hS hBd hE=>?_
 change us.length=7 at hul
 clear hBd
 have ha0:aI us 0=I T 0:=inI hT hul (by decide)
 have ha1:aI us 1=I T 1:=inI hT hul (by decide)
 have ha2:aI us 2=I T 2:=inI hT hul (by decide)
 have ha3:aI us 3=I T 3:=inI hT hul (by decide)
 have ha4:aI us 4=I T 4:=inI hT hul (by decide)
 have ha5:aI us 5=I T 5:=inI hT hul (by decide)
 have ha6:aI us 6=I T 6:=inI hT hul (by decide)
 have pre0:AH (I T 0) (I T 1)=true:=by
  have h:=hpre (.s "nearer.p0",gw) (by simp[gZ])
  change gw us at h
  unfold gw at h
  simp only[ha0,ha1] at h
  exact h
 have pre1:AH (I T 2) (I T 3)=true:=by
  have h:=hpre (.s "nearer.p1",gx) (by simp[gZ])
  change gx us at h
  unfold gx at h
  simp only[ha2,ha3] at h
  exact h
 have pre2:AH (I T 4) (I T 5)=true:=by
  have h:=hpre (.s "nearer.p2",gy) (by simp[gZ])
  change gy us at h
  unfold gy at h
  simp only[ha4,ha5] at h
  exact h
 have pre3:0≤I T 6∧I T 6≤65536:=by
  have h:=hpre (.s "nearer.p3",gz) (by simp[gZ])
  change gz us at h
  unfold gz at h
  simp only[ha6] at h
  exact h
 clear hpre
 skip
 obtain⟨A0,hO⟩:=Ar (tys:=[.b]) (rs:=jI) hS (by kernel_rfl) hE
 have q0:=kG pre0 pre1 pre2 pre3 A0
 refine⟨trivial,hO.trans ?_⟩
 exact (lc (by show U.bool (B T 63)= .bool (hL us);unfold hL;rw[ha0,ha1,ha2,ha3,ha4,ha5,ha6];exact congrArg U.bool q0) rfl)
end Go.Eng
end
