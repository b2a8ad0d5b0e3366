/-
  A part of the proof: K_reachedd K_reached.
-/
import Derived.Test.YtmlmcidljiibaaaXQlWays
import Derived.Test.YtmlmcidljiibaaaE3
import Derived.Test.YtmlmcidljiibaaaE4
set_option linter.unusedVariables false
set_option linter.unusedSimpArgs false
noncomputable section
open Go Go.Eng Go.Proofs
set_option maxHeartbeats 4000000
set_option maxRecDepth 100000
namespace Go.Eng
def Hg:List U→Bool:=fun us=>(GB (aI us 0) (aI us 1) (aI us 2) (aI us 3) (aI us 4) (aI us 5) (aI us 6) (aI us 7))
def Fg:List U→Prop:=fun us=>AF (aI us 0) (aI us 1)=true
def Ff:List U→Prop:=fun us=>AF (aI us 2) (aI us 3)=true
def Fa:List U→Prop:=fun us=>AF (aI us 4) (aI us 5)=true
def Fm:List U→Prop:=fun us=>1≤(aI us 6)∧(aI us 6)≤16384
def Fc:List U→Prop:=fun us=>1≤(aI us 7)∧(aI us 7)≤16384
def C4:Ak:={ sh:=[.agg [k64,k64],.agg [k64,k64],.agg [k64,k64,k64],.one (k64)],blks:=[],outs:=[(.s "reached.0",DF Hg)],c:= .b 8,m':=[],pre:=[(.s "reached.p0",Fg),(.s "reached.p1",Ff),(.s "reached.p2",Fa),(.s "reached.p3",Fm),(.s "reached.p4",Fc)] }
def Sq:List En:=[⟨8,.w2 .i64 .sub,[.e 2,.e 0]⟩,
 ⟨9,.w2 .i64 .sub,[.e 3,.e 1]⟩,
 ⟨10,.w2 .i64 .sub,[.e 4,.e 0]⟩,
 ⟨11,.w2 .i64 .mul,[.e 8,.e 10]⟩,
 ⟨12,.w2 .i64 .sub,[.e 5,.e 1]⟩,
 ⟨13,.w2 .i64 .mul,[.e 9,.e 12]⟩,
 ⟨14,.w2 .i64 .add,[.e 11,.e 13]⟩,
 ⟨15,.w2 .i64 .mul,[.e 8,.e 8]⟩,
 ⟨16,.w2 .i64 .mul,[.e 9,.e 9]⟩,
 ⟨17,.w2 .i64 .add,[.e 15,.e 16]⟩,
 ⟨18,.le,[.e 17,.e 14]⟩,
 ⟨19,.not,[.e 18]⟩,
 ⟨20,.lt,[.c (.int 0),.e 14]⟩,
 ⟨21,.and,[.e 19,.e 20]⟩,
 ⟨22,.o2 .tdiv,[.e 17,.c (.int 32768)]⟩,
 ⟨23,.o2 .add,[.e 22,.c (.int 1)]⟩]
def Ss:List En:=[⟨24,.w2 .i64 .tdiv,[.e 14,.e 23]⟩,
 ⟨25,.w2 .i64 .mul,[.e 8,.e 24]⟩,
 ⟨26,.o2 .tdiv,[.e 25,.c (.int 32768)]⟩,
 ⟨27,.w2 .i64 .add,[.e 0,.e 26]⟩,
 ⟨28,.w2 .i64 .mul,[.e 9,.e 24]⟩,
 ⟨29,.o2 .tdiv,[.e 28,.c (.int 32768)]⟩,
 ⟨30,.w2 .i64 .add,[.e 1,.e 29]⟩,
 ⟨31,.and,[.e 19,.n 20]⟩,
 ⟨32,.ite .i,[.e 20,.e 27,.e 0]⟩,
 ⟨33,.ite .i,[.e 20,.e 30,.e 1]⟩,
 ⟨34,.ite .i,[.e 18,.e 2,.e 32]⟩,
 ⟨35,.ite .i,[.e 18,.e 3,.e 33]⟩,
 ⟨36,.w2 .i64 .sub,[.e 34,.e 4]⟩,
 ⟨37,.w2 .i64 .sub,[.e 35,.e 5]⟩,
 ⟨38,.w2 .i64 .add,[.e 7,.e 6]⟩,
 ⟨39,.w2 .i64 .add,[.e 38,.c (.int 2)]⟩]
def Sn:List En:=[⟨40,.lt,[.c (.int 0),.e 14]⟩,
 ⟨41,.id .b,[.e 40]⟩,
 ⟨42,.lt,[.e 14,.e 17]⟩,
 ⟨43,.and,[.e 40,.e 42]⟩,
 ⟨44,.wneg .i64,[.e 8]⟩,
 ⟨45,.o2 .max,[.e 8,.e 44]⟩,
 ⟨46,.wneg .i64,[.e 9]⟩,
 ⟨47,.o2 .max,[.e 9,.e 46]⟩,
 ⟨48,.w2 .i64 .add,[.e 45,.e 47]⟩,
 ⟨49,.o2 .tdiv,[.e 48,.c (.int 16384)]⟩,
 ⟨50,.o2 .add,[.c (.int 1024),.e 49]⟩,
 ⟨51,.w2 .i64 .add,[.e 39,.e 50]⟩,
 ⟨52,.not,[.e 43]⟩,
 ⟨53,.ite .i,[.e 43,.e 51,.e 39]⟩,
 ⟨54,.w2 .i64 .mul,[.e 36,.e 36]⟩,
 ⟨55,.w2 .i64 .mul,[.e 37,.e 37]⟩]
def S6:List En:=[⟨56,.w2 .i64 .add,[.e 54,.e 55]⟩,
 ⟨57,.w2 .i64 .mul,[.e 53,.e 53]⟩,
 ⟨58,.lt,[.e 56,.e 57]⟩]
def Og:List En:=Sq++(Ss++(Sn++(S6)))
def aw:List ObE:=[⟨some 21,.nez,[.e 23]⟩]
def SL:List Rf:=[.e 58]
theorem cN:C4.sees SL (C4.run Try.prog [] Ag 3000 20 24)=some ((Og).map En.be,aw.map ObE.be,[]):=by kernel_rfl
theorem cQ {T:Tab}(pre0:AF (I T 0) (I T 1)=true)(pre1:AF (I T 2) (I T 3)=true)(pre2:AF (I T 4) (I T 5)=true)(pre3:1≤I T 6∧I T 6≤16384)(pre4:1≤I T 7∧I T 7≤16384)(A0:AI T Og):
  ((B T 58)=(GB (I T 0) (I T 1) (I T 2) (I T 3) (I T 4) (I T 5) (I T 6) (I T 7)))∧
  (B T 21=true→¬I T 23=0):=by
 obtain⟨F0,A0⟩:=A0.cut
 obtain⟨F1,A0⟩:=A0.cut
 obtain⟨F2,A0⟩:=A0.cut
 have F3:=A0;clear A0
 refine⟨?_,?_⟩
 ·obtain⟨e8,e9,e10,e11,e12,e13,e14,e15,e16,e17,e18,-,e20,-,e22,e23,-⟩:=F0
  obtain⟨e24,e25,e26,e27,e28,e29,e30,-,e32,e33,e34,e35,e36,e37,e38,e39,-⟩:=F1
  obtain⟨e40,-,e42,e43,e44,e45,e46,e47,e48,e49,e50,e51,-,e53,e54,e55,-⟩:=F2
  obtain⟨e56,e57,e58,-⟩:=F3
  simp only[AE,AG,zR,AS,w2P,wnP,zL] at*
  obtain⟨⟨p1,p2⟩,p3,p4⟩:=Af.1 pre0
  obtain⟨⟨p5,p6⟩,p7,p8⟩:=Af.1 pre1
  obtain⟨⟨p9,pa⟩,pb,pc⟩:=Af.1 pre2
  refine Bool.eq_iff_iff.2 ?_
  have x8:=e8 (by omega) (by omega)
  have x9:=e9 (by omega) (by omega)
  have x10:=e10 (by omega) (by omega)
  have x12:=e12 (by omega) (by omega)
  have m1:=Cp (a:=I T 8) (b:=I T 10) (A:=8388608) (B:=8388608) (by omega) (by omega)
  have m2:=Cp (a:=I T 9) (b:=I T 12) (A:=8388608) (B:=8388608) (by omega) (by omega)
  have m3:=sqB (a:=I T 8) (A:=8388608) (by omega)
  have m4:=sqB (a:=I T 9) (A:=8388608) (by omega)
  have x11:=e11 (by omega) (by omega)
  have x13:=e13 (by omega) (by omega)
  have x14:=e14 (by omega) (by omega)
  have x15:=e15 (by omega) (by omega)
  have x16:=e16 (by omega) (by omega)
  have x17:=e17 (by omega) (by omega)
  rw[x11,x13] at x14
  rw[x15,x16] at x17
  have x38:=e38 (by omega) (by omega)
  have x39:=e39 (by omega) (by omega)
  unfold GB
  dsimp only
  rw[decide_eq_true_eq,←x8,←x9,←x10,←x12,←x14,←x17]
  have fin:∀px py s:Int,(I T 34)=px→I T 35=py→I T 53=s→(-16777216≤px∧px≤16777216)→(-16777216≤py∧py≤16777216)→(0≤s∧s≤1000000)→((B T 58)=true↔(px - (I T 4))*(px - (I T 4))+(py - (I T 5))*(py - (I T 5)) < s*s):=by
   intro px py s h1 h2 h3 h4 h5 h6
   have x36:=e36 (by omega) (by omega)
   have x37:=e37 (by omega) (by omega)
   have n1:=sqB (a:=I T 36) (A:=33554432) (by omega)
   have n2:=sqB (a:=I T 37) (A:=33554432) (by omega)
   have n3:=sqB (a:=I T 53) (A:=1000000) (by omega)
   have x54:=e54 (by omega) (by omega)
   have x55:=e55 (by omega) (by omega)
   have x56:=e56 (by omega) (by omega)
   have x57:=e57 (by omega) (by omega)
   rw[e58,x56,x54,x55,x57,x36,x37,h1,h2,h3]
  clear m1 m2
  by_cases k2:(I T 17)≤I T 14
  ·have h18:=e18.2 k2
   have n43:¬B T 43=true:=fun h=>by have:=e42.1 (e43.1 h).2;omega
   rw[if_pos k2,if_pos k2,if_neg (by omega)]
   exact fin (I T 2) (I T 3) ((I T 7)+I T 6+2) (by rw[e34,if_pos h18]) (by rw[e35,if_pos h18]) (by rw[e53,if_neg n43,x39,x38]) (by omega) (by omega) (by omega)
  ·have n18:¬B T 18=true:=fun h=>k2 (e18.1 h)
   rw[if_neg k2,if_neg k2]
   by_cases k1:0 < I T 14
   ·have h20:=e20.2 k1
    have h43:=e43.2 ⟨e40.2 k1,e42.2 (by omega)⟩
    have k3:0 < I T 14∧I T 14 < I T 17:=⟨k1,by omega⟩
    have x22:(I T 22)=(I T 17) / 32768:=by rw[e22,if_pos (by omega)]
    have x23:(I T 23)=(I T 17) / 32768+1:=by omega
    have x24:(I T 24)=(I T 14) / ((I T 17) / 32768+1):=by rw[e24,wdiv (by omega) (by omega) (by omega),x23]
    have y1:0≤I T 24:=by rw[x24];exact Int.ediv_nonneg (by omega) (by omega)
    have y2:(I T 24)≤32768:=by
     rw[x24]
     have:=Int.ediv_lt_of_lt_mul (show 0 < (I T 17) / 32768+1 by omega) (show (I T 14) < 32768*((I T 17) / 32768+1) by omega)
     omega
    have m5:=Cp (a:=I T 8) (b:=I T 24) (A:=8388608) (B:=32768) (by omega) (by omega)
    have m6:=Cp (a:=I T 9) (b:=I T 24) (A:=8388608) (B:=32768) (by omega) (by omega)
    have x25:=e25 (by omega) (by omega)
    have x28:=e28 (by omega) (by omega)
    rw[x25] at e26
    rw[x28] at e29
    have y3: -8388608≤I T 26∧I T 26≤8388608:=by rw[e26];split<;>omega
    have y4: -8388608≤I T 29∧I T 29≤8388608:=by rw[e29];split<;>omega
    have x27:=e27 (by omega) (by omega)
    have x30:=e30 (by omega) (by omega)
    have x44:=e44.1 (by omega) (by omega)
    have x46:=e46.1 (by omega) (by omega)
    rw[x44] at e45
    rw[x46] at e47
    have y5:0≤I T 45∧I T 45≤8388608:=by rw[e45];split<;>omega
    have y6:0≤I T 47∧I T 47≤8388608:=by rw[e47];split<;>omega
    have x48:=e48 (by omega) (by omega)
    have x49:(I T 49)=(I T 48) / 16384:=by rw[e49,if_pos (by omega)]
    have x51:=e51 (by omega) (by omega)
    rw[if_pos k1,if_pos k1,if_pos k3,←x24,←e26,←e29,←e45,←e47,←x48,←x49]
    exact fin ((I T 0)+I T 26) ((I T 1)+I T 29) ((I T 7)+I T 6+2+(1024+I T 49)) (by rw[e34,if_neg n18,e32,if_pos h20,x27]) (by rw[e35,if_neg n18,e33,if_pos h20,x30]) (by rw[e53,if_pos h43,x51,e50,x39,x38]) (by omega) (by omega) (by omega)
   ·have n20:¬B T 20=true:=fun h=>k1 (e20.1 h)
    have n43:¬B T 43=true:=fun h=>k1 (e40.1 (e43.1 h).1)
    rw[if_neg k1,if_neg k1,if_neg (fun a=>k1 a.1)]
    exact fin (I T 0) (I T 1) ((I T 7)+I T 6+2) (by rw[e34,if_neg n18,e32,if_neg n20]) (by rw[e35,if_neg n18,e33,if_neg n20]) (by rw[e53,if_neg n43,x39,x38]) (by omega) (by omega) (by omega)
 ·obtain⟨e8,e9,e10,e11,e12,e13,e14,e15,e16,e17,e18,e19,e20,e21,e22,e23,-⟩:=F0
  simp only[AE,AG,zR,AS,w2P] at*
  intro hp
  have h1:=e21.1 hp
  obtain⟨⟨p1,p2⟩,p3,p4⟩:=Af.1 pre0
  obtain⟨⟨p5,p6⟩,p7,p8⟩:=Af.1 pre1
  have x8:=e8 (by omega) (by omega)
  have x9:=e9 (by omega) (by omega)
  have m3:=sqB (a:=I T 8) (A:=8388608) (by omega)
  have m4:=sqB (a:=I T 9) (A:=8388608) (by omega)
  have x15:=e15 (by omega) (by omega)
  have x16:=e16 (by omega) (by omega)
  have x17:=e17 (by omega) (by omega)
  have x22:(I T 22)=(I T 17) / 32768:=by rw[e22,if_pos (by omega)]
  omega
theorem ZA:Ao Try.prog 24 C4:=by
 refine AZ (l:=[]) BH (by intro p h;exact absurd h (by simp)) cN (by kernel_rfl) fun T us hpre hT hul hS hBd hE=>?_
 change us.length=8 at hul
 clear hBd
 have ha0:aI us 0=I T 0:=inI hT hul (by decide)
 have ha1:aI us 1=I T 1:=inI hT hul (by decide)
 have ha2:aI us 2=I T 2:=inI hT hul (by decide)
 have ha3:aI us 3=I T 3:=inI hT hul (by decide)
 have ha4:aI us 4=I T 4:=inI hT hul (by decide)
 have ha5:aI us 5=I T 5:=inI hT hul (by decide)
 have ha6:aI us 6=I T 6:=inI hT hul (by decide)
 have ha7:aI us 7=I T 7:=inI hT hul (by decide)
 have pre0:AF (I T 0) (I T 1)=true:=by
  have h:=hpre (.s "reached.p0",Fg) (by simp[C4])
  change Fg us at h
  unfold Fg at h
  simp only[ha0,ha1] at h
  exact h
 have pre1:AF (I T 2) (I T 3)=true:=by
  have h:=hpre (.s "reached.p1",Ff) (by simp[C4])
  change Ff us at h
  unfold Ff at h
  simp only[ha2,ha3] at h
  exact h
 have pre2:AF (I T 4) (I T 5)=true:=by
  have h:=hpre (.s "reached.p2",Fa) (by simp[C4])
  change Fa us at h
  unfold Fa at h
  simp only[ha4,ha5] at h
  exact h
 have pre3:1≤I T 6∧I T 6≤16384:=by
  have h:=hpre (.s "reached.p3",Fm) (by simp[C4])
  change Fm us at h
  unfold Fm at h
  simp only[ha6] at h
  exact h
 have pre4:1≤I T 7∧I T 7≤16384:=by
  have h:=hpre (.s "reached.p4",Fc) (by simp[C4])
  change Fc us at h
  unfold Fc at h
  simp only[ha7] at h
  exact h
 clear hpre
 skip
 obtain⟨A0,hO⟩:=Ap (tys:=[.b]) (rs:=SL) hS (by kernel_rfl) hE
 obtain⟨q0,r0⟩:=cQ pre0 pre1 pre2 pre3 pre4 A0
 refine⟨⟨r0,trivial⟩,hO.trans ?_⟩
 exact (lc (by show U.bool (B T 58)= .bool (Hg us);unfold Hg;rw[ha0,ha1,ha2,ha3,ha4,ha5,ha6,ha7];exact congrArg U.bool q0) rfl)
end Go.Eng
end
