/-
  A part of the proof: K_lLined K_lLine.
-/
import Derived.Test.YtmlmcidljiibaaaXQlLine
import Derived.Test.YtmlmcidljiibaaaE3
import Derived.Test.YtmlmcidljiibaaaE4
import Derived.Test.YtmlmcidljiibaaaKgreat
import Derived.Test.YtmlmcidljiibaaaKworks
import Derived.Test.YtmlmcidljiibaaaKrcheck
import Derived.Test.YtmlmcidljiibaaaKqplace
import Derived.Test.YtmlmcidljiibaaaKqnumber
import Derived.Test.YtmlmcidljiibaaaKqspot
import Derived.Test.YtmlmcidljiibaaaKsquare
set_option linter.unusedVariables false
set_option linter.unusedSimpArgs false
noncomputable section
open Go Go.Eng Go.Proofs
set_option maxHeartbeats 4000000
set_option maxRecDepth 100000
namespace Go.Eng
def qg:List Kd:=[.str,k64,k64,k64,.list [k64,k64,k64,k64,.bool],k64,k64,k64,k64,k64,.list [k64,k64,k64],k64,k64,k64,k64,k64]
def qj:List AC:=((HI Try.prog 9 Try.f10.params.toList 0).map (·.1)).getD []
def qV:List Rf:=[.e 0,.e 1,.e 2,.e 3,.e 4,.e 5,.e 6,.e 7,.e 8,.e 9,.e 10]
def qT:List Rf:=[.e 0,.e 1,.e 2,.e 3,.e 4,.e 5,.e 6,.e 7,.e 8,.e 9,.e 10,.e 15]
def qR:List Rf:=[.e 0,.e 1,.e 2,.e 3,.e 4,.e 5,.e 6,.e 7,.e 8,.e 9,.e 10,.e 23,.e 24]
def qS:List Rf:=[.e 0,.e 1,.e 2,.e 3,.e 4,.e 5,.e 6,.e 7,.e 8,.e 9,.e 10,.e 11,.e 12]
def qU:List Rf:=[.e 0,.e 1,.e 2,.e 3,.e 4,.e 5,.e 6,.e 7,.e 8,.e 9,.e 10,.e 50]
def qW:List Rf:=[.e 0,.e 1,.e 2,.e 3,.e 4,.e 5,.e 6,.e 7,.e 8,.e 9,.e 10,.e 65,.e 66]
def qp:List En:=[⟨16,.outB "great.0" JV,qV⟩,
 ⟨17,.not,[.e 16]⟩,
 ⟨18,.outI "rcheck.0" GK,qV⟩,
 ⟨19,.ne,[.e 18,.c (.int 0)]⟩,
 ⟨20,.or,[.e 16,.e 19]⟩,
 ⟨21,.outB "works.0" HN,[]⟩,
 ⟨22,.not,[.e 20]⟩,
 ⟨23,.outI "qplace.0" mp,qT⟩,
 ⟨24,.outI "qplace.1" mq,qT⟩,
 ⟨25,.outI "qplace.2" mZ,qT⟩,
 ⟨26,.eq,[.e 25,.c (.int 0)]⟩,
 ⟨27,.and,[.e 22,.e 26]⟩,
 ⟨28,.outI "qnumber.0" mA,qR⟩,
 ⟨29,.outI "qnumber.1" mP,qR⟩,
 ⟨30,.outI "qspot.0" nF,qR⟩,
 ⟨31,.outI "qspot.1" nE,qR⟩]
def qv:List En:=[⟨32,.outB "qspot.2" nD,qR⟩,
 ⟨33,.outI "qspot.3" nC,qR⟩,
 ⟨34,.ne,[.e 29,.c (.int 0)]⟩,
 ⟨35,.and,[.e 27,.n 34]⟩,
 ⟨36,.ne,[.e 33,.c (.int 0)]⟩,
 ⟨37,.or,[.e 34,.e 36]⟩,
 ⟨38,.and,[.e 27,.n 37]⟩,
 ⟨39,.ne,[.e 28,.e 15]⟩,
 ⟨40,.or,[.e 37,.e 39]⟩,
 ⟨41,.and,[.e 27,.n 40]⟩,
 ⟨42,.or,[.e 40,.e 32]⟩,
 ⟨43,.and,[.e 27,.n 42]⟩,
 ⟨44,.nes [.i,.i],[.e 30,.e 23,.e 31,.e 24]⟩,
 ⟨45,.or,[.e 42,.e 44]⟩,
 ⟨46,.and,[.e 27,.e 45]⟩,
 ⟨47,.and,[.e 27,.n 45]⟩]
def qw:List En:=[⟨48,.and,[.e 22,.n 26]⟩,
 ⟨49,.or,[.e 47,.e 48]⟩,
 ⟨50,.outI "qnumber.0" mA,qS⟩,
 ⟨51,.outI "qnumber.1" mP,qS⟩,
 ⟨52,.eq,[.e 51,.c (.int 0)]⟩,
 ⟨53,.and,[.e 49,.e 52]⟩,
 ⟨54,.outI "qplace.0" mp,qU⟩,
 ⟨55,.outI "qplace.1" mq,qU⟩,
 ⟨56,.outI "qplace.2" mZ,qU⟩,
 ⟨57,.ne,[.e 56,.c (.int 0)]⟩,
 ⟨58,.and,[.e 53,.n 57]⟩,
 ⟨59,.nes [.i,.i],[.e 54,.e 11,.e 55,.e 12]⟩,
 ⟨60,.or,[.e 57,.e 59]⟩,
 ⟨61,.and,[.e 53,.e 60]⟩,
 ⟨62,.and,[.e 53,.n 60]⟩,
 ⟨63,.and,[.e 49,.n 52]⟩]
def qn:List En:=[⟨64,.or,[.e 62,.e 63]⟩,
 ⟨65,.outI "qspot.0" nF,qS⟩,
 ⟨66,.outI "qspot.1" nE,qS⟩,
 ⟨67,.outB "qspot.2" nD,qS⟩,
 ⟨68,.outI "qspot.3" nC,qS⟩,
 ⟨69,.ne,[.e 68,.c (.int 0)]⟩,
 ⟨70,.and,[.e 64,.e 69]⟩,
 ⟨71,.eqs [.i,.i],[.e 65,.c (.int 0),.e 66,.c (.int 0)]⟩,
 ⟨72,.and,[.e 70,.e 71]⟩,
 ⟨73,.and,[.e 71,.n 67]⟩,
 ⟨74,.and,[.e 70,.e 73]⟩,
 ⟨75,.outB "works.0" HN,[]⟩,
 ⟨76,.and,[.e 73,.e 75]⟩,
 ⟨77,.and,[.e 64,.n 69]⟩,
 ⟨78,.outI "qnumber.0" mA,qW⟩,
 ⟨79,.outI "qnumber.1" mP,qW⟩]
def qt:List En:=[⟨80,.and,[.e 77,.e 67]⟩,
 ⟨81,.ne,[.e 79,.c (.int 0)]⟩,
 ⟨82,.and,[.e 67,.e 81]⟩,
 ⟨83,.and,[.e 77,.n 82]⟩,
 ⟨84,.and,[.e 83,.n 67]⟩,
 ⟨85,.nes [.i,.i],[.e 65,.e 11,.e 66,.e 12]⟩,
 ⟨86,.and,[.n 67,.e 85]⟩,
 ⟨87,.or,[.e 82,.e 86]⟩,
 ⟨88,.and,[.e 77,.e 87]⟩,
 ⟨89,.and,[.e 77,.n 87]⟩,
 ⟨90,.w2 .i64 .sub,[.e 1,.e 3]⟩,
 ⟨91,.o2 .min,[.e 13,.e 90]⟩,
 ⟨92,.o2 .max,[.e 3,.e 91]⟩,
 ⟨93,.w2 .i64 .sub,[.e 2,.e 3]⟩,
 ⟨94,.o2 .min,[.e 14,.e 93]⟩,
 ⟨95,.o2 .max,[.e 3,.e 94]⟩]
def qr:List En:=[⟨96,.outI "square.0" qd,[.e 11,.e 12,.e 65,.e 66]⟩,
 ⟨97,.outI "square.0" qd,[.e 11,.e 12,.e 92,.e 95]⟩,
 ⟨98,.le,[.e 96,.e 97]⟩,
 ⟨99,.and,[.e 89,.e 98]⟩,
 ⟨100,.outB "works.0" HN,[]⟩,
 ⟨101,.and,[.e 98,.e 100]⟩,
 ⟨102,.ite .b,[.e 88,.c (.bool false),.e 101]⟩,
 ⟨103,.or,[.e 88,.e 89]⟩,
 ⟨104,.ite .b,[.e 70,.e 76,.e 102]⟩,
 ⟨105,.or,[.e 70,.e 103]⟩,
 ⟨106,.ite .b,[.e 61,.c (.bool false),.e 104]⟩,
 ⟨107,.ite .i,[.e 61,.e 51,.e 68]⟩,
 ⟨108,.or,[.e 61,.e 105]⟩,
 ⟨109,.ite .b,[.e 46,.c (.bool false),.e 106]⟩,
 ⟨110,.ite .i,[.e 46,.e 25,.e 107]⟩,
 ⟨111,.or,[.e 46,.e 108]⟩]
def qo:List En:=[⟨112,.ite .b,[.e 20,.e 21,.e 109]⟩,
 ⟨113,.or,[.e 20,.e 111]⟩]
def qe:List En:=qp++(qv++(qw++(qn++(qt++(qr++(qo))))))
def qz:List ObE:=[⟨some 89,.pre "square.p0" qX,[.e 11,.e 12,.e 92,.e 95]⟩,
 ⟨some 89,.pre "square.p1" qY,[.e 11,.e 12,.e 92,.e 95]⟩,
 ⟨some 89,.pre "square.p0" qX,[.e 11,.e 12,.e 65,.e 66]⟩,
 ⟨some 89,.pre "square.p1" qY,[.e 11,.e 12,.e 65,.e 66]⟩]
def rQ:List Rf:=[.e 112]
theorem rT:WP 16 (YW Try.prog [(12,J6),(13,KO),(16,C3),(38,nA),(34,mW),(33,nI),(39,qZ)] Ah 3000 20 10 qj 16)=some (112,(qe).map En.be,qz.map ObE.be):=by kernel_rfl
theorem rO {T:Tab}(hz0:(S T 0).size≤140737488355328)(hl4:(L T 4).length≤140737488355328)(hl10:(L T 10).length≤140737488355328)(g:Ln)(hg:g=Ln.mk (S T 0) (I T 1) (I T 2) (I T 3) (L T 4) (I T 5) (I T 6) (I T 7) (I T 8) (I T 9) (L T 10))(hb4:(L T 4).length≤1048576)(hb10:(L T 10).length≤1048576)(g1:Ln)(z1:g1=Ln.mk (S T 0) (I T 1) (I T 2) (I T 3) (L T 4) (I T 5) (I T 6) (I T 7) (I T 8) (I T 9) (L T 10))(g2:Ln)(z2:g2=Ln.mk (S T 0) (I T 1) (I T 2) (I T 3) (L T 4) (I T 5) (I T 6) (I T 7) (I T 8) (I T 9) (L T 10))(g3:Ln)(z3:g3=Ln.mk (S T 0) (I T 1) (I T 2) (I T 3) (L T 4) (I T 5) (I T 6) (I T 7) (I T 8) (I T 9) (L T 10))(g4:Ln)(z4:g4=Ln.mk (S T 0) (I T 1) (I T 2) (I T 3) (L T 4) (I T 5) (I T 6) (I T 7) (I T 8) (I T 9) (L T 10))(g5:Ln)(z5:g5=Ln.mk (S T 0) (I T 1) (I T 2) (I T 3) (L T 4) (I T 5) (I T 6) (I T 7) (I T 8) (I T 9) (L T 10))(g6:Ln)(z6:g6=Ln.mk (S T 0) (I T 1) (I T 2) (I T 3) (L T 4) (I T 5) (I T 6) (I T 7) (I T 8) (I T 9) (L T 10))(A0:AJ T qe):
  ((B T 112)=(true))∧
  (B T 89=true→(-8388608≤I T 11∧I T 11≤8388608)∧(-8388608≤I T 12∧I T 12≤8388608))∧
  (B T 89=true→(-8388608≤I T 92∧I T 92≤8388608)∧(-8388608≤I T 95∧I T 95≤8388608))∧
  (B T 89=true→(-8388608≤I T 11∧I T 11≤8388608)∧(-8388608≤I T 12∧I T 12≤8388608))∧
  (B T 89=true→(-8388608≤I T 65∧I T 65≤8388608)∧(-8388608≤I T 66∧I T 66≤8388608)):=by
 obtain⟨F0,A0⟩:=A0.cut
 obtain⟨F1,A0⟩:=A0.cut
 obtain⟨F2,A0⟩:=A0.cut
 obtain⟨F3,A0⟩:=A0.cut
 obtain⟨F4,A0⟩:=A0.cut
 obtain⟨F5,A0⟩:=A0.cut
 have F6:=A0;clear A0
 have hgs:g1=g∧g2=g∧g3=g∧g4=g∧g5=g∧g6=g:=by
  exact⟨by rw[z1,hg],by rw[z2,hg],by rw[z3,hg],by rw[z4,hg],by rw[z5,hg],by rw[z6,hg]⟩
 have hw:g.wide=I T 1∧g.long=I T 2∧g.yard=I T 3∧g.nx=I T 8∧g.ny=I T 9∧g.cells=((L T 10)):=by
  rw[hg];exact⟨rfl,rfl,rfl,rfl,rfl,rfl⟩
 have h22:(B T 22)=true→AT g=0:=by
  obtain⟨e16,-,e18,e19,e20,-,e22,-⟩:=F0
  replace e16:B T 16=(Ld g1):=by rw[←show gAt 0 (qV.map (Rf.eval T))=g1 from z1.symm];exact e16
  replace e18:I T 18=(AT g1):=by rw[←show gAt 0 (qV.map (Rf.eval T))=g1 from z1.symm];exact e18
  simp only[AE,AF,zR] at e19 e20 e22
  intro h
  have h1:¬B T 19=true:=by clear hgs hw e18 e16;grind
  rw[hgs.1] at e18
  rw[←e18]
  apply Classical.byContradiction
  intro hn
  exact h1 (e19.2 hn)
 have n46:(B T 46)=false:=by
  obtain⟨e16,-,e18,e19,e20,-,e22,e23,e24,e25,e26,e27,e28,e29,e30,e31,-⟩:=F0
  obtain⟨e32,e33,e34,-,e36,e37,-,e39,e40,-,e42,-,e44,e45,e46,-⟩:=F1
  replace e16:B T 16=(Ld g1):=by rw[←show gAt 0 (qV.map (Rf.eval T))=g1 from z1.symm];exact e16
  replace e18:I T 18=(AT g1):=by rw[←show gAt 0 (qV.map (Rf.eval T))=g1 from z1.symm];exact e18
  replace e23:I T 23=(mT g2 (I T 15)):=by rw[←show gAt 0 (qT.map (Rf.eval T))=g2 from z2.symm];exact e23
  replace e24:I T 24=(mR g2 (I T 15)):=by rw[←show gAt 0 (qT.map (Rf.eval T))=g2 from z2.symm];exact e24
  replace e25:I T 25=(ln g2 (I T 15)):=by rw[←show gAt 0 (qT.map (Rf.eval T))=g2 from z2.symm];exact e25
  replace e28:I T 28=(lz g3 (I T 23) (I T 24)):=by rw[←show gAt 0 (qR.map (Rf.eval T))=g3 from z3.symm];exact e28
  replace e29:I T 29=(lw g3 (I T 23) (I T 24)):=by rw[←show gAt 0 (qR.map (Rf.eval T))=g3 from z3.symm];exact e29
  replace e30:I T 30=(mJ g3 (I T 23) (I T 24)):=by rw[←show gAt 0 (qR.map (Rf.eval T))=g3 from z3.symm];exact e30
  replace e31:I T 31=(mN g3 (I T 23) (I T 24)):=by rw[←show gAt 0 (qR.map (Rf.eval T))=g3 from z3.symm];exact e31
  replace e32:B T 32=(mE g3 (I T 23) (I T 24)):=by rw[←show gAt 0 (qR.map (Rf.eval T))=g3 from z3.symm];exact e32
  replace e33:I T 33=(A6 g3 (I T 23) (I T 24)):=by rw[←show gAt 0 (qR.map (Rf.eval T))=g3 from z3.symm];exact e33
  simp only[AE,AF,zR,Bb,and_true] at*
  refine Bool.eq_false_iff.2 fun hk=>?_
  obtain⟨g1,g2,g3,g4,g5,g6⟩:=hgs
  have h1:=e46.1 hk
  have h2:=e27.1 h1.1
  have h3:=e26.1 h2.2
  rw[e25,g2] at h3
  obtain⟨q1,q2,q3,q4,q5,q6⟩:=rA (h22 h2.1) h3
  rw[g2] at e23 e24
  rw[g3,e23,e24] at e28 e29 e30 e31 e32 e33
  have m34:¬B T 34=true:=fun h=>e34.1 h (by rw[e29,q1])
  have m36:¬B T 36=true:=fun h=>e36.1 h (by rw[e33,q3])
  have m39:¬B T 39=true:=fun h=>e39.1 h (by rw[e28,q2])
  have m32:¬B T 32=true:=fun h=>by rw[e32,q6] at h;exact Bool.false_ne_true h
  have m44:¬B T 44=true:=fun h=>e44.1 h ⟨by rw[e30,q4,e23],by rw[e31,q5,e24]⟩
  exact m44 ((e45.1 h1.2).resolve_left fun h=>m32 ((e42.1 h).resolve_left fun h=>m39 ((e40.1 h).resolve_left fun h=>m36 ((e37.1 h).resolve_left m34))))
 have n61:(B T 61)=false:=by
  obtain⟨e16,-,e18,e19,e20,-,e22,e23,e24,e25,e26,e27,e28,e29,e30,e31,-⟩:=F0
  obtain⟨e32,e33,e34,-,e36,e37,-,e39,e40,-,e42,-,e44,e45,-,e47,-⟩:=F1
  obtain⟨e48,e49,e50,e51,e52,e53,e54,e55,e56,e57,-,e59,e60,e61,-⟩:=F2
  replace e16:B T 16=(Ld g1):=by rw[←show gAt 0 (qV.map (Rf.eval T))=g1 from z1.symm];exact e16
  replace e18:I T 18=(AT g1):=by rw[←show gAt 0 (qV.map (Rf.eval T))=g1 from z1.symm];exact e18
  replace e23:I T 23=(mT g2 (I T 15)):=by rw[←show gAt 0 (qT.map (Rf.eval T))=g2 from z2.symm];exact e23
  replace e24:I T 24=(mR g2 (I T 15)):=by rw[←show gAt 0 (qT.map (Rf.eval T))=g2 from z2.symm];exact e24
  replace e25:I T 25=(ln g2 (I T 15)):=by rw[←show gAt 0 (qT.map (Rf.eval T))=g2 from z2.symm];exact e25
  replace e28:I T 28=(lz g3 (I T 23) (I T 24)):=by rw[←show gAt 0 (qR.map (Rf.eval T))=g3 from z3.symm];exact e28
  replace e29:I T 29=(lw g3 (I T 23) (I T 24)):=by rw[←show gAt 0 (qR.map (Rf.eval T))=g3 from z3.symm];exact e29
  replace e30:I T 30=(mJ g3 (I T 23) (I T 24)):=by rw[←show gAt 0 (qR.map (Rf.eval T))=g3 from z3.symm];exact e30
  replace e31:I T 31=(mN g3 (I T 23) (I T 24)):=by rw[←show gAt 0 (qR.map (Rf.eval T))=g3 from z3.symm];exact e31
  replace e32:B T 32=(mE g3 (I T 23) (I T 24)):=by rw[←show gAt 0 (qR.map (Rf.eval T))=g3 from z3.symm];exact e32
  replace e33:I T 33=(A6 g3 (I T 23) (I T 24)):=by rw[←show gAt 0 (qR.map (Rf.eval T))=g3 from z3.symm];exact e33
  replace e50:I T 50=(lz g4 (I T 11) (I T 12)):=by rw[←show gAt 0 (qS.map (Rf.eval T))=g4 from z4.symm];exact e50
  replace e51:I T 51=(lw g4 (I T 11) (I T 12)):=by rw[←show gAt 0 (qS.map (Rf.eval T))=g4 from z4.symm];exact e51
  replace e54:I T 54=(mT g5 (I T 50)):=by rw[←show gAt 0 (qU.map (Rf.eval T))=g5 from z5.symm];exact e54
  replace e55:I T 55=(mR g5 (I T 50)):=by rw[←show gAt 0 (qU.map (Rf.eval T))=g5 from z5.symm];exact e55
  replace e56:I T 56=(ln g5 (I T 50)):=by rw[←show gAt 0 (qU.map (Rf.eval T))=g5 from z5.symm];exact e56
  simp only[AE,AF,zN,zR,Bb,and_true] at*
  refine Bool.eq_false_iff.2 fun hk=>?_
  obtain⟨g1,g2,g3,g4,g5,g6⟩:=hgs
  have h1:=e61.1 hk
  have h2:=e53.1 h1.1
  have h3:=e52.1 h2.2
  rw[e51,g4] at h3
  obtain⟨q1,q2,q3⟩:=qu h3
  rw[g4] at e50
  rw[g5,e50] at e54 e55 e56
  have m57:¬B T 57=true:=fun h=>e57.1 h (by rw[e56,q1])
  have m59:¬B T 59=true:=fun h=>e59.1 h ⟨by rw[e54,q2],by rw[e55,q3]⟩
  exact m59 ((e60.1 h1.2).resolve_left m57)
 have h76:(B T 70)=true→B T 76=true:=by
  obtain⟨e16,-,e18,e19,e20,-,e22,e23,e24,e25,e26,e27,e28,e29,e30,e31,-⟩:=F0
  obtain⟨e32,e33,e34,-,e36,e37,-,e39,e40,-,e42,-,e44,e45,-,e47,-⟩:=F1
  obtain⟨e48,e49,e50,e51,e52,e53,e54,e55,e56,e57,-,e59,e60,-,e62,e63,-⟩:=F2
  obtain⟨e64,e65,e66,e67,e68,e69,e70,e71,-,e73,-,e75,e76,-⟩:=F3
  replace e16:B T 16=(Ld g1):=by rw[←show gAt 0 (qV.map (Rf.eval T))=g1 from z1.symm];exact e16
  replace e18:I T 18=(AT g1):=by rw[←show gAt 0 (qV.map (Rf.eval T))=g1 from z1.symm];exact e18
  replace e23:I T 23=(mT g2 (I T 15)):=by rw[←show gAt 0 (qT.map (Rf.eval T))=g2 from z2.symm];exact e23
  replace e24:I T 24=(mR g2 (I T 15)):=by rw[←show gAt 0 (qT.map (Rf.eval T))=g2 from z2.symm];exact e24
  replace e25:I T 25=(ln g2 (I T 15)):=by rw[←show gAt 0 (qT.map (Rf.eval T))=g2 from z2.symm];exact e25
  replace e28:I T 28=(lz g3 (I T 23) (I T 24)):=by rw[←show gAt 0 (qR.map (Rf.eval T))=g3 from z3.symm];exact e28
  replace e29:I T 29=(lw g3 (I T 23) (I T 24)):=by rw[←show gAt 0 (qR.map (Rf.eval T))=g3 from z3.symm];exact e29
  replace e30:I T 30=(mJ g3 (I T 23) (I T 24)):=by rw[←show gAt 0 (qR.map (Rf.eval T))=g3 from z3.symm];exact e30
  replace e31:I T 31=(mN g3 (I T 23) (I T 24)):=by rw[←show gAt 0 (qR.map (Rf.eval T))=g3 from z3.symm];exact e31
  replace e32:B T 32=(mE g3 (I T 23) (I T 24)):=by rw[←show gAt 0 (qR.map (Rf.eval T))=g3 from z3.symm];exact e32
  replace e33:I T 33=(A6 g3 (I T 23) (I T 24)):=by rw[←show gAt 0 (qR.map (Rf.eval T))=g3 from z3.symm];exact e33
  replace e50:I T 50=(lz g4 (I T 11) (I T 12)):=by rw[←show gAt 0 (qS.map (Rf.eval T))=g4 from z4.symm];exact e50
  replace e51:I T 51=(lw g4 (I T 11) (I T 12)):=by rw[←show gAt 0 (qS.map (Rf.eval T))=g4 from z4.symm];exact e51
  replace e54:I T 54=(mT g5 (I T 50)):=by rw[←show gAt 0 (qU.map (Rf.eval T))=g5 from z5.symm];exact e54
  replace e55:I T 55=(mR g5 (I T 50)):=by rw[←show gAt 0 (qU.map (Rf.eval T))=g5 from z5.symm];exact e55
  replace e56:I T 56=(ln g5 (I T 50)):=by rw[←show gAt 0 (qU.map (Rf.eval T))=g5 from z5.symm];exact e56
  replace e65:I T 65=(mJ g4 (I T 11) (I T 12)):=by rw[←show gAt 0 (qS.map (Rf.eval T))=g4 from z4.symm];exact e65
  replace e66:I T 66=(mN g4 (I T 11) (I T 12)):=by rw[←show gAt 0 (qS.map (Rf.eval T))=g4 from z4.symm];exact e66
  replace e67:B T 67=(mE g4 (I T 11) (I T 12)):=by rw[←show gAt 0 (qS.map (Rf.eval T))=g4 from z4.symm];exact e67
  replace e68:I T 68=(A6 g4 (I T 11) (I T 12)):=by rw[←show gAt 0 (qS.map (Rf.eval T))=g4 from z4.symm];exact e68
  replace e75:B T 75=(true):=e75
  simp only[AE,AF,zN,zR,Bb,and_true] at*
  intro hk
  obtain⟨g1,g2,g3,g4,g5,g6⟩:=hgs
  have h1:=e69.1 (e70.1 hk).2
  rw[e68,g4] at h1
  obtain⟨q1,q2,q3⟩:=rJ h1
  rw[g4] at e65 e66 e67
  exact e76.2 ⟨e73.2 ⟨e71.2 ⟨by rw[e65,q1],by rw[e66,q2]⟩,by rw[e67,q3]⟩,e75⟩
 have n88:(B T 88)=false:=by
  obtain⟨e16,-,e18,e19,e20,-,e22,e23,e24,e25,e26,e27,e28,e29,e30,e31,-⟩:=F0
  obtain⟨e32,e33,e34,-,e36,e37,-,e39,e40,-,e42,-,e44,e45,-,e47,-⟩:=F1
  obtain⟨e48,e49,e50,e51,e52,e53,e54,e55,e56,e57,-,e59,e60,-,e62,e63,-⟩:=F2
  obtain⟨e64,e65,e66,e67,e68,e69,-,-,-,-,-,-,-,e77,-,e79,-⟩:=F3
  obtain⟨-,e81,e82,-,-,e85,e86,e87,e88,-⟩:=F4
  replace e16:B T 16=(Ld g1):=by rw[←show gAt 0 (qV.map (Rf.eval T))=g1 from z1.symm];exact e16
  replace e18:I T 18=(AT g1):=by rw[←show gAt 0 (qV.map (Rf.eval T))=g1 from z1.symm];exact e18
  replace e23:I T 23=(mT g2 (I T 15)):=by rw[←show gAt 0 (qT.map (Rf.eval T))=g2 from z2.symm];exact e23
  replace e24:I T 24=(mR g2 (I T 15)):=by rw[←show gAt 0 (qT.map (Rf.eval T))=g2 from z2.symm];exact e24
  replace e25:I T 25=(ln g2 (I T 15)):=by rw[←show gAt 0 (qT.map (Rf.eval T))=g2 from z2.symm];exact e25
  replace e28:I T 28=(lz g3 (I T 23) (I T 24)):=by rw[←show gAt 0 (qR.map (Rf.eval T))=g3 from z3.symm];exact e28
  replace e29:I T 29=(lw g3 (I T 23) (I T 24)):=by rw[←show gAt 0 (qR.map (Rf.eval T))=g3 from z3.symm];exact e29
  replace e30:I T 30=(mJ g3 (I T 23) (I T 24)):=by rw[←show gAt 0 (qR.map (Rf.eval T))=g3 from z3.symm];exact e30
  replace e31:I T 31=(mN g3 (I T 23) (I T 24)):=by rw[←show gAt 0 (qR.map (Rf.eval T))=g3 from z3.symm];exact e31
  replace e32:B T 32=(mE g3 (I T 23) (I T 24)):=by rw[←show gAt 0 (qR.map (Rf.eval T))=g3 from z3.symm];exact e32
  replace e33:I T 33=(A6 g3 (I T 23) (I T 24)):=by rw[←show gAt 0 (qR.map (Rf.eval T))=g3 from z3.symm];exact e33
  replace e50:I T 50=(lz g4 (I T 11) (I T 12)):=by rw[←show gAt 0 (qS.map (Rf.eval T))=g4 from z4.symm];exact e50
  replace e51:I T 51=(lw g4 (I T 11) (I T 12)):=by rw[←show gAt 0 (qS.map (Rf.eval T))=g4 from z4.symm];exact e51
  replace e54:I T 54=(mT g5 (I T 50)):=by rw[←show gAt 0 (qU.map (Rf.eval T))=g5 from z5.symm];exact e54
  replace e55:I T 55=(mR g5 (I T 50)):=by rw[←show gAt 0 (qU.map (Rf.eval T))=g5 from z5.symm];exact e55
  replace e56:I T 56=(ln g5 (I T 50)):=by rw[←show gAt 0 (qU.map (Rf.eval T))=g5 from z5.symm];exact e56
  replace e65:I T 65=(mJ g4 (I T 11) (I T 12)):=by rw[←show gAt 0 (qS.map (Rf.eval T))=g4 from z4.symm];exact e65
  replace e66:I T 66=(mN g4 (I T 11) (I T 12)):=by rw[←show gAt 0 (qS.map (Rf.eval T))=g4 from z4.symm];exact e66
  replace e67:B T 67=(mE g4 (I T 11) (I T 12)):=by rw[←show gAt 0 (qS.map (Rf.eval T))=g4 from z4.symm];exact e67
  replace e68:I T 68=(A6 g4 (I T 11) (I T 12)):=by rw[←show gAt 0 (qS.map (Rf.eval T))=g4 from z4.symm];exact e68
  replace e79:I T 79=(lw g6 (I T 65) (I T 66)):=by rw[←show gAt 0 (qW.map (Rf.eval T))=g6 from z6.symm];exact e79
  simp only[AE,AF,zN,zR,Bb,and_true] at*
  refine Bool.eq_false_iff.2 fun hk=>?_
  obtain⟨g1,g2,g3,g4,g5,g6⟩:=hgs
  have h1:=e88.1 hk
  have h2:=e77.1 h1.1
  have h3:A6 g (I T 11) (I T 12)=0:=by
   rw[←g4,←e68]
   apply Classical.byContradiction
   intro hn
   have:=e69.2 hn
   rw[h2.2] at this
   exact Bool.false_ne_true this
  rw[g4] at e65 e66 e67
  rcases e87.1 h1.2 with h|h
  ·have h4:=e82.1 h
   rw[e67] at h4
   refine e81.1 h4.2 ?_
   rw[e79,g6,e65,e66]
   exact rS h3 h4.1
  ·have h4:=e86.1 h
   rw[e67] at h4
   obtain⟨q1,q2⟩:=rM h3 h4.1
   exact e85.1 h4.2 ⟨by rw[e65,q1],by rw[e66,q2]⟩
 have hs:(B T 77)=true→AH (I T 11) (I T 12)=true∧I T 65=FR g (I T 11)∧I T 66=FT g (I T 12)∧I T 92=FR g (I T 13)∧I T 95=FT g (I T 14)∧AT g=0∧A6 g (I T 11) (I T 12)=0∧(65536≤I T 1∧I T 1≤4194304)∧(65536≤I T 2∧I T 2≤4194304):=by
  obtain⟨e16,-,e18,e19,e20,-,e22,e23,e24,e25,e26,e27,e28,e29,e30,e31,-⟩:=F0
  obtain⟨e32,e33,e34,-,e36,e37,-,e39,e40,-,e42,-,e44,e45,-,e47,-⟩:=F1
  obtain⟨e48,e49,e50,e51,e52,e53,e54,e55,e56,e57,-,e59,e60,-,e62,e63,-⟩:=F2
  obtain⟨e64,e65,e66,-,e68,e69,-,-,-,-,-,-,-,e77,-⟩:=F3
  obtain⟨-,-,-,-,-,-,-,-,-,-,e90,e91,e92,e93,e94,e95,-⟩:=F4
  replace e16:B T 16=(Ld g1):=by rw[←show gAt 0 (qV.map (Rf.eval T))=g1 from z1.symm];exact e16
  replace e18:I T 18=(AT g1):=by rw[←show gAt 0 (qV.map (Rf.eval T))=g1 from z1.symm];exact e18
  replace e23:I T 23=(mT g2 (I T 15)):=by rw[←show gAt 0 (qT.map (Rf.eval T))=g2 from z2.symm];exact e23
  replace e24:I T 24=(mR g2 (I T 15)):=by rw[←show gAt 0 (qT.map (Rf.eval T))=g2 from z2.symm];exact e24
  replace e25:I T 25=(ln g2 (I T 15)):=by rw[←show gAt 0 (qT.map (Rf.eval T))=g2 from z2.symm];exact e25
  replace e28:I T 28=(lz g3 (I T 23) (I T 24)):=by rw[←show gAt 0 (qR.map (Rf.eval T))=g3 from z3.symm];exact e28
  replace e29:I T 29=(lw g3 (I T 23) (I T 24)):=by rw[←show gAt 0 (qR.map (Rf.eval T))=g3 from z3.symm];exact e29
  replace e30:I T 30=(mJ g3 (I T 23) (I T 24)):=by rw[←show gAt 0 (qR.map (Rf.eval T))=g3 from z3.symm];exact e30
  replace e31:I T 31=(mN g3 (I T 23) (I T 24)):=by rw[←show gAt 0 (qR.map (Rf.eval T))=g3 from z3.symm];exact e31
  replace e32:B T 32=(mE g3 (I T 23) (I T 24)):=by rw[←show gAt 0 (qR.map (Rf.eval T))=g3 from z3.symm];exact e32
  replace e33:I T 33=(A6 g3 (I T 23) (I T 24)):=by rw[←show gAt 0 (qR.map (Rf.eval T))=g3 from z3.symm];exact e33
  replace e50:I T 50=(lz g4 (I T 11) (I T 12)):=by rw[←show gAt 0 (qS.map (Rf.eval T))=g4 from z4.symm];exact e50
  replace e51:I T 51=(lw g4 (I T 11) (I T 12)):=by rw[←show gAt 0 (qS.map (Rf.eval T))=g4 from z4.symm];exact e51
  replace e54:I T 54=(mT g5 (I T 50)):=by rw[←show gAt 0 (qU.map (Rf.eval T))=g5 from z5.symm];exact e54
  replace e55:I T 55=(mR g5 (I T 50)):=by rw[←show gAt 0 (qU.map (Rf.eval T))=g5 from z5.symm];exact e55
  replace e56:I T 56=(ln g5 (I T 50)):=by rw[←show gAt 0 (qU.map (Rf.eval T))=g5 from z5.symm];exact e56
  replace e65:I T 65=(mJ g4 (I T 11) (I T 12)):=by rw[←show gAt 0 (qS.map (Rf.eval T))=g4 from z4.symm];exact e65
  replace e66:I T 66=(mN g4 (I T 11) (I T 12)):=by rw[←show gAt 0 (qS.map (Rf.eval T))=g4 from z4.symm];exact e66
  replace e68:I T 68=(A6 g4 (I T 11) (I T 12)):=by rw[←show gAt 0 (qS.map (Rf.eval T))=g4 from z4.symm];exact e68
  simp only[AE,AF,zN,zR,Bb,and_true,AR,w2P] at*
  intro hk
  obtain⟨g1,g2,g3,g4,g5,g6⟩:=hgs
  have h2:=e77.1 hk
  have h3:A6 g (I T 11) (I T 12)=0:=by
   rw[←g4,←e68]
   apply Classical.byContradiction
   intro hn
   have:=e69.2 hn
   rw[h2.2] at this
   exact Bool.false_ne_true this
  have h4:=lX h3
  have h5:=CP h4.1
  rw[hw.1,hw.2.1,hw.2.2.1] at h5
  obtain⟨⟨⟨d1,d2⟩,⟨d3,d4⟩,d5,d6⟩,d7,d8,-⟩:=h5
  rw[g4] at e65 e66
  have x90:=e90 (by omega) (by omega)
  have x93:=e93 (by omega) (by omega)
  refine⟨h4.2,e65.trans (if_pos h3),e66.trans (if_pos h3),?_,?_,h4.1,h3,d7,d8⟩
  ·unfold FR
   rw[hw.1,hw.2.2.1,e92]
   exact Qr (by omega) (by rw[e91,x90])
  ·unfold FT
   rw[hw.2.1,hw.2.2.1,e95]
   exact Qr (by omega) (by rw[e94,x93])
 have h98:(B T 77)=true→B T 98=true:=by
  obtain⟨e16,-,e18,e19,e20,-,e22,e23,e24,e25,e26,e27,e28,e29,e30,e31,-⟩:=F0
  obtain⟨e32,e33,e34,-,e36,e37,-,e39,e40,-,e42,-,e44,e45,-,e47,-⟩:=F1
  obtain⟨e48,e49,e50,e51,e52,e53,e54,e55,e56,e57,-,e59,e60,-,e62,e63,-⟩:=F2
  obtain⟨e64,e65,e66,-,e68,e69,-,-,-,-,-,-,-,e77,-⟩:=F3
  obtain⟨-,-,-,-,-,-,-,-,-,-,e90,e91,e92,e93,e94,e95,-⟩:=F4
  obtain⟨e96,e97,e98,-⟩:=F5
  replace e16:B T 16=(Ld g1):=by rw[←show gAt 0 (qV.map (Rf.eval T))=g1 from z1.symm];exact e16
  replace e18:I T 18=(AT g1):=by rw[←show gAt 0 (qV.map (Rf.eval T))=g1 from z1.symm];exact e18
  replace e23:I T 23=(mT g2 (I T 15)):=by rw[←show gAt 0 (qT.map (Rf.eval T))=g2 from z2.symm];exact e23
  replace e24:I T 24=(mR g2 (I T 15)):=by rw[←show gAt 0 (qT.map (Rf.eval T))=g2 from z2.symm];exact e24
  replace e25:I T 25=(ln g2 (I T 15)):=by rw[←show gAt 0 (qT.map (Rf.eval T))=g2 from z2.symm];exact e25
  replace e28:I T 28=(lz g3 (I T 23) (I T 24)):=by rw[←show gAt 0 (qR.map (Rf.eval T))=g3 from z3.symm];exact e28
  replace e29:I T 29=(lw g3 (I T 23) (I T 24)):=by rw[←show gAt 0 (qR.map (Rf.eval T))=g3 from z3.symm];exact e29
  replace e30:I T 30=(mJ g3 (I T 23) (I T 24)):=by rw[←show gAt 0 (qR.map (Rf.eval T))=g3 from z3.symm];exact e30
  replace e31:I T 31=(mN g3 (I T 23) (I T 24)):=by rw[←show gAt 0 (qR.map (Rf.eval T))=g3 from z3.symm];exact e31
  replace e32:B T 32=(mE g3 (I T 23) (I T 24)):=by rw[←show gAt 0 (qR.map (Rf.eval T))=g3 from z3.symm];exact e32
  replace e33:I T 33=(A6 g3 (I T 23) (I T 24)):=by rw[←show gAt 0 (qR.map (Rf.eval T))=g3 from z3.symm];exact e33
  replace e50:I T 50=(lz g4 (I T 11) (I T 12)):=by rw[←show gAt 0 (qS.map (Rf.eval T))=g4 from z4.symm];exact e50
  replace e51:I T 51=(lw g4 (I T 11) (I T 12)):=by rw[←show gAt 0 (qS.map (Rf.eval T))=g4 from z4.symm];exact e51
  replace e54:I T 54=(mT g5 (I T 50)):=by rw[←show gAt 0 (qU.map (Rf.eval T))=g5 from z5.symm];exact e54
  replace e55:I T 55=(mR g5 (I T 50)):=by rw[←show gAt 0 (qU.map (Rf.eval T))=g5 from z5.symm];exact e55
  replace e56:I T 56=(ln g5 (I T 50)):=by rw[←show gAt 0 (qU.map (Rf.eval T))=g5 from z5.symm];exact e56
  replace e65:I T 65=(mJ g4 (I T 11) (I T 12)):=by rw[←show gAt 0 (qS.map (Rf.eval T))=g4 from z4.symm];exact e65
  replace e66:I T 66=(mN g4 (I T 11) (I T 12)):=by rw[←show gAt 0 (qS.map (Rf.eval T))=g4 from z4.symm];exact e66
  replace e68:I T 68=(A6 g4 (I T 11) (I T 12)):=by rw[←show gAt 0 (qS.map (Rf.eval T))=g4 from z4.symm];exact e68
  replace e96:I T 96=(sq (I T 11) (I T 12) (I T 65) (I T 66)):=e96
  replace e97:I T 97=(sq (I T 11) (I T 12) (I T 92) (I T 95)):=e97
  simp only[AE,AF,zN,zR,Bb,and_true,AR,w2P] at*
  intro hk
  obtain⟨h1,h2,h3,h4,h5,h6,h7,-⟩:=hs hk
  refine e98.2 ?_
  rw[e96,e97,h4,h5,h2,h3]
  have hb:=qf (l:=g) (x:=I T 13) (y:=I T 14) h6
  have:=rF h7 hb.1 hb.2
  rwa [show mJ g (I T 11) (I T 12)=FR g (I T 11) from if_pos h7,show mN g (I T 11) (I T 12)=FT g (I T 12) from if_pos h7] at this
 refine⟨?_,?_,?_,?_,?_⟩
 ·obtain⟨e16,-,e18,e19,e20,e21,e22,e23,e24,e25,e26,e27,e28,e29,e30,e31,-⟩:=F0
  obtain⟨e32,e33,e34,-,e36,e37,-,e39,e40,-,e42,-,e44,e45,e46,e47,-⟩:=F1
  obtain⟨e48,e49,e50,e51,e52,e53,e54,e55,e56,e57,-,e59,e60,e61,e62,e63,-⟩:=F2
  obtain⟨e64,e65,e66,e67,e68,e69,e70,e71,-,e73,-,e75,e76,e77,-,e79,-⟩:=F3
  obtain⟨-,e81,e82,-,-,e85,e86,e87,e88,-,e90,e91,e92,e93,e94,e95,-⟩:=F4
  obtain⟨e96,e97,e98,-,e100,e101,e102,-,e104,-,e106,-,-,e109,-⟩:=F5
  obtain⟨e112,-⟩:=F6
  replace e16:B T 16=(Ld g1):=by rw[←show gAt 0 (qV.map (Rf.eval T))=g1 from z1.symm];exact e16
  replace e18:I T 18=(AT g1):=by rw[←show gAt 0 (qV.map (Rf.eval T))=g1 from z1.symm];exact e18
  replace e21:B T 21=(true):=e21
  replace e23:I T 23=(mT g2 (I T 15)):=by rw[←show gAt 0 (qT.map (Rf.eval T))=g2 from z2.symm];exact e23
  replace e24:I T 24=(mR g2 (I T 15)):=by rw[←show gAt 0 (qT.map (Rf.eval T))=g2 from z2.symm];exact e24
  replace e25:I T 25=(ln g2 (I T 15)):=by rw[←show gAt 0 (qT.map (Rf.eval T))=g2 from z2.symm];exact e25
  replace e28:I T 28=(lz g3 (I T 23) (I T 24)):=by rw[←show gAt 0 (qR.map (Rf.eval T))=g3 from z3.symm];exact e28
  replace e29:I T 29=(lw g3 (I T 23) (I T 24)):=by rw[←show gAt 0 (qR.map (Rf.eval T))=g3 from z3.symm];exact e29
  replace e30:I T 30=(mJ g3 (I T 23) (I T 24)):=by rw[←show gAt 0 (qR.map (Rf.eval T))=g3 from z3.symm];exact e30
  replace e31:I T 31=(mN g3 (I T 23) (I T 24)):=by rw[←show gAt 0 (qR.map (Rf.eval T))=g3 from z3.symm];exact e31
  replace e32:B T 32=(mE g3 (I T 23) (I T 24)):=by rw[←show gAt 0 (qR.map (Rf.eval T))=g3 from z3.symm];exact e32
  replace e33:I T 33=(A6 g3 (I T 23) (I T 24)):=by rw[←show gAt 0 (qR.map (Rf.eval T))=g3 from z3.symm];exact e33
  replace e50:I T 50=(lz g4 (I T 11) (I T 12)):=by rw[←show gAt 0 (qS.map (Rf.eval T))=g4 from z4.symm];exact e50
  replace e51:I T 51=(lw g4 (I T 11) (I T 12)):=by rw[←show gAt 0 (qS.map (Rf.eval T))=g4 from z4.symm];exact e51
  replace e54:I T 54=(mT g5 (I T 50)):=by rw[←show gAt 0 (qU.map (Rf.eval T))=g5 from z5.symm];exact e54
  replace e55:I T 55=(mR g5 (I T 50)):=by rw[←show gAt 0 (qU.map (Rf.eval T))=g5 from z5.symm];exact e55
  replace e56:I T 56=(ln g5 (I T 50)):=by rw[←show gAt 0 (qU.map (Rf.eval T))=g5 from z5.symm];exact e56
  replace e65:I T 65=(mJ g4 (I T 11) (I T 12)):=by rw[←show gAt 0 (qS.map (Rf.eval T))=g4 from z4.symm];exact e65
  replace e66:I T 66=(mN g4 (I T 11) (I T 12)):=by rw[←show gAt 0 (qS.map (Rf.eval T))=g4 from z4.symm];exact e66
  replace e67:B T 67=(mE g4 (I T 11) (I T 12)):=by rw[←show gAt 0 (qS.map (Rf.eval T))=g4 from z4.symm];exact e67
  replace e68:I T 68=(A6 g4 (I T 11) (I T 12)):=by rw[←show gAt 0 (qS.map (Rf.eval T))=g4 from z4.symm];exact e68
  replace e75:B T 75=(true):=e75
  replace e79:I T 79=(lw g6 (I T 65) (I T 66)):=by rw[←show gAt 0 (qW.map (Rf.eval T))=g6 from z6.symm];exact e79
  replace e96:I T 96=(sq (I T 11) (I T 12) (I T 65) (I T 66)):=e96
  replace e97:I T 97=(sq (I T 11) (I T 12) (I T 92) (I T 95)):=e97
  replace e100:B T 100=(true):=e100
  simp only[AE,AF,zN,zC,zR,Bb,and_true,AR,w2P,zL] at*
  rw[e112]
  have h101:(B T 77)=true→B T 101=true:=fun h=>e101.2 ⟨h98 h,e100⟩
  clear hs h98 hgs hw h22 e16 e18
  grind
 ·obtain⟨e16,-,e18,e19,e20,-,e22,e23,e24,e25,e26,e27,e28,e29,e30,e31,-⟩:=F0
  obtain⟨e32,e33,e34,-,e36,e37,-,e39,e40,-,e42,-,e44,e45,-,e47,-⟩:=F1
  obtain⟨e48,e49,e50,e51,e52,e53,e54,e55,e56,e57,-,e59,e60,-,e62,e63,-⟩:=F2
  obtain⟨e64,e65,e66,e67,e68,e69,-,-,-,-,-,-,-,e77,-,e79,-⟩:=F3
  obtain⟨-,e81,e82,-,-,e85,e86,e87,-,e89,-⟩:=F4
  replace e16:B T 16=(Ld g1):=by rw[←show gAt 0 (qV.map (Rf.eval T))=g1 from z1.symm];exact e16
  replace e18:I T 18=(AT g1):=by rw[←show gAt 0 (qV.map (Rf.eval T))=g1 from z1.symm];exact e18
  replace e23:I T 23=(mT g2 (I T 15)):=by rw[←show gAt 0 (qT.map (Rf.eval T))=g2 from z2.symm];exact e23
  replace e24:I T 24=(mR g2 (I T 15)):=by rw[←show gAt 0 (qT.map (Rf.eval T))=g2 from z2.symm];exact e24
  replace e25:I T 25=(ln g2 (I T 15)):=by rw[←show gAt 0 (qT.map (Rf.eval T))=g2 from z2.symm];exact e25
  replace e28:I T 28=(lz g3 (I T 23) (I T 24)):=by rw[←show gAt 0 (qR.map (Rf.eval T))=g3 from z3.symm];exact e28
  replace e29:I T 29=(lw g3 (I T 23) (I T 24)):=by rw[←show gAt 0 (qR.map (Rf.eval T))=g3 from z3.symm];exact e29
  replace e30:I T 30=(mJ g3 (I T 23) (I T 24)):=by rw[←show gAt 0 (qR.map (Rf.eval T))=g3 from z3.symm];exact e30
  replace e31:I T 31=(mN g3 (I T 23) (I T 24)):=by rw[←show gAt 0 (qR.map (Rf.eval T))=g3 from z3.symm];exact e31
  replace e32:B T 32=(mE g3 (I T 23) (I T 24)):=by rw[←show gAt 0 (qR.map (Rf.eval T))=g3 from z3.symm];exact e32
  replace e33:I T 33=(A6 g3 (I T 23) (I T 24)):=by rw[←show gAt 0 (qR.map (Rf.eval T))=g3 from z3.symm];exact e33
  replace e50:I T 50=(lz g4 (I T 11) (I T 12)):=by rw[←show gAt 0 (qS.map (Rf.eval T))=g4 from z4.symm];exact e50
  replace e51:I T 51=(lw g4 (I T 11) (I T 12)):=by rw[←show gAt 0 (qS.map (Rf.eval T))=g4 from z4.symm];exact e51
  replace e54:I T 54=(mT g5 (I T 50)):=by rw[←show gAt 0 (qU.map (Rf.eval T))=g5 from z5.symm];exact e54
  replace e55:I T 55=(mR g5 (I T 50)):=by rw[←show gAt 0 (qU.map (Rf.eval T))=g5 from z5.symm];exact e55
  replace e56:I T 56=(ln g5 (I T 50)):=by rw[←show gAt 0 (qU.map (Rf.eval T))=g5 from z5.symm];exact e56
  replace e65:I T 65=(mJ g4 (I T 11) (I T 12)):=by rw[←show gAt 0 (qS.map (Rf.eval T))=g4 from z4.symm];exact e65
  replace e66:I T 66=(mN g4 (I T 11) (I T 12)):=by rw[←show gAt 0 (qS.map (Rf.eval T))=g4 from z4.symm];exact e66
  replace e67:B T 67=(mE g4 (I T 11) (I T 12)):=by rw[←show gAt 0 (qS.map (Rf.eval T))=g4 from z4.symm];exact e67
  replace e68:I T 68=(A6 g4 (I T 11) (I T 12)):=by rw[←show gAt 0 (qS.map (Rf.eval T))=g4 from z4.symm];exact e68
  replace e79:I T 79=(lw g6 (I T 65) (I T 66)):=by rw[←show gAt 0 (qW.map (Rf.eval T))=g6 from z6.symm];exact e79
  simp only[AE,AF,zN,zR,Bb,and_true] at*
  intro h
  have h77:(B T 77)=true:=(e89.1 h).1
  obtain⟨h1,h2,h3,h4,h5,h6,h7,d7,d8⟩:=hs h77
  obtain⟨⟨p1,p2⟩,p3,p4⟩:=Av.1 h1
  omega
 ·obtain⟨e16,-,e18,e19,e20,-,e22,e23,e24,e25,e26,e27,e28,e29,e30,e31,-⟩:=F0
  obtain⟨e32,e33,e34,-,e36,e37,-,e39,e40,-,e42,-,e44,e45,-,e47,-⟩:=F1
  obtain⟨e48,e49,e50,e51,e52,e53,e54,e55,e56,e57,-,e59,e60,-,e62,e63,-⟩:=F2
  obtain⟨e64,e65,e66,e67,e68,e69,-,-,-,-,-,-,-,e77,-,e79,-⟩:=F3
  obtain⟨-,e81,e82,-,-,e85,e86,e87,-,e89,e90,e91,e92,e93,e94,e95,-⟩:=F4
  replace e16:B T 16=(Ld g1):=by rw[←show gAt 0 (qV.map (Rf.eval T))=g1 from z1.symm];exact e16
  replace e18:I T 18=(AT g1):=by rw[←show gAt 0 (qV.map (Rf.eval T))=g1 from z1.symm];exact e18
  replace e23:I T 23=(mT g2 (I T 15)):=by rw[←show gAt 0 (qT.map (Rf.eval T))=g2 from z2.symm];exact e23
  replace e24:I T 24=(mR g2 (I T 15)):=by rw[←show gAt 0 (qT.map (Rf.eval T))=g2 from z2.symm];exact e24
  replace e25:I T 25=(ln g2 (I T 15)):=by rw[←show gAt 0 (qT.map (Rf.eval T))=g2 from z2.symm];exact e25
  replace e28:I T 28=(lz g3 (I T 23) (I T 24)):=by rw[←show gAt 0 (qR.map (Rf.eval T))=g3 from z3.symm];exact e28
  replace e29:I T 29=(lw g3 (I T 23) (I T 24)):=by rw[←show gAt 0 (qR.map (Rf.eval T))=g3 from z3.symm];exact e29
  replace e30:I T 30=(mJ g3 (I T 23) (I T 24)):=by rw[←show gAt 0 (qR.map (Rf.eval T))=g3 from z3.symm];exact e30
  replace e31:I T 31=(mN g3 (I T 23) (I T 24)):=by rw[←show gAt 0 (qR.map (Rf.eval T))=g3 from z3.symm];exact e31
  replace e32:B T 32=(mE g3 (I T 23) (I T 24)):=by rw[←show gAt 0 (qR.map (Rf.eval T))=g3 from z3.symm];exact e32
  replace e33:I T 33=(A6 g3 (I T 23) (I T 24)):=by rw[←show gAt 0 (qR.map (Rf.eval T))=g3 from z3.symm];exact e33
  replace e50:I T 50=(lz g4 (I T 11) (I T 12)):=by rw[←show gAt 0 (qS.map (Rf.eval T))=g4 from z4.symm];exact e50
  replace e51:I T 51=(lw g4 (I T 11) (I T 12)):=by rw[←show gAt 0 (qS.map (Rf.eval T))=g4 from z4.symm];exact e51
  replace e54:I T 54=(mT g5 (I T 50)):=by rw[←show gAt 0 (qU.map (Rf.eval T))=g5 from z5.symm];exact e54
  replace e55:I T 55=(mR g5 (I T 50)):=by rw[←show gAt 0 (qU.map (Rf.eval T))=g5 from z5.symm];exact e55
  replace e56:I T 56=(ln g5 (I T 50)):=by rw[←show gAt 0 (qU.map (Rf.eval T))=g5 from z5.symm];exact e56
  replace e65:I T 65=(mJ g4 (I T 11) (I T 12)):=by rw[←show gAt 0 (qS.map (Rf.eval T))=g4 from z4.symm];exact e65
  replace e66:I T 66=(mN g4 (I T 11) (I T 12)):=by rw[←show gAt 0 (qS.map (Rf.eval T))=g4 from z4.symm];exact e66
  replace e67:B T 67=(mE g4 (I T 11) (I T 12)):=by rw[←show gAt 0 (qS.map (Rf.eval T))=g4 from z4.symm];exact e67
  replace e68:I T 68=(A6 g4 (I T 11) (I T 12)):=by rw[←show gAt 0 (qS.map (Rf.eval T))=g4 from z4.symm];exact e68
  replace e79:I T 79=(lw g6 (I T 65) (I T 66)):=by rw[←show gAt 0 (qW.map (Rf.eval T))=g6 from z6.symm];exact e79
  simp only[AE,AF,zN,zR,Bb,and_true,AR,w2P] at*
  intro h
  have h77:(B T 77)=true:=(e89.1 h).1
  obtain⟨h1,h2,h3,h4,h5,h6,h7,d7,d8⟩:=hs h77
  have hb:=qf (l:=g) (x:=I T 13) (y:=I T 14) h6
  rw[hw.1,hw.2.1,hw.2.2.1,←h4,←h5] at hb
  have h8:=(CP h6).1.1
  rw[hw.2.2.1] at h8
  omega
 ·obtain⟨e16,-,e18,e19,e20,-,e22,e23,e24,e25,e26,e27,e28,e29,e30,e31,-⟩:=F0
  obtain⟨e32,e33,e34,-,e36,e37,-,e39,e40,-,e42,-,e44,e45,-,e47,-⟩:=F1
  obtain⟨e48,e49,e50,e51,e52,e53,e54,e55,e56,e57,-,e59,e60,-,e62,e63,-⟩:=F2
  obtain⟨e64,e65,e66,e67,e68,e69,-,-,-,-,-,-,-,e77,-,e79,-⟩:=F3
  obtain⟨-,e81,e82,-,-,e85,e86,e87,-,e89,-⟩:=F4
  replace e16:B T 16=(Ld g1):=by rw[←show gAt 0 (qV.map (Rf.eval T))=g1 from z1.symm];exact e16
  replace e18:I T 18=(AT g1):=by rw[←show gAt 0 (qV.map (Rf.eval T))=g1 from z1.symm];exact e18
  replace e23:I T 23=(mT g2 (I T 15)):=by rw[←show gAt 0 (qT.map (Rf.eval T))=g2 from z2.symm];exact e23
  replace e24:I T 24=(mR g2 (I T 15)):=by rw[←show gAt 0 (qT.map (Rf.eval T))=g2 from z2.symm];exact e24
  replace e25:I T 25=(ln g2 (I T 15)):=by rw[←show gAt 0 (qT.map (Rf.eval T))=g2 from z2.symm];exact e25
  replace e28:I T 28=(lz g3 (I T 23) (I T 24)):=by rw[←show gAt 0 (qR.map (Rf.eval T))=g3 from z3.symm];exact e28
  replace e29:I T 29=(lw g3 (I T 23) (I T 24)):=by rw[←show gAt 0 (qR.map (Rf.eval T))=g3 from z3.symm];exact e29
  replace e30:I T 30=(mJ g3 (I T 23) (I T 24)):=by rw[←show gAt 0 (qR.map (Rf.eval T))=g3 from z3.symm];exact e30
  replace e31:I T 31=(mN g3 (I T 23) (I T 24)):=by rw[←show gAt 0 (qR.map (Rf.eval T))=g3 from z3.symm];exact e31
  replace e32:B T 32=(mE g3 (I T 23) (I T 24)):=by rw[←show gAt 0 (qR.map (Rf.eval T))=g3 from z3.symm];exact e32
  replace e33:I T 33=(A6 g3 (I T 23) (I T 24)):=by rw[←show gAt 0 (qR.map (Rf.eval T))=g3 from z3.symm];exact e33
  replace e50:I T 50=(lz g4 (I T 11) (I T 12)):=by rw[←show gAt 0 (qS.map (Rf.eval T))=g4 from z4.symm];exact e50
  replace e51:I T 51=(lw g4 (I T 11) (I T 12)):=by rw[←show gAt 0 (qS.map (Rf.eval T))=g4 from z4.symm];exact e51
  replace e54:I T 54=(mT g5 (I T 50)):=by rw[←show gAt 0 (qU.map (Rf.eval T))=g5 from z5.symm];exact e54
  replace e55:I T 55=(mR g5 (I T 50)):=by rw[←show gAt 0 (qU.map (Rf.eval T))=g5 from z5.symm];exact e55
  replace e56:I T 56=(ln g5 (I T 50)):=by rw[←show gAt 0 (qU.map (Rf.eval T))=g5 from z5.symm];exact e56
  replace e65:I T 65=(mJ g4 (I T 11) (I T 12)):=by rw[←show gAt 0 (qS.map (Rf.eval T))=g4 from z4.symm];exact e65
  replace e66:I T 66=(mN g4 (I T 11) (I T 12)):=by rw[←show gAt 0 (qS.map (Rf.eval T))=g4 from z4.symm];exact e66
  replace e67:B T 67=(mE g4 (I T 11) (I T 12)):=by rw[←show gAt 0 (qS.map (Rf.eval T))=g4 from z4.symm];exact e67
  replace e68:I T 68=(A6 g4 (I T 11) (I T 12)):=by rw[←show gAt 0 (qS.map (Rf.eval T))=g4 from z4.symm];exact e68
  replace e79:I T 79=(lw g6 (I T 65) (I T 66)):=by rw[←show gAt 0 (qW.map (Rf.eval T))=g6 from z6.symm];exact e79
  simp only[AE,AF,zN,zR,Bb,and_true] at*
  intro h
  have h77:(B T 77)=true:=(e89.1 h).1
  obtain⟨h1,h2,h3,h4,h5,h6,h7,d7,d8⟩:=hs h77
  obtain⟨⟨p1,p2⟩,p3,p4⟩:=Av.1 h1
  omega
 ·obtain⟨e16,-,e18,e19,e20,-,e22,e23,e24,e25,e26,e27,e28,e29,e30,e31,-⟩:=F0
  obtain⟨e32,e33,e34,-,e36,e37,-,e39,e40,-,e42,-,e44,e45,-,e47,-⟩:=F1
  obtain⟨e48,e49,e50,e51,e52,e53,e54,e55,e56,e57,-,e59,e60,-,e62,e63,-⟩:=F2
  obtain⟨e64,e65,e66,e67,e68,e69,-,-,-,-,-,-,-,e77,-,e79,-⟩:=F3
  obtain⟨-,e81,e82,-,-,e85,e86,e87,-,e89,-⟩:=F4
  replace e16:B T 16=(Ld g1):=by rw[←show gAt 0 (qV.map (Rf.eval T))=g1 from z1.symm];exact e16
  replace e18:I T 18=(AT g1):=by rw[←show gAt 0 (qV.map (Rf.eval T))=g1 from z1.symm];exact e18
  replace e23:I T 23=(mT g2 (I T 15)):=by rw[←show gAt 0 (qT.map (Rf.eval T))=g2 from z2.symm];exact e23
  replace e24:I T 24=(mR g2 (I T 15)):=by rw[←show gAt 0 (qT.map (Rf.eval T))=g2 from z2.symm];exact e24
  replace e25:I T 25=(ln g2 (I T 15)):=by rw[←show gAt 0 (qT.map (Rf.eval T))=g2 from z2.symm];exact e25
  replace e28:I T 28=(lz g3 (I T 23) (I T 24)):=by rw[←show gAt 0 (qR.map (Rf.eval T))=g3 from z3.symm];exact e28
  replace e29:I T 29=(lw g3 (I T 23) (I T 24)):=by rw[←show gAt 0 (qR.map (Rf.eval T))=g3 from z3.symm];exact e29
  replace e30:I T 30=(mJ g3 (I T 23) (I T 24)):=by rw[←show gAt 0 (qR.map (Rf.eval T))=g3 from z3.symm];exact e30
  replace e31:I T 31=(mN g3 (I T 23) (I T 24)):=by rw[←show gAt 0 (qR.map (Rf.eval T))=g3 from z3.symm];exact e31
  replace e32:B T 32=(mE g3 (I T 23) (I T 24)):=by rw[←show gAt 0 (qR.map (Rf.eval T))=g3 from z3.symm];exact e32
  replace e33:I T 33=(A6 g3 (I T 23) (I T 24)):=by rw[←show gAt 0 (qR.map (Rf.eval T))=g3 from z3.symm];exact e33
  replace e50:I T 50=(lz g4 (I T 11) (I T 12)):=by rw[←show gAt 0 (qS.map (Rf.eval T))=g4 from z4.symm];exact e50
  replace e51:I T 51=(lw g4 (I T 11) (I T 12)):=by rw[←show gAt 0 (qS.map (Rf.eval T))=g4 from z4.symm];exact e51
  replace e54:I T 54=(mT g5 (I T 50)):=by rw[←show gAt 0 (qU.map (Rf.eval T))=g5 from z5.symm];exact e54
  replace e55:I T 55=(mR g5 (I T 50)):=by rw[←show gAt 0 (qU.map (Rf.eval T))=g5 from z5.symm];exact e55
  replace e56:I T 56=(ln g5 (I T 50)):=by rw[←show gAt 0 (qU.map (Rf.eval T))=g5 from z5.symm];exact e56
  replace e65:I T 65=(mJ g4 (I T 11) (I T 12)):=by rw[←show gAt 0 (qS.map (Rf.eval T))=g4 from z4.symm];exact e65
  replace e66:I T 66=(mN g4 (I T 11) (I T 12)):=by rw[←show gAt 0 (qS.map (Rf.eval T))=g4 from z4.symm];exact e66
  replace e67:B T 67=(mE g4 (I T 11) (I T 12)):=by rw[←show gAt 0 (qS.map (Rf.eval T))=g4 from z4.symm];exact e67
  replace e68:I T 68=(A6 g4 (I T 11) (I T 12)):=by rw[←show gAt 0 (qS.map (Rf.eval T))=g4 from z4.symm];exact e68
  replace e79:I T 79=(lw g6 (I T 65) (I T 66)):=by rw[←show gAt 0 (qW.map (Rf.eval T))=g6 from z6.symm];exact e79
  simp only[AE,AF,zN,zR,Bb,and_true] at*
  intro h
  have h77:(B T 77)=true:=(e89.1 h).1
  obtain⟨h1,h2,h3,h4,h5,h6,h7,d7,d8⟩:=hs h77
  have hb:=qf (l:=g) (x:=I T 11) (y:=I T 12) h6
  rw[hw.1,hw.2.1,hw.2.2.1,←h2,←h3] at hb
  have h8:=(CP h6).1.1
  rw[hw.2.2.1] at h8
  omega
theorem rB:HI Try.prog 9 Try.f10.params.toList 0=some (qj,qg):=by kernel_rfl
theorem rC:∀p∈([(12,J6),(13,KO),(16,C3),(38,nA),(34,mW),(33,nI),(39,qZ)]:List (FuncId × Ak)),Aq Try.prog p.1 p.2:=by simp only[List.forall_mem_cons];exact⟨aa,av,Yw,pF,oz,ph,rE,fun _ h=>absurd h (by simp)⟩
theorem rI:∀T:Tab,AL T (BT 0 qg)→Bnd T 0 qg→TW 1048576 T 0 qg→Ag T ((qe).map En.be)→Nj T qz∧B T 112=true:=by
 intro T hS hBd hBl hE
 obtain⟨hz0,-,-,-,⟨hl4,he4⟩,-,-,-,-,-,⟨hl10,he10⟩,-⟩:=hBd
 replace hz0:(S T 0).size≤140737488355328:=hz0
 replace hl4:(L T 4).length≤140737488355328:=hl4
 replace hl10:(L T 10).length≤140737488355328:=hl10
 obtain⟨g,hg⟩:∃g:Ln,g=Ln.mk (S T 0) (I T 1) (I T 2) (I T 3) (L T 4) (I T 5) (I T 6) (I T 7) (I T 8) (I T 9) (L T 10):=⟨_,rfl⟩
 obtain⟨hb4,hb10,-⟩:=hBl
 replace hb4:(L T 4).length≤1048576:=hb4
 replace hb10:(L T 10).length≤1048576:=hb10
 skip
 obtain⟨A0,hO⟩:=Ar (tys:=[.b]) (rs:=rQ) hS (by kernel_rfl) hE
 obtain⟨g1,z1⟩:∃g:Ln,g=Ln.mk (S T 0) (I T 1) (I T 2) (I T 3) (L T 4) (I T 5) (I T 6) (I T 7) (I T 8) (I T 9) (L T 10):=⟨_,rfl⟩
 obtain⟨g2,z2⟩:∃g:Ln,g=Ln.mk (S T 0) (I T 1) (I T 2) (I T 3) (L T 4) (I T 5) (I T 6) (I T 7) (I T 8) (I T 9) (L T 10):=⟨_,rfl⟩
 obtain⟨g3,z3⟩:∃g:Ln,g=Ln.mk (S T 0) (I T 1) (I T 2) (I T 3) (L T 4) (I T 5) (I T 6) (I T 7) (I T 8) (I T 9) (L T 10):=⟨_,rfl⟩
 obtain⟨g4,z4⟩:∃g:Ln,g=Ln.mk (S T 0) (I T 1) (I T 2) (I T 3) (L T 4) (I T 5) (I T 6) (I T 7) (I T 8) (I T 9) (L T 10):=⟨_,rfl⟩
 obtain⟨g5,z5⟩:∃g:Ln,g=Ln.mk (S T 0) (I T 1) (I T 2) (I T 3) (L T 4) (I T 5) (I T 6) (I T 7) (I T 8) (I T 9) (L T 10):=⟨_,rfl⟩
 obtain⟨g6,z6⟩:∃g:Ln,g=Ln.mk (S T 0) (I T 1) (I T 2) (I T 3) (L T 4) (I T 5) (I T 6) (I T 7) (I T 8) (I T 9) (L T 10):=⟨_,rfl⟩
 obtain⟨q0,r0,r1,r2,r3⟩:=rO hz0 hl4 hl10 g hg hb4 hb10 g1 z1 g2 z2 g3 z3 g4 z4 g5 z5 g6 z6 A0
 exact⟨⟨r0,r1,r2,r3,trivial⟩,q0⟩
end Go.Eng
end
