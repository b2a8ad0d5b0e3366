/-
  A part of the proof: K_lGapsd K_lGaps.
-/
import Derived.Test.YtmlmcidljiibaaaXQlGaps
import Derived.Test.YtmlmcidljiibaaaE3
import Derived.Test.YtmlmcidljiibaaaE4
import Derived.Test.YtmlmcidljiibaaaKgreat
import Derived.Test.YtmlmcidljiibaaaKworks
import Derived.Test.YtmlmcidljiibaaaKrcheck
import Derived.Test.YtmlmcidljiibaaaKpasses
import Derived.Test.YtmlmcidljiibaaaKstand
import Derived.Test.YtmlmcidljiibaaaKtouched
import Derived.Test.YtmlmcidljiibaaaKway
import Derived.Test.YtmlmcidljiibaaaKhas
import Derived.Test.YtmlmcidljiibaaaKhat
set_option linter.unusedVariables false
set_option linter.unusedSimpArgs false
noncomputable section
open Go Go.Eng Go.Proofs
set_option maxHeartbeats 4000000
set_option maxRecDepth 100000
namespace Go.Eng
def tw:List Kd:=[.str,k64,k64,k64,.list [k64,k64,k64,k64,.bool],k64,k64,k64,k64,k64,.list [k64,k64,k64],.int .u8 (0) (255),.bool,k64,.int .i16 (-32768) (32767),.int .i16 (-32768) (32767),.int .u16 (0) (65535)]
def uH:List AC:=((HI Try.prog 9 Try.f8.params.toList 0).map (·.1)).getD []
def tT:List Rf:=[.e 0,.e 1,.e 2,.e 3,.e 4,.e 5,.e 6,.e 7,.e 8,.e 9,.e 10]
def tU:List Rf:=[.e 0,.e 1,.e 2,.e 3,.e 4,.e 5,.e 6,.e 7,.e 8,.e 9,.e 10,.e 31,.e 13]
def tV:List Rf:=[.e 0,.e 1,.e 2,.e 3,.e 4,.e 5,.e 6,.e 7,.e 8,.e 9,.e 10,.e 31,.e 12,.e 39,.e 40,.e 13]
def tW:List Rf:=[.e 0,.e 1,.e 2,.e 3,.e 4,.e 5,.e 6,.e 7,.e 8,.e 9,.e 10,.e 31,.e 12,.e 42,.e 43,.e 13]
def tX:List Rf:=[.e 0,.e 1,.e 2,.e 3,.e 4,.e 5,.e 6,.e 7,.e 8,.e 9,.e 10,.e 32,.e 33,.e 13,.c (.list [])]
def tZ:List Rf:=[.e 0,.e 1,.e 2,.e 3,.e 4,.e 5,.e 6,.e 7,.e 8,.e 9,.e 10,.e 80,.e 81,.e 83,.e 84,.e 13,.c (.list [])]
def uL:List En:=[⟨17,.outB "great.0" JV,tT⟩,
 ⟨18,.not,[.e 17]⟩,
 ⟨19,.outI "rcheck.0" GK,tT⟩,
 ⟨20,.ne,[.e 19,.c (.int 0)]⟩,
 ⟨21,.or,[.e 17,.e 20]⟩,
 ⟨22,.not,[.e 21]⟩,
 ⟨23,.lt,[.e 13,.c (.int 1)]⟩,
 ⟨24,.or,[.e 21,.e 23]⟩,
 ⟨25,.not,[.e 24]⟩,
 ⟨26,.lt,[.c (.int 16384),.e 13]⟩,
 ⟨27,.or,[.e 24,.e 26]⟩,
 ⟨28,.outB "works.0" HN,[]⟩,
 ⟨29,.not,[.e 27]⟩,
 ⟨30,.len,[.e 4]⟩,
 ⟨31,.o2 .tmod,[.e 11,.e 30]⟩,
 ⟨32,.get .i 0,[.e 4,.e 31]⟩]
def uP:List En:=[⟨33,.get .i 1,[.e 4,.e 31]⟩,
 ⟨34,.get .i 2,[.e 4,.e 31]⟩,
 ⟨35,.get .i 3,[.e 4,.e 31]⟩,
 ⟨36,.get .b 4,[.e 4,.e 31]⟩,
 ⟨37,.outB "passes.0" fW,tU⟩,
 ⟨38,.outI "passes.1" fY,tU⟩,
 ⟨39,.outI "hat.0" ti,[.e 32,.e 33,.e 34,.e 35,.e 36,.e 12,.e 14,.e 15]⟩,
 ⟨40,.outI "hat.1" tf,[.e 32,.e 33,.e 34,.e 35,.e 36,.e 12,.e 14,.e 15]⟩,
 ⟨41,.o2 .add,[.e 14,.e 16]⟩,
 ⟨42,.outI "hat.0" ti,[.e 32,.e 33,.e 34,.e 35,.e 36,.e 12,.e 41,.e 15]⟩,
 ⟨43,.outI "hat.1" tf,[.e 32,.e 33,.e 34,.e 35,.e 36,.e 12,.e 41,.e 15]⟩,
 ⟨44,.outI "stand.0" JW,tV⟩,
 ⟨45,.outI "stand.1" I4,tV⟩,
 ⟨46,.outI "stand.0" JW,tW⟩,
 ⟨47,.outI "stand.1" I4,tW⟩,
 ⟨48,.ne,[.e 38,.c (.int 0)]⟩]
def uN:List En:=[⟨49,.and,[.e 29,.n 48]⟩,
 ⟨50,.w2 .i64 .mul,[.c (.int 2),.e 13]⟩,
 ⟨51,.le,[.e 50,.e 34]⟩,
 ⟨52,.neb,[.e 37,.e 51]⟩,
 ⟨53,.or,[.e 48,.e 52]⟩,
 ⟨54,.and,[.e 29,.e 53]⟩,
 ⟨55,.and,[.e 29,.n 53]⟩,
 ⟨56,.eq,[.e 45,.c (.int 0)]⟩,
 ⟨57,.and,[.e 55,.e 56]⟩,
 ⟨58,.eq,[.e 47,.c (.int 0)]⟩,
 ⟨59,.and,[.e 56,.e 58]⟩,
 ⟨60,.and,[.e 55,.e 59]⟩,
 ⟨61,.lt,[.e 46,.e 44]⟩,
 ⟨62,.and,[.e 59,.e 61]⟩,
 ⟨63,.and,[.e 55,.e 62]⟩,
 ⟨64,.and,[.e 55,.n 62]⟩]
def uM:List En:=[⟨65,.outL "touched.0" gj,tX⟩,
 ⟨66,.outI "touched.1" gh,tX⟩,
 ⟨67,.ne,[.e 66,.c (.int 0)]⟩,
 ⟨68,.and,[.e 64,.n 67]⟩,
 ⟨69,.o2 .mul,[.c (.int 2),.e 31]⟩,
 ⟨70,.outB "has.0" th,[.e 65,.e 69]⟩,
 ⟨71,.and,[.e 68,.e 70]⟩,
 ⟨72,.o2 .mul,[.c (.int 2),.e 31]⟩,
 ⟨73,.o2 .add,[.e 72,.c (.int 1)]⟩,
 ⟨74,.outB "has.0" th,[.e 65,.e 73]⟩,
 ⟨75,.and,[.e 70,.e 74]⟩,
 ⟨76,.neb,[.e 75,.n 37]⟩,
 ⟨77,.or,[.e 67,.e 76]⟩,
 ⟨78,.and,[.e 64,.e 77]⟩,
 ⟨79,.and,[.e 64,.n 77]⟩,
 ⟨80,.outI "hat.0" ti,[.e 32,.e 33,.e 34,.e 35,.e 36,.e 12,.e 14,.c (.int 0)]⟩]
def uK:List En:=[⟨81,.outI "hat.1" tf,[.e 32,.e 33,.e 34,.e 35,.e 36,.e 12,.e 14,.c (.int 0)]⟩,
 ⟨82,.o2 .add,[.e 14,.e 16]⟩,
 ⟨83,.outI "hat.0" ti,[.e 32,.e 33,.e 34,.e 35,.e 36,.e 12,.e 82,.c (.int 0)]⟩,
 ⟨84,.outI "hat.1" tf,[.e 32,.e 33,.e 34,.e 35,.e 36,.e 12,.e 82,.c (.int 0)]⟩,
 ⟨85,.outL "way.0" M6,tZ⟩,
 ⟨86,.outI "way.1" M7,tZ⟩,
 ⟨87,.ne,[.e 86,.c (.int 0)]⟩,
 ⟨88,.and,[.e 79,.n 87]⟩,
 ⟨89,.or,[.e 87,.n 37]⟩,
 ⟨90,.and,[.e 79,.n 89]⟩,
 ⟨91,.o2 .mul,[.c (.int 2),.e 31]⟩,
 ⟨92,.outB "has.0" th,[.e 85,.e 91]⟩,
 ⟨93,.and,[.e 90,.n 92]⟩,
 ⟨94,.o2 .mul,[.c (.int 2),.e 31]⟩,
 ⟨95,.o2 .add,[.e 94,.c (.int 1)]⟩,
 ⟨96,.outB "has.0" th,[.e 85,.e 95]⟩]
def uJ:List En:=[⟨97,.and,[.n 92,.n 96]⟩,
 ⟨98,.or,[.e 89,.e 97]⟩,
 ⟨99,.and,[.e 79,.e 98]⟩,
 ⟨100,.outB "works.0" HN,[]⟩,
 ⟨101,.and,[.e 98,.e 100]⟩,
 ⟨102,.ite .i,[.e 78,.e 66,.e 86]⟩,
 ⟨103,.ite .b,[.e 78,.c (.bool false),.e 101]⟩,
 ⟨104,.or,[.e 78,.e 79]⟩,
 ⟨105,.ite .i,[.e 63,.e 38,.e 102]⟩,
 ⟨106,.ite .b,[.e 63,.c (.bool false),.e 103]⟩,
 ⟨107,.or,[.e 63,.e 104]⟩,
 ⟨108,.ite .i,[.e 54,.e 38,.e 105]⟩,
 ⟨109,.ite .b,[.e 54,.c (.bool false),.e 106]⟩,
 ⟨110,.or,[.e 54,.e 107]⟩,
 ⟨111,.ite .b,[.e 27,.e 28,.e 109]⟩,
 ⟨112,.or,[.e 27,.e 110]⟩]
def tu:List En:=uL++(uP++(uN++(uM++(uK++(uJ)))))
def uQ:List ObE:=[⟨some 79,.pre "hat.p0" tc,[.e 32,.e 33,.e 34,.e 35,.e 36,.e 12,.e 82,.c (.int 0)]⟩,
 ⟨some 79,.pre "hat.p1" te,[.e 32,.e 33,.e 34,.e 35,.e 36,.e 12,.e 82,.c (.int 0)]⟩,
 ⟨some 79,.pre "hat.p2" td,[.e 32,.e 33,.e 34,.e 35,.e 36,.e 12,.e 82,.c (.int 0)]⟩,
 ⟨some 79,.pre "hat.p0" tc,[.e 32,.e 33,.e 34,.e 35,.e 36,.e 12,.e 14,.c (.int 0)]⟩,
 ⟨some 79,.pre "hat.p1" te,[.e 32,.e 33,.e 34,.e 35,.e 36,.e 12,.e 14,.c (.int 0)]⟩,
 ⟨some 79,.pre "hat.p2" td,[.e 32,.e 33,.e 34,.e 35,.e 36,.e 12,.e 14,.c (.int 0)]⟩,
 ⟨some 29,.pre "hat.p0" tc,[.e 32,.e 33,.e 34,.e 35,.e 36,.e 12,.e 41,.e 15]⟩,
 ⟨some 29,.pre "hat.p1" te,[.e 32,.e 33,.e 34,.e 35,.e 36,.e 12,.e 41,.e 15]⟩,
 ⟨some 29,.pre "hat.p2" td,[.e 32,.e 33,.e 34,.e 35,.e 36,.e 12,.e 41,.e 15]⟩,
 ⟨some 29,.pre "hat.p0" tc,[.e 32,.e 33,.e 34,.e 35,.e 36,.e 12,.e 14,.e 15]⟩,
 ⟨some 29,.pre "hat.p1" te,[.e 32,.e 33,.e 34,.e 35,.e 36,.e 12,.e 14,.e 15]⟩,
 ⟨some 29,.pre "hat.p2" td,[.e 32,.e 33,.e 34,.e 35,.e 36,.e 12,.e 14,.e 15]⟩,
 ⟨some 29,.inl,[.e 31,.e 4]⟩,
 ⟨some 29,.nez,[.e 30]⟩]
def uj:List Rf:=[.e 111]
theorem uk:WP 17 (YW Try.prog [(12,J6),(13,KO),(16,C3),(25,fa),(19,Jx),(20,gf),(17,M9),(18,tv),(32,tp)] Ah 3000 20 8 uH 17)=some (111,(tu).map En.be,uQ.map ObE.be):=by kernel_rfl
theorem ui {T:Tab}(hz0:(S T 0).size≤140737488355328)(hl4:(L T 4).length≤140737488355328)(hl10:(L T 10).length≤140737488355328)(lo11:0≤I T 11)(hi11:I T 11≤255)(lo14: -32768≤I T 14)(hi14:I T 14≤32767)(lo15: -32768≤I T 15)(hi15:I T 15≤32767)(lo16:0≤I T 16)(hi16:I T 16≤65535)(g:Ln)(hg:g=Ln.mk (S T 0) (I T 1) (I T 2) (I T 3) (L T 4) (I T 5) (I T 6) (I T 7) (I T 8) (I T 9) (L T 10))(hb4:(L T 4).length≤1048576)(hb10:(L T 10).length≤1048576)(g1:Ln)(z1:g1=Ln.mk (S T 0) (I T 1) (I T 2) (I T 3) (L T 4) (I T 5) (I T 6) (I T 7) (I T 8) (I T 9) (L T 10))(g2:Ln)(z2:g2=Ln.mk (S T 0) (I T 1) (I T 2) (I T 3) (L T 4) (I T 5) (I T 6) (I T 7) (I T 8) (I T 9) (L T 10))(g3:Ln)(z3:g3=Ln.mk (S T 0) (I T 1) (I T 2) (I T 3) (L T 4) (I T 5) (I T 6) (I T 7) (I T 8) (I T 9) (L T 10))(g4:Ln)(z4:g4=Ln.mk (S T 0) (I T 1) (I T 2) (I T 3) (L T 4) (I T 5) (I T 6) (I T 7) (I T 8) (I T 9) (L T 10))(g5:Ln)(z5:g5=Ln.mk (S T 0) (I T 1) (I T 2) (I T 3) (L T 4) (I T 5) (I T 6) (I T 7) (I T 8) (I T 9) (L T 10))(g6:Ln)(z6:g6=Ln.mk (S T 0) (I T 1) (I T 2) (I T 3) (L T 4) (I T 5) (I T 6) (I T 7) (I T 8) (I T 9) (L T 10))(A0:AJ T tu):
  ((B T 111)=(true))∧
  (B T 79=true→BB (I T 32) (I T 33) (I T 34) (I T 35)=true)∧
  (B T 79=true→ -1000000≤I T 82∧I T 82≤1000000)∧
  (B T 79=true→ -1000000≤(0:Int)∧(0:Int)≤1000000)∧
  (B T 79=true→BB (I T 32) (I T 33) (I T 34) (I T 35)=true)∧
  (B T 79=true→ -1000000≤I T 14∧I T 14≤1000000)∧
  (B T 79=true→ -1000000≤(0:Int)∧(0:Int)≤1000000)∧
  (B T 29=true→BB (I T 32) (I T 33) (I T 34) (I T 35)=true)∧
  (B T 29=true→ -1000000≤I T 41∧I T 41≤1000000)∧
  (B T 29=true→ -1000000≤I T 15∧I T 15≤1000000)∧
  (B T 29=true→BB (I T 32) (I T 33) (I T 34) (I T 35)=true)∧
  (B T 29=true→ -1000000≤I T 14∧I T 14≤1000000)∧
  (B T 29=true→ -1000000≤I T 15∧I T 15≤1000000)∧
  (B T 29=true→0≤I T 31∧I T 31 < ((L T 4)).length)∧
  (B T 29=true→¬I T 30=0):=by
 obtain⟨F0,A0⟩:=A0.cut
 obtain⟨F1,A0⟩:=A0.cut
 obtain⟨F2,A0⟩:=A0.cut
 obtain⟨F3,A0⟩:=A0.cut
 obtain⟨F4,A0⟩:=A0.cut
 have F5:=A0;clear A0
 have hgs:g1=g∧g2=g∧g3=g∧g4=g∧g5=g∧g6=g:=by
  exact⟨by rw[z1,hg],by rw[z2,hg],by rw[z3,hg],by rw[z4,hg],by rw[z5,hg],by rw[z6,hg]⟩
 have hh:g.hoops=((L T 4)):=by
  rw[hg]
 have h29:(B T 29)=true→AT g=0∧(1≤I T 13∧I T 13≤16384)∧(0≤I T 31∧I T 31 < ((L T 4)).length):=by
  obtain⟨e17,-,e19,e20,e21,-,e23,e24,-,e26,e27,-,e29,e30,e31,-⟩:=F0
  replace e17:B T 17=(Ld g1):=by rw[←show gAt 0 (tT.map (Rf.eval T))=g1 from z1.symm];exact e17
  replace e19:I T 19=(AT g1):=by rw[←show gAt 0 (tT.map (Rf.eval T))=g1 from z1.symm];exact e19
  simp only[AE,AF,zR,AR,zL] at*
  intro h
  have h1:¬B T 20=true∧¬B T 23=true∧¬B T 26=true:=by clear hgs hh e17 e19;grind
  rw[hgs.1] at e19
  have hc:AT g=0:=by
   rw[←e19]
   apply Classical.byContradiction
   intro hn
   exact h1.1 (e20.2 hn)
  have h2:¬I T 13 < 1:=fun k=>h1.2.1 (e23.2 k)
  have h3:¬16384 < I T 13:=fun k=>h1.2.2 (e26.2 k)
  have h4:=(CP hc).2.2.2.2.1
  rw[hh] at h4
  have a1:=lo11
  have h5:(I T 31)=(I T 11) % (I T 30):=by rw[e31,if_pos (by omega)]
  have y1:=Int.emod_nonneg (I T 11) (show (I T 30)≠0 by omega)
  have y2:=Int.emod_lt_of_pos (I T 11) (show 0 < (I T 30) by omega)
  exact⟨hc,by omega,by omega,by omega⟩
 have hb:(B T 29)=true→((0≤I T 32∧I T 32≤4194304)∧(0≤I T 33∧I T 33≤4194304)∧(2≤I T 34∧I T 34≤32768)∧(I T 34) % 2=0∧(1≤I T 35∧I T 35≤8192))∧BB (I T 32) (I T 33) (I T 34) (I T 35)=true∧AH (I T 32) (I T 33)=true:=by
  obtain⟨e17,-,e19,e20,e21,-,e23,e24,-,e26,e27,-,e29,e30,e31,e32,-⟩:=F0
  obtain⟨e33,e34,e35,-⟩:=F1
  replace e17:B T 17=(Ld g1):=by rw[←show gAt 0 (tT.map (Rf.eval T))=g1 from z1.symm];exact e17
  replace e19:I T 19=(AT g1):=by rw[←show gAt 0 (tT.map (Rf.eval T))=g1 from z1.symm];exact e19
  simp only[AE,AF,zR,AR,zL] at*
  intro h
  obtain⟨hc,hr,h0,h1⟩:=h29 h
  have h2:=G9.1 (CP hc).2.2.2.2.2.1 (I T 31).toNat (by rw[hh];omega)
  rw[hh,←e32,←e33,←e34,←e35] at h2
  have h3:=LH.1 h2
  exact⟨h3,h2,Av.2 (by omega)⟩
 have hpp:(B T 29)=true→I T 38=0∧B T 37=decide (2*I T 13≤I T 34):=by
  obtain⟨e17,-,e19,e20,e21,-,e23,e24,-,e26,e27,-,e29,e30,e31,-⟩:=F0
  obtain⟨-,e34,-,-,e37,e38,-⟩:=F1
  replace e17:B T 17=(Ld g1):=by rw[←show gAt 0 (tT.map (Rf.eval T))=g1 from z1.symm];exact e17
  replace e19:I T 19=(AT g1):=by rw[←show gAt 0 (tT.map (Rf.eval T))=g1 from z1.symm];exact e19
  replace e37:B T 37=(fS g2 (I T 31) (I T 13)):=by rw[←show gAt 0 (tU.map (Rf.eval T))=g2 from z2.symm];exact e37
  replace e38:I T 38=(fR g2 (I T 31) (I T 13)):=by rw[←show gAt 0 (tU.map (Rf.eval T))=g2 from z2.symm];exact e38
  simp only[AE,AF,zR,AR,zL] at*
  intro h
  obtain⟨hc,hr,h0,h1⟩:=h29 h
  rw[hgs.2.1] at e37 e38
  have hE:fR g (I T 31) (I T 13)=0:=by
   unfold fR
   rw[if_neg (by simp[hc]),hh,if_neg]
   rintro (k|k|k)
   ·omega
   ·omega
   ·exact k (CN.2 hr)
  refine⟨e38.trans hE,?_⟩
  rw[e37]
  unfold fS
  rw[hE,hh,←e34]
  simp
 have n54:(B T 54)=false:=by
  obtain⟨e17,-,e19,e20,e21,-,e23,e24,-,e26,e27,-,e29,e30,e31,-⟩:=F0
  obtain⟨-,e34,-,-,e37,e38,-,-,-,-,-,-,-,-,-,e48,-⟩:=F1
  obtain⟨-,e50,e51,e52,e53,e54,-⟩:=F2
  replace e17:B T 17=(Ld g1):=by rw[←show gAt 0 (tT.map (Rf.eval T))=g1 from z1.symm];exact e17
  replace e19:I T 19=(AT g1):=by rw[←show gAt 0 (tT.map (Rf.eval T))=g1 from z1.symm];exact e19
  replace e37:B T 37=(fS g2 (I T 31) (I T 13)):=by rw[←show gAt 0 (tU.map (Rf.eval T))=g2 from z2.symm];exact e37
  replace e38:I T 38=(fR g2 (I T 31) (I T 13)):=by rw[←show gAt 0 (tU.map (Rf.eval T))=g2 from z2.symm];exact e38
  simp only[AE,AF,zR,AR,w2P,zL] at*
  refine Bool.eq_false_iff.2 fun h=>?_
  have h1:=e54.1 h
  obtain⟨p1,p2⟩:=hpp h1.1
  obtain⟨hc,hr,h0,h2⟩:=h29 h1.1
  rcases e53.1 h1.2 with k|k
  ·exact e48.1 k p1
  ·refine e52.1 k ?_
   rw[p2,decide_eq_true_eq,e51,e50 (by omega) (by omega)]
 have n63:(B T 63)=false:=by
  obtain⟨e17,-,e19,e20,e21,-,e23,e24,-,e26,e27,-,e29,e30,e31,e32,-⟩:=F0
  obtain⟨e33,e34,e35,e36,e37,e38,e39,e40,e41,e42,e43,e44,e45,e46,e47,e48,-⟩:=F1
  obtain⟨-,e50,e51,e52,e53,-,e55,e56,-,e58,e59,-,e61,e62,e63,-⟩:=F2
  replace e17:B T 17=(Ld g1):=by rw[←show gAt 0 (tT.map (Rf.eval T))=g1 from z1.symm];exact e17
  replace e19:I T 19=(AT g1):=by rw[←show gAt 0 (tT.map (Rf.eval T))=g1 from z1.symm];exact e19
  replace e37:B T 37=(fS g2 (I T 31) (I T 13)):=by rw[←show gAt 0 (tU.map (Rf.eval T))=g2 from z2.symm];exact e37
  replace e38:I T 38=(fR g2 (I T 31) (I T 13)):=by rw[←show gAt 0 (tU.map (Rf.eval T))=g2 from z2.symm];exact e38
  replace e39:I T 39=(if (B T 36)=true then (I T 32)+(if (B T 12)=true then (I T 14) else -(I T 14)) else (I T 32)+I T 15):=e39
  replace e40:I T 40=(if (B T 36)=true then (I T 33)+(I T 15) else (I T 33)+(if (B T 12)=true then (I T 14) else -(I T 14))):=e40
  replace e42:I T 42=(if (B T 36)=true then (I T 32)+(if (B T 12)=true then (I T 41) else -(I T 41)) else (I T 32)+I T 15):=e42
  replace e43:I T 43=(if (B T 36)=true then (I T 33)+(I T 15) else (I T 33)+(if (B T 12)=true then (I T 41) else -(I T 41))):=e43
  replace e44:I T 44=(IP g3 (I T 31) (B T 12) (I T 39) (I T 40) (I T 13)):=by rw[←show gAt 0 (tV.map (Rf.eval T))=g3 from z3.symm];exact e44
  replace e45:I T 45=(GN g3 (I T 31) (I T 39) (I T 40) (I T 13)):=by rw[←show gAt 0 (tV.map (Rf.eval T))=g3 from z3.symm];exact e45
  replace e46:I T 46=(IP g4 (I T 31) (B T 12) (I T 42) (I T 43) (I T 13)):=by rw[←show gAt 0 (tW.map (Rf.eval T))=g4 from z4.symm];exact e46
  replace e47:I T 47=(GN g4 (I T 31) (I T 42) (I T 43) (I T 13)):=by rw[←show gAt 0 (tW.map (Rf.eval T))=g4 from z4.symm];exact e47
  simp only[AE,AF,zN,zR,AR,w2P,zL] at*
  refine Bool.eq_false_iff.2 fun h=>?_
  have h1:=e63.1 h
  have h2:=e62.1 h1.2
  have h3:=e59.1 h2.1
  have h4:=e56.1 h3.1
  have h5:=e58.1 h3.2
  have h6:=e61.1 h2.2
  rw[hgs.2.2.1] at e44 e45
  rw[hgs.2.2.2.1] at e46 e47
  rw[e45] at h4
  rw[e47] at h5
  have t44:(I T 44)=Ox (I T 32) (I T 33) (I T 34) (I T 35) (B T 36) (B T 12) (I T 39) (I T 40) (I T 13):=by
   rw[e44];unfold IP
   rw[if_pos h4,hh,←e32,←e33,←e34,←e35,←e36]
  have t46:(I T 46)=Ox (I T 32) (I T 33) (I T 34) (I T 35) (B T 36) (B T 12) (I T 42) (I T 43) (I T 13):=by
   rw[e46];unfold IP
   rw[if_pos h5,hh,←e32,←e33,←e34,←e35,←e36]
  have a1:=lo16
  have k1:(I T 44)=tl (I T 34) (I T 35) (I T 14) (I T 15) (I T 13):=by
   rw[t44,e39,e40]
   exact uE (I T 32) (I T 33) (I T 34) (I T 35) (B T 36) (B T 12) (I T 13) (I T 14) (I T 15)
  have k2:(I T 46)=tl (I T 34) (I T 35) (I T 41) (I T 15) (I T 13):=by
   rw[t46,e42,e43]
   exact uE (I T 32) (I T 33) (I T 34) (I T 35) (B T 36) (B T 12) (I T 13) (I T 41) (I T 15)
  have:=uO (gap:=I T 34) (wire:=I T 35) (u:=I T 14) (u':=I T 41) (v:=I T 15) (r:=I T 13) (by omega)
  omega
 have hw2:(B T 29)=true→∀c:Nat,c < 2→∀k:Nat,AA (BC g++[]) (2*(I T 31).toNat+c) k=uI ((Ku (I T 32) (I T 33) (I T 34) (I T 35) (B T 36)).getD c []) k:=by
  obtain⟨e17,-,e19,e20,e21,-,e23,e24,-,e26,e27,-,e29,e30,e31,e32,-⟩:=F0
  obtain⟨e33,e34,e35,e36,-⟩:=F1
  replace e17:B T 17=(Ld g1):=by rw[←show gAt 0 (tT.map (Rf.eval T))=g1 from z1.symm];exact e17
  replace e19:I T 19=(AT g1):=by rw[←show gAt 0 (tT.map (Rf.eval T))=g1 from z1.symm];exact e19
  simp only[AE,AF,zR,AR,zL] at*
  intro h c hc k
  obtain⟨hc0,hr,h0,h1⟩:=h29 h
  rw[uY (by rw[hh];omega) hc,hh]
  rw[e32,e33,e34,e35,e36]
  rfl
 have hlen:(B T 29)=true→2*(I T 31).toNat+1 < (BC g++[]).length:=by
  obtain⟨e17,-,e19,e20,e21,-,e23,e24,-,e26,e27,-,e29,e30,e31,-⟩:=F0
  replace e17:B T 17=(Ld g1):=by rw[←show gAt 0 (tT.map (Rf.eval T))=g1 from z1.symm];exact e17
  replace e19:I T 19=(AT g1):=by rw[←show gAt 0 (tT.map (Rf.eval T))=g1 from z1.symm];exact e19
  simp only[AE,AF,zR,AR,zL] at*
  intro h
  obtain⟨hc0,hr,h0,h1⟩:=h29 h
  rw[List.append_nil,show (BC g).length=2*g.hoops.length+1 from JR,hh]
  omega
 have ht:(B T 29)=true→I T 66=0∧B T 70= !decide (2*I T 13≤I T 34)∧B T 74= !decide (2*I T 13≤I T 34):=by
  obtain⟨e17,-,e19,e20,e21,-,e23,e24,-,e26,e27,-,e29,e30,e31,e32,-⟩:=F0
  obtain⟨e33,e34,-⟩:=F1
  obtain⟨e65,e66,-,-,e69,e70,-,e72,e73,e74,-⟩:=F3
  replace e17:B T 17=(Ld g1):=by rw[←show gAt 0 (tT.map (Rf.eval T))=g1 from z1.symm];exact e17
  replace e19:I T 19=(AT g1):=by rw[←show gAt 0 (tT.map (Rf.eval T))=g1 from z1.symm];exact e19
  replace e65:L T 65=(Nz g5 (I T 32) (I T 33) (I T 32) (I T 33) (I T 13) ([]:List (List U))):=by rw[←show gAt 0 (tX.map (Rf.eval T))=g5 from z5.symm];exact e65
  replace e66:I T 66=(Kb g5 (I T 32) (I T 33) (I T 32) (I T 33) (I T 13) ([]:List (List U))):=by rw[←show gAt 0 (tX.map (Rf.eval T))=g5 from z5.symm];exact e66
  replace e70:B T 70=(tY (L T 65) (I T 69)):=e70
  replace e74:B T 74=(tY (L T 65) (I T 73)):=e74
  simp only[AE,AF,zR,AR,zL] at*
  intro h
  obtain⟨hc,hr,h0,h1⟩:=h29 h
  obtain⟨⟨y1',y2',y3',y4',y5'⟩,hb2,hb3⟩:=hb h
  rw[hgs.2.2.2.2.1] at e65 e66
  have hbl:AQ (I T 13) []=0:=by unfold AQ;rw[if_neg (by simp[CN.2 hr])];rfl
  have hE:Kb g (I T 32) (I T 33) (I T 32) (I T 33) (I T 13) []=0:=by
   unfold Kb A6
   rw[if_neg (by simp[hc,hb3]),if_neg (by simp[hb3])]
   exact hbl
  have hl:(L T 65)=FQ (I T 32) (I T 33) (I T 32) (I T 33) (I T 13) (BC g++[]) (BC g++[]).length:=e65.trans (if_pos hE)
  have hn:=hlen h
  refine⟨e66.trans hE,?_,?_⟩
  ·rw[e70,hl,e69,show 2*I T 31=((2*(I T 31).toNat+0:Nat):Int) by omega,tq (by omega),hw2 h 0 (by omega),hw2 h 0 (by omega),hw2 h 0 (by omega)]
   exact tz (by omega) y3'.1 y4' y5'.1 hr.1
  ·rw[e74,hl,e73,e72,show 2*I T 31+1=((2*(I T 31).toNat+1:Nat):Int) by omega,tq (by omega),hw2 h 1 (by omega),hw2 h 1 (by omega),hw2 h 1 (by omega)]
   exact tz (by omega) y3'.1 y4' y5'.1 hr.1
 have n78:(B T 78)=false:=by
  obtain⟨e17,-,e19,e20,e21,-,e23,e24,-,e26,e27,-,e29,e30,e31,e32,-⟩:=F0
  obtain⟨e33,e34,e35,e36,e37,e38,e39,e40,e41,e42,e43,e44,e45,e46,e47,e48,-⟩:=F1
  obtain⟨-,e50,e51,e52,e53,-,e55,e56,-,e58,e59,-,e61,e62,-,e64,-⟩:=F2
  obtain⟨e65,e66,e67,-,e69,e70,-,e72,e73,e74,e75,e76,e77,e78,-⟩:=F3
  replace e17:B T 17=(Ld g1):=by rw[←show gAt 0 (tT.map (Rf.eval T))=g1 from z1.symm];exact e17
  replace e19:I T 19=(AT g1):=by rw[←show gAt 0 (tT.map (Rf.eval T))=g1 from z1.symm];exact e19
  replace e37:B T 37=(fS g2 (I T 31) (I T 13)):=by rw[←show gAt 0 (tU.map (Rf.eval T))=g2 from z2.symm];exact e37
  replace e38:I T 38=(fR g2 (I T 31) (I T 13)):=by rw[←show gAt 0 (tU.map (Rf.eval T))=g2 from z2.symm];exact e38
  replace e39:I T 39=(if (B T 36)=true then (I T 32)+(if (B T 12)=true then (I T 14) else -(I T 14)) else (I T 32)+I T 15):=e39
  replace e40:I T 40=(if (B T 36)=true then (I T 33)+(I T 15) else (I T 33)+(if (B T 12)=true then (I T 14) else -(I T 14))):=e40
  replace e42:I T 42=(if (B T 36)=true then (I T 32)+(if (B T 12)=true then (I T 41) else -(I T 41)) else (I T 32)+I T 15):=e42
  replace e43:I T 43=(if (B T 36)=true then (I T 33)+(I T 15) else (I T 33)+(if (B T 12)=true then (I T 41) else -(I T 41))):=e43
  replace e44:I T 44=(IP g3 (I T 31) (B T 12) (I T 39) (I T 40) (I T 13)):=by rw[←show gAt 0 (tV.map (Rf.eval T))=g3 from z3.symm];exact e44
  replace e45:I T 45=(GN g3 (I T 31) (I T 39) (I T 40) (I T 13)):=by rw[←show gAt 0 (tV.map (Rf.eval T))=g3 from z3.symm];exact e45
  replace e46:I T 46=(IP g4 (I T 31) (B T 12) (I T 42) (I T 43) (I T 13)):=by rw[←show gAt 0 (tW.map (Rf.eval T))=g4 from z4.symm];exact e46
  replace e47:I T 47=(GN g4 (I T 31) (I T 42) (I T 43) (I T 13)):=by rw[←show gAt 0 (tW.map (Rf.eval T))=g4 from z4.symm];exact e47
  replace e65:L T 65=(Nz g5 (I T 32) (I T 33) (I T 32) (I T 33) (I T 13) ([]:List (List U))):=by rw[←show gAt 0 (tX.map (Rf.eval T))=g5 from z5.symm];exact e65
  replace e66:I T 66=(Kb g5 (I T 32) (I T 33) (I T 32) (I T 33) (I T 13) ([]:List (List U))):=by rw[←show gAt 0 (tX.map (Rf.eval T))=g5 from z5.symm];exact e66
  replace e70:B T 70=(tY (L T 65) (I T 69)):=e70
  replace e74:B T 74=(tY (L T 65) (I T 73)):=e74
  simp only[AE,AF,zN,zR,AR,w2P,zL] at*
  refine Bool.eq_false_iff.2 fun h=>?_
  have h1:=e78.1 h
  have h29':=(e55.1 (e64.1 h1.1).1).1
  obtain⟨t1,t2,t3⟩:=ht h29'
  obtain⟨p1,p2⟩:=hpp h29'
  rcases e77.1 h1.2 with k|k
  ·exact e67.1 k t1
  ·refine e76.1 k ?_
   rw[e75,t2,t3,p2]
   cases decide (2*I T 13≤I T 34)<;>simp
 have h98:(B T 79)=true→B T 98=true:=by
  obtain⟨e17,-,e19,e20,e21,-,e23,e24,-,e26,e27,-,e29,e30,e31,e32,-⟩:=F0
  obtain⟨e33,e34,e35,e36,e37,e38,e39,e40,e41,e42,e43,e44,e45,e46,e47,e48,-⟩:=F1
  obtain⟨-,e50,e51,e52,e53,-,e55,e56,-,e58,e59,-,e61,e62,-,e64,-⟩:=F2
  obtain⟨e65,e66,e67,-,e69,e70,-,e72,e73,e74,e75,e76,e77,-,e79,e80,-⟩:=F3
  obtain⟨e81,e82,e83,e84,e85,e86,e87,-,e89,-,e91,e92,-,e94,e95,e96,-⟩:=F4
  obtain⟨e97,e98,-⟩:=F5
  replace e17:B T 17=(Ld g1):=by rw[←show gAt 0 (tT.map (Rf.eval T))=g1 from z1.symm];exact e17
  replace e19:I T 19=(AT g1):=by rw[←show gAt 0 (tT.map (Rf.eval T))=g1 from z1.symm];exact e19
  replace e37:B T 37=(fS g2 (I T 31) (I T 13)):=by rw[←show gAt 0 (tU.map (Rf.eval T))=g2 from z2.symm];exact e37
  replace e38:I T 38=(fR g2 (I T 31) (I T 13)):=by rw[←show gAt 0 (tU.map (Rf.eval T))=g2 from z2.symm];exact e38
  replace e39:I T 39=(if (B T 36)=true then (I T 32)+(if (B T 12)=true then (I T 14) else -(I T 14)) else (I T 32)+I T 15):=e39
  replace e40:I T 40=(if (B T 36)=true then (I T 33)+(I T 15) else (I T 33)+(if (B T 12)=true then (I T 14) else -(I T 14))):=e40
  replace e42:I T 42=(if (B T 36)=true then (I T 32)+(if (B T 12)=true then (I T 41) else -(I T 41)) else (I T 32)+I T 15):=e42
  replace e43:I T 43=(if (B T 36)=true then (I T 33)+(I T 15) else (I T 33)+(if (B T 12)=true then (I T 41) else -(I T 41))):=e43
  replace e44:I T 44=(IP g3 (I T 31) (B T 12) (I T 39) (I T 40) (I T 13)):=by rw[←show gAt 0 (tV.map (Rf.eval T))=g3 from z3.symm];exact e44
  replace e45:I T 45=(GN g3 (I T 31) (I T 39) (I T 40) (I T 13)):=by rw[←show gAt 0 (tV.map (Rf.eval T))=g3 from z3.symm];exact e45
  replace e46:I T 46=(IP g4 (I T 31) (B T 12) (I T 42) (I T 43) (I T 13)):=by rw[←show gAt 0 (tW.map (Rf.eval T))=g4 from z4.symm];exact e46
  replace e47:I T 47=(GN g4 (I T 31) (I T 42) (I T 43) (I T 13)):=by rw[←show gAt 0 (tW.map (Rf.eval T))=g4 from z4.symm];exact e47
  replace e65:L T 65=(Nz g5 (I T 32) (I T 33) (I T 32) (I T 33) (I T 13) ([]:List (List U))):=by rw[←show gAt 0 (tX.map (Rf.eval T))=g5 from z5.symm];exact e65
  replace e66:I T 66=(Kb g5 (I T 32) (I T 33) (I T 32) (I T 33) (I T 13) ([]:List (List U))):=by rw[←show gAt 0 (tX.map (Rf.eval T))=g5 from z5.symm];exact e66
  replace e70:B T 70=(tY (L T 65) (I T 69)):=e70
  replace e74:B T 74=(tY (L T 65) (I T 73)):=e74
  replace e80:I T 80=(if (B T 36)=true then (I T 32)+(if (B T 12)=true then (I T 14) else -(I T 14)) else (I T 32)+(0:Int)):=e80
  replace e81:I T 81=(if (B T 36)=true then (I T 33)+(0:Int) else (I T 33)+(if (B T 12)=true then (I T 14) else -(I T 14))):=e81
  replace e83:I T 83=(if (B T 36)=true then (I T 32)+(if (B T 12)=true then (I T 82) else -(I T 82)) else (I T 32)+(0:Int)):=e83
  replace e84:I T 84=(if (B T 36)=true then (I T 33)+(0:Int) else (I T 33)+(if (B T 12)=true then (I T 82) else -(I T 82))):=e84
  replace e85:L T 85=(Nz g6 (I T 80) (I T 81) (I T 83) (I T 84) (I T 13) ([]:List (List U))):=by rw[←show gAt 0 (tZ.map (Rf.eval T))=g6 from z6.symm];exact e85
  replace e86:I T 86=(Kb g6 (I T 80) (I T 81) (I T 83) (I T 84) (I T 13) ([]:List (List U))):=by rw[←show gAt 0 (tZ.map (Rf.eval T))=g6 from z6.symm];exact e86
  replace e92:B T 92=(tY (L T 85) (I T 91)):=e92
  replace e96:B T 96=(tY (L T 85) (I T 95)):=e96
  simp only[AE,AF,zN,zR,AR,w2P,zL] at*
  intro h
  have h1:=e79.1 h
  have h29':=(e55.1 (e64.1 h1.1).1).1
  obtain⟨p1,p2⟩:=hpp h29'
  obtain⟨hc,hr,h0,h2⟩:=h29 h29'
  obtain⟨⟨y1',y2',y3',y4',y5'⟩,hb2,hb3⟩:=hb h29'
  refine e98.2 ?_
  by_cases k86:(I T 86)=0
  ·by_cases k37:(B T 37)=true
   ·right
    rw[hgs.2.2.2.2.2] at e85 e86
    rw[e86] at k86
    have hl:(L T 85)=FQ (I T 80) (I T 81) (I T 83) (I T 84) (I T 13) (BC g++[]) (BC g++[]).length:=e85.trans (if_pos k86)
    have hn:=hlen h29'
    have hp:2*I T 13≤I T 34:=by rw[p2] at k37;exact of_decide_eq_true k37
    have w1:(B T 92)=false:=by
     rw[e92,hl,e91,show 2*I T 31=((2*(I T 31).toNat+0:Nat):Int) by omega,tq (by omega),hw2 h29' 0 (by omega),hw2 h29' 0 (by omega),hw2 h29' 0 (by omega),e80,e81,e83,e84]
     exact uG (fwd:=B T 12) (u:=I T 14) (u':=I T 82) (by omega) y3'.1 y5'.1 hr.1 hp
    have w2:(B T 96)=false:=by
     rw[e96,hl,e95,e94,show 2*I T 31+1=((2*(I T 31).toNat+1:Nat):Int) by omega,tq (by omega),hw2 h29' 1 (by omega),hw2 h29' 1 (by omega),hw2 h29' 1 (by omega),e80,e81,e83,e84]
     exact uG (fwd:=B T 12) (u:=I T 14) (u':=I T 82) (by omega) y3'.1 y5'.1 hr.1 hp
    exact e97.2 ⟨w1,w2⟩
   ·left
    exact e89.2 (.inr (by simpa using k37))
  ·left
   exact e89.2 (.inl (e87.2 k86))
 have p79:(B T 29)=true→B T 79=true:=by
  obtain⟨-,-,-,-,-,e54,e55,-,-,-,-,-,-,-,e63,e64,-⟩:=F2
  obtain⟨-,-,-,-,-,-,-,-,-,-,-,-,-,e78,e79,-⟩:=F3
  simp only[AE,AF,zN,zR] at*
  intro h
  clear h98 ht hw2 hlen hpp hb h29 hh hgs hg
  grind
 have p29:¬B T 27=true→B T 29=true:=by
  obtain⟨-,-,-,-,-,-,-,-,-,-,-,-,e29,-⟩:=F0
  simp only[AE,AF,zR] at e29
  intro h
  clear h98 ht hw2 hlen hpp hb h29 hh hgs hg p79
  grind
 have pf:(B T 111)=true:=by
  obtain⟨-,-,-,-,-,-,-,-,-,-,-,e28,-⟩:=F0
  obtain⟨-,-,-,e100,e101,-,e103,-,-,e106,-,-,e109,-,e111,-⟩:=F5
  replace e28:B T 28=(true):=e28
  replace e100:B T 100=(true):=e100
  simp only[AE,AF,zC,zR,zL] at*
  have h101:(B T 79)=true→B T 101=true:=fun h=>e101.2 ⟨h98 h,e100⟩
  have k1:¬B T 27=true→B T 101=true:=fun h=>h101 (p79 (p29 h))
  clear h98 ht hw2 hlen hpp hb h29 hh hgs hg p79 p29 h101
  grind
 refine⟨?_,?_,?_,?_,?_,?_,?_,?_,?_,?_,?_,?_,?_,?_,?_⟩
 ·obtain⟨e17,-,e19,e20,e21,-,e23,e24,-,e26,e27,e28,e29,e30,e31,e32,-⟩:=F0
  obtain⟨e33,e34,e35,e36,e37,e38,e39,e40,e41,e42,e43,e44,e45,e46,e47,e48,-⟩:=F1
  obtain⟨-,e50,e51,e52,e53,e54,e55,e56,-,e58,e59,-,e61,e62,e63,e64,-⟩:=F2
  obtain⟨e65,e66,e67,-,e69,e70,-,e72,e73,e74,e75,e76,e77,e78,-,e80,-⟩:=F3
  obtain⟨e81,e82,e83,e84,e85,e86,e87,-,e89,-,e91,e92,-,e94,e95,e96,-⟩:=F4
  obtain⟨e97,e98,-,e100,e101,-,e103,-,-,e106,-,-,e109,-,e111,-⟩:=F5
  replace e17:B T 17=(Ld g1):=by rw[←show gAt 0 (tT.map (Rf.eval T))=g1 from z1.symm];exact e17
  replace e19:I T 19=(AT g1):=by rw[←show gAt 0 (tT.map (Rf.eval T))=g1 from z1.symm];exact e19
  replace e28:B T 28=(true):=e28
  replace e37:B T 37=(fS g2 (I T 31) (I T 13)):=by rw[←show gAt 0 (tU.map (Rf.eval T))=g2 from z2.symm];exact e37
  replace e38:I T 38=(fR g2 (I T 31) (I T 13)):=by rw[←show gAt 0 (tU.map (Rf.eval T))=g2 from z2.symm];exact e38
  replace e39:I T 39=(if (B T 36)=true then (I T 32)+(if (B T 12)=true then (I T 14) else -(I T 14)) else (I T 32)+I T 15):=e39
  replace e40:I T 40=(if (B T 36)=true then (I T 33)+(I T 15) else (I T 33)+(if (B T 12)=true then (I T 14) else -(I T 14))):=e40
  replace e42:I T 42=(if (B T 36)=true then (I T 32)+(if (B T 12)=true then (I T 41) else -(I T 41)) else (I T 32)+I T 15):=e42
  replace e43:I T 43=(if (B T 36)=true then (I T 33)+(I T 15) else (I T 33)+(if (B T 12)=true then (I T 41) else -(I T 41))):=e43
  replace e44:I T 44=(IP g3 (I T 31) (B T 12) (I T 39) (I T 40) (I T 13)):=by rw[←show gAt 0 (tV.map (Rf.eval T))=g3 from z3.symm];exact e44
  replace e45:I T 45=(GN g3 (I T 31) (I T 39) (I T 40) (I T 13)):=by rw[←show gAt 0 (tV.map (Rf.eval T))=g3 from z3.symm];exact e45
  replace e46:I T 46=(IP g4 (I T 31) (B T 12) (I T 42) (I T 43) (I T 13)):=by rw[←show gAt 0 (tW.map (Rf.eval T))=g4 from z4.symm];exact e46
  replace e47:I T 47=(GN g4 (I T 31) (I T 42) (I T 43) (I T 13)):=by rw[←show gAt 0 (tW.map (Rf.eval T))=g4 from z4.symm];exact e47
  replace e65:L T 65=(Nz g5 (I T 32) (I T 33) (I T 32) (I T 33) (I T 13) ([]:List (List U))):=by rw[←show gAt 0 (tX.map (Rf.eval T))=g5 from z5.symm];exact e65
  replace e66:I T 66=(Kb g5 (I T 32) (I T 33) (I T 32) (I T 33) (I T 13) ([]:List (List U))):=by rw[←show gAt 0 (tX.map (Rf.eval T))=g5 from z5.symm];exact e66
  replace e70:B T 70=(tY (L T 65) (I T 69)):=e70
  replace e74:B T 74=(tY (L T 65) (I T 73)):=e74
  replace e80:I T 80=(if (B T 36)=true then (I T 32)+(if (B T 12)=true then (I T 14) else -(I T 14)) else (I T 32)+(0:Int)):=e80
  replace e81:I T 81=(if (B T 36)=true then (I T 33)+(0:Int) else (I T 33)+(if (B T 12)=true then (I T 14) else -(I T 14))):=e81
  replace e83:I T 83=(if (B T 36)=true then (I T 32)+(if (B T 12)=true then (I T 82) else -(I T 82)) else (I T 32)+(0:Int)):=e83
  replace e84:I T 84=(if (B T 36)=true then (I T 33)+(0:Int) else (I T 33)+(if (B T 12)=true then (I T 82) else -(I T 82))):=e84
  replace e85:L T 85=(Nz g6 (I T 80) (I T 81) (I T 83) (I T 84) (I T 13) ([]:List (List U))):=by rw[←show gAt 0 (tZ.map (Rf.eval T))=g6 from z6.symm];exact e85
  replace e86:I T 86=(Kb g6 (I T 80) (I T 81) (I T 83) (I T 84) (I T 13) ([]:List (List U))):=by rw[←show gAt 0 (tZ.map (Rf.eval T))=g6 from z6.symm];exact e86
  replace e92:B T 92=(tY (L T 85) (I T 91)):=e92
  replace e96:B T 96=(tY (L T 85) (I T 95)):=e96
  replace e100:B T 100=(true):=e100
  simp only[AE,AF,zN,zC,zR,AR,w2P,zL] at*
  exact pf
 ·obtain⟨e17,-,e19,e20,e21,-,e23,e24,-,e26,e27,-,e29,e30,e31,e32,-⟩:=F0
  obtain⟨e33,e34,e35,e36,e37,e38,e39,e40,e41,e42,e43,e44,e45,e46,e47,e48,-⟩:=F1
  obtain⟨-,e50,e51,e52,e53,-,e55,e56,-,e58,e59,-,e61,e62,-,e64,-⟩:=F2
  obtain⟨e65,e66,e67,-,e69,e70,-,e72,e73,e74,e75,e76,e77,-,e79,-⟩:=F3
  replace e17:B T 17=(Ld g1):=by rw[←show gAt 0 (tT.map (Rf.eval T))=g1 from z1.symm];exact e17
  replace e19:I T 19=(AT g1):=by rw[←show gAt 0 (tT.map (Rf.eval T))=g1 from z1.symm];exact e19
  replace e37:B T 37=(fS g2 (I T 31) (I T 13)):=by rw[←show gAt 0 (tU.map (Rf.eval T))=g2 from z2.symm];exact e37
  replace e38:I T 38=(fR g2 (I T 31) (I T 13)):=by rw[←show gAt 0 (tU.map (Rf.eval T))=g2 from z2.symm];exact e38
  replace e39:I T 39=(if (B T 36)=true then (I T 32)+(if (B T 12)=true then (I T 14) else -(I T 14)) else (I T 32)+I T 15):=e39
  replace e40:I T 40=(if (B T 36)=true then (I T 33)+(I T 15) else (I T 33)+(if (B T 12)=true then (I T 14) else -(I T 14))):=e40
  replace e42:I T 42=(if (B T 36)=true then (I T 32)+(if (B T 12)=true then (I T 41) else -(I T 41)) else (I T 32)+I T 15):=e42
  replace e43:I T 43=(if (B T 36)=true then (I T 33)+(I T 15) else (I T 33)+(if (B T 12)=true then (I T 41) else -(I T 41))):=e43
  replace e44:I T 44=(IP g3 (I T 31) (B T 12) (I T 39) (I T 40) (I T 13)):=by rw[←show gAt 0 (tV.map (Rf.eval T))=g3 from z3.symm];exact e44
  replace e45:I T 45=(GN g3 (I T 31) (I T 39) (I T 40) (I T 13)):=by rw[←show gAt 0 (tV.map (Rf.eval T))=g3 from z3.symm];exact e45
  replace e46:I T 46=(IP g4 (I T 31) (B T 12) (I T 42) (I T 43) (I T 13)):=by rw[←show gAt 0 (tW.map (Rf.eval T))=g4 from z4.symm];exact e46
  replace e47:I T 47=(GN g4 (I T 31) (I T 42) (I T 43) (I T 13)):=by rw[←show gAt 0 (tW.map (Rf.eval T))=g4 from z4.symm];exact e47
  replace e65:L T 65=(Nz g5 (I T 32) (I T 33) (I T 32) (I T 33) (I T 13) ([]:List (List U))):=by rw[←show gAt 0 (tX.map (Rf.eval T))=g5 from z5.symm];exact e65
  replace e66:I T 66=(Kb g5 (I T 32) (I T 33) (I T 32) (I T 33) (I T 13) ([]:List (List U))):=by rw[←show gAt 0 (tX.map (Rf.eval T))=g5 from z5.symm];exact e66
  replace e70:B T 70=(tY (L T 65) (I T 69)):=e70
  replace e74:B T 74=(tY (L T 65) (I T 73)):=e74
  simp only[AE,AF,zN,zR,AR,w2P,zL] at*
  intro h
  have h29':=(e55.1 (e64.1 (e79.1 h).1).1).1
  exact (hb h29').2.1
 ·obtain⟨e17,-,e19,e20,e21,-,e23,e24,-,e26,e27,-,e29,e30,e31,e32,-⟩:=F0
  obtain⟨e33,e34,e35,e36,e37,e38,e39,e40,e41,e42,e43,e44,e45,e46,e47,e48,-⟩:=F1
  obtain⟨-,e50,e51,e52,e53,-,e55,e56,-,e58,e59,-,e61,e62,-,e64,-⟩:=F2
  obtain⟨e65,e66,e67,-,e69,e70,-,e72,e73,e74,e75,e76,e77,-,e79,-⟩:=F3
  obtain⟨-,e82,-⟩:=F4
  replace e17:B T 17=(Ld g1):=by rw[←show gAt 0 (tT.map (Rf.eval T))=g1 from z1.symm];exact e17
  replace e19:I T 19=(AT g1):=by rw[←show gAt 0 (tT.map (Rf.eval T))=g1 from z1.symm];exact e19
  replace e37:B T 37=(fS g2 (I T 31) (I T 13)):=by rw[←show gAt 0 (tU.map (Rf.eval T))=g2 from z2.symm];exact e37
  replace e38:I T 38=(fR g2 (I T 31) (I T 13)):=by rw[←show gAt 0 (tU.map (Rf.eval T))=g2 from z2.symm];exact e38
  replace e39:I T 39=(if (B T 36)=true then (I T 32)+(if (B T 12)=true then (I T 14) else -(I T 14)) else (I T 32)+I T 15):=e39
  replace e40:I T 40=(if (B T 36)=true then (I T 33)+(I T 15) else (I T 33)+(if (B T 12)=true then (I T 14) else -(I T 14))):=e40
  replace e42:I T 42=(if (B T 36)=true then (I T 32)+(if (B T 12)=true then (I T 41) else -(I T 41)) else (I T 32)+I T 15):=e42
  replace e43:I T 43=(if (B T 36)=true then (I T 33)+(I T 15) else (I T 33)+(if (B T 12)=true then (I T 41) else -(I T 41))):=e43
  replace e44:I T 44=(IP g3 (I T 31) (B T 12) (I T 39) (I T 40) (I T 13)):=by rw[←show gAt 0 (tV.map (Rf.eval T))=g3 from z3.symm];exact e44
  replace e45:I T 45=(GN g3 (I T 31) (I T 39) (I T 40) (I T 13)):=by rw[←show gAt 0 (tV.map (Rf.eval T))=g3 from z3.symm];exact e45
  replace e46:I T 46=(IP g4 (I T 31) (B T 12) (I T 42) (I T 43) (I T 13)):=by rw[←show gAt 0 (tW.map (Rf.eval T))=g4 from z4.symm];exact e46
  replace e47:I T 47=(GN g4 (I T 31) (I T 42) (I T 43) (I T 13)):=by rw[←show gAt 0 (tW.map (Rf.eval T))=g4 from z4.symm];exact e47
  replace e65:L T 65=(Nz g5 (I T 32) (I T 33) (I T 32) (I T 33) (I T 13) ([]:List (List U))):=by rw[←show gAt 0 (tX.map (Rf.eval T))=g5 from z5.symm];exact e65
  replace e66:I T 66=(Kb g5 (I T 32) (I T 33) (I T 32) (I T 33) (I T 13) ([]:List (List U))):=by rw[←show gAt 0 (tX.map (Rf.eval T))=g5 from z5.symm];exact e66
  replace e70:B T 70=(tY (L T 65) (I T 69)):=e70
  replace e74:B T 74=(tY (L T 65) (I T 73)):=e74
  simp only[AE,AF,zN,zR,AR,w2P,zL] at*
  intro h
  have h29':=(e55.1 (e64.1 (e79.1 h).1).1).1
  have a1:=lo14
  have a2:=hi14
  have a3:=lo15
  have a4:=hi15
  have a5:=lo16
  have a6:=hi16
  omega
 ·obtain⟨e17,-,e19,e20,e21,-,e23,e24,-,e26,e27,-,e29,e30,e31,e32,-⟩:=F0
  obtain⟨e33,e34,e35,e36,e37,e38,e39,e40,e41,e42,e43,e44,e45,e46,e47,e48,-⟩:=F1
  obtain⟨-,e50,e51,e52,e53,-,e55,e56,-,e58,e59,-,e61,e62,-,e64,-⟩:=F2
  obtain⟨e65,e66,e67,-,e69,e70,-,e72,e73,e74,e75,e76,e77,-,e79,-⟩:=F3
  replace e17:B T 17=(Ld g1):=by rw[←show gAt 0 (tT.map (Rf.eval T))=g1 from z1.symm];exact e17
  replace e19:I T 19=(AT g1):=by rw[←show gAt 0 (tT.map (Rf.eval T))=g1 from z1.symm];exact e19
  replace e37:B T 37=(fS g2 (I T 31) (I T 13)):=by rw[←show gAt 0 (tU.map (Rf.eval T))=g2 from z2.symm];exact e37
  replace e38:I T 38=(fR g2 (I T 31) (I T 13)):=by rw[←show gAt 0 (tU.map (Rf.eval T))=g2 from z2.symm];exact e38
  replace e39:I T 39=(if (B T 36)=true then (I T 32)+(if (B T 12)=true then (I T 14) else -(I T 14)) else (I T 32)+I T 15):=e39
  replace e40:I T 40=(if (B T 36)=true then (I T 33)+(I T 15) else (I T 33)+(if (B T 12)=true then (I T 14) else -(I T 14))):=e40
  replace e42:I T 42=(if (B T 36)=true then (I T 32)+(if (B T 12)=true then (I T 41) else -(I T 41)) else (I T 32)+I T 15):=e42
  replace e43:I T 43=(if (B T 36)=true then (I T 33)+(I T 15) else (I T 33)+(if (B T 12)=true then (I T 41) else -(I T 41))):=e43
  replace e44:I T 44=(IP g3 (I T 31) (B T 12) (I T 39) (I T 40) (I T 13)):=by rw[←show gAt 0 (tV.map (Rf.eval T))=g3 from z3.symm];exact e44
  replace e45:I T 45=(GN g3 (I T 31) (I T 39) (I T 40) (I T 13)):=by rw[←show gAt 0 (tV.map (Rf.eval T))=g3 from z3.symm];exact e45
  replace e46:I T 46=(IP g4 (I T 31) (B T 12) (I T 42) (I T 43) (I T 13)):=by rw[←show gAt 0 (tW.map (Rf.eval T))=g4 from z4.symm];exact e46
  replace e47:I T 47=(GN g4 (I T 31) (I T 42) (I T 43) (I T 13)):=by rw[←show gAt 0 (tW.map (Rf.eval T))=g4 from z4.symm];exact e47
  replace e65:L T 65=(Nz g5 (I T 32) (I T 33) (I T 32) (I T 33) (I T 13) ([]:List (List U))):=by rw[←show gAt 0 (tX.map (Rf.eval T))=g5 from z5.symm];exact e65
  replace e66:I T 66=(Kb g5 (I T 32) (I T 33) (I T 32) (I T 33) (I T 13) ([]:List (List U))):=by rw[←show gAt 0 (tX.map (Rf.eval T))=g5 from z5.symm];exact e66
  replace e70:B T 70=(tY (L T 65) (I T 69)):=e70
  replace e74:B T 74=(tY (L T 65) (I T 73)):=e74
  simp only[AE,AF,zN,zR,AR,w2P,zL] at*
  intro h
  have h29':=(e55.1 (e64.1 (e79.1 h).1).1).1
  have a1:=lo14
  have a2:=hi14
  have a3:=lo15
  have a4:=hi15
  have a5:=lo16
  have a6:=hi16
  omega
 ·obtain⟨e17,-,e19,e20,e21,-,e23,e24,-,e26,e27,-,e29,e30,e31,e32,-⟩:=F0
  obtain⟨e33,e34,e35,e36,e37,e38,e39,e40,e41,e42,e43,e44,e45,e46,e47,e48,-⟩:=F1
  obtain⟨-,e50,e51,e52,e53,-,e55,e56,-,e58,e59,-,e61,e62,-,e64,-⟩:=F2
  obtain⟨e65,e66,e67,-,e69,e70,-,e72,e73,e74,e75,e76,e77,-,e79,-⟩:=F3
  replace e17:B T 17=(Ld g1):=by rw[←show gAt 0 (tT.map (Rf.eval T))=g1 from z1.symm];exact e17
  replace e19:I T 19=(AT g1):=by rw[←show gAt 0 (tT.map (Rf.eval T))=g1 from z1.symm];exact e19
  replace e37:B T 37=(fS g2 (I T 31) (I T 13)):=by rw[←show gAt 0 (tU.map (Rf.eval T))=g2 from z2.symm];exact e37
  replace e38:I T 38=(fR g2 (I T 31) (I T 13)):=by rw[←show gAt 0 (tU.map (Rf.eval T))=g2 from z2.symm];exact e38
  replace e39:I T 39=(if (B T 36)=true then (I T 32)+(if (B T 12)=true then (I T 14) else -(I T 14)) else (I T 32)+I T 15):=e39
  replace e40:I T 40=(if (B T 36)=true then (I T 33)+(I T 15) else (I T 33)+(if (B T 12)=true then (I T 14) else -(I T 14))):=e40
  replace e42:I T 42=(if (B T 36)=true then (I T 32)+(if (B T 12)=true then (I T 41) else -(I T 41)) else (I T 32)+I T 15):=e42
  replace e43:I T 43=(if (B T 36)=true then (I T 33)+(I T 15) else (I T 33)+(if (B T 12)=true then (I T 41) else -(I T 41))):=e43
  replace e44:I T 44=(IP g3 (I T 31) (B T 12) (I T 39) (I T 40) (I T 13)):=by rw[←show gAt 0 (tV.map (Rf.eval T))=g3 from z3.symm];exact e44
  replace e45:I T 45=(GN g3 (I T 31) (I T 39) (I T 40) (I T 13)):=by rw[←show gAt 0 (tV.map (Rf.eval T))=g3 from z3.symm];exact e45
  replace e46:I T 46=(IP g4 (I T 31) (B T 12) (I T 42) (I T 43) (I T 13)):=by rw[←show gAt 0 (tW.map (Rf.eval T))=g4 from z4.symm];exact e46
  replace e47:I T 47=(GN g4 (I T 31) (I T 42) (I T 43) (I T 13)):=by rw[←show gAt 0 (tW.map (Rf.eval T))=g4 from z4.symm];exact e47
  replace e65:L T 65=(Nz g5 (I T 32) (I T 33) (I T 32) (I T 33) (I T 13) ([]:List (List U))):=by rw[←show gAt 0 (tX.map (Rf.eval T))=g5 from z5.symm];exact e65
  replace e66:I T 66=(Kb g5 (I T 32) (I T 33) (I T 32) (I T 33) (I T 13) ([]:List (List U))):=by rw[←show gAt 0 (tX.map (Rf.eval T))=g5 from z5.symm];exact e66
  replace e70:B T 70=(tY (L T 65) (I T 69)):=e70
  replace e74:B T 74=(tY (L T 65) (I T 73)):=e74
  simp only[AE,AF,zN,zR,AR,w2P,zL] at*
  intro h
  have h29':=(e55.1 (e64.1 (e79.1 h).1).1).1
  exact (hb h29').2.1
 ·obtain⟨e17,-,e19,e20,e21,-,e23,e24,-,e26,e27,-,e29,e30,e31,e32,-⟩:=F0
  obtain⟨e33,e34,e35,e36,e37,e38,e39,e40,e41,e42,e43,e44,e45,e46,e47,e48,-⟩:=F1
  obtain⟨-,e50,e51,e52,e53,-,e55,e56,-,e58,e59,-,e61,e62,-,e64,-⟩:=F2
  obtain⟨e65,e66,e67,-,e69,e70,-,e72,e73,e74,e75,e76,e77,-,e79,-⟩:=F3
  replace e17:B T 17=(Ld g1):=by rw[←show gAt 0 (tT.map (Rf.eval T))=g1 from z1.symm];exact e17
  replace e19:I T 19=(AT g1):=by rw[←show gAt 0 (tT.map (Rf.eval T))=g1 from z1.symm];exact e19
  replace e37:B T 37=(fS g2 (I T 31) (I T 13)):=by rw[←show gAt 0 (tU.map (Rf.eval T))=g2 from z2.symm];exact e37
  replace e38:I T 38=(fR g2 (I T 31) (I T 13)):=by rw[←show gAt 0 (tU.map (Rf.eval T))=g2 from z2.symm];exact e38
  replace e39:I T 39=(if (B T 36)=true then (I T 32)+(if (B T 12)=true then (I T 14) else -(I T 14)) else (I T 32)+I T 15):=e39
  replace e40:I T 40=(if (B T 36)=true then (I T 33)+(I T 15) else (I T 33)+(if (B T 12)=true then (I T 14) else -(I T 14))):=e40
  replace e42:I T 42=(if (B T 36)=true then (I T 32)+(if (B T 12)=true then (I T 41) else -(I T 41)) else (I T 32)+I T 15):=e42
  replace e43:I T 43=(if (B T 36)=true then (I T 33)+(I T 15) else (I T 33)+(if (B T 12)=true then (I T 41) else -(I T 41))):=e43
  replace e44:I T 44=(IP g3 (I T 31) (B T 12) (I T 39) (I T 40) (I T 13)):=by rw[←show gAt 0 (tV.map (Rf.eval T))=g3 from z3.symm];exact e44
  replace e45:I T 45=(GN g3 (I T 31) (I T 39) (I T 40) (I T 13)):=by rw[←show gAt 0 (tV.map (Rf.eval T))=g3 from z3.symm];exact e45
  replace e46:I T 46=(IP g4 (I T 31) (B T 12) (I T 42) (I T 43) (I T 13)):=by rw[←show gAt 0 (tW.map (Rf.eval T))=g4 from z4.symm];exact e46
  replace e47:I T 47=(GN g4 (I T 31) (I T 42) (I T 43) (I T 13)):=by rw[←show gAt 0 (tW.map (Rf.eval T))=g4 from z4.symm];exact e47
  replace e65:L T 65=(Nz g5 (I T 32) (I T 33) (I T 32) (I T 33) (I T 13) ([]:List (List U))):=by rw[←show gAt 0 (tX.map (Rf.eval T))=g5 from z5.symm];exact e65
  replace e66:I T 66=(Kb g5 (I T 32) (I T 33) (I T 32) (I T 33) (I T 13) ([]:List (List U))):=by rw[←show gAt 0 (tX.map (Rf.eval T))=g5 from z5.symm];exact e66
  replace e70:B T 70=(tY (L T 65) (I T 69)):=e70
  replace e74:B T 74=(tY (L T 65) (I T 73)):=e74
  simp only[AE,AF,zN,zR,AR,w2P,zL] at*
  intro h
  have h29':=(e55.1 (e64.1 (e79.1 h).1).1).1
  have a1:=lo14
  have a2:=hi14
  have a3:=lo15
  have a4:=hi15
  have a5:=lo16
  have a6:=hi16
  omega
 ·obtain⟨e17,-,e19,e20,e21,-,e23,e24,-,e26,e27,-,e29,e30,e31,e32,-⟩:=F0
  obtain⟨e33,e34,e35,e36,e37,e38,e39,e40,e41,e42,e43,e44,e45,e46,e47,e48,-⟩:=F1
  obtain⟨-,e50,e51,e52,e53,-,e55,e56,-,e58,e59,-,e61,e62,-,e64,-⟩:=F2
  obtain⟨e65,e66,e67,-,e69,e70,-,e72,e73,e74,e75,e76,e77,-,e79,-⟩:=F3
  replace e17:B T 17=(Ld g1):=by rw[←show gAt 0 (tT.map (Rf.eval T))=g1 from z1.symm];exact e17
  replace e19:I T 19=(AT g1):=by rw[←show gAt 0 (tT.map (Rf.eval T))=g1 from z1.symm];exact e19
  replace e37:B T 37=(fS g2 (I T 31) (I T 13)):=by rw[←show gAt 0 (tU.map (Rf.eval T))=g2 from z2.symm];exact e37
  replace e38:I T 38=(fR g2 (I T 31) (I T 13)):=by rw[←show gAt 0 (tU.map (Rf.eval T))=g2 from z2.symm];exact e38
  replace e39:I T 39=(if (B T 36)=true then (I T 32)+(if (B T 12)=true then (I T 14) else -(I T 14)) else (I T 32)+I T 15):=e39
  replace e40:I T 40=(if (B T 36)=true then (I T 33)+(I T 15) else (I T 33)+(if (B T 12)=true then (I T 14) else -(I T 14))):=e40
  replace e42:I T 42=(if (B T 36)=true then (I T 32)+(if (B T 12)=true then (I T 41) else -(I T 41)) else (I T 32)+I T 15):=e42
  replace e43:I T 43=(if (B T 36)=true then (I T 33)+(I T 15) else (I T 33)+(if (B T 12)=true then (I T 41) else -(I T 41))):=e43
  replace e44:I T 44=(IP g3 (I T 31) (B T 12) (I T 39) (I T 40) (I T 13)):=by rw[←show gAt 0 (tV.map (Rf.eval T))=g3 from z3.symm];exact e44
  replace e45:I T 45=(GN g3 (I T 31) (I T 39) (I T 40) (I T 13)):=by rw[←show gAt 0 (tV.map (Rf.eval T))=g3 from z3.symm];exact e45
  replace e46:I T 46=(IP g4 (I T 31) (B T 12) (I T 42) (I T 43) (I T 13)):=by rw[←show gAt 0 (tW.map (Rf.eval T))=g4 from z4.symm];exact e46
  replace e47:I T 47=(GN g4 (I T 31) (I T 42) (I T 43) (I T 13)):=by rw[←show gAt 0 (tW.map (Rf.eval T))=g4 from z4.symm];exact e47
  replace e65:L T 65=(Nz g5 (I T 32) (I T 33) (I T 32) (I T 33) (I T 13) ([]:List (List U))):=by rw[←show gAt 0 (tX.map (Rf.eval T))=g5 from z5.symm];exact e65
  replace e66:I T 66=(Kb g5 (I T 32) (I T 33) (I T 32) (I T 33) (I T 13) ([]:List (List U))):=by rw[←show gAt 0 (tX.map (Rf.eval T))=g5 from z5.symm];exact e66
  replace e70:B T 70=(tY (L T 65) (I T 69)):=e70
  replace e74:B T 74=(tY (L T 65) (I T 73)):=e74
  simp only[AE,AF,zN,zR,AR,w2P,zL] at*
  intro h
  have h29':=(e55.1 (e64.1 (e79.1 h).1).1).1
  have a1:=lo14
  have a2:=hi14
  have a3:=lo15
  have a4:=hi15
  have a5:=lo16
  have a6:=hi16
  omega
 ·obtain⟨e17,-,e19,e20,e21,-,e23,e24,-,e26,e27,-,e29,e30,e31,e32,-⟩:=F0
  obtain⟨e33,e34,e35,-⟩:=F1
  replace e17:B T 17=(Ld g1):=by rw[←show gAt 0 (tT.map (Rf.eval T))=g1 from z1.symm];exact e17
  replace e19:I T 19=(AT g1):=by rw[←show gAt 0 (tT.map (Rf.eval T))=g1 from z1.symm];exact e19
  simp only[AE,AF,zR,AR,zL] at*
  intro h
  have h29':=h
  exact (hb h29').2.1
 ·obtain⟨e17,-,e19,e20,e21,-,e23,e24,-,e26,e27,-,e29,-⟩:=F0
  obtain⟨-,-,-,-,-,-,-,-,e41,-⟩:=F1
  replace e17:B T 17=(Ld g1):=by rw[←show gAt 0 (tT.map (Rf.eval T))=g1 from z1.symm];exact e17
  replace e19:I T 19=(AT g1):=by rw[←show gAt 0 (tT.map (Rf.eval T))=g1 from z1.symm];exact e19
  simp only[AE,AF,zR,AR] at*
  intro h
  have h29':=h
  have a1:=lo14
  have a2:=hi14
  have a3:=lo15
  have a4:=hi15
  have a5:=lo16
  have a6:=hi16
  omega
 ·obtain⟨e17,-,e19,e20,e21,-,e23,e24,-,e26,e27,-,e29,-⟩:=F0
  replace e17:B T 17=(Ld g1):=by rw[←show gAt 0 (tT.map (Rf.eval T))=g1 from z1.symm];exact e17
  replace e19:I T 19=(AT g1):=by rw[←show gAt 0 (tT.map (Rf.eval T))=g1 from z1.symm];exact e19
  simp only[AE,AF,zR] at*
  intro h
  have h29':=h
  have a1:=lo14
  have a2:=hi14
  have a3:=lo15
  have a4:=hi15
  have a5:=lo16
  have a6:=hi16
  omega
 ·obtain⟨e17,-,e19,e20,e21,-,e23,e24,-,e26,e27,-,e29,e30,e31,e32,-⟩:=F0
  obtain⟨e33,e34,e35,-⟩:=F1
  replace e17:B T 17=(Ld g1):=by rw[←show gAt 0 (tT.map (Rf.eval T))=g1 from z1.symm];exact e17
  replace e19:I T 19=(AT g1):=by rw[←show gAt 0 (tT.map (Rf.eval T))=g1 from z1.symm];exact e19
  simp only[AE,AF,zR,AR,zL] at*
  intro h
  have h29':=h
  exact (hb h29').2.1
 ·obtain⟨e17,-,e19,e20,e21,-,e23,e24,-,e26,e27,-,e29,-⟩:=F0
  replace e17:B T 17=(Ld g1):=by rw[←show gAt 0 (tT.map (Rf.eval T))=g1 from z1.symm];exact e17
  replace e19:I T 19=(AT g1):=by rw[←show gAt 0 (tT.map (Rf.eval T))=g1 from z1.symm];exact e19
  simp only[AE,AF,zR] at*
  intro h
  have h29':=h
  have a1:=lo14
  have a2:=hi14
  have a3:=lo15
  have a4:=hi15
  have a5:=lo16
  have a6:=hi16
  omega
 ·obtain⟨e17,-,e19,e20,e21,-,e23,e24,-,e26,e27,-,e29,-⟩:=F0
  replace e17:B T 17=(Ld g1):=by rw[←show gAt 0 (tT.map (Rf.eval T))=g1 from z1.symm];exact e17
  replace e19:I T 19=(AT g1):=by rw[←show gAt 0 (tT.map (Rf.eval T))=g1 from z1.symm];exact e19
  simp only[AE,AF,zR] at*
  intro h
  have h29':=h
  have a1:=lo14
  have a2:=hi14
  have a3:=lo15
  have a4:=hi15
  have a5:=lo16
  have a6:=hi16
  omega
 ·obtain⟨e17,-,e19,e20,e21,-,e23,e24,-,e26,e27,-,e29,e30,e31,-⟩:=F0
  replace e17:B T 17=(Ld g1):=by rw[←show gAt 0 (tT.map (Rf.eval T))=g1 from z1.symm];exact e17
  replace e19:I T 19=(AT g1):=by rw[←show gAt 0 (tT.map (Rf.eval T))=g1 from z1.symm];exact e19
  simp only[AE,AF,zR,AR,zL] at*
  intro h
  exact (h29 h).2.2
 ·obtain⟨e17,-,e19,e20,e21,-,e23,e24,-,e26,e27,-,e29,e30,-⟩:=F0
  replace e17:B T 17=(Ld g1):=by rw[←show gAt 0 (tT.map (Rf.eval T))=g1 from z1.symm];exact e17
  replace e19:I T 19=(AT g1):=by rw[←show gAt 0 (tT.map (Rf.eval T))=g1 from z1.symm];exact e19
  simp only[AE,AF,zR,zL] at*
  intro h
  have:=(h29 h).2.2
  omega
theorem uZ:HI Try.prog 9 Try.f8.params.toList 0=some (uH,tw):=by kernel_rfl
theorem uc:∀p∈([(12,J6),(13,KO),(16,C3),(25,fa),(19,Jx),(20,gf),(17,M9),(18,tv),(32,tp)]:List (FuncId × Ak)),Aq Try.prog p.1 p.2:=by simp only[List.forall_mem_cons];exact⟨aa,av,Yw,gG,Zt,iv,eT,uq,uo,fun _ h=>absurd h (by simp)⟩
theorem uf:∀T:Tab,AL T (BT 0 tw)→Bnd T 0 tw→TW 1048576 T 0 tw→Ag T ((tu).map En.be)→Nj T uQ∧B T 111=true:=by
 intro T hS hBd hBl hE
 obtain⟨hz0,-,-,-,⟨hl4,he4⟩,-,-,-,-,-,⟨hl10,he10⟩,⟨lo11,hi11⟩,-,⟨lo14,hi14⟩,⟨lo15,hi15⟩,⟨lo16,hi16⟩,-⟩:=hBd
 replace hz0:(S T 0).size≤140737488355328:=hz0
 replace hl4:(L T 4).length≤140737488355328:=hl4
 replace hl10:(L T 10).length≤140737488355328:=hl10
 replace lo11:0≤I T 11:=lo11
 replace hi11:I T 11≤255:=hi11
 replace lo14: -32768≤I T 14:=lo14
 replace hi14:I T 14≤32767:=hi14
 replace lo15: -32768≤I T 15:=lo15
 replace hi15:I T 15≤32767:=hi15
 replace lo16:0≤I T 16:=lo16
 replace hi16:I T 16≤65535:=hi16
 obtain⟨g,hg⟩:∃g:Ln,g=Ln.mk (S T 0) (I T 1) (I T 2) (I T 3) (L T 4) (I T 5) (I T 6) (I T 7) (I T 8) (I T 9) (L T 10):=⟨_,rfl⟩
 obtain⟨hb4,hb10,-⟩:=hBl
 replace hb4:(L T 4).length≤1048576:=hb4
 replace hb10:(L T 10).length≤1048576:=hb10
 skip
 obtain⟨A0,hO⟩:=Ar (tys:=[.b]) (rs:=uj) hS (by kernel_rfl) hE
 obtain⟨g1,z1⟩:∃g:Ln,g=Ln.mk (S T 0) (I T 1) (I T 2) (I T 3) (L T 4) (I T 5) (I T 6) (I T 7) (I T 8) (I T 9) (L T 10):=⟨_,rfl⟩
 obtain⟨g2,z2⟩:∃g:Ln,g=Ln.mk (S T 0) (I T 1) (I T 2) (I T 3) (L T 4) (I T 5) (I T 6) (I T 7) (I T 8) (I T 9) (L T 10):=⟨_,rfl⟩
 obtain⟨g3,z3⟩:∃g:Ln,g=Ln.mk (S T 0) (I T 1) (I T 2) (I T 3) (L T 4) (I T 5) (I T 6) (I T 7) (I T 8) (I T 9) (L T 10):=⟨_,rfl⟩
 obtain⟨g4,z4⟩:∃g:Ln,g=Ln.mk (S T 0) (I T 1) (I T 2) (I T 3) (L T 4) (I T 5) (I T 6) (I T 7) (I T 8) (I T 9) (L T 10):=⟨_,rfl⟩
 obtain⟨g5,z5⟩:∃g:Ln,g=Ln.mk (S T 0) (I T 1) (I T 2) (I T 3) (L T 4) (I T 5) (I T 6) (I T 7) (I T 8) (I T 9) (L T 10):=⟨_,rfl⟩
 obtain⟨g6,z6⟩:∃g:Ln,g=Ln.mk (S T 0) (I T 1) (I T 2) (I T 3) (L T 4) (I T 5) (I T 6) (I T 7) (I T 8) (I T 9) (L T 10):=⟨_,rfl⟩
 obtain⟨q0,r0,r1,r2,r3,r4,r5,r6,r7,r8,r9,r10,r11,r12,r13⟩:=ui hz0 hl4 hl10 lo11 hi11 lo14 hi14 lo15 hi15 lo16 hi16 g hg hb4 hb10 g1 z1 g2 z2 g3 z3 g4 z4 g5 z5 g6 z6 A0
 exact⟨⟨r0,r1,r2,r3,r4,r5,r6,r7,r8,r9,r10,r11,r12,r13,trivial⟩,q0⟩
end Go.Eng
end
