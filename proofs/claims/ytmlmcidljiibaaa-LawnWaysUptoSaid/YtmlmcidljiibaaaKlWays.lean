/-
  A part of the proof: K_lWaysd K_lWays.
-/
import Derived.Test.YtmlmcidljiibaaaXQlWays
import Derived.Test.YtmlmcidljiibaaaE3
import Derived.Test.YtmlmcidljiibaaaE4
import Derived.Test.YtmlmcidljiibaaaKgreat
import Derived.Test.YtmlmcidljiibaaaKworks
import Derived.Test.YtmlmcidljiibaaaKway
import Derived.Test.YtmlmcidljiibaaaKtouched
import Derived.Test.YtmlmcidljiibaaaKsame
import Derived.Test.YtmlmcidljiibaaaKwithin
import Derived.Test.YtmlmcidljiibaaaKhas
import Derived.Test.YtmlmcidljiibaaaKdiscs
import Derived.Test.YtmlmcidljiibaaaKreached
set_option linter.unusedVariables false
set_option linter.unusedSimpArgs false
noncomputable section
open Go Go.Eng Go.Proofs
set_option maxHeartbeats 4000000
set_option maxRecDepth 100000
namespace Go.Eng
def Is:List Kd:=[.str,k64,k64,k64,.list [k64,k64,k64,k64,.bool],k64,k64,k64,k64,k64,.list [k64,k64,k64],k64,k64,k64,k64,k64,.list [k64,k64,k64],.int .u8 (0) (255),.int .u8 (0) (255)]
def To:List AC:=((Fj Try.prog 9 Try.f5.params.toList 0).map (·.1)).getD []
def bE:List Rf:=[.e 0,.e 1,.e 2,.e 3,.e 4,.e 5,.e 6,.e 7,.e 8,.e 9,.e 10]
def GL:List Rf:=[.e 0,.e 1,.e 2,.e 3,.e 4,.e 5,.e 6,.e 7,.e 8,.e 9,.e 10,.e 11,.e 12,.e 13,.e 14,.e 15,.e 16]
def J2:List Rf:=[.e 0,.e 1,.e 2,.e 3,.e 4,.e 5,.e 6,.e 7,.e 8,.e 9,.e 10,.e 13,.e 14,.e 11,.e 12,.e 15,.e 16]
def Jv:List Rf:=[.e 0,.e 1,.e 2,.e 3,.e 4,.e 5,.e 6,.e 7,.e 8,.e 9,.e 10,.e 11,.e 12,.e 15,.e 16]
def J4:List Rf:=[.e 0,.e 1,.e 2,.e 3,.e 4,.e 5,.e 6,.e 7,.e 8,.e 9,.e 10,.e 11,.e 12,.e 11,.e 12,.e 15,.e 16]
def KH:List Rf:=[.e 0,.e 1,.e 2,.e 3,.e 4,.e 5,.e 6,.e 7,.e 8,.e 9,.e 10,.e 11,.e 12,.e 13,.e 14,.e 61,.e 16]
def Mi:List Rf:=[.e 0,.e 1,.e 2,.e 3,.e 4,.e 5,.e 6,.e 7,.e 8,.e 9,.e 10,.e 16]
def Wi:List En:=[⟨19,.outB "great.0" IF,bE⟩,
 ⟨20,.not,[.e 19]⟩,
 ⟨21,.len,[.e 16]⟩,
 ⟨22,.lt,[.c (.int 12),.e 21]⟩,
 ⟨23,.or,[.e 19,.e 22]⟩,
 ⟨24,.outB "works.0" Dz,[]⟩,
 ⟨25,.not,[.e 23]⟩,
 ⟨26,.outL "way.0" FX,GL⟩,
 ⟨27,.outI "way.1" FO,GL⟩,
 ⟨28,.ne,[.e 27,.c (.int 0)]⟩,
 ⟨29,.and,[.e 25,.e 28]⟩,
 ⟨30,.len,[.e 26]⟩,
 ⟨31,.eq,[.e 30,.c (.int 0)]⟩,
 ⟨32,.and,[.e 29,.e 31]⟩,
 ⟨33,.outB "works.0" Dz,[]⟩,
 ⟨34,.and,[.e 31,.e 33]⟩]
def WC:List En:=[⟨35,.and,[.e 25,.n 28]⟩,
 ⟨36,.outL "way.0" FX,J2⟩,
 ⟨37,.outI "way.1" FO,J2⟩,
 ⟨38,.outL "touched.0" Hd,Jv⟩,
 ⟨39,.outI "touched.1" HZ,Jv⟩,
 ⟨40,.outL "way.0" FX,J4⟩,
 ⟨41,.outI "way.1" FO,J4⟩,
 ⟨42,.ne,[.e 37,.c (.int 0)]⟩,
 ⟨43,.and,[.e 35,.n 42]⟩,
 ⟨44,.ne,[.e 39,.c (.int 0)]⟩,
 ⟨45,.or,[.e 42,.e 44]⟩,
 ⟨46,.and,[.e 35,.n 45]⟩,
 ⟨47,.ne,[.e 41,.c (.int 0)]⟩,
 ⟨48,.or,[.e 45,.e 47]⟩,
 ⟨49,.and,[.e 35,.n 48]⟩,
 ⟨50,.outB "same.0" Jd,[.e 26,.e 36]⟩]
def WF:List En:=[⟨51,.or,[.e 48,.n 50]⟩,
 ⟨52,.and,[.e 35,.n 51]⟩,
 ⟨53,.outB "within.0" Gf,[.e 38,.e 26]⟩,
 ⟨54,.or,[.e 51,.n 53]⟩,
 ⟨55,.and,[.e 35,.n 54]⟩,
 ⟨56,.outB "same.0" Jd,[.e 38,.e 40]⟩,
 ⟨57,.or,[.e 54,.n 56]⟩,
 ⟨58,.and,[.e 35,.e 57]⟩,
 ⟨59,.and,[.e 35,.n 57]⟩,
 ⟨60,.w2 .i64 .add,[.e 15,.e 18]⟩,
 ⟨61,.o2 .min,[.c (.int 16384),.e 60]⟩,
 ⟨62,.outL "way.0" FX,KH⟩,
 ⟨63,.outI "way.1" FO,KH⟩,
 ⟨64,.ne,[.e 63,.c (.int 0)]⟩,
 ⟨65,.and,[.e 59,.n 64]⟩,
 ⟨66,.outB "within.0" Gf,[.e 26,.e 62]⟩]
def Wd:List En:=[⟨67,.or,[.e 64,.n 66]⟩,
 ⟨68,.and,[.e 59,.e 67]⟩,
 ⟨69,.and,[.e 59,.n 67]⟩,
 ⟨70,.o2 .mod,[.e 17,.c (.int 65)]⟩,
 ⟨71,.o2 .sub,[.c (.int 64),.e 70]⟩,
 ⟨72,.w2 .i64 .mul,[.e 11,.e 71]⟩,
 ⟨73,.w2 .i64 .mul,[.e 13,.e 70]⟩,
 ⟨74,.w2 .i64 .add,[.e 72,.e 73]⟩,
 ⟨75,.o2 .sub,[.c (.int 64),.e 70]⟩,
 ⟨76,.w2 .i64 .mul,[.e 12,.e 75]⟩,
 ⟨77,.w2 .i64 .mul,[.e 14,.e 70]⟩,
 ⟨78,.w2 .i64 .add,[.e 76,.e 77]⟩,
 ⟨79,.outL "discs.0" KA,Mi⟩]
def E8:List En:=Wi++(WC++(WF++(Wd)))
def WW:List En:=[⟨81,.len,[.e 79]⟩,
 ⟨82,.lt,[.e 80,.e 81]⟩,
 ⟨83,.and,[.e 69,.e 82]⟩,
 ⟨84,.and,[.e 69,.n 82]⟩,
 ⟨85,.get .i 0,[.e 79,.e 80]⟩,
 ⟨86,.w2 .i64 .mul,[.c (.int 64),.e 85]⟩,
 ⟨87,.w2 .i64 .sub,[.e 74,.e 86]⟩,
 ⟨88,.get .i 1,[.e 79,.e 80]⟩,
 ⟨89,.w2 .i64 .mul,[.c (.int 64),.e 88]⟩,
 ⟨90,.w2 .i64 .sub,[.e 78,.e 89]⟩,
 ⟨91,.get .i 2,[.e 79,.e 80]⟩,
 ⟨92,.w2 .i64 .add,[.e 15,.e 91]⟩,
 ⟨93,.w2 .i64 .mul,[.c (.int 64),.e 92]⟩,
 ⟨94,.w2 .i64 .mul,[.e 87,.e 87]⟩,
 ⟨95,.w2 .i64 .mul,[.e 90,.e 90]⟩,
 ⟨96,.w2 .i64 .add,[.e 94,.e 95]⟩]
def WJ:List En:=[⟨97,.w2 .i64 .mul,[.e 93,.e 93]⟩,
 ⟨98,.lt,[.e 96,.e 97]⟩,
 ⟨99,.and,[.e 83,.e 98]⟩,
 ⟨100,.outB "has.0" LM,[.e 26,.e 80]⟩,
 ⟨101,.and,[.e 98,.n 100]⟩,
 ⟨102,.and,[.e 83,.e 101]⟩,
 ⟨103,.and,[.e 83,.n 101]⟩,
 ⟨104,.w2 .i64 .add,[.e 80,.c (.int 1)]⟩]
def C5:List En:=WW++(WJ)
def R2:List ObE:=[⟨some 83,.inl,[.e 80,.e 79]⟩,⟨some 83,.inl,[.e 80,.e 79]⟩,⟨some 83,.inl,[.e 80,.e 79]⟩]
def IC:Ae:=mkD 80 1 C5 103 [.e 104] R2 [26,15,79,78,74,69]
def KR:List Rf:=[.e 26,.e 15,.e 79,.e 78,.e 74,.e 69,.c (.int 0)]
def Mn:List En:=[]
def W2:List En:=[⟨106,.len,[.e 26]⟩,
 ⟨107,.lt,[.e 105,.e 106]⟩,
 ⟨108,.and,[.e 84,.e 107]⟩,
 ⟨109,.and,[.e 84,.n 107]⟩,
 ⟨110,.get .i 0,[.e 26,.e 105]⟩,
 ⟨111,.lt,[.e 110,.c (.int 0)]⟩,
 ⟨112,.and,[.e 108,.n 111]⟩,
 ⟨113,.and,[.e 108,.n 111]⟩,
 ⟨114,.get .i 0,[.e 26,.e 105]⟩,
 ⟨115,.and,[.e 108,.n 111]⟩,
 ⟨116,.len,[.e 79]⟩,
 ⟨117,.le,[.e 116,.e 114]⟩,
 ⟨118,.or,[.e 111,.e 117]⟩,
 ⟨119,.and,[.e 108,.n 118]⟩,
 ⟨120,.lt,[.c (.int 0),.e 105]⟩,
 ⟨121,.and,[.e 119,.e 120]⟩]
def VX:List En:=[⟨122,.and,[.e 119,.e 120]⟩,
 ⟨123,.get .i 0,[.e 26,.e 105]⟩,
 ⟨124,.and,[.e 119,.e 120]⟩,
 ⟨125,.and,[.e 119,.e 120]⟩,
 ⟨126,.w2 .i64 .sub,[.e 105,.c (.int 1)]⟩,
 ⟨127,.get .i 0,[.e 26,.e 126]⟩,
 ⟨128,.le,[.e 123,.e 127]⟩,
 ⟨129,.and,[.e 120,.e 128]⟩,
 ⟨130,.or,[.e 118,.e 129]⟩,
 ⟨131,.and,[.e 108,.n 130]⟩,
 ⟨132,.and,[.e 108,.n 130]⟩,
 ⟨133,.and,[.e 108,.n 130]⟩,
 ⟨134,.and,[.e 108,.n 130]⟩,
 ⟨135,.and,[.e 108,.n 130]⟩,
 ⟨136,.get .i 0,[.e 26,.e 105]⟩,
 ⟨137,.get .i 0,[.e 79,.e 136]⟩]
def Wr:List En:=[⟨138,.get .i 1,[.e 79,.e 136]⟩,
 ⟨139,.get .i 2,[.e 79,.e 136]⟩,
 ⟨140,.and,[.e 108,.n 130]⟩,
 ⟨141,.outB "reached.0" Hg,[.e 11,.e 12,.e 13,.e 14,.e 137,.e 138,.e 139,.e 15]⟩,
 ⟨142,.or,[.e 130,.n 141]⟩,
 ⟨143,.and,[.e 108,.e 142]⟩,
 ⟨144,.and,[.e 108,.n 142]⟩,
 ⟨145,.w2 .i64 .add,[.e 105,.c (.int 1)]⟩]
def D5:List En:=W2++(VX++(Wr))
def RY:List ObE:=[⟨some 140,.pre "reached.p0" Fg,[.e 11,.e 12,.e 13,.e 14,.e 137,.e 138,.e 139,.e 15]⟩,⟨some 140,.pre "reached.p1" Ff,[.e 11,.e 12,.e 13,.e 14,.e 137,.e 138,.e 139,.e 15]⟩,⟨some 140,.pre "reached.p2" Fa,[.e 11,.e 12,.e 13,.e 14,.e 137,.e 138,.e 139,.e 15]⟩,⟨some 140,.pre "reached.p3" Fm,[.e 11,.e 12,.e 13,.e 14,.e 137,.e 138,.e 139,.e 15]⟩,⟨some 140,.pre "reached.p4" Fc,[.e 11,.e 12,.e 13,.e 14,.e 137,.e 138,.e 139,.e 15]⟩,⟨some 135,.inl,[.e 136,.e 79]⟩,⟨some 135,.inl,[.e 105,.e 26]⟩,⟨some 125,.inl,[.e 126,.e 26]⟩,⟨some 122,.inl,[.e 105,.e 26]⟩,⟨some 113,.inl,[.e 105,.e 26]⟩,⟨some 108,.inl,[.e 105,.e 26]⟩]
def Hq:Ae:=mkD 105 1 D5 144 [.e 145] RY [11,12,13,14,15,79,26,84]
def KM:List Rf:=[.e 11,.e 12,.e 13,.e 14,.e 15,.e 79,.e 26,.e 84,.c (.int 0)]
def WS:List En:=[⟨146,.outB "works.0" Dz,[]⟩,
 ⟨147,.ite .b,[.e 143,.c (.bool false),.e 146]⟩,
 ⟨148,.or,[.e 143,.e 109]⟩,
 ⟨149,.ite .b,[.e 102,.c (.bool false),.e 147]⟩,
 ⟨150,.or,[.e 102,.e 148]⟩,
 ⟨151,.ite .b,[.e 68,.c (.bool false),.e 149]⟩,
 ⟨152,.or,[.e 68,.e 150]⟩,
 ⟨153,.ite .i,[.e 58,.e 37,.e 63]⟩,
 ⟨154,.ite .b,[.e 58,.c (.bool false),.e 151]⟩,
 ⟨155,.or,[.e 58,.e 152]⟩,
 ⟨156,.ite .b,[.e 29,.e 34,.e 154]⟩,
 ⟨157,.or,[.e 29,.e 155]⟩,
 ⟨158,.ite .b,[.e 23,.e 24,.e 156]⟩,
 ⟨159,.or,[.e 23,.e 157]⟩]
def NA:List En:=WS
def Xi:List ObE:=[⟨some 84,.owes Hq,[.e 11,.e 12,.e 13,.e 14,.e 15,.e 79,.e 26,.e 84,.c (.int 0)]⟩,
 ⟨some 69,.owes IC,[.e 26,.e 15,.e 79,.e 78,.e 74,.e 69,.c (.int 0)]⟩,
 ⟨some 69,.pre "discs.p0" Hx,Mi⟩]
def iB:List Rf:=[.e 158]
theorem f8:TC 19 (Tw Try.prog [(12,HP),(13,HN),(17,Hj),(20,Hr),(21,Ku),(22,HQ),(18,Jz),(23,HK),(24,C4)] Ag 3000 20 5 To 19)=some (158,(E8++((Ax IC [.i] KR)++(C5++(Mn++((Ax Hq [.i] KM)++(D5++(NA))))))).map En.be,Xi.map ObE.be):=by kernel_rfl
theorem YP {T:Tab}(hz0:(S T 0).size≤140737488355328)(hl4:(L T 4).length≤140737488355328)(hl10:(L T 10).length≤140737488355328)(hl16:(L T 16).length≤140737488355328)(lo17:0≤I T 17)(hi17:I T 17≤255)(lo18:0≤I T 18)(hi18:I T 18≤255)(g:Ln)(hg:g=Ln.mk (S T 0) (I T 1) (I T 2) (I T 3) (L T 4) (I T 5) (I T 6) (I T 7) (I T 8) (I T 9) (L T 10))(hb4:(L T 4).length≤1048576)(hb10:(L T 10).length≤1048576)(hb16:(L T 16).length≤1048576)(g1:Ln)(z1:g1=Ln.mk (S T 0) (I T 1) (I T 2) (I T 3) (L T 4) (I T 5) (I T 6) (I T 7) (I T 8) (I T 9) (L T 10))(g2:Ln)(z2:g2=Ln.mk (S T 0) (I T 1) (I T 2) (I T 3) (L T 4) (I T 5) (I T 6) (I T 7) (I T 8) (I T 9) (L T 10))(g3:Ln)(z3:g3=Ln.mk (S T 0) (I T 1) (I T 2) (I T 3) (L T 4) (I T 5) (I T 6) (I T 7) (I T 8) (I T 9) (L T 10))(g4:Ln)(z4:g4=Ln.mk (S T 0) (I T 1) (I T 2) (I T 3) (L T 4) (I T 5) (I T 6) (I T 7) (I T 8) (I T 9) (L T 10))(g5:Ln)(z5:g5=Ln.mk (S T 0) (I T 1) (I T 2) (I T 3) (L T 4) (I T 5) (I T 6) (I T 7) (I T 8) (I T 9) (L T 10))(g6:Ln)(z6:g6=Ln.mk (S T 0) (I T 1) (I T 2) (I T 3) (L T 4) (I T 5) (I T 6) (I T 7) (I T 8) (I T 9) (L T 10))(g7:Ln)(z7:g7=Ln.mk (S T 0) (I T 1) (I T 2) (I T 3) (L T 4) (I T 5) (I T 6) (I T 7) (I T 8) (I T 9) (L T 10))(A0:AI T E8):
  (g1=g∧g2=g∧g3=g∧g4=g∧g5=g∧g6=g∧g7=g)∧((B T 35)=true→Cf g (I T 11) (I T 12) (I T 13) (I T 14) (I T 15) ((L T 16))=0)∧((B T 35)=true→AO g=0∧AF (I T 11) (I T 12)=true∧AF (I T 13) (I T 14)=true∧(1≤I T 15∧I T 15≤16384)∧((L T 16)).length≤12∧((L T 16)).all Aq=true)∧((B T 35)=true→L T 26=Av (I T 11) (I T 12) (I T 13) (I T 14) (I T 15) (AN g++((L T 16))) (AN g++((L T 16))).length∧((L T 36)=L T 26∧I T 37=0)∧((L T 38)=Av (I T 11) (I T 12) (I T 11) (I T 12) (I T 15) (AN g++((L T 16))) (AN g++((L T 16))).length∧I T 39=0)∧((L T 40)=L T 38∧I T 41=0))∧((B T 58)=false)∧((B T 68)=false)∧((B T 69)=true→(AO g=0∧AF (I T 11) (I T 12)=true∧AF (I T 13) (I T 14)=true∧(1≤I T 15∧I T 15≤16384)∧((L T 16)).length≤12∧((L T 16)).all Aq=true)∧L T 26=Av (I T 11) (I T 12) (I T 13) (I T 14) (I T 15) (AN g++((L T 16))) (AN g++((L T 16))).length∧L T 79=(AN g++((L T 16)))∧Cr ((L T 79))∧((L T 79)).length≤37∧(0≤I T 70∧I T 70≤64)∧((I T 74)=I T 11*(64 - (I T 70))+I T 13*I T 70∧I T 78=I T 12*(64 - (I T 70))+I T 14*I T 70)):=by
 obtain⟨F0,A0⟩:=A0.cut
 obtain⟨F1,A0⟩:=A0.cut
 obtain⟨F2,A0⟩:=A0.cut
 have F3:=A0;clear A0
 have hgs:g1=g∧g2=g∧g3=g∧g4=g∧g5=g∧g6=g∧g7=g:=by
  exact⟨by rw[z1,hg],by rw[z2,hg],by rw[z3,hg],by rw[z4,hg],by rw[z5,hg],by rw[z6,hg],by rw[z7,hg]⟩
 have h35:(B T 35)=true→Cf g (I T 11) (I T 12) (I T 13) (I T 14) (I T 15) ((L T 16))=0:=by
  obtain⟨-,-,-,-,-,-,-,-,e27,e28,-⟩:=F0
  obtain⟨e35,-⟩:=F1
  replace e27:I T 27=(Cf g2 (I T 11) (I T 12) (I T 13) (I T 14) (I T 15) (L T 16)):=by rw[←show gAt 0 (GL.map (Rf.eval T))=g2 from z2.symm];exact e27
  simp only[AE,AG,zN,zR] at e28 e35
  intro h
  have h1:=(e35.1 h).2
  rw[hgs.2.1] at e27
  rw[←e27]
  apply Classical.byContradiction
  intro hn
  have:=e28.2 hn
  rw[h1] at this
  exact Bool.false_ne_true this
 have hw:(B T 35)=true→AO g=0∧AF (I T 11) (I T 12)=true∧AF (I T 13) (I T 14)=true∧(1≤I T 15∧I T 15≤16384)∧((L T 16)).length≤12∧((L T 16)).all Aq=true:=by
  intro h
  obtain⟨a1,a2,a3,a4,a5,a6⟩:=iy (h35 h)
  exact⟨a1,a2,a3,Bp.1 a4,a5,a6⟩
 have hs:(B T 35)=true→L T 26=Av (I T 11) (I T 12) (I T 13) (I T 14) (I T 15) (AN g++((L T 16))) (AN g++((L T 16))).length∧((L T 36)=L T 26∧I T 37=0)∧((L T 38)=Av (I T 11) (I T 12) (I T 11) (I T 12) (I T 15) (AN g++((L T 16))) (AN g++((L T 16))).length∧I T 39=0)∧((L T 40)=L T 38∧I T 41=0):=by
  obtain⟨-,-,-,-,-,-,-,e26,-⟩:=F0
  obtain⟨-,e36,e37,e38,e39,e40,e41,-⟩:=F1
  replace e26:L T 26=(E3 g2 (I T 11) (I T 12) (I T 13) (I T 14) (I T 15) (L T 16)):=by rw[←show gAt 0 (GL.map (Rf.eval T))=g2 from z2.symm];exact e26
  replace e36:L T 36=(E3 g3 (I T 13) (I T 14) (I T 11) (I T 12) (I T 15) (L T 16)):=by rw[←show gAt 0 (J2.map (Rf.eval T))=g3 from z3.symm];exact e36
  replace e37:I T 37=(Cf g3 (I T 13) (I T 14) (I T 11) (I T 12) (I T 15) (L T 16)):=by rw[←show gAt 0 (J2.map (Rf.eval T))=g3 from z3.symm];exact e37
  replace e38:L T 38=(E3 g4 (I T 11) (I T 12) (I T 11) (I T 12) (I T 15) (L T 16)):=by rw[←show gAt 0 (Jv.map (Rf.eval T))=g4 from z4.symm];exact e38
  replace e39:I T 39=(Cf g4 (I T 11) (I T 12) (I T 11) (I T 12) (I T 15) (L T 16)):=by rw[←show gAt 0 (Jv.map (Rf.eval T))=g4 from z4.symm];exact e39
  replace e40:L T 40=(E3 g5 (I T 11) (I T 12) (I T 11) (I T 12) (I T 15) (L T 16)):=by rw[←show gAt 0 (J4.map (Rf.eval T))=g5 from z5.symm];exact e40
  replace e41:I T 41=(Cf g5 (I T 11) (I T 12) (I T 11) (I T 12) (I T 15) (L T 16)):=by rw[←show gAt 0 (J4.map (Rf.eval T))=g5 from z5.symm];exact e41
  intro h
  obtain⟨a1,a2,a3,a4,a5,a6⟩:=hw h
  obtain⟨g1,g2,g3,g4,g5,g6,g7⟩:=hgs
  rw[g2] at e26
  rw[g3] at e36 e37
  rw[g4] at e38 e39
  rw[g5] at e40 e41
  have a4':=Bp.2 a4
  have o1:=QP a1 a2 a3 a4' a5 a6
  have o2:=QP a1 a3 a2 a4' a5 a6
  have o3:=QP a1 a2 a2 a4' a5 a6
  exact⟨e26.trans (JA o1),⟨by rw[e36,e26,JA o1,JA o2,cn],e37.trans o2⟩,⟨e38.trans (JA o3),e39.trans o3⟩,⟨by rw[e40,e38],e41.trans o3⟩⟩
 have n58:(B T 58)=false:=by
  obtain⟨-,-,-,-,-,-,-,e42,-,e44,e45,-,e47,e48,-,e50,-⟩:=F1
  obtain⟨e51,-,e53,e54,-,e56,e57,e58,-⟩:=F2
  replace e50:B T 50=(Jp (L T 26) (L T 36)):=e50
  replace e53:B T 53=(Iy (L T 38) (L T 26)):=e53
  replace e56:B T 56=(Jp (L T 38) (L T 40)):=e56
  simp only[AE,AG,zN,zR] at e42 e44 e45 e47 e48 e51 e54 e57 e58
  refine Bool.eq_false_iff.2 fun h=>?_
  have h1:=e58.1 h
  obtain⟨u1,⟨u2,u3⟩,⟨u4,u5⟩,u6,u7⟩:=hs h1.1
  have m42:¬B T 42=true:=fun h=>e42.1 h u3
  have m44:¬B T 44=true:=fun h=>e44.1 h u5
  have m47:¬B T 47=true:=fun h=>e47.1 h u7
  have m50:(B T 50)=true:=by rw[e50,u2];exact Rc _
  have m53:(B T 53)=true:=by rw[e53,u4,u1];exact Te fun j _ hj=>YK hj
  have m56:(B T 56)=true:=by rw[e56,u6];exact Rc _
  rcases e57.1 h1.2 with h|h
  ·rcases e54.1 h with h|h
   ·rcases e51.1 h with h|h
    ·exact m47 ((e48.1 h).resolve_left fun h=>m44 ((e45.1 h).resolve_left m42))
    ·rw[m50] at h;exact absurd h (by simp)
   ·rw[m53] at h;exact absurd h (by simp)
  ·rw[m56] at h;exact absurd h (by simp)
 have n68:(B T 68)=false:=by
  obtain⟨-,-,-,-,-,-,-,-,e59,e60,e61,e62,e63,e64,-,e66,-⟩:=F2
  obtain⟨e67,e68,-⟩:=F3
  replace e62:L T 62=(E3 g6 (I T 11) (I T 12) (I T 13) (I T 14) (I T 61) (L T 16)):=by rw[←show gAt 0 (KH.map (Rf.eval T))=g6 from z6.symm];exact e62
  replace e63:I T 63=(Cf g6 (I T 11) (I T 12) (I T 13) (I T 14) (I T 61) (L T 16)):=by rw[←show gAt 0 (KH.map (Rf.eval T))=g6 from z6.symm];exact e63
  replace e66:B T 66=(Iy (L T 26) (L T 62)):=e66
  simp only[AE,AG,zN,zR,AS,w2P] at e59 e60 e61 e64 e67 e68
  refine Bool.eq_false_iff.2 fun h=>?_
  have h1:=e68.1 h
  have h2:=(e59.1 h1.1).1
  obtain⟨a1,a2,a3,a4,a5,a6⟩:=hw h2
  obtain⟨u1,-⟩:=hs h2
  have q1:=lo18
  have q2:=hi18
  have x60:=e60 (by omega) (by omega)
  have x61:(1≤I T 61∧I T 61≤16384)∧I T 15≤I T 61:=by rw[e61];split<;>omega
  rw[hgs.2.2.2.2.2.1] at e62 e63
  have o1:=QP a1 a2 a3 (Bp.2 x61.1) a5 a6
  have hO:=(U9 a1 a5 a6).1
  have m66:(B T 66)=true:=by
   rw[e66,u1,e62,JA o1]
   exact Te fun j hj hn=>aM (by have:=hO j hj;omega) (by omega) hn
  rcases e67.1 h1.2 with h|h
  ·exact e64.1 h (e63.trans o1)
  ·rw[m66] at h;exact absurd h (by simp)
 have hk:(B T 69)=true→(AO g=0∧AF (I T 11) (I T 12)=true∧AF (I T 13) (I T 14)=true∧(1≤I T 15∧I T 15≤16384)∧((L T 16)).length≤12∧((L T 16)).all Aq=true)∧L T 26=Av (I T 11) (I T 12) (I T 13) (I T 14) (I T 15) (AN g++((L T 16))) (AN g++((L T 16))).length∧L T 79=(AN g++((L T 16)))∧Cr ((L T 79))∧((L T 79)).length≤37∧(0≤I T 70∧I T 70≤64)∧((I T 74)=I T 11*(64 - (I T 70))+I T 13*I T 70∧I T 78=I T 12*(64 - (I T 70))+I T 14*I T 70):=by
  obtain⟨-,-,-,-,-,-,-,-,e59,-⟩:=F2
  obtain⟨-,-,e69,e70,e71,e72,e73,e74,e75,e76,e77,e78,e79,-⟩:=F3
  replace e79:L T 79=(M8 g7++L T 16):=by rw[←show gAt 0 (Mi.map (Rf.eval T))=g7 from z7.symm];exact e79
  simp only[AE,AG,zN,zR,AS,w2P] at e59 e69 e70 e71 e72 e73 e74 e75 e76 e77 e78
  intro h
  have h2:=(e59.1 (e69.1 h).1).1
  have hww:=hw h2
  obtain⟨a1,a2,a3,a4,a5,a6⟩:=hw h2
  obtain⟨u1,-⟩:=hs h2
  rw[hgs.2.2.2.2.2.2] at e79
  have h79:(L T 79)=(AN g++((L T 16))):=by rw[e79];unfold M8;rw[if_pos a1]
  have hO:=U9 a1 a5 a6
  have q1:=lo17
  have x70:(I T 70)=(I T 17) % 65:=e70
  have x71:(I T 71)=64 - (I T 70):=e71
  have x75:(I T 75)=64 - (I T 70):=e75
  have y70:0≤I T 70∧I T 70≤64:=by omega
  obtain⟨⟨p1,p2⟩,p3,p4⟩:=Af.1 a2
  obtain⟨⟨p5,p6⟩,p7,p8⟩:=Af.1 a3
  have z1:=Cp (a:=I T 11) (b:=64 - (I T 70)) (A:=4194304) (B:=64) (by omega) (by omega)
  have z2:=Cp (a:=I T 13) (b:=I T 70) (A:=4194304) (B:=64) (by omega) (by omega)
  have z3:=Cp (a:=I T 12) (b:=64 - (I T 70)) (A:=4194304) (B:=64) (by omega) (by omega)
  have z4:=Cp (a:=I T 14) (b:=I T 70) (A:=4194304) (B:=64) (by omega) (by omega)
  rw[x71] at e72
  rw[x75] at e76
  have x72:=e72 (by omega) (by omega)
  have x73:=e73 (by omega) (by omega)
  have x74:=e74 (by omega) (by omega)
  have x76:=e76 (by omega) (by omega)
  have x77:=e77 (by omega) (by omega)
  have x78:=e78 (by omega) (by omega)
  refine⟨hww,u1,h79,by rw[h79];exact hO.1,by rw[h79];exact hO.2,y70,by rw[x74,x72,x73],by rw[x78,x76,x77]⟩
 exact⟨hgs,h35,hw,hs,n58,n68,hk⟩
theorem aR {T:Tab}(g:Ln)(hg:g=Ln.mk (S T 0) (I T 1) (I T 2) (I T 3) (L T 4) (I T 5) (I T 6) (I T 7) (I T 8) (I T 9) (L T 10))(hk:(B T 69)=true→(AO g=0∧AF (I T 11) (I T 12)=true∧AF (I T 13) (I T 14)=true∧(1≤I T 15∧I T 15≤16384)∧((L T 16)).length≤12∧((L T 16)).all Aq=true)∧L T 26=Av (I T 11) (I T 12) (I T 13) (I T 14) (I T 15) (AN g++((L T 16))) (AN g++((L T 16))).length∧L T 79=(AN g++((L T 16)))∧Cr ((L T 79))∧((L T 79)).length≤37∧(0≤I T 70∧I T 70≤64)∧((I T 74)=I T 11*(64 - (I T 70))+I T 13*I T 70∧I T 78=I T 12*(64 - (I T 70))+I T 14*I T 70))(hS:AL T (Am (BG 0 Is) E8))(hB:AX T (C5.map En.be))(hH:AX T ((Ax IC [.i] KR).map En.be)):
  (IC).owes (KR.map (Rf.eval T))∧AL T (hds 80 [.i])∧(0≤I T 80∧I T 80≤((L T 79)).length∨I T 80=0)∧¬B T 103=true:=by
 refine BS (nh:=80) (k:=1) (pcn:=103) (top:=105) (bes:=C5) (bos:=R2) (nxt:=[.e 104]) (inits:=[.c (.int 0)]) (fv:=[26,15,79,78,74,69]) (tys:=[.i]) (by kernel_rfl) rfl rfl rfl rfl hS (by kernel_rfl) (by kernel_rfl) hB (Ay hH) (fun s=>0≤(aI s 0)∧(aI s 0)≤((L T 79)).length∨(aI s 0)=0) (fun s=>(((L T 79)).length - (aI s 0)).toNat) ?_ ?_
 ·show 0≤(0:Int)∧(0:Int)≤((L T 79)).length∨(0:Int)=0
  clear hS hB hH
  exact .inr rfl
 ·intro T2 hfv hF inv
  replace inv:0≤I T2 80∧I T2 80≤((L T 79)).length∨I T2 80=0:=inv
  clear hS hB hH
  replace hF:AI T2 C5:=hF
  obtain⟨F0,hF⟩:=hF.cut
  have F1:=hF;clear hF
  have fv26:L T2 26=L T 26:=fvL (hfv 26 (by decide))
  have fv15:I T2 15=I T 15:=fvI (hfv 15 (by decide))
  have fv79:L T2 79=L T 79:=fvL (hfv 79 (by decide))
  have fv78:I T2 78=I T 78:=fvI (hfv 78 (by decide))
  have fv74:I T2 74=I T 74:=fvI (hfv 74 (by decide))
  have fv69:B T2 69=B T 69:=fvB (hfv 69 (by decide))
  clear hfv
  have w0:(B T2 83)=true→((B T 69)=true∧I T2 80 < ((L T 79)).length)∧(0≤I T2 80→B T2 101=false):=by
   obtain⟨e81,e82,e83,-,e85,e86,e87,e88,e89,e90,e91,e92,e93,e94,e95,e96,-⟩:=F0
   obtain⟨e97,e98,-,e100,e101,-⟩:=F1
   replace e100:B T2 100=(EJ (L T2 26) (I T2 80)):=e100
   simp only[AE,AG,zN,zR,w2P,zL] at e81 e82 e83 e85 e86 e87 e88 e89 e90 e91 e92 e93 e94 e95 e96 e97 e98 e101
   intro hp
   have h1:=e83.1 hp
   rw[fv69] at h1
   have h2:=e82.1 h1.2
   rw[e81,fv79] at h2
   refine⟨⟨h1.1,h2⟩,fun v1=>?_⟩
   obtain⟨⟨c0,c1,c2,c3,c4,c5⟩,hW,hD,hO,hn,⟨k0,k1⟩,hx,hy⟩:=hk h1.1
   obtain⟨pq,r1,r2⟩:=hO (I T2 80).toNat (by omega)
   obtain⟨⟨q1,q2⟩,q3,q4⟩:=Af.1 pq
   obtain⟨⟨a1,a2⟩,a3,a4⟩:=Af.1 c1
   obtain⟨⟨w1',w2'⟩,w3',w4'⟩:=Af.1 c2
   rw[fv79] at e85 e88 e91
   rw[←e85] at q1 q2
   rw[←e88] at q3 q4
   rw[←e91] at r1 r2
   have z1:=Cp (a:=I T 11) (b:=64 - (I T 70)) (A:=4194304) (B:=64) (by omega) (by omega)
   have z2:=Cp (a:=I T 13) (b:=I T 70) (A:=4194304) (B:=64) (by omega) (by omega)
   have z3:=Cp (a:=I T 12) (b:=64 - (I T 70)) (A:=4194304) (B:=64) (by omega) (by omega)
   have z4:=Cp (a:=I T 14) (b:=I T 70) (A:=4194304) (B:=64) (by omega) (by omega)
   have g74:=fv74
   have g78:=fv78
   have g15:=fv15
   have x86:=e86 (by omega) (by omega)
   have x87:=e87 (by omega) (by omega)
   have x89:=e89 (by omega) (by omega)
   have x90:=e90 (by omega) (by omega)
   have x92:=e92 (by omega) (by omega)
   have x93:=e93 (by omega) (by omega)
   have n1:=sqB (a:=I T2 87) (A:=1073741824) (by omega)
   have n2:=sqB (a:=I T2 90) (A:=1073741824) (by omega)
   have n3:=sqB (a:=I T2 93) (A:=4194304) (by omega)
   have x94:=e94 (by omega) (by omega)
   have x95:=e95 (by omega) (by omega)
   have x96:=e96 (by omega) (by omega)
   have x97:=e97 (by omega) (by omega)
   refine Bool.eq_false_iff.2 fun hb=>?_
   have h3:=e101.1 hb
   have h4:=e98.1 h3.1
   rw[x96,x94,x95,x97,x87,x86,x90,x89,x93,x92,fv74,fv78,fv15,hx,hy] at h4
   have hnr:=NC (s:=I T 15+I T2 91) ⟨k0,k1⟩ h4
   have hh:=On (ax:=I T 11) (ay:=I T 12) (bx:=I T 13) (by_:=I T 14) (r:=I T 15) (d:=(AN g++((L T 16)))) (n:=(AN g++((L T 16))).length) (k:=(I T2 80).toNat) (by rw[←hD];omega)
   rw[←hW,←hD,←e85,←e88,←e91,hnr,show (((I T2 80).toNat:Nat):Int)=(I T2 80) by omega] at hh
   have h5:=h3.2
   rw[e100,fv26,hh] at h5
   exact absurd h5 (by simp)
  suffices hz:(B T2 83=true→0≤I T2 80∧I T2 80 < ((L T2 79)).length)∧(B T2 83=true→0≤I T2 80∧I T2 80 < ((L T2 79)).length)∧(B T2 83=true→0≤I T2 80∧I T2 80 < ((L T2 79)).length)∧(B T2 103=true→(0≤I T2 104∧I T2 104≤((L T 79)).length∨I T2 104=0))∧(B T2 103=true→(((L T 79)).length - (I T2 104)).toNat < (((L T 79)).length - (I T2 80)).toNat) from
   let⟨r0,r1,r2,nx,mz⟩:=hz;⟨⟨r0,r1,r2,trivial⟩,fun hp=>⟨nx hp,mz hp⟩⟩
  refine⟨?_,?_,?_,?_,?_⟩
  ·intro hp
   obtain⟨⟨k0,k1⟩,-⟩:=w0 hp
   rw[fv79]
   omega
  ·intro hp
   obtain⟨⟨k0,k1⟩,-⟩:=w0 hp
   rw[fv79]
   omega
  ·intro hp
   obtain⟨⟨k0,k1⟩,-⟩:=w0 hp
   rw[fv79]
   omega
  ·obtain⟨-,-,-,-,-,-,e103,e104,-⟩:=F1
   simp only[AE,AG,zN,zR,w2P] at e103 e104
   intro hp
   obtain⟨⟨k0,k1⟩,-⟩:=w0 (e103.1 hp).1
   obtain⟨-,-,-,-,hn,-⟩:=hk k0
   have e:(I T2 104)=I T2 80+1:=e104 (by omega) (by omega)
   left
   omega
  ·obtain⟨-,-,-,-,-,-,e103,e104,-⟩:=F1
   simp only[AE,AG,zN,zR,w2P] at e103 e104
   intro hp
   obtain⟨⟨k0,k1⟩,-⟩:=w0 (e103.1 hp).1
   obtain⟨-,-,-,-,hn,-⟩:=hk k0
   have e:(I T2 104)=I T2 80+1:=e104 (by omega) (by omega)
   omega
theorem Yi {T:Tab}(hz0:(S T 0).size≤140737488355328)(hl4:(L T 4).length≤140737488355328)(hl10:(L T 10).length≤140737488355328)(hl16:(L T 16).length≤140737488355328)(lo17:0≤I T 17)(hi17:I T 17≤255)(lo18:0≤I T 18)(hi18:I T 18≤255)(g:Ln)(hg:g=Ln.mk (S T 0) (I T 1) (I T 2) (I T 3) (L T 4) (I T 5) (I T 6) (I T 7) (I T 8) (I T 9) (L T 10))(hb4:(L T 4).length≤1048576)(hb10:(L T 10).length≤1048576)(hb16:(L T 16).length≤1048576)(g1:Ln)(z1:g1=Ln.mk (S T 0) (I T 1) (I T 2) (I T 3) (L T 4) (I T 5) (I T 6) (I T 7) (I T 8) (I T 9) (L T 10))(g2:Ln)(z2:g2=Ln.mk (S T 0) (I T 1) (I T 2) (I T 3) (L T 4) (I T 5) (I T 6) (I T 7) (I T 8) (I T 9) (L T 10))(g3:Ln)(z3:g3=Ln.mk (S T 0) (I T 1) (I T 2) (I T 3) (L T 4) (I T 5) (I T 6) (I T 7) (I T 8) (I T 9) (L T 10))(g4:Ln)(z4:g4=Ln.mk (S T 0) (I T 1) (I T 2) (I T 3) (L T 4) (I T 5) (I T 6) (I T 7) (I T 8) (I T 9) (L T 10))(g5:Ln)(z5:g5=Ln.mk (S T 0) (I T 1) (I T 2) (I T 3) (L T 4) (I T 5) (I T 6) (I T 7) (I T 8) (I T 9) (L T 10))(g6:Ln)(z6:g6=Ln.mk (S T 0) (I T 1) (I T 2) (I T 3) (L T 4) (I T 5) (I T 6) (I T 7) (I T 8) (I T 9) (L T 10))(g7:Ln)(z7:g7=Ln.mk (S T 0) (I T 1) (I T 2) (I T 3) (L T 4) (I T 5) (I T 6) (I T 7) (I T 8) (I T 9) (L T 10))(hgs:g1=g∧g2=g∧g3=g∧g4=g∧g5=g∧g6=g∧g7=g)(h35:(B T 35)=true→Cf g (I T 11) (I T 12) (I T 13) (I T 14) (I T 15) ((L T 16))=0)(hw:(B T 35)=true→AO g=0∧AF (I T 11) (I T 12)=true∧AF (I T 13) (I T 14)=true∧(1≤I T 15∧I T 15≤16384)∧((L T 16)).length≤12∧((L T 16)).all Aq=true)(hs:(B T 35)=true→L T 26=Av (I T 11) (I T 12) (I T 13) (I T 14) (I T 15) (AN g++((L T 16))) (AN g++((L T 16))).length∧((L T 36)=L T 26∧I T 37=0)∧((L T 38)=Av (I T 11) (I T 12) (I T 11) (I T 12) (I T 15) (AN g++((L T 16))) (AN g++((L T 16))).length∧I T 39=0)∧((L T 40)=L T 38∧I T 41=0))(n58:(B T 58)=false)(n68:(B T 68)=false)(hk:(B T 69)=true→(AO g=0∧AF (I T 11) (I T 12)=true∧AF (I T 13) (I T 14)=true∧(1≤I T 15∧I T 15≤16384)∧((L T 16)).length≤12∧((L T 16)).all Aq=true)∧L T 26=Av (I T 11) (I T 12) (I T 13) (I T 14) (I T 15) (AN g++((L T 16))) (AN g++((L T 16))).length∧L T 79=(AN g++((L T 16)))∧Cr ((L T 79))∧((L T 79)).length≤37∧(0≤I T 70∧I T 70≤64)∧((I T 74)=I T 11*(64 - (I T 70))+I T 13*I T 70∧I T 78=I T 12*(64 - (I T 70))+I T 14*I T 70))(inv0:0≤I T 80∧I T 80≤((L T 79)).length∨I T 80=0)(np0:¬B T 103=true)(A0:AI T E8)(B0:AI T C5):
  ((B T 84)=true→B T 69=true)∧((B T 83)=true→((B T 69)=true∧I T 80 < ((L T 79)).length)∧(0≤I T 80→B T 101=false))∧((B T 102)=false):=by
 obtain⟨F0,A0⟩:=A0.cut
 obtain⟨F1,A0⟩:=A0.cut
 obtain⟨F2,A0⟩:=A0.cut
 have F3:=A0;clear A0
 obtain⟨F4,B0⟩:=B0.cut
 have F5:=B0;clear B0
 have h84:(B T 84)=true→B T 69=true:=by
  obtain⟨-,-,-,e84,-⟩:=F4
  simp only[AE,AG,zN,zR] at e84
  intro h
  exact (e84.1 h).1
 have w0:(B T 83)=true→((B T 69)=true∧I T 80 < ((L T 79)).length)∧(0≤I T 80→B T 101=false):=by
  obtain⟨e81,e82,e83,-,e85,e86,e87,e88,e89,e90,e91,e92,e93,e94,e95,e96,-⟩:=F4
  obtain⟨e97,e98,-,e100,e101,-⟩:=F5
  replace e100:B T 100=(EJ (L T 26) (I T 80)):=e100
  simp only[AE,AG,zN,zR,w2P,zL] at e81 e82 e83 e85 e86 e87 e88 e89 e90 e91 e92 e93 e94 e95 e96 e97 e98 e101
  intro hp
  have h1:=e83.1 hp
  have h2:=e82.1 h1.2
  rw[e81] at h2
  refine⟨⟨h1.1,h2⟩,fun v1=>?_⟩
  obtain⟨⟨c0,c1,c2,c3,c4,c5⟩,hW,hD,hO,hn,⟨k0,k1⟩,hx,hy⟩:=hk h1.1
  obtain⟨pq,r1,r2⟩:=hO (I T 80).toNat (by omega)
  obtain⟨⟨q1,q2⟩,q3,q4⟩:=Af.1 pq
  obtain⟨⟨a1,a2⟩,a3,a4⟩:=Af.1 c1
  obtain⟨⟨w1',w2'⟩,w3',w4'⟩:=Af.1 c2
  rw[←e85] at q1 q2
  rw[←e88] at q3 q4
  rw[←e91] at r1 r2
  have z1:=Cp (a:=I T 11) (b:=64 - (I T 70)) (A:=4194304) (B:=64) (by omega) (by omega)
  have z2:=Cp (a:=I T 13) (b:=I T 70) (A:=4194304) (B:=64) (by omega) (by omega)
  have z3:=Cp (a:=I T 12) (b:=64 - (I T 70)) (A:=4194304) (B:=64) (by omega) (by omega)
  have z4:=Cp (a:=I T 14) (b:=I T 70) (A:=4194304) (B:=64) (by omega) (by omega)
  have x86:=e86 (by omega) (by omega)
  have x87:=e87 (by omega) (by omega)
  have x89:=e89 (by omega) (by omega)
  have x90:=e90 (by omega) (by omega)
  have x92:=e92 (by omega) (by omega)
  have x93:=e93 (by omega) (by omega)
  have n1:=sqB (a:=I T 87) (A:=1073741824) (by omega)
  have n2:=sqB (a:=I T 90) (A:=1073741824) (by omega)
  have n3:=sqB (a:=I T 93) (A:=4194304) (by omega)
  have x94:=e94 (by omega) (by omega)
  have x95:=e95 (by omega) (by omega)
  have x96:=e96 (by omega) (by omega)
  have x97:=e97 (by omega) (by omega)
  refine Bool.eq_false_iff.2 fun hb=>?_
  have h3:=e101.1 hb
  have h4:=e98.1 h3.1
  rw[x96,x94,x95,x97,x87,x86,x90,x89,x93,x92,hx,hy] at h4
  have hnr:=NC (s:=I T 15+I T 91) ⟨k0,k1⟩ h4
  have hh:=On (ax:=I T 11) (ay:=I T 12) (bx:=I T 13) (by_:=I T 14) (r:=I T 15) (d:=(AN g++((L T 16)))) (n:=(AN g++((L T 16))).length) (k:=(I T 80).toNat) (by rw[←hD];omega)
  rw[←hW,←hD,←e85,←e88,←e91,hnr,show (((I T 80).toNat:Nat):Int)=(I T 80) by omega] at hh
  have h5:=h3.2
  rw[e100,hh] at h5
  exact absurd h5 (by simp)
 have n102:(B T 102)=false:=by
  obtain⟨-,-,-,-,-,e102,-⟩:=F5
  simp only[AE,AG,zR] at e102
  refine Bool.eq_false_iff.2 fun h=>?_
  have h1:=e102.1 h
  obtain⟨-,k2⟩:=w0 h1.1
  have:=k2 (by omega)
  rw[this] at h1
  exact Bool.false_ne_true h1.2
 exact⟨h84,w0,n102⟩
theorem Z1 {T:Tab}(g:Ln)(hg:g=Ln.mk (S T 0) (I T 1) (I T 2) (I T 3) (L T 4) (I T 5) (I T 6) (I T 7) (I T 8) (I T 9) (L T 10))(hk:(B T 69)=true→(AO g=0∧AF (I T 11) (I T 12)=true∧AF (I T 13) (I T 14)=true∧(1≤I T 15∧I T 15≤16384)∧((L T 16)).length≤12∧((L T 16)).all Aq=true)∧L T 26=Av (I T 11) (I T 12) (I T 13) (I T 14) (I T 15) (AN g++((L T 16))) (AN g++((L T 16))).length∧L T 79=(AN g++((L T 16)))∧Cr ((L T 79))∧((L T 79)).length≤37∧(0≤I T 70∧I T 70≤64)∧((I T 74)=I T 11*(64 - (I T 70))+I T 13*I T 70∧I T 78=I T 12*(64 - (I T 70))+I T 14*I T 70))(h84:(B T 84)=true→B T 69=true)(hS:AL T (Am (Am (hds 80 [.i]++(Am (BG 0 Is) E8)) C5) Mn))(hB:AX T (D5.map En.be))(hH:AX T ((Ax Hq [.i] KM).map En.be)):
  (Hq).owes (KM.map (Rf.eval T))∧AL T (hds 105 [.i])∧(0≤I T 105∧I T 105≤((L T 26)).length∨I T 105=0)∧¬B T 144=true:=by
 refine BS (nh:=105) (k:=1) (pcn:=144) (top:=146) (bes:=D5) (bos:=RY) (nxt:=[.e 145]) (inits:=[.c (.int 0)]) (fv:=[11,12,13,14,15,79,26,84]) (tys:=[.i]) (by kernel_rfl) rfl rfl rfl rfl hS (by kernel_rfl) (by kernel_rfl) hB (Ay hH) (fun s=>0≤(aI s 0)∧(aI s 0)≤((L T 26)).length∨(aI s 0)=0) (fun s=>(((L T 26)).length - (aI s 0)).toNat) ?_ ?_
 ·show 0≤(0:Int)∧(0:Int)≤((L T 26)).length∨(0:Int)=0
  clear hS hB hH
  exact .inr rfl
 ·intro T2 hfv hF inv
  replace inv:0≤I T2 105∧I T2 105≤((L T 26)).length∨I T2 105=0:=inv
  clear hS hB hH
  replace hF:AI T2 D5:=hF
  obtain⟨F0,hF⟩:=hF.cut
  obtain⟨F1,hF⟩:=hF.cut
  have F2:=hF;clear hF
  have fv11:I T2 11=I T 11:=fvI (hfv 11 (by decide))
  have fv12:I T2 12=I T 12:=fvI (hfv 12 (by decide))
  have fv13:I T2 13=I T 13:=fvI (hfv 13 (by decide))
  have fv14:I T2 14=I T 14:=fvI (hfv 14 (by decide))
  have fv15:I T2 15=I T 15:=fvI (hfv 15 (by decide))
  have fv79:L T2 79=L T 79:=fvL (hfv 79 (by decide))
  have fv26:L T2 26=L T 26:=fvL (hfv 26 (by decide))
  have fv84:B T2 84=B T 84:=fvB (hfv 84 (by decide))
  clear hfv
  have w1:(B T2 108)=true→((B T 69)=true∧I T2 105 < ((L T 26)).length)∧(0≤I T2 105→(0≤I T2 110∧I T2 110 < ((L T 79)).length∧I T2 114=I T2 110∧I T2 123=I T2 110∧I T2 136=I T2 110)∧B T2 118=false∧B T2 130=false∧B T2 142=false∧(AF (I T 11) (I T 12)=true∧AF (I T 13) (I T 14)=true∧AF (I T2 137) (I T2 138)=true∧(1≤I T2 139∧I T2 139≤16384)∧(1≤I T 15∧I T 15≤16384))):=by
   obtain⟨e106,e107,e108,-,e110,e111,-,-,e114,-,e116,e117,e118,-,e120,-⟩:=F0
   obtain⟨-,e123,-,-,e126,e127,e128,e129,e130,-,-,-,-,-,e136,e137,-⟩:=F1
   obtain⟨e138,e139,-,e141,e142,-⟩:=F2
   replace e141:B T2 141=(GB (I T2 11) (I T2 12) (I T2 13) (I T2 14) (I T2 137) (I T2 138) (I T2 139) (I T2 15)):=e141
   simp only[AE,AG,zN,zR,w2P,zL] at e106 e107 e108 e110 e111 e114 e116 e117 e118 e120 e123 e126 e127 e128 e129 e130 e136 e137 e138 e139 e142
   intro hp
   have h1:=e108.1 hp
   rw[fv84] at h1
   have h2:=e107.1 h1.2
   rw[e106,fv26] at h2
   have h69:=h84 h1.1
   refine⟨⟨h69,h2⟩,fun v1=>?_⟩
   obtain⟨⟨c0,c1,c2,c3,c4,c5⟩,hW,hD,hO,hn,-⟩:=hk h69
   obtain⟨j,j1,j2,j3⟩:=LW (ax:=I T 11) (ay:=I T 12) (bx:=I T 13) (by_:=I T 14) (r:=I T 15) (d:=(AN g++((L T 16)))) (n:=(AN g++((L T 16))).length) (i:=(I T2 105).toNat) (by rw[←hW];omega)
   have hlen:=MM (ax:=I T 11) (ay:=I T 12) (bx:=I T 13) (by_:=I T 14) (r:=I T 15) (d:=(AN g++((L T 16)))) (n:=(AN g++((L T 16))).length)
   rw[←hW,←hD] at hlen
   rw[←hW] at j2
   rw[←hD] at j1 j3
   rw[fv26] at e110 e114 e123 e136 e127
   rw[fv79] at e137 e138 e139
   have x110:(I T2 110)=j:=e110.trans j2
   have x114:(I T2 114)=I T2 110:=by rw[e114,e110]
   have x123:(I T2 123)=I T2 110:=by rw[e123,e110]
   have x136:(I T2 136)=I T2 110:=by rw[e136,e110]
   have hj:(I T2 110).toNat=j:=by omega
   have n111:¬B T2 111=true:=fun h=>by have:=e111.1 h;omega
   have n117:¬B T2 117=true:=fun h=>by have:=e117.1 h;rw[e116,fv79] at this;omega
   have f118:(B T2 118)=false:=Bool.eq_false_iff.2 fun h=>n117 ((e118.1 h).resolve_left n111)
   have f130:(B T2 130)=false:=by
    refine Bool.eq_false_iff.2 fun h=>?_
    have h3:=e129.1 ((e130.1 h).resolve_left (by simp[f118]))
    have h4:=e120.1 h3.1
    have h5:=e128.1 h3.2
    have x126:=e126 (by omega) (by omega)
    have ha:=Lf (ax:=I T 11) (ay:=I T 12) (bx:=I T 13) (by_:=I T 14) (r:=I T 15) (d:=(AN g++((L T 16)))) (AN g++((L T 16))).length (I T2 126).toNat (by rw[←hW];omega)
    rw[←hW,show (I T2 126).toNat+1=(I T2 105).toNat by omega,←e110,←e127] at ha
    omega
   have hdj:=hO j j1
   have y137:(I T2 137)=AA ((L T 79)) j 0:=by rw[e137,x136,hj]
   have y138:(I T2 138)=AA ((L T 79)) j 1:=by rw[e138,x136,hj]
   have y139:(I T2 139)=AA ((L T 79)) j 2:=by rw[e139,x136,hj]
   rw[←y137,←y138,←y139] at hdj j3
   refine⟨⟨by omega,by omega,x114,x123,x136⟩,f118,f130,?_,c1,c2,hdj.1,hdj.2,c3⟩
   refine Bool.eq_false_iff.2 fun h=>?_
   have h3:=(e142.1 h).resolve_left (by simp[f130])
   have:=VA c3.1 hdj.2.1 j3
   rw[e141,fv11,fv12,fv13,fv14,fv15,this] at h3
   exact absurd h3 (by simp)
  have hlen:(B T2 108)=true→((L T 26)).length≤37:=by
   intro h
   obtain⟨⟨k0,k1⟩,-⟩:=w1 h
   obtain⟨-,hW,hD,-,hn,-⟩:=hk k0
   rw[hW]
   have:=MM (ax:=I T 11) (ay:=I T 12) (bx:=I T 13) (by_:=I T 14) (r:=I T 15) (d:=(AN g++((L T 16)))) (n:=(AN g++((L T 16))).length)
   rw[←hD] at this⊢
   omega
  suffices hz:(B T2 140=true→AF (I T2 11) (I T2 12)=true)∧(B T2 140=true→AF (I T2 13) (I T2 14)=true)∧(B T2 140=true→AF (I T2 137) (I T2 138)=true)∧(B T2 140=true→1≤I T2 139∧I T2 139≤16384)∧(B T2 140=true→1≤I T2 15∧I T2 15≤16384)∧(B T2 135=true→0≤I T2 136∧I T2 136 < ((L T2 79)).length)∧(B T2 135=true→0≤I T2 105∧I T2 105 < ((L T2 26)).length)∧(B T2 125=true→0≤I T2 126∧I T2 126 < ((L T2 26)).length)∧(B T2 122=true→0≤I T2 105∧I T2 105 < ((L T2 26)).length)∧(B T2 113=true→0≤I T2 105∧I T2 105 < ((L T2 26)).length)∧(B T2 108=true→0≤I T2 105∧I T2 105 < ((L T2 26)).length)∧(B T2 144=true→(0≤I T2 145∧I T2 145≤((L T 26)).length∨I T2 145=0))∧(B T2 144=true→(((L T 26)).length - (I T2 145)).toNat < (((L T 26)).length - (I T2 105)).toNat) from
   let⟨r0,r1,r2,r3,r4,r5,r6,r7,r8,r9,r10,nx,mz⟩:=hz;⟨⟨r0,r1,r2,r3,r4,r5,r6,r7,r8,r9,r10,trivial⟩,fun hp=>⟨nx hp,mz hp⟩⟩
  refine⟨?_,?_,?_,?_,?_,?_,?_,?_,?_,?_,?_,?_,?_⟩
  ·obtain⟨-,-,e140,-⟩:=F2
   simp only[AE,AG,zN,zR] at e140
   intro hp
   replace hp:=(e140.1 hp).1
   obtain⟨⟨k0,k1⟩,k2⟩:=w1 hp
   obtain⟨⟨n1,n2,n3,n4,n5⟩,-,-,-,y1,y2,y3,y4,y5⟩:=k2 (by omega)
   rw[fv11,fv12];exact y1
  ·obtain⟨-,-,e140,-⟩:=F2
   simp only[AE,AG,zN,zR] at e140
   intro hp
   replace hp:=(e140.1 hp).1
   obtain⟨⟨k0,k1⟩,k2⟩:=w1 hp
   obtain⟨⟨n1,n2,n3,n4,n5⟩,-,-,-,y1,y2,y3,y4,y5⟩:=k2 (by omega)
   rw[fv13,fv14];exact y2
  ·obtain⟨-,-,e140,-⟩:=F2
   simp only[AE,AG,zN,zR] at e140
   intro hp
   replace hp:=(e140.1 hp).1
   obtain⟨⟨k0,k1⟩,k2⟩:=w1 hp
   obtain⟨⟨n1,n2,n3,n4,n5⟩,-,-,-,y1,y2,y3,y4,y5⟩:=k2 (by omega)
   exact y3
  ·obtain⟨-,-,e140,-⟩:=F2
   simp only[AE,AG,zN,zR] at e140
   intro hp
   replace hp:=(e140.1 hp).1
   obtain⟨⟨k0,k1⟩,k2⟩:=w1 hp
   obtain⟨⟨n1,n2,n3,n4,n5⟩,-,-,-,y1,y2,y3,y4,y5⟩:=k2 (by omega)
   exact y4
  ·obtain⟨-,-,e140,-⟩:=F2
   simp only[AE,AG,zN,zR] at e140
   intro hp
   replace hp:=(e140.1 hp).1
   obtain⟨⟨k0,k1⟩,k2⟩:=w1 hp
   obtain⟨⟨n1,n2,n3,n4,n5⟩,-,-,-,y1,y2,y3,y4,y5⟩:=k2 (by omega)
   rw[fv15];exact y5
  ·obtain⟨-,-,-,-,-,-,-,-,-,-,-,-,-,e135,-⟩:=F1
   simp only[AE,AG,zN,zR] at e135
   intro hp
   replace hp:=(e135.1 hp).1
   obtain⟨⟨k0,k1⟩,k2⟩:=w1 hp
   obtain⟨⟨n1,n2,n3,n4,n5⟩,-,-,-,y1,y2,y3,y4,y5⟩:=k2 (by omega)
   rw[fv79];omega
  ·obtain⟨-,-,-,-,-,-,-,-,-,-,-,-,-,e135,-⟩:=F1
   simp only[AE,AG,zN,zR] at e135
   intro hp
   replace hp:=(e135.1 hp).1
   obtain⟨⟨k0,k1⟩,k2⟩:=w1 hp
   obtain⟨⟨n1,n2,n3,n4,n5⟩,-,-,-,y1,y2,y3,y4,y5⟩:=k2 (by omega)
   rw[fv26];omega
  ·obtain⟨-,-,-,-,-,-,-,-,-,-,-,-,-,e119,e120,-⟩:=F0
   obtain⟨-,-,-,e125,e126,-⟩:=F1
   simp only[AE,AG,zN,zR,w2P] at e119 e120 e125 e126
   intro hp
   have h120:=e120.1 (e125.1 hp).2
   replace hp:=(e119.1 (e125.1 hp).1).1
   obtain⟨⟨k0,k1⟩,k2⟩:=w1 hp
   obtain⟨⟨n1,n2,n3,n4,n5⟩,-,-,-,y1,y2,y3,y4,y5⟩:=k2 (by omega)
   have hn:=hlen hp
   have x126:=e126 (by omega) (by omega)
   rw[fv26]
   omega
  ·obtain⟨-,-,-,-,-,-,-,-,-,-,-,-,-,e119,-⟩:=F0
   obtain⟨e122,-⟩:=F1
   simp only[AE,AG,zN,zR] at e119 e122
   intro hp
   replace hp:=(e119.1 (e122.1 hp).1).1
   obtain⟨⟨k0,k1⟩,k2⟩:=w1 hp
   obtain⟨⟨n1,n2,n3,n4,n5⟩,-,-,-,y1,y2,y3,y4,y5⟩:=k2 (by omega)
   rw[fv26];omega
  ·obtain⟨-,-,-,-,-,-,-,e113,-⟩:=F0
   simp only[AE,AG,zN,zR] at e113
   intro hp
   replace hp:=(e113.1 hp).1
   obtain⟨⟨k0,k1⟩,k2⟩:=w1 hp
   obtain⟨⟨n1,n2,n3,n4,n5⟩,-,-,-,y1,y2,y3,y4,y5⟩:=k2 (by omega)
   rw[fv26];omega
  ·intro hp
   obtain⟨⟨k0,k1⟩,k2⟩:=w1 hp
   obtain⟨⟨n1,n2,n3,n4,n5⟩,-,-,-,y1,y2,y3,y4,y5⟩:=k2 (by omega)
   rw[fv26];omega
  ·obtain⟨-,-,-,-,-,-,e144,e145,-⟩:=F2
   simp only[AE,AG,zN,zR,w2P] at e144 e145
   intro hp
   obtain⟨⟨k0,k1⟩,-⟩:=w1 (e144.1 hp).1
   have hn:=hlen (e144.1 hp).1
   have e:(I T2 145)=I T2 105+1:=e145 (by omega) (by omega)
   left
   omega
  ·obtain⟨-,-,-,-,-,-,e144,e145,-⟩:=F2
   simp only[AE,AG,zN,zR,w2P] at e144 e145
   intro hp
   obtain⟨⟨k0,k1⟩,-⟩:=w1 (e144.1 hp).1
   have hn:=hlen (e144.1 hp).1
   have e:(I T2 145)=I T2 105+1:=e145 (by omega) (by omega)
   omega
theorem fh {T:Tab}(hz0:(S T 0).size≤140737488355328)(hl4:(L T 4).length≤140737488355328)(hl10:(L T 10).length≤140737488355328)(hl16:(L T 16).length≤140737488355328)(lo17:0≤I T 17)(hi17:I T 17≤255)(lo18:0≤I T 18)(hi18:I T 18≤255)(g:Ln)(hg:g=Ln.mk (S T 0) (I T 1) (I T 2) (I T 3) (L T 4) (I T 5) (I T 6) (I T 7) (I T 8) (I T 9) (L T 10))(hb4:(L T 4).length≤1048576)(hb10:(L T 10).length≤1048576)(hb16:(L T 16).length≤1048576)(g1:Ln)(z1:g1=Ln.mk (S T 0) (I T 1) (I T 2) (I T 3) (L T 4) (I T 5) (I T 6) (I T 7) (I T 8) (I T 9) (L T 10))(g2:Ln)(z2:g2=Ln.mk (S T 0) (I T 1) (I T 2) (I T 3) (L T 4) (I T 5) (I T 6) (I T 7) (I T 8) (I T 9) (L T 10))(g3:Ln)(z3:g3=Ln.mk (S T 0) (I T 1) (I T 2) (I T 3) (L T 4) (I T 5) (I T 6) (I T 7) (I T 8) (I T 9) (L T 10))(g4:Ln)(z4:g4=Ln.mk (S T 0) (I T 1) (I T 2) (I T 3) (L T 4) (I T 5) (I T 6) (I T 7) (I T 8) (I T 9) (L T 10))(g5:Ln)(z5:g5=Ln.mk (S T 0) (I T 1) (I T 2) (I T 3) (L T 4) (I T 5) (I T 6) (I T 7) (I T 8) (I T 9) (L T 10))(g6:Ln)(z6:g6=Ln.mk (S T 0) (I T 1) (I T 2) (I T 3) (L T 4) (I T 5) (I T 6) (I T 7) (I T 8) (I T 9) (L T 10))(g7:Ln)(z7:g7=Ln.mk (S T 0) (I T 1) (I T 2) (I T 3) (L T 4) (I T 5) (I T 6) (I T 7) (I T 8) (I T 9) (L T 10))(hgs:g1=g∧g2=g∧g3=g∧g4=g∧g5=g∧g6=g∧g7=g)(h35:(B T 35)=true→Cf g (I T 11) (I T 12) (I T 13) (I T 14) (I T 15) ((L T 16))=0)(hw:(B T 35)=true→AO g=0∧AF (I T 11) (I T 12)=true∧AF (I T 13) (I T 14)=true∧(1≤I T 15∧I T 15≤16384)∧((L T 16)).length≤12∧((L T 16)).all Aq=true)(hs:(B T 35)=true→L T 26=Av (I T 11) (I T 12) (I T 13) (I T 14) (I T 15) (AN g++((L T 16))) (AN g++((L T 16))).length∧((L T 36)=L T 26∧I T 37=0)∧((L T 38)=Av (I T 11) (I T 12) (I T 11) (I T 12) (I T 15) (AN g++((L T 16))) (AN g++((L T 16))).length∧I T 39=0)∧((L T 40)=L T 38∧I T 41=0))(n58:(B T 58)=false)(n68:(B T 68)=false)(hk:(B T 69)=true→(AO g=0∧AF (I T 11) (I T 12)=true∧AF (I T 13) (I T 14)=true∧(1≤I T 15∧I T 15≤16384)∧((L T 16)).length≤12∧((L T 16)).all Aq=true)∧L T 26=Av (I T 11) (I T 12) (I T 13) (I T 14) (I T 15) (AN g++((L T 16))) (AN g++((L T 16))).length∧L T 79=(AN g++((L T 16)))∧Cr ((L T 79))∧((L T 79)).length≤37∧(0≤I T 70∧I T 70≤64)∧((I T 74)=I T 11*(64 - (I T 70))+I T 13*I T 70∧I T 78=I T 12*(64 - (I T 70))+I T 14*I T 70))(inv0:0≤I T 80∧I T 80≤((L T 79)).length∨I T 80=0)(np0:¬B T 103=true)(h84:(B T 84)=true→B T 69=true)(w0:(B T 83)=true→((B T 69)=true∧I T 80 < ((L T 79)).length)∧(0≤I T 80→B T 101=false))(n102:(B T 102)=false)(inv1:0≤I T 105∧I T 105≤((L T 26)).length∨I T 105=0)(np1:¬B T 144=true)(A0:AI T E8)(B0:AI T C5)(B1:AI T D5)(A2:AI T NA):
  ((B T 158)=(true))∧
  (B T 69=true→((L T 16)).length≤12):=by
 obtain⟨F0,A0⟩:=A0.cut
 obtain⟨F1,A0⟩:=A0.cut
 obtain⟨F2,A0⟩:=A0.cut
 have F3:=A0;clear A0
 obtain⟨F4,B0⟩:=B0.cut
 have F5:=B0;clear B0
 obtain⟨F6,B1⟩:=B1.cut
 obtain⟨F7,B1⟩:=B1.cut
 have F8:=B1;clear B1
 have F9:=A2;clear A2
 have w1:(B T 108)=true→((B T 69)=true∧I T 105 < ((L T 26)).length)∧(0≤I T 105→(0≤I T 110∧I T 110 < ((L T 79)).length∧I T 114=I T 110∧I T 123=I T 110∧I T 136=I T 110)∧B T 118=false∧B T 130=false∧B T 142=false∧(AF (I T 11) (I T 12)=true∧AF (I T 13) (I T 14)=true∧AF (I T 137) (I T 138)=true∧(1≤I T 139∧I T 139≤16384)∧(1≤I T 15∧I T 15≤16384))):=by
  obtain⟨e106,e107,e108,-,e110,e111,-,-,e114,-,e116,e117,e118,-,e120,-⟩:=F6
  obtain⟨-,e123,-,-,e126,e127,e128,e129,e130,-,-,-,-,-,e136,e137,-⟩:=F7
  obtain⟨e138,e139,-,e141,e142,-⟩:=F8
  replace e141:B T 141=(GB (I T 11) (I T 12) (I T 13) (I T 14) (I T 137) (I T 138) (I T 139) (I T 15)):=e141
  simp only[AE,AG,zN,zR,w2P,zL] at e106 e107 e108 e110 e111 e114 e116 e117 e118 e120 e123 e126 e127 e128 e129 e130 e136 e137 e138 e139 e142
  intro hp
  have h1:=e108.1 hp
  have h2:=e107.1 h1.2
  rw[e106] at h2
  have h69:=h84 h1.1
  refine⟨⟨h69,h2⟩,fun v1=>?_⟩
  obtain⟨⟨c0,c1,c2,c3,c4,c5⟩,hW,hD,hO,hn,-⟩:=hk h69
  obtain⟨j,j1,j2,j3⟩:=LW (ax:=I T 11) (ay:=I T 12) (bx:=I T 13) (by_:=I T 14) (r:=I T 15) (d:=(AN g++((L T 16)))) (n:=(AN g++((L T 16))).length) (i:=(I T 105).toNat) (by rw[←hW];omega)
  have hlen:=MM (ax:=I T 11) (ay:=I T 12) (bx:=I T 13) (by_:=I T 14) (r:=I T 15) (d:=(AN g++((L T 16)))) (n:=(AN g++((L T 16))).length)
  rw[←hW,←hD] at hlen
  rw[←hW] at j2
  rw[←hD] at j1 j3
  have x110:(I T 110)=j:=e110.trans j2
  have x114:(I T 114)=I T 110:=by rw[e114,e110]
  have x123:(I T 123)=I T 110:=by rw[e123,e110]
  have x136:(I T 136)=I T 110:=by rw[e136,e110]
  have hj:(I T 110).toNat=j:=by omega
  have n111:¬B T 111=true:=fun h=>by have:=e111.1 h;omega
  have n117:¬B T 117=true:=fun h=>by have:=e117.1 h;rw[e116] at this;omega
  have f118:(B T 118)=false:=Bool.eq_false_iff.2 fun h=>n117 ((e118.1 h).resolve_left n111)
  have f130:(B T 130)=false:=by
   refine Bool.eq_false_iff.2 fun h=>?_
   have h3:=e129.1 ((e130.1 h).resolve_left (by simp[f118]))
   have h4:=e120.1 h3.1
   have h5:=e128.1 h3.2
   have x126:=e126 (by omega) (by omega)
   have ha:=Lf (ax:=I T 11) (ay:=I T 12) (bx:=I T 13) (by_:=I T 14) (r:=I T 15) (d:=(AN g++((L T 16)))) (AN g++((L T 16))).length (I T 126).toNat (by rw[←hW];omega)
   rw[←hW,show (I T 126).toNat+1=(I T 105).toNat by omega,←e110,←e127] at ha
   omega
  have hdj:=hO j j1
  have y137:(I T 137)=AA ((L T 79)) j 0:=by rw[e137,x136,hj]
  have y138:(I T 138)=AA ((L T 79)) j 1:=by rw[e138,x136,hj]
  have y139:(I T 139)=AA ((L T 79)) j 2:=by rw[e139,x136,hj]
  rw[←y137,←y138,←y139] at hdj j3
  refine⟨⟨by omega,by omega,x114,x123,x136⟩,f118,f130,?_,c1,c2,hdj.1,hdj.2,c3⟩
  refine Bool.eq_false_iff.2 fun h=>?_
  have h3:=(e142.1 h).resolve_left (by simp[f130])
  have:=VA c3.1 hdj.2.1 j3
  rw[e141,this] at h3
  exact absurd h3 (by simp)
 have n143:(B T 143)=false:=by
  obtain⟨-,-,-,-,-,e143,-⟩:=F8
  simp only[AE,AG,zR] at e143
  refine Bool.eq_false_iff.2 fun h=>?_
  have h1:=e143.1 h
  obtain⟨-,k2⟩:=w1 h1.1
  obtain⟨-,-,-,k3,-⟩:=k2 (by omega)
  rw[k3] at h1
  exact Bool.false_ne_true h1.2
 have h34:(B T 29)=true→B T 34=true:=by
  obtain⟨-,-,-,-,-,-,-,e26,e27,e28,e29,e30,e31,-,e33,e34,-⟩:=F0
  replace e26:L T 26=(E3 g2 (I T 11) (I T 12) (I T 13) (I T 14) (I T 15) (L T 16)):=by rw[←show gAt 0 (GL.map (Rf.eval T))=g2 from z2.symm];exact e26
  replace e27:I T 27=(Cf g2 (I T 11) (I T 12) (I T 13) (I T 14) (I T 15) (L T 16)):=by rw[←show gAt 0 (GL.map (Rf.eval T))=g2 from z2.symm];exact e27
  replace e33:B T 33=(true):=e33
  simp only[AE,AG,zR,zL] at e28 e29 e30 e31 e34
  intro h
  have h1:=e28.1 (e29.1 h).2
  rw[hgs.2.1] at e26 e27
  rw[e27] at h1
  have h26:(L T 26)=[]:=e26.trans (if_neg h1)
  exact e34.2 ⟨e31.2 (by rw[e30,h26];rfl),e33⟩
 have pf:(B T 158)=true:=by
  obtain⟨-,-,-,-,-,e24,-,-,-,-,e29,-⟩:=F0
  obtain⟨e146,e147,-,e149,-,e151,-,-,e154,-,e156,-,e158,-⟩:=F9
  replace e24:B T 24=(true):=e24
  replace e146:B T 146=(true):=e146
  simp only[AE,AG,zC,zR,zL] at e29 e147 e149 e151 e154 e156 e158
  clear w0 w1 hk hs hw h35 h84 hgs hg
  grind
 refine⟨?_,?_⟩
 ·exact pf
 ·intro h
  exact (hk h).1.2.2.2.2.1
theorem Yz:Fj Try.prog 9 Try.f5.params.toList 0=some (To,Is):=by kernel_rfl
theorem Z5:∀p∈([(12,HP),(13,HN),(17,Hj),(20,Hr),(21,Ku),(22,HQ),(18,Jz),(23,HK),(24,C4)]:List (FuncId × Ak)),Ao Try.prog p.1 p.2:=by simp only[List.forall_mem_cons];exact⟨T3,Uq,Tu,Yb,gH,Zh,bu,eV,ZA,fun _ h=>absurd h (by simp)⟩
theorem dc:∀T:Tab,AL T (BG 0 Is)→Bnd T 0 Is→Qn 1048576 T 0 Is→AX T ((E8++((Ax IC [.i] KR)++(C5++(Mn++((Ax Hq [.i] KM)++(D5++(NA))))))).map En.be)→Ng T Xi∧B T 158=true:=by
 intro T hS hBd hBl hE
 obtain⟨hz0,-,-,-,⟨hl4,he4⟩,-,-,-,-,-,⟨hl10,he10⟩,-,-,-,-,-,⟨hl16,he16⟩,⟨lo17,hi17⟩,⟨lo18,hi18⟩,-⟩:=hBd
 replace hz0:(S T 0).size≤140737488355328:=hz0
 replace hl4:(L T 4).length≤140737488355328:=hl4
 replace hl10:(L T 10).length≤140737488355328:=hl10
 replace hl16:(L T 16).length≤140737488355328:=hl16
 replace lo17:0≤I T 17:=lo17
 replace hi17:I T 17≤255:=hi17
 replace lo18:0≤I T 18:=lo18
 replace hi18:I T 18≤255:=hi18
 obtain⟨g,hg⟩:∃g:Ln,g=Ln.mk (S T 0) (I T 1) (I T 2) (I T 3) (L T 4) (I T 5) (I T 6) (I T 7) (I T 8) (I T 9) (L T 10):=⟨_,rfl⟩
 obtain⟨hb4,hb10,hb16,-⟩:=hBl
 replace hb4:(L T 4).length≤1048576:=hb4
 replace hb10:(L T 10).length≤1048576:=hb10
 replace hb16:(L T 16).length≤1048576:=hb16
 rw[List.map_append,List.map_append,List.map_append,List.map_append,List.map_append,List.map_append] at hE
 have hA:=hE.left
 replace hE:=hE.right
 have hH:=hE.left
 replace hE:=hE.right
 have hB:=hE.left
 replace hE:=hE.right
 obtain⟨A0,hS1⟩:=AV hS (by kernel_rfl) hA
 obtain⟨g1,z1⟩:∃g:Ln,g=Ln.mk (S T 0) (I T 1) (I T 2) (I T 3) (L T 4) (I T 5) (I T 6) (I T 7) (I T 8) (I T 9) (L T 10):=⟨_,rfl⟩
 obtain⟨g2,z2⟩:∃g:Ln,g=Ln.mk (S T 0) (I T 1) (I T 2) (I T 3) (L T 4) (I T 5) (I T 6) (I T 7) (I T 8) (I T 9) (L T 10):=⟨_,rfl⟩
 obtain⟨g3,z3⟩:∃g:Ln,g=Ln.mk (S T 0) (I T 1) (I T 2) (I T 3) (L T 4) (I T 5) (I T 6) (I T 7) (I T 8) (I T 9) (L T 10):=⟨_,rfl⟩
 obtain⟨g4,z4⟩:∃g:Ln,g=Ln.mk (S T 0) (I T 1) (I T 2) (I T 3) (L T 4) (I T 5) (I T 6) (I T 7) (I T 8) (I T 9) (L T 10):=⟨_,rfl⟩
 obtain⟨g5,z5⟩:∃g:Ln,g=Ln.mk (S T 0) (I T 1) (I T 2) (I T 3) (L T 4) (I T 5) (I T 6) (I T 7) (I T 8) (I T 9) (L T 10):=⟨_,rfl⟩
 obtain⟨g6,z6⟩:∃g:Ln,g=Ln.mk (S T 0) (I T 1) (I T 2) (I T 3) (L T 4) (I T 5) (I T 6) (I T 7) (I T 8) (I T 9) (L T 10):=⟨_,rfl⟩
 obtain⟨g7,z7⟩:∃g:Ln,g=Ln.mk (S T 0) (I T 1) (I T 2) (I T 3) (L T 4) (I T 5) (I T 6) (I T 7) (I T 8) (I T 9) (L T 10):=⟨_,rfl⟩
 obtain⟨hgs,h35,hw,hs,n58,n68,hk⟩:=YP hz0 hl4 hl10 hl16 lo17 hi17 lo18 hi18 g hg hb4 hb10 hb16 g1 z1 g2 z2 g3 z3 g4 z4 g5 z5 g6 z6 g7 z7 A0
 obtain⟨ow0,hS2,inv0,np0⟩:=aR g hg hk hS1 hB hH
 have hF2:=(AV (hS2.append hS1) (l:=C5) (by kernel_rfl) hB)
 obtain⟨B0,hS⟩:=hF2
 clear hA hB hH hS1 hS2
 have hA:=hE.left
 replace hE:=hE.right
 have hH:=hE.left
 replace hE:=hE.right
 have hB:=hE.left
 replace hE:=hE.right
 obtain⟨A1,hS1⟩:=AV hS (by kernel_rfl) hA
 obtain⟨h84,w0,n102⟩:=Yi hz0 hl4 hl10 hl16 lo17 hi17 lo18 hi18 g hg hb4 hb10 hb16 g1 z1 g2 z2 g3 z3 g4 z4 g5 z5 g6 z6 g7 z7 hgs h35 hw hs n58 n68 hk inv0 np0 A0 B0
 obtain⟨ow1,hS2,inv1,np1⟩:=Z1 g hg hk h84 hS1 hB hH
 have hF2:=(AV (hS2.append hS1) (l:=D5) (by kernel_rfl) hB)
 obtain⟨B1,hS⟩:=hF2
 clear hA hB hH hS1 hS2
 obtain⟨A2,hO⟩:=Ap (tys:=[.b]) (rs:=iB) hS (by kernel_rfl) hE
 obtain⟨q0,r0⟩:=fh hz0 hl4 hl10 hl16 lo17 hi17 lo18 hi18 g hg hb4 hb10 hb16 g1 z1 g2 z2 g3 z3 g4 z4 g5 z5 g6 z6 g7 z7 hgs h35 hw hs n58 n68 hk inv0 np0 h84 w0 n102 inv1 np1 A0 B0 B1 A2
 exact⟨⟨(fun _=>ow1),(fun _=>ow0),r0,trivial⟩,q0⟩
end Go.Eng
end
