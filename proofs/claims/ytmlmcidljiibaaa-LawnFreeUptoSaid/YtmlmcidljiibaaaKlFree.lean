/-
  A part of the proof: K_lFreed K_lFree.
-/
import Derived.Test.YtmlmcidljiibaaaXQlFree
import Derived.Test.YtmlmcidljiibaaaE3
import Derived.Test.YtmlmcidljiibaaaE4
import Derived.Test.YtmlmcidljiibaaaKgreat
import Derived.Test.YtmlmcidljiibaaaKworks
import Derived.Test.YtmlmcidljiibaaaKrcheck
import Derived.Test.YtmlmcidljiibaaaKput
import Derived.Test.YtmlmcidljiibaaaKqspot
import Derived.Test.YtmlmcidljiibaaaKqnumber
import Derived.Test.YtmlmcidljiibaaaKclear
import Derived.Test.YtmlmcidljiibaaaKrplaces
import Derived.Test.YtmlmcidljiibaaaKrat
set_option linter.unusedVariables false
set_option linter.unusedSimpArgs false
noncomputable section
open Go Go.Eng Go.Proofs
set_option maxHeartbeats 4000000
set_option maxRecDepth 100000
namespace Go.Eng
def sQ:List Kd:=[.str,k64,k64,k64,.list [k64,k64,k64,k64,.bool],k64,k64,k64,k64,k64,.list [k64,k64,k64],k64,k64,k64,.list [k64,k64,k64],.list [.int .u16 (0) (65535)]]
def sf:List AC:=((HI Try.prog 9 Try.f9.params.toList 0).map (·.1)).getD []
def rX:List Rf:=[.e 0,.e 1,.e 2,.e 3,.e 4,.e 5,.e 6,.e 7,.e 8,.e 9,.e 10]
def rV:List Rf:=[.e 0,.e 1,.e 2,.e 3,.e 4,.e 5,.e 6,.e 7,.e 8,.e 9,.e 10,.e 11,.e 12,.e 13,.e 14]
def rW:List Rf:=[.e 0,.e 1,.e 2,.e 3,.e 4,.e 5,.e 6,.e 7,.e 8,.e 9,.e 10,.e 11,.e 12]
def rY:List Rf:=[.e 0,.e 1,.e 2,.e 3,.e 4,.e 5,.e 6,.e 7,.e 8,.e 9,.e 10,.e 11,.e 12,.e 13,.c (.list [])]
def rd:List Rf:=[.e 0,.e 1,.e 2,.e 3,.e 4,.e 5,.e 6,.e 7,.e 8,.e 9,.e 10,.e 30,.e 31]
def re:List Rf:=[.e 0,.e 1,.e 2,.e 3,.e 4,.e 5,.e 6,.e 7,.e 8,.e 9,.e 10,.e 27,.e 28]
def rZ:List Rf:=[.e 0,.e 1,.e 2,.e 3,.e 4,.e 5,.e 6,.e 7,.e 8,.e 9,.e 10,.e 90]
def rc:List Rf:=[.e 0,.e 1,.e 2,.e 3,.e 4,.e 5,.e 6,.e 7,.e 8,.e 9,.e 10,.e 101]
def sk:List En:=[⟨16,.outB "great.0" JV,rX⟩,
 ⟨17,.not,[.e 16]⟩,
 ⟨18,.len,[.e 14]⟩,
 ⟨19,.lt,[.c (.int 12),.e 18]⟩,
 ⟨20,.or,[.e 16,.e 19]⟩,
 ⟨21,.not,[.e 20]⟩,
 ⟨22,.outI "rcheck.0" GK,rX⟩,
 ⟨23,.ne,[.e 22,.c (.int 0)]⟩,
 ⟨24,.or,[.e 20,.e 23]⟩,
 ⟨25,.outB "works.0" HN,[]⟩,
 ⟨26,.not,[.e 24]⟩,
 ⟨27,.outI "put.0" Jw,rV⟩,
 ⟨28,.outI "put.1" KF,rV⟩,
 ⟨29,.outI "put.2" KP,rV⟩,
 ⟨30,.outI "qspot.0" nF,rW⟩,
 ⟨31,.outI "qspot.1" nE,rW⟩]
def sw:List En:=[⟨32,.outB "qspot.2" nD,rW⟩,
 ⟨33,.outI "qspot.3" nC,rW⟩,
 ⟨34,.ne,[.e 29,.c (.int 0)]⟩,
 ⟨35,.and,[.e 26,.e 34]⟩,
 ⟨36,.eqs [.i,.i],[.e 27,.c (.int 0),.e 28,.c (.int 0)]⟩,
 ⟨37,.and,[.e 35,.e 36]⟩,
 ⟨38,.outB "works.0" HN,[]⟩,
 ⟨39,.and,[.e 36,.e 38]⟩,
 ⟨40,.and,[.e 26,.n 34]⟩,
 ⟨41,.outI "put.0" Jw,rY⟩,
 ⟨42,.outI "put.1" KF,rY⟩,
 ⟨43,.outI "put.2" KP,rY⟩,
 ⟨44,.outI "qnumber.0" mA,rd⟩,
 ⟨45,.outI "qnumber.1" mP,rd⟩,
 ⟨46,.outI "qnumber.0" mA,re⟩,
 ⟨47,.outI "qnumber.1" mP,re⟩]
def sr:List En:=[⟨48,.ne,[.e 33,.c (.int 0)]⟩,
 ⟨49,.and,[.e 40,.n 48]⟩,
 ⟨50,.ne,[.e 43,.c (.int 0)]⟩,
 ⟨51,.or,[.e 48,.e 50]⟩,
 ⟨52,.and,[.e 40,.n 51]⟩,
 ⟨53,.ne,[.e 45,.c (.int 0)]⟩,
 ⟨54,.or,[.e 51,.e 53]⟩,
 ⟨55,.and,[.e 40,.n 54]⟩,
 ⟨56,.ne,[.e 47,.c (.int 0)]⟩,
 ⟨57,.or,[.e 54,.e 56]⟩,
 ⟨58,.and,[.e 40,.n 57]⟩,
 ⟨59,.nes [.i,.i],[.e 41,.e 30,.e 42,.e 31]⟩,
 ⟨60,.or,[.e 57,.e 59]⟩,
 ⟨61,.and,[.e 40,.n 60]⟩,
 ⟨62,.outB "clear.0" sH,[.e 27,.e 28,.e 13,.e 14]⟩,
 ⟨63,.or,[.e 60,.n 62]⟩]
def su:List En:=[⟨64,.and,[.e 40,.e 63]⟩,
 ⟨65,.and,[.e 40,.n 63]⟩,
 ⟨66,.outI "rplaces.0" sJ,rX⟩,
 ⟨67,.w2 .i64 .sub,[.e 46,.e 44]⟩,
 ⟨68,.w2 .i64 .add,[.e 67,.e 66]⟩,
 ⟨69,.o2 .tmod,[.e 68,.e 66]⟩,
 ⟨70,.w2 .i64 .sub,[.e 44,.e 46]⟩,
 ⟨71,.w2 .i64 .add,[.e 70,.e 66]⟩,
 ⟨72,.o2 .tmod,[.e 71,.e 66]⟩,
 ⟨73,.o2 .min,[.e 69,.e 72]⟩]
def sM:List En:=sk++(sw++(sr++(su)))
def sx:List En:=[⟨75,.len,[.e 15]⟩,
 ⟨76,.lt,[.e 74,.e 75]⟩,
 ⟨77,.and,[.e 65,.e 76]⟩,
 ⟨78,.lt,[.e 74,.c (.int 30)]⟩,
 ⟨79,.and,[.e 76,.e 78]⟩,
 ⟨80,.and,[.e 65,.e 79]⟩,
 ⟨81,.lt,[.c (.int 0),.e 73]⟩,
 ⟨82,.and,[.e 79,.e 81]⟩,
 ⟨83,.and,[.e 65,.e 82]⟩,
 ⟨84,.and,[.e 65,.n 82]⟩,
 ⟨85,.w2 .i64 .sub,[.e 73,.c (.int 1)]⟩,
 ⟨86,.get .i 0,[.e 15,.e 74]⟩,
 ⟨87,.w2 .i64 .mul,[.e 85,.e 86]⟩,
 ⟨88,.o2 .tdiv,[.e 87,.c (.int 65535)]⟩,
 ⟨89,.w2 .i64 .add,[.e 44,.e 88]⟩,
 ⟨90,.o2 .tmod,[.e 89,.e 66]⟩]
def si:List En:=[⟨91,.outI "rat.0" KG,rZ⟩,
 ⟨92,.outI "rat.1" Jr,rZ⟩,
 ⟨93,.outB "clear.0" sH,[.e 91,.e 92,.e 13,.e 14]⟩,
 ⟨94,.and,[.e 83,.n 93]⟩,
 ⟨95,.and,[.e 83,.n 93]⟩,
 ⟨96,.and,[.e 83,.n 93]⟩,
 ⟨97,.w2 .i64 .sub,[.e 44,.e 88]⟩,
 ⟨98,.and,[.e 83,.n 93]⟩,
 ⟨99,.w2 .i64 .add,[.e 97,.e 66]⟩,
 ⟨100,.and,[.e 83,.n 93]⟩,
 ⟨101,.o2 .tmod,[.e 99,.e 66]⟩,
 ⟨102,.outI "rat.0" KG,rc⟩,
 ⟨103,.outI "rat.1" Jr,rc⟩,
 ⟨104,.and,[.e 83,.n 93]⟩,
 ⟨105,.and,[.e 83,.n 93]⟩,
 ⟨106,.outB "clear.0" sH,[.e 102,.e 103,.e 13,.e 14]⟩]
def sn:List En:=[⟨107,.or,[.e 93,.e 106]⟩,
 ⟨108,.and,[.e 83,.e 107]⟩,
 ⟨109,.and,[.e 83,.n 107]⟩,
 ⟨110,.w2 .i64 .add,[.e 74,.c (.int 1)]⟩]
def rm:List En:=sx++(si++(sn))
def sY:List ObE:=[⟨some 105,.pre "clear.p0" rv,[.e 102,.e 103,.e 13,.e 14]⟩,⟨some 105,.pre "clear.p1" sC,[.e 102,.e 103,.e 13,.e 14]⟩,⟨some 105,.pre "clear.p2" sA,[.e 102,.e 103,.e 13,.e 14]⟩,⟨some 100,.pre "rat.p0" EF,rc⟩,⟨some 100,.pre "rat.p1" EC,rc⟩,⟨some 100,.nez,[.e 66]⟩,⟨some 83,.pre "clear.p0" rv,[.e 91,.e 92,.e 13,.e 14]⟩,⟨some 83,.pre "clear.p1" sC,[.e 91,.e 92,.e 13,.e 14]⟩,⟨some 83,.pre "clear.p2" sA,[.e 91,.e 92,.e 13,.e 14]⟩,⟨some 83,.pre "rat.p0" EF,rZ⟩,⟨some 83,.pre "rat.p1" EC,rZ⟩,⟨some 83,.nez,[.e 66]⟩,⟨some 83,.inl,[.e 74,.e 15]⟩]
def sK:Ae:=mkD 74 1 rm 109 [.e 110] sY [13,14,0,1,2,3,4,5,6,7,8,9,10,66,44,15,73,65]
def sO:List Rf:=[.e 13,.e 14,.e 0,.e 1,.e 2,.e 3,.e 4,.e 5,.e 6,.e 7,.e 8,.e 9,.e 10,.e 66,.e 44,.e 15,.e 73,.e 65,.c (.int 0)]
def sv:List En:=[⟨111,.outB "works.0" HN,[]⟩,
 ⟨112,.ite .b,[.e 108,.c (.bool false),.e 111]⟩,
 ⟨113,.or,[.e 108,.e 84]⟩,
 ⟨114,.ite .b,[.e 64,.c (.bool false),.e 112]⟩,
 ⟨115,.or,[.e 64,.e 113]⟩,
 ⟨116,.ite .b,[.e 35,.e 39,.e 114]⟩,
 ⟨117,.or,[.e 35,.e 115]⟩,
 ⟨118,.ite .b,[.e 24,.e 25,.e 116]⟩,
 ⟨119,.or,[.e 24,.e 117]⟩]
def sT:List En:=sv
def s6:List ObE:=[⟨some 65,.owes sK,[.e 13,.e 14,.e 0,.e 1,.e 2,.e 3,.e 4,.e 5,.e 6,.e 7,.e 8,.e 9,.e 10,.e 66,.e 44,.e 15,.e 73,.e 65,.c (.int 0)]⟩,
 ⟨some 65,.nez,[.e 66]⟩,
 ⟨some 65,.nez,[.e 66]⟩,
 ⟨some 65,.pre "rplaces.p0" ri,rX⟩,
 ⟨some 61,.pre "clear.p0" rv,[.e 27,.e 28,.e 13,.e 14]⟩,
 ⟨some 61,.pre "clear.p1" sC,[.e 27,.e 28,.e 13,.e 14]⟩,
 ⟨some 61,.pre "clear.p2" sA,[.e 27,.e 28,.e 13,.e 14]⟩]
def tS:List Rf:=[.e 118]
theorem tN:WP 16 (YW Try.prog [(12,J6),(13,KO),(16,C3),(14,FP),(33,nI),(34,mW),(35,sF),(36,sG),(37,Kf)] Ah 3000 20 9 sf 16)=some (118,(sM++((BJ sK [.i] sO)++(rm++(sT)))).map En.be,s6.map ObE.be):=by kernel_rfl
theorem s9 {T:Tab}(hz0:(S T 0).size≤140737488355328)(hl4:(L T 4).length≤140737488355328)(hl10:(L T 10).length≤140737488355328)(hl14:(L T 14).length≤140737488355328)(hl15:(L T 15).length≤140737488355328)(hc15_0:∀q:Nat,q < (L T 15).length→0≤AA (L T 15) q 0∧AA (L T 15) q 0≤65535)(g:Ln)(hg:g=Ln.mk (S T 0) (I T 1) (I T 2) (I T 3) (L T 4) (I T 5) (I T 6) (I T 7) (I T 8) (I T 9) (L T 10))(hb4:(L T 4).length≤1048576)(hb10:(L T 10).length≤1048576)(hb14:(L T 14).length≤1048576)(hb15:(L T 15).length≤1048576)(g1:Ln)(z1:g1=Ln.mk (S T 0) (I T 1) (I T 2) (I T 3) (L T 4) (I T 5) (I T 6) (I T 7) (I T 8) (I T 9) (L T 10))(g2:Ln)(z2:g2=Ln.mk (S T 0) (I T 1) (I T 2) (I T 3) (L T 4) (I T 5) (I T 6) (I T 7) (I T 8) (I T 9) (L T 10))(g3:Ln)(z3:g3=Ln.mk (S T 0) (I T 1) (I T 2) (I T 3) (L T 4) (I T 5) (I T 6) (I T 7) (I T 8) (I T 9) (L T 10))(g4:Ln)(z4:g4=Ln.mk (S T 0) (I T 1) (I T 2) (I T 3) (L T 4) (I T 5) (I T 6) (I T 7) (I T 8) (I T 9) (L T 10))(g5:Ln)(z5:g5=Ln.mk (S T 0) (I T 1) (I T 2) (I T 3) (L T 4) (I T 5) (I T 6) (I T 7) (I T 8) (I T 9) (L T 10))(g6:Ln)(z6:g6=Ln.mk (S T 0) (I T 1) (I T 2) (I T 3) (L T 4) (I T 5) (I T 6) (I T 7) (I T 8) (I T 9) (L T 10))(A0:AJ T sM):
  (g1=g∧g2=g∧g3=g∧g4=g∧g5=g∧g6=g)∧((B T 26)=true→AT g=0)∧((B T 40)=true→C7 g (I T 11) (I T 12) (I T 13) ((L T 14))=0∧B T 60=false∧B T 62=true∧I T 44=rh g (I T 11) (I T 12)∧I T 46=rg g (I T 11) (I T 12) (I T 13) ((L T 14)))∧((B T 64)=false)∧((B T 35)=true→B T 39=true)∧((B T 65)=true→AT g=0∧I T 66=sE g∧(0≤I T 44∧I T 44 < I T 66)∧I T 66≤16777216∧Cj (freeL g (I T 13) ((L T 14))) (I T 44) (I T 66) (I T 73)∧(0≤I T 73∧I T 73≤I T 66)∧Bx (I T 13)=true∧((L T 14)).all Ax=true):=by
 obtain⟨F0,A0⟩:=A0.cut
 obtain⟨F1,A0⟩:=A0.cut
 obtain⟨F2,A0⟩:=A0.cut
 have F3:=A0;clear A0
 have hg1:g1=g∧g2=g∧g3=g∧g4=g∧g5=g∧g6=g:=by
  exact⟨by rw[z1,hg],by rw[z2,hg],by rw[z3,hg],by rw[z4,hg],by rw[z5,hg],by rw[z6,hg]⟩
 have h26:(B T 26)=true→AT g=0:=by
  obtain⟨e16,-,e18,e19,e20,-,e22,e23,e24,-,e26,-⟩:=F0
  replace e16:B T 16=(Ld g1):=by rw[←show gAt 0 (rX.map (Rf.eval T))=g1 from z1.symm];exact e16
  replace e22:I T 22=(AT g1):=by rw[←show gAt 0 (rX.map (Rf.eval T))=g1 from z1.symm];exact e22
  simp only[AE,AF,zR,zL] at*
  intro h
  have h1:¬B T 23=true:=by clear hg1 e22;grind
  rw[hg1.1] at e22
  rw[←e22]
  apply Classical.byContradiction
  intro hn
  exact h1 (e23.2 hn)
 have hp:(B T 40)=true→C7 g (I T 11) (I T 12) (I T 13) ((L T 14))=0∧B T 60=false∧B T 62=true∧I T 44=rh g (I T 11) (I T 12)∧I T 46=rg g (I T 11) (I T 12) (I T 13) ((L T 14)):=by
  obtain⟨e16,-,e18,e19,e20,-,e22,e23,e24,-,e26,e27,e28,e29,e30,e31,-⟩:=F0
  obtain⟨-,e33,e34,-,-,-,-,-,e40,e41,e42,e43,e44,e45,e46,e47,-⟩:=F1
  obtain⟨e48,-,e50,e51,-,e53,e54,-,e56,e57,-,e59,e60,-,e62,-⟩:=F2
  replace e16:B T 16=(Ld g1):=by rw[←show gAt 0 (rX.map (Rf.eval T))=g1 from z1.symm];exact e16
  replace e22:I T 22=(AT g1):=by rw[←show gAt 0 (rX.map (Rf.eval T))=g1 from z1.symm];exact e22
  replace e27:I T 27=(GC g2 (I T 11) (I T 12) (I T 13) (L T 14)):=by rw[←show gAt 0 (rV.map (Rf.eval T))=g2 from z2.symm];exact e27
  replace e28:I T 28=(GJ g2 (I T 11) (I T 12) (I T 13) (L T 14)):=by rw[←show gAt 0 (rV.map (Rf.eval T))=g2 from z2.symm];exact e28
  replace e29:I T 29=(C7 g2 (I T 11) (I T 12) (I T 13) (L T 14)):=by rw[←show gAt 0 (rV.map (Rf.eval T))=g2 from z2.symm];exact e29
  replace e30:I T 30=(mJ g3 (I T 11) (I T 12)):=by rw[←show gAt 0 (rW.map (Rf.eval T))=g3 from z3.symm];exact e30
  replace e31:I T 31=(mN g3 (I T 11) (I T 12)):=by rw[←show gAt 0 (rW.map (Rf.eval T))=g3 from z3.symm];exact e31
  replace e33:I T 33=(A6 g3 (I T 11) (I T 12)):=by rw[←show gAt 0 (rW.map (Rf.eval T))=g3 from z3.symm];exact e33
  replace e41:I T 41=(GC g4 (I T 11) (I T 12) (I T 13) ([]:List (List U))):=by rw[←show gAt 0 (rY.map (Rf.eval T))=g4 from z4.symm];exact e41
  replace e42:I T 42=(GJ g4 (I T 11) (I T 12) (I T 13) ([]:List (List U))):=by rw[←show gAt 0 (rY.map (Rf.eval T))=g4 from z4.symm];exact e42
  replace e43:I T 43=(C7 g4 (I T 11) (I T 12) (I T 13) ([]:List (List U))):=by rw[←show gAt 0 (rY.map (Rf.eval T))=g4 from z4.symm];exact e43
  replace e44:I T 44=(lz g5 (I T 30) (I T 31)):=by rw[←show gAt 0 (rd.map (Rf.eval T))=g5 from z5.symm];exact e44
  replace e45:I T 45=(lw g5 (I T 30) (I T 31)):=by rw[←show gAt 0 (rd.map (Rf.eval T))=g5 from z5.symm];exact e45
  replace e46:I T 46=(lz g6 (I T 27) (I T 28)):=by rw[←show gAt 0 (re.map (Rf.eval T))=g6 from z6.symm];exact e46
  replace e47:I T 47=(lw g6 (I T 27) (I T 28)):=by rw[←show gAt 0 (re.map (Rf.eval T))=g6 from z6.symm];exact e47
  replace e62:B T 62=(Ba (I T 27) (I T 28) (I T 13) (L T 14)):=e62
  simp only[AE,AF,zN,zR,Bb,and_true,zL] at*
  intro h
  have h1:=e40.1 h
  obtain⟨k1,k2,k3,k4,k5,k6⟩:=hg1
  have h2:C7 g (I T 11) (I T 12) (I T 13) ((L T 14))=0:=by
   rw[←k2,←e29]
   apply Classical.byContradiction
   intro hn
   have:=e34.2 hn
   rw[h1.2] at this
   exact Bool.false_ne_true this
  rw[k2] at e27 e28
  rw[k3] at e30 e31 e33
  rw[k4] at e41 e42 e43
  obtain⟨o1,o2,o3,o4⟩:=ru h2
  obtain⟨q1,q2,q3⟩:=tE h2
  obtain⟨u1,u2⟩:=sg h2
  obtain⟨n1,n2⟩:=sy h2
  have hE44:(I T 44)=rh g (I T 11) (I T 12)∧I T 45=0:=by
   rw[k5,e30,e31] at e44 e45
   exact⟨e44.trans u2,e45.trans u1⟩
  have hE46:(I T 46)=rg g (I T 11) (I T 12) (I T 13) ((L T 14))∧I T 47=0:=by
   rw[k6,e27,e28] at e46 e47
   exact⟨e46.trans n2,e47.trans n1⟩
  refine⟨h2,?_,by rw[e62,e27,e28];exact tM h2,hE44.1,hE46.1⟩
  refine Bool.eq_false_iff.2 fun hk=>?_
  have m48:¬B T 48=true:=fun h=>e48.1 h (by rw[e33];exact o1)
  have m50:¬B T 50=true:=fun h=>e50.1 h (by rw[e43];exact q1)
  have m53:¬B T 53=true:=fun h=>e53.1 h hE44.2
  have m56:¬B T 56=true:=fun h=>e56.1 h hE46.2
  have m59:¬B T 59=true:=fun h=>e59.1 h ⟨by rw[e41,e30];exact q2,by rw[e42,e31];exact q3⟩
  exact m59 ((e60.1 hk).resolve_left fun h=>m56 ((e57.1 h).resolve_left fun h=>m53 ((e54.1 h).resolve_left fun h=>m50 ((e51.1 h).resolve_left m48))))
 have h64:(B T 64)=false:=by
  obtain⟨e16,-,e18,e19,e20,-,e22,e23,e24,-,e26,e27,e28,e29,e30,e31,-⟩:=F0
  obtain⟨-,e33,e34,-,-,-,-,-,e40,e41,e42,e43,-,e45,-,e47,-⟩:=F1
  obtain⟨e48,-,e50,e51,-,e53,e54,-,e56,e57,-,e59,e60,-,e62,e63,-⟩:=F2
  obtain⟨e64,-⟩:=F3
  replace e16:B T 16=(Ld g1):=by rw[←show gAt 0 (rX.map (Rf.eval T))=g1 from z1.symm];exact e16
  replace e22:I T 22=(AT g1):=by rw[←show gAt 0 (rX.map (Rf.eval T))=g1 from z1.symm];exact e22
  replace e27:I T 27=(GC g2 (I T 11) (I T 12) (I T 13) (L T 14)):=by rw[←show gAt 0 (rV.map (Rf.eval T))=g2 from z2.symm];exact e27
  replace e28:I T 28=(GJ g2 (I T 11) (I T 12) (I T 13) (L T 14)):=by rw[←show gAt 0 (rV.map (Rf.eval T))=g2 from z2.symm];exact e28
  replace e29:I T 29=(C7 g2 (I T 11) (I T 12) (I T 13) (L T 14)):=by rw[←show gAt 0 (rV.map (Rf.eval T))=g2 from z2.symm];exact e29
  replace e30:I T 30=(mJ g3 (I T 11) (I T 12)):=by rw[←show gAt 0 (rW.map (Rf.eval T))=g3 from z3.symm];exact e30
  replace e31:I T 31=(mN g3 (I T 11) (I T 12)):=by rw[←show gAt 0 (rW.map (Rf.eval T))=g3 from z3.symm];exact e31
  replace e33:I T 33=(A6 g3 (I T 11) (I T 12)):=by rw[←show gAt 0 (rW.map (Rf.eval T))=g3 from z3.symm];exact e33
  replace e41:I T 41=(GC g4 (I T 11) (I T 12) (I T 13) ([]:List (List U))):=by rw[←show gAt 0 (rY.map (Rf.eval T))=g4 from z4.symm];exact e41
  replace e42:I T 42=(GJ g4 (I T 11) (I T 12) (I T 13) ([]:List (List U))):=by rw[←show gAt 0 (rY.map (Rf.eval T))=g4 from z4.symm];exact e42
  replace e43:I T 43=(C7 g4 (I T 11) (I T 12) (I T 13) ([]:List (List U))):=by rw[←show gAt 0 (rY.map (Rf.eval T))=g4 from z4.symm];exact e43
  replace e45:I T 45=(lw g5 (I T 30) (I T 31)):=by rw[←show gAt 0 (rd.map (Rf.eval T))=g5 from z5.symm];exact e45
  replace e47:I T 47=(lw g6 (I T 27) (I T 28)):=by rw[←show gAt 0 (re.map (Rf.eval T))=g6 from z6.symm];exact e47
  replace e62:B T 62=(Ba (I T 27) (I T 28) (I T 13) (L T 14)):=e62
  simp only[AE,AF,zN,zR,Bb,and_true,zL] at*
  refine Bool.eq_false_iff.2 fun h=>?_
  have h1:=e64.1 h
  obtain⟨p1,p2,p3,-⟩:=hp h1.1
  rcases e63.1 h1.2 with k|k
  ·rw[p2] at k;exact Bool.false_ne_true k
  ·rw[p3] at k;exact absurd k (by simp)
 have h39:(B T 35)=true→B T 39=true:=by
  obtain⟨e16,-,e18,e19,e20,-,e22,e23,e24,-,e26,e27,e28,e29,-⟩:=F0
  obtain⟨-,-,e34,e35,e36,-,e38,e39,-⟩:=F1
  replace e16:B T 16=(Ld g1):=by rw[←show gAt 0 (rX.map (Rf.eval T))=g1 from z1.symm];exact e16
  replace e22:I T 22=(AT g1):=by rw[←show gAt 0 (rX.map (Rf.eval T))=g1 from z1.symm];exact e22
  replace e27:I T 27=(GC g2 (I T 11) (I T 12) (I T 13) (L T 14)):=by rw[←show gAt 0 (rV.map (Rf.eval T))=g2 from z2.symm];exact e27
  replace e28:I T 28=(GJ g2 (I T 11) (I T 12) (I T 13) (L T 14)):=by rw[←show gAt 0 (rV.map (Rf.eval T))=g2 from z2.symm];exact e28
  replace e29:I T 29=(C7 g2 (I T 11) (I T 12) (I T 13) (L T 14)):=by rw[←show gAt 0 (rV.map (Rf.eval T))=g2 from z2.symm];exact e29
  replace e38:B T 38=(true):=e38
  simp only[AE,AF,zR,Bb,and_true,zL] at*
  intro h
  have h1:=e34.1 (e35.1 h).2
  obtain⟨k1,k2,k3,k4,k5,k6⟩:=hg1
  rw[e29,k2] at h1
  rw[k2] at e27 e28
  exact e39.2 ⟨e36.2 ⟨by rw[e27];exact if_neg h1,by rw[e28];exact if_neg h1⟩,e38⟩
 have hk:(B T 65)=true→AT g=0∧I T 66=sE g∧(0≤I T 44∧I T 44 < I T 66)∧I T 66≤16777216∧Cj (freeL g (I T 13) ((L T 14))) (I T 44) (I T 66) (I T 73)∧(0≤I T 73∧I T 73≤I T 66)∧Bx (I T 13)=true∧((L T 14)).all Ax=true:=by
  obtain⟨e16,-,e18,e19,e20,-,e22,e23,e24,-,e26,e27,e28,e29,e30,e31,-⟩:=F0
  obtain⟨-,e33,e34,-,-,-,-,-,e40,e41,e42,e43,e44,e45,e46,e47,-⟩:=F1
  obtain⟨e48,-,e50,e51,-,e53,e54,-,e56,e57,-,e59,e60,-,e62,e63,-⟩:=F2
  obtain⟨-,e65,e66,e67,e68,e69,e70,e71,e72,e73,-⟩:=F3
  replace e16:B T 16=(Ld g1):=by rw[←show gAt 0 (rX.map (Rf.eval T))=g1 from z1.symm];exact e16
  replace e22:I T 22=(AT g1):=by rw[←show gAt 0 (rX.map (Rf.eval T))=g1 from z1.symm];exact e22
  replace e27:I T 27=(GC g2 (I T 11) (I T 12) (I T 13) (L T 14)):=by rw[←show gAt 0 (rV.map (Rf.eval T))=g2 from z2.symm];exact e27
  replace e28:I T 28=(GJ g2 (I T 11) (I T 12) (I T 13) (L T 14)):=by rw[←show gAt 0 (rV.map (Rf.eval T))=g2 from z2.symm];exact e28
  replace e29:I T 29=(C7 g2 (I T 11) (I T 12) (I T 13) (L T 14)):=by rw[←show gAt 0 (rV.map (Rf.eval T))=g2 from z2.symm];exact e29
  replace e30:I T 30=(mJ g3 (I T 11) (I T 12)):=by rw[←show gAt 0 (rW.map (Rf.eval T))=g3 from z3.symm];exact e30
  replace e31:I T 31=(mN g3 (I T 11) (I T 12)):=by rw[←show gAt 0 (rW.map (Rf.eval T))=g3 from z3.symm];exact e31
  replace e33:I T 33=(A6 g3 (I T 11) (I T 12)):=by rw[←show gAt 0 (rW.map (Rf.eval T))=g3 from z3.symm];exact e33
  replace e41:I T 41=(GC g4 (I T 11) (I T 12) (I T 13) ([]:List (List U))):=by rw[←show gAt 0 (rY.map (Rf.eval T))=g4 from z4.symm];exact e41
  replace e42:I T 42=(GJ g4 (I T 11) (I T 12) (I T 13) ([]:List (List U))):=by rw[←show gAt 0 (rY.map (Rf.eval T))=g4 from z4.symm];exact e42
  replace e43:I T 43=(C7 g4 (I T 11) (I T 12) (I T 13) ([]:List (List U))):=by rw[←show gAt 0 (rY.map (Rf.eval T))=g4 from z4.symm];exact e43
  replace e44:I T 44=(lz g5 (I T 30) (I T 31)):=by rw[←show gAt 0 (rd.map (Rf.eval T))=g5 from z5.symm];exact e44
  replace e45:I T 45=(lw g5 (I T 30) (I T 31)):=by rw[←show gAt 0 (rd.map (Rf.eval T))=g5 from z5.symm];exact e45
  replace e46:I T 46=(lz g6 (I T 27) (I T 28)):=by rw[←show gAt 0 (re.map (Rf.eval T))=g6 from z6.symm];exact e46
  replace e47:I T 47=(lw g6 (I T 27) (I T 28)):=by rw[←show gAt 0 (re.map (Rf.eval T))=g6 from z6.symm];exact e47
  replace e62:B T 62=(Ba (I T 27) (I T 28) (I T 13) (L T 14)):=e62
  replace e66:I T 66=(2*(((g1).wide - 2*(g1).yard)+((g1).long - 2*(g1).yard))):=by rw[←show gAt 0 (rX.map (Rf.eval T))=g1 from z1.symm];exact e66
  simp only[AE,AF,zN,zR,Bb,and_true,AR,w2P,zL] at*
  intro h
  have h1:=(e65.1 h).1
  obtain⟨p1,p2,p3,p4,p5⟩:=hp h1
  obtain⟨o1,o2,o3,o4⟩:=ru p1
  have hc:=(lX o1).1
  have hbl:=Nh o2
  obtain⟨⟨⟨d1,d2⟩,⟨d3,d4⟩,d5,d6⟩,d7,d8,-⟩:=CP hc
  obtain⟨k1,k2,k3,k4,k5,k6⟩:=hg1
  rw[k1] at e66
  have x66:(I T 66)=sE g:=e66
  have sb:=sN p1
  obtain⟨t0,a,b,c,d,e⟩:=sW p1
  have aw:=s7 sb a b e
  rw[←p4,←p5,←x66] at aw
  rw[←p4,←x66] at sb
  have hm:(I T 66)≤16777216:=by rw[e66];omega
  have x67:=e67 (by omega) (by omega)
  have x68:=e68 (by omega) (by omega)
  have x69:(I T 69)=((I T 46) - (I T 44)+I T 66) % (I T 66):=by rw[e69,if_pos (by omega),x68,x67]
  have x70:=e70 (by omega) (by omega)
  have x71:=e71 (by omega) (by omega)
  have x72:(I T 72)=((I T 44) - (I T 46)+I T 66) % (I T 66):=by rw[e72,if_pos (by omega),x71,x70]
  have x73:(I T 73)≤t0:=by rw[e73,x69,x72];exact aw.2
  have y1:=Int.emod_nonneg ((I T 46) - (I T 44)+I T 66) (show (I T 66)≠0 by omega)
  have y2:=Int.emod_lt_of_pos ((I T 46) - (I T 44)+I T 66) (show 0 < (I T 66) by omega)
  have y3:=Int.emod_nonneg ((I T 44) - (I T 46)+I T 66) (show (I T 66)≠0 by omega)
  have y4:=Int.emod_lt_of_pos ((I T 44) - (I T 46)+I T 66) (show 0 < (I T 66) by omega)
  rw[←p4,←x66] at c
  refine⟨hc,x66,sb,hm,tF x73 c,?_,hbl.1,hbl.2.2⟩
  rw[e73]
  split<;>omega
 exact⟨hg1,h26,hp,h64,h39,hk⟩
theorem tG {T:Tab}(hl15:(L T 15).length≤140737488355328)(hc15_0:∀q:Nat,q < (L T 15).length→0≤AA (L T 15) q 0∧AA (L T 15) q 0≤65535)(g:Ln)(hg:g=Ln.mk (S T 0) (I T 1) (I T 2) (I T 3) (L T 4) (I T 5) (I T 6) (I T 7) (I T 8) (I T 9) (L T 10))(hk:(B T 65)=true→AT g=0∧I T 66=sE g∧(0≤I T 44∧I T 44 < I T 66)∧I T 66≤16777216∧Cj (freeL g (I T 13) ((L T 14))) (I T 44) (I T 66) (I T 73)∧(0≤I T 73∧I T 73≤I T 66)∧Bx (I T 13)=true∧((L T 14)).all Ax=true)(hS:AL T (Al (BT 0 sQ) sM))(hB:Ag T (rm.map En.be))(hH:Ag T ((BJ sK [.i] sO).map En.be)):
  (sK).owes (sO.map (Rf.eval T))∧AL T (hds 74 [.i])∧(0≤I T 74∧I T 74≤((L T 15)).length)∧¬B T 109=true:=by
 refine Bl (nh:=74) (k:=1) (pcn:=109) (top:=111) (bes:=rm) (bos:=sY) (nxt:=[.e 110]) (inits:=[.c (.int 0)]) (fv:=[13,14,0,1,2,3,4,5,6,7,8,9,10,66,44,15,73,65]) (tys:=[.i]) (by kernel_rfl) rfl rfl rfl rfl hS (by kernel_rfl) (by kernel_rfl) hB (BK hH) (fun s=>0≤(aI s 0)∧(aI s 0)≤((L T 15)).length) (fun s=>(((L T 15)).length - (aI s 0)).toNat) ?_ ?_
 ·show 0≤(0:Int)∧(0:Int)≤((L T 15)).length
  clear hS hB hH
  exact⟨by omega,by omega⟩
 ·intro T2 hfv hF inv
  replace inv:0≤I T2 74∧I T2 74≤((L T 15)).length:=inv
  clear hS hB hH
  replace hF:AJ T2 rm:=hF
  obtain⟨F0,hF⟩:=hF.cut
  obtain⟨F1,hF⟩:=hF.cut
  have F2:=hF;clear hF
  have fv13:I T2 13=I T 13:=fvI (hfv 13 (by decide))
  have fv14:L T2 14=L T 14:=fvL (hfv 14 (by decide))
  have fv0:S T2 0=S T 0:=fvS (hfv 0 (by decide))
  have fv1:I T2 1=I T 1:=fvI (hfv 1 (by decide))
  have fv2:I T2 2=I T 2:=fvI (hfv 2 (by decide))
  have fv3:I T2 3=I T 3:=fvI (hfv 3 (by decide))
  have fv4:L T2 4=L T 4:=fvL (hfv 4 (by decide))
  have fv5:I T2 5=I T 5:=fvI (hfv 5 (by decide))
  have fv6:I T2 6=I T 6:=fvI (hfv 6 (by decide))
  have fv7:I T2 7=I T 7:=fvI (hfv 7 (by decide))
  have fv8:I T2 8=I T 8:=fvI (hfv 8 (by decide))
  have fv9:I T2 9=I T 9:=fvI (hfv 9 (by decide))
  have fv10:L T2 10=L T 10:=fvL (hfv 10 (by decide))
  have fv66:I T2 66=I T 66:=fvI (hfv 66 (by decide))
  have fv44:I T2 44=I T 44:=fvI (hfv 44 (by decide))
  have fv15:L T2 15=L T 15:=fvL (hfv 15 (by decide))
  have fv73:I T2 73=I T 73:=fvI (hfv 73 (by decide))
  have fv65:B T2 65=B T 65:=fvB (hfv 65 (by decide))
  clear hfv
  obtain⟨g7,z7⟩:∃g:Ln,g=Ln.mk (S T2 0) (I T2 1) (I T2 2) (I T2 3) (L T2 4) (I T2 5) (I T2 6) (I T2 7) (I T2 8) (I T2 9) (L T2 10):=⟨_,rfl⟩
  obtain⟨g8,z8⟩:∃g:Ln,g=Ln.mk (S T2 0) (I T2 1) (I T2 2) (I T2 3) (L T2 4) (I T2 5) (I T2 6) (I T2 7) (I T2 8) (I T2 9) (L T2 10):=⟨_,rfl⟩
  have hgA:g7=g∧g8=g:=by
   exact⟨by rw[z7,hg,fv0,fv1,fv2,fv3,fv4,fv5,fv6,fv7,fv8,fv9,fv10],by rw[z8,hg,fv0,fv1,fv2,fv3,fv4,fv5,fv6,fv7,fv8,fv9,fv10]⟩
  have kf:(B T2 83)=true→((B T 65)=true∧I T2 74 < ((L T 15)).length)∧(0≤I T2 74→((I T2 90)=((I T 44)+I T2 88) % (I T 66)∧0≤I T2 90∧I T2 90 < I T 66)∧((I T2 101)=((I T 44) - (I T2 88)+I T 66) % (I T 66)∧0≤I T2 101∧I T2 101 < I T 66)∧((B T2 93)=false∧B T2 106=false)∧AH (I T2 91) (I T2 92)=true∧AH (I T2 102) (I T2 103)=true):=by
   obtain⟨e75,e76,-,e78,e79,-,e81,e82,e83,-,e85,e86,e87,e88,e89,e90,-⟩:=F0
   obtain⟨e91,e92,e93,-,-,-,e97,-,e99,-,e101,e102,e103,-,-,e106,-⟩:=F1
   replace e91:I T2 91=(AY (g7).yard ((g7).wide - 2*(g7).yard) ((g7).long - 2*(g7).yard) (I T2 90)):=by rw[←show gAt 0 (rZ.map (Rf.eval T2))=g7 from z7.symm];exact e91
   replace e92:I T2 92=(AX (g7).yard ((g7).wide - 2*(g7).yard) ((g7).long - 2*(g7).yard) (I T2 90)):=by rw[←show gAt 0 (rZ.map (Rf.eval T2))=g7 from z7.symm];exact e92
   replace e93:B T2 93=(Ba (I T2 91) (I T2 92) (I T2 13) (L T2 14)):=e93
   replace e102:I T2 102=(AY (g8).yard ((g8).wide - 2*(g8).yard) ((g8).long - 2*(g8).yard) (I T2 101)):=by rw[←show gAt 0 (rc.map (Rf.eval T2))=g8 from z8.symm];exact e102
   replace e103:I T2 103=(AX (g8).yard ((g8).wide - 2*(g8).yard) ((g8).long - 2*(g8).yard) (I T2 101)):=by rw[←show gAt 0 (rc.map (Rf.eval T2))=g8 from z8.symm];exact e103
   replace e106:B T2 106=(Ba (I T2 102) (I T2 103) (I T2 13) (L T2 14)):=e106
   simp only[AE,AF,zR,AR,w2P,zL] at*
   intro h
   have h1:=e83.1 h
   rw[fv65] at h1
   have h2:=e82.1 h1.2
   have h3:=e79.1 h2.1
   have h4:=e76.1 h3.1
   rw[e75,fv15] at h4
   have h5:=e81.1 h2.2
   rw[fv73] at h5
   obtain⟨c,m,sb,mb,hn,ab,hr,hb⟩:=hk h1.1
   refine⟨⟨h1.1,h4⟩,fun v1=>?_⟩
   have hp:=hc15_0 (I T2 74).toNat (by omega)
   rw[fv15] at e86
   rw[←e86] at hp
   have x85:=e85 (by omega) (by omega)
   rw[fv73] at x85
   have y1:=L9 (a:=I T2 85) (b:=I T2 86) (A:=16777216) (B:=65535) (by omega) (by omega)
   have y2:=Int.mul_nonneg (show 0≤(I T2 85) by omega) hp.1
   have x87:=e87 (by omega) (by omega)
   have x88:(I T2 88)=(I T2 87) / 65535:=by rw[e88];first|exact ox (by omega) (by omega) (by omega)|exact if_pos (by omega)
   have y3:(I T2 87)≤I T2 85*65535:=by rw[x87];exact Int.mul_le_mul_of_nonneg_left hp.2 (by omega)
   have y4:0≤I T2 88∧I T2 88≤I T2 85:=by omega
   have q44:=fv44
   have q66:=fv66
   have x89:=e89 (by omega) (by omega)
   have x90:(I T2 90)=((I T 44)+I T2 88) % (I T 66):=by rw[e90,if_pos (by omega),x89];rw[fv44,fv66]
   have x97:=e97 (by omega) (by omega)
   have x99:=e99 (by omega) (by omega)
   rw[x97] at x99
   have x101:(I T2 101)=((I T 44) - (I T2 88)+I T 66) % (I T 66):=by rw[e101,if_pos (by omega),x99];rw[fv44,fv66]
   have z1:=Int.emod_nonneg ((I T 44)+I T2 88) (show (I T 66)≠0 by omega)
   have z2:=Int.emod_lt_of_pos ((I T 44)+I T2 88) (show 0 < (I T 66) by omega)
   have z3:=Int.emod_nonneg ((I T 44) - (I T2 88)+I T 66) (show (I T 66)≠0 by omega)
   have z4:=Int.emod_lt_of_pos ((I T 44) - (I T2 88)+I T 66) (show 0 < (I T 66) by omega)
   rw[←x90] at z1 z2
   rw[←x101] at z3 z4
   obtain⟨dd,d7,d8,-⟩:=CP c
   have mm:(I T 66)=2*((g.wide - 2*g.yard)+(g.long - 2*g.yard)):=m
   have a1:=Mr dd z1 (by omega)
   have a2:=Mr dd z3 (by omega)
   rw[hgA.1] at e91 e92
   rw[hgA.2] at e102 e103
   have n1:=hn (I T2 88).toNat (by omega)
   rw[show (((I T2 88).toNat:Nat):Int)=(I T2 88) by omega,←x90,←x101] at n1
   have f1:(B T2 93)=false:=by
    rw[e93,e91,e92,fv13,fv14]
    exact n1.1
   have f2:(B T2 106)=false:=by
    rw[e106,e102,e103,fv13,fv14]
    exact n1.2
   rw[←e91,←e92] at a1
   rw[←e102,←e103] at a2
   have dd0:=dd.1.1
   exact⟨⟨x90,z1,z2⟩,⟨x101,z3,z4⟩,⟨f1,f2⟩,Av.2 (by omega),Av.2 (by omega)⟩
  suffices hz:(B T2 105=true→AH (I T2 102) (I T2 103)=true)∧(B T2 105=true→Bx (I T2 13)=true)∧(B T2 105=true→((L T2 14)).all Ax=true)∧(B T2 100=true→AT g8=0)∧(B T2 100=true→0≤I T2 101∧I T2 101 < 2*(((g8).wide - 2*(g8).yard)+((g8).long - 2*(g8).yard)))∧(B T2 100=true→¬I T2 66=0)∧(B T2 83=true→AH (I T2 91) (I T2 92)=true)∧(B T2 83=true→Bx (I T2 13)=true)∧(B T2 83=true→((L T2 14)).all Ax=true)∧(B T2 83=true→AT g7=0)∧(B T2 83=true→0≤I T2 90∧I T2 90 < 2*(((g7).wide - 2*(g7).yard)+((g7).long - 2*(g7).yard)))∧(B T2 83=true→¬I T2 66=0)∧(B T2 83=true→0≤I T2 74∧I T2 74 < ((L T2 15)).length)∧(B T2 109=true→(0≤I T2 110∧I T2 110≤((L T 15)).length))∧(B T2 109=true→(((L T 15)).length - (I T2 110)).toNat < (((L T 15)).length - (I T2 74)).toNat) from
   let⟨r0,r1,r2,r3,r4,r5,r6,r7,r8,r9,r10,r11,r12,nx,mz⟩:=hz;⟨⟨r0,r1,r2,(fun hp=>by show EF _;unfold EF;rw[show gAt 0 (rc.map (Rf.eval T2))=g8 from z8.symm];exact r3 hp),(fun hp=>by show EC _;unfold EC;rw[show gAt 0 (rc.map (Rf.eval T2))=g8 from z8.symm];exact r4 hp),r5,r6,r7,r8,(fun hp=>by show EF _;unfold EF;rw[show gAt 0 (rZ.map (Rf.eval T2))=g7 from z7.symm];exact r9 hp),(fun hp=>by show EC _;unfold EC;rw[show gAt 0 (rZ.map (Rf.eval T2))=g7 from z7.symm];exact r10 hp),r11,r12,trivial⟩,fun hp=>⟨nx hp,mz hp⟩⟩
  refine⟨?_,?_,?_,?_,?_,?_,?_,?_,?_,?_,?_,?_,?_,?_,?_⟩
  ·obtain⟨e75,e76,-,e78,e79,-,e81,e82,e83,-,e85,e86,e87,e88,e89,e90,-⟩:=F0
   obtain⟨e91,e92,e93,-,-,-,e97,-,e99,-,e101,e102,e103,-,e105,-⟩:=F1
   replace e91:I T2 91=(AY (g7).yard ((g7).wide - 2*(g7).yard) ((g7).long - 2*(g7).yard) (I T2 90)):=by rw[←show gAt 0 (rZ.map (Rf.eval T2))=g7 from z7.symm];exact e91
   replace e92:I T2 92=(AX (g7).yard ((g7).wide - 2*(g7).yard) ((g7).long - 2*(g7).yard) (I T2 90)):=by rw[←show gAt 0 (rZ.map (Rf.eval T2))=g7 from z7.symm];exact e92
   replace e93:B T2 93=(Ba (I T2 91) (I T2 92) (I T2 13) (L T2 14)):=e93
   replace e102:I T2 102=(AY (g8).yard ((g8).wide - 2*(g8).yard) ((g8).long - 2*(g8).yard) (I T2 101)):=by rw[←show gAt 0 (rc.map (Rf.eval T2))=g8 from z8.symm];exact e102
   replace e103:I T2 103=(AX (g8).yard ((g8).wide - 2*(g8).yard) ((g8).long - 2*(g8).yard) (I T2 101)):=by rw[←show gAt 0 (rc.map (Rf.eval T2))=g8 from z8.symm];exact e103
   simp only[AE,AF,zN,zR,AR,w2P,zL] at*
   intro hp
   replace hp:=(e105.1 hp).1
   obtain⟨v1,v2⟩:=inv
   obtain⟨⟨k0,k1⟩,k2⟩:=kf hp
   obtain⟨⟨x90,z1,z2⟩,⟨x101,z3,z4⟩,⟨f1,f2⟩,f3,f4⟩:=k2 v1
   obtain⟨c,m,sb,mb,hn,ab,hr,hb⟩:=hk k0
   have mm:(I T 66)=2*((g.wide - 2*g.yard)+(g.long - 2*g.yard)):=m
   exact f4
  ·obtain⟨e75,e76,-,e78,e79,-,e81,e82,e83,-,e85,e86,e87,e88,e89,e90,-⟩:=F0
   obtain⟨e91,e92,e93,-,-,-,-,-,-,-,-,-,-,-,e105,-⟩:=F1
   replace e91:I T2 91=(AY (g7).yard ((g7).wide - 2*(g7).yard) ((g7).long - 2*(g7).yard) (I T2 90)):=by rw[←show gAt 0 (rZ.map (Rf.eval T2))=g7 from z7.symm];exact e91
   replace e92:I T2 92=(AX (g7).yard ((g7).wide - 2*(g7).yard) ((g7).long - 2*(g7).yard) (I T2 90)):=by rw[←show gAt 0 (rZ.map (Rf.eval T2))=g7 from z7.symm];exact e92
   replace e93:B T2 93=(Ba (I T2 91) (I T2 92) (I T2 13) (L T2 14)):=e93
   simp only[AE,AF,zN,zR,AR,w2P,zL] at*
   intro hp
   replace hp:=(e105.1 hp).1
   obtain⟨v1,v2⟩:=inv
   obtain⟨⟨k0,k1⟩,k2⟩:=kf hp
   obtain⟨⟨x90,z1,z2⟩,⟨x101,z3,z4⟩,⟨f1,f2⟩,f3,f4⟩:=k2 v1
   obtain⟨c,m,sb,mb,hn,ab,hr,hb⟩:=hk k0
   have mm:(I T 66)=2*((g.wide - 2*g.yard)+(g.long - 2*g.yard)):=m
   rw[fv13];exact hr
  ·obtain⟨e75,e76,-,e78,e79,-,e81,e82,e83,-,e85,e86,e87,e88,e89,e90,-⟩:=F0
   obtain⟨e91,e92,e93,-,-,-,-,-,-,-,-,-,-,-,e105,-⟩:=F1
   replace e91:I T2 91=(AY (g7).yard ((g7).wide - 2*(g7).yard) ((g7).long - 2*(g7).yard) (I T2 90)):=by rw[←show gAt 0 (rZ.map (Rf.eval T2))=g7 from z7.symm];exact e91
   replace e92:I T2 92=(AX (g7).yard ((g7).wide - 2*(g7).yard) ((g7).long - 2*(g7).yard) (I T2 90)):=by rw[←show gAt 0 (rZ.map (Rf.eval T2))=g7 from z7.symm];exact e92
   replace e93:B T2 93=(Ba (I T2 91) (I T2 92) (I T2 13) (L T2 14)):=e93
   simp only[AE,AF,zN,zR,AR,w2P,zL] at*
   intro hp
   replace hp:=(e105.1 hp).1
   obtain⟨v1,v2⟩:=inv
   obtain⟨⟨k0,k1⟩,k2⟩:=kf hp
   obtain⟨⟨x90,z1,z2⟩,⟨x101,z3,z4⟩,⟨f1,f2⟩,f3,f4⟩:=k2 v1
   obtain⟨c,m,sb,mb,hn,ab,hr,hb⟩:=hk k0
   have mm:(I T 66)=2*((g.wide - 2*g.yard)+(g.long - 2*g.yard)):=m
   rw[fv14];exact hb
  ·obtain⟨e75,e76,-,e78,e79,-,e81,e82,e83,-,e85,e86,e87,e88,e89,e90,-⟩:=F0
   obtain⟨e91,e92,e93,-,-,-,-,-,-,e100,-⟩:=F1
   replace e91:I T2 91=(AY (g7).yard ((g7).wide - 2*(g7).yard) ((g7).long - 2*(g7).yard) (I T2 90)):=by rw[←show gAt 0 (rZ.map (Rf.eval T2))=g7 from z7.symm];exact e91
   replace e92:I T2 92=(AX (g7).yard ((g7).wide - 2*(g7).yard) ((g7).long - 2*(g7).yard) (I T2 90)):=by rw[←show gAt 0 (rZ.map (Rf.eval T2))=g7 from z7.symm];exact e92
   replace e93:B T2 93=(Ba (I T2 91) (I T2 92) (I T2 13) (L T2 14)):=e93
   simp only[AE,AF,zN,zR,AR,w2P,zL] at*
   intro hp
   replace hp:=(e100.1 hp).1
   obtain⟨v1,v2⟩:=inv
   obtain⟨⟨k0,k1⟩,k2⟩:=kf hp
   obtain⟨⟨x90,z1,z2⟩,⟨x101,z3,z4⟩,⟨f1,f2⟩,f3,f4⟩:=k2 v1
   obtain⟨c,m,sb,mb,hn,ab,hr,hb⟩:=hk k0
   have mm:(I T 66)=2*((g.wide - 2*g.yard)+(g.long - 2*g.yard)):=m
   rw[hgA.2];exact c
  ·obtain⟨e75,e76,-,e78,e79,-,e81,e82,e83,-,e85,e86,e87,e88,e89,e90,-⟩:=F0
   obtain⟨e91,e92,e93,-,-,-,e97,-,e99,e100,e101,-⟩:=F1
   replace e91:I T2 91=(AY (g7).yard ((g7).wide - 2*(g7).yard) ((g7).long - 2*(g7).yard) (I T2 90)):=by rw[←show gAt 0 (rZ.map (Rf.eval T2))=g7 from z7.symm];exact e91
   replace e92:I T2 92=(AX (g7).yard ((g7).wide - 2*(g7).yard) ((g7).long - 2*(g7).yard) (I T2 90)):=by rw[←show gAt 0 (rZ.map (Rf.eval T2))=g7 from z7.symm];exact e92
   replace e93:B T2 93=(Ba (I T2 91) (I T2 92) (I T2 13) (L T2 14)):=e93
   simp only[AE,AF,zN,zR,AR,w2P,zL] at*
   intro hp
   replace hp:=(e100.1 hp).1
   obtain⟨v1,v2⟩:=inv
   obtain⟨⟨k0,k1⟩,k2⟩:=kf hp
   obtain⟨⟨x90,z1,z2⟩,⟨x101,z3,z4⟩,⟨f1,f2⟩,f3,f4⟩:=k2 v1
   obtain⟨c,m,sb,mb,hn,ab,hr,hb⟩:=hk k0
   have mm:(I T 66)=2*((g.wide - 2*g.yard)+(g.long - 2*g.yard)):=m
   rw[hgA.2];exact⟨z3,by omega⟩
  ·obtain⟨e75,e76,-,e78,e79,-,e81,e82,e83,-,e85,e86,e87,e88,e89,e90,-⟩:=F0
   obtain⟨e91,e92,e93,-,-,-,-,-,-,e100,-⟩:=F1
   replace e91:I T2 91=(AY (g7).yard ((g7).wide - 2*(g7).yard) ((g7).long - 2*(g7).yard) (I T2 90)):=by rw[←show gAt 0 (rZ.map (Rf.eval T2))=g7 from z7.symm];exact e91
   replace e92:I T2 92=(AX (g7).yard ((g7).wide - 2*(g7).yard) ((g7).long - 2*(g7).yard) (I T2 90)):=by rw[←show gAt 0 (rZ.map (Rf.eval T2))=g7 from z7.symm];exact e92
   replace e93:B T2 93=(Ba (I T2 91) (I T2 92) (I T2 13) (L T2 14)):=e93
   simp only[AE,AF,zN,zR,AR,w2P,zL] at*
   intro hp
   replace hp:=(e100.1 hp).1
   obtain⟨v1,v2⟩:=inv
   obtain⟨⟨k0,k1⟩,k2⟩:=kf hp
   obtain⟨⟨x90,z1,z2⟩,⟨x101,z3,z4⟩,⟨f1,f2⟩,f3,f4⟩:=k2 v1
   obtain⟨c,m,sb,mb,hn,ab,hr,hb⟩:=hk k0
   have mm:(I T 66)=2*((g.wide - 2*g.yard)+(g.long - 2*g.yard)):=m
   rw[fv66];omega
  ·obtain⟨e75,e76,-,e78,e79,-,e81,e82,e83,-,e85,e86,e87,e88,e89,e90,-⟩:=F0
   obtain⟨e91,e92,-⟩:=F1
   replace e91:I T2 91=(AY (g7).yard ((g7).wide - 2*(g7).yard) ((g7).long - 2*(g7).yard) (I T2 90)):=by rw[←show gAt 0 (rZ.map (Rf.eval T2))=g7 from z7.symm];exact e91
   replace e92:I T2 92=(AX (g7).yard ((g7).wide - 2*(g7).yard) ((g7).long - 2*(g7).yard) (I T2 90)):=by rw[←show gAt 0 (rZ.map (Rf.eval T2))=g7 from z7.symm];exact e92
   simp only[AE,AF,zR,AR,w2P,zL] at*
   intro hp
   obtain⟨v1,v2⟩:=inv
   obtain⟨⟨k0,k1⟩,k2⟩:=kf hp
   obtain⟨⟨x90,z1,z2⟩,⟨x101,z3,z4⟩,⟨f1,f2⟩,f3,f4⟩:=k2 v1
   obtain⟨c,m,sb,mb,hn,ab,hr,hb⟩:=hk k0
   have mm:(I T 66)=2*((g.wide - 2*g.yard)+(g.long - 2*g.yard)):=m
   exact f3
  ·obtain⟨e75,e76,-,e78,e79,-,e81,e82,e83,-⟩:=F0
   simp only[AE,AF,zR,zL] at*
   intro hp
   obtain⟨v1,v2⟩:=inv
   obtain⟨⟨k0,k1⟩,k2⟩:=kf hp
   obtain⟨⟨x90,z1,z2⟩,⟨x101,z3,z4⟩,⟨f1,f2⟩,f3,f4⟩:=k2 v1
   obtain⟨c,m,sb,mb,hn,ab,hr,hb⟩:=hk k0
   have mm:(I T 66)=2*((g.wide - 2*g.yard)+(g.long - 2*g.yard)):=m
   rw[fv13];exact hr
  ·obtain⟨e75,e76,-,e78,e79,-,e81,e82,e83,-⟩:=F0
   simp only[AE,AF,zR,zL] at*
   intro hp
   obtain⟨v1,v2⟩:=inv
   obtain⟨⟨k0,k1⟩,k2⟩:=kf hp
   obtain⟨⟨x90,z1,z2⟩,⟨x101,z3,z4⟩,⟨f1,f2⟩,f3,f4⟩:=k2 v1
   obtain⟨c,m,sb,mb,hn,ab,hr,hb⟩:=hk k0
   have mm:(I T 66)=2*((g.wide - 2*g.yard)+(g.long - 2*g.yard)):=m
   rw[fv14];exact hb
  ·obtain⟨e75,e76,-,e78,e79,-,e81,e82,e83,-⟩:=F0
   simp only[AE,AF,zR,zL] at*
   intro hp
   obtain⟨v1,v2⟩:=inv
   obtain⟨⟨k0,k1⟩,k2⟩:=kf hp
   obtain⟨⟨x90,z1,z2⟩,⟨x101,z3,z4⟩,⟨f1,f2⟩,f3,f4⟩:=k2 v1
   obtain⟨c,m,sb,mb,hn,ab,hr,hb⟩:=hk k0
   have mm:(I T 66)=2*((g.wide - 2*g.yard)+(g.long - 2*g.yard)):=m
   rw[hgA.1];exact c
  ·obtain⟨e75,e76,-,e78,e79,-,e81,e82,e83,-,e85,e86,e87,e88,e89,e90,-⟩:=F0
   simp only[AE,AF,zR,AR,w2P,zL] at*
   intro hp
   obtain⟨v1,v2⟩:=inv
   obtain⟨⟨k0,k1⟩,k2⟩:=kf hp
   obtain⟨⟨x90,z1,z2⟩,⟨x101,z3,z4⟩,⟨f1,f2⟩,f3,f4⟩:=k2 v1
   obtain⟨c,m,sb,mb,hn,ab,hr,hb⟩:=hk k0
   have mm:(I T 66)=2*((g.wide - 2*g.yard)+(g.long - 2*g.yard)):=m
   rw[hgA.1];exact⟨z1,by omega⟩
  ·obtain⟨e75,e76,-,e78,e79,-,e81,e82,e83,-⟩:=F0
   simp only[AE,AF,zR,zL] at*
   intro hp
   obtain⟨v1,v2⟩:=inv
   obtain⟨⟨k0,k1⟩,k2⟩:=kf hp
   obtain⟨⟨x90,z1,z2⟩,⟨x101,z3,z4⟩,⟨f1,f2⟩,f3,f4⟩:=k2 v1
   obtain⟨c,m,sb,mb,hn,ab,hr,hb⟩:=hk k0
   have mm:(I T 66)=2*((g.wide - 2*g.yard)+(g.long - 2*g.yard)):=m
   rw[fv66];omega
  ·obtain⟨e75,e76,-,e78,e79,-,e81,e82,e83,-⟩:=F0
   simp only[AE,AF,zR,zL] at*
   intro hp
   obtain⟨v1,v2⟩:=inv
   obtain⟨⟨k0,k1⟩,k2⟩:=kf hp
   obtain⟨⟨x90,z1,z2⟩,⟨x101,z3,z4⟩,⟨f1,f2⟩,f3,f4⟩:=k2 v1
   obtain⟨c,m,sb,mb,hn,ab,hr,hb⟩:=hk k0
   have mm:(I T 66)=2*((g.wide - 2*g.yard)+(g.long - 2*g.yard)):=m
   rw[fv15];exact⟨v1,k1⟩
  ·obtain⟨e75,e76,-,e78,e79,-,e81,e82,e83,-,e85,e86,e87,e88,e89,e90,-⟩:=F0
   obtain⟨e91,e92,e93,-,-,-,e97,-,e99,-,e101,e102,e103,-,-,e106,-⟩:=F1
   obtain⟨e107,-,e109,e110,-⟩:=F2
   replace e91:I T2 91=(AY (g7).yard ((g7).wide - 2*(g7).yard) ((g7).long - 2*(g7).yard) (I T2 90)):=by rw[←show gAt 0 (rZ.map (Rf.eval T2))=g7 from z7.symm];exact e91
   replace e92:I T2 92=(AX (g7).yard ((g7).wide - 2*(g7).yard) ((g7).long - 2*(g7).yard) (I T2 90)):=by rw[←show gAt 0 (rZ.map (Rf.eval T2))=g7 from z7.symm];exact e92
   replace e93:B T2 93=(Ba (I T2 91) (I T2 92) (I T2 13) (L T2 14)):=e93
   replace e102:I T2 102=(AY (g8).yard ((g8).wide - 2*(g8).yard) ((g8).long - 2*(g8).yard) (I T2 101)):=by rw[←show gAt 0 (rc.map (Rf.eval T2))=g8 from z8.symm];exact e102
   replace e103:I T2 103=(AX (g8).yard ((g8).wide - 2*(g8).yard) ((g8).long - 2*(g8).yard) (I T2 101)):=by rw[←show gAt 0 (rc.map (Rf.eval T2))=g8 from z8.symm];exact e103
   replace e106:B T2 106=(Ba (I T2 102) (I T2 103) (I T2 13) (L T2 14)):=e106
   simp only[AE,AF,zN,zR,AR,w2P,zL] at*
   obtain⟨v1,v2⟩:=inv
   intro hp
   have h1:=e109.1 hp
   obtain⟨⟨k0,k1⟩,-⟩:=kf h1.1
   have e:(I T2 110)=I T2 74+1:=e110 (by omega) (by omega)
   exact⟨by omega,by omega⟩
  ·obtain⟨e75,e76,-,e78,e79,-,e81,e82,e83,-,e85,e86,e87,e88,e89,e90,-⟩:=F0
   obtain⟨e91,e92,e93,-,-,-,e97,-,e99,-,e101,e102,e103,-,-,e106,-⟩:=F1
   obtain⟨e107,-,e109,e110,-⟩:=F2
   replace e91:I T2 91=(AY (g7).yard ((g7).wide - 2*(g7).yard) ((g7).long - 2*(g7).yard) (I T2 90)):=by rw[←show gAt 0 (rZ.map (Rf.eval T2))=g7 from z7.symm];exact e91
   replace e92:I T2 92=(AX (g7).yard ((g7).wide - 2*(g7).yard) ((g7).long - 2*(g7).yard) (I T2 90)):=by rw[←show gAt 0 (rZ.map (Rf.eval T2))=g7 from z7.symm];exact e92
   replace e93:B T2 93=(Ba (I T2 91) (I T2 92) (I T2 13) (L T2 14)):=e93
   replace e102:I T2 102=(AY (g8).yard ((g8).wide - 2*(g8).yard) ((g8).long - 2*(g8).yard) (I T2 101)):=by rw[←show gAt 0 (rc.map (Rf.eval T2))=g8 from z8.symm];exact e102
   replace e103:I T2 103=(AX (g8).yard ((g8).wide - 2*(g8).yard) ((g8).long - 2*(g8).yard) (I T2 101)):=by rw[←show gAt 0 (rc.map (Rf.eval T2))=g8 from z8.symm];exact e103
   replace e106:B T2 106=(Ba (I T2 102) (I T2 103) (I T2 13) (L T2 14)):=e106
   simp only[AE,AF,zN,zR,AR,w2P,zL] at*
   obtain⟨v1,v2⟩:=inv
   intro hp
   have h1:=e109.1 hp
   obtain⟨⟨k0,k1⟩,-⟩:=kf h1.1
   have e:(I T2 110)=I T2 74+1:=e110 (by omega) (by omega)
   omega
theorem tP {T:Tab}(hz0:(S T 0).size≤140737488355328)(hl4:(L T 4).length≤140737488355328)(hl10:(L T 10).length≤140737488355328)(hl14:(L T 14).length≤140737488355328)(hl15:(L T 15).length≤140737488355328)(hc15_0:∀q:Nat,q < (L T 15).length→0≤AA (L T 15) q 0∧AA (L T 15) q 0≤65535)(g:Ln)(hg:g=Ln.mk (S T 0) (I T 1) (I T 2) (I T 3) (L T 4) (I T 5) (I T 6) (I T 7) (I T 8) (I T 9) (L T 10))(hb4:(L T 4).length≤1048576)(hb10:(L T 10).length≤1048576)(hb14:(L T 14).length≤1048576)(hb15:(L T 15).length≤1048576)(g1:Ln)(z1:g1=Ln.mk (S T 0) (I T 1) (I T 2) (I T 3) (L T 4) (I T 5) (I T 6) (I T 7) (I T 8) (I T 9) (L T 10))(g2:Ln)(z2:g2=Ln.mk (S T 0) (I T 1) (I T 2) (I T 3) (L T 4) (I T 5) (I T 6) (I T 7) (I T 8) (I T 9) (L T 10))(g3:Ln)(z3:g3=Ln.mk (S T 0) (I T 1) (I T 2) (I T 3) (L T 4) (I T 5) (I T 6) (I T 7) (I T 8) (I T 9) (L T 10))(g4:Ln)(z4:g4=Ln.mk (S T 0) (I T 1) (I T 2) (I T 3) (L T 4) (I T 5) (I T 6) (I T 7) (I T 8) (I T 9) (L T 10))(g5:Ln)(z5:g5=Ln.mk (S T 0) (I T 1) (I T 2) (I T 3) (L T 4) (I T 5) (I T 6) (I T 7) (I T 8) (I T 9) (L T 10))(g6:Ln)(z6:g6=Ln.mk (S T 0) (I T 1) (I T 2) (I T 3) (L T 4) (I T 5) (I T 6) (I T 7) (I T 8) (I T 9) (L T 10))(hg1:g1=g∧g2=g∧g3=g∧g4=g∧g5=g∧g6=g)(h26:(B T 26)=true→AT g=0)(hp:(B T 40)=true→C7 g (I T 11) (I T 12) (I T 13) ((L T 14))=0∧B T 60=false∧B T 62=true∧I T 44=rh g (I T 11) (I T 12)∧I T 46=rg g (I T 11) (I T 12) (I T 13) ((L T 14)))(h64:(B T 64)=false)(h39:(B T 35)=true→B T 39=true)(hk:(B T 65)=true→AT g=0∧I T 66=sE g∧(0≤I T 44∧I T 44 < I T 66)∧I T 66≤16777216∧Cj (freeL g (I T 13) ((L T 14))) (I T 44) (I T 66) (I T 73)∧(0≤I T 73∧I T 73≤I T 66)∧Bx (I T 13)=true∧((L T 14)).all Ax=true)(inv0:0≤I T 74∧I T 74≤((L T 15)).length)(np0:¬B T 109=true)(g9:Ln)(z9:g9=Ln.mk (S T 0) (I T 1) (I T 2) (I T 3) (L T 4) (I T 5) (I T 6) (I T 7) (I T 8) (I T 9) (L T 10))(g10:Ln)(z10:g10=Ln.mk (S T 0) (I T 1) (I T 2) (I T 3) (L T 4) (I T 5) (I T 6) (I T 7) (I T 8) (I T 9) (L T 10))(A0:AJ T sM)(B0:AJ T rm)(A1:AJ T sT):
  ((B T 118)=(true))∧
  (B T 65=true→¬I T 66=0)∧
  (B T 65=true→¬I T 66=0)∧
  (B T 65=true→AT g1=0)∧
  (B T 61=true→AH (I T 27) (I T 28)=true)∧
  (B T 61=true→Bx (I T 13)=true)∧
  (B T 61=true→((L T 14)).all Ax=true):=by
 obtain⟨F0,A0⟩:=A0.cut
 obtain⟨F1,A0⟩:=A0.cut
 obtain⟨F2,A0⟩:=A0.cut
 have F3:=A0;clear A0
 obtain⟨F4,B0⟩:=B0.cut
 obtain⟨F5,B0⟩:=B0.cut
 have F6:=B0;clear B0
 have F7:=A1;clear A1
 have hgA:g9=g∧g10=g:=by
  exact⟨by rw[z9,hg],by rw[z10,hg]⟩
 have kf:(B T 83)=true→((B T 65)=true∧I T 74 < ((L T 15)).length)∧(0≤I T 74→((I T 90)=((I T 44)+I T 88) % (I T 66)∧0≤I T 90∧I T 90 < I T 66)∧((I T 101)=((I T 44) - (I T 88)+I T 66) % (I T 66)∧0≤I T 101∧I T 101 < I T 66)∧((B T 93)=false∧B T 106=false)∧AH (I T 91) (I T 92)=true∧AH (I T 102) (I T 103)=true):=by
  obtain⟨e16,-,e18,e19,e20,-,e22,e23,e24,-,e26,e27,e28,e29,e30,e31,-⟩:=F0
  obtain⟨-,e33,e34,-,-,-,-,-,e40,e41,e42,e43,e44,e45,e46,e47,-⟩:=F1
  obtain⟨e48,-,e50,e51,-,e53,e54,-,e56,e57,-,e59,e60,-,e62,e63,-⟩:=F2
  obtain⟨-,e65,e66,e67,e68,e69,e70,e71,e72,e73,-⟩:=F3
  obtain⟨e75,e76,-,e78,e79,-,e81,e82,e83,-,e85,e86,e87,e88,e89,e90,-⟩:=F4
  obtain⟨e91,e92,e93,-,-,-,e97,-,e99,-,e101,e102,e103,-,-,e106,-⟩:=F5
  replace e16:B T 16=(Ld g1):=by rw[←show gAt 0 (rX.map (Rf.eval T))=g1 from z1.symm];exact e16
  replace e22:I T 22=(AT g1):=by rw[←show gAt 0 (rX.map (Rf.eval T))=g1 from z1.symm];exact e22
  replace e27:I T 27=(GC g2 (I T 11) (I T 12) (I T 13) (L T 14)):=by rw[←show gAt 0 (rV.map (Rf.eval T))=g2 from z2.symm];exact e27
  replace e28:I T 28=(GJ g2 (I T 11) (I T 12) (I T 13) (L T 14)):=by rw[←show gAt 0 (rV.map (Rf.eval T))=g2 from z2.symm];exact e28
  replace e29:I T 29=(C7 g2 (I T 11) (I T 12) (I T 13) (L T 14)):=by rw[←show gAt 0 (rV.map (Rf.eval T))=g2 from z2.symm];exact e29
  replace e30:I T 30=(mJ g3 (I T 11) (I T 12)):=by rw[←show gAt 0 (rW.map (Rf.eval T))=g3 from z3.symm];exact e30
  replace e31:I T 31=(mN g3 (I T 11) (I T 12)):=by rw[←show gAt 0 (rW.map (Rf.eval T))=g3 from z3.symm];exact e31
  replace e33:I T 33=(A6 g3 (I T 11) (I T 12)):=by rw[←show gAt 0 (rW.map (Rf.eval T))=g3 from z3.symm];exact e33
  replace e41:I T 41=(GC g4 (I T 11) (I T 12) (I T 13) ([]:List (List U))):=by rw[←show gAt 0 (rY.map (Rf.eval T))=g4 from z4.symm];exact e41
  replace e42:I T 42=(GJ g4 (I T 11) (I T 12) (I T 13) ([]:List (List U))):=by rw[←show gAt 0 (rY.map (Rf.eval T))=g4 from z4.symm];exact e42
  replace e43:I T 43=(C7 g4 (I T 11) (I T 12) (I T 13) ([]:List (List U))):=by rw[←show gAt 0 (rY.map (Rf.eval T))=g4 from z4.symm];exact e43
  replace e44:I T 44=(lz g5 (I T 30) (I T 31)):=by rw[←show gAt 0 (rd.map (Rf.eval T))=g5 from z5.symm];exact e44
  replace e45:I T 45=(lw g5 (I T 30) (I T 31)):=by rw[←show gAt 0 (rd.map (Rf.eval T))=g5 from z5.symm];exact e45
  replace e46:I T 46=(lz g6 (I T 27) (I T 28)):=by rw[←show gAt 0 (re.map (Rf.eval T))=g6 from z6.symm];exact e46
  replace e47:I T 47=(lw g6 (I T 27) (I T 28)):=by rw[←show gAt 0 (re.map (Rf.eval T))=g6 from z6.symm];exact e47
  replace e62:B T 62=(Ba (I T 27) (I T 28) (I T 13) (L T 14)):=e62
  replace e66:I T 66=(2*(((g1).wide - 2*(g1).yard)+((g1).long - 2*(g1).yard))):=by rw[←show gAt 0 (rX.map (Rf.eval T))=g1 from z1.symm];exact e66
  replace e91:I T 91=(AY (g9).yard ((g9).wide - 2*(g9).yard) ((g9).long - 2*(g9).yard) (I T 90)):=by rw[←show gAt 0 (rZ.map (Rf.eval T))=g9 from z9.symm];exact e91
  replace e92:I T 92=(AX (g9).yard ((g9).wide - 2*(g9).yard) ((g9).long - 2*(g9).yard) (I T 90)):=by rw[←show gAt 0 (rZ.map (Rf.eval T))=g9 from z9.symm];exact e92
  replace e93:B T 93=(Ba (I T 91) (I T 92) (I T 13) (L T 14)):=e93
  replace e102:I T 102=(AY (g10).yard ((g10).wide - 2*(g10).yard) ((g10).long - 2*(g10).yard) (I T 101)):=by rw[←show gAt 0 (rc.map (Rf.eval T))=g10 from z10.symm];exact e102
  replace e103:I T 103=(AX (g10).yard ((g10).wide - 2*(g10).yard) ((g10).long - 2*(g10).yard) (I T 101)):=by rw[←show gAt 0 (rc.map (Rf.eval T))=g10 from z10.symm];exact e103
  replace e106:B T 106=(Ba (I T 102) (I T 103) (I T 13) (L T 14)):=e106
  simp only[AE,AF,zN,zR,Bb,and_true,AR,w2P,zL] at*
  intro h
  have h1:=e83.1 h
  have h2:=e82.1 h1.2
  have h3:=e79.1 h2.1
  have h4:=e76.1 h3.1
  rw[e75] at h4
  have h5:=e81.1 h2.2
  obtain⟨c,m,sb,mb,hn,ab,hr,hb⟩:=hk h1.1
  refine⟨⟨h1.1,h4⟩,fun v1=>?_⟩
  have hp:=hc15_0 (I T 74).toNat (by omega)
  rw[←e86] at hp
  have x85:=e85 (by omega) (by omega)
  have y1:=L9 (a:=I T 85) (b:=I T 86) (A:=16777216) (B:=65535) (by omega) (by omega)
  have y2:=Int.mul_nonneg (show 0≤(I T 85) by omega) hp.1
  have x87:=e87 (by omega) (by omega)
  have x88:(I T 88)=(I T 87) / 65535:=by rw[e88];first|exact ox (by omega) (by omega) (by omega)|exact if_pos (by omega)
  have y3:(I T 87)≤I T 85*65535:=by rw[x87];exact Int.mul_le_mul_of_nonneg_left hp.2 (by omega)
  have y4:0≤I T 88∧I T 88≤I T 85:=by omega
  have x89:=e89 (by omega) (by omega)
  have x90:(I T 90)=((I T 44)+I T 88) % (I T 66):=by rw[e90,if_pos (by omega),x89]
  have x97:=e97 (by omega) (by omega)
  have x99:=e99 (by omega) (by omega)
  rw[x97] at x99
  have x101:(I T 101)=((I T 44) - (I T 88)+I T 66) % (I T 66):=by rw[e101,if_pos (by omega),x99]
  have z1:=Int.emod_nonneg ((I T 44)+I T 88) (show (I T 66)≠0 by omega)
  have z2:=Int.emod_lt_of_pos ((I T 44)+I T 88) (show 0 < (I T 66) by omega)
  have z3:=Int.emod_nonneg ((I T 44) - (I T 88)+I T 66) (show (I T 66)≠0 by omega)
  have z4:=Int.emod_lt_of_pos ((I T 44) - (I T 88)+I T 66) (show 0 < (I T 66) by omega)
  rw[←x90] at z1 z2
  rw[←x101] at z3 z4
  obtain⟨dd,d7,d8,-⟩:=CP c
  have mm:(I T 66)=2*((g.wide - 2*g.yard)+(g.long - 2*g.yard)):=m
  have a1:=Mr dd z1 (by omega)
  have a2:=Mr dd z3 (by omega)
  rw[hgA.1] at e91 e92
  rw[hgA.2] at e102 e103
  have n1:=hn (I T 88).toNat (by omega)
  rw[show (((I T 88).toNat:Nat):Int)=(I T 88) by omega,←x90,←x101] at n1
  have f1:(B T 93)=false:=by
   rw[e93,e91,e92]
   exact n1.1
  have f2:(B T 106)=false:=by
   rw[e106,e102,e103]
   exact n1.2
  rw[←e91,←e92] at a1
  rw[←e102,←e103] at a2
  have dd0:=dd.1.1
  exact⟨⟨x90,z1,z2⟩,⟨x101,z3,z4⟩,⟨f1,f2⟩,Av.2 (by omega),Av.2 (by omega)⟩
 have h108:(B T 108)=false:=by
  obtain⟨e16,-,e18,e19,e20,-,e22,e23,e24,-,e26,e27,e28,e29,e30,e31,-⟩:=F0
  obtain⟨-,e33,e34,-,-,-,-,-,e40,e41,e42,e43,e44,e45,e46,e47,-⟩:=F1
  obtain⟨e48,-,e50,e51,-,e53,e54,-,e56,e57,-,e59,e60,-,e62,e63,-⟩:=F2
  obtain⟨-,e65,e66,e67,e68,e69,e70,e71,e72,e73,-⟩:=F3
  obtain⟨e75,e76,-,e78,e79,-,e81,e82,e83,-,e85,e86,e87,e88,e89,e90,-⟩:=F4
  obtain⟨e91,e92,e93,-,-,-,e97,-,e99,-,e101,e102,e103,-,-,e106,-⟩:=F5
  obtain⟨e107,e108,-⟩:=F6
  replace e16:B T 16=(Ld g1):=by rw[←show gAt 0 (rX.map (Rf.eval T))=g1 from z1.symm];exact e16
  replace e22:I T 22=(AT g1):=by rw[←show gAt 0 (rX.map (Rf.eval T))=g1 from z1.symm];exact e22
  replace e27:I T 27=(GC g2 (I T 11) (I T 12) (I T 13) (L T 14)):=by rw[←show gAt 0 (rV.map (Rf.eval T))=g2 from z2.symm];exact e27
  replace e28:I T 28=(GJ g2 (I T 11) (I T 12) (I T 13) (L T 14)):=by rw[←show gAt 0 (rV.map (Rf.eval T))=g2 from z2.symm];exact e28
  replace e29:I T 29=(C7 g2 (I T 11) (I T 12) (I T 13) (L T 14)):=by rw[←show gAt 0 (rV.map (Rf.eval T))=g2 from z2.symm];exact e29
  replace e30:I T 30=(mJ g3 (I T 11) (I T 12)):=by rw[←show gAt 0 (rW.map (Rf.eval T))=g3 from z3.symm];exact e30
  replace e31:I T 31=(mN g3 (I T 11) (I T 12)):=by rw[←show gAt 0 (rW.map (Rf.eval T))=g3 from z3.symm];exact e31
  replace e33:I T 33=(A6 g3 (I T 11) (I T 12)):=by rw[←show gAt 0 (rW.map (Rf.eval T))=g3 from z3.symm];exact e33
  replace e41:I T 41=(GC g4 (I T 11) (I T 12) (I T 13) ([]:List (List U))):=by rw[←show gAt 0 (rY.map (Rf.eval T))=g4 from z4.symm];exact e41
  replace e42:I T 42=(GJ g4 (I T 11) (I T 12) (I T 13) ([]:List (List U))):=by rw[←show gAt 0 (rY.map (Rf.eval T))=g4 from z4.symm];exact e42
  replace e43:I T 43=(C7 g4 (I T 11) (I T 12) (I T 13) ([]:List (List U))):=by rw[←show gAt 0 (rY.map (Rf.eval T))=g4 from z4.symm];exact e43
  replace e44:I T 44=(lz g5 (I T 30) (I T 31)):=by rw[←show gAt 0 (rd.map (Rf.eval T))=g5 from z5.symm];exact e44
  replace e45:I T 45=(lw g5 (I T 30) (I T 31)):=by rw[←show gAt 0 (rd.map (Rf.eval T))=g5 from z5.symm];exact e45
  replace e46:I T 46=(lz g6 (I T 27) (I T 28)):=by rw[←show gAt 0 (re.map (Rf.eval T))=g6 from z6.symm];exact e46
  replace e47:I T 47=(lw g6 (I T 27) (I T 28)):=by rw[←show gAt 0 (re.map (Rf.eval T))=g6 from z6.symm];exact e47
  replace e62:B T 62=(Ba (I T 27) (I T 28) (I T 13) (L T 14)):=e62
  replace e66:I T 66=(2*(((g1).wide - 2*(g1).yard)+((g1).long - 2*(g1).yard))):=by rw[←show gAt 0 (rX.map (Rf.eval T))=g1 from z1.symm];exact e66
  replace e91:I T 91=(AY (g9).yard ((g9).wide - 2*(g9).yard) ((g9).long - 2*(g9).yard) (I T 90)):=by rw[←show gAt 0 (rZ.map (Rf.eval T))=g9 from z9.symm];exact e91
  replace e92:I T 92=(AX (g9).yard ((g9).wide - 2*(g9).yard) ((g9).long - 2*(g9).yard) (I T 90)):=by rw[←show gAt 0 (rZ.map (Rf.eval T))=g9 from z9.symm];exact e92
  replace e93:B T 93=(Ba (I T 91) (I T 92) (I T 13) (L T 14)):=e93
  replace e102:I T 102=(AY (g10).yard ((g10).wide - 2*(g10).yard) ((g10).long - 2*(g10).yard) (I T 101)):=by rw[←show gAt 0 (rc.map (Rf.eval T))=g10 from z10.symm];exact e102
  replace e103:I T 103=(AX (g10).yard ((g10).wide - 2*(g10).yard) ((g10).long - 2*(g10).yard) (I T 101)):=by rw[←show gAt 0 (rc.map (Rf.eval T))=g10 from z10.symm];exact e103
  replace e106:B T 106=(Ba (I T 102) (I T 103) (I T 13) (L T 14)):=e106
  simp only[AE,AF,zN,zR,Bb,and_true,AR,w2P,zL] at*
  refine Bool.eq_false_iff.2 fun h=>?_
  have h1:=e108.1 h
  obtain⟨v1,v2⟩:=inv0
  obtain⟨⟨k0,k1⟩,k2⟩:=kf h1.1
  obtain⟨-,-,⟨f1,f2⟩,-⟩:=k2 v1
  rcases e107.1 h1.2 with k|k
  ·rw[f1] at k;exact Bool.false_ne_true k
  ·rw[f2] at k;exact Bool.false_ne_true k
 refine⟨?_,?_,?_,?_,?_,?_,?_⟩
 ·obtain⟨e16,-,e18,e19,e20,-,e22,e23,e24,e25,e26,e27,e28,e29,e30,e31,-⟩:=F0
  obtain⟨-,e33,e34,e35,e36,-,e38,e39,e40,e41,e42,e43,e44,e45,e46,e47,-⟩:=F1
  obtain⟨e48,-,e50,e51,-,e53,e54,-,e56,e57,-,e59,e60,-,e62,e63,-⟩:=F2
  obtain⟨e64,e65,e66,e67,e68,e69,e70,e71,e72,e73,-⟩:=F3
  obtain⟨e75,e76,-,e78,e79,-,e81,e82,e83,-,e85,e86,e87,e88,e89,e90,-⟩:=F4
  obtain⟨e91,e92,e93,-,-,-,e97,-,e99,-,e101,e102,e103,-,-,e106,-⟩:=F5
  obtain⟨e107,e108,e109,-⟩:=F6
  obtain⟨e111,e112,-,e114,-,e116,-,e118,-⟩:=F7
  replace e16:B T 16=(Ld g1):=by rw[←show gAt 0 (rX.map (Rf.eval T))=g1 from z1.symm];exact e16
  replace e22:I T 22=(AT g1):=by rw[←show gAt 0 (rX.map (Rf.eval T))=g1 from z1.symm];exact e22
  replace e25:B T 25=(true):=e25
  replace e27:I T 27=(GC g2 (I T 11) (I T 12) (I T 13) (L T 14)):=by rw[←show gAt 0 (rV.map (Rf.eval T))=g2 from z2.symm];exact e27
  replace e28:I T 28=(GJ g2 (I T 11) (I T 12) (I T 13) (L T 14)):=by rw[←show gAt 0 (rV.map (Rf.eval T))=g2 from z2.symm];exact e28
  replace e29:I T 29=(C7 g2 (I T 11) (I T 12) (I T 13) (L T 14)):=by rw[←show gAt 0 (rV.map (Rf.eval T))=g2 from z2.symm];exact e29
  replace e30:I T 30=(mJ g3 (I T 11) (I T 12)):=by rw[←show gAt 0 (rW.map (Rf.eval T))=g3 from z3.symm];exact e30
  replace e31:I T 31=(mN g3 (I T 11) (I T 12)):=by rw[←show gAt 0 (rW.map (Rf.eval T))=g3 from z3.symm];exact e31
  replace e33:I T 33=(A6 g3 (I T 11) (I T 12)):=by rw[←show gAt 0 (rW.map (Rf.eval T))=g3 from z3.symm];exact e33
  replace e38:B T 38=(true):=e38
  replace e41:I T 41=(GC g4 (I T 11) (I T 12) (I T 13) ([]:List (List U))):=by rw[←show gAt 0 (rY.map (Rf.eval T))=g4 from z4.symm];exact e41
  replace e42:I T 42=(GJ g4 (I T 11) (I T 12) (I T 13) ([]:List (List U))):=by rw[←show gAt 0 (rY.map (Rf.eval T))=g4 from z4.symm];exact e42
  replace e43:I T 43=(C7 g4 (I T 11) (I T 12) (I T 13) ([]:List (List U))):=by rw[←show gAt 0 (rY.map (Rf.eval T))=g4 from z4.symm];exact e43
  replace e44:I T 44=(lz g5 (I T 30) (I T 31)):=by rw[←show gAt 0 (rd.map (Rf.eval T))=g5 from z5.symm];exact e44
  replace e45:I T 45=(lw g5 (I T 30) (I T 31)):=by rw[←show gAt 0 (rd.map (Rf.eval T))=g5 from z5.symm];exact e45
  replace e46:I T 46=(lz g6 (I T 27) (I T 28)):=by rw[←show gAt 0 (re.map (Rf.eval T))=g6 from z6.symm];exact e46
  replace e47:I T 47=(lw g6 (I T 27) (I T 28)):=by rw[←show gAt 0 (re.map (Rf.eval T))=g6 from z6.symm];exact e47
  replace e62:B T 62=(Ba (I T 27) (I T 28) (I T 13) (L T 14)):=e62
  replace e66:I T 66=(2*(((g1).wide - 2*(g1).yard)+((g1).long - 2*(g1).yard))):=by rw[←show gAt 0 (rX.map (Rf.eval T))=g1 from z1.symm];exact e66
  replace e91:I T 91=(AY (g9).yard ((g9).wide - 2*(g9).yard) ((g9).long - 2*(g9).yard) (I T 90)):=by rw[←show gAt 0 (rZ.map (Rf.eval T))=g9 from z9.symm];exact e91
  replace e92:I T 92=(AX (g9).yard ((g9).wide - 2*(g9).yard) ((g9).long - 2*(g9).yard) (I T 90)):=by rw[←show gAt 0 (rZ.map (Rf.eval T))=g9 from z9.symm];exact e92
  replace e93:B T 93=(Ba (I T 91) (I T 92) (I T 13) (L T 14)):=e93
  replace e102:I T 102=(AY (g10).yard ((g10).wide - 2*(g10).yard) ((g10).long - 2*(g10).yard) (I T 101)):=by rw[←show gAt 0 (rc.map (Rf.eval T))=g10 from z10.symm];exact e102
  replace e103:I T 103=(AX (g10).yard ((g10).wide - 2*(g10).yard) ((g10).long - 2*(g10).yard) (I T 101)):=by rw[←show gAt 0 (rc.map (Rf.eval T))=g10 from z10.symm];exact e103
  replace e106:B T 106=(Ba (I T 102) (I T 103) (I T 13) (L T 14)):=e106
  replace e111:B T 111=(true):=e111
  simp only[AE,AF,zN,zC,zR,Bb,and_true,AR,w2P,zL] at*
  rw[e118]
  have h25:=e25
  have h111:=e111
  clear kf hk hp hgA hg1 h26 hc15_0 inv0
  grind
 ·obtain⟨e16,-,e18,e19,e20,-,e22,e23,e24,-,e26,e27,e28,e29,e30,e31,-⟩:=F0
  obtain⟨-,e33,e34,-,-,-,-,-,e40,e41,e42,e43,-,e45,-,e47,-⟩:=F1
  obtain⟨e48,-,e50,e51,-,e53,e54,-,e56,e57,-,e59,e60,-,e62,e63,-⟩:=F2
  obtain⟨-,e65,e66,-⟩:=F3
  replace e16:B T 16=(Ld g1):=by rw[←show gAt 0 (rX.map (Rf.eval T))=g1 from z1.symm];exact e16
  replace e22:I T 22=(AT g1):=by rw[←show gAt 0 (rX.map (Rf.eval T))=g1 from z1.symm];exact e22
  replace e27:I T 27=(GC g2 (I T 11) (I T 12) (I T 13) (L T 14)):=by rw[←show gAt 0 (rV.map (Rf.eval T))=g2 from z2.symm];exact e27
  replace e28:I T 28=(GJ g2 (I T 11) (I T 12) (I T 13) (L T 14)):=by rw[←show gAt 0 (rV.map (Rf.eval T))=g2 from z2.symm];exact e28
  replace e29:I T 29=(C7 g2 (I T 11) (I T 12) (I T 13) (L T 14)):=by rw[←show gAt 0 (rV.map (Rf.eval T))=g2 from z2.symm];exact e29
  replace e30:I T 30=(mJ g3 (I T 11) (I T 12)):=by rw[←show gAt 0 (rW.map (Rf.eval T))=g3 from z3.symm];exact e30
  replace e31:I T 31=(mN g3 (I T 11) (I T 12)):=by rw[←show gAt 0 (rW.map (Rf.eval T))=g3 from z3.symm];exact e31
  replace e33:I T 33=(A6 g3 (I T 11) (I T 12)):=by rw[←show gAt 0 (rW.map (Rf.eval T))=g3 from z3.symm];exact e33
  replace e41:I T 41=(GC g4 (I T 11) (I T 12) (I T 13) ([]:List (List U))):=by rw[←show gAt 0 (rY.map (Rf.eval T))=g4 from z4.symm];exact e41
  replace e42:I T 42=(GJ g4 (I T 11) (I T 12) (I T 13) ([]:List (List U))):=by rw[←show gAt 0 (rY.map (Rf.eval T))=g4 from z4.symm];exact e42
  replace e43:I T 43=(C7 g4 (I T 11) (I T 12) (I T 13) ([]:List (List U))):=by rw[←show gAt 0 (rY.map (Rf.eval T))=g4 from z4.symm];exact e43
  replace e45:I T 45=(lw g5 (I T 30) (I T 31)):=by rw[←show gAt 0 (rd.map (Rf.eval T))=g5 from z5.symm];exact e45
  replace e47:I T 47=(lw g6 (I T 27) (I T 28)):=by rw[←show gAt 0 (re.map (Rf.eval T))=g6 from z6.symm];exact e47
  replace e62:B T 62=(Ba (I T 27) (I T 28) (I T 13) (L T 14)):=e62
  replace e66:I T 66=(2*(((g1).wide - 2*(g1).yard)+((g1).long - 2*(g1).yard))):=by rw[←show gAt 0 (rX.map (Rf.eval T))=g1 from z1.symm];exact e66
  simp only[AE,AF,zN,zR,Bb,and_true,zL] at*
  intro h
  obtain⟨c,m,sb,mb,hn,ab,hr,hb⟩:=hk h
  omega
 ·obtain⟨e16,-,e18,e19,e20,-,e22,e23,e24,-,e26,e27,e28,e29,e30,e31,-⟩:=F0
  obtain⟨-,e33,e34,-,-,-,-,-,e40,e41,e42,e43,-,e45,-,e47,-⟩:=F1
  obtain⟨e48,-,e50,e51,-,e53,e54,-,e56,e57,-,e59,e60,-,e62,e63,-⟩:=F2
  obtain⟨-,e65,e66,-⟩:=F3
  replace e16:B T 16=(Ld g1):=by rw[←show gAt 0 (rX.map (Rf.eval T))=g1 from z1.symm];exact e16
  replace e22:I T 22=(AT g1):=by rw[←show gAt 0 (rX.map (Rf.eval T))=g1 from z1.symm];exact e22
  replace e27:I T 27=(GC g2 (I T 11) (I T 12) (I T 13) (L T 14)):=by rw[←show gAt 0 (rV.map (Rf.eval T))=g2 from z2.symm];exact e27
  replace e28:I T 28=(GJ g2 (I T 11) (I T 12) (I T 13) (L T 14)):=by rw[←show gAt 0 (rV.map (Rf.eval T))=g2 from z2.symm];exact e28
  replace e29:I T 29=(C7 g2 (I T 11) (I T 12) (I T 13) (L T 14)):=by rw[←show gAt 0 (rV.map (Rf.eval T))=g2 from z2.symm];exact e29
  replace e30:I T 30=(mJ g3 (I T 11) (I T 12)):=by rw[←show gAt 0 (rW.map (Rf.eval T))=g3 from z3.symm];exact e30
  replace e31:I T 31=(mN g3 (I T 11) (I T 12)):=by rw[←show gAt 0 (rW.map (Rf.eval T))=g3 from z3.symm];exact e31
  replace e33:I T 33=(A6 g3 (I T 11) (I T 12)):=by rw[←show gAt 0 (rW.map (Rf.eval T))=g3 from z3.symm];exact e33
  replace e41:I T 41=(GC g4 (I T 11) (I T 12) (I T 13) ([]:List (List U))):=by rw[←show gAt 0 (rY.map (Rf.eval T))=g4 from z4.symm];exact e41
  replace e42:I T 42=(GJ g4 (I T 11) (I T 12) (I T 13) ([]:List (List U))):=by rw[←show gAt 0 (rY.map (Rf.eval T))=g4 from z4.symm];exact e42
  replace e43:I T 43=(C7 g4 (I T 11) (I T 12) (I T 13) ([]:List (List U))):=by rw[←show gAt 0 (rY.map (Rf.eval T))=g4 from z4.symm];exact e43
  replace e45:I T 45=(lw g5 (I T 30) (I T 31)):=by rw[←show gAt 0 (rd.map (Rf.eval T))=g5 from z5.symm];exact e45
  replace e47:I T 47=(lw g6 (I T 27) (I T 28)):=by rw[←show gAt 0 (re.map (Rf.eval T))=g6 from z6.symm];exact e47
  replace e62:B T 62=(Ba (I T 27) (I T 28) (I T 13) (L T 14)):=e62
  replace e66:I T 66=(2*(((g1).wide - 2*(g1).yard)+((g1).long - 2*(g1).yard))):=by rw[←show gAt 0 (rX.map (Rf.eval T))=g1 from z1.symm];exact e66
  simp only[AE,AF,zN,zR,Bb,and_true,zL] at*
  intro h
  obtain⟨c,m,sb,mb,hn,ab,hr,hb⟩:=hk h
  omega
 ·obtain⟨e16,-,e18,e19,e20,-,e22,e23,e24,-,e26,e27,e28,e29,e30,e31,-⟩:=F0
  obtain⟨-,e33,e34,-,-,-,-,-,e40,e41,e42,e43,-,e45,-,e47,-⟩:=F1
  obtain⟨e48,-,e50,e51,-,e53,e54,-,e56,e57,-,e59,e60,-,e62,e63,-⟩:=F2
  obtain⟨-,e65,-⟩:=F3
  replace e16:B T 16=(Ld g1):=by rw[←show gAt 0 (rX.map (Rf.eval T))=g1 from z1.symm];exact e16
  replace e22:I T 22=(AT g1):=by rw[←show gAt 0 (rX.map (Rf.eval T))=g1 from z1.symm];exact e22
  replace e27:I T 27=(GC g2 (I T 11) (I T 12) (I T 13) (L T 14)):=by rw[←show gAt 0 (rV.map (Rf.eval T))=g2 from z2.symm];exact e27
  replace e28:I T 28=(GJ g2 (I T 11) (I T 12) (I T 13) (L T 14)):=by rw[←show gAt 0 (rV.map (Rf.eval T))=g2 from z2.symm];exact e28
  replace e29:I T 29=(C7 g2 (I T 11) (I T 12) (I T 13) (L T 14)):=by rw[←show gAt 0 (rV.map (Rf.eval T))=g2 from z2.symm];exact e29
  replace e30:I T 30=(mJ g3 (I T 11) (I T 12)):=by rw[←show gAt 0 (rW.map (Rf.eval T))=g3 from z3.symm];exact e30
  replace e31:I T 31=(mN g3 (I T 11) (I T 12)):=by rw[←show gAt 0 (rW.map (Rf.eval T))=g3 from z3.symm];exact e31
  replace e33:I T 33=(A6 g3 (I T 11) (I T 12)):=by rw[←show gAt 0 (rW.map (Rf.eval T))=g3 from z3.symm];exact e33
  replace e41:I T 41=(GC g4 (I T 11) (I T 12) (I T 13) ([]:List (List U))):=by rw[←show gAt 0 (rY.map (Rf.eval T))=g4 from z4.symm];exact e41
  replace e42:I T 42=(GJ g4 (I T 11) (I T 12) (I T 13) ([]:List (List U))):=by rw[←show gAt 0 (rY.map (Rf.eval T))=g4 from z4.symm];exact e42
  replace e43:I T 43=(C7 g4 (I T 11) (I T 12) (I T 13) ([]:List (List U))):=by rw[←show gAt 0 (rY.map (Rf.eval T))=g4 from z4.symm];exact e43
  replace e45:I T 45=(lw g5 (I T 30) (I T 31)):=by rw[←show gAt 0 (rd.map (Rf.eval T))=g5 from z5.symm];exact e45
  replace e47:I T 47=(lw g6 (I T 27) (I T 28)):=by rw[←show gAt 0 (re.map (Rf.eval T))=g6 from z6.symm];exact e47
  replace e62:B T 62=(Ba (I T 27) (I T 28) (I T 13) (L T 14)):=e62
  simp only[AE,AF,zN,zR,Bb,and_true,zL] at*
  intro h
  obtain⟨c,m,sb,mb,hn,ab,hr,hb⟩:=hk h
  rw[hg1.1];exact c
 ·obtain⟨e16,-,e18,e19,e20,-,e22,e23,e24,-,e26,e27,e28,e29,e30,e31,-⟩:=F0
  obtain⟨-,e33,e34,-,-,-,-,-,e40,e41,e42,e43,-,e45,-,e47,-⟩:=F1
  obtain⟨e48,-,e50,e51,-,e53,e54,-,e56,e57,-,e59,e60,e61,-⟩:=F2
  replace e16:B T 16=(Ld g1):=by rw[←show gAt 0 (rX.map (Rf.eval T))=g1 from z1.symm];exact e16
  replace e22:I T 22=(AT g1):=by rw[←show gAt 0 (rX.map (Rf.eval T))=g1 from z1.symm];exact e22
  replace e27:I T 27=(GC g2 (I T 11) (I T 12) (I T 13) (L T 14)):=by rw[←show gAt 0 (rV.map (Rf.eval T))=g2 from z2.symm];exact e27
  replace e28:I T 28=(GJ g2 (I T 11) (I T 12) (I T 13) (L T 14)):=by rw[←show gAt 0 (rV.map (Rf.eval T))=g2 from z2.symm];exact e28
  replace e29:I T 29=(C7 g2 (I T 11) (I T 12) (I T 13) (L T 14)):=by rw[←show gAt 0 (rV.map (Rf.eval T))=g2 from z2.symm];exact e29
  replace e30:I T 30=(mJ g3 (I T 11) (I T 12)):=by rw[←show gAt 0 (rW.map (Rf.eval T))=g3 from z3.symm];exact e30
  replace e31:I T 31=(mN g3 (I T 11) (I T 12)):=by rw[←show gAt 0 (rW.map (Rf.eval T))=g3 from z3.symm];exact e31
  replace e33:I T 33=(A6 g3 (I T 11) (I T 12)):=by rw[←show gAt 0 (rW.map (Rf.eval T))=g3 from z3.symm];exact e33
  replace e41:I T 41=(GC g4 (I T 11) (I T 12) (I T 13) ([]:List (List U))):=by rw[←show gAt 0 (rY.map (Rf.eval T))=g4 from z4.symm];exact e41
  replace e42:I T 42=(GJ g4 (I T 11) (I T 12) (I T 13) ([]:List (List U))):=by rw[←show gAt 0 (rY.map (Rf.eval T))=g4 from z4.symm];exact e42
  replace e43:I T 43=(C7 g4 (I T 11) (I T 12) (I T 13) ([]:List (List U))):=by rw[←show gAt 0 (rY.map (Rf.eval T))=g4 from z4.symm];exact e43
  replace e45:I T 45=(lw g5 (I T 30) (I T 31)):=by rw[←show gAt 0 (rd.map (Rf.eval T))=g5 from z5.symm];exact e45
  replace e47:I T 47=(lw g6 (I T 27) (I T 28)):=by rw[←show gAt 0 (re.map (Rf.eval T))=g6 from z6.symm];exact e47
  simp only[AE,AF,zN,zR,Bb,and_true,zL] at*
  intro h
  obtain⟨p1,p2,p3,p4,p5⟩:=hp (e61.1 h).1
  obtain⟨o1,o2,o3,o4⟩:=ru p1
  obtain⟨-,k2,-⟩:=hg1
  rw[k2] at e27 e28
  rw[e27,e28]
  have:=(sy p1).1
  exact (lX (rU this).1).2
 ·obtain⟨e16,-,e18,e19,e20,-,e22,e23,e24,-,e26,e27,e28,e29,e30,e31,-⟩:=F0
  obtain⟨-,e33,e34,-,-,-,-,-,e40,e41,e42,e43,-,e45,-,e47,-⟩:=F1
  obtain⟨e48,-,e50,e51,-,e53,e54,-,e56,e57,-,e59,e60,e61,-⟩:=F2
  replace e16:B T 16=(Ld g1):=by rw[←show gAt 0 (rX.map (Rf.eval T))=g1 from z1.symm];exact e16
  replace e22:I T 22=(AT g1):=by rw[←show gAt 0 (rX.map (Rf.eval T))=g1 from z1.symm];exact e22
  replace e27:I T 27=(GC g2 (I T 11) (I T 12) (I T 13) (L T 14)):=by rw[←show gAt 0 (rV.map (Rf.eval T))=g2 from z2.symm];exact e27
  replace e28:I T 28=(GJ g2 (I T 11) (I T 12) (I T 13) (L T 14)):=by rw[←show gAt 0 (rV.map (Rf.eval T))=g2 from z2.symm];exact e28
  replace e29:I T 29=(C7 g2 (I T 11) (I T 12) (I T 13) (L T 14)):=by rw[←show gAt 0 (rV.map (Rf.eval T))=g2 from z2.symm];exact e29
  replace e30:I T 30=(mJ g3 (I T 11) (I T 12)):=by rw[←show gAt 0 (rW.map (Rf.eval T))=g3 from z3.symm];exact e30
  replace e31:I T 31=(mN g3 (I T 11) (I T 12)):=by rw[←show gAt 0 (rW.map (Rf.eval T))=g3 from z3.symm];exact e31
  replace e33:I T 33=(A6 g3 (I T 11) (I T 12)):=by rw[←show gAt 0 (rW.map (Rf.eval T))=g3 from z3.symm];exact e33
  replace e41:I T 41=(GC g4 (I T 11) (I T 12) (I T 13) ([]:List (List U))):=by rw[←show gAt 0 (rY.map (Rf.eval T))=g4 from z4.symm];exact e41
  replace e42:I T 42=(GJ g4 (I T 11) (I T 12) (I T 13) ([]:List (List U))):=by rw[←show gAt 0 (rY.map (Rf.eval T))=g4 from z4.symm];exact e42
  replace e43:I T 43=(C7 g4 (I T 11) (I T 12) (I T 13) ([]:List (List U))):=by rw[←show gAt 0 (rY.map (Rf.eval T))=g4 from z4.symm];exact e43
  replace e45:I T 45=(lw g5 (I T 30) (I T 31)):=by rw[←show gAt 0 (rd.map (Rf.eval T))=g5 from z5.symm];exact e45
  replace e47:I T 47=(lw g6 (I T 27) (I T 28)):=by rw[←show gAt 0 (re.map (Rf.eval T))=g6 from z6.symm];exact e47
  simp only[AE,AF,zN,zR,Bb,and_true,zL] at*
  intro h
  obtain⟨p1,p2,p3,p4,p5⟩:=hp (e61.1 h).1
  obtain⟨o1,o2,o3,o4⟩:=ru p1
  exact (Nh o2).1
 ·obtain⟨e16,-,e18,e19,e20,-,e22,e23,e24,-,e26,e27,e28,e29,e30,e31,-⟩:=F0
  obtain⟨-,e33,e34,-,-,-,-,-,e40,e41,e42,e43,-,e45,-,e47,-⟩:=F1
  obtain⟨e48,-,e50,e51,-,e53,e54,-,e56,e57,-,e59,e60,e61,-⟩:=F2
  replace e16:B T 16=(Ld g1):=by rw[←show gAt 0 (rX.map (Rf.eval T))=g1 from z1.symm];exact e16
  replace e22:I T 22=(AT g1):=by rw[←show gAt 0 (rX.map (Rf.eval T))=g1 from z1.symm];exact e22
  replace e27:I T 27=(GC g2 (I T 11) (I T 12) (I T 13) (L T 14)):=by rw[←show gAt 0 (rV.map (Rf.eval T))=g2 from z2.symm];exact e27
  replace e28:I T 28=(GJ g2 (I T 11) (I T 12) (I T 13) (L T 14)):=by rw[←show gAt 0 (rV.map (Rf.eval T))=g2 from z2.symm];exact e28
  replace e29:I T 29=(C7 g2 (I T 11) (I T 12) (I T 13) (L T 14)):=by rw[←show gAt 0 (rV.map (Rf.eval T))=g2 from z2.symm];exact e29
  replace e30:I T 30=(mJ g3 (I T 11) (I T 12)):=by rw[←show gAt 0 (rW.map (Rf.eval T))=g3 from z3.symm];exact e30
  replace e31:I T 31=(mN g3 (I T 11) (I T 12)):=by rw[←show gAt 0 (rW.map (Rf.eval T))=g3 from z3.symm];exact e31
  replace e33:I T 33=(A6 g3 (I T 11) (I T 12)):=by rw[←show gAt 0 (rW.map (Rf.eval T))=g3 from z3.symm];exact e33
  replace e41:I T 41=(GC g4 (I T 11) (I T 12) (I T 13) ([]:List (List U))):=by rw[←show gAt 0 (rY.map (Rf.eval T))=g4 from z4.symm];exact e41
  replace e42:I T 42=(GJ g4 (I T 11) (I T 12) (I T 13) ([]:List (List U))):=by rw[←show gAt 0 (rY.map (Rf.eval T))=g4 from z4.symm];exact e42
  replace e43:I T 43=(C7 g4 (I T 11) (I T 12) (I T 13) ([]:List (List U))):=by rw[←show gAt 0 (rY.map (Rf.eval T))=g4 from z4.symm];exact e43
  replace e45:I T 45=(lw g5 (I T 30) (I T 31)):=by rw[←show gAt 0 (rd.map (Rf.eval T))=g5 from z5.symm];exact e45
  replace e47:I T 47=(lw g6 (I T 27) (I T 28)):=by rw[←show gAt 0 (re.map (Rf.eval T))=g6 from z6.symm];exact e47
  simp only[AE,AF,zN,zR,Bb,and_true,zL] at*
  intro h
  obtain⟨p1,p2,p3,p4,p5⟩:=hp (e61.1 h).1
  obtain⟨o1,o2,o3,o4⟩:=ru p1
  exact (Nh o2).2.2
theorem tA:HI Try.prog 9 Try.f9.params.toList 0=some (sf,sQ):=by kernel_rfl
theorem tH:∀p∈([(12,J6),(13,KO),(16,C3),(14,FP),(33,nI),(34,mW),(35,sF),(36,sG),(37,Kf)]:List (FuncId × Ak)),Aq Try.prog p.1 p.2:=by simp only[List.forall_mem_cons];exact⟨aa,av,Yw,Xl,ph,oz,tL,s8,dn,fun _ h=>absurd h (by simp)⟩
theorem tK:∀T:Tab,AL T (BT 0 sQ)→Bnd T 0 sQ→TW 1048576 T 0 sQ→Ag T ((sM++((BJ sK [.i] sO)++(rm++(sT)))).map En.be)→Nj T s6∧B T 118=true:=by
 intro T hS hBd hBl hE
 obtain⟨hz0,-,-,-,⟨hl4,he4⟩,-,-,-,-,-,⟨hl10,he10⟩,-,-,-,⟨hl14,he14⟩,⟨hl15,he15⟩,-⟩:=hBd
 replace hz0:(S T 0).size≤140737488355328:=hz0
 replace hl4:(L T 4).length≤140737488355328:=hl4
 replace hl10:(L T 10).length≤140737488355328:=hl10
 replace hl14:(L T 14).length≤140737488355328:=hl14
 replace hl15:(L T 15).length≤140737488355328:=hl15
 have hc15_0:∀q:Nat,q < (L T 15).length→0≤AA (L T 15) q 0∧AA (L T 15) q 0≤65535:=fun q hq=>nO he15 hq rfl
 obtain⟨g,hg⟩:∃g:Ln,g=Ln.mk (S T 0) (I T 1) (I T 2) (I T 3) (L T 4) (I T 5) (I T 6) (I T 7) (I T 8) (I T 9) (L T 10):=⟨_,rfl⟩
 obtain⟨hb4,hb10,hb14,hb15,-⟩:=hBl
 replace hb4:(L T 4).length≤1048576:=hb4
 replace hb10:(L T 10).length≤1048576:=hb10
 replace hb14:(L T 14).length≤1048576:=hb14
 replace hb15:(L T 15).length≤1048576:=hb15
 rw[List.map_append,List.map_append,List.map_append] at hE
 have hA:=hE.left
 replace hE:=hE.right
 have hH:=hE.left
 replace hE:=hE.right
 have hB:=hE.left
 replace hE:=hE.right
 obtain⟨A0,hS1⟩:=Ac hS (by kernel_rfl) hA
 obtain⟨g1,z1⟩:∃g:Ln,g=Ln.mk (S T 0) (I T 1) (I T 2) (I T 3) (L T 4) (I T 5) (I T 6) (I T 7) (I T 8) (I T 9) (L T 10):=⟨_,rfl⟩
 obtain⟨g2,z2⟩:∃g:Ln,g=Ln.mk (S T 0) (I T 1) (I T 2) (I T 3) (L T 4) (I T 5) (I T 6) (I T 7) (I T 8) (I T 9) (L T 10):=⟨_,rfl⟩
 obtain⟨g3,z3⟩:∃g:Ln,g=Ln.mk (S T 0) (I T 1) (I T 2) (I T 3) (L T 4) (I T 5) (I T 6) (I T 7) (I T 8) (I T 9) (L T 10):=⟨_,rfl⟩
 obtain⟨g4,z4⟩:∃g:Ln,g=Ln.mk (S T 0) (I T 1) (I T 2) (I T 3) (L T 4) (I T 5) (I T 6) (I T 7) (I T 8) (I T 9) (L T 10):=⟨_,rfl⟩
 obtain⟨g5,z5⟩:∃g:Ln,g=Ln.mk (S T 0) (I T 1) (I T 2) (I T 3) (L T 4) (I T 5) (I T 6) (I T 7) (I T 8) (I T 9) (L T 10):=⟨_,rfl⟩
 obtain⟨g6,z6⟩:∃g:Ln,g=Ln.mk (S T 0) (I T 1) (I T 2) (I T 3) (L T 4) (I T 5) (I T 6) (I T 7) (I T 8) (I T 9) (L T 10):=⟨_,rfl⟩
 obtain⟨hg1,h26,hp,h64,h39,hk⟩:=s9 hz0 hl4 hl10 hl14 hl15 hc15_0 g hg hb4 hb10 hb14 hb15 g1 z1 g2 z2 g3 z3 g4 z4 g5 z5 g6 z6 A0
 obtain⟨ow0,hS2,inv0,np0⟩:=tG hl15 hc15_0 g hg hk hS1 hB hH
 have hF2:=(Ac (hS2.append hS1) (l:=rm) (by kernel_rfl) hB)
 obtain⟨B0,hS⟩:=hF2
 clear hA hB hH hS1 hS2
 obtain⟨g9,z9⟩:∃g:Ln,g=Ln.mk (S T 0) (I T 1) (I T 2) (I T 3) (L T 4) (I T 5) (I T 6) (I T 7) (I T 8) (I T 9) (L T 10):=⟨_,rfl⟩
 obtain⟨g10,z10⟩:∃g:Ln,g=Ln.mk (S T 0) (I T 1) (I T 2) (I T 3) (L T 4) (I T 5) (I T 6) (I T 7) (I T 8) (I T 9) (L T 10):=⟨_,rfl⟩
 obtain⟨A1,hO⟩:=Ar (tys:=[.b]) (rs:=tS) hS (by kernel_rfl) hE
 obtain⟨q0,r0,r1,r2,r3,r4,r5⟩:=tP hz0 hl4 hl10 hl14 hl15 hc15_0 g hg hb4 hb10 hb14 hb15 g1 z1 g2 z2 g3 z3 g4 z4 g5 z5 g6 z6 hg1 h26 hp h64 h39 hk inv0 np0 g9 z9 g10 z10 A0 B0 A1
 exact⟨⟨(fun _=>ow0),r0,r1,(fun hp=>by show ri _;unfold ri;rw[show gAt 0 (rX.map (Rf.eval T))=g1 from z1.symm];exact r2 hp),r3,r4,r5,trivial⟩,q0⟩
end Go.Eng
end
