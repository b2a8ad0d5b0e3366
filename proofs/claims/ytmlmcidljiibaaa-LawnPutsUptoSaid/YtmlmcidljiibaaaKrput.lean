/-
  A part of the proof: K_rputd K_rput.
-/
import Derived.Test.YtmlmcidljiibaaaE3
import Derived.Test.YtmlmcidljiibaaaE4
import Derived.Test.YtmlmcidljiibaaaKone
import Derived.Test.YtmlmcidljiibaaaKrball
import Derived.Test.YtmlmcidljiibaaaKline
import Derived.Test.YtmlmcidljiibaaaKrat
import Derived.Test.YtmlmcidljiibaaaKrfree
set_option linter.unusedVariables false
set_option linter.unusedSimpArgs false
noncomputable section
open Go Go.Eng Go.Proofs
set_option maxHeartbeats 4000000
set_option maxRecDepth 100000
namespace Go.Eng
def KZ:List U→Int:=fun us=>(GC (gAt 0 us) (aI us 11) (aI us 12) (aI us 13) (aL us 14))
def Kw:List U→Int:=fun us=>(GJ (gAt 0 us) (aI us 11) (aI us 12) (aI us 13) (aL us 14))
def LN:List U→Int:=fun us=>(C7 (gAt 0 us) (aI us 11) (aI us 12) (aI us 13) (aL us 14))
def Jz:Ak:={ sh:=[.agg [.str,k64,k64,k64,.list [k64,k64,k64,k64,.bool],k64,k64,k64,k64,k64,.list [k64,k64,k64]],.agg [k64,k64],.one (k64),.one (.list [k64,k64,k64])],blks:=[],outs:=[(.s "rput.0",Bj KZ),(.s "rput.1",Bj Kw),(.s "rput.2",Bj LN)],c:= .tup [.agg [(CR 15),(CR 16)],(CR 17)],m':=[],pre:=[] }
def AV:List Rf:=[.e 0,.e 1,.e 2,.e 3,.e 4,.e 5,.e 6,.e 7,.e 8,.e 9,.e 10,.e 11,.e 12]
def CD:List Rf:=[.e 0,.e 1,.e 2,.e 3,.e 4,.e 5,.e 6,.e 7,.e 8,.e 9,.e 10,.e 26,.e 29]
def Af:List Rf:=[.e 0,.e 1,.e 2,.e 3,.e 4,.e 5,.e 6,.e 7,.e 8,.e 9,.e 10,.e 50]
def Am:List Rf:=[.e 0,.e 1,.e 2,.e 3,.e 4,.e 5,.e 6,.e 7,.e 8,.e 9,.e 10,.e 55]
def WS:List En:=[⟨15,.outI "one.0" Jy,AV⟩,
 ⟨16,.ne,[.e 15,.c (.int 0)]⟩,
 ⟨17,.outI "one.0" Jy,AV⟩,
 ⟨18,.not,[.e 16]⟩,
 ⟨19,.outI "rball.0" HL,[.e 13,.e 14]⟩,
 ⟨20,.ne,[.e 19,.c (.int 0)]⟩,
 ⟨21,.and,[.e 18,.e 20]⟩,
 ⟨22,.outI "rball.0" HL,[.e 13,.e 14]⟩,
 ⟨23,.and,[.e 18,.n 20]⟩,
 ⟨24,.w2 .i64 .sub,[.e 1,.e 3]⟩,
 ⟨25,.o2 .min,[.e 11,.e 24]⟩,
 ⟨26,.o2 .max,[.e 3,.e 25]⟩,
 ⟨27,.w2 .i64 .sub,[.e 2,.e 3]⟩,
 ⟨28,.o2 .min,[.e 12,.e 27]⟩,
 ⟨29,.o2 .max,[.e 3,.e 28]⟩,
 ⟨30,.nes [.i,.i],[.e 26,.e 11,.e 29,.e 12]⟩]
def XC:List En:=[⟨31,.and,[.e 23,.n 30]⟩,
 ⟨32,.outI "line.0" Ib,AV⟩,
 ⟨33,.lt,[.e 32,.c (.int 0)]⟩,
 ⟨34,.and,[.n 30,.e 33]⟩,
 ⟨35,.and,[.e 23,.e 34]⟩,
 ⟨36,.and,[.e 23,.n 34]⟩,
 ⟨37,.outI "line.0" Ib,CD⟩,
 ⟨38,.w2 .i64 .mul,[.c (.int 2),.e 3]⟩,
 ⟨39,.w2 .i64 .sub,[.e 1,.e 38]⟩,
 ⟨40,.w2 .i64 .mul,[.c (.int 2),.e 3]⟩,
 ⟨41,.w2 .i64 .sub,[.e 2,.e 40]⟩,
 ⟨42,.w2 .i64 .add,[.e 39,.e 41]⟩,
 ⟨43,.w2 .i64 .mul,[.c (.int 2),.e 42]⟩]
def KW:List En:=WS++(XC)
def WZ:List En:=[⟨45,.o2 .tdiv,[.e 43,.c (.int 2)]⟩,
 ⟨46,.le,[.e 44,.e 45]⟩,
 ⟨47,.and,[.e 36,.e 46]⟩,
 ⟨48,.and,[.e 36,.n 46]⟩,
 ⟨49,.w2 .i64 .add,[.e 37,.e 44]⟩,
 ⟨50,.o2 .tmod,[.e 49,.e 43]⟩,
 ⟨51,.outI "rat.0" KG,Af⟩,
 ⟨52,.outI "rat.1" Jr,Af⟩,
 ⟨53,.w2 .i64 .sub,[.e 37,.e 44]⟩,
 ⟨54,.w2 .i64 .add,[.e 53,.e 43]⟩,
 ⟨55,.o2 .tmod,[.e 54,.e 43]⟩,
 ⟨56,.outI "rat.0" KG,Am⟩,
 ⟨57,.outI "rat.1" Jr,Am⟩,
 ⟨58,.outB "rfree.0" HU,[.e 51,.e 52,.e 13,.e 14]⟩,
 ⟨59,.and,[.e 47,.e 58]⟩,
 ⟨60,.and,[.e 47,.n 58]⟩]
def XJ:List En:=[⟨61,.outB "rfree.0" HU,[.e 56,.e 57,.e 13,.e 14]⟩,
 ⟨62,.and,[.e 60,.e 61]⟩,
 ⟨63,.and,[.e 60,.n 61]⟩,
 ⟨64,.ite .i,[.e 59,.e 51,.e 56]⟩,
 ⟨65,.ite .i,[.e 59,.e 52,.e 57]⟩,
 ⟨66,.or,[.e 59,.e 62]⟩,
 ⟨67,.w2 .i64 .add,[.e 44,.c (.int 1)]⟩]
def Fg:List En:=WZ++(XJ)
def SZ:List ObE:=[⟨some 60,.pre "rfree.p0" Fu,[.e 56,.e 57,.e 13,.e 14]⟩,⟨some 60,.pre "rfree.p1" Fl,[.e 56,.e 57,.e 13,.e 14]⟩,⟨some 60,.pre "rfree.p2" GA,[.e 56,.e 57,.e 13,.e 14]⟩,⟨some 47,.pre "rfree.p0" Fu,[.e 51,.e 52,.e 13,.e 14]⟩,⟨some 47,.pre "rfree.p1" Fl,[.e 51,.e 52,.e 13,.e 14]⟩,⟨some 47,.pre "rfree.p2" GA,[.e 51,.e 52,.e 13,.e 14]⟩,⟨some 47,.pre "rat.p0" EF,Am⟩,⟨some 47,.pre "rat.p1" EC,Am⟩,⟨some 47,.nez,[.e 43]⟩,⟨some 47,.pre "rat.p0" EF,Af⟩,⟨some 47,.pre "rat.p1" EC,Af⟩,⟨some 47,.nez,[.e 43]⟩]
def K5:Ae:=mkD 44 1 Fg 63 [.e 67] SZ [13,14,0,1,2,3,4,5,6,7,8,9,10,43,37,36]
def Nu:List Rf:=[.e 13,.e 14,.e 0,.e 1,.e 2,.e 3,.e 4,.e 5,.e 6,.e 7,.e 8,.e 9,.e 10,.e 43,.e 37,.e 36,.c (.int 0)]
def XS:List En:=[⟨68,.ite .i,[.e 66,.e 64,.c (.int 0)]⟩,
 ⟨69,.ite .i,[.e 66,.e 65,.c (.int 0)]⟩,
 ⟨70,.ite .i,[.e 66,.c (.int 0),.c (.int 15)]⟩,
 ⟨71,.or,[.e 66,.e 48]⟩,
 ⟨72,.ite .i,[.e 35,.c (.int 0),.e 68]⟩,
 ⟨73,.ite .i,[.e 35,.c (.int 0),.e 69]⟩,
 ⟨74,.ite .i,[.e 35,.c (.int 5),.e 70]⟩,
 ⟨75,.or,[.e 35,.e 71]⟩,
 ⟨76,.ite .i,[.e 21,.c (.int 0),.e 72]⟩,
 ⟨77,.ite .i,[.e 21,.c (.int 0),.e 73]⟩,
 ⟨78,.ite .i,[.e 21,.e 22,.e 74]⟩,
 ⟨79,.or,[.e 21,.e 75]⟩,
 ⟨80,.ite .i,[.e 16,.c (.int 0),.e 76]⟩,
 ⟨81,.ite .i,[.e 16,.c (.int 0),.e 77]⟩,
 ⟨82,.ite .i,[.e 16,.e 17,.e 78]⟩,
 ⟨83,.or,[.e 16,.e 79]⟩]
def Sw:List En:=XS
def dr:List ObE:=[⟨some 36,.owes K5,[.e 13,.e 14,.e 0,.e 1,.e 2,.e 3,.e 4,.e 5,.e 6,.e 7,.e 8,.e 9,.e 10,.e 43,.e 37,.e 36,.c (.int 0)]⟩,
 ⟨some 36,.pre "line.p0" DY,CD⟩,
 ⟨some 36,.pre "line.p1" Gt,CD⟩,
 ⟨some 31,.pre "line.p0" DY,AV⟩,
 ⟨some 31,.pre "line.p1" Gt,AV⟩]
def Yn:List Rf:=[.e 80,.e 81,.e 82]
theorem eC:Jz.sees Yn (Jz.run Try.prog [(60,Oi),(61,II),(63,Ig),(37,Kf),(64,FC)] Ah 3000 20 15)=some ((KW++((BJ K5 [.i] Nu)++(Fg++(Sw)))).map En.be,dr.map ObE.be,[]):=by kernel_rfl
theorem YA {T:Tab}(hz0:(S T 0).size≤140737488355328)(hl4:(L T 4).length≤140737488355328)(hl10:(L T 10).length≤140737488355328)(hl14:(L T 14).length≤140737488355328)(g:Ln)(hg:g=Ln.mk (S T 0) (I T 1) (I T 2) (I T 3) (L T 4) (I T 5) (I T 6) (I T 7) (I T 8) (I T 9) (L T 10))(g1:Ln)(z1:g1=Ln.mk (S T 0) (I T 1) (I T 2) (I T 3) (L T 4) (I T 5) (I T 6) (I T 7) (I T 8) (I T 9) (L T 10))(g2:Ln)(z2:g2=Ln.mk (S T 0) (I T 1) (I T 2) (I T 3) (L T 4) (I T 5) (I T 6) (I T 7) (I T 8) (I T 9) (L T 10))(A0:AJ T KW):
  (g1=g∧g2=g)∧((I T 15)=A6 g (I T 11) (I T 12)∧I T 17=I T 15)∧(g.wide=I T 1∧g.long=I T 2∧g.yard=I T 3)∧((B T 23)=true↔(A6 g (I T 11) (I T 12)=0∧AQ (I T 13) ((L T 14))=0))∧((B T 23)=true→BR (I T 3) (I T 39) (I T 41)∧((I T 39)=I T 1 - 2*I T 3∧I T 41=I T 2 - 2*I T 3)∧((I T 26)=Bh (I T 11) (I T 3) ((I T 1) - (I T 3))∧I T 29=Bh (I T 12) (I T 3) ((I T 2) - (I T 3)))∧I T 43=2*((I T 39)+I T 41)∧AH (I T 11) (I T 12)=true∧AT g=0∧AH (I T 26) (I T 29)=true)∧((B T 23)=true→g.yard=I T 3∧g.wide - 2*g.yard=I T 39∧g.long - 2*g.yard=I T 41∧FR g (I T 11)=I T 26∧FT g (I T 12)=I T 29)∧((B T 23)=true→((B T 34)=true↔(((I T 26)=I T 11∧I T 29=I T 12)∧AW (I T 3) (I T 39) (I T 41) (I T 11) (I T 12) < 0)))∧((B T 36)=true→BR (I T 3) (I T 39) (I T 41)∧I T 43=2*((I T 39)+I T 41)∧(0≤I T 37∧I T 37 < I T 43)∧(1≤I T 13∧I T 13≤16384)∧((L T 14)).all Ax=true∧AT g=0∧(g.yard=I T 3∧g.wide - 2*g.yard=I T 39∧g.long - 2*g.yard=I T 41)):=by
 obtain⟨F0,A0⟩:=A0.cut
 have F1:=A0;clear A0
 have hg1:g1=g∧g2=g:=by
  exact⟨by rw[z1,hg],by rw[z2,hg]⟩
 have h15:(I T 15)=A6 g (I T 11) (I T 12)∧I T 17=I T 15:=by
  obtain⟨e15,-,e17,-⟩:=F0
  replace e15:I T 15=(A6 g1 (I T 11) (I T 12)):=by rw[←show gAt 0 (AV.map (Rf.eval T))=g1 from z1.symm];exact e15
  replace e17:I T 17=(A6 g1 (I T 11) (I T 12)):=by rw[←show gAt 0 (AV.map (Rf.eval T))=g1 from z1.symm];exact e17
  exact⟨by rw[e15,hg1.1],by rw[e17,e15]⟩
 have hw:g.wide=I T 1∧g.long=I T 2∧g.yard=I T 3:=by
  rw[hg];exact⟨rfl,rfl,rfl⟩
 have h22:(B T 23)=true↔(A6 g (I T 11) (I T 12)=0∧AQ (I T 13) ((L T 14))=0):=by
  obtain⟨e15,e16,-,e18,e19,e20,-,-,e23,-⟩:=F0
  replace e15:I T 15=(A6 g1 (I T 11) (I T 12)):=by rw[←show gAt 0 (AV.map (Rf.eval T))=g1 from z1.symm];exact e15
  replace e19:I T 19=(AQ (I T 13) (L T 14)):=e19
  simp only[AE,AF,zN,zR] at*
  rw[←h15.1,←e19]
  clear hw hg1 h15 e15 e19
  grind
 have hq:(B T 23)=true→BR (I T 3) (I T 39) (I T 41)∧((I T 39)=I T 1 - 2*I T 3∧I T 41=I T 2 - 2*I T 3)∧((I T 26)=Bh (I T 11) (I T 3) ((I T 1) - (I T 3))∧I T 29=Bh (I T 12) (I T 3) ((I T 2) - (I T 3)))∧I T 43=2*((I T 39)+I T 41)∧AH (I T 11) (I T 12)=true∧AT g=0∧AH (I T 26) (I T 29)=true:=by
  obtain⟨e15,e16,-,e18,e19,e20,-,-,e23,e24,e25,e26,e27,e28,e29,-⟩:=F0
  obtain⟨-,-,-,-,-,-,-,e38,e39,e40,e41,e42,e43,-⟩:=F1
  replace e15:I T 15=(A6 g1 (I T 11) (I T 12)):=by rw[←show gAt 0 (AV.map (Rf.eval T))=g1 from z1.symm];exact e15
  replace e19:I T 19=(AQ (I T 13) (L T 14)):=e19
  simp only[AE,AF,zN,zR,AR,w2P] at*
  intro h
  have h1:=(h22.1 h).1
  have h2:AT g=0∧AH (I T 11) (I T 12)=true:=by unfold A6 at h1;clear hw h22 h15 e15;grind
  have h3:=CP h2.1
  rw[hw.1,hw.2.1,hw.2.2] at h3
  obtain⟨d0,d7,d8,-⟩:=h3
  obtain⟨⟨d1,d2⟩,⟨d3,d4⟩,d5,d6⟩:=d0
  obtain⟨⟨p1,p2⟩,p3,p4⟩:=Av.1 h2.2
  have x38:=e38 (by omega) (by omega)
  have x39:=e39 (by omega) (by omega)
  have x40:=e40 (by omega) (by omega)
  have x41:=e41 (by omega) (by omega)
  have x24:=e24 (by omega) (by omega)
  have x27:=e27 (by omega) (by omega)
  rw[x38] at x39
  rw[x40] at x41
  have x42:=e42 (by omega) (by omega)
  have x43:=e43 (by omega) (by omega)
  have c26:(I T 26)=Bh (I T 11) (I T 3) ((I T 1) - (I T 3)):=by rw[e26];exact Qr (by omega) (by rw[e25,x24])
  have c29:(I T 29)=Bh (I T 12) (I T 3) ((I T 2) - (I T 3)):=by rw[e29];exact Qr (by omega) (by rw[e28,x27])
  have h1:=Ka (x:=I T 11) (lo:=I T 3) (hi:=I T 1 - (I T 3)) (by omega)
  have h2':=Ka (x:=I T 12) (lo:=I T 3) (hi:=I T 2 - (I T 3)) (by omega)
  rw[←c26] at h1
  rw[←c29] at h2'
  exact⟨⟨⟨d1,d2⟩,by omega,by omega⟩,⟨x39,x41⟩,⟨c26,c29⟩,by rw[x43,x42],h2.2,h2.1,Av.2 (by omega)⟩
 have hs:(B T 23)=true→g.yard=I T 3∧g.wide - 2*g.yard=I T 39∧g.long - 2*g.yard=I T 41∧FR g (I T 11)=I T 26∧FT g (I T 12)=I T 29:=by
  obtain⟨e15,e16,-,e18,e19,e20,-,-,e23,e24,e25,e26,e27,e28,e29,-⟩:=F0
  obtain⟨-,-,-,-,-,-,-,e38,e39,e40,e41,-⟩:=F1
  replace e15:I T 15=(A6 g1 (I T 11) (I T 12)):=by rw[←show gAt 0 (AV.map (Rf.eval T))=g1 from z1.symm];exact e15
  replace e19:I T 19=(AQ (I T 13) (L T 14)):=e19
  simp only[AE,AF,zN,zR,AR,w2P] at*
  intro h
  obtain⟨q1,q2,q3,q4,q5,q6,q7⟩:=hq h
  unfold FR FT
  rw[hw.1,hw.2.1,hw.2.2,q3.1,q3.2,q2.1,q2.2]
  exact⟨rfl,rfl,rfl,rfl,rfl⟩
 have h37:(B T 23)=true→((B T 34)=true↔(((I T 26)=I T 11∧I T 29=I T 12)∧AW (I T 3) (I T 39) (I T 41) (I T 11) (I T 12) < 0)):=by
  obtain⟨e15,e16,-,e18,e19,e20,-,-,e23,e24,e25,e26,e27,e28,e29,e30,-⟩:=F0
  obtain⟨-,e32,e33,e34,-,-,-,e38,e39,e40,e41,-⟩:=F1
  replace e15:I T 15=(A6 g1 (I T 11) (I T 12)):=by rw[←show gAt 0 (AV.map (Rf.eval T))=g1 from z1.symm];exact e15
  replace e19:I T 19=(AQ (I T 13) (L T 14)):=e19
  replace e32:I T 32=(AW (g1).yard ((g1).wide - 2*(g1).yard) ((g1).long - 2*(g1).yard) (I T 11) (I T 12)):=by rw[←show gAt 0 (AV.map (Rf.eval T))=g1 from z1.symm];exact e32
  simp only[AE,AF,zN,zR,Bb,and_true,AR,w2P] at*
  intro h
  obtain⟨u1,u2,u3,u4,u5⟩:=hs h
  rw[hg1.1,u1] at e32
  rw[u1] at u2 u3
  rw[u2,u3] at e32
  rw[←e32,←e33]
  have h30:(B T 30)=false↔((I T 26)=I T 11∧I T 29=I T 12):=by
   clear hs hw hg1 e15 h15 h22 e19 hq
   cases k:(B T 30) with
   |false=>
    refine iff_of_true rfl ?_
    apply Classical.byContradiction
    intro hc
    have:=e30.2 hc
    simp[k] at this
   |true=>exact iff_of_false (by simp) (e30.1 k)
  rw[←h30,e34]
 have hb:(B T 36)=true→BR (I T 3) (I T 39) (I T 41)∧I T 43=2*((I T 39)+I T 41)∧(0≤I T 37∧I T 37 < I T 43)∧(1≤I T 13∧I T 13≤16384)∧((L T 14)).all Ax=true∧AT g=0∧(g.yard=I T 3∧g.wide - 2*g.yard=I T 39∧g.long - 2*g.yard=I T 41):=by
  obtain⟨e15,e16,-,e18,e19,e20,-,-,e23,e24,e25,e26,e27,e28,e29,e30,-⟩:=F0
  obtain⟨-,e32,e33,e34,-,e36,e37,e38,e39,e40,e41,e42,e43,-⟩:=F1
  replace e15:I T 15=(A6 g1 (I T 11) (I T 12)):=by rw[←show gAt 0 (AV.map (Rf.eval T))=g1 from z1.symm];exact e15
  replace e19:I T 19=(AQ (I T 13) (L T 14)):=e19
  replace e32:I T 32=(AW (g1).yard ((g1).wide - 2*(g1).yard) ((g1).long - 2*(g1).yard) (I T 11) (I T 12)):=by rw[←show gAt 0 (AV.map (Rf.eval T))=g1 from z1.symm];exact e32
  replace e37:I T 37=(AW (g2).yard ((g2).wide - 2*(g2).yard) ((g2).long - 2*(g2).yard) (I T 26) (I T 29)):=by rw[←show gAt 0 (CD.map (Rf.eval T))=g2 from z2.symm];exact e37
  simp only[AE,AF,zN,zR,Bb,and_true,AR,w2P] at*
  intro h
  have h1:=e36.1 h
  obtain⟨q1,q2,q3,q4,q5,q6,q7⟩:=hq h1.1
  have hbl:=Nh (h22.1 h1.1).2
  obtain⟨u1,u2,u3,u4,u5⟩:=hs h1.1
  have x37:(I T 37)=AW (I T 3) (I T 39) (I T 41) (I T 26) (I T 29):=by rw[e37,hg1.2,u1,←u2,←u3,u1]
  refine⟨q1,q4,?_,CN.1 hbl.1,hbl.2.2,q6,u1,u2,u3⟩
  have d:=q1
  obtain⟨⟨d1,d2⟩,⟨d3,d4⟩,d5,d6⟩:=d
  have hl:=VM (y:=I T 3) (w:=I T 39) (h:=I T 41) (px:=I T 26) (py:=I T 29) d3 d5
  rw[x37,q4]
  refine⟨?_,hl.1⟩
  have h37:=h37 h1.1
  by_cases k:(I T 26)=I T 11∧I T 29=I T 12
  ·have:¬AW (I T 3) (I T 39) (I T 41) (I T 11) (I T 12) < 0:=fun hc=>by have:=h37.2 ⟨k,hc⟩;simp[h1.2] at this
   rw[k.1,k.2];omega
  ·exact O3 (px:=I T 11) (py:=I T 12) d3 d5 (by rw[q3.1,show (I T 1) - (I T 3)=I T 3+(I T 39) by omega]) (by rw[q3.2,show (I T 2) - (I T 3)=I T 3+(I T 41) by omega]) k
 exact⟨hg1,h15,hw,h22,hq,hs,h37,hb⟩
theorem Z9 {T:Tab}(g:Ln)(hg:g=Ln.mk (S T 0) (I T 1) (I T 2) (I T 3) (L T 4) (I T 5) (I T 6) (I T 7) (I T 8) (I T 9) (L T 10))(hb:(B T 36)=true→BR (I T 3) (I T 39) (I T 41)∧I T 43=2*((I T 39)+I T 41)∧(0≤I T 37∧I T 37 < I T 43)∧(1≤I T 13∧I T 13≤16384)∧((L T 14)).all Ax=true∧AT g=0∧(g.yard=I T 3∧g.wide - 2*g.yard=I T 39∧g.long - 2*g.yard=I T 41))(hS:AL T (Al (BT 0 Jz.ks) KW))(hB:Ag T (Fg.map En.be))(hH:Ag T ((BJ K5 [.i] Nu).map En.be)):
  (K5).owes (Nu.map (Rf.eval T))∧AL T (hds 44 [.i])∧(0≤I T 44∧Cj (As (I T 3) (I T 39) (I T 41) (I T 13) ((L T 14))) (I T 37) (I T 43) (I T 44))∧¬B T 63=true:=by
 refine Bl (nh:=44) (k:=1) (pcn:=63) (top:=68) (bes:=Fg) (bos:=SZ) (nxt:=[.e 67]) (inits:=[.c (.int 0)]) (fv:=[13,14,0,1,2,3,4,5,6,7,8,9,10,43,37,36]) (tys:=[.i]) (by kernel_rfl) rfl rfl rfl rfl hS (by kernel_rfl) (by kernel_rfl) hB (BK hH) (fun s=>0≤(aI s 0)∧Cj (As (I T 3) (I T 39) (I T 41) (I T 13) ((L T 14))) (I T 37) (I T 43) (aI s 0)) (fun s=>((I T 43) / 2+1 - (aI s 0)).toNat) ?_ ?_
 ·show 0≤(0:Int)∧Cj (As (I T 3) (I T 39) (I T 41) (I T 13) ((L T 14))) (I T 37) (I T 43) (0:Int)
  clear hS hB hH
  exact⟨by omega,fun j h=>absurd h (by omega)⟩
 ·intro T2 hfv hF inv
  replace inv:0≤I T2 44∧Cj (As (I T 3) (I T 39) (I T 41) (I T 13) ((L T 14))) (I T 37) (I T 43) (I T2 44):=inv
  clear hS hB hH
  replace hF:AJ T2 Fg:=hF
  obtain⟨F0,hF⟩:=hF.cut
  have F1:=hF;clear hF
  have fv13:I T2 13=I T 13:=fvI (hfv 13 (by decide))
  have fv14:L T2 14=L T 14:=fvL (hfv 14 (by decide))
  have fv0:S T2 0=S T 0:=fvS (hfv 0 (by decide))
  have fv1:I T2 1=I T 1:=fvI (hfv 1 (by decide))
  have fv2:I T2 2=I T 2:=fvI (hfv 2 (by decide))
  have fv3:I T2 3=I T 3:=fvI (hfv 3 (by decide))
  have fv4:L T2 4=L T 4:=fvL (hfv 4 (by decide))
  have fv5:I T2 5=I T 5:=fvI (hfv 5 (by decide))
  have fv6:I T2 6=I T 6:=fvI (hfv 6 (by decide))
  have fv7:I T2 7=I T 7:=fvI (hfv 7 (by decide))
  have fv8:I T2 8=I T 8:=fvI (hfv 8 (by decide))
  have fv9:I T2 9=I T 9:=fvI (hfv 9 (by decide))
  have fv10:L T2 10=L T 10:=fvL (hfv 10 (by decide))
  have fv43:I T2 43=I T 43:=fvI (hfv 43 (by decide))
  have fv37:I T2 37=I T 37:=fvI (hfv 37 (by decide))
  have fv36:B T2 36=B T 36:=fvB (hfv 36 (by decide))
  clear hfv
  obtain⟨g3,z3⟩:∃g:Ln,g=Ln.mk (S T2 0) (I T2 1) (I T2 2) (I T2 3) (L T2 4) (I T2 5) (I T2 6) (I T2 7) (I T2 8) (I T2 9) (L T2 10):=⟨_,rfl⟩
  obtain⟨g4,z4⟩:∃g:Ln,g=Ln.mk (S T2 0) (I T2 1) (I T2 2) (I T2 3) (L T2 4) (I T2 5) (I T2 6) (I T2 7) (I T2 8) (I T2 9) (L T2 10):=⟨_,rfl⟩
  have hgA:g3=g∧g4=g:=by
   exact⟨by rw[z3,hg,fv0,fv1,fv2,fv3,fv4,fv5,fv6,fv7,fv8,fv9,fv10],by rw[z4,hg,fv0,fv1,fv2,fv3,fv4,fv5,fv6,fv7,fv8,fv9,fv10]⟩
  have k1:(B T2 47)=true→((B T 36)=true∧I T2 44≤(I T 43) / 2)∧((I T2 50)=((I T 37)+I T2 44) % (I T 43)∧0≤I T2 50∧I T2 50 < I T 43)∧((I T2 55)=((I T 37) - (I T2 44)+I T 43) % (I T 43)∧0≤I T2 55∧I T2 55 < I T 43)∧((I T2 51)=AY (I T 3) (I T 39) (I T 41) (I T2 50)∧I T2 52=AX (I T 3) (I T 39) (I T 41) (I T2 50))∧((I T2 56)=AY (I T 3) (I T 39) (I T 41) (I T2 55)∧I T2 57=AX (I T 3) (I T 39) (I T 41) (I T2 55))∧((B T2 58)=As (I T 3) (I T 39) (I T 41) (I T 13) ((L T 14)) (I T2 50)∧B T2 61=As (I T 3) (I T 39) (I T 41) (I T 13) ((L T 14)) (I T2 55))∧(AH (I T2 51) (I T2 52)=true∧AH (I T2 56) (I T2 57)=true):=by
   obtain⟨e45,e46,e47,-,e49,e50,e51,e52,e53,e54,e55,e56,e57,e58,-⟩:=F0
   obtain⟨e61,-⟩:=F1
   replace e51:I T2 51=(AY (g3).yard ((g3).wide - 2*(g3).yard) ((g3).long - 2*(g3).yard) (I T2 50)):=by rw[←show gAt 0 (Af.map (Rf.eval T2))=g3 from z3.symm];exact e51
   replace e52:I T2 52=(AX (g3).yard ((g3).wide - 2*(g3).yard) ((g3).long - 2*(g3).yard) (I T2 50)):=by rw[←show gAt 0 (Af.map (Rf.eval T2))=g3 from z3.symm];exact e52
   replace e56:I T2 56=(AY (g4).yard ((g4).wide - 2*(g4).yard) ((g4).long - 2*(g4).yard) (I T2 55)):=by rw[←show gAt 0 (Am.map (Rf.eval T2))=g4 from z4.symm];exact e56
   replace e57:I T2 57=(AX (g4).yard ((g4).wide - 2*(g4).yard) ((g4).long - 2*(g4).yard) (I T2 55)):=by rw[←show gAt 0 (Am.map (Rf.eval T2))=g4 from z4.symm];exact e57
   replace e58:B T2 58=(Ba (I T2 51) (I T2 52) (I T2 13) (L T2 14)):=e58
   replace e61:B T2 61=(Ba (I T2 56) (I T2 57) (I T2 13) (L T2 14)):=e61
   simp only[AE,AF,zR,AR,w2P] at*
   intro h
   have h1:=e47.1 h
   rw[fv36] at h1
   obtain⟨d1,d2,d3,d4,d5,d6,u1,u2,u3⟩:=hb h1.1
   have d7:=d1
   obtain⟨⟨c1,c2⟩,⟨c3,c4⟩,c5,c6⟩:=d7
   have v1:=inv.1
   have q43:=fv43
   have q37:=fv37
   have h2:(I T2 44)≤(I T 43) / 2:=by have:=e46.1 h1.2;rw[e45,if_pos (by omega)] at this;omega
   have x49:=e49 (by omega) (by omega)
   have x50:(I T2 50)=((I T 37)+I T2 44) % (I T 43):=by rw[e50,if_pos (by omega),x49];rw[fv37,fv43]
   have x53:=e53 (by omega) (by omega)
   have x54:=e54 (by omega) (by omega)
   rw[x53] at x54
   have x55:(I T2 55)=((I T 37) - (I T2 44)+I T 43) % (I T 43):=by rw[e55,if_pos (by omega),x54];rw[fv37,fv43]
   have y1:=Int.emod_nonneg ((I T 37)+I T2 44) (show (I T 43)≠0 by omega)
   have y2:=Int.emod_lt_of_pos ((I T 37)+I T2 44) (show 0 < (I T 43) by omega)
   have y3:=Int.emod_nonneg ((I T 37) - (I T2 44)+I T 43) (show (I T 43)≠0 by omega)
   have y4:=Int.emod_lt_of_pos ((I T 37) - (I T2 44)+I T 43) (show 0 < (I T 43) by omega)
   rw[←x50] at y1 y2
   rw[←x55] at y3 y4
   have x51:(I T2 51)=AY (I T 3) (I T 39) (I T 41) (I T2 50):=by rw[e51,hgA.1,u1,←u2,←u3,u1]
   have x52:(I T2 52)=AX (I T 3) (I T 39) (I T 41) (I T2 50):=by rw[e52,hgA.1,u1,←u2,←u3,u1]
   have x56:(I T2 56)=AY (I T 3) (I T 39) (I T 41) (I T2 55):=by rw[e56,hgA.2,u1,←u2,←u3,u1]
   have x57:(I T2 57)=AX (I T 3) (I T 39) (I T 41) (I T2 55):=by rw[e57,hgA.2,u1,←u2,←u3,u1]
   have a1:=Mr d1 y1 (by omega)
   have a2:=Mr d1 y3 (by omega)
   rw[←x51,←x52] at a1
   rw[←x56,←x57] at a2
   obtain⟨-,h8,h9,-⟩:=CP d6
   refine⟨⟨h1.1,h2⟩,⟨x50,y1,y2⟩,⟨x55,y3,y4⟩,⟨x51,x52⟩,⟨x56,x57⟩,⟨?_,?_⟩,Av.2 (by omega),Av.2 (by omega)⟩
   ·unfold As;rw[←x51,←x52,e58,fv13,fv14]
   ·unfold As;rw[←x56,←x57,e61,fv13,fv14]
  suffices hz:(B T2 60=true→AH (I T2 56) (I T2 57)=true)∧(B T2 60=true→Bx (I T2 13)=true)∧(B T2 60=true→((L T2 14)).all Ax=true)∧(B T2 47=true→AH (I T2 51) (I T2 52)=true)∧(B T2 47=true→Bx (I T2 13)=true)∧(B T2 47=true→((L T2 14)).all Ax=true)∧(B T2 47=true→AT g4=0)∧(B T2 47=true→0≤I T2 55∧I T2 55 < 2*(((g4).wide - 2*(g4).yard)+((g4).long - 2*(g4).yard)))∧(B T2 47=true→¬I T2 43=0)∧(B T2 47=true→AT g3=0)∧(B T2 47=true→0≤I T2 50∧I T2 50 < 2*(((g3).wide - 2*(g3).yard)+((g3).long - 2*(g3).yard)))∧(B T2 47=true→¬I T2 43=0)∧(B T2 63=true→(0≤I T2 67∧Cj (As (I T 3) (I T 39) (I T 41) (I T 13) ((L T 14))) (I T 37) (I T 43) (I T2 67)))∧(B T2 63=true→((I T 43) / 2+1 - (I T2 67)).toNat < ((I T 43) / 2+1 - (I T2 44)).toNat) from
   let⟨r0,r1,r2,r3,r4,r5,r6,r7,r8,r9,r10,r11,nx,mz⟩:=hz;⟨⟨r0,r1,r2,r3,r4,r5,(fun hp=>by show EF _;unfold EF;rw[show gAt 0 (Am.map (Rf.eval T2))=g4 from z4.symm];exact r6 hp),(fun hp=>by show EC _;unfold EC;rw[show gAt 0 (Am.map (Rf.eval T2))=g4 from z4.symm];exact r7 hp),r8,(fun hp=>by show EF _;unfold EF;rw[show gAt 0 (Af.map (Rf.eval T2))=g3 from z3.symm];exact r9 hp),(fun hp=>by show EC _;unfold EC;rw[show gAt 0 (Af.map (Rf.eval T2))=g3 from z3.symm];exact r10 hp),r11,trivial⟩,fun hp=>⟨nx hp,mz hp⟩⟩
  refine⟨?_,?_,?_,?_,?_,?_,?_,?_,?_,?_,?_,?_,?_,?_⟩
  ·obtain⟨e45,e46,e47,-,e49,e50,e51,e52,e53,e54,e55,e56,e57,e58,-,e60,-⟩:=F0
   replace e51:I T2 51=(AY (g3).yard ((g3).wide - 2*(g3).yard) ((g3).long - 2*(g3).yard) (I T2 50)):=by rw[←show gAt 0 (Af.map (Rf.eval T2))=g3 from z3.symm];exact e51
   replace e52:I T2 52=(AX (g3).yard ((g3).wide - 2*(g3).yard) ((g3).long - 2*(g3).yard) (I T2 50)):=by rw[←show gAt 0 (Af.map (Rf.eval T2))=g3 from z3.symm];exact e52
   replace e56:I T2 56=(AY (g4).yard ((g4).wide - 2*(g4).yard) ((g4).long - 2*(g4).yard) (I T2 55)):=by rw[←show gAt 0 (Am.map (Rf.eval T2))=g4 from z4.symm];exact e56
   replace e57:I T2 57=(AX (g4).yard ((g4).wide - 2*(g4).yard) ((g4).long - 2*(g4).yard) (I T2 55)):=by rw[←show gAt 0 (Am.map (Rf.eval T2))=g4 from z4.symm];exact e57
   replace e58:B T2 58=(Ba (I T2 51) (I T2 52) (I T2 13) (L T2 14)):=e58
   simp only[AE,AF,zN,zR,AR,w2P] at*
   intro hp
   replace hp:=(e60.1 hp).1
   obtain⟨⟨k0,k9⟩,⟨k1,k2,k3⟩,⟨k4,k5,k6⟩,k7,k8,⟨ka,kb⟩,kc⟩:=k1 hp
   obtain⟨d1,d2,d3,d4,d5,d6,u1,u2,u3⟩:=hb k0
   exact kc.2
  ·obtain⟨e45,e46,e47,-,e49,e50,e51,e52,-,-,-,-,-,e58,-,e60,-⟩:=F0
   replace e51:I T2 51=(AY (g3).yard ((g3).wide - 2*(g3).yard) ((g3).long - 2*(g3).yard) (I T2 50)):=by rw[←show gAt 0 (Af.map (Rf.eval T2))=g3 from z3.symm];exact e51
   replace e52:I T2 52=(AX (g3).yard ((g3).wide - 2*(g3).yard) ((g3).long - 2*(g3).yard) (I T2 50)):=by rw[←show gAt 0 (Af.map (Rf.eval T2))=g3 from z3.symm];exact e52
   replace e58:B T2 58=(Ba (I T2 51) (I T2 52) (I T2 13) (L T2 14)):=e58
   simp only[AE,AF,zN,zR,AR,w2P] at*
   intro hp
   replace hp:=(e60.1 hp).1
   obtain⟨⟨k0,k9⟩,⟨k1,k2,k3⟩,⟨k4,k5,k6⟩,k7,k8,⟨ka,kb⟩,kc⟩:=k1 hp
   obtain⟨d1,d2,d3,d4,d5,d6,u1,u2,u3⟩:=hb k0
   rw[fv13];exact CN.2 d4
  ·obtain⟨e45,e46,e47,-,e49,e50,e51,e52,-,-,-,-,-,e58,-,e60,-⟩:=F0
   replace e51:I T2 51=(AY (g3).yard ((g3).wide - 2*(g3).yard) ((g3).long - 2*(g3).yard) (I T2 50)):=by rw[←show gAt 0 (Af.map (Rf.eval T2))=g3 from z3.symm];exact e51
   replace e52:I T2 52=(AX (g3).yard ((g3).wide - 2*(g3).yard) ((g3).long - 2*(g3).yard) (I T2 50)):=by rw[←show gAt 0 (Af.map (Rf.eval T2))=g3 from z3.symm];exact e52
   replace e58:B T2 58=(Ba (I T2 51) (I T2 52) (I T2 13) (L T2 14)):=e58
   simp only[AE,AF,zN,zR,AR,w2P] at*
   intro hp
   replace hp:=(e60.1 hp).1
   obtain⟨⟨k0,k9⟩,⟨k1,k2,k3⟩,⟨k4,k5,k6⟩,k7,k8,⟨ka,kb⟩,kc⟩:=k1 hp
   obtain⟨d1,d2,d3,d4,d5,d6,u1,u2,u3⟩:=hb k0
   rw[fv14];exact d5
  ·obtain⟨e45,e46,e47,-,e49,e50,e51,e52,-⟩:=F0
   replace e51:I T2 51=(AY (g3).yard ((g3).wide - 2*(g3).yard) ((g3).long - 2*(g3).yard) (I T2 50)):=by rw[←show gAt 0 (Af.map (Rf.eval T2))=g3 from z3.symm];exact e51
   replace e52:I T2 52=(AX (g3).yard ((g3).wide - 2*(g3).yard) ((g3).long - 2*(g3).yard) (I T2 50)):=by rw[←show gAt 0 (Af.map (Rf.eval T2))=g3 from z3.symm];exact e52
   simp only[AE,AF,zR,AR,w2P] at*
   intro hp
   obtain⟨⟨k0,k9⟩,⟨k1,k2,k3⟩,⟨k4,k5,k6⟩,k7,k8,⟨ka,kb⟩,kc⟩:=k1 hp
   obtain⟨d1,d2,d3,d4,d5,d6,u1,u2,u3⟩:=hb k0
   exact kc.1
  ·obtain⟨e45,e46,e47,-⟩:=F0
   simp only[AE,AF,zR,AR] at e45 e46 e47
   intro hp
   obtain⟨⟨k0,k9⟩,⟨k1,k2,k3⟩,⟨k4,k5,k6⟩,k7,k8,⟨ka,kb⟩,kc⟩:=k1 hp
   obtain⟨d1,d2,d3,d4,d5,d6,u1,u2,u3⟩:=hb k0
   rw[fv13];exact CN.2 d4
  ·obtain⟨e45,e46,e47,-⟩:=F0
   simp only[AE,AF,zR,AR] at e45 e46 e47
   intro hp
   obtain⟨⟨k0,k9⟩,⟨k1,k2,k3⟩,⟨k4,k5,k6⟩,k7,k8,⟨ka,kb⟩,kc⟩:=k1 hp
   obtain⟨d1,d2,d3,d4,d5,d6,u1,u2,u3⟩:=hb k0
   rw[fv14];exact d5
  ·obtain⟨e45,e46,e47,-⟩:=F0
   simp only[AE,AF,zR,AR] at e45 e46 e47
   intro hp
   obtain⟨⟨k0,k9⟩,⟨k1,k2,k3⟩,⟨k4,k5,k6⟩,k7,k8,⟨ka,kb⟩,kc⟩:=k1 hp
   obtain⟨d1,d2,d3,d4,d5,d6,u1,u2,u3⟩:=hb k0
   rw[hgA.2];exact d6
  ·obtain⟨e45,e46,e47,-,-,-,-,-,e53,e54,e55,-⟩:=F0
   simp only[AE,AF,zR,AR,w2P] at*
   intro hp
   obtain⟨⟨k0,k9⟩,⟨k1,k2,k3⟩,⟨k4,k5,k6⟩,k7,k8,⟨ka,kb⟩,kc⟩:=k1 hp
   obtain⟨d1,d2,d3,d4,d5,d6,u1,u2,u3⟩:=hb k0
   rw[hgA.2,u2,u3];exact⟨k5,by omega⟩
  ·obtain⟨e45,e46,e47,-⟩:=F0
   simp only[AE,AF,zR,AR] at e45 e46 e47
   intro hp
   obtain⟨⟨k0,k9⟩,⟨k1,k2,k3⟩,⟨k4,k5,k6⟩,k7,k8,⟨ka,kb⟩,kc⟩:=k1 hp
   obtain⟨d1,d2,d3,d4,d5,d6,u1,u2,u3⟩:=hb k0
   rw[fv43];omega
  ·obtain⟨e45,e46,e47,-⟩:=F0
   simp only[AE,AF,zR,AR] at e45 e46 e47
   intro hp
   obtain⟨⟨k0,k9⟩,⟨k1,k2,k3⟩,⟨k4,k5,k6⟩,k7,k8,⟨ka,kb⟩,kc⟩:=k1 hp
   obtain⟨d1,d2,d3,d4,d5,d6,u1,u2,u3⟩:=hb k0
   rw[hgA.1];exact d6
  ·obtain⟨e45,e46,e47,-,e49,e50,-⟩:=F0
   simp only[AE,AF,zR,AR,w2P] at*
   intro hp
   obtain⟨⟨k0,k9⟩,⟨k1,k2,k3⟩,⟨k4,k5,k6⟩,k7,k8,⟨ka,kb⟩,kc⟩:=k1 hp
   obtain⟨d1,d2,d3,d4,d5,d6,u1,u2,u3⟩:=hb k0
   rw[hgA.1,u2,u3];exact⟨k2,by omega⟩
  ·obtain⟨e45,e46,e47,-⟩:=F0
   simp only[AE,AF,zR,AR] at e45 e46 e47
   intro hp
   obtain⟨⟨k0,k9⟩,⟨k1,k2,k3⟩,⟨k4,k5,k6⟩,k7,k8,⟨ka,kb⟩,kc⟩:=k1 hp
   obtain⟨d1,d2,d3,d4,d5,d6,u1,u2,u3⟩:=hb k0
   rw[fv43];omega
  ·obtain⟨e45,e46,e47,-,e49,e50,e51,e52,e53,e54,e55,e56,e57,e58,-,e60,-⟩:=F0
   obtain⟨e61,-,e63,-,-,-,e67,-⟩:=F1
   replace e51:I T2 51=(AY (g3).yard ((g3).wide - 2*(g3).yard) ((g3).long - 2*(g3).yard) (I T2 50)):=by rw[←show gAt 0 (Af.map (Rf.eval T2))=g3 from z3.symm];exact e51
   replace e52:I T2 52=(AX (g3).yard ((g3).wide - 2*(g3).yard) ((g3).long - 2*(g3).yard) (I T2 50)):=by rw[←show gAt 0 (Af.map (Rf.eval T2))=g3 from z3.symm];exact e52
   replace e56:I T2 56=(AY (g4).yard ((g4).wide - 2*(g4).yard) ((g4).long - 2*(g4).yard) (I T2 55)):=by rw[←show gAt 0 (Am.map (Rf.eval T2))=g4 from z4.symm];exact e56
   replace e57:I T2 57=(AX (g4).yard ((g4).wide - 2*(g4).yard) ((g4).long - 2*(g4).yard) (I T2 55)):=by rw[←show gAt 0 (Am.map (Rf.eval T2))=g4 from z4.symm];exact e57
   replace e58:B T2 58=(Ba (I T2 51) (I T2 52) (I T2 13) (L T2 14)):=e58
   replace e61:B T2 61=(Ba (I T2 56) (I T2 57) (I T2 13) (L T2 14)):=e61
   simp only[AE,AF,zN,zR,AR,w2P] at*
   obtain⟨v1,v3⟩:=inv
   intro hp
   have h1:=e63.1 hp
   have h2:=e60.1 h1.1
   obtain⟨⟨k0,k9⟩,⟨k1,k2,k3⟩,⟨k4,k5,k6⟩,k7,k8,⟨ka,kb⟩,kc⟩:=k1 h2.1
   rw[ka,k1] at h2
   rw[kb,k4] at h1
   obtain⟨d1,d2,d3,d4,d5,d6,u1,u2,u3⟩:=hb k0
   obtain⟨⟨c1,c2⟩,⟨c3,c4⟩,c5,c6⟩:=d1
   have e:(I T2 67)=I T2 44+1:=e67 (by omega) (by omega)
   exact⟨by omega,RE e v1 v3 h2.2 h1.2⟩
  ·obtain⟨e45,e46,e47,-,e49,e50,e51,e52,e53,e54,e55,e56,e57,e58,-,e60,-⟩:=F0
   obtain⟨e61,-,e63,-,-,-,e67,-⟩:=F1
   replace e51:I T2 51=(AY (g3).yard ((g3).wide - 2*(g3).yard) ((g3).long - 2*(g3).yard) (I T2 50)):=by rw[←show gAt 0 (Af.map (Rf.eval T2))=g3 from z3.symm];exact e51
   replace e52:I T2 52=(AX (g3).yard ((g3).wide - 2*(g3).yard) ((g3).long - 2*(g3).yard) (I T2 50)):=by rw[←show gAt 0 (Af.map (Rf.eval T2))=g3 from z3.symm];exact e52
   replace e56:I T2 56=(AY (g4).yard ((g4).wide - 2*(g4).yard) ((g4).long - 2*(g4).yard) (I T2 55)):=by rw[←show gAt 0 (Am.map (Rf.eval T2))=g4 from z4.symm];exact e56
   replace e57:I T2 57=(AX (g4).yard ((g4).wide - 2*(g4).yard) ((g4).long - 2*(g4).yard) (I T2 55)):=by rw[←show gAt 0 (Am.map (Rf.eval T2))=g4 from z4.symm];exact e57
   replace e58:B T2 58=(Ba (I T2 51) (I T2 52) (I T2 13) (L T2 14)):=e58
   replace e61:B T2 61=(Ba (I T2 56) (I T2 57) (I T2 13) (L T2 14)):=e61
   simp only[AE,AF,zN,zR,AR,w2P] at*
   obtain⟨v1,v3⟩:=inv
   intro hp
   have h1:=e63.1 hp
   have h2:=e60.1 h1.1
   obtain⟨⟨k0,k9⟩,-⟩:=k1 h2.1
   obtain⟨d1,d2,d3,d4,d5,d6,u1,u2,u3⟩:=hb k0
   obtain⟨⟨c1,c2⟩,⟨c3,c4⟩,c5,c6⟩:=d1
   have e:(I T2 67)=I T2 44+1:=e67 (by omega) (by omega)
   omega
theorem eN {T:Tab}(hz0:(S T 0).size≤140737488355328)(hl4:(L T 4).length≤140737488355328)(hl10:(L T 10).length≤140737488355328)(hl14:(L T 14).length≤140737488355328)(g:Ln)(hg:g=Ln.mk (S T 0) (I T 1) (I T 2) (I T 3) (L T 4) (I T 5) (I T 6) (I T 7) (I T 8) (I T 9) (L T 10))(g1:Ln)(z1:g1=Ln.mk (S T 0) (I T 1) (I T 2) (I T 3) (L T 4) (I T 5) (I T 6) (I T 7) (I T 8) (I T 9) (L T 10))(g2:Ln)(z2:g2=Ln.mk (S T 0) (I T 1) (I T 2) (I T 3) (L T 4) (I T 5) (I T 6) (I T 7) (I T 8) (I T 9) (L T 10))(hg1:g1=g∧g2=g)(h15:(I T 15)=A6 g (I T 11) (I T 12)∧I T 17=I T 15)(hw:g.wide=I T 1∧g.long=I T 2∧g.yard=I T 3)(h22:(B T 23)=true↔(A6 g (I T 11) (I T 12)=0∧AQ (I T 13) ((L T 14))=0))(hq:(B T 23)=true→BR (I T 3) (I T 39) (I T 41)∧((I T 39)=I T 1 - 2*I T 3∧I T 41=I T 2 - 2*I T 3)∧((I T 26)=Bh (I T 11) (I T 3) ((I T 1) - (I T 3))∧I T 29=Bh (I T 12) (I T 3) ((I T 2) - (I T 3)))∧I T 43=2*((I T 39)+I T 41)∧AH (I T 11) (I T 12)=true∧AT g=0∧AH (I T 26) (I T 29)=true)(hs:(B T 23)=true→g.yard=I T 3∧g.wide - 2*g.yard=I T 39∧g.long - 2*g.yard=I T 41∧FR g (I T 11)=I T 26∧FT g (I T 12)=I T 29)(h37:(B T 23)=true→((B T 34)=true↔(((I T 26)=I T 11∧I T 29=I T 12)∧AW (I T 3) (I T 39) (I T 41) (I T 11) (I T 12) < 0)))(hb:(B T 36)=true→BR (I T 3) (I T 39) (I T 41)∧I T 43=2*((I T 39)+I T 41)∧(0≤I T 37∧I T 37 < I T 43)∧(1≤I T 13∧I T 13≤16384)∧((L T 14)).all Ax=true∧AT g=0∧(g.yard=I T 3∧g.wide - 2*g.yard=I T 39∧g.long - 2*g.yard=I T 41))(inv0:0≤I T 44∧Cj (As (I T 3) (I T 39) (I T 41) (I T 13) ((L T 14))) (I T 37) (I T 43) (I T 44))(np0:¬B T 63=true)(g5:Ln)(z5:g5=Ln.mk (S T 0) (I T 1) (I T 2) (I T 3) (L T 4) (I T 5) (I T 6) (I T 7) (I T 8) (I T 9) (L T 10))(g6:Ln)(z6:g6=Ln.mk (S T 0) (I T 1) (I T 2) (I T 3) (L T 4) (I T 5) (I T 6) (I T 7) (I T 8) (I T 9) (L T 10))(A0:AJ T KW)(B0:AJ T Fg)(A1:AJ T Sw):
  ((I T 80)=(GC g (I T 11) (I T 12) (I T 13) (L T 14)))∧
  ((I T 81)=(GJ g (I T 11) (I T 12) (I T 13) (L T 14)))∧
  ((I T 82)=(C7 g (I T 11) (I T 12) (I T 13) (L T 14)))∧
  (B T 36=true→AT g2=0)∧
  (B T 36=true→AH (I T 26) (I T 29)=true)∧
  (B T 31=true→AT g1=0)∧
  (B T 31=true→AH (I T 11) (I T 12)=true):=by
 obtain⟨F0,A0⟩:=A0.cut
 have F1:=A0;clear A0
 obtain⟨F2,B0⟩:=B0.cut
 have F3:=B0;clear B0
 have F4:=A1;clear A1
 have hgA:g5=g∧g6=g:=by
  exact⟨by rw[z5,hg],by rw[z6,hg]⟩
 have k1:(B T 47)=true→((B T 36)=true∧I T 44≤(I T 43) / 2)∧((I T 50)=((I T 37)+I T 44) % (I T 43)∧0≤I T 50∧I T 50 < I T 43)∧((I T 55)=((I T 37) - (I T 44)+I T 43) % (I T 43)∧0≤I T 55∧I T 55 < I T 43)∧((I T 51)=AY (I T 3) (I T 39) (I T 41) (I T 50)∧I T 52=AX (I T 3) (I T 39) (I T 41) (I T 50))∧((I T 56)=AY (I T 3) (I T 39) (I T 41) (I T 55)∧I T 57=AX (I T 3) (I T 39) (I T 41) (I T 55))∧((B T 58)=As (I T 3) (I T 39) (I T 41) (I T 13) ((L T 14)) (I T 50)∧B T 61=As (I T 3) (I T 39) (I T 41) (I T 13) ((L T 14)) (I T 55))∧(AH (I T 51) (I T 52)=true∧AH (I T 56) (I T 57)=true):=by
  obtain⟨e15,e16,-,e18,e19,e20,-,-,e23,e24,e25,e26,e27,e28,e29,e30,-⟩:=F0
  obtain⟨-,e32,e33,e34,-,e36,e37,e38,e39,e40,e41,e42,e43,-⟩:=F1
  obtain⟨e45,e46,e47,-,e49,e50,e51,e52,e53,e54,e55,e56,e57,e58,-⟩:=F2
  obtain⟨e61,-⟩:=F3
  replace e15:I T 15=(A6 g1 (I T 11) (I T 12)):=by rw[←show gAt 0 (AV.map (Rf.eval T))=g1 from z1.symm];exact e15
  replace e19:I T 19=(AQ (I T 13) (L T 14)):=e19
  replace e32:I T 32=(AW (g1).yard ((g1).wide - 2*(g1).yard) ((g1).long - 2*(g1).yard) (I T 11) (I T 12)):=by rw[←show gAt 0 (AV.map (Rf.eval T))=g1 from z1.symm];exact e32
  replace e37:I T 37=(AW (g2).yard ((g2).wide - 2*(g2).yard) ((g2).long - 2*(g2).yard) (I T 26) (I T 29)):=by rw[←show gAt 0 (CD.map (Rf.eval T))=g2 from z2.symm];exact e37
  replace e51:I T 51=(AY (g5).yard ((g5).wide - 2*(g5).yard) ((g5).long - 2*(g5).yard) (I T 50)):=by rw[←show gAt 0 (Af.map (Rf.eval T))=g5 from z5.symm];exact e51
  replace e52:I T 52=(AX (g5).yard ((g5).wide - 2*(g5).yard) ((g5).long - 2*(g5).yard) (I T 50)):=by rw[←show gAt 0 (Af.map (Rf.eval T))=g5 from z5.symm];exact e52
  replace e56:I T 56=(AY (g6).yard ((g6).wide - 2*(g6).yard) ((g6).long - 2*(g6).yard) (I T 55)):=by rw[←show gAt 0 (Am.map (Rf.eval T))=g6 from z6.symm];exact e56
  replace e57:I T 57=(AX (g6).yard ((g6).wide - 2*(g6).yard) ((g6).long - 2*(g6).yard) (I T 55)):=by rw[←show gAt 0 (Am.map (Rf.eval T))=g6 from z6.symm];exact e57
  replace e58:B T 58=(Ba (I T 51) (I T 52) (I T 13) (L T 14)):=e58
  replace e61:B T 61=(Ba (I T 56) (I T 57) (I T 13) (L T 14)):=e61
  simp only[AE,AF,zN,zR,Bb,and_true,AR,w2P] at*
  intro h
  have h1:=e47.1 h
  obtain⟨d1,d2,d3,d4,d5,d6,u1,u2,u3⟩:=hb h1.1
  have d7:=d1
  obtain⟨⟨c1,c2⟩,⟨c3,c4⟩,c5,c6⟩:=d7
  have v1:=inv0.1
  have h2:(I T 44)≤(I T 43) / 2:=by have:=e46.1 h1.2;rw[e45,if_pos (by omega)] at this;omega
  have x49:=e49 (by omega) (by omega)
  have x50:(I T 50)=((I T 37)+I T 44) % (I T 43):=by rw[e50,if_pos (by omega),x49]
  have x53:=e53 (by omega) (by omega)
  have x54:=e54 (by omega) (by omega)
  rw[x53] at x54
  have x55:(I T 55)=((I T 37) - (I T 44)+I T 43) % (I T 43):=by rw[e55,if_pos (by omega),x54]
  have y1:=Int.emod_nonneg ((I T 37)+I T 44) (show (I T 43)≠0 by omega)
  have y2:=Int.emod_lt_of_pos ((I T 37)+I T 44) (show 0 < (I T 43) by omega)
  have y3:=Int.emod_nonneg ((I T 37) - (I T 44)+I T 43) (show (I T 43)≠0 by omega)
  have y4:=Int.emod_lt_of_pos ((I T 37) - (I T 44)+I T 43) (show 0 < (I T 43) by omega)
  rw[←x50] at y1 y2
  rw[←x55] at y3 y4
  have x51:(I T 51)=AY (I T 3) (I T 39) (I T 41) (I T 50):=by rw[e51,hgA.1,u1,←u2,←u3,u1]
  have x52:(I T 52)=AX (I T 3) (I T 39) (I T 41) (I T 50):=by rw[e52,hgA.1,u1,←u2,←u3,u1]
  have x56:(I T 56)=AY (I T 3) (I T 39) (I T 41) (I T 55):=by rw[e56,hgA.2,u1,←u2,←u3,u1]
  have x57:(I T 57)=AX (I T 3) (I T 39) (I T 41) (I T 55):=by rw[e57,hgA.2,u1,←u2,←u3,u1]
  have a1:=Mr d1 y1 (by omega)
  have a2:=Mr d1 y3 (by omega)
  rw[←x51,←x52] at a1
  rw[←x56,←x57] at a2
  obtain⟨-,h8,h9,-⟩:=CP d6
  refine⟨⟨h1.1,h2⟩,⟨x50,y1,y2⟩,⟨x55,y3,y4⟩,⟨x51,x52⟩,⟨x56,x57⟩,⟨?_,?_⟩,Av.2 (by omega),Av.2 (by omega)⟩
  ·unfold As;rw[←x51,←x52,e58]
  ·unfold As;rw[←x56,←x57,e61]
 have hm:(B T 36)=true→((B T 66)=false∧Dd (I T 3) (I T 39) (I T 41) (I T 26) (I T 29) (I T 13) ((L T 14)) < 0)∨((B T 66)=true∧0≤Dd (I T 3) (I T 39) (I T 41) (I T 26) (I T 29) (I T 13) ((L T 14))∧I T 64=AY (I T 3) (I T 39) (I T 41) (Dd (I T 3) (I T 39) (I T 41) (I T 26) (I T 29) (I T 13) ((L T 14)))∧I T 65=AX (I T 3) (I T 39) (I T 41) (Dd (I T 3) (I T 39) (I T 41) (I T 26) (I T 29) (I T 13) ((L T 14)))):=by
  obtain⟨e15,e16,-,e18,e19,e20,-,-,e23,e24,e25,e26,e27,e28,e29,e30,-⟩:=F0
  obtain⟨-,e32,e33,e34,-,e36,e37,e38,e39,e40,e41,e42,e43,-⟩:=F1
  obtain⟨e45,e46,e47,-,e49,e50,e51,e52,e53,e54,e55,e56,e57,e58,e59,e60,-⟩:=F2
  obtain⟨e61,e62,e63,e64,e65,e66,-⟩:=F3
  replace e15:I T 15=(A6 g1 (I T 11) (I T 12)):=by rw[←show gAt 0 (AV.map (Rf.eval T))=g1 from z1.symm];exact e15
  replace e19:I T 19=(AQ (I T 13) (L T 14)):=e19
  replace e32:I T 32=(AW (g1).yard ((g1).wide - 2*(g1).yard) ((g1).long - 2*(g1).yard) (I T 11) (I T 12)):=by rw[←show gAt 0 (AV.map (Rf.eval T))=g1 from z1.symm];exact e32
  replace e37:I T 37=(AW (g2).yard ((g2).wide - 2*(g2).yard) ((g2).long - 2*(g2).yard) (I T 26) (I T 29)):=by rw[←show gAt 0 (CD.map (Rf.eval T))=g2 from z2.symm];exact e37
  replace e51:I T 51=(AY (g5).yard ((g5).wide - 2*(g5).yard) ((g5).long - 2*(g5).yard) (I T 50)):=by rw[←show gAt 0 (Af.map (Rf.eval T))=g5 from z5.symm];exact e51
  replace e52:I T 52=(AX (g5).yard ((g5).wide - 2*(g5).yard) ((g5).long - 2*(g5).yard) (I T 50)):=by rw[←show gAt 0 (Af.map (Rf.eval T))=g5 from z5.symm];exact e52
  replace e56:I T 56=(AY (g6).yard ((g6).wide - 2*(g6).yard) ((g6).long - 2*(g6).yard) (I T 55)):=by rw[←show gAt 0 (Am.map (Rf.eval T))=g6 from z6.symm];exact e56
  replace e57:I T 57=(AX (g6).yard ((g6).wide - 2*(g6).yard) ((g6).long - 2*(g6).yard) (I T 55)):=by rw[←show gAt 0 (Am.map (Rf.eval T))=g6 from z6.symm];exact e57
  replace e58:B T 58=(Ba (I T 51) (I T 52) (I T 13) (L T 14)):=e58
  replace e61:B T 61=(Ba (I T 56) (I T 57) (I T 13) (L T 14)):=e61
  simp only[AE,AF,zN,zR,Bb,and_true,AR,w2P,zL] at*
  intro hb'
  obtain⟨v1,v3⟩:=inv0
  obtain⟨d1,d2,d3,d4,d5,d6,u1,u2,u3⟩:=hb hb'
  have hP:Dd (I T 3) (I T 39) (I T 41) (I T 26) (I T 29) (I T 13) ((L T 14))=Nf (As (I T 3) (I T 39) (I T 41) (I T 13) ((L T 14))) (I T 37) (I T 43):=by
   unfold Dd
   rw[e37,hg1.2,d2,u1,←u2,←u3,u1]
  rw[hP]
  have d7:=d1
  obtain⟨⟨c1,c2⟩,⟨c3,c4⟩,c5,c6⟩:=d7
  have x45:(I T 45)=(I T 43) / 2:=by rw[e45,if_pos (by omega)]
  by_cases k46:(I T 44)≤I T 45
  ·right
   have h47:=e47.2 ⟨hb',e46.2 k46⟩
   obtain⟨⟨k0,k9⟩,⟨t1,t2,t3⟩,⟨t4,t5,t6⟩,k7,k8,⟨ka,kb⟩,kc⟩:=k1 h47
   have hN:=QI v1 (by omega) v3
   rw[←t1,←t4,←ka,←kb] at hN
   by_cases k58:(B T 58)=true
   ·have h59:=e59.2 ⟨h47,k58⟩
    rw[if_pos k58] at hN
    rw[hN,e64,e65,if_pos h59,if_pos h59]
    exact⟨e66.2 (.inl h59),t2,k7.1,k7.2⟩
   ·have n59:¬B T 59=true:=fun h=>k58 (e59.1 h).2
    have h60:=e60.2 ⟨h47,by simpa using k58⟩
    rw[if_neg k58] at hN
    by_cases k61:(B T 61)=true
    ·have h62:=e62.2 ⟨h60,k61⟩
     rw[if_pos k61] at hN
     rw[hN,e64,e65,if_neg n59,if_neg n59]
     exact⟨e66.2 (.inr h62),t5,k8.1,k8.2⟩
    ·have:=e63.2 ⟨h60,by simpa using k61⟩
     simp[np0] at this
  ·left
   have n47:¬B T 47=true:=fun h=>k46 (e46.1 (e47.1 h).2)
   refine⟨?_,?_⟩
   ·cases k:(B T 66) with
    |false=>rfl
    |true=>
     rcases e66.1 k with h|h
     ·exact absurd (e59.1 h).1 n47
     ·exact absurd (e60.1 (e62.1 h).1).1 n47
   ·rw[Q1 (by omega) v3]
    omega
 have hE:(I T 82)=C7 g (I T 11) (I T 12) (I T 13) ((L T 14)):=by
  obtain⟨e15,e16,e17,e18,e19,e20,e21,e22,e23,e24,e25,e26,e27,e28,e29,e30,-⟩:=F0
  obtain⟨-,e32,e33,e34,e35,e36,e37,e38,e39,e40,e41,e42,e43,-⟩:=F1
  obtain⟨e45,e46,e47,-,e49,e50,e51,e52,e53,e54,e55,e56,e57,e58,e59,e60,-⟩:=F2
  obtain⟨e61,e62,-,-,-,e66,-⟩:=F3
  obtain⟨-,-,e70,-,-,-,e74,-,-,-,e78,-,-,-,e82,-⟩:=F4
  replace e15:I T 15=(A6 g1 (I T 11) (I T 12)):=by rw[←show gAt 0 (AV.map (Rf.eval T))=g1 from z1.symm];exact e15
  replace e17:I T 17=(A6 g1 (I T 11) (I T 12)):=by rw[←show gAt 0 (AV.map (Rf.eval T))=g1 from z1.symm];exact e17
  replace e19:I T 19=(AQ (I T 13) (L T 14)):=e19
  replace e22:I T 22=(AQ (I T 13) (L T 14)):=e22
  replace e32:I T 32=(AW (g1).yard ((g1).wide - 2*(g1).yard) ((g1).long - 2*(g1).yard) (I T 11) (I T 12)):=by rw[←show gAt 0 (AV.map (Rf.eval T))=g1 from z1.symm];exact e32
  replace e37:I T 37=(AW (g2).yard ((g2).wide - 2*(g2).yard) ((g2).long - 2*(g2).yard) (I T 26) (I T 29)):=by rw[←show gAt 0 (CD.map (Rf.eval T))=g2 from z2.symm];exact e37
  replace e51:I T 51=(AY (g5).yard ((g5).wide - 2*(g5).yard) ((g5).long - 2*(g5).yard) (I T 50)):=by rw[←show gAt 0 (Af.map (Rf.eval T))=g5 from z5.symm];exact e51
  replace e52:I T 52=(AX (g5).yard ((g5).wide - 2*(g5).yard) ((g5).long - 2*(g5).yard) (I T 50)):=by rw[←show gAt 0 (Af.map (Rf.eval T))=g5 from z5.symm];exact e52
  replace e56:I T 56=(AY (g6).yard ((g6).wide - 2*(g6).yard) ((g6).long - 2*(g6).yard) (I T 55)):=by rw[←show gAt 0 (Am.map (Rf.eval T))=g6 from z6.symm];exact e56
  replace e57:I T 57=(AX (g6).yard ((g6).wide - 2*(g6).yard) ((g6).long - 2*(g6).yard) (I T 55)):=by rw[←show gAt 0 (Am.map (Rf.eval T))=g6 from z6.symm];exact e57
  replace e58:B T 58=(Ba (I T 51) (I T 52) (I T 13) (L T 14)):=e58
  replace e61:B T 61=(Ba (I T 56) (I T 57) (I T 13) (L T 14)):=e61
  simp only[AE,AF,zN,zR,Bb,and_true,AR,w2P,zL] at*
  have x22:(I T 22)=I T 19:=by rw[e22,e19]
  by_cases h:(B T 23)=true
  ·have h1:=h22.1 h
   obtain⟨u1,u2,u3,u4,u5⟩:=hs h
   rw[P9 u1 u2 u3 u4 u5 h1.1 h1.2]
   have h37:=h37 h
   have n16:¬B T 16=true:=fun k=>by have:=e16.1 k;rw[h15.1] at this;exact this h1.1
   have n21:¬B T 21=true:=fun k=>by have:=e20.1 (e21.1 k).2;rw[e19] at this;exact this h1.2
   rw[e82,if_neg n16,e78,if_neg n21,e74]
   cases k34:(B T 34) with
   |true=>
    rw[if_pos (e35.2 ⟨h,k34⟩),if_pos (h37.1 k34)]
   |false=>
    have n34:¬B T 34=true:=by simp[k34]
    have h36:=e36.2 ⟨h,k34⟩
    rw[if_neg (fun k=>n34 (e35.1 k).2),if_neg (fun k=>n34 (h37.2 k)),e70]
    rcases hm h36 with hm|hm
    ·rw[if_neg (by simp[hm.1]),if_pos hm.2]
    ·rw[if_pos hm.1,if_neg (by omega)]
  ·have hn:¬(A6 g (I T 11) (I T 12)=0∧AQ (I T 13) ((L T 14))=0):=fun k=>h (h22.2 k)
   rw[(Ti hn).1,←h15.1,←e19]
   have h15:=h15.2
   clear hm hs h22 hq h37 hb hw e15 e17 e19 e22 hn k1 inv0 hgA hg1
   grind
 have hZ:(I T 82)=0→B T 36=true∧B T 66=true∧B T 16=false∧B T 21=false∧B T 35=false:=by
  obtain⟨e15,e16,e17,e18,e19,e20,e21,e22,e23,e24,e25,e26,e27,e28,e29,e30,-⟩:=F0
  obtain⟨-,e32,e33,e34,e35,e36,e37,e38,e39,e40,e41,e42,e43,-⟩:=F1
  obtain⟨e45,e46,e47,-,e49,e50,e51,e52,e53,e54,e55,e56,e57,e58,e59,e60,-⟩:=F2
  obtain⟨e61,e62,-,-,-,e66,-⟩:=F3
  obtain⟨-,-,e70,-,-,-,e74,-,-,-,e78,-,-,-,e82,-⟩:=F4
  replace e15:I T 15=(A6 g1 (I T 11) (I T 12)):=by rw[←show gAt 0 (AV.map (Rf.eval T))=g1 from z1.symm];exact e15
  replace e17:I T 17=(A6 g1 (I T 11) (I T 12)):=by rw[←show gAt 0 (AV.map (Rf.eval T))=g1 from z1.symm];exact e17
  replace e19:I T 19=(AQ (I T 13) (L T 14)):=e19
  replace e22:I T 22=(AQ (I T 13) (L T 14)):=e22
  replace e32:I T 32=(AW (g1).yard ((g1).wide - 2*(g1).yard) ((g1).long - 2*(g1).yard) (I T 11) (I T 12)):=by rw[←show gAt 0 (AV.map (Rf.eval T))=g1 from z1.symm];exact e32
  replace e37:I T 37=(AW (g2).yard ((g2).wide - 2*(g2).yard) ((g2).long - 2*(g2).yard) (I T 26) (I T 29)):=by rw[←show gAt 0 (CD.map (Rf.eval T))=g2 from z2.symm];exact e37
  replace e51:I T 51=(AY (g5).yard ((g5).wide - 2*(g5).yard) ((g5).long - 2*(g5).yard) (I T 50)):=by rw[←show gAt 0 (Af.map (Rf.eval T))=g5 from z5.symm];exact e51
  replace e52:I T 52=(AX (g5).yard ((g5).wide - 2*(g5).yard) ((g5).long - 2*(g5).yard) (I T 50)):=by rw[←show gAt 0 (Af.map (Rf.eval T))=g5 from z5.symm];exact e52
  replace e56:I T 56=(AY (g6).yard ((g6).wide - 2*(g6).yard) ((g6).long - 2*(g6).yard) (I T 55)):=by rw[←show gAt 0 (Am.map (Rf.eval T))=g6 from z6.symm];exact e56
  replace e57:I T 57=(AX (g6).yard ((g6).wide - 2*(g6).yard) ((g6).long - 2*(g6).yard) (I T 55)):=by rw[←show gAt 0 (Am.map (Rf.eval T))=g6 from z6.symm];exact e57
  replace e58:B T 58=(Ba (I T 51) (I T 52) (I T 13) (L T 14)):=e58
  replace e61:B T 61=(Ba (I T 56) (I T 57) (I T 13) (L T 14)):=e61
  simp only[AE,AF,zN,zR,Bb,and_true,AR,w2P,zL] at*
  intro h
  have x22:(I T 22)=I T 19:=by rw[e22,e19]
  have x17:=h15.2
  clear hm hs h22 hq h37 hb hw e15 e17 e19 e22 hE k1 inv0 hgA hg1 h15
  grind
 have hN:¬I T 82=0→I T 80=0∧I T 81=0:=by
  obtain⟨e15,e16,e17,e18,e19,e20,e21,e22,e23,e24,e25,e26,e27,e28,e29,e30,-⟩:=F0
  obtain⟨-,e32,e33,e34,e35,e36,e37,e38,e39,e40,e41,e42,e43,-⟩:=F1
  obtain⟨e45,e46,e47,-,e49,e50,e51,e52,e53,e54,e55,e56,e57,e58,e59,e60,-⟩:=F2
  obtain⟨e61,e62,-,e64,e65,e66,-⟩:=F3
  obtain⟨e68,e69,e70,-,e72,e73,e74,-,e76,e77,e78,-,e80,e81,e82,-⟩:=F4
  replace e15:I T 15=(A6 g1 (I T 11) (I T 12)):=by rw[←show gAt 0 (AV.map (Rf.eval T))=g1 from z1.symm];exact e15
  replace e17:I T 17=(A6 g1 (I T 11) (I T 12)):=by rw[←show gAt 0 (AV.map (Rf.eval T))=g1 from z1.symm];exact e17
  replace e19:I T 19=(AQ (I T 13) (L T 14)):=e19
  replace e22:I T 22=(AQ (I T 13) (L T 14)):=e22
  replace e32:I T 32=(AW (g1).yard ((g1).wide - 2*(g1).yard) ((g1).long - 2*(g1).yard) (I T 11) (I T 12)):=by rw[←show gAt 0 (AV.map (Rf.eval T))=g1 from z1.symm];exact e32
  replace e37:I T 37=(AW (g2).yard ((g2).wide - 2*(g2).yard) ((g2).long - 2*(g2).yard) (I T 26) (I T 29)):=by rw[←show gAt 0 (CD.map (Rf.eval T))=g2 from z2.symm];exact e37
  replace e51:I T 51=(AY (g5).yard ((g5).wide - 2*(g5).yard) ((g5).long - 2*(g5).yard) (I T 50)):=by rw[←show gAt 0 (Af.map (Rf.eval T))=g5 from z5.symm];exact e51
  replace e52:I T 52=(AX (g5).yard ((g5).wide - 2*(g5).yard) ((g5).long - 2*(g5).yard) (I T 50)):=by rw[←show gAt 0 (Af.map (Rf.eval T))=g5 from z5.symm];exact e52
  replace e56:I T 56=(AY (g6).yard ((g6).wide - 2*(g6).yard) ((g6).long - 2*(g6).yard) (I T 55)):=by rw[←show gAt 0 (Am.map (Rf.eval T))=g6 from z6.symm];exact e56
  replace e57:I T 57=(AX (g6).yard ((g6).wide - 2*(g6).yard) ((g6).long - 2*(g6).yard) (I T 55)):=by rw[←show gAt 0 (Am.map (Rf.eval T))=g6 from z6.symm];exact e57
  replace e58:B T 58=(Ba (I T 51) (I T 52) (I T 13) (L T 14)):=e58
  replace e61:B T 61=(Ba (I T 56) (I T 57) (I T 13) (L T 14)):=e61
  simp only[AE,AF,zN,zR,Bb,and_true,AR,w2P,zL] at*
  intro h
  have x22:(I T 22)=I T 19:=by rw[e22,e19]
  have x17:=h15.2
  clear hm hs h22 hq h37 hb hw e15 e17 e19 e22 hE k1 inv0 hgA hg1 h15 hZ
  grind
 have hV0:(I T 80)=GC g (I T 11) (I T 12) (I T 13) ((L T 14)):=by
  obtain⟨e15,e16,-,e18,e19,e20,e21,-,e23,e24,e25,e26,e27,e28,e29,e30,-⟩:=F0
  obtain⟨-,e32,e33,e34,e35,e36,e37,e38,e39,e40,e41,e42,e43,-⟩:=F1
  obtain⟨e45,e46,e47,-,e49,e50,e51,e52,e53,e54,e55,e56,e57,e58,e59,e60,-⟩:=F2
  obtain⟨e61,e62,-,e64,-,e66,-⟩:=F3
  obtain⟨e68,-,-,-,e72,-,-,-,e76,-,-,-,e80,-⟩:=F4
  replace e15:I T 15=(A6 g1 (I T 11) (I T 12)):=by rw[←show gAt 0 (AV.map (Rf.eval T))=g1 from z1.symm];exact e15
  replace e19:I T 19=(AQ (I T 13) (L T 14)):=e19
  replace e32:I T 32=(AW (g1).yard ((g1).wide - 2*(g1).yard) ((g1).long - 2*(g1).yard) (I T 11) (I T 12)):=by rw[←show gAt 0 (AV.map (Rf.eval T))=g1 from z1.symm];exact e32
  replace e37:I T 37=(AW (g2).yard ((g2).wide - 2*(g2).yard) ((g2).long - 2*(g2).yard) (I T 26) (I T 29)):=by rw[←show gAt 0 (CD.map (Rf.eval T))=g2 from z2.symm];exact e37
  replace e51:I T 51=(AY (g5).yard ((g5).wide - 2*(g5).yard) ((g5).long - 2*(g5).yard) (I T 50)):=by rw[←show gAt 0 (Af.map (Rf.eval T))=g5 from z5.symm];exact e51
  replace e52:I T 52=(AX (g5).yard ((g5).wide - 2*(g5).yard) ((g5).long - 2*(g5).yard) (I T 50)):=by rw[←show gAt 0 (Af.map (Rf.eval T))=g5 from z5.symm];exact e52
  replace e56:I T 56=(AY (g6).yard ((g6).wide - 2*(g6).yard) ((g6).long - 2*(g6).yard) (I T 55)):=by rw[←show gAt 0 (Am.map (Rf.eval T))=g6 from z6.symm];exact e56
  replace e57:I T 57=(AX (g6).yard ((g6).wide - 2*(g6).yard) ((g6).long - 2*(g6).yard) (I T 55)):=by rw[←show gAt 0 (Am.map (Rf.eval T))=g6 from z6.symm];exact e57
  replace e58:B T 58=(Ba (I T 51) (I T 52) (I T 13) (L T 14)):=e58
  replace e61:B T 61=(Ba (I T 56) (I T 57) (I T 13) (L T 14)):=e61
  simp only[AE,AF,zN,zR,Bb,and_true,AR,w2P,zL] at*
  by_cases h:(I T 82)=0
  ·obtain⟨z1,z2,z3,z4,z5⟩:=hZ h
   obtain⟨u1,u2,u3,u4,u5⟩:=hs (e36.1 z1).1
   rw[Pg u1 u2 u3 u4 u5,←hE,if_pos h,e80,if_neg (by simp[z3]),e76,if_neg (by simp[z4]),e72,if_neg (by simp[z5]),e68,if_pos z2]
   rcases hm z1 with hm|hm
   ·exact absurd hm.1 (by simp[z2])
   ·exact hm.2.2.1
  ·rw[(hN h).1]
   unfold GC
   rw[←hE,if_neg h]
 have hV1:(I T 81)=GJ g (I T 11) (I T 12) (I T 13) ((L T 14)):=by
  obtain⟨e15,e16,-,e18,e19,e20,e21,-,e23,e24,e25,e26,e27,e28,e29,e30,-⟩:=F0
  obtain⟨-,e32,e33,e34,e35,e36,e37,e38,e39,e40,e41,e42,e43,-⟩:=F1
  obtain⟨e45,e46,e47,-,e49,e50,e51,e52,e53,e54,e55,e56,e57,e58,e59,e60,-⟩:=F2
  obtain⟨e61,e62,-,-,e65,e66,-⟩:=F3
  obtain⟨-,e69,-,-,-,e73,-,-,-,e77,-,-,-,e81,-⟩:=F4
  replace e15:I T 15=(A6 g1 (I T 11) (I T 12)):=by rw[←show gAt 0 (AV.map (Rf.eval T))=g1 from z1.symm];exact e15
  replace e19:I T 19=(AQ (I T 13) (L T 14)):=e19
  replace e32:I T 32=(AW (g1).yard ((g1).wide - 2*(g1).yard) ((g1).long - 2*(g1).yard) (I T 11) (I T 12)):=by rw[←show gAt 0 (AV.map (Rf.eval T))=g1 from z1.symm];exact e32
  replace e37:I T 37=(AW (g2).yard ((g2).wide - 2*(g2).yard) ((g2).long - 2*(g2).yard) (I T 26) (I T 29)):=by rw[←show gAt 0 (CD.map (Rf.eval T))=g2 from z2.symm];exact e37
  replace e51:I T 51=(AY (g5).yard ((g5).wide - 2*(g5).yard) ((g5).long - 2*(g5).yard) (I T 50)):=by rw[←show gAt 0 (Af.map (Rf.eval T))=g5 from z5.symm];exact e51
  replace e52:I T 52=(AX (g5).yard ((g5).wide - 2*(g5).yard) ((g5).long - 2*(g5).yard) (I T 50)):=by rw[←show gAt 0 (Af.map (Rf.eval T))=g5 from z5.symm];exact e52
  replace e56:I T 56=(AY (g6).yard ((g6).wide - 2*(g6).yard) ((g6).long - 2*(g6).yard) (I T 55)):=by rw[←show gAt 0 (Am.map (Rf.eval T))=g6 from z6.symm];exact e56
  replace e57:I T 57=(AX (g6).yard ((g6).wide - 2*(g6).yard) ((g6).long - 2*(g6).yard) (I T 55)):=by rw[←show gAt 0 (Am.map (Rf.eval T))=g6 from z6.symm];exact e57
  replace e58:B T 58=(Ba (I T 51) (I T 52) (I T 13) (L T 14)):=e58
  replace e61:B T 61=(Ba (I T 56) (I T 57) (I T 13) (L T 14)):=e61
  simp only[AE,AF,zN,zR,Bb,and_true,AR,w2P,zL] at*
  by_cases h:(I T 82)=0
  ·obtain⟨z1,z2,z3,z4,z5⟩:=hZ h
   obtain⟨u1,u2,u3,u4,u5⟩:=hs (e36.1 z1).1
   rw[Pu u1 u2 u3 u4 u5,←hE,if_pos h,e81,if_neg (by simp[z3]),e77,if_neg (by simp[z4]),e73,if_neg (by simp[z5]),e69,if_pos z2]
   rcases hm z1 with hm|hm
   ·exact absurd hm.1 (by simp[z2])
   ·exact hm.2.2.2
  ·rw[(hN h).2]
   unfold GJ
   rw[←hE,if_neg h]
 refine⟨?_,?_,?_,?_,?_,?_,?_⟩
 ·obtain⟨e15,e16,-,e18,e19,e20,e21,-,e23,e24,e25,e26,e27,e28,e29,e30,-⟩:=F0
  obtain⟨-,e32,e33,e34,e35,e36,e37,e38,e39,e40,e41,e42,e43,-⟩:=F1
  obtain⟨e45,e46,e47,-,e49,e50,e51,e52,e53,e54,e55,e56,e57,e58,e59,e60,-⟩:=F2
  obtain⟨e61,e62,e63,e64,-,e66,-⟩:=F3
  obtain⟨e68,-,-,-,e72,-,-,-,e76,-,-,-,e80,-⟩:=F4
  replace e15:I T 15=(A6 g1 (I T 11) (I T 12)):=by rw[←show gAt 0 (AV.map (Rf.eval T))=g1 from z1.symm];exact e15
  replace e19:I T 19=(AQ (I T 13) (L T 14)):=e19
  replace e32:I T 32=(AW (g1).yard ((g1).wide - 2*(g1).yard) ((g1).long - 2*(g1).yard) (I T 11) (I T 12)):=by rw[←show gAt 0 (AV.map (Rf.eval T))=g1 from z1.symm];exact e32
  replace e37:I T 37=(AW (g2).yard ((g2).wide - 2*(g2).yard) ((g2).long - 2*(g2).yard) (I T 26) (I T 29)):=by rw[←show gAt 0 (CD.map (Rf.eval T))=g2 from z2.symm];exact e37
  replace e51:I T 51=(AY (g5).yard ((g5).wide - 2*(g5).yard) ((g5).long - 2*(g5).yard) (I T 50)):=by rw[←show gAt 0 (Af.map (Rf.eval T))=g5 from z5.symm];exact e51
  replace e52:I T 52=(AX (g5).yard ((g5).wide - 2*(g5).yard) ((g5).long - 2*(g5).yard) (I T 50)):=by rw[←show gAt 0 (Af.map (Rf.eval T))=g5 from z5.symm];exact e52
  replace e56:I T 56=(AY (g6).yard ((g6).wide - 2*(g6).yard) ((g6).long - 2*(g6).yard) (I T 55)):=by rw[←show gAt 0 (Am.map (Rf.eval T))=g6 from z6.symm];exact e56
  replace e57:I T 57=(AX (g6).yard ((g6).wide - 2*(g6).yard) ((g6).long - 2*(g6).yard) (I T 55)):=by rw[←show gAt 0 (Am.map (Rf.eval T))=g6 from z6.symm];exact e57
  replace e58:B T 58=(Ba (I T 51) (I T 52) (I T 13) (L T 14)):=e58
  replace e61:B T 61=(Ba (I T 56) (I T 57) (I T 13) (L T 14)):=e61
  simp only[AE,AF,zN,zR,Bb,and_true,AR,w2P,zL] at*
  exact hV0
 ·obtain⟨e15,e16,-,e18,e19,e20,e21,-,e23,e24,e25,e26,e27,e28,e29,e30,-⟩:=F0
  obtain⟨-,e32,e33,e34,e35,e36,e37,e38,e39,e40,e41,e42,e43,-⟩:=F1
  obtain⟨e45,e46,e47,-,e49,e50,e51,e52,e53,e54,e55,e56,e57,e58,e59,e60,-⟩:=F2
  obtain⟨e61,e62,e63,-,e65,e66,-⟩:=F3
  obtain⟨-,e69,-,-,-,e73,-,-,-,e77,-,-,-,e81,-⟩:=F4
  replace e15:I T 15=(A6 g1 (I T 11) (I T 12)):=by rw[←show gAt 0 (AV.map (Rf.eval T))=g1 from z1.symm];exact e15
  replace e19:I T 19=(AQ (I T 13) (L T 14)):=e19
  replace e32:I T 32=(AW (g1).yard ((g1).wide - 2*(g1).yard) ((g1).long - 2*(g1).yard) (I T 11) (I T 12)):=by rw[←show gAt 0 (AV.map (Rf.eval T))=g1 from z1.symm];exact e32
  replace e37:I T 37=(AW (g2).yard ((g2).wide - 2*(g2).yard) ((g2).long - 2*(g2).yard) (I T 26) (I T 29)):=by rw[←show gAt 0 (CD.map (Rf.eval T))=g2 from z2.symm];exact e37
  replace e51:I T 51=(AY (g5).yard ((g5).wide - 2*(g5).yard) ((g5).long - 2*(g5).yard) (I T 50)):=by rw[←show gAt 0 (Af.map (Rf.eval T))=g5 from z5.symm];exact e51
  replace e52:I T 52=(AX (g5).yard ((g5).wide - 2*(g5).yard) ((g5).long - 2*(g5).yard) (I T 50)):=by rw[←show gAt 0 (Af.map (Rf.eval T))=g5 from z5.symm];exact e52
  replace e56:I T 56=(AY (g6).yard ((g6).wide - 2*(g6).yard) ((g6).long - 2*(g6).yard) (I T 55)):=by rw[←show gAt 0 (Am.map (Rf.eval T))=g6 from z6.symm];exact e56
  replace e57:I T 57=(AX (g6).yard ((g6).wide - 2*(g6).yard) ((g6).long - 2*(g6).yard) (I T 55)):=by rw[←show gAt 0 (Am.map (Rf.eval T))=g6 from z6.symm];exact e57
  replace e58:B T 58=(Ba (I T 51) (I T 52) (I T 13) (L T 14)):=e58
  replace e61:B T 61=(Ba (I T 56) (I T 57) (I T 13) (L T 14)):=e61
  simp only[AE,AF,zN,zR,Bb,and_true,AR,w2P,zL] at*
  exact hV1
 ·obtain⟨e15,e16,e17,e18,e19,e20,e21,e22,e23,e24,e25,e26,e27,e28,e29,e30,-⟩:=F0
  obtain⟨-,e32,e33,e34,e35,e36,e37,e38,e39,e40,e41,e42,e43,-⟩:=F1
  obtain⟨e45,e46,e47,-,e49,e50,e51,e52,e53,e54,e55,e56,e57,e58,e59,e60,-⟩:=F2
  obtain⟨e61,e62,e63,-,-,e66,-⟩:=F3
  obtain⟨-,-,e70,-,-,-,e74,-,-,-,e78,-,-,-,e82,-⟩:=F4
  replace e15:I T 15=(A6 g1 (I T 11) (I T 12)):=by rw[←show gAt 0 (AV.map (Rf.eval T))=g1 from z1.symm];exact e15
  replace e17:I T 17=(A6 g1 (I T 11) (I T 12)):=by rw[←show gAt 0 (AV.map (Rf.eval T))=g1 from z1.symm];exact e17
  replace e19:I T 19=(AQ (I T 13) (L T 14)):=e19
  replace e22:I T 22=(AQ (I T 13) (L T 14)):=e22
  replace e32:I T 32=(AW (g1).yard ((g1).wide - 2*(g1).yard) ((g1).long - 2*(g1).yard) (I T 11) (I T 12)):=by rw[←show gAt 0 (AV.map (Rf.eval T))=g1 from z1.symm];exact e32
  replace e37:I T 37=(AW (g2).yard ((g2).wide - 2*(g2).yard) ((g2).long - 2*(g2).yard) (I T 26) (I T 29)):=by rw[←show gAt 0 (CD.map (Rf.eval T))=g2 from z2.symm];exact e37
  replace e51:I T 51=(AY (g5).yard ((g5).wide - 2*(g5).yard) ((g5).long - 2*(g5).yard) (I T 50)):=by rw[←show gAt 0 (Af.map (Rf.eval T))=g5 from z5.symm];exact e51
  replace e52:I T 52=(AX (g5).yard ((g5).wide - 2*(g5).yard) ((g5).long - 2*(g5).yard) (I T 50)):=by rw[←show gAt 0 (Af.map (Rf.eval T))=g5 from z5.symm];exact e52
  replace e56:I T 56=(AY (g6).yard ((g6).wide - 2*(g6).yard) ((g6).long - 2*(g6).yard) (I T 55)):=by rw[←show gAt 0 (Am.map (Rf.eval T))=g6 from z6.symm];exact e56
  replace e57:I T 57=(AX (g6).yard ((g6).wide - 2*(g6).yard) ((g6).long - 2*(g6).yard) (I T 55)):=by rw[←show gAt 0 (Am.map (Rf.eval T))=g6 from z6.symm];exact e57
  replace e58:B T 58=(Ba (I T 51) (I T 52) (I T 13) (L T 14)):=e58
  replace e61:B T 61=(Ba (I T 56) (I T 57) (I T 13) (L T 14)):=e61
  simp only[AE,AF,zN,zR,Bb,and_true,AR,w2P,zL] at*
  exact hE
 ·obtain⟨e15,e16,-,e18,e19,e20,-,-,e23,e24,e25,e26,e27,e28,e29,e30,-⟩:=F0
  obtain⟨-,e32,e33,e34,-,e36,-⟩:=F1
  replace e15:I T 15=(A6 g1 (I T 11) (I T 12)):=by rw[←show gAt 0 (AV.map (Rf.eval T))=g1 from z1.symm];exact e15
  replace e19:I T 19=(AQ (I T 13) (L T 14)):=e19
  replace e32:I T 32=(AW (g1).yard ((g1).wide - 2*(g1).yard) ((g1).long - 2*(g1).yard) (I T 11) (I T 12)):=by rw[←show gAt 0 (AV.map (Rf.eval T))=g1 from z1.symm];exact e32
  simp only[AE,AF,zN,zR,Bb,and_true,AR,w2P] at*
  intro h
  rw[hg1.2]
  exact (hb h).2.2.2.2.2.1
 ·obtain⟨e15,e16,-,e18,e19,e20,-,-,e23,e24,e25,e26,e27,e28,e29,e30,-⟩:=F0
  obtain⟨-,e32,e33,e34,-,e36,-⟩:=F1
  replace e15:I T 15=(A6 g1 (I T 11) (I T 12)):=by rw[←show gAt 0 (AV.map (Rf.eval T))=g1 from z1.symm];exact e15
  replace e19:I T 19=(AQ (I T 13) (L T 14)):=e19
  replace e32:I T 32=(AW (g1).yard ((g1).wide - 2*(g1).yard) ((g1).long - 2*(g1).yard) (I T 11) (I T 12)):=by rw[←show gAt 0 (AV.map (Rf.eval T))=g1 from z1.symm];exact e32
  simp only[AE,AF,zN,zR,Bb,and_true,AR,w2P] at*
  intro h
  exact (hq (e36.1 h).1).2.2.2.2.2.2
 ·obtain⟨e15,e16,-,e18,e19,e20,-,-,e23,e24,e25,e26,e27,e28,e29,e30,-⟩:=F0
  obtain⟨e31,-⟩:=F1
  replace e15:I T 15=(A6 g1 (I T 11) (I T 12)):=by rw[←show gAt 0 (AV.map (Rf.eval T))=g1 from z1.symm];exact e15
  replace e19:I T 19=(AQ (I T 13) (L T 14)):=e19
  simp only[AE,AF,zN,zR,Bb,and_true,AR,w2P] at*
  intro h
  rw[hg1.1]
  exact (hq (e31.1 h).1).2.2.2.2.2.1
 ·obtain⟨e15,e16,-,e18,e19,e20,-,-,e23,e24,e25,e26,e27,e28,e29,e30,-⟩:=F0
  obtain⟨e31,-⟩:=F1
  replace e15:I T 15=(A6 g1 (I T 11) (I T 12)):=by rw[←show gAt 0 (AV.map (Rf.eval T))=g1 from z1.symm];exact e15
  replace e19:I T 19=(AQ (I T 13) (L T 14)):=e19
  simp only[AE,AF,zN,zR,Bb,and_true,AR,w2P] at*
  intro h
  exact (hq (e31.1 h).1).2.2.2.2.1
theorem dB:Aq Try.prog 15 Jz:=by
 refine Ai (l:=[(60,Oi),(61,II),(63,Ig),(37,Kf),(64,FC)]) BX (by simp only[List.forall_mem_cons];exact⟨ok_one,Z0,dH,dn,aY,fun _ h=>absurd h (by simp)⟩) eC (by kernel_rfl) fun T us hpre hT hul hS hBd hE=>?_
 change us.length=15 at hul
 obtain⟨hz0,-,-,-,⟨hl4,he4⟩,-,-,-,-,-,⟨hl10,he10⟩,-,-,-,⟨hl14,he14⟩,-⟩:=hBd
 replace hz0:(S T 0).size≤140737488355328:=hz0
 replace hl4:(L T 4).length≤140737488355328:=hl4
 replace hl10:(L T 10).length≤140737488355328:=hl10
 replace hl14:(L T 14).length≤140737488355328:=hl14
 obtain⟨g,hg⟩:∃g:Ln,g=Ln.mk (S T 0) (I T 1) (I T 2) (I T 3) (L T 4) (I T 5) (I T 6) (I T 7) (I T 8) (I T 9) (L T 10):=⟨_,rfl⟩
 have hgu:gAt 0 us=g:=by rw[hg];exact DU hT hul (by decide)
 have ha11:aI us 11=I T 11:=inI hT hul (by decide)
 have ha12:aI us 12=I T 12:=inI hT hul (by decide)
 have ha13:aI us 13=I T 13:=inI hT hul (by decide)
 have ha14:aL us 14=L T 14:=inL hT hul (by decide)
 clear hpre
 rw[List.map_append,List.map_append,List.map_append] at hE
 have hA:=hE.left
 replace hE:=hE.right
 have hH:=hE.left
 replace hE:=hE.right
 have hB:=hE.left
 replace hE:=hE.right
 obtain⟨A0,hS1⟩:=Ac hS (by kernel_rfl) hA
 obtain⟨g1,z1⟩:∃g:Ln,g=Ln.mk (S T 0) (I T 1) (I T 2) (I T 3) (L T 4) (I T 5) (I T 6) (I T 7) (I T 8) (I T 9) (L T 10):=⟨_,rfl⟩
 obtain⟨g2,z2⟩:∃g:Ln,g=Ln.mk (S T 0) (I T 1) (I T 2) (I T 3) (L T 4) (I T 5) (I T 6) (I T 7) (I T 8) (I T 9) (L T 10):=⟨_,rfl⟩
 obtain⟨hg1,h15,hw,h22,hq,hs,h37,hb⟩:=YA hz0 hl4 hl10 hl14 g hg g1 z1 g2 z2 A0
 obtain⟨ow0,hS2,inv0,np0⟩:=Z9 g hg hb hS1 hB hH
 have hF2:=(Ac (hS2.append hS1) (l:=Fg) (by kernel_rfl) hB)
 obtain⟨B0,hS⟩:=hF2
 clear hA hB hH hS1 hS2
 obtain⟨g5,z5⟩:∃g:Ln,g=Ln.mk (S T 0) (I T 1) (I T 2) (I T 3) (L T 4) (I T 5) (I T 6) (I T 7) (I T 8) (I T 9) (L T 10):=⟨_,rfl⟩
 obtain⟨g6,z6⟩:∃g:Ln,g=Ln.mk (S T 0) (I T 1) (I T 2) (I T 3) (L T 4) (I T 5) (I T 6) (I T 7) (I T 8) (I T 9) (L T 10):=⟨_,rfl⟩
 obtain⟨A1,hO⟩:=Ar (tys:=[.i,.i,.i]) (rs:=Yn) hS (by kernel_rfl) hE
 obtain⟨q0,q1,q2,r0,r1,r2,r3⟩:=eN hz0 hl4 hl10 hl14 g hg g1 z1 g2 z2 hg1 h15 hw h22 hq hs h37 hb inv0 np0 g5 z5 g6 z6 A0 B0 A1
 refine⟨⟨(fun _=>ow0),(fun hp=>by show DY _;unfold DY;rw[show gAt 0 (CD.map (Rf.eval T))=g2 from z2.symm];exact r0 hp),r1,(fun hp=>by show DY _;unfold DY;rw[show gAt 0 (AV.map (Rf.eval T))=g1 from z1.symm];exact r2 hp),r3,trivial⟩,hO.trans ?_⟩
 exact (lc (by show U.int (I T 80)= .int (KZ us);unfold KZ;rw[hgu,ha11,ha12,ha13,ha14];exact congrArg U.int q0) (lc (by show U.int (I T 81)= .int (Kw us);unfold Kw;rw[hgu,ha11,ha12,ha13,ha14];exact congrArg U.int q1) (lc (by show U.int (I T 82)= .int (LN us);unfold LN;rw[hgu,ha11,ha12,ha13,ha14];exact congrArg U.int q2) rfl)))
end Go.Eng
end
