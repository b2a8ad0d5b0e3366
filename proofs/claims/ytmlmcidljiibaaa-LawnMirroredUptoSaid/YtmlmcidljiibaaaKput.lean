/-
  A part of the proof: K_putd K_put.
-/
import Derived.Test.YtmlmcidljiibaaaE4
import Derived.Test.YtmlmcidljiibaaaE5
import Derived.Test.YtmlmcidljiibaaaKchk
import Derived.Test.YtmlmcidljiibaaaKcball
import Derived.Test.YtmlmcidljiibaaaKnumber
import Derived.Test.YtmlmcidljiibaaaKat
set_option linter.unusedVariables false
set_option linter.unusedSimpArgs false
noncomputable section
open Go Go.Eng Go.Proofs
set_option maxHeartbeats 4000000
set_option maxRecDepth 100000
namespace Go.Eng
def Km:List U→Int:=fun us=>(G3 (gAt 0 us) (aI us 11) (aI us 12) (aI us 13) (aL us 14))
def LK:List U→Int:=fun us=>(HB (gAt 0 us) (aI us 11) (aI us 12) (aI us 13) (aL us 14))
def LC:List U→Int:=fun us=>(C8 (gAt 0 us) (aI us 11) (aI us 12) (aI us 13) (aL us 14))
def Fr:Ak:={ sh:=[.agg [.str,k64,k64,k64,.list [k64,k64,k64,k64,.bool],k64,k64,k64,k64,k64,.list [k64,k64,k64]],.agg [k64,k64],.one (k64),.one (.list [k64,k64,k64])],blks:=[],outs:=[(.s "put.0",Bi Km),(.s "put.1",Bi LK),(.s "put.2",Bi LC)],c:= .tup [.agg [(CP 15),(CP 16)],(CP 17)],m':=[],pre:=[] }
def Bt:List Rf:=[.e 0,.e 1,.e 2,.e 3,.e 4,.e 5,.e 6,.e 7,.e 8,.e 9,.e 10,.e 15]
def ai:List En:=[⟨15,.row 1 2 [.i,.i],[.e 11,.e 12]⟩,
 ⟨16,.outI "chk.0" K9,Bt⟩,
 ⟨17,.ne,[.e 16,.c (.int 0)]⟩,
 ⟨18,.not,[.e 17]⟩,
 ⟨19,.outI "cball.0" H3,[.e 13,.e 14]⟩,
 ⟨20,.ne,[.e 19,.c (.int 0)]⟩,
 ⟨21,.and,[.e 18,.e 20]⟩,
 ⟨22,.and,[.e 18,.n 20]⟩,
 ⟨23,.w2 .i64 .mul,[.c (.int 2),.e 3]⟩,
 ⟨24,.w2 .i64 .sub,[.e 1,.e 23]⟩,
 ⟨25,.w2 .i64 .mul,[.c (.int 2),.e 3]⟩,
 ⟨26,.w2 .i64 .sub,[.e 2,.e 25]⟩,
 ⟨27,.o2 .max,[.e 11,.e 3]⟩,
 ⟨28,.w2 .i64 .sub,[.e 1,.e 3]⟩,
 ⟨29,.o2 .min,[.e 27,.e 28]⟩,
 ⟨30,.o2 .max,[.e 12,.e 3]⟩]
def Z7:List En:=[⟨31,.w2 .i64 .sub,[.e 2,.e 3]⟩,
 ⟨32,.o2 .min,[.e 30,.e 31]⟩,
 ⟨33,.eqs [.i,.i],[.e 29,.e 11,.e 32,.e 12]⟩,
 ⟨34,.and,[.e 22,.e 33]⟩,
 ⟨35,.outI "number.0" Gy,[.e 3,.e 24,.e 26,.e 11,.e 12]⟩,
 ⟨36,.lt,[.e 35,.c (.int 0)]⟩,
 ⟨37,.and,[.e 33,.e 36]⟩,
 ⟨38,.and,[.e 22,.e 37]⟩,
 ⟨39,.and,[.e 22,.n 37]⟩,
 ⟨40,.outI "number.0" Gy,[.e 3,.e 24,.e 26,.e 29,.e 32]⟩,
 ⟨41,.id .i,[.c (.int 0)]⟩,
 ⟨42,.w2 .i64 .add,[.e 24,.e 26]⟩,
 ⟨43,.w2 .i64 .mul,[.c (.int 2),.e 42]⟩]
def GN:List En:=ai++(Z7)
def WZ:List En:=[⟨48,.o2 .tdiv,[.e 43,.c (.int 2)]⟩,
 ⟨49,.le,[.e 44,.e 48]⟩,
 ⟨50,.and,[.e 39,.e 49]⟩,
 ⟨51,.and,[.e 39,.n 49]⟩,
 ⟨52,.w2 .i64 .add,[.e 40,.e 44]⟩,
 ⟨53,.o2 .tmod,[.e 52,.e 43]⟩,
 ⟨54,.outI "at.0" NT,[.e 3,.e 24,.e 26,.e 53]⟩,
 ⟨55,.outI "at.1" NJ,[.e 3,.e 24,.e 26,.e 53]⟩,
 ⟨56,.len,[.e 14]⟩]
def DZ:List En:=WZ
def bJ:List En:=[⟨58,.lt,[.e 57,.e 56]⟩,
 ⟨59,.and,[.e 50,.e 58]⟩,
 ⟨60,.and,[.e 50,.n 58]⟩,
 ⟨61,.get .i 0,[.e 14,.e 57]⟩,
 ⟨62,.get .i 1,[.e 14,.e 57]⟩,
 ⟨63,.get .i 2,[.e 14,.e 57]⟩,
 ⟨64,.w2 .i64 .sub,[.e 54,.e 61]⟩,
 ⟨65,.w2 .i64 .sub,[.e 55,.e 62]⟩,
 ⟨66,.w2 .i64 .add,[.e 13,.e 63]⟩,
 ⟨67,.w2 .i64 .mul,[.e 64,.e 64]⟩,
 ⟨68,.w2 .i64 .mul,[.e 65,.e 65]⟩,
 ⟨69,.w2 .i64 .add,[.e 67,.e 68]⟩,
 ⟨70,.w2 .i64 .mul,[.e 66,.e 66]⟩,
 ⟨71,.lt,[.e 69,.e 70]⟩,
 ⟨72,.and,[.e 59,.e 71]⟩,
 ⟨73,.and,[.e 59,.n 71]⟩]
def bS:List En:=[⟨74,.w2 .i64 .add,[.e 57,.c (.int 1)]⟩]
def DJ:List En:=bJ++(bS)
def Xy:List ObE:=[⟨some 59,.inl,[.e 57,.e 14]⟩]
def Ko:Ae:=mkD 57 1 DJ 73 [.e 74] Xy [13,55,54,14,50,56]
def N1:List Rf:=[.e 13,.e 55,.e 54,.e 14,.e 50,.e 56,.c (.int 0)]
def V7:List En:=[⟨75,.ite .i,[.e 72,.e 57,.c (.int (-1))]⟩,
 ⟨76,.or,[.e 72,.e 60]⟩,
 ⟨77,.le,[.c (.int 0),.e 75]⟩,
 ⟨78,.and,[.e 50,.e 77]⟩,
 ⟨79,.and,[.e 50,.n 77]⟩,
 ⟨80,.ite .i,[.e 78,.e 45,.e 54]⟩,
 ⟨81,.ite .i,[.e 78,.e 46,.e 55]⟩,
 ⟨82,.ite .i,[.e 78,.c (.int 0),.c (.int 1)]⟩,
 ⟨83,.ite .b,[.e 78,.c (.bool true),.c (.bool false)]⟩,
 ⟨84,.and,[.e 50,.e 83]⟩,
 ⟨85,.and,[.e 50,.e 83]⟩,
 ⟨86,.and,[.e 50,.e 83]⟩,
 ⟨87,.and,[.e 50,.e 83]⟩,
 ⟨88,.and,[.e 50,.e 83]⟩,
 ⟨89,.w2 .i64 .sub,[.e 40,.e 44]⟩,
 ⟨90,.and,[.e 50,.e 83]⟩]
def WA:List En:=[⟨91,.w2 .i64 .add,[.e 89,.e 43]⟩,
 ⟨92,.and,[.e 50,.e 83]⟩,
 ⟨93,.o2 .tmod,[.e 91,.e 43]⟩,
 ⟨94,.outI "at.0" NT,[.e 3,.e 24,.e 26,.e 93]⟩,
 ⟨95,.outI "at.1" NJ,[.e 3,.e 24,.e 26,.e 93]⟩,
 ⟨96,.len,[.e 14]⟩]
def Ez:List En:=V7++(WA)
def Zp:List En:=[⟨98,.lt,[.e 97,.e 96]⟩,
 ⟨99,.and,[.e 92,.e 98]⟩,
 ⟨100,.and,[.e 92,.n 98]⟩,
 ⟨101,.get .i 0,[.e 14,.e 97]⟩,
 ⟨102,.get .i 1,[.e 14,.e 97]⟩,
 ⟨103,.get .i 2,[.e 14,.e 97]⟩,
 ⟨104,.w2 .i64 .sub,[.e 94,.e 101]⟩,
 ⟨105,.w2 .i64 .sub,[.e 95,.e 102]⟩,
 ⟨106,.w2 .i64 .add,[.e 13,.e 103]⟩,
 ⟨107,.w2 .i64 .mul,[.e 104,.e 104]⟩,
 ⟨108,.w2 .i64 .mul,[.e 105,.e 105]⟩,
 ⟨109,.w2 .i64 .add,[.e 107,.e 108]⟩,
 ⟨110,.w2 .i64 .mul,[.e 106,.e 106]⟩,
 ⟨111,.lt,[.e 109,.e 110]⟩,
 ⟨112,.and,[.e 99,.e 111]⟩,
 ⟨113,.and,[.e 99,.n 111]⟩]
def b7:List En:=[⟨114,.w2 .i64 .add,[.e 97,.c (.int 1)]⟩]
def ES:List En:=Zp++(b7)
def X1:List ObE:=[⟨some 99,.inl,[.e 97,.e 14]⟩]
def LN:Ae:=mkD 97 1 ES 113 [.e 114] X1 [13,95,94,14,92,96]
def OD:List Rf:=[.e 13,.e 95,.e 94,.e 14,.e 92,.e 96,.c (.int 0)]
def V8:List En:=[⟨115,.ite .i,[.e 112,.e 97,.c (.int (-1))]⟩,
 ⟨116,.or,[.e 112,.e 100]⟩,
 ⟨117,.le,[.c (.int 0),.e 115]⟩,
 ⟨118,.and,[.e 92,.e 117]⟩,
 ⟨119,.and,[.e 92,.n 117]⟩,
 ⟨120,.ite .i,[.e 118,.e 80,.e 94]⟩,
 ⟨121,.ite .i,[.e 118,.e 81,.e 95]⟩,
 ⟨122,.ite .i,[.e 118,.c (.int 0),.c (.int 1)]⟩,
 ⟨123,.ite .b,[.e 118,.c (.bool true),.c (.bool false)]⟩,
 ⟨124,.ite .i,[.e 92,.e 120,.e 80]⟩,
 ⟨125,.ite .i,[.e 92,.e 121,.e 81]⟩,
 ⟨126,.ite .i,[.e 92,.e 122,.e 82]⟩,
 ⟨127,.or,[.n 83,.n 123]⟩,
 ⟨128,.and,[.e 50,.e 127]⟩,
 ⟨129,.and,[.e 50,.n 127]⟩,
 ⟨130,.w2 .i64 .add,[.e 44,.c (.int 1)]⟩]
def IA:List En:=V8
def Im:List En:=DZ++((Ax Ko [.i] N1)++(DJ++(Ez++((Ax LN [.i] OD)++(ES++(IA))))))
def X7:List ObE:=[⟨some 92,.owes LN,[.e 13,.e 95,.e 94,.e 14,.e 92,.e 96,.c (.int 0)]⟩,⟨some 92,.ready,[.e 82]⟩,⟨some 92,.pre "at.p0" K6,[.e 3,.e 24,.e 26,.e 93]⟩,⟨some 92,.pre "at.p1" Ky,[.e 3,.e 24,.e 26,.e 93]⟩,⟨some 92,.nez,[.e 43]⟩,⟨some 50,.owes Ko,[.e 13,.e 55,.e 54,.e 14,.e 50,.e 56,.c (.int 0)]⟩,⟨some 50,.ready,[.e 47]⟩,⟨some 50,.pre "at.p0" K6,[.e 3,.e 24,.e 26,.e 53]⟩,⟨some 50,.pre "at.p1" Ky,[.e 3,.e 24,.e 26,.e 53]⟩,⟨some 50,.nez,[.e 43]⟩]
def Nq:Ae:=mkD 44 4 Im 129 [.e 130,.e 124,.e 125,.e 126] X7 [13,14,3,24,26,43,40,39]
def Q2:List Rf:=[.e 13,.e 14,.e 3,.e 24,.e 26,.e 43,.e 40,.e 39,.c (.int 0),.c (.int 0),.c (.int 0),.c (.int 0)]
def cK:List En:=[⟨131,.ite .i,[.e 51,.e 45,.e 124]⟩,
 ⟨132,.ite .i,[.e 51,.e 46,.e 125]⟩,
 ⟨133,.ite .i,[.e 51,.e 47,.e 126]⟩,
 ⟨134,.eq,[.e 133,.c (.int 0)]⟩,
 ⟨135,.and,[.e 39,.e 134]⟩,
 ⟨136,.eq,[.e 133,.c (.int 1)]⟩,
 ⟨137,.and,[.e 39,.e 136]⟩,
 ⟨138,.ite .i,[.e 137,.e 131,.c (.int 0)]⟩,
 ⟨139,.ite .i,[.e 137,.e 132,.c (.int 0)]⟩,
 ⟨140,.ite .i,[.e 137,.c (.int 0),.c (.int 15)]⟩,
 ⟨141,.or,[.e 137,.e 135]⟩,
 ⟨142,.ite .i,[.e 38,.c (.int 0),.e 138]⟩,
 ⟨143,.ite .i,[.e 38,.c (.int 0),.e 139]⟩,
 ⟨144,.ite .i,[.e 38,.c (.int 5),.e 140]⟩,
 ⟨145,.or,[.e 38,.e 141]⟩,
 ⟨146,.ite .i,[.e 21,.c (.int 0),.e 142]⟩]
def aJ:List En:=[⟨147,.ite .i,[.e 21,.c (.int 0),.e 143]⟩,
 ⟨148,.ite .i,[.e 21,.e 19,.e 144]⟩,
 ⟨149,.or,[.e 21,.e 145]⟩,
 ⟨150,.ite .i,[.e 17,.c (.int 0),.e 146]⟩,
 ⟨151,.ite .i,[.e 17,.c (.int 0),.e 147]⟩,
 ⟨152,.ite .i,[.e 17,.e 16,.e 148]⟩,
 ⟨153,.or,[.e 17,.e 149]⟩]
def Xt:List En:=cK++(aJ)
def jr:List ObE:=[⟨some 39,.owes Nq,[.e 13,.e 14,.e 3,.e 24,.e 26,.e 43,.e 40,.e 39,.c (.int 0),.c (.int 0),.c (.int 0),.c (.int 0)]⟩,
 ⟨some 39,.pre "number.p0" FJ,[.e 3,.e 24,.e 26,.e 29,.e 32]⟩,
 ⟨some 39,.pre "number.p1" FR,[.e 3,.e 24,.e 26,.e 29,.e 32]⟩,
 ⟨some 34,.pre "number.p0" FJ,[.e 3,.e 24,.e 26,.e 11,.e 12]⟩,
 ⟨some 34,.pre "number.p1" FR,[.e 3,.e 24,.e 26,.e 11,.e 12]⟩]
def fE:List Rf:=[.e 150,.e 151,.e 152]
theorem jc:Fr.sees fE (Fr.run Try.prog [(52,J1),(53,GR),(56,Fy),(88,O3)] Ag 3000 20 14)=some ((GN++((Ax Nq [.i,.i,.i,.i] Q2)++(Im++(Xt)))).map En.be,jr.map ObE.be,[]):=by kernel_rfl
theorem ei {T:Tab}(hz0:(S T 0).size≤140737488355328)(hl4:(L T 4).length≤140737488355328)(hl10:(L T 10).length≤140737488355328)(hl14:(L T 14).length≤140737488355328)(g:Ln)(hg:g=Ln.mk (S T 0) (I T 1) (I T 2) (I T 3) (L T 4) (I T 5) (I T 6) (I T 7) (I T 8) (I T 9) (L T 10))(g1:Ln)(z1:g1=Ln.mk (S T 0) (I T 1) (I T 2) (I T 3) (L T 4) (I T 5) (I T 6) (I T 7) (I T 8) (I T 9) (L T 10))(A0:AI T GN):
  (g1=g)∧((I T 16)=A7 g (I T 11) (I T 12))∧(g.wide=I T 1∧g.long=I T 2∧g.yard=I T 3)∧((B T 22)=true↔(A7 g (I T 11) (I T 12)=0∧AT (I T 13) ((L T 14))=0))∧((B T 22)=true→BX (I T 3) (I T 24) (I T 26)∧((I T 24)=I T 1 - 2*I T 3∧I T 26=I T 2 - 2*I T 3)∧((I T 29)=Bj (I T 11) (I T 3) ((I T 1) - (I T 3))∧I T 32=Bj (I T 12) (I T 3) ((I T 2) - (I T 3)))∧I T 43=2*((I T 24)+I T 26)∧AF (I T 11) (I T 12)=true∧AO g=0)∧((B T 22)=true→((B T 37)=true↔(((I T 29)=I T 11∧I T 32=I T 12)∧Ab (I T 3) (I T 24) (I T 26) (I T 11) (I T 12) < 0)))∧((B T 39)=true→BX (I T 3) (I T 24) (I T 26)∧I T 43=2*((I T 24)+I T 26)∧(0≤I T 40∧I T 40 < I T 43)∧(1≤I T 13∧I T 13≤16384)∧((L T 14)).all Aq=true):=by
 obtain⟨F0,A0⟩:=A0.cut
 have F1:=A0;clear A0
 have hg1:g1=g:=by
  rw[z1,hg]
 have h16:(I T 16)=A7 g (I T 11) (I T 12):=by
  obtain⟨e15,e16,-⟩:=F0
  replace e16:I T 16=(Br g1 (L T 15)):=by rw[←show gAt 0 (Bt.map (Rf.eval T))=g1 from z1.symm];exact e16
  simp only[AE,AG,zR,zL,zS,uR,AY,zW] at e15
  rw[e16,hg1,e15]
  exact chk1
 have hw:g.wide=I T 1∧g.long=I T 2∧g.yard=I T 3:=by
  rw[hg];exact⟨rfl,rfl,rfl⟩
 have h22:(B T 22)=true↔(A7 g (I T 11) (I T 12)=0∧AT (I T 13) ((L T 14))=0):=by
  obtain⟨e15,e16,e17,e18,e19,e20,-,e22,-⟩:=F0
  replace e16:I T 16=(Br g1 (L T 15)):=by rw[←show gAt 0 (Bt.map (Rf.eval T))=g1 from z1.symm];exact e16
  replace e19:I T 19=(AT (I T 13) (L T 14)):=e19
  simp only[AE,AG,zN,zR,zL,zS,uR,AY,zW] at*
  rw[←h16,←e19]
  clear hw hg1 h16 e16 e15 e19
  grind
 have hq:(B T 22)=true→BX (I T 3) (I T 24) (I T 26)∧((I T 24)=I T 1 - 2*I T 3∧I T 26=I T 2 - 2*I T 3)∧((I T 29)=Bj (I T 11) (I T 3) ((I T 1) - (I T 3))∧I T 32=Bj (I T 12) (I T 3) ((I T 2) - (I T 3)))∧I T 43=2*((I T 24)+I T 26)∧AF (I T 11) (I T 12)=true∧AO g=0:=by
  obtain⟨e15,e16,e17,e18,e19,e20,-,e22,e23,e24,e25,e26,e27,e28,e29,e30,-⟩:=F0
  obtain⟨e31,e32,-,-,-,-,-,-,-,-,-,e42,e43,-⟩:=F1
  replace e16:I T 16=(Br g1 (L T 15)):=by rw[←show gAt 0 (Bt.map (Rf.eval T))=g1 from z1.symm];exact e16
  replace e19:I T 19=(AT (I T 13) (L T 14)):=e19
  simp only[AE,AG,zN,zR,AS,w2P,zL,zS,uR,AY,zW] at*
  intro h
  have h1:=(h22.1 h).1
  have h2:AO g=0∧AF (I T 11) (I T 12)=true:=by unfold A7 at h1;clear hw h22 h16 e16 e15;grind
  have h3:=CI h2.1
  rw[hw.1,hw.2.1,hw.2.2] at h3
  obtain⟨d0,d7,d8,-⟩:=h3
  obtain⟨⟨d1,d2⟩,⟨d3,d4⟩,d5,d6⟩:=d0
  obtain⟨⟨p1,p2⟩,p3,p4⟩:=Af.1 h2.2
  have x23:=e23 (by omega) (by omega)
  have x24:=e24 (by omega) (by omega)
  have x25:=e25 (by omega) (by omega)
  have x26:=e26 (by omega) (by omega)
  have x28:=e28 (by omega) (by omega)
  have x31:=e31 (by omega) (by omega)
  rw[x23] at x24
  rw[x25] at x26
  have x42:=e42 (by omega) (by omega)
  have x43:=e43 (by omega) (by omega)
  refine⟨⟨⟨d1,d2⟩,by omega,by omega⟩,⟨x24,x26⟩,⟨?_,?_⟩,by rw[x43,x42],h2.2,h2.1⟩
  ·rw[e29,x28];exact SN (by omega) e27
  ·rw[e32,x31];exact SN (by omega) e30
 have h37:(B T 22)=true→((B T 37)=true↔(((I T 29)=I T 11∧I T 32=I T 12)∧Ab (I T 3) (I T 24) (I T 26) (I T 11) (I T 12) < 0)):=by
  obtain⟨e15,e16,e17,e18,e19,e20,-,e22,e23,e24,e25,e26,e27,e28,e29,e30,-⟩:=F0
  obtain⟨e31,e32,e33,-,e35,e36,e37,-⟩:=F1
  replace e16:I T 16=(Br g1 (L T 15)):=by rw[←show gAt 0 (Bt.map (Rf.eval T))=g1 from z1.symm];exact e16
  replace e19:I T 19=(AT (I T 13) (L T 14)):=e19
  replace e35:I T 35=(Ab (I T 3) (I T 24) (I T 26) (I T 11) (I T 12)):=e35
  simp only[AE,AG,zN,zR,Bd,and_true,AS,w2P,zL,zS,uR,AY,zW] at*
  intro _
  rw[e37,e33,e36,e35]
 have hb:(B T 39)=true→BX (I T 3) (I T 24) (I T 26)∧I T 43=2*((I T 24)+I T 26)∧(0≤I T 40∧I T 40 < I T 43)∧(1≤I T 13∧I T 13≤16384)∧((L T 14)).all Aq=true:=by
  obtain⟨e15,e16,e17,e18,e19,e20,-,e22,e23,e24,e25,e26,e27,e28,e29,e30,-⟩:=F0
  obtain⟨e31,e32,e33,-,e35,e36,e37,-,e39,e40,-,e42,e43,-⟩:=F1
  replace e16:I T 16=(Br g1 (L T 15)):=by rw[←show gAt 0 (Bt.map (Rf.eval T))=g1 from z1.symm];exact e16
  replace e19:I T 19=(AT (I T 13) (L T 14)):=e19
  replace e35:I T 35=(Ab (I T 3) (I T 24) (I T 26) (I T 11) (I T 12)):=e35
  replace e40:I T 40=(Ab (I T 3) (I T 24) (I T 26) (I T 29) (I T 32)):=e40
  simp only[AE,AG,zN,zR,Bd,and_true,AS,w2P,zL,zS,uR,AY,zW] at*
  intro h
  have h1:=e39.1 h
  obtain⟨q1,q2,q3,q4,q5,q6⟩:=hq h1.1
  have hbl:=O2 (h22.1 h1.1).2
  refine⟨q1,q4,?_,Bp.1 hbl.1,hbl.2.2⟩
  have d:=q1
  obtain⟨⟨d1,d2⟩,⟨d3,d4⟩,d5,d6⟩:=d
  have hl:=Xl (y:=I T 3) (w:=I T 24) (h:=I T 26) (px:=I T 29) (py:=I T 32) d3 d5
  rw[e40,q4]
  refine⟨?_,hl.1⟩
  have h37:=h37 h1.1
  by_cases k:(I T 29)=I T 11∧I T 32=I T 12
  ·have:¬Ab (I T 3) (I T 24) (I T 26) (I T 11) (I T 12) < 0:=fun hc=>by have:=h37.2 ⟨k,hc⟩;simp[h1.2] at this
   rw[k.1,k.2];omega
  ·exact QN (px:=I T 11) (py:=I T 12) d3 d5 (by rw[q3.1,show (I T 1) - (I T 3)=I T 3+(I T 24) by omega]) (by rw[q3.2,show (I T 2) - (I T 3)=I T 3+(I T 26) by omega]) k
 exact⟨hg1,h16,hw,h22,hq,h37,hb⟩
theorem cS {T:Tab}(gb:(B T 39)=true→BX (I T 3) (I T 24) (I T 26)∧I T 43=2*((I T 24)+I T 26)∧(0≤I T 40∧I T 40 < I T 43)∧(1≤I T 13∧I T 13≤16384)∧((L T 14)).all Aq=true)(gl:((L T 14)).length≤140737488355328)(gt:0≤I T 44∧I T 47=0)(C0_0:AI T DZ):
  ((B T 50)=true→B T 39=true∧((I T 53)=((I T 40)+I T 44) % (I T 43)∧0≤I T 53∧I T 53 < I T 43)∧((0≤I T 54∧I T 54≤8388608)∧(0≤I T 55∧I T 55≤8388608)))∧((I T 56)=((L T 14)).length∧((L T 14)).length≤140737488355328):=by
 have F0:=C0_0;clear C0_0
 have k1:(B T 50)=true→B T 39=true∧((I T 53)=((I T 40)+I T 44) % (I T 43)∧0≤I T 53∧I T 53 < I T 43)∧((0≤I T 54∧I T 54≤8388608)∧(0≤I T 55∧I T 55≤8388608)):=by
  obtain⟨e48,e49,e50,-,e52,e53,e54,e55,-⟩:=F0
  replace e54:I T 54=(Ad (I T 3) (I T 24) (I T 26) (I T 53)):=e54
  replace e55:I T 55=(Ac (I T 3) (I T 24) (I T 26) (I T 53)):=e55
  simp only[AE,AG,zR,AS,w2P] at*
  intro h
  have h1:=e50.1 h
  obtain⟨d1,d2,d3,d4,d5⟩:=gb h1.1
  have d7:=d1
  obtain⟨⟨c1,c2⟩,⟨c3,c4⟩,c5,c6⟩:=d7
  have h2:(I T 44)≤(I T 43) / 2:=by have:=e49.1 h1.2;rwa [e48,if_pos (by omega)] at this
  have x52:=e52 (by omega) (by omega)
  have x53:(I T 53)=((I T 40)+I T 44) % (I T 43):=by rw[e53,if_pos (by omega),x52]
  have y1:=Int.emod_nonneg ((I T 40)+I T 44) (show (I T 43)≠0 by omega)
  have y2:=Int.emod_lt_of_pos ((I T 40)+I T 44) (show 0 < (I T 43) by omega)
  rw[←x53] at y1 y2
  have ha:=Ns d1 y1 (by omega)
  rw[←e54,←e55] at ha
  exact⟨h1.1,⟨x53,y1,y2⟩,by omega,by omega⟩
 have h56:(I T 56)=((L T 14)).length∧((L T 14)).length≤140737488355328:=by
  obtain⟨-,-,-,-,-,-,-,-,e56,-⟩:=F0
  simp only[AE,zR,zL] at e56
  exact⟨e56,gl⟩
 exact⟨k1,h56⟩
theorem gB {T:Tab}(gb:(B T 39)=true→BX (I T 3) (I T 24) (I T 26)∧I T 43=2*((I T 24)+I T 26)∧(0≤I T 40∧I T 40 < I T 43)∧(1≤I T 13∧I T 13≤16384)∧((L T 14)).all Aq=true)(k1:(B T 50)=true→B T 39=true∧((I T 53)=((I T 40)+I T 44) % (I T 43)∧0≤I T 53∧I T 53 < I T 43)∧((0≤I T 54∧I T 54≤8388608)∧(0≤I T 55∧I T 55≤8388608)))(h56:(I T 56)=((L T 14)).length∧((L T 14)).length≤140737488355328)(hS:AL T (Am (hds 44 [.i,.i,.i,.i]++Gm [13,14,3,24,26,43,40,39] (Am (BG 0 Fr.ks) GN)) DZ))(hB:AX T (DJ.map En.be))(hH:AX T ((Ax Ko [.i] N1).map En.be)):
  (Ko).owes (N1.map (Rf.eval T))∧AL T (hds 57 [.i])∧(0≤I T 57∧((I T 57)≤I T 56)∧∀q:Nat,(q:Int) < I T 57→¬sq (I T 54) (I T 55) (AA ((L T 14)) q 0) (AA ((L T 14)) q 1) < ((I T 13)+AA ((L T 14)) q 2)*((I T 13)+AA ((L T 14)) q 2))∧¬B T 73=true:=by
 refine BS (nh:=57) (k:=1) (pcn:=73) (top:=75) (bes:=DJ) (bos:=Xy) (nxt:=[.e 74]) (inits:=[.c (.int 0)]) (fv:=[13,55,54,14,50,56]) (tys:=[.i]) (by kernel_rfl) rfl rfl rfl rfl hS (by kernel_rfl) (by kernel_rfl) hB (Ay hH) (fun s=>0≤(aI s 0)∧((aI s 0)≤I T 56)∧∀q:Nat,(q:Int) < (aI s 0)→¬sq (I T 54) (I T 55) (AA ((L T 14)) q 0) (AA ((L T 14)) q 1) < ((I T 13)+AA ((L T 14)) q 2)*((I T 13)+AA ((L T 14)) q 2)) (fun s=>((I T 56) - (aI s 0)).toNat) ?_ ?_
 ·show 0≤(0:Int)∧((0:Int)≤I T 56)∧∀q:Nat,(q:Int) < (0:Int)→¬sq (I T 54) (I T 55) (AA ((L T 14)) q 0) (AA ((L T 14)) q 1) < ((I T 13)+AA ((L T 14)) q 2)*((I T 13)+AA ((L T 14)) q 2)
  clear hS hB hH
  exact⟨by omega,by omega,fun q h=>absurd h (by omega)⟩
 ·intro T2 hfv hF inv
  replace inv:0≤I T2 57∧((I T2 57)≤I T 56)∧∀q:Nat,(q:Int) < I T2 57→¬sq (I T 54) (I T 55) (AA ((L T 14)) q 0) (AA ((L T 14)) q 1) < ((I T 13)+AA ((L T 14)) q 2)*((I T 13)+AA ((L T 14)) q 2):=inv
  clear hS hB hH
  replace hF:AI T2 DJ:=hF
  obtain⟨F0,hF⟩:=hF.cut
  have F1:=hF;clear hF
  have fv13:I T2 13=I T 13:=fvI (hfv 13 (by decide))
  have fv55:I T2 55=I T 55:=fvI (hfv 55 (by decide))
  have fv54:I T2 54=I T 54:=fvI (hfv 54 (by decide))
  have fv14:L T2 14=L T 14:=fvL (hfv 14 (by decide))
  have fv50:B T2 50=B T 50:=fvB (hfv 50 (by decide))
  have fv56:I T2 56=I T 56:=fvI (hfv 56 (by decide))
  clear hfv
  have hx1:(B T2 59)=true→I T2 57 < ((L T 14)).length∧(0≤I T2 57→((B T2 71)=true↔sq (I T 54) (I T 55) (AA ((L T 14)) (I T2 57).toNat 0) (AA ((L T 14)) (I T2 57).toNat 1) < ((I T 13)+AA ((L T 14)) (I T2 57).toNat 2)*((I T 13)+AA ((L T 14)) (I T2 57).toNat 2))):=by
   obtain⟨e58,e59,-,e61,e62,e63,e64,e65,e66,e67,e68,e69,e70,e71,-⟩:=F0
   simp only[AE,AG,zR,w2P,zL] at*
   intro hp
   have h1:=e59.1 hp
   have h2:=e58.1 h1.2
   have hk:=k1 (fv50▸h1.1)
   obtain⟨d1,d2,d3,d4,d5⟩:=gb hk.1
   obtain⟨⟨m1,m2⟩,m3,m4⟩:=hk.2.2
   refine⟨by omega,fun v1=>?_⟩
   obtain⟨pq,p1,p2⟩:=DB.1 (CX.1 d5 (I T2 57).toNat (by omega))
   obtain⟨⟨q1,q2⟩,q3,q4⟩:=Af.1 pq
   rw[fv14] at e61 e62 e63
   rw[←e61] at q1 q2
   rw[←e62] at q3 q4
   rw[←e63] at p1 p2
   have x64:=e64 (by omega) (by omega)
   have x65:=e65 (by omega) (by omega)
   have x66:=e66 (by omega) (by omega)
   have y1:=sqB (a:=I T2 64) (A:=16777216) (by omega)
   have y2:=sqB (a:=I T2 65) (A:=16777216) (by omega)
   have y3:=sqB (a:=I T2 66) (A:=32768) (by omega)
   have x67:=e67 (by omega) (by omega)
   have x68:=e68 (by omega) (by omega)
   have x69:=e69 (by omega) (by omega)
   have x70:=e70 (by omega) (by omega)
   rw[e71,x69,x67,x68,x70]
   unfold sq
   rw[←e61,←e62,←e63,←fv54,←fv55,←fv13,←x64,←x65,←x66]
  suffices hz:(B T2 59=true→0≤I T2 57∧I T2 57 < ((L T2 14)).length)∧(B T2 73=true→(0≤I T2 74∧((I T2 74)≤I T 56)∧∀q:Nat,(q:Int) < I T2 74→¬sq (I T 54) (I T 55) (AA ((L T 14)) q 0) (AA ((L T 14)) q 1) < ((I T 13)+AA ((L T 14)) q 2)*((I T 13)+AA ((L T 14)) q 2)))∧(B T2 73=true→((I T 56) - (I T2 74)).toNat < ((I T 56) - (I T2 57)).toNat) from
   let⟨r0,nx,mz⟩:=hz;⟨⟨r0,trivial⟩,fun hp=>⟨nx hp,mz hp⟩⟩
  refine⟨?_,?_,?_⟩
  ·obtain⟨e58,e59,-⟩:=F0
   simp only[AE,AG,zR] at e58 e59
   obtain⟨v1,v2,v3⟩:=inv
   intro hp
   have h:=e58.1 (e59.1 hp).2
   rw[fv14]
   omega
  ·obtain⟨e58,e59,-,e61,e62,e63,e64,e65,e66,e67,e68,e69,e70,e71,-,e73,-⟩:=F0
   obtain⟨e74,-⟩:=F1
   simp only[AE,AG,zN,zR,w2P,zL] at*
   obtain⟨v1,v2,v3⟩:=inv
   intro hp
   have hq:=e73.1 hp
   obtain⟨h1,h2⟩:=hx1 hq.1
   have h2:=h2 v1
   have e:(I T2 74)=I T2 57+1:=e74 (by omega) (by omega)
   refine⟨by omega,by omega,fun q hq'=>?_⟩
   by_cases hq2:(q:Int) < I T2 57
   ·exact v3 q hq2
   obtain rfl:q=(I T2 57).toNat:=by omega
   intro hc
   have h44:=h2.2 hc
   have z:=hq.2
   simp[h44] at z
  ·obtain⟨e58,e59,-,e61,e62,e63,e64,e65,e66,e67,e68,e69,e70,e71,-,e73,-⟩:=F0
   obtain⟨e74,-⟩:=F1
   simp only[AE,AG,zN,zR,w2P,zL] at*
   obtain⟨v1,v2,v3⟩:=inv
   intro hp
   have hq:=e73.1 hp
   obtain⟨h1,h2⟩:=hx1 hq.1
   have e:(I T2 74)=I T2 57+1:=e74 (by omega) (by omega)
   omega
theorem eQ {T:Tab}(gb:(B T 39)=true→BX (I T 3) (I T 24) (I T 26)∧I T 43=2*((I T 24)+I T 26)∧(0≤I T 40∧I T 40 < I T 43)∧(1≤I T 13∧I T 13≤16384)∧((L T 14)).all Aq=true)(gl:((L T 14)).length≤140737488355328)(gt:0≤I T 44∧I T 47=0)(k1:(B T 50)=true→B T 39=true∧((I T 53)=((I T 40)+I T 44) % (I T 43)∧0≤I T 53∧I T 53 < I T 43)∧((0≤I T 54∧I T 54≤8388608)∧(0≤I T 55∧I T 55≤8388608)))(h56:(I T 56)=((L T 14)).length∧((L T 14)).length≤140737488355328)(inv1:0≤I T 57∧((I T 57)≤I T 56)∧∀q:Nat,(q:Int) < I T 57→¬sq (I T 54) (I T 55) (AA ((L T 14)) q 0) (AA ((L T 14)) q 1) < ((I T 13)+AA ((L T 14)) q 2)*((I T 13)+AA ((L T 14)) q 2))(np1:¬B T 73=true)(C0_0:AI T DZ)(B1:AI T DJ)(C0_1:AI T Ez):
  ((B T 92)=true→B T 39=true∧((I T 93)=((I T 40) - (I T 44)+I T 43) % (I T 43)∧0≤I T 93∧I T 93 < I T 43)∧((0≤I T 94∧I T 94≤8388608)∧(0≤I T 95∧I T 95≤8388608)))∧((I T 96)=((L T 14)).length∧((L T 14)).length≤140737488355328):=by
 have F0:=C0_0;clear C0_0
 obtain⟨F1,B1⟩:=B1.cut
 have F2:=B1;clear B1
 obtain⟨F3,C0_1⟩:=C0_1.cut
 have F4:=C0_1;clear C0_1
 have k2:(B T 92)=true→B T 39=true∧((I T 93)=((I T 40) - (I T 44)+I T 43) % (I T 43)∧0≤I T 93∧I T 93 < I T 43)∧((0≤I T 94∧I T 94≤8388608)∧(0≤I T 95∧I T 95≤8388608)):=by
  obtain⟨e48,e49,e50,-,e52,e53,e54,e55,e56,-⟩:=F0
  obtain⟨e58,e59,-,e61,e62,e63,e64,e65,e66,e67,e68,e69,e70,e71,e72,-⟩:=F1
  obtain⟨e75,-,e77,e78,-,-,-,-,e83,-,-,-,-,-,e89,-⟩:=F3
  obtain⟨e91,e92,e93,e94,e95,-⟩:=F4
  replace e54:I T 54=(Ad (I T 3) (I T 24) (I T 26) (I T 53)):=e54
  replace e55:I T 55=(Ac (I T 3) (I T 24) (I T 26) (I T 53)):=e55
  replace e94:I T 94=(Ad (I T 3) (I T 24) (I T 26) (I T 93)):=e94
  replace e95:I T 95=(Ac (I T 3) (I T 24) (I T 26) (I T 93)):=e95
  simp only[AE,AG,zC,zR,AS,w2P,zL] at*
  intro h
  have h0:=e92.1 h
  have h1:=e50.1 h0.1
  obtain⟨d1,d2,d3,d4,d5⟩:=gb h1.1
  have d7:=d1
  obtain⟨⟨c1,c2⟩,⟨c3,c4⟩,c5,c6⟩:=d7
  have h2:(I T 44)≤(I T 43) / 2:=by have:=e49.1 h1.2;rwa [e48,if_pos (by omega)] at this
  have x89:=e89 (by omega) (by omega)
  have x91:=e91 (by omega) (by omega)
  rw[x89] at x91
  have x93:(I T 93)=((I T 40) - (I T 44)+I T 43) % (I T 43):=by rw[e93,if_pos (by omega),x91]
  have y1:=Int.emod_nonneg ((I T 40) - (I T 44)+I T 43) (show (I T 43)≠0 by omega)
  have y2:=Int.emod_lt_of_pos ((I T 40) - (I T 44)+I T 43) (show 0 < (I T 43) by omega)
  rw[←x93] at y1 y2
  have ha:=Ns d1 y1 (by omega)
  rw[←e94,←e95] at ha
  exact⟨h1.1,⟨x93,y1,y2⟩,by omega,by omega⟩
 have h96:(I T 96)=((L T 14)).length∧((L T 14)).length≤140737488355328:=by
  obtain⟨-,-,-,-,-,e96,-⟩:=F4
  simp only[AE,zR,zL] at e96
  exact⟨e96,gl⟩
 exact⟨k2,h96⟩
theorem gQ {T:Tab}(gb:(B T 39)=true→BX (I T 3) (I T 24) (I T 26)∧I T 43=2*((I T 24)+I T 26)∧(0≤I T 40∧I T 40 < I T 43)∧(1≤I T 13∧I T 13≤16384)∧((L T 14)).all Aq=true)(k2:(B T 92)=true→B T 39=true∧((I T 93)=((I T 40) - (I T 44)+I T 43) % (I T 43)∧0≤I T 93∧I T 93 < I T 43)∧((0≤I T 94∧I T 94≤8388608)∧(0≤I T 95∧I T 95≤8388608)))(h96:(I T 96)=((L T 14)).length∧((L T 14)).length≤140737488355328)(hS:AL T (Am (Am (hds 57 [.i]++Am (hds 44 [.i,.i,.i,.i]++Gm [13,14,3,24,26,43,40,39] (Am (BG 0 Fr.ks) GN)) DZ) DJ) Ez))(hB:AX T (ES.map En.be))(hH:AX T ((Ax LN [.i] OD).map En.be)):
  (LN).owes (OD.map (Rf.eval T))∧AL T (hds 97 [.i])∧(0≤I T 97∧((I T 97)≤I T 96)∧∀q:Nat,(q:Int) < I T 97→¬sq (I T 94) (I T 95) (AA ((L T 14)) q 0) (AA ((L T 14)) q 1) < ((I T 13)+AA ((L T 14)) q 2)*((I T 13)+AA ((L T 14)) q 2))∧¬B T 113=true:=by
 refine BS (nh:=97) (k:=1) (pcn:=113) (top:=115) (bes:=ES) (bos:=X1) (nxt:=[.e 114]) (inits:=[.c (.int 0)]) (fv:=[13,95,94,14,92,96]) (tys:=[.i]) (by kernel_rfl) rfl rfl rfl rfl hS (by kernel_rfl) (by kernel_rfl) hB (Ay hH) (fun s=>0≤(aI s 0)∧((aI s 0)≤I T 96)∧∀q:Nat,(q:Int) < (aI s 0)→¬sq (I T 94) (I T 95) (AA ((L T 14)) q 0) (AA ((L T 14)) q 1) < ((I T 13)+AA ((L T 14)) q 2)*((I T 13)+AA ((L T 14)) q 2)) (fun s=>((I T 96) - (aI s 0)).toNat) ?_ ?_
 ·show 0≤(0:Int)∧((0:Int)≤I T 96)∧∀q:Nat,(q:Int) < (0:Int)→¬sq (I T 94) (I T 95) (AA ((L T 14)) q 0) (AA ((L T 14)) q 1) < ((I T 13)+AA ((L T 14)) q 2)*((I T 13)+AA ((L T 14)) q 2)
  clear hS hB hH
  exact⟨by omega,by omega,fun q h=>absurd h (by omega)⟩
 ·intro T2 hfv hF inv
  replace inv:0≤I T2 97∧((I T2 97)≤I T 96)∧∀q:Nat,(q:Int) < I T2 97→¬sq (I T 94) (I T 95) (AA ((L T 14)) q 0) (AA ((L T 14)) q 1) < ((I T 13)+AA ((L T 14)) q 2)*((I T 13)+AA ((L T 14)) q 2):=inv
  clear hS hB hH
  replace hF:AI T2 ES:=hF
  obtain⟨F0,hF⟩:=hF.cut
  have F1:=hF;clear hF
  have fv13:I T2 13=I T 13:=fvI (hfv 13 (by decide))
  have fv95:I T2 95=I T 95:=fvI (hfv 95 (by decide))
  have fv94:I T2 94=I T 94:=fvI (hfv 94 (by decide))
  have fv14:L T2 14=L T 14:=fvL (hfv 14 (by decide))
  have fv92:B T2 92=B T 92:=fvB (hfv 92 (by decide))
  have fv96:I T2 96=I T 96:=fvI (hfv 96 (by decide))
  clear hfv
  have hx2:(B T2 99)=true→I T2 97 < ((L T 14)).length∧(0≤I T2 97→((B T2 111)=true↔sq (I T 94) (I T 95) (AA ((L T 14)) (I T2 97).toNat 0) (AA ((L T 14)) (I T2 97).toNat 1) < ((I T 13)+AA ((L T 14)) (I T2 97).toNat 2)*((I T 13)+AA ((L T 14)) (I T2 97).toNat 2))):=by
   obtain⟨e98,e99,-,e101,e102,e103,e104,e105,e106,e107,e108,e109,e110,e111,-⟩:=F0
   simp only[AE,AG,zR,w2P,zL] at*
   intro hp
   have h1:=e99.1 hp
   have h2:=e98.1 h1.2
   have hk:=k2 (fv92▸h1.1)
   obtain⟨d1,d2,d3,d4,d5⟩:=gb hk.1
   obtain⟨⟨m1,m2⟩,m3,m4⟩:=hk.2.2
   refine⟨by omega,fun v1=>?_⟩
   obtain⟨pq,p1,p2⟩:=DB.1 (CX.1 d5 (I T2 97).toNat (by omega))
   obtain⟨⟨q1,q2⟩,q3,q4⟩:=Af.1 pq
   rw[fv14] at e101 e102 e103
   rw[←e101] at q1 q2
   rw[←e102] at q3 q4
   rw[←e103] at p1 p2
   have x104:=e104 (by omega) (by omega)
   have x105:=e105 (by omega) (by omega)
   have x106:=e106 (by omega) (by omega)
   have y1:=sqB (a:=I T2 104) (A:=16777216) (by omega)
   have y2:=sqB (a:=I T2 105) (A:=16777216) (by omega)
   have y3:=sqB (a:=I T2 106) (A:=32768) (by omega)
   have x107:=e107 (by omega) (by omega)
   have x108:=e108 (by omega) (by omega)
   have x109:=e109 (by omega) (by omega)
   have x110:=e110 (by omega) (by omega)
   rw[e111,x109,x107,x108,x110]
   unfold sq
   rw[←e101,←e102,←e103,←fv94,←fv95,←fv13,←x104,←x105,←x106]
  suffices hz:(B T2 99=true→0≤I T2 97∧I T2 97 < ((L T2 14)).length)∧(B T2 113=true→(0≤I T2 114∧((I T2 114)≤I T 96)∧∀q:Nat,(q:Int) < I T2 114→¬sq (I T 94) (I T 95) (AA ((L T 14)) q 0) (AA ((L T 14)) q 1) < ((I T 13)+AA ((L T 14)) q 2)*((I T 13)+AA ((L T 14)) q 2)))∧(B T2 113=true→((I T 96) - (I T2 114)).toNat < ((I T 96) - (I T2 97)).toNat) from
   let⟨r0,nx,mz⟩:=hz;⟨⟨r0,trivial⟩,fun hp=>⟨nx hp,mz hp⟩⟩
  refine⟨?_,?_,?_⟩
  ·obtain⟨e98,e99,-⟩:=F0
   simp only[AE,AG,zR] at e98 e99
   obtain⟨v1,v2,v3⟩:=inv
   intro hp
   have h:=e98.1 (e99.1 hp).2
   rw[fv14]
   omega
  ·obtain⟨e98,e99,-,e101,e102,e103,e104,e105,e106,e107,e108,e109,e110,e111,-,e113,-⟩:=F0
   obtain⟨e114,-⟩:=F1
   simp only[AE,AG,zN,zR,w2P,zL] at*
   obtain⟨v1,v2,v3⟩:=inv
   intro hp
   have hq:=e113.1 hp
   obtain⟨h1,h2⟩:=hx2 hq.1
   have h2:=h2 v1
   have e:(I T2 114)=I T2 97+1:=e114 (by omega) (by omega)
   refine⟨by omega,by omega,fun q hq'=>?_⟩
   by_cases hq2:(q:Int) < I T2 97
   ·exact v3 q hq2
   obtain rfl:q=(I T2 97).toNat:=by omega
   intro hc
   have h44:=h2.2 hc
   have z:=hq.2
   simp[h44] at z
  ·obtain⟨e98,e99,-,e101,e102,e103,e104,e105,e106,e107,e108,e109,e110,e111,-,e113,-⟩:=F0
   obtain⟨e114,-⟩:=F1
   simp only[AE,AG,zN,zR,w2P,zL] at*
   obtain⟨v1,v2,v3⟩:=inv
   intro hp
   have hq:=e113.1 hp
   obtain⟨h1,h2⟩:=hx2 hq.1
   have e:(I T2 114)=I T2 97+1:=e114 (by omega) (by omega)
   omega
theorem cV {T:Tab}(gb:(B T 39)=true→BX (I T 3) (I T 24) (I T 26)∧I T 43=2*((I T 24)+I T 26)∧(0≤I T 40∧I T 40 < I T 43)∧(1≤I T 13∧I T 13≤16384)∧((L T 14)).all Aq=true)(gl:((L T 14)).length≤140737488355328)(gt:0≤I T 44∧I T 47=0)(k1:(B T 50)=true→B T 39=true∧((I T 53)=((I T 40)+I T 44) % (I T 43)∧0≤I T 53∧I T 53 < I T 43)∧((0≤I T 54∧I T 54≤8388608)∧(0≤I T 55∧I T 55≤8388608)))(h56:(I T 56)=((L T 14)).length∧((L T 14)).length≤140737488355328)(inv1:0≤I T 57∧((I T 57)≤I T 56)∧∀q:Nat,(q:Int) < I T 57→¬sq (I T 54) (I T 55) (AA ((L T 14)) q 0) (AA ((L T 14)) q 1) < ((I T 13)+AA ((L T 14)) q 2)*((I T 13)+AA ((L T 14)) q 2))(np1:¬B T 73=true)(k2:(B T 92)=true→B T 39=true∧((I T 93)=((I T 40) - (I T 44)+I T 43) % (I T 43)∧0≤I T 93∧I T 93 < I T 43)∧((0≤I T 94∧I T 94≤8388608)∧(0≤I T 95∧I T 95≤8388608)))(h96:(I T 96)=((L T 14)).length∧((L T 14)).length≤140737488355328)(inv2:0≤I T 97∧((I T 97)≤I T 96)∧∀q:Nat,(q:Int) < I T 97→¬sq (I T 94) (I T 95) (AA ((L T 14)) q 0) (AA ((L T 14)) q 1) < ((I T 13)+AA ((L T 14)) q 2)*((I T 13)+AA ((L T 14)) q 2))(np2:¬B T 113=true)(C0_0:AI T DZ)(B1:AI T DJ)(C0_1:AI T Ez)(B2:AI T ES)(C0_2:AI T IA):
  ((B T 59)=true→I T 57 < ((L T 14)).length∧(0≤I T 57→((B T 71)=true↔sq (I T 54) (I T 55) (AA ((L T 14)) (I T 57).toNat 0) (AA ((L T 14)) (I T 57).toNat 1) < ((I T 13)+AA ((L T 14)) (I T 57).toNat 2)*((I T 13)+AA ((L T 14)) (I T 57).toNat 2))))∧((B T 50)=true→((B T 78)=false↔Aw (I T 3) (I T 24) (I T 26) (I T 13) ((L T 14)) (((I T 40)+I T 44) % (I T 43))=true))∧((B T 99)=true→I T 97 < ((L T 14)).length∧(0≤I T 97→((B T 111)=true↔sq (I T 94) (I T 95) (AA ((L T 14)) (I T 97).toNat 0) (AA ((L T 14)) (I T 97).toNat 1) < ((I T 13)+AA ((L T 14)) (I T 97).toNat 2)*((I T 13)+AA ((L T 14)) (I T 97).toNat 2))))∧((B T 92)=true→((B T 118)=false↔Aw (I T 3) (I T 24) (I T 26) (I T 13) ((L T 14)) (((I T 40) - (I T 44)+I T 43) % (I T 43))=true)):=by
 have F0:=C0_0;clear C0_0
 obtain⟨F1,B1⟩:=B1.cut
 have F2:=B1;clear B1
 obtain⟨F3,C0_1⟩:=C0_1.cut
 have F4:=C0_1;clear C0_1
 obtain⟨F5,B2⟩:=B2.cut
 have F6:=B2;clear B2
 have F7:=C0_2;clear C0_2
 have hx1:(B T 59)=true→I T 57 < ((L T 14)).length∧(0≤I T 57→((B T 71)=true↔sq (I T 54) (I T 55) (AA ((L T 14)) (I T 57).toNat 0) (AA ((L T 14)) (I T 57).toNat 1) < ((I T 13)+AA ((L T 14)) (I T 57).toNat 2)*((I T 13)+AA ((L T 14)) (I T 57).toNat 2))):=by
  obtain⟨e48,e49,e50,-,e52,e53,e54,e55,e56,-⟩:=F0
  obtain⟨e58,e59,-,e61,e62,e63,e64,e65,e66,e67,e68,e69,e70,e71,-⟩:=F1
  replace e54:I T 54=(Ad (I T 3) (I T 24) (I T 26) (I T 53)):=e54
  replace e55:I T 55=(Ac (I T 3) (I T 24) (I T 26) (I T 53)):=e55
  simp only[AE,AG,zR,AS,w2P,zL] at*
  intro hp
  have h1:=e59.1 hp
  have h2:=e58.1 h1.2
  have hk:=k1 h1.1
  obtain⟨d1,d2,d3,d4,d5⟩:=gb hk.1
  obtain⟨⟨m1,m2⟩,m3,m4⟩:=hk.2.2
  refine⟨by omega,fun v1=>?_⟩
  obtain⟨pq,p1,p2⟩:=DB.1 (CX.1 d5 (I T 57).toNat (by omega))
  obtain⟨⟨q1,q2⟩,q3,q4⟩:=Af.1 pq
  rw[←e61] at q1 q2
  rw[←e62] at q3 q4
  rw[←e63] at p1 p2
  have x64:=e64 (by omega) (by omega)
  have x65:=e65 (by omega) (by omega)
  have x66:=e66 (by omega) (by omega)
  have y1:=sqB (a:=I T 64) (A:=16777216) (by omega)
  have y2:=sqB (a:=I T 65) (A:=16777216) (by omega)
  have y3:=sqB (a:=I T 66) (A:=32768) (by omega)
  have x67:=e67 (by omega) (by omega)
  have x68:=e68 (by omega) (by omega)
  have x69:=e69 (by omega) (by omega)
  have x70:=e70 (by omega) (by omega)
  rw[e71,x69,x67,x68,x70]
  unfold sq
  rw[←e61,←e62,←e63,←x64,←x65,←x66]
 have f1:(B T 50)=true→((B T 78)=false↔Aw (I T 3) (I T 24) (I T 26) (I T 13) ((L T 14)) (((I T 40)+I T 44) % (I T 43))=true):=by
  obtain⟨e48,e49,e50,-,e52,e53,e54,e55,e56,-⟩:=F0
  obtain⟨e58,e59,-,e61,e62,e63,e64,e65,e66,e67,e68,e69,e70,e71,e72,e73,-⟩:=F1
  obtain⟨e75,-,e77,e78,-⟩:=F3
  replace e54:I T 54=(Ad (I T 3) (I T 24) (I T 26) (I T 53)):=e54
  replace e55:I T 55=(Ac (I T 3) (I T 24) (I T 26) (I T 53)):=e55
  simp only[AE,AG,zN,zR,AS,w2P,zL] at*
  intro hb
  obtain⟨v1,v2,v3⟩:=inv1
  have hk:=k1 hb
  have ho:(B T 78)=false↔B T 72=false:=by
   have:=e78
   have:=e77
   have:=e75
   clear v3 hx1 gb
   grind
  rw[ho]
  unfold Aw
  rw[←hk.2.1.1,←e54,←e55,UJ]
  constructor
  ·intro h
   have h2:¬I T 57 < ((L T 14)).length:=fun h2=>by
    have hc:(B T 59)=true:=e59.2 ⟨hb,e58.2 (by omega)⟩
    cases k:(B T 71) with
    |true=>have z:=e72.2 ⟨hc,k⟩;simp[h] at z
    |false=>have z:=e73.2 ⟨hc,k⟩;simp[np1] at z
   exact fun j hj=>v3 j (by omega)
  ·intro hall
   cases k:(B T 72) with
   |false=>rfl
   |true=>
    have h1:=e72.1 k
    obtain⟨h2,h3⟩:=hx1 h1.1
    exact absurd ((h3 v1).1 h1.2) (hall (I T 57).toNat (by omega))
 have hx2:(B T 99)=true→I T 97 < ((L T 14)).length∧(0≤I T 97→((B T 111)=true↔sq (I T 94) (I T 95) (AA ((L T 14)) (I T 97).toNat 0) (AA ((L T 14)) (I T 97).toNat 1) < ((I T 13)+AA ((L T 14)) (I T 97).toNat 2)*((I T 13)+AA ((L T 14)) (I T 97).toNat 2))):=by
  obtain⟨e48,e49,e50,-,e52,e53,e54,e55,e56,-⟩:=F0
  obtain⟨e58,e59,-,e61,e62,e63,e64,e65,e66,e67,e68,e69,e70,e71,e72,-⟩:=F1
  obtain⟨e75,-,e77,e78,-,-,-,-,e83,-,-,-,-,-,e89,-⟩:=F3
  obtain⟨e91,e92,e93,e94,e95,e96,-⟩:=F4
  obtain⟨e98,e99,-,e101,e102,e103,e104,e105,e106,e107,e108,e109,e110,e111,-⟩:=F5
  replace e54:I T 54=(Ad (I T 3) (I T 24) (I T 26) (I T 53)):=e54
  replace e55:I T 55=(Ac (I T 3) (I T 24) (I T 26) (I T 53)):=e55
  replace e94:I T 94=(Ad (I T 3) (I T 24) (I T 26) (I T 93)):=e94
  replace e95:I T 95=(Ac (I T 3) (I T 24) (I T 26) (I T 93)):=e95
  simp only[AE,AG,zC,zR,AS,w2P,zL] at*
  intro hp
  have h1:=e99.1 hp
  have h2:=e98.1 h1.2
  have hk:=k2 h1.1
  obtain⟨d1,d2,d3,d4,d5⟩:=gb hk.1
  obtain⟨⟨m1,m2⟩,m3,m4⟩:=hk.2.2
  refine⟨by omega,fun v1=>?_⟩
  obtain⟨pq,p1,p2⟩:=DB.1 (CX.1 d5 (I T 97).toNat (by omega))
  obtain⟨⟨q1,q2⟩,q3,q4⟩:=Af.1 pq
  rw[←e101] at q1 q2
  rw[←e102] at q3 q4
  rw[←e103] at p1 p2
  have x104:=e104 (by omega) (by omega)
  have x105:=e105 (by omega) (by omega)
  have x106:=e106 (by omega) (by omega)
  have y1:=sqB (a:=I T 104) (A:=16777216) (by omega)
  have y2:=sqB (a:=I T 105) (A:=16777216) (by omega)
  have y3:=sqB (a:=I T 106) (A:=32768) (by omega)
  have x107:=e107 (by omega) (by omega)
  have x108:=e108 (by omega) (by omega)
  have x109:=e109 (by omega) (by omega)
  have x110:=e110 (by omega) (by omega)
  rw[e111,x109,x107,x108,x110]
  unfold sq
  rw[←e101,←e102,←e103,←x104,←x105,←x106]
 have f2:(B T 92)=true→((B T 118)=false↔Aw (I T 3) (I T 24) (I T 26) (I T 13) ((L T 14)) (((I T 40) - (I T 44)+I T 43) % (I T 43))=true):=by
  obtain⟨e48,e49,e50,-,e52,e53,e54,e55,e56,-⟩:=F0
  obtain⟨e58,e59,-,e61,e62,e63,e64,e65,e66,e67,e68,e69,e70,e71,e72,-⟩:=F1
  obtain⟨e75,-,e77,e78,-,-,-,-,e83,-,-,-,-,-,e89,-⟩:=F3
  obtain⟨e91,e92,e93,e94,e95,e96,-⟩:=F4
  obtain⟨e98,e99,-,e101,e102,e103,e104,e105,e106,e107,e108,e109,e110,e111,e112,e113,-⟩:=F5
  obtain⟨e115,-,e117,e118,-⟩:=F7
  replace e54:I T 54=(Ad (I T 3) (I T 24) (I T 26) (I T 53)):=e54
  replace e55:I T 55=(Ac (I T 3) (I T 24) (I T 26) (I T 53)):=e55
  replace e94:I T 94=(Ad (I T 3) (I T 24) (I T 26) (I T 93)):=e94
  replace e95:I T 95=(Ac (I T 3) (I T 24) (I T 26) (I T 93)):=e95
  simp only[AE,AG,zN,zC,zR,AS,w2P,zL] at*
  intro hb
  obtain⟨v1,v2,v3⟩:=inv2
  have hk:=k2 hb
  have ho:(B T 118)=false↔B T 112=false:=by
   have:=e118
   have:=e117
   have:=e115
   clear v3 hx2 gb
   grind
  rw[ho]
  unfold Aw
  rw[←hk.2.1.1,←e94,←e95,UJ]
  constructor
  ·intro h
   have h2:¬I T 97 < ((L T 14)).length:=fun h2=>by
    have hc:(B T 99)=true:=e99.2 ⟨hb,e98.2 (by omega)⟩
    cases k:(B T 111) with
    |true=>have z:=e112.2 ⟨hc,k⟩;simp[h] at z
    |false=>have z:=e113.2 ⟨hc,k⟩;simp[np2] at z
   exact fun j hj=>v3 j (by omega)
  ·intro hall
   cases k:(B T 112) with
   |false=>rfl
   |true=>
    have h1:=e112.1 k
    obtain⟨h2,h3⟩:=hx2 h1.1
    exact absurd ((h3 v1).1 h1.2) (hall (I T 97).toNat (by omega))
 exact⟨hx1,f1,hx2,f2⟩
theorem Xg {T:Tab}(gb:(B T 39)=true→BX (I T 3) (I T 24) (I T 26)∧I T 43=2*((I T 24)+I T 26)∧(0≤I T 40∧I T 40 < I T 43)∧(1≤I T 13∧I T 13≤16384)∧((L T 14)).all Aq=true)(gl:((L T 14)).length≤140737488355328)(gt:0≤I T 44∧I T 47=0)(hS:AL T (hds 44 [.i,.i,.i,.i]++Gm [13,14,3,24,26,43,40,39] (Am (BG 0 Fr.ks) GN)))(hE:AX T (Im.map En.be)):
  (AI T DZ)∧((B T 50)=true→B T 39=true∧((I T 53)=((I T 40)+I T 44) % (I T 43)∧0≤I T 53∧I T 53 < I T 43)∧((0≤I T 54∧I T 54≤8388608)∧(0≤I T 55∧I T 55≤8388608)))∧((I T 56)=((L T 14)).length∧((L T 14)).length≤140737488355328)∧((Ko).owes (N1.map (Rf.eval T)))∧(0≤I T 57∧((I T 57)≤I T 56)∧∀q:Nat,(q:Int) < I T 57→¬sq (I T 54) (I T 55) (AA ((L T 14)) q 0) (AA ((L T 14)) q 1) < ((I T 13)+AA ((L T 14)) q 2)*((I T 13)+AA ((L T 14)) q 2))∧(¬B T 73=true)∧(AI T DJ)∧(AI T Ez)∧((B T 92)=true→B T 39=true∧((I T 93)=((I T 40) - (I T 44)+I T 43) % (I T 43)∧0≤I T 93∧I T 93 < I T 43)∧((0≤I T 94∧I T 94≤8388608)∧(0≤I T 95∧I T 95≤8388608)))∧((I T 96)=((L T 14)).length∧((L T 14)).length≤140737488355328)∧((LN).owes (OD.map (Rf.eval T)))∧(0≤I T 97∧((I T 97)≤I T 96)∧∀q:Nat,(q:Int) < I T 97→¬sq (I T 94) (I T 95) (AA ((L T 14)) q 0) (AA ((L T 14)) q 1) < ((I T 13)+AA ((L T 14)) q 2)*((I T 13)+AA ((L T 14)) q 2))∧(¬B T 113=true)∧(AI T ES)∧(AI T IA)∧((B T 59)=true→I T 57 < ((L T 14)).length∧(0≤I T 57→((B T 71)=true↔sq (I T 54) (I T 55) (AA ((L T 14)) (I T 57).toNat 0) (AA ((L T 14)) (I T 57).toNat 1) < ((I T 13)+AA ((L T 14)) (I T 57).toNat 2)*((I T 13)+AA ((L T 14)) (I T 57).toNat 2))))∧((B T 50)=true→((B T 78)=false↔Aw (I T 3) (I T 24) (I T 26) (I T 13) ((L T 14)) (((I T 40)+I T 44) % (I T 43))=true))∧((B T 99)=true→I T 97 < ((L T 14)).length∧(0≤I T 97→((B T 111)=true↔sq (I T 94) (I T 95) (AA ((L T 14)) (I T 97).toNat 0) (AA ((L T 14)) (I T 97).toNat 1) < ((I T 13)+AA ((L T 14)) (I T 97).toNat 2)*((I T 13)+AA ((L T 14)) (I T 97).toNat 2))))∧((B T 92)=true→((B T 118)=false↔Aw (I T 3) (I T 24) (I T 26) (I T 13) ((L T 14)) (((I T 40) - (I T 44)+I T 43) % (I T 43))=true))∧AL T (Am (Am (hds 97 [.i]++Am (Am (hds 57 [.i]++Am (hds 44 [.i,.i,.i,.i]++Gm [13,14,3,24,26,43,40,39] (Am (BG 0 Fr.ks) GN)) DZ) DJ) Ez) ES) IA):=by
 unfold Im at hE
 rw[List.map_append,List.map_append,List.map_append,List.map_append,List.map_append,List.map_append] at hE
 have hA:=hE.left
 replace hE:=hE.right
 have hH:=hE.left
 replace hE:=hE.right
 have hB:=hE.left
 replace hE:=hE.right
 obtain⟨C0_0,hS1⟩:=AV hS (by kernel_rfl) hA
 obtain⟨k1,h56⟩:=cS gb gl gt C0_0
 obtain⟨ow1,hS2,inv1,np1⟩:=gB gb k1 h56 hS1 hB hH
 have hF2:=(AV (hS2.append hS1) (l:=DJ) (by kernel_rfl) hB)
 obtain⟨B1,hS⟩:=hF2
 clear hA hB hH hS1 hS2
 have hA:=hE.left
 replace hE:=hE.right
 have hH:=hE.left
 replace hE:=hE.right
 have hB:=hE.left
 replace hE:=hE.right
 obtain⟨C0_1,hS1⟩:=AV hS (by kernel_rfl) hA
 obtain⟨k2,h96⟩:=eQ gb gl gt k1 h56 inv1 np1 C0_0 B1 C0_1
 obtain⟨ow2,hS2,inv2,np2⟩:=gQ gb k2 h96 hS1 hB hH
 have hF2:=(AV (hS2.append hS1) (l:=ES) (by kernel_rfl) hB)
 obtain⟨B2,hS⟩:=hF2
 clear hA hB hH hS1 hS2
 obtain⟨C0_2,hSe⟩:=AV hS (by kernel_rfl) hE
 obtain⟨hx1,f1,hx2,f2⟩:=cV gb gl gt k1 h56 inv1 np1 k2 h96 inv2 np2 C0_0 B1 C0_1 B2 C0_2
 exact⟨C0_0,k1,h56,ow1,inv1,np1,B1,C0_1,k2,h96,ow2,inv2,np2,B2,C0_2,hx1,f1,hx2,f2,hSe⟩
theorem fa {T:Tab}(hl14:(L T 14).length≤140737488355328)(hb:(B T 39)=true→BX (I T 3) (I T 24) (I T 26)∧I T 43=2*((I T 24)+I T 26)∧(0≤I T 40∧I T 40 < I T 43)∧(1≤I T 13∧I T 13≤16384)∧((L T 14)).all Aq=true)(hS:AL T (Am (BG 0 Fr.ks) GN))(hB:AX T (Im.map En.be))(hH:AX T ((Ax Nq [.i,.i,.i,.i] Q2).map En.be)):
  (Nq).owes (Q2.map (Rf.eval T))∧AL T (hds 44 [.i,.i,.i,.i])∧(0≤I T 44∧I T 47=0∧Cn (Aw (I T 3) (I T 24) (I T 26) (I T 13) ((L T 14))) (I T 40) (I T 43) (I T 44))∧¬B T 129=true:=by
 refine O8 (nh:=44) (k:=4) (pcn:=129) (top:=131) (bes:=Im) (bos:=X7) (nxt:=[.e 130,.e 124,.e 125,.e 126]) (inits:=[.c (.int 0),.c (.int 0),.c (.int 0),.c (.int 0)]) (fv:=[13,14,3,24,26,43,40,39]) (tys:=[.i,.i,.i,.i]) (by kernel_rfl) rfl rfl rfl rfl hS (by kernel_rfl) hB (Ay hH) (fun s=>0≤(aI s 0)∧(aI s 3)=0∧Cn (Aw (I T 3) (I T 24) (I T 26) (I T 13) ((L T 14))) (I T 40) (I T 43) (aI s 0)) (fun s=>((I T 43) / 2+1 - (aI s 0)).toNat) ?_ ?_
 ·show 0≤(0:Int)∧(0:Int)=0∧Cn (Aw (I T 3) (I T 24) (I T 26) (I T 13) ((L T 14))) (I T 40) (I T 43) (0:Int)
  clear hS hB hH
  exact⟨by omega,rfl,fun j h=>absurd h (by omega)⟩
 ·intro T2 hfv hS2 hE inv
  replace inv:0≤I T2 44∧I T2 47=0∧Cn (Aw (I T 3) (I T 24) (I T 26) (I T 13) ((L T 14))) (I T 40) (I T 43) (I T2 44):=inv
  have fv13:I T2 13=I T 13:=fvI (hfv 13 (by decide))
  have fv14:L T2 14=L T 14:=fvL (hfv 14 (by decide))
  have fv3:I T2 3=I T 3:=fvI (hfv 3 (by decide))
  have fv24:I T2 24=I T 24:=fvI (hfv 24 (by decide))
  have fv26:I T2 26=I T 26:=fvI (hfv 26 (by decide))
  have fv43:I T2 43=I T 43:=fvI (hfv 43 (by decide))
  have fv40:I T2 40=I T 40:=fvI (hfv 40 (by decide))
  have fv39:B T2 39=B T 39:=fvB (hfv 39 (by decide))
  clear hfv
  clear hS hB hH
  have gb:(B T2 39)=true→BX (I T2 3) (I T2 24) (I T2 26)∧I T2 43=2*((I T2 24)+I T2 26)∧(0≤I T2 40∧I T2 40 < I T2 43)∧(1≤I T2 13∧I T2 13≤16384)∧((L T2 14)).all Aq=true:=by
   rw[fv39,fv3,fv24,fv26,fv43,fv40,fv13,fv14];exact hb
  have gl:((L T2 14)).length≤140737488355328:=by
   rw[fv14];exact hl14
  have gt:0≤I T2 44∧I T2 47=0:=by
   exact⟨inv.1,inv.2.1⟩
  obtain⟨C0_0,k1,h56,ow1,inv1,np1,B1,C0_1,k2,h96,ow2,inv2,np2,B2,C0_2,hx1,f1,hx2,f2,hSe⟩:=Xg gb gl gt hS2 hE
  clear hS2 hE
  have hN:=FU hSe (ts:=[.i,.i,.i,.i]) (rs:=[.e 130,.e 124,.e 125,.e 126]) (by kernel_rfl)
  clear hSe
  have F0:=C0_0;clear C0_0
  obtain⟨F1,B1⟩:=B1.cut
  have F2:=B1;clear B1
  obtain⟨F3,C0_1⟩:=C0_1.cut
  have F4:=C0_1;clear C0_1
  obtain⟨F5,B2⟩:=B2.cut
  have F6:=B2;clear B2
  have F7:=C0_2;clear C0_2
  suffices hz:(B T2 92=true→I T2 82=0)∧(B T2 92=true→BX (I T2 3) (I T2 24) (I T2 26))∧(B T2 92=true→0≤I T2 93∧I T2 93 < 2*((I T2 24)+I T2 26))∧(B T2 92=true→¬I T2 43=0)∧(B T2 50=true→I T2 47=0)∧(B T2 50=true→BX (I T2 3) (I T2 24) (I T2 26))∧(B T2 50=true→0≤I T2 53∧I T2 53 < 2*((I T2 24)+I T2 26))∧(B T2 50=true→¬I T2 43=0)∧(B T2 129=true→(0≤I T2 130∧I T2 126=0∧Cn (Aw (I T 3) (I T 24) (I T 26) (I T 13) ((L T 14))) (I T 40) (I T 43) (I T2 130)))∧(B T2 129=true→((I T 43) / 2+1 - (I T2 130)).toNat < ((I T 43) / 2+1 - (I T2 44)).toNat) from
   let⟨r0,r1,r2,r3,r4,r5,r6,r7,nx,mz⟩:=hz;⟨hN,⟨(fun _=>ow2),r0,r1,r2,r3,(fun _=>ow1),r4,r5,r6,r7,trivial⟩,fun hp=>⟨nx hp,mz hp⟩⟩
  refine⟨?_,?_,?_,?_,?_,?_,?_,?_,?_,?_⟩
  ·obtain⟨e48,e49,e50,-,e52,e53,e54,e55,e56,-⟩:=F0
   obtain⟨e58,e59,-,e61,e62,e63,e64,e65,e66,e67,e68,e69,e70,e71,e72,-⟩:=F1
   obtain⟨e75,-,e77,e78,-,-,-,e82,e83,-⟩:=F3
   obtain⟨-,e92,-⟩:=F4
   replace e54:I T2 54=(Ad (I T2 3) (I T2 24) (I T2 26) (I T2 53)):=e54
   replace e55:I T2 55=(Ac (I T2 3) (I T2 24) (I T2 26) (I T2 53)):=e55
   simp only[AE,AG,zC,zR,AS,w2P,zL] at*
   intro hp
   obtain⟨v1,v2,v3⟩:=inv
   have h1:=e92.1 hp
   have h78:(B T2 78)=true:=by clear f1 f2 v3 gb;grind
   rw[e82,if_pos h78]
  ·obtain⟨e48,e49,e50,-,e52,e53,e54,e55,e56,-⟩:=F0
   obtain⟨e58,e59,-,e61,e62,e63,e64,e65,e66,e67,e68,e69,e70,e71,e72,-⟩:=F1
   obtain⟨e75,-,e77,e78,-,-,-,-,e83,-⟩:=F3
   obtain⟨-,e92,-⟩:=F4
   replace e54:I T2 54=(Ad (I T2 3) (I T2 24) (I T2 26) (I T2 53)):=e54
   replace e55:I T2 55=(Ac (I T2 3) (I T2 24) (I T2 26) (I T2 53)):=e55
   simp only[AE,AG,zC,zR,AS,w2P,zL] at*
   intro hp
   obtain⟨v1,v2,v3⟩:=inv
   obtain⟨hk,⟨k3,k4,k5⟩,-⟩:=k2 hp
   obtain⟨d1,d2,d3,d4,d5⟩:=gb hk
   exact d1
  ·obtain⟨e48,e49,e50,-,e52,e53,e54,e55,e56,-⟩:=F0
   obtain⟨e58,e59,-,e61,e62,e63,e64,e65,e66,e67,e68,e69,e70,e71,e72,-⟩:=F1
   obtain⟨e75,-,e77,e78,-,-,-,-,e83,-,-,-,-,-,e89,-⟩:=F3
   obtain⟨e91,e92,e93,-⟩:=F4
   replace e54:I T2 54=(Ad (I T2 3) (I T2 24) (I T2 26) (I T2 53)):=e54
   replace e55:I T2 55=(Ac (I T2 3) (I T2 24) (I T2 26) (I T2 53)):=e55
   simp only[AE,AG,zC,zR,AS,w2P,zL] at*
   intro hp
   obtain⟨v1,v2,v3⟩:=inv
   obtain⟨hk,⟨k3,k4,k5⟩,-⟩:=k2 hp
   obtain⟨d1,d2,d3,d4,d5⟩:=gb hk
   exact⟨k4,by omega⟩
  ·obtain⟨e48,e49,e50,-,e52,e53,e54,e55,e56,-⟩:=F0
   obtain⟨e58,e59,-,e61,e62,e63,e64,e65,e66,e67,e68,e69,e70,e71,e72,-⟩:=F1
   obtain⟨e75,-,e77,e78,-,-,-,-,e83,-⟩:=F3
   obtain⟨-,e92,-⟩:=F4
   replace e54:I T2 54=(Ad (I T2 3) (I T2 24) (I T2 26) (I T2 53)):=e54
   replace e55:I T2 55=(Ac (I T2 3) (I T2 24) (I T2 26) (I T2 53)):=e55
   simp only[AE,AG,zC,zR,AS,w2P,zL] at*
   intro hp
   obtain⟨v1,v2,v3⟩:=inv
   obtain⟨hk,⟨k3,k4,k5⟩,-⟩:=k2 hp
   obtain⟨d1,d2,d3,d4,d5⟩:=gb hk
   omega
  ·obtain⟨e48,e49,e50,-⟩:=F0
   simp only[AE,AG,zR,AS] at e48 e49 e50
   intro hp
   exact inv.2.1
  ·obtain⟨e48,e49,e50,-⟩:=F0
   simp only[AE,AG,zR,AS] at e48 e49 e50
   intro hp
   obtain⟨v1,v2,v3⟩:=inv
   obtain⟨hk,⟨k3,k4,k5⟩,-⟩:=k1 hp
   obtain⟨d1,d2,d3,d4,d5⟩:=gb hk
   exact d1
  ·obtain⟨e48,e49,e50,-,e52,e53,-⟩:=F0
   simp only[AE,AG,zR,AS,w2P] at*
   intro hp
   obtain⟨v1,v2,v3⟩:=inv
   obtain⟨hk,⟨k3,k4,k5⟩,-⟩:=k1 hp
   obtain⟨d1,d2,d3,d4,d5⟩:=gb hk
   exact⟨k4,by omega⟩
  ·obtain⟨e48,e49,e50,-⟩:=F0
   simp only[AE,AG,zR,AS] at e48 e49 e50
   intro hp
   obtain⟨v1,v2,v3⟩:=inv
   obtain⟨hk,⟨k3,k4,k5⟩,-⟩:=k1 hp
   obtain⟨d1,d2,d3,d4,d5⟩:=gb hk
   omega
  ·obtain⟨e48,e49,e50,-,e52,e53,e54,e55,e56,-⟩:=F0
   obtain⟨e58,e59,-,e61,e62,e63,e64,e65,e66,e67,e68,e69,e70,e71,e72,-⟩:=F1
   obtain⟨e75,-,e77,e78,-,-,-,e82,e83,-,-,-,-,-,e89,-⟩:=F3
   obtain⟨e91,e92,e93,e94,e95,e96,-⟩:=F4
   obtain⟨e98,e99,-,e101,e102,e103,e104,e105,e106,e107,e108,e109,e110,e111,e112,-⟩:=F5
   obtain⟨e115,-,e117,e118,-,-,-,e122,e123,-,-,e126,e127,-,e129,e130,-⟩:=F7
   replace e54:I T2 54=(Ad (I T2 3) (I T2 24) (I T2 26) (I T2 53)):=e54
   replace e55:I T2 55=(Ac (I T2 3) (I T2 24) (I T2 26) (I T2 53)):=e55
   replace e94:I T2 94=(Ad (I T2 3) (I T2 24) (I T2 26) (I T2 93)):=e94
   replace e95:I T2 95=(Ac (I T2 3) (I T2 24) (I T2 26) (I T2 93)):=e95
   simp only[AE,AG,zN,zC,zR,AS,w2P,zL] at*
   obtain⟨v1,v2,v3⟩:=inv
   intro hp
   have h1:=e129.1 hp
   have h2:=e127
   have h83:(B T2 83)=true:=by clear f1 f2 v3 gb;grind
   have h123:(B T2 123)=true:=by clear f1 f2 v3 gb;grind
   have h78:(B T2 78)=true:=by clear f1 f2 v3 gb;grind
   have h118:(B T2 118)=true:=by clear f1 f2 v3 gb;grind
   have h92:(B T2 92)=true:=e92.2 ⟨h1.1,h83⟩
   have f1:=f1 h1.1
   have f2:=f2 h92
   rw[fv3,fv24,fv26,fv13,fv14,fv40,fv43] at f1 f2
   have n1:Aw (I T 3) (I T 24) (I T 26) (I T 13) ((L T 14)) (((I T 40)+I T2 44) % (I T 43))=false:=by
    cases k:Aw (I T 3) (I T 24) (I T 26) (I T 13) ((L T 14)) (((I T 40)+I T2 44) % (I T 43)) with
    |false=>rfl
    |true=>have:=f1.2 k;simp[h78] at this
   have n2:Aw (I T 3) (I T 24) (I T 26) (I T 13) ((L T 14)) (((I T 40) - (I T2 44)+I T 43) % (I T 43))=false:=by
    cases k:Aw (I T 3) (I T 24) (I T 26) (I T 13) ((L T 14)) (((I T 40) - (I T2 44)+I T 43) % (I T 43)) with
    |false=>rfl
    |true=>have:=f2.2 k;simp[h118] at this
   obtain⟨d1,d2,d3,d4,d5⟩:=gb (e50.1 h1.1).1
   have h49:=e49.1 (e50.1 h1.1).2
   rw[e48,if_pos (by omega)] at h49
   obtain⟨⟨c1,c2⟩,⟨c3,c4⟩,c5,c6⟩:=d1
   have e:(I T2 130)=I T2 44+1:=e130 (by omega) (by omega)
   refine⟨by omega,?_,Rt e v1 v3 n1 n2⟩
   rw[e126,if_pos h92,e122,if_pos h118]
  ·obtain⟨e48,e49,e50,-,e52,e53,e54,e55,e56,-⟩:=F0
   obtain⟨e58,e59,-,e61,e62,e63,e64,e65,e66,e67,e68,e69,e70,e71,e72,-⟩:=F1
   obtain⟨e75,-,e77,e78,-,-,-,-,e83,-,-,-,-,-,e89,-⟩:=F3
   obtain⟨e91,e92,e93,e94,e95,e96,-⟩:=F4
   obtain⟨e98,e99,-,e101,e102,e103,e104,e105,e106,e107,e108,e109,e110,e111,e112,-⟩:=F5
   obtain⟨e115,-,e117,e118,-,-,-,-,e123,-,-,-,e127,-,e129,e130,-⟩:=F7
   replace e54:I T2 54=(Ad (I T2 3) (I T2 24) (I T2 26) (I T2 53)):=e54
   replace e55:I T2 55=(Ac (I T2 3) (I T2 24) (I T2 26) (I T2 53)):=e55
   replace e94:I T2 94=(Ad (I T2 3) (I T2 24) (I T2 26) (I T2 93)):=e94
   replace e95:I T2 95=(Ac (I T2 3) (I T2 24) (I T2 26) (I T2 93)):=e95
   simp only[AE,AG,zN,zC,zR,AS,w2P,zL] at*
   obtain⟨v1,v2,v3⟩:=inv
   intro hp
   have h1:=e129.1 hp
   obtain⟨d1,d2,d3,d4,d5⟩:=gb (e50.1 h1.1).1
   have h49:=e49.1 (e50.1 h1.1).2
   rw[e48,if_pos (by omega)] at h49
   obtain⟨⟨c1,c2⟩,⟨c3,c4⟩,c5,c6⟩:=d1
   have e:(I T2 130)=I T2 44+1:=e130 (by omega) (by omega)
   omega
theorem jn {T:Tab}(hz0:(S T 0).size≤140737488355328)(hl4:(L T 4).length≤140737488355328)(hl10:(L T 10).length≤140737488355328)(hl14:(L T 14).length≤140737488355328)(g:Ln)(hg:g=Ln.mk (S T 0) (I T 1) (I T 2) (I T 3) (L T 4) (I T 5) (I T 6) (I T 7) (I T 8) (I T 9) (L T 10))(g1:Ln)(z1:g1=Ln.mk (S T 0) (I T 1) (I T 2) (I T 3) (L T 4) (I T 5) (I T 6) (I T 7) (I T 8) (I T 9) (L T 10))(hg1:g1=g)(h16:(I T 16)=A7 g (I T 11) (I T 12))(hw:g.wide=I T 1∧g.long=I T 2∧g.yard=I T 3)(h22:(B T 22)=true↔(A7 g (I T 11) (I T 12)=0∧AT (I T 13) ((L T 14))=0))(hq:(B T 22)=true→BX (I T 3) (I T 24) (I T 26)∧((I T 24)=I T 1 - 2*I T 3∧I T 26=I T 2 - 2*I T 3)∧((I T 29)=Bj (I T 11) (I T 3) ((I T 1) - (I T 3))∧I T 32=Bj (I T 12) (I T 3) ((I T 2) - (I T 3)))∧I T 43=2*((I T 24)+I T 26)∧AF (I T 11) (I T 12)=true∧AO g=0)(h37:(B T 22)=true→((B T 37)=true↔(((I T 29)=I T 11∧I T 32=I T 12)∧Ab (I T 3) (I T 24) (I T 26) (I T 11) (I T 12) < 0)))(hb:(B T 39)=true→BX (I T 3) (I T 24) (I T 26)∧I T 43=2*((I T 24)+I T 26)∧(0≤I T 40∧I T 40 < I T 43)∧(1≤I T 13∧I T 13≤16384)∧((L T 14)).all Aq=true)(inv0:0≤I T 44∧I T 47=0∧Cn (Aw (I T 3) (I T 24) (I T 26) (I T 13) ((L T 14))) (I T 40) (I T 43) (I T 44))(np0:¬B T 129=true)(k1:(B T 50)=true→B T 39=true∧((I T 53)=((I T 40)+I T 44) % (I T 43)∧0≤I T 53∧I T 53 < I T 43)∧((0≤I T 54∧I T 54≤8388608)∧(0≤I T 55∧I T 55≤8388608)))(h56:(I T 56)=((L T 14)).length∧((L T 14)).length≤140737488355328)(inv1:0≤I T 57∧((I T 57)≤I T 56)∧∀q:Nat,(q:Int) < I T 57→¬sq (I T 54) (I T 55) (AA ((L T 14)) q 0) (AA ((L T 14)) q 1) < ((I T 13)+AA ((L T 14)) q 2)*((I T 13)+AA ((L T 14)) q 2))(np1:¬B T 73=true)(k2:(B T 92)=true→B T 39=true∧((I T 93)=((I T 40) - (I T 44)+I T 43) % (I T 43)∧0≤I T 93∧I T 93 < I T 43)∧((0≤I T 94∧I T 94≤8388608)∧(0≤I T 95∧I T 95≤8388608)))(h96:(I T 96)=((L T 14)).length∧((L T 14)).length≤140737488355328)(inv2:0≤I T 97∧((I T 97)≤I T 96)∧∀q:Nat,(q:Int) < I T 97→¬sq (I T 94) (I T 95) (AA ((L T 14)) q 0) (AA ((L T 14)) q 1) < ((I T 13)+AA ((L T 14)) q 2)*((I T 13)+AA ((L T 14)) q 2))(np2:¬B T 113=true)(hx1:(B T 59)=true→I T 57 < ((L T 14)).length∧(0≤I T 57→((B T 71)=true↔sq (I T 54) (I T 55) (AA ((L T 14)) (I T 57).toNat 0) (AA ((L T 14)) (I T 57).toNat 1) < ((I T 13)+AA ((L T 14)) (I T 57).toNat 2)*((I T 13)+AA ((L T 14)) (I T 57).toNat 2))))(f1:(B T 50)=true→((B T 78)=false↔Aw (I T 3) (I T 24) (I T 26) (I T 13) ((L T 14)) (((I T 40)+I T 44) % (I T 43))=true))(hx2:(B T 99)=true→I T 97 < ((L T 14)).length∧(0≤I T 97→((B T 111)=true↔sq (I T 94) (I T 95) (AA ((L T 14)) (I T 97).toNat 0) (AA ((L T 14)) (I T 97).toNat 1) < ((I T 13)+AA ((L T 14)) (I T 97).toNat 2)*((I T 13)+AA ((L T 14)) (I T 97).toNat 2))))(f2:(B T 92)=true→((B T 118)=false↔Aw (I T 3) (I T 24) (I T 26) (I T 13) ((L T 14)) (((I T 40) - (I T 44)+I T 43) % (I T 43))=true))(gb:(B T 39)=true→BX (I T 3) (I T 24) (I T 26)∧I T 43=2*((I T 24)+I T 26)∧(0≤I T 40∧I T 40 < I T 43)∧(1≤I T 13∧I T 13≤16384)∧((L T 14)).all Aq=true)(gl:((L T 14)).length≤140737488355328)(gt:0≤I T 44∧I T 47=0)(A0:AI T GN)(C0_0:AI T DZ)(B1:AI T DJ)(C0_1:AI T Ez)(B2:AI T ES)(C0_2:AI T IA)(A3:AI T Xt):
  ((I T 150)=(G3 g (I T 11) (I T 12) (I T 13) (L T 14)))∧
  ((I T 151)=(HB g (I T 11) (I T 12) (I T 13) (L T 14)))∧
  ((I T 152)=(C8 g (I T 11) (I T 12) (I T 13) (L T 14)))∧
  (B T 39=true→BX (I T 3) (I T 24) (I T 26))∧
  (B T 39=true→AF (I T 29) (I T 32)=true)∧
  (B T 34=true→BX (I T 3) (I T 24) (I T 26))∧
  (B T 34=true→AF (I T 11) (I T 12)=true):=by
 obtain⟨F0,A0⟩:=A0.cut
 have F1:=A0;clear A0
 have F2:=C0_0;clear C0_0
 obtain⟨F3,B1⟩:=B1.cut
 have F4:=B1;clear B1
 obtain⟨F5,C0_1⟩:=C0_1.cut
 have F6:=C0_1;clear C0_1
 obtain⟨F7,B2⟩:=B2.cut
 have F8:=B2;clear B2
 have F9:=C0_2;clear C0_2
 obtain⟨F10,A3⟩:=A3.cut
 have F11:=A3;clear A3
 have hm:(B T 39)=true→(¬I T 133=1∧Dp (I T 3) (I T 24) (I T 26) (I T 29) (I T 32) (I T 13) ((L T 14)) < 0)∨((I T 133)=1∧0≤Dp (I T 3) (I T 24) (I T 26) (I T 29) (I T 32) (I T 13) ((L T 14))∧I T 131=Ad (I T 3) (I T 24) (I T 26) (Dp (I T 3) (I T 24) (I T 26) (I T 29) (I T 32) (I T 13) ((L T 14)))∧I T 132=Ac (I T 3) (I T 24) (I T 26) (Dp (I T 3) (I T 24) (I T 26) (I T 29) (I T 32) (I T 13) ((L T 14)))):=by
  obtain⟨e15,e16,e17,e18,e19,e20,-,e22,e23,e24,e25,e26,e27,e28,e29,e30,-⟩:=F0
  obtain⟨e31,e32,e33,-,e35,e36,e37,-,e39,e40,-,e42,e43,-⟩:=F1
  obtain⟨e48,e49,e50,e51,e52,e53,e54,e55,e56,-⟩:=F2
  obtain⟨e58,e59,-,e61,e62,e63,e64,e65,e66,e67,e68,e69,e70,e71,e72,-⟩:=F3
  obtain⟨e75,-,e77,e78,-,e80,e81,e82,e83,-,-,-,-,-,e89,-⟩:=F5
  obtain⟨e91,e92,e93,e94,e95,e96,-⟩:=F6
  obtain⟨e98,e99,-,e101,e102,e103,e104,e105,e106,e107,e108,e109,e110,e111,e112,-⟩:=F7
  obtain⟨e115,-,e117,e118,-,e120,e121,e122,e123,e124,e125,e126,e127,-,e129,-⟩:=F9
  obtain⟨e131,e132,e133,-⟩:=F10
  replace e16:I T 16=(Br g1 (L T 15)):=by rw[←show gAt 0 (Bt.map (Rf.eval T))=g1 from z1.symm];exact e16
  replace e19:I T 19=(AT (I T 13) (L T 14)):=e19
  replace e35:I T 35=(Ab (I T 3) (I T 24) (I T 26) (I T 11) (I T 12)):=e35
  replace e40:I T 40=(Ab (I T 3) (I T 24) (I T 26) (I T 29) (I T 32)):=e40
  replace e54:I T 54=(Ad (I T 3) (I T 24) (I T 26) (I T 53)):=e54
  replace e55:I T 55=(Ac (I T 3) (I T 24) (I T 26) (I T 53)):=e55
  replace e94:I T 94=(Ad (I T 3) (I T 24) (I T 26) (I T 93)):=e94
  replace e95:I T 95=(Ac (I T 3) (I T 24) (I T 26) (I T 93)):=e95
  simp only[AE,AG,zN,zC,zR,Bd,and_true,AS,w2P,zL,zS,uR,AY,zW] at*
  intro hb'
  obtain⟨v1,v2,v3⟩:=inv0
  obtain⟨d1,d2,d3,d4,d5⟩:=hb hb'
  have hP:Dp (I T 3) (I T 24) (I T 26) (I T 29) (I T 32) (I T 13) ((L T 14))=O7 (Aw (I T 3) (I T 24) (I T 26) (I T 13) ((L T 14))) (I T 40) (I T 43):=by
   unfold Dp
   rw[e40,d2]
  rw[hP]
  have d6:=d1
  obtain⟨⟨c1,c2⟩,⟨c3,c4⟩,c5,c6⟩:=d6
  have x48:(I T 48)=(I T 43) / 2:=by rw[e48,if_pos (by omega)]
  cases k49:(B T 49) with
  |false=>
   left
   have h51:=e51.2 ⟨hb',k49⟩
   refine⟨by rw[e133,if_pos h51];omega,?_⟩
   have hn:¬I T 44≤I T 48:=fun h=>by have:=e49.2 h;simp[k49] at this
   rw[Rd (by omega) v3]
   omega
  |true=>
   right
   have h50:=e50.2 ⟨hb',k49⟩
   have n51:¬B T 51=true:=fun h=>by have:=(e51.1 h).2;simp[k49] at this
   have h49:=e49.1 k49
   have hN:=Q8 v1 (by omega) v3
   have f1:=f1 h50
   obtain⟨-,⟨t1,t2,t3⟩,-⟩:=k1 h50
   rw[e131,e132,e133,if_neg n51,if_neg n51,if_neg n51]
   cases k78:(B T 78) with
   |false=>
    rw[if_pos (f1.1 k78)] at hN
    have n83:¬B T 83=true:=by clear hN f1 f2 v3 h22 hq h37 hb hP;grind
    have n92:¬B T 92=true:=fun h=>n83 (e92.1 h).2
    have n78:¬B T 78=true:=by simp[k78]
    rw[hN,e124,e125,e126,if_neg n92,if_neg n92,if_neg n92,e80,e81,e82,if_neg n78,if_neg n78,if_neg n78,←t1,e54,e55]
    exact⟨rfl,t2,rfl,rfl⟩
   |true=>
    have n1:¬Aw (I T 3) (I T 24) (I T 26) (I T 13) ((L T 14)) (((I T 40)+I T 44) % (I T 43))=true:=fun h=>by have:=f1.2 h;simp[k78] at this
    rw[if_neg n1] at hN
    have h83:(B T 83)=true:=by clear hN f1 f2 v3 h22 hq h37 hb hP;grind
    have h92:(B T 92)=true:=e92.2 ⟨h50,h83⟩
    have f2:=f2 h92
    obtain⟨-,⟨t4,t5,t6⟩,-⟩:=k2 h92
    rw[e124,e125,e126,if_pos h92,if_pos h92,if_pos h92]
    cases k118:(B T 118) with
    |false=>
     rw[if_pos (f2.1 k118)] at hN
     have n118:¬B T 118=true:=by simp[k118]
     rw[hN,e120,e121,e122,if_neg n118,if_neg n118,if_neg n118,←t4,e94,e95]
     exact⟨rfl,t5,rfl,rfl⟩
    |true=>
     exfalso
     have h123:(B T 123)=true:=by clear hN f1 f2 v3 h22 hq h37 hb hP;grind
     have h127:(B T 127)=false:=by
      cases k:(B T 127) with
      |false=>rfl
      |true=>have:=e127.1 k;simp[h83,h123] at this
     have:=e129.2 ⟨h50,h127⟩
     simp[np0] at this
 have hs:(B T 22)=true→Fq g (I T 11)=I T 29∧Fs g (I T 12)=I T 32∧g.wide - 2*g.yard=I T 24∧g.long - 2*g.yard=I T 26:=by
  obtain⟨e15,e16,e17,e18,e19,e20,-,e22,e23,e24,e25,e26,e27,e28,e29,e30,-⟩:=F0
  obtain⟨e31,e32,-⟩:=F1
  replace e16:I T 16=(Br g1 (L T 15)):=by rw[←show gAt 0 (Bt.map (Rf.eval T))=g1 from z1.symm];exact e16
  replace e19:I T 19=(AT (I T 13) (L T 14)):=e19
  simp only[AE,AG,zN,zR,AS,w2P,zL,zS,uR,AY,zW] at*
  intro h
  obtain⟨q1,q2,q3,q4,q5,q6⟩:=hq h
  unfold Fq Fs
  rw[hw.1,hw.2.1,hw.2.2,q3.1,q3.2,q2.1,q2.2]
  exact⟨rfl,rfl,rfl,rfl⟩
 have hE:(I T 152)=C8 g (I T 11) (I T 12) (I T 13) ((L T 14)):=by
  obtain⟨e15,e16,e17,e18,e19,e20,e21,e22,e23,e24,e25,e26,e27,e28,e29,e30,-⟩:=F0
  obtain⟨e31,e32,e33,-,e35,e36,e37,e38,e39,e40,-,e42,e43,-⟩:=F1
  obtain⟨e48,e49,e50,e51,e52,e53,e54,e55,e56,-⟩:=F2
  obtain⟨e58,e59,-,e61,e62,e63,e64,e65,e66,e67,e68,e69,e70,e71,e72,-⟩:=F3
  obtain⟨e75,-,e77,e78,-,-,-,e82,e83,-,-,-,-,-,e89,-⟩:=F5
  obtain⟨e91,e92,e93,e94,e95,e96,-⟩:=F6
  obtain⟨e98,e99,-,e101,e102,e103,e104,e105,e106,e107,e108,e109,e110,e111,e112,-⟩:=F7
  obtain⟨e115,-,e117,e118,-,-,-,e122,-,-,-,e126,-⟩:=F9
  obtain⟨-,-,e133,-,-,e136,e137,-,-,e140,-,-,-,e144,-⟩:=F10
  obtain⟨-,e148,-,-,-,e152,-⟩:=F11
  replace e16:I T 16=(Br g1 (L T 15)):=by rw[←show gAt 0 (Bt.map (Rf.eval T))=g1 from z1.symm];exact e16
  replace e19:I T 19=(AT (I T 13) (L T 14)):=e19
  replace e35:I T 35=(Ab (I T 3) (I T 24) (I T 26) (I T 11) (I T 12)):=e35
  replace e40:I T 40=(Ab (I T 3) (I T 24) (I T 26) (I T 29) (I T 32)):=e40
  replace e54:I T 54=(Ad (I T 3) (I T 24) (I T 26) (I T 53)):=e54
  replace e55:I T 55=(Ac (I T 3) (I T 24) (I T 26) (I T 53)):=e55
  replace e94:I T 94=(Ad (I T 3) (I T 24) (I T 26) (I T 93)):=e94
  replace e95:I T 95=(Ac (I T 3) (I T 24) (I T 26) (I T 93)):=e95
  simp only[AE,AG,zN,zC,zR,Bd,and_true,AS,w2P,zL,zS,uR,AY,zW] at*
  by_cases h:(B T 22)=true
  ·have h1:=h22.1 h
   obtain⟨u1,u2,u3,u4⟩:=hs h
   rw[RT hw.2.2 u3 u4 u1 u2 h1.1 h1.2]
   have h37:=h37 h
   have n17:¬B T 17=true:=fun k=>by have:=e17.1 k;rw[h16] at this;exact this h1.1
   have n21:¬B T 21=true:=fun k=>by have:=e20.1 (e21.1 k).2;rw[e19] at this;exact this h1.2
   rw[e152,if_neg n17,e148,if_neg n21,e144]
   cases k37:(B T 37) with
   |true=>
    rw[if_pos (e38.2 ⟨h,k37⟩),if_pos (h37.1 k37)]
   |false=>
    have n37:¬B T 37=true:=by simp[k37]
    have h39:=e39.2 ⟨h,k37⟩
    rw[if_neg (fun k=>n37 (e38.1 k).2),if_neg (fun k=>n37 (h37.2 k)),e140]
    rcases hm h39 with hm|hm
    ·rw[if_neg (fun k=>hm.1 (e136.1 (e137.1 k).2)),if_pos hm.2]
    ·rw[if_pos (e137.2 ⟨h39,e136.2 hm.1⟩),if_neg (by omega)]
  ·have hn:¬(A7 g (I T 11) (I T 12)=0∧AT (I T 13) ((L T 14))=0):=fun k=>h (h22.2 k)
   rw[(UK hn).1,←h16,←e19]
   clear hm hs h22 hq h37 hb hw h16 e16 e19 hn f1 f2 k1 k2 inv0 inv1 inv2 hx1 hx2 gb
   grind
 have hZ:(I T 152)=0→B T 39=true∧I T 133=1∧B T 17=false∧B T 21=false∧B T 38=false∧B T 137=true:=by
  obtain⟨e15,e16,e17,e18,e19,e20,e21,e22,e23,e24,e25,e26,e27,e28,e29,e30,-⟩:=F0
  obtain⟨e31,e32,e33,-,e35,e36,e37,e38,e39,e40,-,e42,e43,-⟩:=F1
  obtain⟨e48,e49,e50,e51,e52,e53,e54,e55,e56,-⟩:=F2
  obtain⟨e58,e59,-,e61,e62,e63,e64,e65,e66,e67,e68,e69,e70,e71,e72,-⟩:=F3
  obtain⟨e75,-,e77,e78,-,-,-,e82,e83,-,-,-,-,-,e89,-⟩:=F5
  obtain⟨e91,e92,e93,e94,e95,e96,-⟩:=F6
  obtain⟨e98,e99,-,e101,e102,e103,e104,e105,e106,e107,e108,e109,e110,e111,e112,-⟩:=F7
  obtain⟨e115,-,e117,e118,-,-,-,e122,-,-,-,e126,-⟩:=F9
  obtain⟨-,-,e133,-,-,e136,e137,-,-,e140,-,-,-,e144,-⟩:=F10
  obtain⟨-,e148,-,-,-,e152,-⟩:=F11
  replace e16:I T 16=(Br g1 (L T 15)):=by rw[←show gAt 0 (Bt.map (Rf.eval T))=g1 from z1.symm];exact e16
  replace e19:I T 19=(AT (I T 13) (L T 14)):=e19
  replace e35:I T 35=(Ab (I T 3) (I T 24) (I T 26) (I T 11) (I T 12)):=e35
  replace e40:I T 40=(Ab (I T 3) (I T 24) (I T 26) (I T 29) (I T 32)):=e40
  replace e54:I T 54=(Ad (I T 3) (I T 24) (I T 26) (I T 53)):=e54
  replace e55:I T 55=(Ac (I T 3) (I T 24) (I T 26) (I T 53)):=e55
  replace e94:I T 94=(Ad (I T 3) (I T 24) (I T 26) (I T 93)):=e94
  replace e95:I T 95=(Ac (I T 3) (I T 24) (I T 26) (I T 93)):=e95
  simp only[AE,AG,zN,zC,zR,Bd,and_true,AS,w2P,zL,zS,uR,AY,zW] at*
  intro h
  clear hm hs h22 hq h37 hb hw h16 e16 hE f1 f2 k1 k2 inv0 inv1 inv2 hx1 hx2 gb
  grind
 have hN:¬I T 152=0→I T 150=0∧I T 151=0:=by
  obtain⟨e15,e16,e17,e18,e19,e20,e21,e22,e23,e24,e25,e26,e27,e28,e29,e30,-⟩:=F0
  obtain⟨e31,e32,e33,-,e35,e36,e37,e38,e39,e40,-,e42,e43,-⟩:=F1
  obtain⟨e48,e49,e50,e51,e52,e53,e54,e55,e56,-⟩:=F2
  obtain⟨e58,e59,-,e61,e62,e63,e64,e65,e66,e67,e68,e69,e70,e71,e72,-⟩:=F3
  obtain⟨e75,-,e77,e78,-,e80,e81,e82,e83,-,-,-,-,-,e89,-⟩:=F5
  obtain⟨e91,e92,e93,e94,e95,e96,-⟩:=F6
  obtain⟨e98,e99,-,e101,e102,e103,e104,e105,e106,e107,e108,e109,e110,e111,e112,-⟩:=F7
  obtain⟨e115,-,e117,e118,-,e120,e121,e122,-,e124,e125,e126,-⟩:=F9
  obtain⟨e131,e132,e133,-,-,e136,e137,e138,e139,e140,-,e142,e143,e144,-,e146,-⟩:=F10
  obtain⟨e147,e148,-,e150,e151,e152,-⟩:=F11
  replace e16:I T 16=(Br g1 (L T 15)):=by rw[←show gAt 0 (Bt.map (Rf.eval T))=g1 from z1.symm];exact e16
  replace e19:I T 19=(AT (I T 13) (L T 14)):=e19
  replace e35:I T 35=(Ab (I T 3) (I T 24) (I T 26) (I T 11) (I T 12)):=e35
  replace e40:I T 40=(Ab (I T 3) (I T 24) (I T 26) (I T 29) (I T 32)):=e40
  replace e54:I T 54=(Ad (I T 3) (I T 24) (I T 26) (I T 53)):=e54
  replace e55:I T 55=(Ac (I T 3) (I T 24) (I T 26) (I T 53)):=e55
  replace e94:I T 94=(Ad (I T 3) (I T 24) (I T 26) (I T 93)):=e94
  replace e95:I T 95=(Ac (I T 3) (I T 24) (I T 26) (I T 93)):=e95
  simp only[AE,AG,zN,zC,zR,Bd,and_true,AS,w2P,zL,zS,uR,AY,zW] at*
  intro h
  clear hm hs h22 hq h37 hb hw h16 e16 hE f1 f2 k1 k2 inv0 inv1 inv2 hx1 hx2 gb hZ
  grind
 have hV0:(I T 150)=G3 g (I T 11) (I T 12) (I T 13) ((L T 14)):=by
  obtain⟨e15,e16,e17,e18,e19,e20,e21,e22,e23,e24,e25,e26,e27,e28,e29,e30,-⟩:=F0
  obtain⟨e31,e32,e33,-,e35,e36,e37,e38,e39,e40,-,e42,e43,-⟩:=F1
  obtain⟨e48,e49,e50,e51,e52,e53,e54,e55,e56,-⟩:=F2
  obtain⟨e58,e59,-,e61,e62,e63,e64,e65,e66,e67,e68,e69,e70,e71,e72,-⟩:=F3
  obtain⟨e75,-,e77,e78,-,e80,-,e82,e83,-,-,-,-,-,e89,-⟩:=F5
  obtain⟨e91,e92,e93,e94,e95,e96,-⟩:=F6
  obtain⟨e98,e99,-,e101,e102,e103,e104,e105,e106,e107,e108,e109,e110,e111,e112,-⟩:=F7
  obtain⟨e115,-,e117,e118,-,e120,-,e122,-,e124,-,e126,-⟩:=F9
  obtain⟨e131,-,e133,-,-,e136,e137,e138,-,-,-,e142,-,-,-,e146,-⟩:=F10
  obtain⟨-,-,-,e150,-⟩:=F11
  replace e16:I T 16=(Br g1 (L T 15)):=by rw[←show gAt 0 (Bt.map (Rf.eval T))=g1 from z1.symm];exact e16
  replace e19:I T 19=(AT (I T 13) (L T 14)):=e19
  replace e35:I T 35=(Ab (I T 3) (I T 24) (I T 26) (I T 11) (I T 12)):=e35
  replace e40:I T 40=(Ab (I T 3) (I T 24) (I T 26) (I T 29) (I T 32)):=e40
  replace e54:I T 54=(Ad (I T 3) (I T 24) (I T 26) (I T 53)):=e54
  replace e55:I T 55=(Ac (I T 3) (I T 24) (I T 26) (I T 53)):=e55
  replace e94:I T 94=(Ad (I T 3) (I T 24) (I T 26) (I T 93)):=e94
  replace e95:I T 95=(Ac (I T 3) (I T 24) (I T 26) (I T 93)):=e95
  simp only[AE,AG,zN,zC,zR,Bd,and_true,AS,w2P,zL,zS,uR,AY,zW] at*
  by_cases h:(I T 152)=0
  ·obtain⟨z1,z2,z3,z4,z5,z6⟩:=hZ h
   obtain⟨u1,u2,u3,u4⟩:=hs (e39.1 z1).1
   rw[Qs hw.2.2 u3 u4 u1 u2,←hE,if_pos h,e150,if_neg (by simp[z3]),e146,if_neg (by simp[z4]),e142,if_neg (by simp[z5]),e138,if_pos z6]
   rcases hm z1 with hm|hm
   ·exact absurd z2 hm.1
   ·exact hm.2.2.1
  ·rw[(hN h).1]
   unfold G3
   rw[←hE,if_neg h]
 have hV1:(I T 151)=HB g (I T 11) (I T 12) (I T 13) ((L T 14)):=by
  obtain⟨e15,e16,e17,e18,e19,e20,e21,e22,e23,e24,e25,e26,e27,e28,e29,e30,-⟩:=F0
  obtain⟨e31,e32,e33,-,e35,e36,e37,e38,e39,e40,-,e42,e43,-⟩:=F1
  obtain⟨e48,e49,e50,e51,e52,e53,e54,e55,e56,-⟩:=F2
  obtain⟨e58,e59,-,e61,e62,e63,e64,e65,e66,e67,e68,e69,e70,e71,e72,-⟩:=F3
  obtain⟨e75,-,e77,e78,-,-,e81,e82,e83,-,-,-,-,-,e89,-⟩:=F5
  obtain⟨e91,e92,e93,e94,e95,e96,-⟩:=F6
  obtain⟨e98,e99,-,e101,e102,e103,e104,e105,e106,e107,e108,e109,e110,e111,e112,-⟩:=F7
  obtain⟨e115,-,e117,e118,-,-,e121,e122,-,-,e125,e126,-⟩:=F9
  obtain⟨-,e132,e133,-,-,e136,e137,-,e139,-,-,-,e143,-⟩:=F10
  obtain⟨e147,-,-,-,e151,-⟩:=F11
  replace e16:I T 16=(Br g1 (L T 15)):=by rw[←show gAt 0 (Bt.map (Rf.eval T))=g1 from z1.symm];exact e16
  replace e19:I T 19=(AT (I T 13) (L T 14)):=e19
  replace e35:I T 35=(Ab (I T 3) (I T 24) (I T 26) (I T 11) (I T 12)):=e35
  replace e40:I T 40=(Ab (I T 3) (I T 24) (I T 26) (I T 29) (I T 32)):=e40
  replace e54:I T 54=(Ad (I T 3) (I T 24) (I T 26) (I T 53)):=e54
  replace e55:I T 55=(Ac (I T 3) (I T 24) (I T 26) (I T 53)):=e55
  replace e94:I T 94=(Ad (I T 3) (I T 24) (I T 26) (I T 93)):=e94
  replace e95:I T 95=(Ac (I T 3) (I T 24) (I T 26) (I T 93)):=e95
  simp only[AE,AG,zN,zC,zR,Bd,and_true,AS,w2P,zL,zS,uR,AY,zW] at*
  by_cases h:(I T 152)=0
  ·obtain⟨z1,z2,z3,z4,z5,z6⟩:=hZ h
   obtain⟨u1,u2,u3,u4⟩:=hs (e39.1 z1).1
   rw[RC hw.2.2 u3 u4 u1 u2,←hE,if_pos h,e151,if_neg (by simp[z3]),e147,if_neg (by simp[z4]),e143,if_neg (by simp[z5]),e139,if_pos z6]
   rcases hm z1 with hm|hm
   ·exact absurd z2 hm.1
   ·exact hm.2.2.2
  ·rw[(hN h).2]
   unfold HB
   rw[←hE,if_neg h]
 refine⟨?_,?_,?_,?_,?_,?_,?_⟩
 ·obtain⟨e15,e16,e17,e18,e19,e20,e21,e22,e23,e24,e25,e26,e27,e28,e29,e30,-⟩:=F0
  obtain⟨e31,e32,e33,-,e35,e36,e37,e38,e39,e40,-,e42,e43,-⟩:=F1
  obtain⟨e48,e49,e50,e51,e52,e53,e54,e55,e56,-⟩:=F2
  obtain⟨e58,e59,-,e61,e62,e63,e64,e65,e66,e67,e68,e69,e70,e71,e72,e73,-⟩:=F3
  obtain⟨e75,-,e77,e78,-,e80,-,e82,e83,-,-,-,-,-,e89,-⟩:=F5
  obtain⟨e91,e92,e93,e94,e95,e96,-⟩:=F6
  obtain⟨e98,e99,-,e101,e102,e103,e104,e105,e106,e107,e108,e109,e110,e111,e112,e113,-⟩:=F7
  obtain⟨e115,-,e117,e118,-,e120,-,e122,e123,e124,-,e126,e127,-,e129,-⟩:=F9
  obtain⟨e131,-,e133,-,-,e136,e137,e138,-,-,-,e142,-,-,-,e146,-⟩:=F10
  obtain⟨-,-,-,e150,-⟩:=F11
  replace e16:I T 16=(Br g1 (L T 15)):=by rw[←show gAt 0 (Bt.map (Rf.eval T))=g1 from z1.symm];exact e16
  replace e19:I T 19=(AT (I T 13) (L T 14)):=e19
  replace e35:I T 35=(Ab (I T 3) (I T 24) (I T 26) (I T 11) (I T 12)):=e35
  replace e40:I T 40=(Ab (I T 3) (I T 24) (I T 26) (I T 29) (I T 32)):=e40
  replace e54:I T 54=(Ad (I T 3) (I T 24) (I T 26) (I T 53)):=e54
  replace e55:I T 55=(Ac (I T 3) (I T 24) (I T 26) (I T 53)):=e55
  replace e94:I T 94=(Ad (I T 3) (I T 24) (I T 26) (I T 93)):=e94
  replace e95:I T 95=(Ac (I T 3) (I T 24) (I T 26) (I T 93)):=e95
  simp only[AE,AG,zN,zC,zR,Bd,and_true,AS,w2P,zL,zS,uR,AY,zW] at*
  exact hV0
 ·obtain⟨e15,e16,e17,e18,e19,e20,e21,e22,e23,e24,e25,e26,e27,e28,e29,e30,-⟩:=F0
  obtain⟨e31,e32,e33,-,e35,e36,e37,e38,e39,e40,-,e42,e43,-⟩:=F1
  obtain⟨e48,e49,e50,e51,e52,e53,e54,e55,e56,-⟩:=F2
  obtain⟨e58,e59,-,e61,e62,e63,e64,e65,e66,e67,e68,e69,e70,e71,e72,e73,-⟩:=F3
  obtain⟨e75,-,e77,e78,-,-,e81,e82,e83,-,-,-,-,-,e89,-⟩:=F5
  obtain⟨e91,e92,e93,e94,e95,e96,-⟩:=F6
  obtain⟨e98,e99,-,e101,e102,e103,e104,e105,e106,e107,e108,e109,e110,e111,e112,e113,-⟩:=F7
  obtain⟨e115,-,e117,e118,-,-,e121,e122,e123,-,e125,e126,e127,-,e129,-⟩:=F9
  obtain⟨-,e132,e133,-,-,e136,e137,-,e139,-,-,-,e143,-⟩:=F10
  obtain⟨e147,-,-,-,e151,-⟩:=F11
  replace e16:I T 16=(Br g1 (L T 15)):=by rw[←show gAt 0 (Bt.map (Rf.eval T))=g1 from z1.symm];exact e16
  replace e19:I T 19=(AT (I T 13) (L T 14)):=e19
  replace e35:I T 35=(Ab (I T 3) (I T 24) (I T 26) (I T 11) (I T 12)):=e35
  replace e40:I T 40=(Ab (I T 3) (I T 24) (I T 26) (I T 29) (I T 32)):=e40
  replace e54:I T 54=(Ad (I T 3) (I T 24) (I T 26) (I T 53)):=e54
  replace e55:I T 55=(Ac (I T 3) (I T 24) (I T 26) (I T 53)):=e55
  replace e94:I T 94=(Ad (I T 3) (I T 24) (I T 26) (I T 93)):=e94
  replace e95:I T 95=(Ac (I T 3) (I T 24) (I T 26) (I T 93)):=e95
  simp only[AE,AG,zN,zC,zR,Bd,and_true,AS,w2P,zL,zS,uR,AY,zW] at*
  exact hV1
 ·obtain⟨e15,e16,e17,e18,e19,e20,e21,e22,e23,e24,e25,e26,e27,e28,e29,e30,-⟩:=F0
  obtain⟨e31,e32,e33,-,e35,e36,e37,e38,e39,e40,-,e42,e43,-⟩:=F1
  obtain⟨e48,e49,e50,e51,e52,e53,e54,e55,e56,-⟩:=F2
  obtain⟨e58,e59,-,e61,e62,e63,e64,e65,e66,e67,e68,e69,e70,e71,e72,e73,-⟩:=F3
  obtain⟨e75,-,e77,e78,-,-,-,e82,e83,-,-,-,-,-,e89,-⟩:=F5
  obtain⟨e91,e92,e93,e94,e95,e96,-⟩:=F6
  obtain⟨e98,e99,-,e101,e102,e103,e104,e105,e106,e107,e108,e109,e110,e111,e112,e113,-⟩:=F7
  obtain⟨e115,-,e117,e118,-,-,-,e122,e123,-,-,e126,e127,-,e129,-⟩:=F9
  obtain⟨-,-,e133,-,-,e136,e137,-,-,e140,-,-,-,e144,-⟩:=F10
  obtain⟨-,e148,-,-,-,e152,-⟩:=F11
  replace e16:I T 16=(Br g1 (L T 15)):=by rw[←show gAt 0 (Bt.map (Rf.eval T))=g1 from z1.symm];exact e16
  replace e19:I T 19=(AT (I T 13) (L T 14)):=e19
  replace e35:I T 35=(Ab (I T 3) (I T 24) (I T 26) (I T 11) (I T 12)):=e35
  replace e40:I T 40=(Ab (I T 3) (I T 24) (I T 26) (I T 29) (I T 32)):=e40
  replace e54:I T 54=(Ad (I T 3) (I T 24) (I T 26) (I T 53)):=e54
  replace e55:I T 55=(Ac (I T 3) (I T 24) (I T 26) (I T 53)):=e55
  replace e94:I T 94=(Ad (I T 3) (I T 24) (I T 26) (I T 93)):=e94
  replace e95:I T 95=(Ac (I T 3) (I T 24) (I T 26) (I T 93)):=e95
  simp only[AE,AG,zN,zC,zR,Bd,and_true,AS,w2P,zL,zS,uR,AY,zW] at*
  exact hE
 ·obtain⟨e15,e16,e17,e18,e19,e20,-,e22,e23,e24,e25,e26,e27,e28,e29,e30,-⟩:=F0
  obtain⟨e31,e32,e33,-,e35,e36,e37,-,e39,-⟩:=F1
  replace e16:I T 16=(Br g1 (L T 15)):=by rw[←show gAt 0 (Bt.map (Rf.eval T))=g1 from z1.symm];exact e16
  replace e19:I T 19=(AT (I T 13) (L T 14)):=e19
  replace e35:I T 35=(Ab (I T 3) (I T 24) (I T 26) (I T 11) (I T 12)):=e35
  simp only[AE,AG,zN,zR,Bd,and_true,AS,w2P,zL,zS,uR,AY,zW] at*
  intro h
  exact (hq (e39.1 h).1).1
 ·obtain⟨e15,e16,e17,e18,e19,e20,-,e22,e23,e24,e25,e26,e27,e28,e29,e30,-⟩:=F0
  obtain⟨e31,e32,e33,-,e35,e36,e37,-,e39,-⟩:=F1
  replace e16:I T 16=(Br g1 (L T 15)):=by rw[←show gAt 0 (Bt.map (Rf.eval T))=g1 from z1.symm];exact e16
  replace e19:I T 19=(AT (I T 13) (L T 14)):=e19
  replace e35:I T 35=(Ab (I T 3) (I T 24) (I T 26) (I T 11) (I T 12)):=e35
  simp only[AE,AG,zN,zR,Bd,and_true,AS,w2P,zL,zS,uR,AY,zW] at*
  intro h
  obtain⟨q1,q2,q3,q4,q5,q6⟩:=hq (e39.1 h).1
  have h3:=CI q6
  rw[hw.1,hw.2.1,hw.2.2] at h3
  obtain⟨⟨⟨d1,d2⟩,⟨d3,d4⟩,d5,d6⟩,d7,d8,-⟩:=h3
  have h1:=LR (x:=I T 11) (lo:=I T 3) (hi:=I T 1 - (I T 3)) (by omega)
  have h2:=LR (x:=I T 12) (lo:=I T 3) (hi:=I T 2 - (I T 3)) (by omega)
  rw[←q3.1] at h1
  rw[←q3.2] at h2
  exact Af.2 (by omega)
 ·obtain⟨e15,e16,e17,e18,e19,e20,-,e22,e23,e24,e25,e26,e27,e28,e29,e30,-⟩:=F0
  obtain⟨e31,e32,e33,e34,-⟩:=F1
  replace e16:I T 16=(Br g1 (L T 15)):=by rw[←show gAt 0 (Bt.map (Rf.eval T))=g1 from z1.symm];exact e16
  replace e19:I T 19=(AT (I T 13) (L T 14)):=e19
  simp only[AE,AG,zN,zR,Bd,and_true,AS,w2P,zL,zS,uR,AY,zW] at*
  intro h
  exact (hq (e34.1 h).1).1
 ·obtain⟨e15,e16,e17,e18,e19,e20,-,e22,-,-,-,-,e27,e28,e29,e30,-⟩:=F0
  obtain⟨e31,e32,e33,e34,-⟩:=F1
  replace e16:I T 16=(Br g1 (L T 15)):=by rw[←show gAt 0 (Bt.map (Rf.eval T))=g1 from z1.symm];exact e16
  replace e19:I T 19=(AT (I T 13) (L T 14)):=e19
  simp only[AE,AG,zN,zR,Bd,and_true,AS,w2P,zL,zS,uR,AY,zW] at*
  intro h
  exact (hq (e34.1 h).1).2.2.2.2.1
theorem bI:Ao Try.prog 14 Fr:=by
 refine AZ (l:=[(52,J1),(53,GR),(56,Fy),(88,O3)]) BH (by simp only[List.forall_mem_cons];exact⟨Zt,Tc,bh,jZ,fun _ h=>absurd h (by simp)⟩) jc (by kernel_rfl) fun T us hpre hT hul hS hBd hE=>?_
 change us.length=15 at hul
 obtain⟨hz0,-,-,-,⟨hl4,he4⟩,-,-,-,-,-,⟨hl10,he10⟩,-,-,-,⟨hl14,he14⟩,-⟩:=hBd
 replace hz0:(S T 0).size≤140737488355328:=hz0
 replace hl4:(L T 4).length≤140737488355328:=hl4
 replace hl10:(L T 10).length≤140737488355328:=hl10
 replace hl14:(L T 14).length≤140737488355328:=hl14
 obtain⟨g,hg⟩:∃g:Ln,g=Ln.mk (S T 0) (I T 1) (I T 2) (I T 3) (L T 4) (I T 5) (I T 6) (I T 7) (I T 8) (I T 9) (L T 10):=⟨_,rfl⟩
 have hgu:gAt 0 us=g:=by rw[hg];exact Cu hT hul (by decide)
 have ha11:aI us 11=I T 11:=inI hT hul (by decide)
 have ha12:aI us 12=I T 12:=inI hT hul (by decide)
 have ha13:aI us 13=I T 13:=inI hT hul (by decide)
 have ha14:aL us 14=L T 14:=inL hT hul (by decide)
 clear hpre
 rw[List.map_append,List.map_append,List.map_append] at hE
 have hA:=hE.left
 replace hE:=hE.right
 have hH:=hE.left
 replace hE:=hE.right
 have hB:=hE.left
 replace hE:=hE.right
 obtain⟨A0,hS1⟩:=AV hS (by kernel_rfl) hA
 obtain⟨g1,z1⟩:∃g:Ln,g=Ln.mk (S T 0) (I T 1) (I T 2) (I T 3) (L T 4) (I T 5) (I T 6) (I T 7) (I T 8) (I T 9) (L T 10):=⟨_,rfl⟩
 obtain⟨hg1,h16,hw,h22,hq,h37,hb⟩:=ei hz0 hl4 hl10 hl14 g hg g1 z1 A0
 obtain⟨ow0,hS2,inv0,np0⟩:=fa hl14 hb hS1 hB hH
 have gb:(B T 39)=true→BX (I T 3) (I T 24) (I T 26)∧I T 43=2*((I T 24)+I T 26)∧(0≤I T 40∧I T 40 < I T 43)∧(1≤I T 13∧I T 13≤16384)∧((L T 14)).all Aq=true:=by
  have fv13:I T 13=I T 13:=rfl
  have fv14:L T 14=L T 14:=rfl
  have fv3:I T 3=I T 3:=rfl
  have fv24:I T 24=I T 24:=rfl
  have fv26:I T 26=I T 26:=rfl
  have fv43:I T 43=I T 43:=rfl
  have fv40:I T 40=I T 40:=rfl
  have fv39:B T 39=B T 39:=rfl
  have inv:=inv0
  rw[fv39,fv3,fv24,fv26,fv43,fv40,fv13,fv14];exact hb
 have gl:((L T 14)).length≤140737488355328:=by
  have fv13:I T 13=I T 13:=rfl
  have fv14:L T 14=L T 14:=rfl
  have fv3:I T 3=I T 3:=rfl
  have fv24:I T 24=I T 24:=rfl
  have fv26:I T 26=I T 26:=rfl
  have fv43:I T 43=I T 43:=rfl
  have fv40:I T 40=I T 40:=rfl
  have fv39:B T 39=B T 39:=rfl
  have inv:=inv0
  rw[fv14];exact hl14
 have gt:0≤I T 44∧I T 47=0:=by
  have fv13:I T 13=I T 13:=rfl
  have fv14:L T 14=L T 14:=rfl
  have fv3:I T 3=I T 3:=rfl
  have fv24:I T 24=I T 24:=rfl
  have fv26:I T 26=I T 26:=rfl
  have fv43:I T 43=I T 43:=rfl
  have fv40:I T 40=I T 40:=rfl
  have fv39:B T 39=B T 39:=rfl
  have inv:=inv0
  exact⟨inv.1,inv.2.1⟩
 obtain⟨C0_0,k1,h56,ow1,inv1,np1,B1,C0_1,k2,h96,ow2,inv2,np2,B2,C0_2,hx1,f1,hx2,f2,hSe⟩:=Xg gb gl gt (hS2.append (Dj (fun _ _=>rfl) hS1)) hB
 have hS:=hSe.append hS1
 clear hA hB hH hS1 hS2 hSe
 obtain⟨A3,hO⟩:=Ap (tys:=[.i,.i,.i]) (rs:=fE) hS (by kernel_rfl) hE
 obtain⟨q0,q1,q2,r0,r1,r2,r3⟩:=jn hz0 hl4 hl10 hl14 g hg g1 z1 hg1 h16 hw h22 hq h37 hb inv0 np0 k1 h56 inv1 np1 k2 h96 inv2 np2 hx1 f1 hx2 f2 gb gl gt A0 C0_0 B1 C0_1 B2 C0_2 A3
 refine⟨⟨(fun _=>ow0),r0,r1,r2,r3,trivial⟩,hO.trans ?_⟩
 exact (lc (by show U.int (I T 150)= .int (Km us);unfold Km;rw[hgu,ha11,ha12,ha13,ha14];exact congrArg U.int q0) (lc (by show U.int (I T 151)= .int (LK us);unfold LK;rw[hgu,ha11,ha12,ha13,ha14];exact congrArg U.int q1) (lc (by show U.int (I T 152)= .int (LC us);unfold LC;rw[hgu,ha11,ha12,ha13,ha14];exact congrArg U.int q2) rfl)))
end Go.Eng
end
