/-
  A part of the proof: K_gPlayd K_gPlay.
-/
import Derived.Test.YtcinpabggaepfaaE3
import Derived.Test.YtcinpabggaepfaaE4
import Derived.Test.YtcinpabggaepfaaKgposs
import Derived.Test.YtcinpabggaepfaaKglegal
import Derived.Test.YtcinpabggaepfaaKgmove
set_option linter.unusedVariables false
set_option linter.unusedSimpArgs false
noncomputable section
open Go Go.Eng Go.Proofs
set_option maxHeartbeats 4000000
set_option maxRecDepth 100000
namespace Go.Eng
def Bg (us:List U):Gm:=D2 (gAt 0 us) (aI us 26) (aI us 27) (aB us 28) (aL us 29)
def NX (us:List U):Int:=(Bg us).code
def OB (us:List U):Int:=(Bg us).phase
def OS (us:List U):Int:=(Bg us).side
def Nu (us:List U):Int:=(Bg us).ball
def NJ (us:List U):Int:=(Bg us).taken
def Oe (us:List U):Int:=(Bg us).p0
def N7 (us:List U):Int:=(Bg us).p1
def NO (us:List U):Int:=(Bg us).p2
def OX (us:List U):Int:=(Bg us).p3
def Nm (us:List U):Bool:=(Bg us).n0
def MI (us:List U):Bool:=(Bg us).n1
def MQ (us:List U):Bool:=(Bg us).n2
def Md (us:List U):Bool:=(Bg us).n3
def MF (us:List U):Bool:=(Bg us).d0
def MM (us:List U):Bool:=(Bg us).d1
def L0 (us:List U):Bool:=(Bg us).d2
def Lh (us:List U):Bool:=(Bg us).d3
def MX (us:List U):Int:=(Bg us).h0
def L2 (us:List U):Int:=(Bg us).h1
def Mh (us:List U):Bool:=(Bg us).l0
def Lt (us:List U):Bool:=(Bg us).l1
def Lo (us:List U):Bool:=(Bg us).half
def L8 (us:List U):Int:=(Bg us).turns
def MA (us:List U):Int:=(Bg us).began
def Mb (us:List U):Int:=(Bg us).lastb
def ML (us:List U):Int:=(Bg us).winner
def Ih:List U→Int:=fun us=>(B9 (gAt 0 us) (aI us 26) (aI us 27) (aB us 28) (aL us 29))
def LU:Bc:={ sh:=[.agg [k64,k64,k64,k64,k64,k64,k64,k64,k64,.bool,.bool,.bool,.bool,.bool,.bool,.bool,.bool,k64,k64,.bool,.bool,.bool,k64,k64,k64,k64],.agg [k64,k64,.bool,.list [k64,k64]]],blks:=[],outs:=[(.s "gPlay.0",AI NX),(.s "gPlay.1",AI OB),(.s "gPlay.2",AI OS),(.s "gPlay.3",AI Nu),(.s "gPlay.4",AI NJ),(.s "gPlay.5",AI Oe),(.s "gPlay.6",AI N7),(.s "gPlay.7",AI NO),(.s "gPlay.8",AI OX),(.s "gPlay.9",AQ Nm),(.s "gPlay.10",AQ MI),(.s "gPlay.11",AQ MQ),(.s "gPlay.12",AQ Md),(.s "gPlay.13",AQ MF),(.s "gPlay.14",AQ MM),(.s "gPlay.15",AQ L0),(.s "gPlay.16",AQ Lh),(.s "gPlay.17",AI MX),(.s "gPlay.18",AI L2),(.s "gPlay.19",AQ Mh),(.s "gPlay.20",AQ Lt),(.s "gPlay.21",AQ Lo),(.s "gPlay.22",AI L8),(.s "gPlay.23",AI MA),(.s "gPlay.24",AI Mb),(.s "gPlay.25",AI ML),(.s "gPlay.26",AI Ih)],c:= .tup [.agg [(AG 30),(AG 31),(AG 32),(AG 33),(AG 34),(AG 35),(AG 36),(AG 37),(AG 38),.b 39,.b 40,.b 41,.b 42,.b 43,.b 44,.b 45,.b 46,(AG 47),(AG 48),.b 49,.b 50,.b 51,(AG 52),(AG 53),(AG 54),(AG 55)],(AG 56)],m':=[],pre:=[] }
def ET:List Rf:=[.e 0,.e 1,.e 2,.e 3,.e 4,.e 5,.e 6,.e 7,.e 8,.e 9,.e 10,.e 11,.e 12,.e 13,.e 14,.e 15,.e 16,.e 17,.e 18,.e 19,.e 20,.e 21,.e 22,.e 23,.e 24,.e 25,.e 41,.e 42,.e 43,.e 44,.e 45,.e 46]
def BB:List Rf:=[.e 26,.e 27,.e 28,.e 29,.e 0,.e 1,.e 2,.e 3,.e 4,.e 5,.e 6,.e 7,.e 8,.e 9,.e 10,.e 11,.e 12,.e 13,.e 14,.e 15,.e 16,.e 17,.e 18,.e 19,.e 20,.e 21,.e 22,.e 23,.e 24,.e 25,.e 41,.e 42,.e 43,.e 44,.e 45,.e 46]
def SG:List (Nat × Ty):=[(120,.i),(121,.i),(122,.i),(123,.i),(124,.i),(125,.i),(126,.i),(127,.i),(128,.i),(129,.b),(130,.b),(131,.b),(132,.b),(133,.b),(134,.b),(135,.b),(136,.b),(137,.i),(138,.i),(139,.b),(140,.b),(141,.b),(142,.i),(143,.i),(144,.i),(145,.i)]
def ZT:List En:=[⟨30,.lt,[.e 0,.c (.int 0)]⟩,
 ⟨31,.not,[.e 30]⟩,
 ⟨32,.le,[.c (.int 4),.e 0]⟩,
 ⟨33,.or,[.e 30,.e 32]⟩,
 ⟨34,.not,[.e 33]⟩,
 ⟨35,.pick .i,[.e 0,.c (.int 12),.c (.int 12),.c (.int 6),.c (.int 12)]⟩,
 ⟨36,.pick .i,[.e 0,.c (.int 0),.c (.int 7),.c (.int 0),.c (.int 0)]⟩,
 ⟨37,.pick .i,[.e 0,.c (.int 0),.c (.int 10),.c (.int 0),.c (.int 0)]⟩,
 ⟨38,.pick .b,[.e 0,.c (.bool true),.c (.bool true),.c (.bool true),.c (.bool false)]⟩,
 ⟨39,.pick .b,[.e 0,.c (.bool true),.c (.bool false),.c (.bool true),.c (.bool false)]⟩,
 ⟨40,.pick .b,[.e 0,.c (.bool false),.c (.bool false),.c (.bool false),.c (.bool true)]⟩,
 ⟨41,.ite .i,[.e 33,.c (.int 0),.e 35]⟩,
 ⟨42,.ite .i,[.e 33,.c (.int 0),.e 36]⟩,
 ⟨43,.ite .i,[.e 33,.c (.int 0),.e 37]⟩,
 ⟨44,.ite .b,[.e 33,.c (.bool false),.e 38]⟩,
 ⟨45,.ite .b,[.e 33,.c (.bool false),.e 39]⟩]
def ZW:List En:=[⟨46,.ite .b,[.e 33,.c (.bool false),.e 40]⟩,
 ⟨47,.ite .i,[.e 33,.c (.int 3),.c (.int 0)]⟩,
 ⟨48,.or,[.e 33,.e 34]⟩,
 ⟨49,.ne,[.e 47,.c (.int 0)]⟩,
 ⟨50,.not,[.e 49]⟩,
 ⟨51,.outB "gposs.0" JU,ET⟩,
 ⟨52,.or,[.e 49,.n 51]⟩,
 ⟨53,.not,[.e 52]⟩,
 ⟨54,.outB "glegal.0" IY,ET⟩,
 ⟨55,.or,[.e 52,.n 54]⟩,
 ⟨56,.not,[.e 55]⟩,
 ⟨57,.ite .i,[.e 55,.c (.int 2),.c (.int 0)]⟩,
 ⟨58,.not,[.e 55]⟩,
 ⟨59,.or,[.e 55,.e 56]⟩,
 ⟨60,.ne,[.e 57,.c (.int 0)]⟩,
 ⟨61,.not,[.e 60]⟩]
def Zi:List En:=[⟨62,.outI "gmove.0" N1,BB⟩,
 ⟨63,.outI "gmove.1" Nw,BB⟩,
 ⟨64,.outI "gmove.2" NT,BB⟩,
 ⟨65,.outI "gmove.3" OJ,BB⟩,
 ⟨66,.outI "gmove.4" OC,BB⟩,
 ⟨67,.outI "gmove.5" Nh,BB⟩,
 ⟨68,.outI "gmove.6" NQ,BB⟩,
 ⟨69,.outI "gmove.7" NL,BB⟩,
 ⟨70,.outI "gmove.8" NC,BB⟩,
 ⟨71,.outB "gmove.9" ND,BB⟩,
 ⟨72,.outB "gmove.10" Ma,BB⟩,
 ⟨73,.outB "gmove.11" Lw,BB⟩,
 ⟨74,.outB "gmove.12" MH,BB⟩,
 ⟨75,.outB "gmove.13" Lz,BB⟩,
 ⟨76,.outB "gmove.14" LY,BB⟩,
 ⟨77,.outB "gmove.15" Lp,BB⟩]
def ZA:List En:=[⟨78,.outB "gmove.16" Ml,BB⟩,
 ⟨79,.outI "gmove.17" Lk,BB⟩,
 ⟨80,.outI "gmove.18" MP,BB⟩,
 ⟨81,.outB "gmove.19" Ln,BB⟩,
 ⟨82,.outB "gmove.20" Lj,BB⟩,
 ⟨83,.outB "gmove.21" L7,BB⟩,
 ⟨84,.outI "gmove.22" Lq,BB⟩,
 ⟨85,.outI "gmove.23" Le,BB⟩,
 ⟨86,.outI "gmove.24" MN,BB⟩,
 ⟨87,.outI "gmove.25" Lm,BB⟩,
 ⟨88,.outI "gmove.26" IQ,BB⟩,
 ⟨89,.ne,[.e 88,.c (.int 0)]⟩,
 ⟨90,.and,[.e 61,.e 89]⟩,
 ⟨91,.and,[.e 61,.n 89]⟩,
 ⟨92,.ite .i,[.e 90,.c (.int 0),.e 62]⟩,
 ⟨93,.ite .i,[.e 90,.c (.int 0),.e 63]⟩]
def Zk:List En:=[⟨94,.ite .i,[.e 90,.c (.int 0),.e 64]⟩,
 ⟨95,.ite .i,[.e 90,.c (.int 0),.e 65]⟩,
 ⟨96,.ite .i,[.e 90,.c (.int 0),.e 66]⟩,
 ⟨97,.ite .i,[.e 90,.c (.int 0),.e 67]⟩,
 ⟨98,.ite .i,[.e 90,.c (.int 0),.e 68]⟩,
 ⟨99,.ite .i,[.e 90,.c (.int 0),.e 69]⟩,
 ⟨100,.ite .i,[.e 90,.c (.int 0),.e 70]⟩,
 ⟨101,.ite .b,[.e 90,.c (.bool false),.e 71]⟩,
 ⟨102,.ite .b,[.e 90,.c (.bool false),.e 72]⟩,
 ⟨103,.ite .b,[.e 90,.c (.bool false),.e 73]⟩,
 ⟨104,.ite .b,[.e 90,.c (.bool false),.e 74]⟩,
 ⟨105,.ite .b,[.e 90,.c (.bool false),.e 75]⟩,
 ⟨106,.ite .b,[.e 90,.c (.bool false),.e 76]⟩,
 ⟨107,.ite .b,[.e 90,.c (.bool false),.e 77]⟩,
 ⟨108,.ite .b,[.e 90,.c (.bool false),.e 78]⟩,
 ⟨109,.ite .i,[.e 90,.c (.int 0),.e 79]⟩]
def Z4:List En:=[⟨110,.ite .i,[.e 90,.c (.int 0),.e 80]⟩,
 ⟨111,.ite .b,[.e 90,.c (.bool false),.e 81]⟩,
 ⟨112,.ite .b,[.e 90,.c (.bool false),.e 82]⟩,
 ⟨113,.ite .b,[.e 90,.c (.bool false),.e 83]⟩,
 ⟨114,.ite .i,[.e 90,.c (.int 0),.e 84]⟩,
 ⟨115,.ite .i,[.e 90,.c (.int 0),.e 85]⟩,
 ⟨116,.ite .i,[.e 90,.c (.int 0),.e 86]⟩,
 ⟨117,.ite .i,[.e 90,.c (.int 0),.e 87]⟩,
 ⟨118,.ite .i,[.e 90,.e 88,.c (.int 0)]⟩,
 ⟨119,.or,[.e 90,.e 91]⟩,
 ⟨120,.ite .i,[.e 60,.c (.int 0),.e 92]⟩,
 ⟨121,.ite .i,[.e 60,.c (.int 0),.e 93]⟩,
 ⟨122,.ite .i,[.e 60,.c (.int 0),.e 94]⟩,
 ⟨123,.ite .i,[.e 60,.c (.int 0),.e 95]⟩,
 ⟨124,.ite .i,[.e 60,.c (.int 0),.e 96]⟩,
 ⟨125,.ite .i,[.e 60,.c (.int 0),.e 97]⟩]
def aF:List En:=[⟨126,.ite .i,[.e 60,.c (.int 0),.e 98]⟩,
 ⟨127,.ite .i,[.e 60,.c (.int 0),.e 99]⟩,
 ⟨128,.ite .i,[.e 60,.c (.int 0),.e 100]⟩,
 ⟨129,.ite .b,[.e 60,.c (.bool false),.e 101]⟩,
 ⟨130,.ite .b,[.e 60,.c (.bool false),.e 102]⟩,
 ⟨131,.ite .b,[.e 60,.c (.bool false),.e 103]⟩,
 ⟨132,.ite .b,[.e 60,.c (.bool false),.e 104]⟩,
 ⟨133,.ite .b,[.e 60,.c (.bool false),.e 105]⟩,
 ⟨134,.ite .b,[.e 60,.c (.bool false),.e 106]⟩,
 ⟨135,.ite .b,[.e 60,.c (.bool false),.e 107]⟩,
 ⟨136,.ite .b,[.e 60,.c (.bool false),.e 108]⟩,
 ⟨137,.ite .i,[.e 60,.c (.int 0),.e 109]⟩,
 ⟨138,.ite .i,[.e 60,.c (.int 0),.e 110]⟩,
 ⟨139,.ite .b,[.e 60,.c (.bool false),.e 111]⟩,
 ⟨140,.ite .b,[.e 60,.c (.bool false),.e 112]⟩,
 ⟨141,.ite .b,[.e 60,.c (.bool false),.e 113]⟩]
def ZH:List En:=[⟨142,.ite .i,[.e 60,.c (.int 0),.e 114]⟩,
 ⟨143,.ite .i,[.e 60,.c (.int 0),.e 115]⟩,
 ⟨144,.ite .i,[.e 60,.c (.int 0),.e 116]⟩,
 ⟨145,.ite .i,[.e 60,.c (.int 0),.e 117]⟩,
 ⟨146,.ite .i,[.e 60,.e 0,.e 62]⟩,
 ⟨147,.ite .i,[.e 60,.e 1,.e 63]⟩,
 ⟨148,.ite .i,[.e 60,.e 2,.e 64]⟩,
 ⟨149,.ite .i,[.e 60,.e 3,.e 65]⟩,
 ⟨150,.ite .i,[.e 60,.e 4,.e 66]⟩,
 ⟨151,.ite .i,[.e 60,.e 5,.e 67]⟩,
 ⟨152,.ite .i,[.e 60,.e 6,.e 68]⟩,
 ⟨153,.ite .i,[.e 60,.e 7,.e 69]⟩,
 ⟨154,.ite .i,[.e 60,.e 8,.e 70]⟩,
 ⟨155,.ite .b,[.e 60,.e 9,.e 71]⟩,
 ⟨156,.ite .b,[.e 60,.e 10,.e 72]⟩,
 ⟨157,.ite .b,[.e 60,.e 11,.e 73]⟩]
def Zz:List En:=[⟨158,.ite .b,[.e 60,.e 12,.e 74]⟩,
 ⟨159,.ite .b,[.e 60,.e 13,.e 75]⟩,
 ⟨160,.ite .b,[.e 60,.e 14,.e 76]⟩,
 ⟨161,.ite .b,[.e 60,.e 15,.e 77]⟩,
 ⟨162,.ite .b,[.e 60,.e 16,.e 78]⟩,
 ⟨163,.ite .i,[.e 60,.e 17,.e 79]⟩,
 ⟨164,.ite .i,[.e 60,.e 18,.e 80]⟩,
 ⟨165,.ite .b,[.e 60,.e 19,.e 81]⟩,
 ⟨166,.ite .b,[.e 60,.e 20,.e 82]⟩,
 ⟨167,.ite .b,[.e 60,.e 21,.e 83]⟩,
 ⟨168,.ite .i,[.e 60,.e 22,.e 84]⟩,
 ⟨169,.ite .i,[.e 60,.e 23,.e 85]⟩,
 ⟨170,.ite .i,[.e 60,.e 24,.e 86]⟩,
 ⟨171,.ite .i,[.e 60,.e 25,.e 87]⟩,
 ⟨172,.ite .i,[.e 60,.e 57,.e 118]⟩,
 ⟨173,.or,[.e 60,.e 119]⟩]
def Tl:List En:=ZT++(ZW++(Zi++(ZA++(Zk++(Z4++(aF++(ZH++(Zz))))))))
def jo:List ObE:=[⟨some 91,.t,[.e 58]⟩,
 ⟨some 61,.btw (0) (1),[.e 2]⟩,
 ⟨some 61,.pre "gmove.p0" IJ,BB⟩,
 ⟨some 61,.pre "gmove.p1" Da,BB⟩,
 ⟨some 61,.t,[.e 58]⟩,
 ⟨some 53,.pre "glegal.p0" HE,ET⟩,
 ⟨some 53,.pre "glegal.p1" DP,ET⟩,
 ⟨some 50,.pre "gposs.p0" IG,ET⟩,
 ⟨some 34,.inr,[.e 0,.c (.int 4)]⟩]
def bU:List Rf:=[.e 120,.e 121,.e 122,.e 123,.e 124,.e 125,.e 126,.e 127,.e 128,.e 129,.e 130,.e 131,.e 132,.e 133,.e 134,.e 135,.e 136,.e 137,.e 138,.e 139,.e 140,.e 141,.e 142,.e 143,.e 144,.e 145,.e 172]
theorem jk:LU.sees bU (LU.run Try.prog [(45,II),(46,EX),(35,FR)] Ba 3000 20 12)=some ((Tl).map En.be,jo.map ObE.be,[]):=by kernel_rfl
theorem jK {T:Tab}(hl29:(L T 29).length≤140737488355328)(g:Gm)(hg:g=gT T 0)(g1:Gm)(z1:g1=gT T 0)(g2:Gm)(z2:g2=gT T 0)(A0:AK T Tl):
  (gT T 120=D2 g (I T 26) (I T 27) (B T 28) (L T 29))∧
  ((I T 172)=(B9 g (I T 26) (I T 27) (B T 28) (L T 29)))∧
  (B T 91=true→B T 58=true)∧
  (B T 61=true→0≤I T 2∧I T 2≤1)∧
  (B T 61=true→0≤I T 0∧I T 0≤3∧I T 41=AX (I T 0)∧I T 42=Ac (I T 0)∧I T 43=Ab (I T 0)∧B T 44=Aw (I T 0)∧B T 45=Ao (I T 0)∧B T 46=BI (I T 0))∧
  (B T 61=true→AR g2=true)∧
  (B T 61=true→B T 58=true)∧
  (B T 53=true→0≤I T 0∧I T 0≤3∧I T 41=AX (I T 0)∧I T 42=Ac (I T 0)∧I T 43=Ab (I T 0)∧B T 44=Aw (I T 0)∧B T 45=Ao (I T 0)∧B T 46=BI (I T 0))∧
  (B T 53=true→BU g1=true)∧
  (B T 50=true→0≤I T 0∧I T 0≤3∧I T 41=AX (I T 0)∧I T 42=Ac (I T 0)∧I T 43=Ab (I T 0)∧B T 44=Aw (I T 0)∧B T 45=Ao (I T 0)∧B T 46=BI (I T 0))∧
  (B T 34=true→0≤I T 0∧I T 0 < 4):=by
 have hFa:=A0
 obtain⟨F0,A0⟩:=A0.cut
 obtain⟨F1,A0⟩:=A0.cut
 obtain⟨F2,A0⟩:=A0.cut
 obtain⟨F3,A0⟩:=A0.cut
 obtain⟨F4,A0⟩:=A0.cut
 obtain⟨F5,A0⟩:=A0.cut
 obtain⟨F6,A0⟩:=A0.cut
 obtain⟨F7,A0⟩:=A0.cut
 have F8:=A0;clear A0
 have hgA:g1=g:=by rw[z1,hg]
 have hgB:g2=g:=by rw[z2,hg]
 have hcode:g.code=I T 0:=by rw[hg]
 have h50:(B T 50)=true↔(0≤I T 0∧I T 0≤3):=by
  obtain⟨e30,-,e32,e33,-⟩:=F0
  obtain⟨-,e47,-,e49,e50,-⟩:=F1
  simp only[AA,AD,zR,zL] at*
  clear hg
  grind
 have hcd:(B T 50)=true→0≤I T 0∧I T 0≤3∧I T 41=AX (I T 0)∧I T 42=Ac (I T 0)∧I T 43=Ab (I T 0)∧B T 44=Aw (I T 0)∧B T 45=Ao (I T 0)∧B T 46=BI (I T 0):=by
  obtain⟨e30,-,e32,e33,-,e35,e36,e37,e38,e39,e40,e41,e42,e43,e44,e45,-⟩:=F0
  obtain⟨e46,e47,-,e49,e50,-⟩:=F1
  simp only[AA,AD,zC,zR,AN,AM,and_false,or_false,zL] at*
  clear hg
  intro h
  have h0:=h50.1 h
  refine⟨h0.1,h0.2,?_,?_,?_,?_,?_,?_⟩<;>first|(unfold AX;grind)|(unfold Ac;grind)|(unfold Ab;grind)|(refine AU ?_;unfold Aw;simp only[Bool.not_eq_true',decide_eq_false_iff_not];grind)|(refine AU ?_;unfold Ao;simp only[Bool.and_eq_true,Bool.not_eq_true',decide_eq_false_iff_not];grind)|(refine AU ?_;unfold BI;simp only[decide_eq_true_eq];grind)
 have h51:(B T 51)=BU g:=by
  obtain⟨-,-,-,-,-,e51,-⟩:=F1
  replace e51:B T 51=(BU g1):=by rw[←show gAt 0 (ET.map (Rf.eval T))=g1 from z1.symm];exact e51
  rw[e51,hgA]
 have h54:(B T 54)=(DR g&&CI g&&((Ag g&&Ct g)||(!Ag g&&Cm g))):=by
  obtain⟨-,-,-,-,-,-,-,-,e54,-⟩:=F1
  replace e54:B T 54=(DR g1&&CI g1&&((Ag g1&&Ct g1)||(!Ag g1&&Cm g1))):=by rw[←show gAt 0 (ET.map (Rf.eval T))=g1 from z1.symm];exact e54
  rw[e54,hgA]
 have hleg:(B T 58)=true↔AR g=true:=by
  obtain⟨-,-,-,e49,e50,-,e52,-,-,e55,-,-,e58,-⟩:=F1
  simp only[AA,AD,zN,zR] at*
  have e:AR g=(BU g&&(DR g&&CI g&&((Ag g&&Ct g)||(!Ag g&&Cm g)))):=by unfold AR;simp only[Bool.and_assoc]
  rw[e,←h51,←h54,Bool.and_eq_true]
  have hn:(B T 51)=true→B T 50=true:=by intro h;rw[h51] at h;have:=DB h;rw[hcode] at this;exact h50.2 ⟨this.1,this.2.1⟩
  clear hcd h50 hg e h51 h54
  grind
 have h60:(B T 60)=true↔¬B T 58=true:=by
  obtain⟨-,-,-,-,-,-,-,-,-,e55,-,e57,e58,-,e60,-⟩:=F1
  simp only[AA,AD,zN,zR,zL] at*
  clear hg h50 hcd h51 h54 hleg
  grind
 have h61:(B T 61)=true↔B T 58=true:=by
  obtain⟨-,-,-,-,-,-,-,-,-,-,-,-,-,-,-,e61,-⟩:=F1
  simp only[AA,AD,zR] at e61
  clear hg h50 hcd h51 h54 hleg
  grind
 have h88:(I T 88)=B9 g (I T 26) (I T 27) (B T 28) (L T 29):=by
  obtain⟨-,-,-,-,-,-,-,-,-,-,e88,-⟩:=F3
  replace e88:I T 88=(B9 g2 (I T 26) (I T 27) (B T 28) (L T 29)):=by rw[←show gAt 4 (BB.map (Rf.eval T))=g2 from z2.symm];exact e88
  rw[e88,hgB]
 have h90:(B T 90)=true↔((B T 61)=true∧¬B9 g (I T 26) (I T 27) (B T 28) (L T 29)=0):=by
  obtain⟨-,-,-,-,-,-,-,-,-,-,-,e89,e90,-⟩:=F3
  simp only[AA,AD,zR] at e89 e90
  rw[←h88]
  clear hg h50 hcd h51 h54 hleg h88
  grind
 have h2:(B T 60)=true→B9 g (I T 26) (I T 27) (B T 28) (L T 29)=2:=by
  obtain⟨-,-,-,-,-,-,-,-,-,-,-,-,-,-,e60,-⟩:=F1
  simp only[AA,zR] at e60
  intro h
  have hl:AR g=false:=by cases hx:AR g with|false=>rfl|true=>exact absurd (hleg.2 hx) (h60.1 h)
  unfold B9
  rw[if_pos hl]
 have h0:(B T 60)=false→B T 90=false→B9 g (I T 26) (I T 27) (B T 28) (L T 29)=0:=by
  obtain⟨-,-,-,-,-,-,-,-,-,-,-,-,-,-,e60,-⟩:=F1
  simp only[AA,zR] at e60
  intro a b
  refine Classical.byContradiction fun h=>?_
  have h58:(B T 58)=true:=by cases hx:(B T 58) with|true=>rfl|false=>rw[h60.2 (by rw[hx];decide)] at a;cases a
  rw[h90.2 ⟨h61.2 h58,h⟩] at b;cases b
 have herr:B9 g (I T 26) (I T 27) (B T 28) (L T 29)=I T 172:=by
  obtain⟨-,-,-,-,-,-,-,-,-,e55,-,e57,e58,-,e60,-⟩:=F1
  obtain⟨-,-,-,-,-,-,-,-,-,-,-,e89,e90,-⟩:=F3
  obtain⟨-,-,-,-,-,-,-,-,e118,-⟩:=F5
  obtain⟨-,-,-,-,-,-,-,-,-,-,-,-,-,-,e172,-⟩:=F8
  simp only[AA,AD,zN,zR,zL] at*
  rw[←h88] at*
  clear hg hcd h51 h54 hleg h50
  grind
 have cr2_0:gT T 62=(if B9 g2 (I T 26) (I T 27) (B T 28) (L T 29)=0 then Bv g2 (I T 26) (I T 27) (L T 29) else g2):=by
  obtain⟨e62,e63,e64,e65,e66,e67,e68,e69,e70,e71,e72,e73,e74,e75,e76,e77,-⟩:=F2
  obtain⟨e78,e79,e80,e81,e82,e83,e84,e85,e86,e87,-⟩:=F3
  rw[←show gAt 4 (BB.map (Rf.eval T))=g2 from z2.symm]
  exact Bk e62 e63 e64 e65 e66 e67 e68 e69 e70 e71 e72 e73 e74 e75 e76 e77 e78 e79 e80 e81 e82 e83 e84 e85 e86 e87
 refine⟨?_,?_,?_,?_,?_,?_,?_,?_,?_,?_,?_⟩
 ·rcases Bool.eq_false_or_eq_true (B T 60) with k60|k60
  ·
   refine (BC (Ap (K:=[(60,.b,.c (.bool true))]) (outs:=SG) (os:=[.c (.int 0),.c (.int 0),.c (.int 0),.c (.int 0),.c (.int 0),.c (.int 0),.c (.int 0),.c (.int 0),.c (.int 0),.c (.bool false),.c (.bool false),.c (.bool false),.c (.bool false),.c (.bool false),.c (.bool false),.c (.bool false),.c (.bool false),.c (.int 0),.c (.int 0),.c (.bool false),.c (.bool false),.c (.bool false),.c (.int 0),.c (.int 0),.c (.int 0),.c (.int 0)]) ⟨k60,trivial⟩ hFa (by kernel_rfl))).trans ?_
   show Gm.mk (0) (0) (0) (0) (0) (0) (0) (0) (0) false false false false false false false false (0) (0) false false false (0) (0) (0) (0)=_
   unfold D2
   rw[if_neg (by rw[h2 k60];decide)]
   rfl
  ·
   rcases Bool.eq_false_or_eq_true (B T 90) with k90|k90
   ·
    refine (BC (Ap (K:=[(60,.b,.c (.bool false)),(90,.b,.c (.bool true))]) (outs:=SG) (os:=[.c (.int 0),.c (.int 0),.c (.int 0),.c (.int 0),.c (.int 0),.c (.int 0),.c (.int 0),.c (.int 0),.c (.int 0),.c (.bool false),.c (.bool false),.c (.bool false),.c (.bool false),.c (.bool false),.c (.bool false),.c (.bool false),.c (.bool false),.c (.int 0),.c (.int 0),.c (.bool false),.c (.bool false),.c (.bool false),.c (.int 0),.c (.int 0),.c (.int 0),.c (.int 0)]) ⟨k60,k90,trivial⟩ hFa (by kernel_rfl))).trans ?_
    show Gm.mk (0) (0) (0) (0) (0) (0) (0) (0) (0) false false false false false false false false (0) (0) false false false (0) (0) (0) (0)=_
    unfold D2
    rw[if_neg (h90.1 k90).2]
    rfl
   ·
    refine (BC (Ap (K:=[(60,.b,.c (.bool false)),(90,.b,.c (.bool false))]) (outs:=SG) (os:=[.e 62,.e 63,.e 64,.e 65,.e 66,.e 67,.e 68,.e 69,.e 70,.e 71,.e 72,.e 73,.e 74,.e 75,.e 76,.e 77,.e 78,.e 79,.e 80,.e 81,.e 82,.e 83,.e 84,.e 85,.e 86,.e 87]) ⟨k60,k90,trivial⟩ hFa (by kernel_rfl))).trans ?_
    show gT T 62=_
    unfold D2
    rw[if_pos (h0 k60 k90),cr2_0,hgB,if_pos (h0 k60 k90)]
 ·obtain⟨-,-,-,-,-,-,-,-,-,-,-,-,-,-,e172,-⟩:=F8
  simp only[AA,AD,zR,zL] at e172
  exact herr.symm
 ·obtain⟨-,-,-,-,-,-,-,-,-,-,-,-,-,-,-,e61,-⟩:=F1
  obtain⟨-,-,-,-,-,-,-,-,-,-,-,-,-,e91,-⟩:=F3
  simp only[AA,AD,zN,zR] at e61 e91
  intro h
  exact h61.1 (by clear hcd h54 herr h2 h0 h90;grind)
 ·obtain⟨-,-,-,-,-,-,-,-,-,-,-,-,-,-,-,e61,-⟩:=F1
  simp only[AA,AD,zR] at e61
  intro h
  have h:=(CS (hleg.1 (h61.1 h))).side
  rw[hg] at h;exact h
 ·obtain⟨-,-,-,-,e50,-,e52,-,-,e55,-,-,e58,-⟩:=F1
  simp only[AA,AD,zN,zR] at*
  intro h
  have h58:=h61.1 h
  exact hcd (by clear hcd h54 herr h2 h0 h90 hg h51;grind)
 ·obtain⟨-,-,-,-,-,-,-,-,-,-,-,-,-,-,-,e61,-⟩:=F1
  simp only[AA,AD,zR] at e61
  intro h
  rw[hgB];exact hleg.1 (h61.1 h)
 ·obtain⟨-,-,-,-,-,-,-,-,-,-,-,-,-,-,-,e61,-⟩:=F1
  simp only[AA,AD,zR] at e61
  intro h
  exact h61.1 h
 ·obtain⟨-,-,-,-,e50,-,e52,e53,-⟩:=F1
  simp only[AA,AD,zN,zR] at e50 e52 e53
  intro h
  exact hcd (by clear hcd h54 herr h2 h0 h90 hg h51;grind)
 ·obtain⟨-,-,-,-,-,-,e52,e53,-⟩:=F1
  simp only[AA,AD,zN,zR] at e52 e53
  intro h
  rw[hgA,←h51]
  clear hcd h54 herr h2 h0 h90 hg
  grind
 ·obtain⟨-,-,-,-,e50,-⟩:=F1
  simp only[AA,AD,zR] at e50
  exact hcd
 ·obtain⟨e30,-,e32,e33,e34,-⟩:=F0
  simp only[AA,AD,zR] at*
  clear hcd h54 herr h2 h0 h90 hg h51
  grind
theorem ip:CA Try.prog 12 LU:=by
 refine Bu (l:=[(45,II),(46,EX),(35,FR)]) C6 (by simp only[List.forall_mem_cons];exact⟨Wj,TJ,WU,fun _ h=>absurd h (by simp)⟩) jk (by kernel_rfl) fun T us hpre hT hul hS hBd hE=>?_
 change us.length=30 at hul
 obtain⟨-,-,-,-,-,-,-,-,-,-,-,-,-,-,-,-,-,⟨hl29,he29⟩,-⟩:=hBd
 replace hl29:(L T 29).length≤140737488355328:=hl29
 obtain⟨g,hg⟩:∃g:Gm,g=gT T 0:=⟨_,rfl⟩
 have hgu:gAt 0 us=g:=by rw[hg];exact DV hT hul (by decide)
 have ha26:aI us 26=I T 26:=inI hT hul (by decide)
 have ha27:aI us 27=I T 27:=inI hT hul (by decide)
 have ha28:aB us 28=B T 28:=inB hT hul (by decide)
 have ha29:aL us 29=L T 29:=inL hT hul (by decide)
 clear hpre
 skip
 obtain⟨A0,hO⟩:=CK (tys:=[.i,.i,.i,.i,.i,.i,.i,.i,.i,.b,.b,.b,.b,.b,.b,.b,.b,.i,.i,.b,.b,.b,.i,.i,.i,.i,.i]) (rs:=bU) hS (by kernel_rfl) hE
 obtain⟨g1,z1⟩:∃g:Gm,g=gT T 0:=⟨_,rfl⟩
 obtain⟨g2,z2⟩:∃g:Gm,g=gT T 0:=⟨_,rfl⟩
 obtain⟨whole,q26,r0,r1,r2,r3,r4,r5,r6,r7,r8⟩:=jK hl29 g hg g1 z1 g2 z2 A0
 have hog:Bg us=D2 g (I T 26) (I T 27) (B T 28) (L T 29):=by unfold Bg;rw[hgu,ha26,ha27,ha28,ha29]
 replace whole:=whole.trans hog.symm
 refine⟨⟨r0,r1,r2,(fun hp=>by show Da _;unfold Da;rw[show gAt 4 (BB.map (Rf.eval T))=g2 from z2.symm];exact r3 hp),r4,r5,(fun hp=>by show DP _;unfold DP;rw[show gAt 0 (ET.map (Rf.eval T))=g1 from z1.symm];exact r6 hp),r7,r8,trivial⟩,hO.trans ?_⟩
 exact Ka whole ((lc (by show U.int (I T 172)= .int (Ih us);unfold Ih;rw[hgu,ha26,ha27,ha28,ha29];exact congrArg U.int q26) rfl))
end Go.Eng
end
