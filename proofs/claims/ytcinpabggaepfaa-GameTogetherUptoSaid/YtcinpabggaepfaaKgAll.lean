/-
  A part of the proof: K_gAlld K_gAll.
-/
import Derived.Test.YtcinpabggaepfaaE3
import Derived.Test.YtcinpabggaepfaaE4
import Derived.Test.YtcinpabggaepfaaKgposs
import Derived.Test.YtcinpabggaepfaaKglegal
import Derived.Test.YtcinpabggaepfaaKgmove
set_option linter.unusedVariables false
set_option linter.unusedSimpArgs false
noncomputable section
open Go Go.Eng Go.Proofs
set_option maxHeartbeats 4000000
set_option maxRecDepth 100000
namespace Go.Eng
def B3 (us:List U):Gm:=(Cu (gAt 0 us) (aL us 26)).1
def WX (us:List U):Int:=(B3 us).code
def Yw (us:List U):Int:=(B3 us).phase
def Y1 (us:List U):Int:=(B3 us).side
def YN (us:List U):Int:=(B3 us).ball
def Xn (us:List U):Int:=(B3 us).taken
def X4 (us:List U):Int:=(B3 us).p0
def Xq (us:List U):Int:=(B3 us).p1
def W8 (us:List U):Int:=(B3 us).p2
def Xk (us:List U):Int:=(B3 us).p3
def W2 (us:List U):Bool:=(B3 us).n0
def TC (us:List U):Bool:=(B3 us).n1
def UE (us:List U):Bool:=(B3 us).n2
def Uv (us:List U):Bool:=(B3 us).n3
def Uk (us:List U):Bool:=(B3 us).d0
def Un (us:List U):Bool:=(B3 us).d1
def Ug (us:List U):Bool:=(B3 us).d2
def Tq (us:List U):Bool:=(B3 us).d3
def TA (us:List U):Int:=(B3 us).h0
def Ua (us:List U):Int:=(B3 us).h1
def TP (us:List U):Bool:=(B3 us).l0
def Ul (us:List U):Bool:=(B3 us).l1
def TD (us:List U):Bool:=(B3 us).half
def UX (us:List U):Int:=(B3 us).turns
def TW (us:List U):Int:=(B3 us).began
def UQ (us:List U):Int:=(B3 us).lastb
def UL (us:List U):Int:=(B3 us).winner
def KO:List U→Int:=fun us=>((Cu (gAt 0 us) (aL us 26)).2.1)
def Kg:List U→Int:=fun us=>((Cu (gAt 0 us) (aL us 26)).2.2)
def LD:Bc:={ sh:=[.agg [k64,k64,k64,k64,k64,k64,k64,k64,k64,.bool,.bool,.bool,.bool,.bool,.bool,.bool,.bool,k64,k64,.bool,.bool,.bool,k64,k64,k64,k64],.one (.list [k64,k64,.bool,.list [k64,k64]])],blks:=[],outs:=[(.s "gAll.0",AI WX),(.s "gAll.1",AI Yw),(.s "gAll.2",AI Y1),(.s "gAll.3",AI YN),(.s "gAll.4",AI Xn),(.s "gAll.5",AI X4),(.s "gAll.6",AI Xq),(.s "gAll.7",AI W8),(.s "gAll.8",AI Xk),(.s "gAll.9",AQ W2),(.s "gAll.10",AQ TC),(.s "gAll.11",AQ UE),(.s "gAll.12",AQ Uv),(.s "gAll.13",AQ Uk),(.s "gAll.14",AQ Un),(.s "gAll.15",AQ Ug),(.s "gAll.16",AQ Tq),(.s "gAll.17",AI TA),(.s "gAll.18",AI Ua),(.s "gAll.19",AQ TP),(.s "gAll.20",AQ Ul),(.s "gAll.21",AQ TD),(.s "gAll.22",AI UX),(.s "gAll.23",AI TW),(.s "gAll.24",AI UQ),(.s "gAll.25",AI UL),(.s "gAll.26",AI KO),(.s "gAll.27",AI Kg)],c:= .tup [.agg [(AG 27),(AG 28),(AG 29),(AG 30),(AG 31),(AG 32),(AG 33),(AG 34),(AG 35),.b 36,.b 37,.b 38,.b 39,.b 40,.b 41,.b 42,.b 43,(AG 44),(AG 45),.b 46,.b 47,.b 48,(AG 49),(AG 50),(AG 51),(AG 52)],(AG 53),(AG 54)],m':=[],pre:=[] }
def Gj:List Rf:=[.e 0,.e 1,.e 2,.e 3,.e 4,.e 5,.e 6,.e 7,.e 8,.e 9,.e 10,.e 11,.e 12,.e 13,.e 14,.e 15,.e 16,.e 17,.e 18,.e 19,.e 20,.e 21,.e 22,.e 23,.e 24,.e 25,.e 38,.e 39,.e 40,.e 41,.e 42,.e 43]
def BK:List Rf:=[.e 94,.e 95,.e 96,.e 97,.e 65,.e 66,.e 67,.e 68,.e 69,.e 70,.e 71,.e 72,.e 73,.e 74,.e 75,.e 76,.e 77,.e 78,.e 79,.e 80,.e 81,.e 82,.e 83,.e 84,.e 85,.e 86,.e 87,.e 88,.e 89,.e 90,.e 38,.e 39,.e 40,.e 41,.e 42,.e 43]
def Qz:List (Nat × Ty):=[(240,.i),(241,.i),(242,.i),(243,.i),(244,.i),(245,.i),(246,.i),(247,.i),(248,.i),(249,.b),(250,.b),(251,.b),(252,.b),(253,.b),(254,.b),(255,.b),(256,.b),(257,.i),(258,.i),(259,.b),(260,.b),(261,.b),(262,.i),(263,.i),(264,.i),(265,.i)]
def cM:List En:=[⟨27,.lt,[.e 0,.c (.int 0)]⟩,
 ⟨28,.not,[.e 27]⟩,
 ⟨29,.le,[.c (.int 4),.e 0]⟩,
 ⟨30,.or,[.e 27,.e 29]⟩,
 ⟨31,.not,[.e 30]⟩,
 ⟨32,.pick .i,[.e 0,.c (.int 12),.c (.int 12),.c (.int 6),.c (.int 12)]⟩,
 ⟨33,.pick .i,[.e 0,.c (.int 0),.c (.int 7),.c (.int 0),.c (.int 0)]⟩,
 ⟨34,.pick .i,[.e 0,.c (.int 0),.c (.int 10),.c (.int 0),.c (.int 0)]⟩,
 ⟨35,.pick .b,[.e 0,.c (.bool true),.c (.bool true),.c (.bool true),.c (.bool false)]⟩,
 ⟨36,.pick .b,[.e 0,.c (.bool true),.c (.bool false),.c (.bool true),.c (.bool false)]⟩,
 ⟨37,.pick .b,[.e 0,.c (.bool false),.c (.bool false),.c (.bool false),.c (.bool true)]⟩,
 ⟨38,.ite .i,[.e 30,.c (.int 0),.e 32]⟩,
 ⟨39,.ite .i,[.e 30,.c (.int 0),.e 33]⟩,
 ⟨40,.ite .i,[.e 30,.c (.int 0),.e 34]⟩,
 ⟨41,.ite .b,[.e 30,.c (.bool false),.e 35]⟩,
 ⟨42,.ite .b,[.e 30,.c (.bool false),.e 36]⟩]
def dw:List En:=[⟨43,.ite .b,[.e 30,.c (.bool false),.e 37]⟩,
 ⟨44,.ite .i,[.e 30,.c (.int 3),.c (.int 0)]⟩,
 ⟨45,.or,[.e 30,.e 31]⟩,
 ⟨46,.ne,[.e 44,.c (.int 0)]⟩,
 ⟨47,.not,[.e 46]⟩,
 ⟨48,.outB "gposs.0" JU,Gj⟩,
 ⟨49,.or,[.e 46,.n 48]⟩,
 ⟨50,.not,[.e 49]⟩,
 ⟨51,.outB "glegal.0" IY,Gj⟩,
 ⟨52,.or,[.e 49,.n 51]⟩,
 ⟨53,.not,[.e 52]⟩,
 ⟨54,.ite .i,[.e 52,.c (.int 2),.c (.int 0)]⟩,
 ⟨55,.not,[.e 52]⟩,
 ⟨56,.or,[.e 52,.e 53]⟩,
 ⟨57,.ne,[.e 54,.c (.int 0)]⟩,
 ⟨58,.not,[.e 57]⟩]
def dC:List En:=[⟨59,.len,[.e 26]⟩,
 ⟨60,.lt,[.c (.int 1000),.e 59]⟩,
 ⟨61,.and,[.e 58,.e 60]⟩,
 ⟨62,.and,[.e 58,.n 60]⟩,
 ⟨63,.len,[.e 26]⟩]
def cu:List En:=[⟨91,.lt,[.e 64,.e 63]⟩,
 ⟨92,.and,[.e 62,.e 91]⟩,
 ⟨93,.and,[.e 62,.n 91]⟩,
 ⟨94,.get .i 0,[.e 26,.e 64]⟩,
 ⟨95,.get .i 1,[.e 26,.e 64]⟩,
 ⟨96,.get .b 2,[.e 26,.e 64]⟩,
 ⟨97,.get .l 3,[.e 26,.e 64]⟩,
 ⟨98,.outI "gmove.0" N1,BK⟩,
 ⟨99,.outI "gmove.1" Nw,BK⟩,
 ⟨100,.outI "gmove.2" NT,BK⟩,
 ⟨101,.outI "gmove.3" OJ,BK⟩,
 ⟨102,.outI "gmove.4" OC,BK⟩,
 ⟨103,.outI "gmove.5" Nh,BK⟩,
 ⟨104,.outI "gmove.6" NQ,BK⟩,
 ⟨105,.outI "gmove.7" NL,BK⟩,
 ⟨106,.outI "gmove.8" NC,BK⟩]
def cQ:List En:=[⟨107,.outB "gmove.9" ND,BK⟩,
 ⟨108,.outB "gmove.10" Ma,BK⟩,
 ⟨109,.outB "gmove.11" Lw,BK⟩,
 ⟨110,.outB "gmove.12" MH,BK⟩,
 ⟨111,.outB "gmove.13" Lz,BK⟩,
 ⟨112,.outB "gmove.14" LY,BK⟩,
 ⟨113,.outB "gmove.15" Lp,BK⟩,
 ⟨114,.outB "gmove.16" Ml,BK⟩,
 ⟨115,.outI "gmove.17" Lk,BK⟩,
 ⟨116,.outI "gmove.18" MP,BK⟩,
 ⟨117,.outB "gmove.19" Ln,BK⟩,
 ⟨118,.outB "gmove.20" Lj,BK⟩,
 ⟨119,.outB "gmove.21" L7,BK⟩,
 ⟨120,.outI "gmove.22" Lq,BK⟩,
 ⟨121,.outI "gmove.23" Le,BK⟩,
 ⟨122,.outI "gmove.24" MN,BK⟩]
def b9:List En:=[⟨123,.outI "gmove.25" Lm,BK⟩,
 ⟨124,.outI "gmove.26" IQ,BK⟩,
 ⟨125,.ne,[.e 124,.c (.int 0)]⟩,
 ⟨126,.and,[.e 92,.e 125]⟩,
 ⟨127,.and,[.e 92,.n 125]⟩,
 ⟨128,.w2 .i64 .add,[.e 64,.c (.int 1)]⟩]
def Mj:List En:=cM++(dw++(dC))
def Ha:List En:=cu++(cQ++(b9))
def Wc:List ObE:=[⟨some 126,.t,[.e 55]⟩,⟨some 92,.btw (0) (1),[.e 67]⟩,⟨some 92,.pre "gmove.p0" IJ,BK⟩,⟨some 92,.pre "gmove.p1" Da,BK⟩,⟨some 92,.t,[.e 55]⟩,⟨some 92,.inl,[.e 64,.e 26]⟩]
def ME:BW:=mkD 64 27 Ha 127 [.e 128,.e 98,.e 99,.e 100,.e 101,.e 102,.e 103,.e 104,.e 105,.e 106,.e 107,.e 108,.e 109,.e 110,.e 111,.e 112,.e 113,.e 114,.e 115,.e 116,.e 117,.e 118,.e 119,.e 120,.e 121,.e 122,.e 123] Wc [38,39,40,41,42,43,26,62,63,55]
def QF:List Rf:=[.e 38,.e 39,.e 40,.e 41,.e 42,.e 43,.e 26,.e 62,.e 63,.e 55,.c (.int 0),.e 0,.e 1,.e 2,.e 3,.e 4,.e 5,.e 6,.e 7,.e 8,.e 9,.e 10,.e 11,.e 12,.e 13,.e 14,.e 15,.e 16,.e 17,.e 18,.e 19,.e 20,.e 21,.e 22,.e 23,.e 24,.e 25]
def cl:List En:=[⟨129,.len,[.e 26]⟩,
 ⟨130,.ite .i,[.e 126,.e 98,.e 65]⟩,
 ⟨131,.ite .i,[.e 126,.e 99,.e 66]⟩,
 ⟨132,.ite .i,[.e 126,.e 100,.e 67]⟩,
 ⟨133,.ite .i,[.e 126,.e 101,.e 68]⟩,
 ⟨134,.ite .i,[.e 126,.e 102,.e 69]⟩,
 ⟨135,.ite .i,[.e 126,.e 103,.e 70]⟩,
 ⟨136,.ite .i,[.e 126,.e 104,.e 71]⟩,
 ⟨137,.ite .i,[.e 126,.e 105,.e 72]⟩,
 ⟨138,.ite .i,[.e 126,.e 106,.e 73]⟩,
 ⟨139,.ite .b,[.e 126,.e 107,.e 74]⟩,
 ⟨140,.ite .b,[.e 126,.e 108,.e 75]⟩,
 ⟨141,.ite .b,[.e 126,.e 109,.e 76]⟩,
 ⟨142,.ite .b,[.e 126,.e 110,.e 77]⟩,
 ⟨143,.ite .b,[.e 126,.e 111,.e 78]⟩,
 ⟨144,.ite .b,[.e 126,.e 112,.e 79]⟩]
def bw:List En:=[⟨145,.ite .b,[.e 126,.e 113,.e 80]⟩,
 ⟨146,.ite .b,[.e 126,.e 114,.e 81]⟩,
 ⟨147,.ite .i,[.e 126,.e 115,.e 82]⟩,
 ⟨148,.ite .i,[.e 126,.e 116,.e 83]⟩,
 ⟨149,.ite .b,[.e 126,.e 117,.e 84]⟩,
 ⟨150,.ite .b,[.e 126,.e 118,.e 85]⟩,
 ⟨151,.ite .b,[.e 126,.e 119,.e 86]⟩,
 ⟨152,.ite .i,[.e 126,.e 120,.e 87]⟩,
 ⟨153,.ite .i,[.e 126,.e 121,.e 88]⟩,
 ⟨154,.ite .i,[.e 126,.e 122,.e 89]⟩,
 ⟨155,.ite .i,[.e 126,.e 123,.e 90]⟩,
 ⟨156,.ite .i,[.e 126,.e 98,.e 65]⟩,
 ⟨157,.ite .i,[.e 126,.e 99,.e 66]⟩,
 ⟨158,.ite .i,[.e 126,.e 100,.e 67]⟩,
 ⟨159,.ite .i,[.e 126,.e 101,.e 68]⟩,
 ⟨160,.ite .i,[.e 126,.e 102,.e 69]⟩]
def cV:List En:=[⟨161,.ite .i,[.e 126,.e 103,.e 70]⟩,
 ⟨162,.ite .i,[.e 126,.e 104,.e 71]⟩,
 ⟨163,.ite .i,[.e 126,.e 105,.e 72]⟩,
 ⟨164,.ite .i,[.e 126,.e 106,.e 73]⟩,
 ⟨165,.ite .b,[.e 126,.e 107,.e 74]⟩,
 ⟨166,.ite .b,[.e 126,.e 108,.e 75]⟩,
 ⟨167,.ite .b,[.e 126,.e 109,.e 76]⟩,
 ⟨168,.ite .b,[.e 126,.e 110,.e 77]⟩,
 ⟨169,.ite .b,[.e 126,.e 111,.e 78]⟩,
 ⟨170,.ite .b,[.e 126,.e 112,.e 79]⟩,
 ⟨171,.ite .b,[.e 126,.e 113,.e 80]⟩,
 ⟨172,.ite .b,[.e 126,.e 114,.e 81]⟩,
 ⟨173,.ite .i,[.e 126,.e 115,.e 82]⟩,
 ⟨174,.ite .i,[.e 126,.e 116,.e 83]⟩,
 ⟨175,.ite .b,[.e 126,.e 117,.e 84]⟩,
 ⟨176,.ite .b,[.e 126,.e 118,.e 85]⟩]
def cZ:List En:=[⟨177,.ite .b,[.e 126,.e 119,.e 86]⟩,
 ⟨178,.ite .i,[.e 126,.e 120,.e 87]⟩,
 ⟨179,.ite .i,[.e 126,.e 121,.e 88]⟩,
 ⟨180,.ite .i,[.e 126,.e 122,.e 89]⟩,
 ⟨181,.ite .i,[.e 126,.e 123,.e 90]⟩,
 ⟨182,.ite .i,[.e 126,.e 64,.e 129]⟩,
 ⟨183,.ite .i,[.e 126,.e 124,.c (.int 0)]⟩,
 ⟨184,.or,[.e 126,.e 93]⟩,
 ⟨185,.ite .i,[.e 61,.c (.int 0),.e 130]⟩,
 ⟨186,.ite .i,[.e 61,.c (.int 0),.e 131]⟩,
 ⟨187,.ite .i,[.e 61,.c (.int 0),.e 132]⟩,
 ⟨188,.ite .i,[.e 61,.c (.int 0),.e 133]⟩,
 ⟨189,.ite .i,[.e 61,.c (.int 0),.e 134]⟩,
 ⟨190,.ite .i,[.e 61,.c (.int 0),.e 135]⟩,
 ⟨191,.ite .i,[.e 61,.c (.int 0),.e 136]⟩,
 ⟨192,.ite .i,[.e 61,.c (.int 0),.e 137]⟩]
def dp:List En:=[⟨193,.ite .i,[.e 61,.c (.int 0),.e 138]⟩,
 ⟨194,.ite .b,[.e 61,.c (.bool false),.e 139]⟩,
 ⟨195,.ite .b,[.e 61,.c (.bool false),.e 140]⟩,
 ⟨196,.ite .b,[.e 61,.c (.bool false),.e 141]⟩,
 ⟨197,.ite .b,[.e 61,.c (.bool false),.e 142]⟩,
 ⟨198,.ite .b,[.e 61,.c (.bool false),.e 143]⟩,
 ⟨199,.ite .b,[.e 61,.c (.bool false),.e 144]⟩,
 ⟨200,.ite .b,[.e 61,.c (.bool false),.e 145]⟩,
 ⟨201,.ite .b,[.e 61,.c (.bool false),.e 146]⟩,
 ⟨202,.ite .i,[.e 61,.c (.int 0),.e 147]⟩,
 ⟨203,.ite .i,[.e 61,.c (.int 0),.e 148]⟩,
 ⟨204,.ite .b,[.e 61,.c (.bool false),.e 149]⟩,
 ⟨205,.ite .b,[.e 61,.c (.bool false),.e 150]⟩,
 ⟨206,.ite .b,[.e 61,.c (.bool false),.e 151]⟩,
 ⟨207,.ite .i,[.e 61,.c (.int 0),.e 152]⟩,
 ⟨208,.ite .i,[.e 61,.c (.int 0),.e 153]⟩]
def dB:List En:=[⟨209,.ite .i,[.e 61,.c (.int 0),.e 154]⟩,
 ⟨210,.ite .i,[.e 61,.c (.int 0),.e 155]⟩,
 ⟨211,.ite .i,[.e 61,.e 0,.e 156]⟩,
 ⟨212,.ite .i,[.e 61,.e 1,.e 157]⟩,
 ⟨213,.ite .i,[.e 61,.e 2,.e 158]⟩,
 ⟨214,.ite .i,[.e 61,.e 3,.e 159]⟩,
 ⟨215,.ite .i,[.e 61,.e 4,.e 160]⟩,
 ⟨216,.ite .i,[.e 61,.e 5,.e 161]⟩,
 ⟨217,.ite .i,[.e 61,.e 6,.e 162]⟩,
 ⟨218,.ite .i,[.e 61,.e 7,.e 163]⟩,
 ⟨219,.ite .i,[.e 61,.e 8,.e 164]⟩,
 ⟨220,.ite .b,[.e 61,.e 9,.e 165]⟩,
 ⟨221,.ite .b,[.e 61,.e 10,.e 166]⟩,
 ⟨222,.ite .b,[.e 61,.e 11,.e 167]⟩,
 ⟨223,.ite .b,[.e 61,.e 12,.e 168]⟩,
 ⟨224,.ite .b,[.e 61,.e 13,.e 169]⟩]
def eL:List En:=[⟨225,.ite .b,[.e 61,.e 14,.e 170]⟩,
 ⟨226,.ite .b,[.e 61,.e 15,.e 171]⟩,
 ⟨227,.ite .b,[.e 61,.e 16,.e 172]⟩,
 ⟨228,.ite .i,[.e 61,.e 17,.e 173]⟩,
 ⟨229,.ite .i,[.e 61,.e 18,.e 174]⟩,
 ⟨230,.ite .b,[.e 61,.e 19,.e 175]⟩,
 ⟨231,.ite .b,[.e 61,.e 20,.e 176]⟩,
 ⟨232,.ite .b,[.e 61,.e 21,.e 177]⟩,
 ⟨233,.ite .i,[.e 61,.e 22,.e 178]⟩,
 ⟨234,.ite .i,[.e 61,.e 23,.e 179]⟩,
 ⟨235,.ite .i,[.e 61,.e 24,.e 180]⟩,
 ⟨236,.ite .i,[.e 61,.e 25,.e 181]⟩,
 ⟨237,.ite .i,[.e 61,.c (.int 0),.e 182]⟩,
 ⟨238,.ite .i,[.e 61,.c (.int 6),.e 183]⟩,
 ⟨239,.or,[.e 61,.e 184]⟩,
 ⟨240,.ite .i,[.e 57,.c (.int 0),.e 185]⟩]
def dq:List En:=[⟨241,.ite .i,[.e 57,.c (.int 0),.e 186]⟩,
 ⟨242,.ite .i,[.e 57,.c (.int 0),.e 187]⟩,
 ⟨243,.ite .i,[.e 57,.c (.int 0),.e 188]⟩,
 ⟨244,.ite .i,[.e 57,.c (.int 0),.e 189]⟩,
 ⟨245,.ite .i,[.e 57,.c (.int 0),.e 190]⟩,
 ⟨246,.ite .i,[.e 57,.c (.int 0),.e 191]⟩,
 ⟨247,.ite .i,[.e 57,.c (.int 0),.e 192]⟩,
 ⟨248,.ite .i,[.e 57,.c (.int 0),.e 193]⟩,
 ⟨249,.ite .b,[.e 57,.c (.bool false),.e 194]⟩,
 ⟨250,.ite .b,[.e 57,.c (.bool false),.e 195]⟩,
 ⟨251,.ite .b,[.e 57,.c (.bool false),.e 196]⟩,
 ⟨252,.ite .b,[.e 57,.c (.bool false),.e 197]⟩,
 ⟨253,.ite .b,[.e 57,.c (.bool false),.e 198]⟩,
 ⟨254,.ite .b,[.e 57,.c (.bool false),.e 199]⟩,
 ⟨255,.ite .b,[.e 57,.c (.bool false),.e 200]⟩,
 ⟨256,.ite .b,[.e 57,.c (.bool false),.e 201]⟩]
def dM:List En:=[⟨257,.ite .i,[.e 57,.c (.int 0),.e 202]⟩,
 ⟨258,.ite .i,[.e 57,.c (.int 0),.e 203]⟩,
 ⟨259,.ite .b,[.e 57,.c (.bool false),.e 204]⟩,
 ⟨260,.ite .b,[.e 57,.c (.bool false),.e 205]⟩,
 ⟨261,.ite .b,[.e 57,.c (.bool false),.e 206]⟩,
 ⟨262,.ite .i,[.e 57,.c (.int 0),.e 207]⟩,
 ⟨263,.ite .i,[.e 57,.c (.int 0),.e 208]⟩,
 ⟨264,.ite .i,[.e 57,.c (.int 0),.e 209]⟩,
 ⟨265,.ite .i,[.e 57,.c (.int 0),.e 210]⟩,
 ⟨266,.ite .i,[.e 57,.e 0,.e 211]⟩,
 ⟨267,.ite .i,[.e 57,.e 1,.e 212]⟩,
 ⟨268,.ite .i,[.e 57,.e 2,.e 213]⟩,
 ⟨269,.ite .i,[.e 57,.e 3,.e 214]⟩,
 ⟨270,.ite .i,[.e 57,.e 4,.e 215]⟩,
 ⟨271,.ite .i,[.e 57,.e 5,.e 216]⟩,
 ⟨272,.ite .i,[.e 57,.e 6,.e 217]⟩]
def eB:List En:=[⟨273,.ite .i,[.e 57,.e 7,.e 218]⟩,
 ⟨274,.ite .i,[.e 57,.e 8,.e 219]⟩,
 ⟨275,.ite .b,[.e 57,.e 9,.e 220]⟩,
 ⟨276,.ite .b,[.e 57,.e 10,.e 221]⟩,
 ⟨277,.ite .b,[.e 57,.e 11,.e 222]⟩,
 ⟨278,.ite .b,[.e 57,.e 12,.e 223]⟩,
 ⟨279,.ite .b,[.e 57,.e 13,.e 224]⟩,
 ⟨280,.ite .b,[.e 57,.e 14,.e 225]⟩,
 ⟨281,.ite .b,[.e 57,.e 15,.e 226]⟩,
 ⟨282,.ite .b,[.e 57,.e 16,.e 227]⟩,
 ⟨283,.ite .i,[.e 57,.e 17,.e 228]⟩,
 ⟨284,.ite .i,[.e 57,.e 18,.e 229]⟩,
 ⟨285,.ite .b,[.e 57,.e 19,.e 230]⟩,
 ⟨286,.ite .b,[.e 57,.e 20,.e 231]⟩,
 ⟨287,.ite .b,[.e 57,.e 21,.e 232]⟩,
 ⟨288,.ite .i,[.e 57,.e 22,.e 233]⟩]
def ZS:List En:=[⟨289,.ite .i,[.e 57,.e 23,.e 234]⟩,
 ⟨290,.ite .i,[.e 57,.e 24,.e 235]⟩,
 ⟨291,.ite .i,[.e 57,.e 25,.e 236]⟩,
 ⟨292,.ite .i,[.e 57,.c (.int 0),.e 237]⟩,
 ⟨293,.ite .i,[.e 57,.e 54,.e 238]⟩,
 ⟨294,.or,[.e 57,.e 239]⟩]
def YW:List En:=cl++(bw++(cV++(cZ++(dp++(dB++(eL++(dq++(dM++(eB++(ZS))))))))))
def kU:List ObE:=[⟨some 93,.t,[.e 55]⟩,
 ⟨some 62,.owes ME,[.e 38,.e 39,.e 40,.e 41,.e 42,.e 43,.e 26,.e 62,.e 63,.e 55,.c (.int 0),.e 0,.e 1,.e 2,.e 3,.e 4,.e 5,.e 6,.e 7,.e 8,.e 9,.e 10,.e 11,.e 12,.e 13,.e 14,.e 15,.e 16,.e 17,.e 18,.e 19,.e 20,.e 21,.e 22,.e 23,.e 24,.e 25]⟩,
 ⟨some 50,.pre "glegal.p0" HE,Gj⟩,
 ⟨some 50,.pre "glegal.p1" DP,Gj⟩,
 ⟨some 47,.pre "gposs.p0" IG,Gj⟩,
 ⟨some 31,.inr,[.e 0,.c (.int 4)]⟩]
def fc:List Rf:=[.e 240,.e 241,.e 242,.e 243,.e 244,.e 245,.e 246,.e 247,.e 248,.e 249,.e 250,.e 251,.e 252,.e 253,.e 254,.e 255,.e 256,.e 257,.e 258,.e 259,.e 260,.e 261,.e 262,.e 263,.e 264,.e 265,.e 292,.e 293]
theorem kQ:LD.sees fc (LD.run Try.prog [(45,II),(46,EX),(35,FR)] RN 3000 20 21)=some ((Mj++((Ek ME [.i,.i,.i,.i,.i,.i,.i,.i,.i,.i,.b,.b,.b,.b,.b,.b,.b,.b,.i,.i,.b,.b,.b,.i,.i,.i,.i] QF)++(Ha++(YW)))).map En.be,kU.map ObE.be,[]):=by kernel_rfl
theorem fF {T:Tab}(hl26:(L T 26).length≤140737488355328)(g:Gm)(hg:g=gT T 0)(g1:Gm)(z1:g1=gT T 0)(A0:AK T Mj):
  (g1=g)∧(g.code=I T 0)∧((B T 47)=true↔(0≤I T 0∧I T 0≤3))∧((B T 47)=true→0≤I T 0∧I T 0≤3∧I T 38=AX (I T 0)∧I T 39=Ac (I T 0)∧I T 40=Ab (I T 0)∧B T 41=Aw (I T 0)∧B T 42=Ao (I T 0)∧B T 43=BI (I T 0))∧((B T 48)=BU g)∧((B T 51)=(DR g&&CI g&&((Ag g&&Ct g)||(!Ag g&&Cm g))))∧((B T 55)=true↔AR g=true)∧((B T 57)=true↔¬AR g=true)∧((B T 55)=true→(0≤I T 5∧I T 5≤13)∧(0≤I T 6∧I T 6≤13)∧(0≤I T 7∧I T 7≤13)∧(0≤I T 8∧I T 8≤13))∧((B T 55)=true→I T 38=AX (I T 0))∧((B T 62)=true→B T 55=true∧B T 47=true∧AR g=true∧¬1000 < ((L T 26)).length)∧((I T 63)=((L T 26)).length):=by
 obtain⟨F0,A0⟩:=A0.cut
 obtain⟨F1,A0⟩:=A0.cut
 have F2:=A0;clear A0
 have hgA:g1=g:=by rw[z1,hg]
 have hcode:g.code=I T 0:=by rw[hg]
 have h47:(B T 47)=true↔(0≤I T 0∧I T 0≤3):=by
  obtain⟨e27,-,e29,e30,-⟩:=F0
  obtain⟨-,e44,-,e46,e47,-⟩:=F1
  simp only[AA,AD,zR,zL] at*
  clear hg
  grind
 have hcd:(B T 47)=true→0≤I T 0∧I T 0≤3∧I T 38=AX (I T 0)∧I T 39=Ac (I T 0)∧I T 40=Ab (I T 0)∧B T 41=Aw (I T 0)∧B T 42=Ao (I T 0)∧B T 43=BI (I T 0):=by
  obtain⟨e27,-,e29,e30,-,e32,e33,e34,e35,e36,e37,e38,e39,e40,e41,e42,-⟩:=F0
  obtain⟨e43,e44,-,e46,e47,-⟩:=F1
  simp only[AA,AD,zC,zR,AN,AM,and_false,or_false,zL] at*
  clear hg
  intro h
  have h0:=h47.1 h
  refine⟨h0.1,h0.2,?_,?_,?_,?_,?_,?_⟩<;>first|(unfold AX;grind)|(unfold Ac;grind)|(unfold Ab;grind)|(refine AU ?_;unfold Aw;simp only[Bool.not_eq_true',decide_eq_false_iff_not];grind)|(refine AU ?_;unfold Ao;simp only[Bool.and_eq_true,Bool.not_eq_true',decide_eq_false_iff_not];grind)|(refine AU ?_;unfold BI;simp only[decide_eq_true_eq];grind)
 have h48:(B T 48)=BU g:=by
  obtain⟨-,-,-,-,-,e48,-⟩:=F1
  replace e48:B T 48=(BU g1):=by rw[←show gAt 0 (Gj.map (Rf.eval T))=g1 from z1.symm];exact e48
  rw[e48,hgA]
 have h51:(B T 51)=(DR g&&CI g&&((Ag g&&Ct g)||(!Ag g&&Cm g))):=by
  obtain⟨-,-,-,-,-,-,-,-,e51,-⟩:=F1
  replace e51:B T 51=(DR g1&&CI g1&&((Ag g1&&Ct g1)||(!Ag g1&&Cm g1))):=by rw[←show gAt 0 (Gj.map (Rf.eval T))=g1 from z1.symm];exact e51
  rw[e51,hgA]
 have hleg:(B T 55)=true↔AR g=true:=by
  obtain⟨-,-,-,e46,e47,-,e49,-,-,e52,-,-,e55,-⟩:=F1
  simp only[AA,AD,zN,zR] at*
  have e:AR g=(BU g&&(DR g&&CI g&&((Ag g&&Ct g)||(!Ag g&&Cm g)))):=by unfold AR;simp only[Bool.and_assoc]
  rw[e,←h48,←h51,Bool.and_eq_true]
  have hn:(B T 48)=true→B T 47=true:=by intro h;rw[h48] at h;have:=DB h;rw[hcode] at this;exact h47.2 ⟨this.1,this.2.1⟩
  clear hcd h47 hg e h48 h51
  grind
 have h57:(B T 57)=true↔¬AR g=true:=by
  obtain⟨-,-,-,-,-,-,-,-,-,e52,-,e54,e55,-,e57,-⟩:=F1
  simp only[AA,AD,zN,zR,zL] at*
  clear hg h47 hcd h48 h51
  grind
 have hpt:(B T 55)=true→(0≤I T 5∧I T 5≤13)∧(0≤I T 6∧I T 6≤13)∧(0≤I T 7∧I T 7≤13)∧(0≤I T 8∧I T 8≤13):=by
  obtain⟨-,-,-,-,-,-,-,-,-,-,-,-,e55,-⟩:=F1
  simp only[AA,AD,zR] at e55
  intro h
  have p:=Jl (hleg.1 h)
  rw[hg] at p;exact p
 have h38:(B T 55)=true→I T 38=AX (I T 0):=by
  obtain⟨-,-,-,e46,e47,-,e49,-,-,e52,-,-,e55,-⟩:=F1
  simp only[AA,AD,zN,zR] at*
  intro h
  exact (hcd (by clear hcd h57 hpt hg h47;grind)).2.2.1
 have h62:(B T 62)=true→B T 55=true∧B T 47=true∧AR g=true∧¬1000 < ((L T 26)).length:=by
  obtain⟨-,-,-,e46,e47,-,e49,e50,-,e52,-,e54,e55,-,e57,e58,-⟩:=F1
  obtain⟨e59,e60,-,e62,-⟩:=F2
  simp only[AA,AD,zN,zR,zL] at*
  intro h
  have h55:(B T 55)=true:=by clear hcd h47 h48 h51 hg hpt h38 hleg h57 hgA;grind
  exact⟨h55,by clear hcd h48 h51 hg hpt h38 hleg h57 hgA;grind,hleg.1 h55,by clear hcd h48 h51 hg hpt h38 hleg h57 hgA;grind⟩
 have h63:(I T 63)=((L T 26)).length:=by
  obtain⟨-,-,-,-,e63,-⟩:=F2
  simp only[AA,zR,zL] at e63
  exact e63
 exact⟨hgA,hcode,h47,hcd,h48,h51,hleg,h57,hpt,h38,h62,h63⟩
theorem iC {T:Tab}(hl26:(L T 26).length≤140737488355328)(g:Gm)(hg:g=gT T 0)(hcd:(B T 47)=true→0≤I T 0∧I T 0≤3∧I T 38=AX (I T 0)∧I T 39=Ac (I T 0)∧I T 40=Ab (I T 0)∧B T 41=Aw (I T 0)∧B T 42=Ao (I T 0)∧B T 43=BI (I T 0))(h62:(B T 62)=true→B T 55=true∧B T 47=true∧AR g=true∧¬1000 < ((L T 26)).length)(h63:(I T 63)=((L T 26)).length)(hS:Ay T (J7 (EE 0 LD.ks) Mj))(hB:CJ T (Ha.map En.be))(hH:CJ T ((Ek ME [.i,.i,.i,.i,.i,.i,.i,.i,.i,.i,.b,.b,.b,.b,.b,.b,.b,.b,.i,.i,.b,.b,.b,.i,.i,.i,.i] QF).map En.be)):
  (ME).owes (QF.map (Rf.eval T))∧Ay T (hds 64 [.i,.i,.i,.i,.i,.i,.i,.i,.i,.i,.b,.b,.b,.b,.b,.b,.b,.b,.i,.i,.b,.b,.b,.i,.i,.i,.i])∧(0≤I T 64∧I T 64≤((L T 26)).length∧I T 65=I T 0∧((B T 62)=true→AR (gT T 65)=true∧CB g 0 (L T 26)=CB (gT T 65) (I T 64) ((L T 26).drop (I T 64).toNat)))∧¬B T 127=true:=by
 refine Gx (nh:=64) (k:=27) (pcn:=127) (top:=129) (bes:=Ha) (bos:=Wc) (nxt:=[.e 128,.e 98,.e 99,.e 100,.e 101,.e 102,.e 103,.e 104,.e 105,.e 106,.e 107,.e 108,.e 109,.e 110,.e 111,.e 112,.e 113,.e 114,.e 115,.e 116,.e 117,.e 118,.e 119,.e 120,.e 121,.e 122,.e 123]) (inits:=[.c (.int 0),.e 0,.e 1,.e 2,.e 3,.e 4,.e 5,.e 6,.e 7,.e 8,.e 9,.e 10,.e 11,.e 12,.e 13,.e 14,.e 15,.e 16,.e 17,.e 18,.e 19,.e 20,.e 21,.e 22,.e 23,.e 24,.e 25]) (fv:=[38,39,40,41,42,43,26,62,63,55]) (tys:=[.i,.i,.i,.i,.i,.i,.i,.i,.i,.i,.b,.b,.b,.b,.b,.b,.b,.b,.i,.i,.b,.b,.b,.i,.i,.i,.i]) (by kernel_rfl) rfl rfl rfl rfl hS (by kernel_rfl) (by kernel_rfl) hB (Ec hH) (fun s=>0≤(aI s 0)∧(aI s 0)≤((L T 26)).length∧(aI s 1)=I T 0∧((B T 62)=true→AR (Gm.mk (aI s 1) (aI s 2) (aI s 3) (aI s 4) (aI s 5) (aI s 6) (aI s 7) (aI s 8) (aI s 9) (aB s 10) (aB s 11) (aB s 12) (aB s 13) (aB s 14) (aB s 15) (aB s 16) (aB s 17) (aI s 18) (aI s 19) (aB s 20) (aB s 21) (aB s 22) (aI s 23) (aI s 24) (aI s 25) (aI s 26))=true∧CB g 0 (L T 26)=CB (Gm.mk (aI s 1) (aI s 2) (aI s 3) (aI s 4) (aI s 5) (aI s 6) (aI s 7) (aI s 8) (aI s 9) (aB s 10) (aB s 11) (aB s 12) (aB s 13) (aB s 14) (aB s 15) (aB s 16) (aB s 17) (aI s 18) (aI s 19) (aB s 20) (aB s 21) (aB s 22) (aI s 23) (aI s 24) (aI s 25) (aI s 26)) (aI s 0) ((L T 26).drop (aI s 0).toNat))) (fun s=>(((L T 26)).length - (aI s 0)).toNat) ?_ ?_
 ·show 0≤(0:Int)∧(0:Int)≤((L T 26)).length∧I T 0=I T 0∧((B T 62)=true→AR (gT T 0)=true∧CB g 0 (L T 26)=CB (gT T 0) (0:Int) ((L T 26).drop (0:Int).toNat))
  clear hS hB hH
  refine⟨by omega,by omega,rfl,fun h=>⟨?_,?_⟩⟩
  ·rw[←hg];exact (h62 h).2.2.1
  ·rw[←hg];rfl
 ·intro T2 hfv hF inv
  replace inv:0≤I T2 64∧I T2 64≤((L T 26)).length∧I T2 65=I T 0∧((B T 62)=true→AR (gT T2 65)=true∧CB g 0 (L T 26)=CB (gT T2 65) (I T2 64) ((L T 26).drop (I T2 64).toNat)):=inv
  clear hS hB hH
  replace hF:AK T2 Ha:=hF
  obtain⟨F0,hF⟩:=hF.cut
  obtain⟨F1,hF⟩:=hF.cut
  have F2:=hF;clear hF
  have fv38:I T2 38=I T 38:=fvI (hfv 38 (by decide))
  have fv39:I T2 39=I T 39:=fvI (hfv 39 (by decide))
  have fv40:I T2 40=I T 40:=fvI (hfv 40 (by decide))
  have fv41:B T2 41=B T 41:=fvB (hfv 41 (by decide))
  have fv42:B T2 42=B T 42:=fvB (hfv 42 (by decide))
  have fv43:B T2 43=B T 43:=fvB (hfv 43 (by decide))
  have fv26:L T2 26=L T 26:=fvL (hfv 26 (by decide))
  have fv62:B T2 62=B T 62:=fvB (hfv 62 (by decide))
  have fv63:I T2 63=I T 63:=fvI (hfv 63 (by decide))
  have fv55:B T2 55=B T 55:=fvB (hfv 55 (by decide))
  clear hfv
  obtain⟨g2,z2⟩:∃g:Gm,g=gT T2 65:=⟨_,rfl⟩
  have cr2_0:gT T2 98=(if B9 g2 (I T2 94) (I T2 95) (B T2 96) (L T2 97)=0 then Bv g2 (I T2 94) (I T2 95) (L T2 97) else g2):=by
   obtain⟨-,-,-,-,-,-,-,e98,e99,e100,e101,e102,e103,e104,e105,e106,-⟩:=F0
   obtain⟨e107,e108,e109,e110,e111,e112,e113,e114,e115,e116,e117,e118,e119,e120,e121,e122,-⟩:=F1
   obtain⟨e123,-⟩:=F2
   rw[←show gAt 4 (BK.map (Rf.eval T2))=g2 from z2.symm]
   exact Bk e98 e99 e100 e101 e102 e103 e104 e105 e106 e107 e108 e109 e110 e111 e112 e113 e114 e115 e116 e117 e118 e119 e120 e121 e122 e123
  suffices hz:(B T2 126=true→B T2 55=true)∧(B T2 92=true→0≤I T2 67∧I T2 67≤1)∧(B T2 92=true→0≤I T2 65∧I T2 65≤3∧I T2 38=AX (I T2 65)∧I T2 39=Ac (I T2 65)∧I T2 40=Ab (I T2 65)∧B T2 41=Aw (I T2 65)∧B T2 42=Ao (I T2 65)∧B T2 43=BI (I T2 65))∧(B T2 92=true→AR g2=true)∧(B T2 92=true→B T2 55=true)∧(B T2 92=true→0≤I T2 64∧I T2 64 < ((L T2 26)).length)∧(B T2 127=true→(0≤I T2 128∧I T2 128≤((L T 26)).length∧I T2 98=I T 0∧((B T 62)=true→AR (gT T2 98)=true∧CB g 0 (L T 26)=CB (gT T2 98) (I T2 128) ((L T 26).drop (I T2 128).toNat))))∧(B T2 127=true→(((L T 26)).length - (I T2 128)).toNat < (((L T 26)).length - (I T2 64)).toNat) from
   let⟨r0,r1,r2,r3,r4,r5,nx,mz⟩:=hz;⟨⟨r0,r1,r2,(fun hp=>by show Da _;unfold Da;rw[show gAt 4 (BK.map (Rf.eval T2))=g2 from z2.symm];exact r3 hp),r4,r5,trivial⟩,fun hp=>⟨nx hp,mz hp⟩⟩
  refine⟨?_,?_,?_,?_,?_,?_,?_,?_⟩
  ·obtain⟨e91,e92,-⟩:=F0
   obtain⟨-,-,-,e126,-⟩:=F2
   simp only[AA,AD,zR] at e91 e92 e126
   intro h
   rw[fv55]
   have h62b:(B T 62)=true:=by rw[←fv62];clear inv hg z2 cr2_0;grind
   exact (h62 h62b).1
  ·obtain⟨-,e92,-⟩:=F0
   simp only[AA,AD,zR] at e92
   intro h
   obtain⟨v1,v2,v3,v4⟩:=inv
   have h62b:(B T 62)=true:=by rw[←fv62];clear v4 hg z2 cr2_0;grind
   have x:=(CS (v4 h62b).1).side
   exact x
  ·obtain⟨-,e92,-⟩:=F0
   simp only[AA,AD,zR] at e92
   intro h
   obtain⟨v1,v2,v3,v4⟩:=inv
   have h62b:(B T 62)=true:=by rw[←fv62];clear v4 hg z2 cr2_0;grind
   have x:=hcd (h62 h62b).2.1
   rw[fv38,fv39,fv40,fv41,fv42,fv43,v3]
   exact x
  ·obtain⟨-,e92,-⟩:=F0
   simp only[AA,AD,zR] at e92
   intro h
   obtain⟨v1,v2,v3,v4⟩:=inv
   have h62b:(B T 62)=true:=by rw[←fv62];clear v4 hg z2 cr2_0;grind
   rw[z2];exact (v4 h62b).1
  ·obtain⟨-,e92,-⟩:=F0
   simp only[AA,AD,zR] at e92
   intro h
   rw[fv55]
   have h62b:(B T 62)=true:=by rw[←fv62];clear inv hg z2 cr2_0;grind
   exact (h62 h62b).1
  ·obtain⟨e91,e92,-⟩:=F0
   simp only[AA,AD,zR] at e91 e92
   obtain⟨v1,v2,v3,v4⟩:=inv
   clear v4 hg z2 cr2_0
   grind
  ·obtain⟨e91,e92,-,e94,e95,e96,e97,-⟩:=F0
   obtain⟨-,e124,e125,-,e127,e128,-⟩:=F2
   replace e124:I T2 124=(B9 g2 (I T2 94) (I T2 95) (B T2 96) (L T2 97)):=by rw[←show gAt 4 (BK.map (Rf.eval T2))=g2 from z2.symm];exact e124
   simp only[AA,AD,zN,zR,w2P,zL] at*
   intro hp
   obtain⟨v1,v2,v3,v4⟩:=inv
   have h92:(B T2 92)=true:=by clear v4 hg z2 cr2_0;grind
   have h62b:(B T 62)=true:=by rw[←fv62];clear v4 hg z2 cr2_0;grind
   obtain⟨v5,v6⟩:=v4 h62b
   have hlt:(I T2 64) < ((L T 26)).length:=by clear v4 hg z2 cr2_0 v5 v6;grind
   have e:(I T2 128)=I T2 64+1:=e128 (by omega) (by omega)
   have he:B9 g2 (I T2 94) (I T2 95) (B T2 96) (L T2 97)=0:=by rw[←e124];clear v4 hg z2 cr2_0 v5 v6;grind
   rw[if_pos he] at cr2_0
   rw[←z2] at v5 v6
   have hc:=(am he cr2_0).code
   have a1:(I T2 94)=At (L T 26) (I T2 64).toNat 0:=by rw[e94,fv26]
   have a2:(I T2 95)=At (L T 26) (I T2 64).toNat 1:=by rw[e95,fv26]
   have a3:(B T2 96)=C8 (L T 26) (I T2 64).toNat 2:=by rw[e96,fv26]
   have a4:(L T2 97)=EF (L T 26) (I T2 64).toNat 3:=by rw[e97,fv26]
   refine⟨by omega,by rw[e];omega,?_,fun _=>⟨?_,?_⟩⟩
   ·have h1:(I T2 98)=(g2).code:=hc
    rw[h1,z2];exact v3
   ·rw[cr2_0];exact gU he
   ·rw[v6,cr2_0,e,show ((I T2 64)+1).toNat=(I T2 64).toNat+1 by omega,a1,a2,a4]
    rw[a1,a2,a3,a4] at he
    exact Ww (by omega) he
  ·obtain⟨e91,e92,-⟩:=F0
   obtain⟨-,-,e125,-,e127,e128,-⟩:=F2
   simp only[AA,AD,zN,zR,w2P] at*
   intro hp
   obtain⟨v1,v2,v3,v4⟩:=inv
   have hlt:(I T2 64) < ((L T 26)).length:=by clear v4 hg z2 cr2_0;grind
   have e:(I T2 128)=I T2 64+1:=e128 (by omega) (by omega)
   omega
theorem lJ {T:Tab}(hl26:(L T 26).length≤140737488355328)(g:Gm)(hg:g=gT T 0)(g1:Gm)(z1:g1=gT T 0)(hgA:g1=g)(hcode:g.code=I T 0)(h47:(B T 47)=true↔(0≤I T 0∧I T 0≤3))(hcd:(B T 47)=true→0≤I T 0∧I T 0≤3∧I T 38=AX (I T 0)∧I T 39=Ac (I T 0)∧I T 40=Ab (I T 0)∧B T 41=Aw (I T 0)∧B T 42=Ao (I T 0)∧B T 43=BI (I T 0))(h48:(B T 48)=BU g)(h51:(B T 51)=(DR g&&CI g&&((Ag g&&Ct g)||(!Ag g&&Cm g))))(hleg:(B T 55)=true↔AR g=true)(h57:(B T 57)=true↔¬AR g=true)(hpt:(B T 55)=true→(0≤I T 5∧I T 5≤13)∧(0≤I T 6∧I T 6≤13)∧(0≤I T 7∧I T 7≤13)∧(0≤I T 8∧I T 8≤13))(h38:(B T 55)=true→I T 38=AX (I T 0))(h62:(B T 62)=true→B T 55=true∧B T 47=true∧AR g=true∧¬1000 < ((L T 26)).length)(h63:(I T 63)=((L T 26)).length)(inv0:0≤I T 64∧I T 64≤((L T 26)).length∧I T 65=I T 0∧((B T 62)=true→AR (gT T 65)=true∧CB g 0 (L T 26)=CB (gT T 65) (I T 64) ((L T 26).drop (I T 64).toNat)))(np0:¬B T 127=true)(g3:Gm)(z3:g3=gT T 65)(A0:AK T Mj)(B0:AK T Ha)(A1:AK T YW):
  (gT T 240=(Cu g (L T 26)).1)∧
  ((I T 292)=((Cu g (L T 26)).2.1))∧
  ((I T 293)=((Cu g (L T 26)).2.2))∧
  (B T 93=true→B T 55=true)∧
  (B T 50=true→0≤I T 0∧I T 0≤3∧I T 38=AX (I T 0)∧I T 39=Ac (I T 0)∧I T 40=Ab (I T 0)∧B T 41=Aw (I T 0)∧B T 42=Ao (I T 0)∧B T 43=BI (I T 0))∧
  (B T 50=true→BU g1=true)∧
  (B T 47=true→0≤I T 0∧I T 0≤3∧I T 38=AX (I T 0)∧I T 39=Ac (I T 0)∧I T 40=Ab (I T 0)∧B T 41=Aw (I T 0)∧B T 42=Ao (I T 0)∧B T 43=BI (I T 0))∧
  (B T 31=true→0≤I T 0∧I T 0 < 4):=by
 have hFa:=A1
 obtain⟨F0,A0⟩:=A0.cut
 obtain⟨F1,A0⟩:=A0.cut
 have F2:=A0;clear A0
 obtain⟨F3,B0⟩:=B0.cut
 obtain⟨F4,B0⟩:=B0.cut
 have F5:=B0;clear B0
 obtain⟨F6,A1⟩:=A1.cut
 obtain⟨F7,A1⟩:=A1.cut
 obtain⟨F8,A1⟩:=A1.cut
 obtain⟨F9,A1⟩:=A1.cut
 obtain⟨F10,A1⟩:=A1.cut
 obtain⟨F11,A1⟩:=A1.cut
 obtain⟨F12,A1⟩:=A1.cut
 obtain⟨F13,A1⟩:=A1.cut
 obtain⟨F14,A1⟩:=A1.cut
 obtain⟨F15,A1⟩:=A1.cut
 have F16:=A1;clear A1
 obtain⟨w1,w2,w3,w4⟩:=inv0
 have hA:(B T 57)=true→Cu g (L T 26)=(Jm,0,2):=by
  intro h
  exact W5 (h57.1 h)
 have hf:(B T 57)=false→AR g=true:=by
  intro h
  refine Classical.byContradiction fun hn=>?_
  rw[h57.2 hn] at h;cases h
 have hB:(B T 57)=false→B T 61=true→Cu g (L T 26)=(Jm,0,6):=by
  obtain⟨e59,e60,e61,-⟩:=F2
  simp only[AA,AD,zR,zL] at e59 e60 e61
  intro h k
  exact TB (hf h) (by clear w4 hcd h47 h48 h51 hg hpt h38 hleg h57 hgA h62 hA hf;grind)
 have h62c:(B T 57)=false→B T 61=false→B T 62=true:=by
  obtain⟨-,-,-,-,-,-,-,-,-,-,-,-,-,-,-,e58,-⟩:=F1
  obtain⟨-,e60,e61,e62,-⟩:=F2
  simp only[AA,AD,zN,zR] at*
  clear w4 hcd h47 h48 h51 hg hpt h38 hleg h57 hgA h62 hA hf hB
  grind
 have hC:(B T 57)=false→B T 61=false→Cu g (L T 26)=CB (gT T 65) (I T 64) ((L T 26).drop (I T 64).toNat):=by
  intro h k
  have h2:=h62c h k
  rw[bB (hf h) (h62 h2).2.2.2]
  exact (w4 h2).2
 have hD:(B T 126)=true→¬I T 124=0∧¬B9 g3 (I T 94) (I T 95) (B T 96) (L T 97)=0∧CB (gT T 65) (I T 64) ((L T 26).drop (I T 64).toNat)=((gT T 65),(I T 64),(I T 124)):=by
  obtain⟨e91,e92,-,e94,e95,e96,e97,-⟩:=F3
  obtain⟨-,e124,e125,e126,-⟩:=F5
  replace e124:I T 124=(B9 g3 (I T 94) (I T 95) (B T 96) (L T 97)):=by rw[←show gAt 4 (BK.map (Rf.eval T))=g3 from z3.symm];exact e124
  simp only[AA,AD,zR,zL] at*
  intro h
  have hlt:(I T 64) < ((L T 26)).length:=by clear w4 hcd h47 h48 h51 hg hpt h38 hleg h57 hgA h62 hA hf hB hC h62c z1 z3;grind
  have hn:¬I T 124=0:=by clear w4 hcd h47 h48 h51 hg hpt h38 hleg h57 hgA h62 hA hf hB hC h62c z1 z3;grind
  refine⟨hn,by rw[←e124];exact hn,?_⟩
  rw[z3,e94,e95,e96,e97] at e124
  rw[e124] at hn⊢
  exact RQ (by omega) hn
 have hE:(B T 57)=false→B T 61=false→B T 126=false→CB (gT T 65) (I T 64) ((L T 26).drop (I T 64).toNat)=((gT T 65),(I T 64),0)∧I T 64=((L T 26)).length:=by
  obtain⟨e91,e92,-⟩:=F3
  obtain⟨-,-,-,e126,e127,-⟩:=F5
  simp only[AA,AD,zN,zR] at*
  intro h k m
  have h2:=h62c h k
  have hle:(((L T 26)).length:Int)≤I T 64:=by rw[←h63];clear w4 hcd h47 h48 h51 hg hpt h38 hleg h57 hgA h62 hA hf hB hC h62c hD z1 z3;grind
  exact⟨TU (by omega),by omega⟩
 clear w4
 have cr3_0:gT T 98=(if B9 g3 (I T 94) (I T 95) (B T 96) (L T 97)=0 then Bv g3 (I T 94) (I T 95) (L T 97) else g3):=by
  obtain⟨-,-,-,-,-,-,-,e98,e99,e100,e101,e102,e103,e104,e105,e106,-⟩:=F3
  obtain⟨e107,e108,e109,e110,e111,e112,e113,e114,e115,e116,e117,e118,e119,e120,e121,e122,-⟩:=F4
  obtain⟨e123,-⟩:=F5
  rw[←show gAt 4 (BK.map (Rf.eval T))=g3 from z3.symm]
  exact Bk e98 e99 e100 e101 e102 e103 e104 e105 e106 e107 e108 e109 e110 e111 e112 e113 e114 e115 e116 e117 e118 e119 e120 e121 e122 e123
 refine⟨?_,?_,?_,?_,?_,?_,?_,?_⟩
 ·rcases Bool.eq_false_or_eq_true (B T 57) with k57|k57
  ·
   refine (BC (Ap (K:=[(57,.b,.c (.bool true))]) (outs:=Qz) (os:=[.c (.int 0),.c (.int 0),.c (.int 0),.c (.int 0),.c (.int 0),.c (.int 0),.c (.int 0),.c (.int 0),.c (.int 0),.c (.bool false),.c (.bool false),.c (.bool false),.c (.bool false),.c (.bool false),.c (.bool false),.c (.bool false),.c (.bool false),.c (.int 0),.c (.int 0),.c (.bool false),.c (.bool false),.c (.bool false),.c (.int 0),.c (.int 0),.c (.int 0),.c (.int 0)]) ⟨k57,trivial⟩ hFa (by kernel_rfl))).trans ?_
   show Gm.mk (0) (0) (0) (0) (0) (0) (0) (0) (0) false false false false false false false false (0) (0) false false false (0) (0) (0) (0)=_
   rw[hA k57]
   rfl
  ·
   rcases Bool.eq_false_or_eq_true (B T 61) with k61|k61
   ·
    refine (BC (Ap (K:=[(57,.b,.c (.bool false)),(61,.b,.c (.bool true))]) (outs:=Qz) (os:=[.c (.int 0),.c (.int 0),.c (.int 0),.c (.int 0),.c (.int 0),.c (.int 0),.c (.int 0),.c (.int 0),.c (.int 0),.c (.bool false),.c (.bool false),.c (.bool false),.c (.bool false),.c (.bool false),.c (.bool false),.c (.bool false),.c (.bool false),.c (.int 0),.c (.int 0),.c (.bool false),.c (.bool false),.c (.bool false),.c (.int 0),.c (.int 0),.c (.int 0),.c (.int 0)]) ⟨k57,k61,trivial⟩ hFa (by kernel_rfl))).trans ?_
    show Gm.mk (0) (0) (0) (0) (0) (0) (0) (0) (0) false false false false false false false false (0) (0) false false false (0) (0) (0) (0)=_
    rw[hB k57 k61]
    rfl
   ·
    rcases Bool.eq_false_or_eq_true (B T 126) with k126|k126
    ·
     refine (BC (Ap (K:=[(57,.b,.c (.bool false)),(61,.b,.c (.bool false)),(126,.b,.c (.bool true))]) (outs:=Qz) (os:=[.e 98,.e 99,.e 100,.e 101,.e 102,.e 103,.e 104,.e 105,.e 106,.e 107,.e 108,.e 109,.e 110,.e 111,.e 112,.e 113,.e 114,.e 115,.e 116,.e 117,.e 118,.e 119,.e 120,.e 121,.e 122,.e 123]) ⟨k57,k61,k126,trivial⟩ hFa (by kernel_rfl))).trans ?_
     show gT T 98=_
     rw[hC k57 k61,(hD k126).2.2,cr3_0,if_neg (hD k126).2.1,z3]
    ·
     refine (BC (Ap (K:=[(57,.b,.c (.bool false)),(61,.b,.c (.bool false)),(126,.b,.c (.bool false))]) (outs:=Qz) (os:=[.e 65,.e 66,.e 67,.e 68,.e 69,.e 70,.e 71,.e 72,.e 73,.e 74,.e 75,.e 76,.e 77,.e 78,.e 79,.e 80,.e 81,.e 82,.e 83,.e 84,.e 85,.e 86,.e 87,.e 88,.e 89,.e 90]) ⟨k57,k61,k126,trivial⟩ hFa (by kernel_rfl))).trans ?_
     show gT T 65=_
     rw[hC k57 k61,(hE k57 k61 k126).1]
 ·obtain⟨e129,-⟩:=F6
  obtain⟨-,-,-,-,-,e182,-⟩:=F9
  obtain⟨-,-,-,-,-,-,-,-,-,-,-,-,e237,-⟩:=F12
  obtain⟨-,-,-,e292,-⟩:=F16
  simp only[AA,AD,zR,zL] at*
  clear hg z1 z3 cr3_0
  cases k57:(B T 57) with
  |true=>rw[hA k57];clear hA hB hC hD hE h62c hf h57 hcd h47 h48 h51 hleg hgA h62;grind
  |false=>
   cases k61:(B T 61) with
   |true=>rw[hB k57 k61];clear hA hB hC hD hE h62c hf h57 hcd h47 h48 h51 hleg hgA h62;grind
   |false=>
    rw[hC k57 k61]
    cases k126:(B T 126) with
    |true=>rw[(hD k126).2.2];clear hA hB hC hD hE h62c hf h57 hcd h47 h48 h51 hleg hgA h62;grind
    |false=>rw[(hE k57 k61 k126).1];have:=(hE k57 k61 k126).2;clear hA hB hC hD hE h62c hf h57 hcd h47 h48 h51 hleg hgA h62;grind
 ·obtain⟨-,-,-,-,-,-,-,-,-,-,-,e54,-,-,e57,-⟩:=F1
  obtain⟨-,-,-,e126,-⟩:=F5
  obtain⟨e129,-⟩:=F6
  obtain⟨-,-,-,-,-,-,e183,-⟩:=F9
  obtain⟨-,-,-,-,-,-,-,-,-,-,-,-,-,e238,-⟩:=F12
  obtain⟨-,-,-,-,e293,-⟩:=F16
  simp only[AA,AD,zR,zL] at*
  have h54:(B T 57)=true→I T 54=2:=by clear hA hB hC hD hE h62c hf hg h57 z1 z3 cr3_0;grind
  clear hg z1 z3 cr3_0
  cases k57:(B T 57) with
  |true=>rw[hA k57];clear hA hB hC hD hE h62c hf h57 hcd h47 h48 h51 hleg hgA h62;grind
  |false=>
   cases k61:(B T 61) with
   |true=>rw[hB k57 k61];clear hA hB hC hD hE h62c hf h57 hcd h47 h48 h51 hleg hgA h62;grind
   |false=>
    rw[hC k57 k61]
    cases k126:(B T 126) with
    |true=>rw[(hD k126).2.2];clear hA hB hC hD hE h62c hf h57 hcd h47 h48 h51 hleg hgA h62;grind
    |false=>rw[(hE k57 k61 k126).1];have:=(hE k57 k61 k126).2;clear hA hB hC hD hE h62c hf h57 hcd h47 h48 h51 hleg hgA h62;grind
 ·obtain⟨e91,e92,e93,-⟩:=F3
  obtain⟨-,-,-,e126,-⟩:=F5
  simp only[AA,AD,zN,zR] at*
  intro h
  have h62b:(B T 62)=true:=by clear hA hB hC hD hE h62c hf hg h57 z1 z3 cr3_0;grind
  exact (h62 h62b).1
 ·obtain⟨-,-,-,e46,e47,-,e49,e50,-⟩:=F1
  simp only[AA,AD,zN,zR] at*
  intro h
  exact hcd (by clear hcd h57 hpt hg hleg;grind)
 ·obtain⟨-,-,-,-,-,-,e49,e50,-⟩:=F1
  simp only[AA,AD,zN,zR] at e49 e50
  intro h
  rw[hgA,←h48]
  clear hcd h51 hg
  grind
 ·obtain⟨-,-,-,-,e47,-⟩:=F1
  simp only[AA,AD,zR] at e47
  exact hcd
 ·obtain⟨e27,-,e29,e30,e31,-⟩:=F0
  simp only[AA,AD,zR] at*
  clear hcd h51 hg h48
  grind
theorem j7:CA Try.prog 21 LD:=by
 refine Bu (l:=[(45,II),(46,EX),(35,FR)]) C6 (by simp only[List.forall_mem_cons];exact⟨Wj,TJ,WU,fun _ h=>absurd h (by simp)⟩) kQ (by kernel_rfl) fun T us hpre hT hul hS hBd hE=>?_
 change us.length=27 at hul
 obtain⟨-,-,-,-,-,-,-,-,-,-,-,-,-,-,-,⟨hl26,he26⟩,-⟩:=hBd
 replace hl26:(L T 26).length≤140737488355328:=hl26
 obtain⟨g,hg⟩:∃g:Gm,g=gT T 0:=⟨_,rfl⟩
 have hgu:gAt 0 us=g:=by rw[hg];exact DV hT hul (by decide)
 have ha26:aL us 26=L T 26:=inL hT hul (by decide)
 clear hpre
 rw[List.map_append,List.map_append,List.map_append] at hE
 have hA:=hE.left
 replace hE:=hE.right
 have hH:=hE.left
 replace hE:=hE.right
 have hB:=hE.left
 replace hE:=hE.right
 obtain⟨A0,hS1⟩:=Cp hS (by kernel_rfl) hA
 obtain⟨g1,z1⟩:∃g:Gm,g=gT T 0:=⟨_,rfl⟩
 obtain⟨hgA,hcode,h47,hcd,h48,h51,hleg,h57,hpt,h38,h62,h63⟩:=fF hl26 g hg g1 z1 A0
 obtain⟨ow0,hS2,inv0,np0⟩:=iC hl26 g hg hcd h62 h63 hS1 hB hH
 have hF2:=(Cp (hS2.append hS1) (l:=Ha) (by kernel_rfl) hB)
 obtain⟨B0,hS⟩:=hF2
 clear hA hB hH hS1 hS2
 obtain⟨g3,z3⟩:∃g:Gm,g=gT T 65:=⟨_,rfl⟩
 obtain⟨A1,hO⟩:=CK (tys:=[.i,.i,.i,.i,.i,.i,.i,.i,.i,.b,.b,.b,.b,.b,.b,.b,.b,.i,.i,.b,.b,.b,.i,.i,.i,.i,.i,.i]) (rs:=fc) hS (by kernel_rfl) hE
 obtain⟨whole,q26,q27,r0,r1,r2,r3,r4⟩:=lJ hl26 g hg g1 z1 hgA hcode h47 hcd h48 h51 hleg h57 hpt h38 h62 h63 inv0 np0 g3 z3 A0 B0 A1
 have hog:B3 us=(Cu g (L T 26)).1:=by unfold B3;rw[hgu,ha26]
 replace whole:=whole.trans hog.symm
 refine⟨⟨r0,(fun _=>ow0),r1,(fun hp=>by show DP _;unfold DP;rw[show gAt 0 (Gj.map (Rf.eval T))=g1 from z1.symm];exact r2 hp),r3,r4,trivial⟩,hO.trans ?_⟩
 exact Ka whole ((lc (by show U.int (I T 292)= .int (KO us);unfold KO;rw[hgu,ha26];exact congrArg U.int q26) (lc (by show U.int (I T 293)= .int (Kg us);unfold Kg;rw[hgu,ha26];exact congrArg U.int q27) rfl)))
end Go.Eng
end
