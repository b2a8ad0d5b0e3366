/-
  A part of the proof: K_gmoved K_gmove.
-/
import Derived.Test.YtcinpabggaepfaaE3
import Derived.Test.YtcinpabggaepfaaE4
import Derived.Test.YtcinpabggaepfaaKgevents
import Derived.Test.YtcinpabggaepfaaKgbegin
import Derived.Test.YtcinpabggaepfaaKgplay
import Derived.Test.YtcinpabggaepfaaKgend
set_option linter.unusedVariables false
set_option linter.unusedSimpArgs false
noncomputable section
open Go Go.Eng Go.Proofs
set_option maxHeartbeats 4000000
set_option maxRecDepth 100000
namespace Go.Eng
def Bh (us:List U):Gm:=if B9 (gAt 4 us) (aI us 0) (aI us 1) (aB us 2) (aL us 3)=0 then Bv (gAt 4 us) (aI us 0) (aI us 1) (aL us 3) else (gAt 4 us)
def N1 (us:List U):Int:=(Bh us).code
def Nw (us:List U):Int:=(Bh us).phase
def NT (us:List U):Int:=(Bh us).side
def OJ (us:List U):Int:=(Bh us).ball
def OC (us:List U):Int:=(Bh us).taken
def Nh (us:List U):Int:=(Bh us).p0
def NQ (us:List U):Int:=(Bh us).p1
def NL (us:List U):Int:=(Bh us).p2
def NC (us:List U):Int:=(Bh us).p3
def ND (us:List U):Bool:=(Bh us).n0
def Ma (us:List U):Bool:=(Bh us).n1
def Lw (us:List U):Bool:=(Bh us).n2
def MH (us:List U):Bool:=(Bh us).n3
def Lz (us:List U):Bool:=(Bh us).d0
def LY (us:List U):Bool:=(Bh us).d1
def Lp (us:List U):Bool:=(Bh us).d2
def Ml (us:List U):Bool:=(Bh us).d3
def Lk (us:List U):Int:=(Bh us).h0
def MP (us:List U):Int:=(Bh us).h1
def Ln (us:List U):Bool:=(Bh us).l0
def Lj (us:List U):Bool:=(Bh us).l1
def L7 (us:List U):Bool:=(Bh us).half
def Lq (us:List U):Int:=(Bh us).turns
def Le (us:List U):Int:=(Bh us).began
def MN (us:List U):Int:=(Bh us).lastb
def Lm (us:List U):Int:=(Bh us).winner
def IQ:List U→Int:=fun us=>(B9 (gAt 4 us) (aI us 0) (aI us 1) (aB us 2) (aL us 3))
def IJ:List U→Prop:=fun us=>0≤(aI us 4)∧(aI us 4)≤3∧(aI us 30)=AX (aI us 4)∧(aI us 31)=Ac (aI us 4)∧(aI us 32)=Ab (aI us 4)∧(aB us 33)=Aw (aI us 4)∧(aB us 34)=Ao (aI us 4)∧(aB us 35)=BI (aI us 4)
def Da:List U→Prop:=fun us=>AR (gAt 4 us)=true
def FR:Bc:={ sh:=[.ptr 0 0,.agg [k64,k64,.bool,.list [k64,k64]]],blks:=[([k64,k64,.int .i64 (0) (1),k64,k64,k64,k64,k64,k64,.bool,.bool,.bool,.bool,.bool,.bool,.bool,.bool,k64,k64,.bool,.bool,.bool,k64,k64,k64,k64,k64,k64,k64,.bool,.bool,.bool],73)],outs:=[(.s "gmove.0",AI N1),(.s "gmove.1",AI Nw),(.s "gmove.2",AI NT),(.s "gmove.3",AI OJ),(.s "gmove.4",AI OC),(.s "gmove.5",AI Nh),(.s "gmove.6",AI NQ),(.s "gmove.7",AI NL),(.s "gmove.8",AI NC),(.s "gmove.9",AQ ND),(.s "gmove.10",AQ Ma),(.s "gmove.11",AQ Lw),(.s "gmove.12",AQ MH),(.s "gmove.13",AQ Lz),(.s "gmove.14",AQ LY),(.s "gmove.15",AQ Lp),(.s "gmove.16",AQ Ml),(.s "gmove.17",AI Lk),(.s "gmove.18",AI MP),(.s "gmove.19",AQ Ln),(.s "gmove.20",AQ Lj),(.s "gmove.21",AQ L7),(.s "gmove.22",AI Lq),(.s "gmove.23",AI Le),(.s "gmove.24",AI MN),(.s "gmove.25",AI Lm),(.s "gmove.26",AI IQ)],c:=(AG 62),m':=[.cells [(AG 36),(AG 37),(AG 38),(AG 39),(AG 40),(AG 41),(AG 42),(AG 43),(AG 44),.b 45,.b 46,.b 47,.b 48,.b 49,.b 50,.b 51,.b 52,(AG 53),(AG 54),.b 55,.b 56,.b 57,(AG 58),(AG 59),(AG 60),(AG 61),(AG 30),(AG 31),(AG 32),.b 33,.b 34,.b 35] 73],pre:=[(.s "gmove.p0",IJ),(.s "gmove.p1",Da)] }
def A2:List Rf:=[.e 3,.e 4,.e 5,.e 6,.e 7,.e 8,.e 9,.e 10,.e 11,.e 12,.e 13,.e 14,.e 15,.e 16,.e 17,.e 18,.e 19,.e 20,.e 21,.e 22,.e 23,.e 24,.e 25,.e 26,.e 27,.e 28,.e 29,.e 30,.e 31,.e 32,.e 33,.e 34,.e 35]
def AL:List Rf:=[.e 1,.e 4,.e 5,.e 6,.e 7,.e 8,.e 9,.e 10,.e 11,.e 12,.e 13,.e 14,.e 15,.e 16,.e 17,.e 18,.e 19,.e 20,.e 21,.e 22,.e 23,.e 24,.e 25,.e 26,.e 27,.e 28,.e 29,.e 30,.e 31,.e 32,.e 33,.e 34,.e 35]
def BQ:List Rf:=[.e 4,.e 5,.e 6,.e 7,.e 8,.e 9,.e 10,.e 11,.e 12,.e 13,.e 14,.e 15,.e 16,.e 17,.e 18,.e 19,.e 20,.e 21,.e 22,.e 23,.e 24,.e 25,.e 299,.e 27,.e 28,.e 29,.e 30,.e 31,.e 32,.e 33,.e 34,.e 35]
def G5:List (Nat × Ty):=[(583,.i),(584,.i),(585,.i),(586,.i),(587,.i),(588,.i),(589,.i),(590,.i),(591,.i),(592,.b),(593,.b),(594,.b),(595,.b),(596,.b),(597,.b),(598,.b),(599,.b),(600,.i),(601,.i),(602,.b),(603,.b),(604,.b),(605,.i),(606,.i),(607,.i),(608,.i)]
def Zh:List En:=[⟨36,.id .i,[.c (.int 0)]⟩,
 ⟨37,.eq,[.e 5,.c (.int 4)]⟩,
 ⟨38,.not,[.e 37]⟩,
 ⟨39,.lt,[.c (.int 0),.e 5]⟩,
 ⟨40,.and,[.e 38,.e 39]⟩,
 ⟨41,.lt,[.e 5,.c (.int 4)]⟩,
 ⟨42,.and,[.e 39,.e 41]⟩,
 ⟨43,.and,[.e 38,.e 42]⟩,
 ⟨44,.row 1 4 [.i,.i,.b,.l],[.c (.int 2),.c (.int 0),.c (.bool false),.c (.list [])]⟩,
 ⟨45,.app,[.c (.list []),.e 44]⟩,
 ⟨46,.row 1 4 [.i,.i,.b,.l],[.c (.int 3),.c (.int 0),.c (.bool false),.c (.list [])]⟩,
 ⟨47,.app,[.e 45,.e 46]⟩,
 ⟨48,.and,[.e 38,.n 42]⟩,
 ⟨49,.ite .l,[.e 37,.c (.list []),.e 47]⟩,
 ⟨50,.ite .l,[.e 37,.c (.list []),.e 44]⟩,
 ⟨51,.ite .l,[.e 37,.c (.list []),.e 47]⟩]
def Z5:List En:=[⟨52,.ite .l,[.e 37,.c (.list []),.e 46]⟩,
 ⟨53,.or,[.e 37,.e 43]⟩,
 ⟨54,.le,[.c (.int 4),.e 26]⟩,
 ⟨55,.pick .b,[.e 6,.e 13,.e 14,.e 15,.e 16]⟩,
 ⟨56,.neb,[.e 54,.e 55]⟩,
 ⟨57,.and,[.e 48,.n 56]⟩,
 ⟨58,.pick .i,[.e 6,.e 9,.e 10,.e 11,.e 12]⟩,
 ⟨59,.eq,[.e 58,.c (.int 13)]⟩,
 ⟨60,.or,[.e 56,.e 59]⟩,
 ⟨61,.and,[.e 48,.e 60]⟩,
 ⟨62,.and,[.e 48,.n 60]⟩,
 ⟨63,.row 1 4 [.i,.i,.b,.l],[.c (.int 1),.e 6,.c (.bool false),.c (.list [])]⟩,
 ⟨64,.app,[.c (.list []),.e 63]⟩,
 ⟨65,.and,[.e 62,.e 54]⟩,
 ⟨66,.and,[.e 62,.e 54]⟩,
 ⟨67,.pick .b,[.e 6,.e 23,.e 24]⟩]
def ZB:List En:=[⟨68,.and,[.e 54,.e 67]⟩,
 ⟨69,.and,[.e 62,.e 68]⟩,
 ⟨70,.and,[.e 62,.e 68]⟩,
 ⟨71,.row 1 4 [.i,.i,.b,.l],[.c (.int 1),.e 6,.c (.bool true),.c (.list [])]⟩,
 ⟨72,.app,[.e 64,.e 71]⟩,
 ⟨73,.ite .l,[.e 70,.e 72,.e 64]⟩,
 ⟨74,.ite .l,[.e 70,.e 72,.e 64]⟩,
 ⟨75,.ite .l,[.e 70,.e 71,.c (.list [])]⟩,
 ⟨76,.and,[.e 68,.c (.bool false)]⟩,
 ⟨77,.and,[.e 62,.e 76]⟩,
 ⟨78,.and,[.e 62,.n 76]⟩,
 ⟨79,.ite .l,[.e 61,.c (.list []),.e 74]⟩,
 ⟨80,.ite .l,[.e 61,.c (.list []),.e 63]⟩,
 ⟨81,.ite .l,[.e 61,.c (.list []),.e 74]⟩,
 ⟨82,.ite .l,[.e 61,.c (.list []),.e 75]⟩,
 ⟨83,.or,[.e 61,.e 78]⟩]
def ZZ:List En:=[⟨84,.o2 .add,[.e 6,.c (.int 2)]⟩,
 ⟨85,.le,[.c (.int 4),.e 26]⟩,
 ⟨86,.pick .b,[.e 84,.e 13,.e 14,.e 15,.e 16]⟩,
 ⟨87,.neb,[.e 85,.e 86]⟩,
 ⟨88,.and,[.e 83,.n 87]⟩,
 ⟨89,.pick .i,[.e 84,.e 9,.e 10,.e 11,.e 12]⟩,
 ⟨90,.eq,[.e 89,.c (.int 13)]⟩,
 ⟨91,.or,[.e 87,.e 90]⟩,
 ⟨92,.and,[.e 83,.e 91]⟩,
 ⟨93,.and,[.e 83,.n 91]⟩,
 ⟨94,.row 1 4 [.i,.i,.b,.l],[.c (.int 1),.e 84,.c (.bool false),.c (.list [])]⟩,
 ⟨95,.app,[.e 81,.e 94]⟩,
 ⟨96,.and,[.e 93,.e 85]⟩,
 ⟨97,.and,[.e 93,.e 85]⟩,
 ⟨98,.pick .b,[.e 6,.e 23,.e 24]⟩,
 ⟨99,.and,[.e 85,.e 98]⟩]
def ac:List En:=[⟨100,.and,[.e 93,.e 99]⟩,
 ⟨101,.and,[.e 93,.e 99]⟩,
 ⟨102,.row 1 4 [.i,.i,.b,.l],[.c (.int 1),.e 84,.c (.bool true),.c (.list [])]⟩,
 ⟨103,.app,[.e 95,.e 102]⟩,
 ⟨104,.ite .l,[.e 101,.e 103,.e 95]⟩,
 ⟨105,.ite .l,[.e 101,.e 103,.e 95]⟩,
 ⟨106,.ite .l,[.e 101,.e 102,.c (.list [])]⟩,
 ⟨107,.and,[.e 99,.c (.bool false)]⟩,
 ⟨108,.and,[.e 93,.e 107]⟩,
 ⟨109,.and,[.e 93,.n 107]⟩,
 ⟨110,.ite .l,[.e 92,.e 81,.e 105]⟩,
 ⟨111,.ite .l,[.e 92,.e 81,.e 105]⟩,
 ⟨112,.ite .l,[.e 92,.c (.list []),.e 94]⟩,
 ⟨113,.ite .l,[.e 92,.c (.list []),.e 106]⟩,
 ⟨114,.or,[.e 92,.e 109]⟩,
 ⟨115,.o2 .add,[.e 84,.c (.int 2)]⟩]
def aX:List En:=[⟨116,.ite .l,[.e 77,.e 74,.e 105]⟩,
 ⟨117,.ite .l,[.e 77,.e 63,.e 80]⟩,
 ⟨118,.ite .l,[.e 77,.e 74,.e 105]⟩,
 ⟨119,.ite .l,[.e 77,.e 75,.e 82]⟩,
 ⟨120,.ite .l,[.e 77,.c (.list []),.e 94]⟩,
 ⟨121,.ite .l,[.e 77,.c (.list []),.e 106]⟩,
 ⟨122,.ite .i,[.e 77,.e 6,.e 84]⟩,
 ⟨123,.ite .b,[.e 77,.e 54,.e 85]⟩,
 ⟨124,.ite .b,[.e 77,.e 76,.e 107]⟩,
 ⟨125,.ite .b,[.e 77,.e 60,.e 91]⟩,
 ⟨126,.or,[.e 77,.e 108]⟩,
 ⟨127,.lt,[.e 26,.c (.int 4)]⟩,
 ⟨128,.and,[.e 114,.n 127]⟩,
 ⟨129,.row 1 4 [.i,.i,.b,.l],[.c (.int 3),.c (.int 0),.c (.bool false),.c (.list [])]⟩,
 ⟨130,.app,[.e 111,.e 129]⟩,
 ⟨131,.ite .l,[.e 128,.e 130,.e 111]⟩]
def ad:List En:=[⟨132,.ite .l,[.e 128,.e 130,.e 111]⟩,
 ⟨133,.ite .l,[.e 128,.e 129,.c (.list [])]⟩,
 ⟨134,.or,[.e 127,.c (.bool false)]⟩,
 ⟨135,.and,[.e 114,.n 134]⟩,
 ⟨136,.eq,[.e 28,.c (.int (-1))]⟩,
 ⟨137,.or,[.e 134,.e 136]⟩,
 ⟨138,.and,[.e 114,.e 137]⟩,
 ⟨139,.and,[.e 114,.n 137]⟩,
 ⟨140,.o2 .tmod,[.e 28,.c (.int 2)]⟩,
 ⟨141,.pick .i,[.e 140,.e 21,.e 22]⟩,
 ⟨142,.le,[.c (.int 2),.e 141]⟩,
 ⟨143,.and,[.e 139,.e 142]⟩,
 ⟨144,.and,[.e 139,.n 142]⟩,
 ⟨145,.eq,[.e 141,.c (.int 1)]⟩,
 ⟨146,.and,[.e 144,.e 145]⟩,
 ⟨147,.and,[.e 144,.n 145]⟩]
def Zo:List En:=[⟨148,.row 1 4 [.i,.i,.b,.l],[.c (.int 4),.e 28,.c (.bool false),.c (.list [])]⟩,
 ⟨149,.app,[.e 132,.e 148]⟩,
 ⟨150,.ite .l,[.e 146,.e 132,.e 149]⟩,
 ⟨151,.ite .l,[.e 146,.e 132,.e 149]⟩,
 ⟨152,.ite .l,[.e 146,.c (.list []),.e 148]⟩,
 ⟨153,.or,[.e 146,.e 143]⟩,
 ⟨154,.row 1 4 [.i,.i,.b,.l],[.c (.int 5),.e 28,.c (.bool false),.c (.list [])]⟩,
 ⟨155,.app,[.e 151,.e 154]⟩,
 ⟨156,.ite .l,[.e 147,.e 132,.e 155]⟩,
 ⟨157,.ite .l,[.e 147,.e 132,.e 155]⟩,
 ⟨158,.ite .l,[.e 147,.c (.list []),.e 152]⟩,
 ⟨159,.ite .l,[.e 147,.c (.list []),.e 154]⟩,
 ⟨160,.or,[.e 147,.e 153]⟩,
 ⟨161,.ite .l,[.e 126,.e 118,.e 132]⟩,
 ⟨162,.ite .l,[.e 126,.e 117,.e 80]⟩,
 ⟨163,.ite .l,[.e 126,.e 118,.e 132]⟩]
def af:List En:=[⟨164,.ite .l,[.e 126,.e 119,.e 82]⟩,
 ⟨165,.ite .l,[.e 126,.e 120,.e 112]⟩,
 ⟨166,.ite .l,[.e 126,.e 121,.e 113]⟩,
 ⟨167,.ite .l,[.e 126,.c (.list []),.e 133]⟩,
 ⟨168,.ite .i,[.e 126,.e 122,.e 115]⟩,
 ⟨169,.ite .b,[.e 126,.e 123,.e 85]⟩,
 ⟨170,.ite .b,[.e 126,.e 125,.e 91]⟩,
 ⟨171,.ite .b,[.e 126,.c (.bool true),.c (.bool false)]⟩,
 ⟨172,.or,[.e 126,.e 138]⟩,
 ⟨173,.ite .l,[.e 53,.e 51,.e 163]⟩,
 ⟨174,.ite .l,[.e 53,.e 50,.e 162]⟩,
 ⟨175,.ite .l,[.e 53,.e 51,.e 163]⟩,
 ⟨176,.ite .l,[.e 53,.e 52,.e 164]⟩,
 ⟨177,.ite .l,[.e 53,.c (.list []),.e 165]⟩,
 ⟨178,.ite .l,[.e 53,.c (.list []),.e 166]⟩,
 ⟨179,.ite .l,[.e 53,.c (.list []),.e 167]⟩]
def Y7:List En:=[⟨180,.or,[.e 53,.e 172]⟩,
 ⟨181,.ite .l,[.e 180,.e 175,.e 157]⟩,
 ⟨182,.ite .l,[.e 180,.e 174,.e 80]⟩,
 ⟨183,.ite .l,[.e 180,.e 175,.e 157]⟩,
 ⟨184,.ite .l,[.e 180,.e 176,.e 82]⟩,
 ⟨185,.ite .l,[.e 180,.e 177,.e 112]⟩,
 ⟨186,.ite .l,[.e 180,.e 178,.e 113]⟩,
 ⟨187,.ite .l,[.e 180,.e 179,.e 133]⟩,
 ⟨188,.ite .l,[.e 180,.c (.list []),.e 158]⟩,
 ⟨189,.ite .l,[.e 180,.c (.list []),.e 159]⟩,
 ⟨190,.len,[.e 183]⟩]
def Z2:List En:=[⟨192,.lt,[.e 191,.e 190]⟩,
 ⟨193,.not,[.e 192]⟩,
 ⟨194,.get .i 0,[.e 183,.e 191]⟩,
 ⟨195,.get .i 1,[.e 183,.e 191]⟩,
 ⟨196,.get .b 2,[.e 183,.e 191]⟩,
 ⟨197,.get .l 3,[.e 183,.e 191]⟩,
 ⟨198,.eq,[.e 194,.e 0]⟩,
 ⟨199,.and,[.e 192,.e 198]⟩,
 ⟨200,.eq,[.e 195,.e 1]⟩,
 ⟨201,.and,[.e 198,.e 200]⟩,
 ⟨202,.and,[.e 192,.e 201]⟩,
 ⟨203,.eqb,[.e 196,.e 2]⟩,
 ⟨204,.and,[.e 201,.e 203]⟩,
 ⟨205,.and,[.e 192,.e 204]⟩,
 ⟨206,.and,[.e 192,.n 204]⟩,
 ⟨207,.w2 .i64 .add,[.e 191,.c (.int 1)]⟩]
def Kh:List En:=Zh++(Z5++(ZB++(ZZ++(ac++(aX++(ad++(Zo++(af++(Y7)))))))))
def GS:List En:=Z2
def Tx:List ObE:=[⟨some 192,.inl,[.e 191,.e 183]⟩]
def KQ:BW:=mkD 191 1 GS 206 [.e 207] Tx [2,1,0,183,190]
def NV:List Rf:=[.e 2,.e 1,.e 0,.e 183,.e 190,.c (.int 0)]
def aU:List En:=[⟨208,.ite .i,[.e 205,.e 191,.c (.int (-1))]⟩,
 ⟨209,.or,[.e 205,.e 193]⟩,
 ⟨210,.le,[.c (.int 0),.e 208]⟩,
 ⟨211,.not,[.e 210]⟩,
 ⟨212,.len,[.e 3]⟩,
 ⟨213,.lt,[.c (.int 24),.e 212]⟩,
 ⟨214,.and,[.e 210,.e 213]⟩,
 ⟨215,.and,[.e 210,.n 213]⟩,
 ⟨216,.ne,[.e 0,.c (.int 2)]⟩,
 ⟨217,.and,[.e 215,.e 216]⟩,
 ⟨218,.len,[.e 3]⟩,
 ⟨219,.lt,[.c (.int 0),.e 218]⟩,
 ⟨220,.and,[.e 216,.e 219]⟩,
 ⟨221,.and,[.e 215,.n 220]⟩,
 ⟨222,.outB "gevents.0" I6,A2⟩,
 ⟨223,.or,[.e 220,.n 222]⟩]
def Z0:List En:=[⟨224,.and,[.e 215,.e 223]⟩,
 ⟨225,.and,[.e 215,.n 223]⟩,
 ⟨226,.eq,[.e 0,.c (.int 1)]⟩,
 ⟨227,.and,[.e 225,.e 226]⟩,
 ⟨228,.outI "gbegin.0" HP,AL⟩,
 ⟨229,.outI "gbegin.1" HF,AL⟩,
 ⟨230,.outI "gbegin.2" HI,AL⟩,
 ⟨231,.outI "gbegin.3" HL,AL⟩,
 ⟨232,.outI "gbegin.4" G7,AL⟩,
 ⟨233,.outI "gbegin.5" Gr,AL⟩,
 ⟨234,.outI "gbegin.6" Gp,AL⟩,
 ⟨235,.outI "gbegin.7" HK,AL⟩,
 ⟨236,.outI "gbegin.8" Gv,AL⟩,
 ⟨237,.outB "gbegin.9" G3,AL⟩,
 ⟨238,.outB "gbegin.10" Ez,AL⟩,
 ⟨239,.outB "gbegin.11" FB,AL⟩]
def ZM:List En:=[⟨240,.outB "gbegin.12" FE,AL⟩,
 ⟨241,.outB "gbegin.13" E4,AL⟩,
 ⟨242,.outB "gbegin.14" FC,AL⟩,
 ⟨243,.outB "gbegin.15" FS,AL⟩,
 ⟨244,.outB "gbegin.16" Et,AL⟩,
 ⟨245,.outI "gbegin.17" FM,AL⟩,
 ⟨246,.outI "gbegin.18" Eu,AL⟩,
 ⟨247,.outB "gbegin.19" FF,AL⟩,
 ⟨248,.outB "gbegin.20" FQ,AL⟩,
 ⟨249,.outB "gbegin.21" FH,AL⟩,
 ⟨250,.outI "gbegin.22" FV,AL⟩,
 ⟨251,.outI "gbegin.23" FL,AL⟩,
 ⟨252,.outI "gbegin.24" FK,AL⟩,
 ⟨253,.outI "gbegin.25" FN,AL⟩,
 ⟨254,.eq,[.e 230,.c (.int 0)]⟩,
 ⟨255,.ite .b,[.e 254,.c (.bool false),.e 247]⟩]
def aY:List En:=[⟨256,.eq,[.e 230,.c (.int 1)]⟩,
 ⟨257,.ite .b,[.e 256,.c (.bool false),.e 248]⟩,
 ⟨258,.and,[.e 225,.n 226]⟩,
 ⟨259,.eq,[.e 0,.c (.int 2)]⟩,
 ⟨260,.and,[.e 258,.e 259]⟩,
 ⟨261,.outI "gplay.0" UZ,A2⟩,
 ⟨262,.outI "gplay.1" UH,A2⟩,
 ⟨263,.outI "gplay.2" T7,A2⟩,
 ⟨264,.outI "gplay.3" UF,A2⟩,
 ⟨265,.outI "gplay.4" UM,A2⟩,
 ⟨266,.outI "gplay.5" UB,A2⟩,
 ⟨267,.outI "gplay.6" TM,A2⟩,
 ⟨268,.outI "gplay.7" TV,A2⟩,
 ⟨269,.outI "gplay.8" S9,A2⟩,
 ⟨270,.outB "gplay.9" TO,A2⟩,
 ⟨271,.outB "gplay.10" Re,A2⟩]
def aH:List En:=[⟨272,.outB "gplay.11" Qx,A2⟩,
 ⟨273,.outB "gplay.12" QO,A2⟩,
 ⟨274,.outB "gplay.13" R1,A2⟩,
 ⟨275,.outB "gplay.14" R5,A2⟩,
 ⟨276,.outB "gplay.15" RK,A2⟩,
 ⟨277,.outB "gplay.16" Qr,A2⟩,
 ⟨278,.outI "gplay.17" Q1,A2⟩,
 ⟨279,.outI "gplay.18" RC,A2⟩,
 ⟨280,.outB "gplay.19" Qu,A2⟩,
 ⟨281,.outB "gplay.20" R3,A2⟩,
 ⟨282,.outB "gplay.21" QU,A2⟩,
 ⟨283,.outI "gplay.22" Rw,A2⟩,
 ⟨284,.outI "gplay.23" RZ,A2⟩,
 ⟨285,.outI "gplay.24" QY,A2⟩,
 ⟨286,.outI "gplay.25" Qv,A2⟩,
 ⟨287,.and,[.e 258,.n 259]⟩]
def ZF:List En:=[⟨288,.eq,[.e 0,.c (.int 3)]⟩,
 ⟨289,.and,[.e 287,.e 288]⟩,
 ⟨290,.eq,[.e 5,.c (.int 0)]⟩,
 ⟨291,.and,[.e 289,.e 290]⟩,
 ⟨292,.w2 .i64 .add,[.e 26,.c (.int 1)]⟩,
 ⟨293,.lt,[.c (.int 1073741824),.e 292]⟩,
 ⟨294,.and,[.e 291,.e 293]⟩,
 ⟨295,.w2 .i64 .sub,[.e 292,.c (.int 2)]⟩,
 ⟨296,.and,[.e 291,.n 293]⟩,
 ⟨297,.ite .i,[.e 293,.e 295,.e 292]⟩,
 ⟨298,.and,[.e 289,.n 290]⟩,
 ⟨299,.ite .i,[.e 290,.e 297,.e 26]⟩,
 ⟨300,.outI "gend.0" Hm,BQ⟩,
 ⟨301,.outI "gend.1" Hy,BQ⟩,
 ⟨302,.outI "gend.2" Hj,BQ⟩,
 ⟨303,.outI "gend.3" Hr,BQ⟩]
def ZE:List En:=[⟨304,.outI "gend.4" Hq,BQ⟩,
 ⟨305,.outI "gend.5" Hx,BQ⟩,
 ⟨306,.outI "gend.6" Hc,BQ⟩,
 ⟨307,.outI "gend.7" H4,BQ⟩,
 ⟨308,.outI "gend.8" Hz,BQ⟩,
 ⟨309,.outB "gend.9" Hn,BQ⟩,
 ⟨310,.outB "gend.10" GV,BQ⟩,
 ⟨311,.outB "gend.11" GF,BQ⟩,
 ⟨312,.outB "gend.12" GD,BQ⟩,
 ⟨313,.outB "gend.13" GI,BQ⟩,
 ⟨314,.outB "gend.14" GR,BQ⟩,
 ⟨315,.outB "gend.15" Fo,BQ⟩,
 ⟨316,.outB "gend.16" GQ,BQ⟩,
 ⟨317,.outI "gend.17" Gb,BQ⟩,
 ⟨318,.outI "gend.18" GP,BQ⟩,
 ⟨319,.outB "gend.19" Fl,BQ⟩]
def Za:List En:=[⟨320,.outB "gend.20" GT,BQ⟩,
 ⟨321,.outB "gend.21" Fe,BQ⟩,
 ⟨322,.outI "gend.22" Fz,BQ⟩,
 ⟨323,.outI "gend.23" GC,BQ⟩,
 ⟨324,.outI "gend.24" Gd,BQ⟩,
 ⟨325,.outI "gend.25" Fy,BQ⟩,
 ⟨326,.and,[.e 287,.n 288]⟩,
 ⟨327,.eq,[.e 0,.c (.int 4)]⟩,
 ⟨328,.and,[.e 326,.e 327]⟩,
 ⟨329,.outI "gbegin.0" HP,AL⟩,
 ⟨330,.outI "gbegin.1" HF,AL⟩,
 ⟨331,.outI "gbegin.2" HI,AL⟩,
 ⟨332,.outI "gbegin.3" HL,AL⟩,
 ⟨333,.outI "gbegin.4" G7,AL⟩,
 ⟨334,.outI "gbegin.5" Gr,AL⟩,
 ⟨335,.outI "gbegin.6" Gp,AL⟩]
def Zt:List En:=[⟨336,.outI "gbegin.7" HK,AL⟩,
 ⟨337,.outI "gbegin.8" Gv,AL⟩,
 ⟨338,.outB "gbegin.9" G3,AL⟩,
 ⟨339,.outB "gbegin.10" Ez,AL⟩,
 ⟨340,.outB "gbegin.11" FB,AL⟩,
 ⟨341,.outB "gbegin.12" FE,AL⟩,
 ⟨342,.outB "gbegin.13" E4,AL⟩,
 ⟨343,.outB "gbegin.14" FC,AL⟩,
 ⟨344,.outB "gbegin.15" FS,AL⟩,
 ⟨345,.outB "gbegin.16" Et,AL⟩,
 ⟨346,.outI "gbegin.17" FM,AL⟩,
 ⟨347,.outI "gbegin.18" Eu,AL⟩,
 ⟨348,.outB "gbegin.19" FF,AL⟩,
 ⟨349,.outB "gbegin.20" FQ,AL⟩,
 ⟨350,.outB "gbegin.21" FH,AL⟩,
 ⟨351,.outI "gbegin.22" FV,AL⟩]
def ah:List En:=[⟨352,.outI "gbegin.23" FL,AL⟩,
 ⟨353,.outI "gbegin.24" FK,AL⟩,
 ⟨354,.outI "gbegin.25" FN,AL⟩,
 ⟨355,.pick .i,[.e 331,.e 346,.e 347]⟩,
 ⟨356,.w2 .i64 .sub,[.e 355,.c (.int 2)]⟩,
 ⟨357,.eq,[.e 331,.c (.int 0)]⟩,
 ⟨358,.ite .i,[.e 357,.e 356,.e 346]⟩,
 ⟨359,.eq,[.e 331,.c (.int 1)]⟩,
 ⟨360,.ite .i,[.e 359,.e 356,.e 347]⟩,
 ⟨361,.and,[.e 326,.n 327]⟩,
 ⟨362,.eq,[.e 0,.c (.int 5)]⟩,
 ⟨363,.and,[.e 361,.e 362]⟩,
 ⟨364,.outI "gbegin.0" HP,AL⟩,
 ⟨365,.outI "gbegin.1" HF,AL⟩,
 ⟨366,.outI "gbegin.2" HI,AL⟩,
 ⟨367,.outI "gbegin.3" HL,AL⟩]
def XI:List En:=[⟨368,.outI "gbegin.4" G7,AL⟩,
 ⟨369,.outI "gbegin.5" Gr,AL⟩,
 ⟨370,.outI "gbegin.6" Gp,AL⟩,
 ⟨371,.outI "gbegin.7" HK,AL⟩,
 ⟨372,.outI "gbegin.8" Gv,AL⟩,
 ⟨373,.outB "gbegin.9" G3,AL⟩,
 ⟨374,.outB "gbegin.10" Ez,AL⟩,
 ⟨375,.outB "gbegin.11" FB,AL⟩,
 ⟨376,.outB "gbegin.12" FE,AL⟩,
 ⟨377,.outB "gbegin.13" E4,AL⟩,
 ⟨378,.outB "gbegin.14" FC,AL⟩,
 ⟨379,.outB "gbegin.15" FS,AL⟩,
 ⟨380,.outB "gbegin.16" Et,AL⟩,
 ⟨381,.outI "gbegin.17" FM,AL⟩,
 ⟨382,.outI "gbegin.18" Eu,AL⟩,
 ⟨383,.outB "gbegin.19" FF,AL⟩]
def Wx:List En:=[⟨384,.outB "gbegin.20" FQ,AL⟩,
 ⟨385,.outB "gbegin.21" FH,AL⟩,
 ⟨386,.outI "gbegin.22" FV,AL⟩,
 ⟨387,.outI "gbegin.23" FL,AL⟩,
 ⟨388,.outI "gbegin.24" FK,AL⟩,
 ⟨389,.outI "gbegin.25" FN,AL⟩,
 ⟨390,.pick .i,[.e 366,.e 381,.e 382]⟩,
 ⟨391,.w2 .i64 .sub,[.e 390,.c (.int 1)]⟩,
 ⟨392,.eq,[.e 366,.c (.int 0)]⟩,
 ⟨393,.ite .i,[.e 392,.e 391,.e 381]⟩,
 ⟨394,.eq,[.e 366,.c (.int 1)]⟩,
 ⟨395,.ite .i,[.e 394,.e 391,.e 382]⟩,
 ⟨396,.and,[.e 361,.n 362]⟩,
 ⟨397,.ite .i,[.e 362,.e 364,.e 4]⟩,
 ⟨398,.ite .i,[.e 362,.e 365,.e 5]⟩,
 ⟨399,.ite .i,[.e 362,.e 366,.e 6]⟩]
def X2:List En:=[⟨400,.ite .i,[.e 362,.e 367,.e 7]⟩,
 ⟨401,.ite .i,[.e 362,.e 368,.e 8]⟩,
 ⟨402,.ite .i,[.e 362,.e 369,.e 9]⟩,
 ⟨403,.ite .i,[.e 362,.e 370,.e 10]⟩,
 ⟨404,.ite .i,[.e 362,.e 371,.e 11]⟩,
 ⟨405,.ite .i,[.e 362,.e 372,.e 12]⟩,
 ⟨406,.ite .b,[.e 362,.e 373,.e 13]⟩,
 ⟨407,.ite .b,[.e 362,.e 374,.e 14]⟩,
 ⟨408,.ite .b,[.e 362,.e 375,.e 15]⟩,
 ⟨409,.ite .b,[.e 362,.e 376,.e 16]⟩,
 ⟨410,.ite .b,[.e 362,.e 377,.e 17]⟩,
 ⟨411,.ite .b,[.e 362,.e 378,.e 18]⟩,
 ⟨412,.ite .b,[.e 362,.e 379,.e 19]⟩,
 ⟨413,.ite .b,[.e 362,.e 380,.e 20]⟩,
 ⟨414,.ite .i,[.e 362,.e 393,.e 21]⟩,
 ⟨415,.ite .i,[.e 362,.e 395,.e 22]⟩]
def XW:List En:=[⟨416,.ite .b,[.e 362,.e 383,.e 23]⟩,
 ⟨417,.ite .b,[.e 362,.e 384,.e 24]⟩,
 ⟨418,.ite .b,[.e 362,.c (.bool true),.e 25]⟩,
 ⟨419,.ite .i,[.e 362,.e 386,.e 26]⟩,
 ⟨420,.ite .i,[.e 362,.e 387,.e 27]⟩,
 ⟨421,.ite .i,[.e 362,.e 388,.e 28]⟩,
 ⟨422,.ite .i,[.e 362,.e 389,.e 29]⟩,
 ⟨423,.ite .i,[.e 327,.e 329,.e 397]⟩,
 ⟨424,.ite .i,[.e 327,.e 330,.e 398]⟩,
 ⟨425,.ite .i,[.e 327,.e 331,.e 399]⟩,
 ⟨426,.ite .i,[.e 327,.e 332,.e 400]⟩,
 ⟨427,.ite .i,[.e 327,.e 333,.e 401]⟩,
 ⟨428,.ite .i,[.e 327,.e 334,.e 402]⟩,
 ⟨429,.ite .i,[.e 327,.e 335,.e 403]⟩,
 ⟨430,.ite .i,[.e 327,.e 336,.e 404]⟩,
 ⟨431,.ite .i,[.e 327,.e 337,.e 405]⟩]
def XC:List En:=[⟨432,.ite .b,[.e 327,.e 338,.e 406]⟩,
 ⟨433,.ite .b,[.e 327,.e 339,.e 407]⟩,
 ⟨434,.ite .b,[.e 327,.e 340,.e 408]⟩,
 ⟨435,.ite .b,[.e 327,.e 341,.e 409]⟩,
 ⟨436,.ite .b,[.e 327,.e 342,.e 410]⟩,
 ⟨437,.ite .b,[.e 327,.e 343,.e 411]⟩,
 ⟨438,.ite .b,[.e 327,.e 344,.e 412]⟩,
 ⟨439,.ite .b,[.e 327,.e 345,.e 413]⟩,
 ⟨440,.ite .i,[.e 327,.e 358,.e 414]⟩,
 ⟨441,.ite .i,[.e 327,.e 360,.e 415]⟩,
 ⟨442,.ite .b,[.e 327,.e 348,.e 416]⟩,
 ⟨443,.ite .b,[.e 327,.e 349,.e 417]⟩,
 ⟨444,.ite .b,[.e 327,.e 350,.e 418]⟩,
 ⟨445,.ite .i,[.e 327,.e 351,.e 419]⟩,
 ⟨446,.ite .i,[.e 327,.e 352,.e 420]⟩,
 ⟨447,.ite .i,[.e 327,.e 353,.e 421]⟩]
def WY:List En:=[⟨448,.ite .i,[.e 327,.e 354,.e 422]⟩,
 ⟨449,.ite .i,[.e 288,.e 300,.e 423]⟩,
 ⟨450,.ite .i,[.e 288,.e 301,.e 424]⟩,
 ⟨451,.ite .i,[.e 288,.e 302,.e 425]⟩,
 ⟨452,.ite .i,[.e 288,.e 303,.e 426]⟩,
 ⟨453,.ite .i,[.e 288,.e 304,.e 427]⟩,
 ⟨454,.ite .i,[.e 288,.e 305,.e 428]⟩,
 ⟨455,.ite .i,[.e 288,.e 306,.e 429]⟩,
 ⟨456,.ite .i,[.e 288,.e 307,.e 430]⟩,
 ⟨457,.ite .i,[.e 288,.e 308,.e 431]⟩,
 ⟨458,.ite .b,[.e 288,.e 309,.e 432]⟩,
 ⟨459,.ite .b,[.e 288,.e 310,.e 433]⟩,
 ⟨460,.ite .b,[.e 288,.e 311,.e 434]⟩,
 ⟨461,.ite .b,[.e 288,.e 312,.e 435]⟩,
 ⟨462,.ite .b,[.e 288,.e 313,.e 436]⟩,
 ⟨463,.ite .b,[.e 288,.e 314,.e 437]⟩]
def Wb:List En:=[⟨464,.ite .b,[.e 288,.e 315,.e 438]⟩,
 ⟨465,.ite .b,[.e 288,.e 316,.e 439]⟩,
 ⟨466,.ite .i,[.e 288,.e 317,.e 440]⟩,
 ⟨467,.ite .i,[.e 288,.e 318,.e 441]⟩,
 ⟨468,.ite .b,[.e 288,.e 319,.e 442]⟩,
 ⟨469,.ite .b,[.e 288,.e 320,.e 443]⟩,
 ⟨470,.ite .b,[.e 288,.e 321,.e 444]⟩,
 ⟨471,.ite .i,[.e 288,.e 322,.e 445]⟩,
 ⟨472,.ite .i,[.e 288,.e 323,.e 446]⟩,
 ⟨473,.ite .i,[.e 288,.e 324,.e 447]⟩,
 ⟨474,.ite .i,[.e 288,.e 325,.e 448]⟩,
 ⟨475,.ite .i,[.e 259,.e 261,.e 449]⟩,
 ⟨476,.ite .i,[.e 259,.e 262,.e 450]⟩,
 ⟨477,.ite .i,[.e 259,.e 263,.e 451]⟩,
 ⟨478,.ite .i,[.e 259,.e 264,.e 452]⟩,
 ⟨479,.ite .i,[.e 259,.e 265,.e 453]⟩]
def XS:List En:=[⟨480,.ite .i,[.e 259,.e 266,.e 454]⟩,
 ⟨481,.ite .i,[.e 259,.e 267,.e 455]⟩,
 ⟨482,.ite .i,[.e 259,.e 268,.e 456]⟩,
 ⟨483,.ite .i,[.e 259,.e 269,.e 457]⟩,
 ⟨484,.ite .b,[.e 259,.e 270,.e 458]⟩,
 ⟨485,.ite .b,[.e 259,.e 271,.e 459]⟩,
 ⟨486,.ite .b,[.e 259,.e 272,.e 460]⟩,
 ⟨487,.ite .b,[.e 259,.e 273,.e 461]⟩,
 ⟨488,.ite .b,[.e 259,.e 274,.e 462]⟩,
 ⟨489,.ite .b,[.e 259,.e 275,.e 463]⟩,
 ⟨490,.ite .b,[.e 259,.e 276,.e 464]⟩,
 ⟨491,.ite .b,[.e 259,.e 277,.e 465]⟩,
 ⟨492,.ite .i,[.e 259,.e 278,.e 466]⟩,
 ⟨493,.ite .i,[.e 259,.e 279,.e 467]⟩,
 ⟨494,.ite .b,[.e 259,.e 280,.e 468]⟩,
 ⟨495,.ite .b,[.e 259,.e 281,.e 469]⟩]
def W9:List En:=[⟨496,.ite .b,[.e 259,.e 282,.e 470]⟩,
 ⟨497,.ite .i,[.e 259,.e 283,.e 471]⟩,
 ⟨498,.ite .i,[.e 259,.e 284,.e 472]⟩,
 ⟨499,.ite .i,[.e 259,.e 285,.e 473]⟩,
 ⟨500,.ite .i,[.e 259,.e 286,.e 474]⟩,
 ⟨501,.ite .i,[.e 226,.e 228,.e 475]⟩,
 ⟨502,.ite .i,[.e 226,.e 229,.e 476]⟩,
 ⟨503,.ite .i,[.e 226,.e 230,.e 477]⟩,
 ⟨504,.ite .i,[.e 226,.e 231,.e 478]⟩,
 ⟨505,.ite .i,[.e 226,.e 232,.e 479]⟩,
 ⟨506,.ite .i,[.e 226,.e 233,.e 480]⟩,
 ⟨507,.ite .i,[.e 226,.e 234,.e 481]⟩,
 ⟨508,.ite .i,[.e 226,.e 235,.e 482]⟩,
 ⟨509,.ite .i,[.e 226,.e 236,.e 483]⟩,
 ⟨510,.ite .b,[.e 226,.e 237,.e 484]⟩,
 ⟨511,.ite .b,[.e 226,.e 238,.e 485]⟩]
def WZ:List En:=[⟨512,.ite .b,[.e 226,.e 239,.e 486]⟩,
 ⟨513,.ite .b,[.e 226,.e 240,.e 487]⟩,
 ⟨514,.ite .b,[.e 226,.e 241,.e 488]⟩,
 ⟨515,.ite .b,[.e 226,.e 242,.e 489]⟩,
 ⟨516,.ite .b,[.e 226,.e 243,.e 490]⟩,
 ⟨517,.ite .b,[.e 226,.e 244,.e 491]⟩,
 ⟨518,.ite .i,[.e 226,.e 245,.e 492]⟩,
 ⟨519,.ite .i,[.e 226,.e 246,.e 493]⟩,
 ⟨520,.ite .b,[.e 226,.e 255,.e 494]⟩,
 ⟨521,.ite .b,[.e 226,.e 257,.e 495]⟩,
 ⟨522,.ite .b,[.e 226,.e 249,.e 496]⟩,
 ⟨523,.ite .i,[.e 226,.e 250,.e 497]⟩,
 ⟨524,.ite .i,[.e 226,.e 251,.e 498]⟩,
 ⟨525,.ite .i,[.e 226,.e 252,.e 499]⟩,
 ⟨526,.ite .i,[.e 226,.e 253,.e 500]⟩,
 ⟨527,.ite .i,[.e 224,.e 4,.e 501]⟩]
def YJ:List En:=[⟨528,.ite .i,[.e 224,.e 5,.e 502]⟩,
 ⟨529,.ite .i,[.e 224,.e 6,.e 503]⟩,
 ⟨530,.ite .i,[.e 224,.e 7,.e 504]⟩,
 ⟨531,.ite .i,[.e 224,.e 8,.e 505]⟩,
 ⟨532,.ite .i,[.e 224,.e 9,.e 506]⟩,
 ⟨533,.ite .i,[.e 224,.e 10,.e 507]⟩,
 ⟨534,.ite .i,[.e 224,.e 11,.e 508]⟩,
 ⟨535,.ite .i,[.e 224,.e 12,.e 509]⟩,
 ⟨536,.ite .b,[.e 224,.e 13,.e 510]⟩,
 ⟨537,.ite .b,[.e 224,.e 14,.e 511]⟩,
 ⟨538,.ite .b,[.e 224,.e 15,.e 512]⟩,
 ⟨539,.ite .b,[.e 224,.e 16,.e 513]⟩,
 ⟨540,.ite .b,[.e 224,.e 17,.e 514]⟩,
 ⟨541,.ite .b,[.e 224,.e 18,.e 515]⟩,
 ⟨542,.ite .b,[.e 224,.e 19,.e 516]⟩,
 ⟨543,.ite .b,[.e 224,.e 20,.e 517]⟩]
def Y6:List En:=[⟨544,.ite .i,[.e 224,.e 21,.e 518]⟩,
 ⟨545,.ite .i,[.e 224,.e 22,.e 519]⟩,
 ⟨546,.ite .b,[.e 224,.e 23,.e 520]⟩,
 ⟨547,.ite .b,[.e 224,.e 24,.e 521]⟩,
 ⟨548,.ite .b,[.e 224,.e 25,.e 522]⟩,
 ⟨549,.ite .i,[.e 224,.e 26,.e 523]⟩,
 ⟨550,.ite .i,[.e 224,.e 27,.e 524]⟩,
 ⟨551,.ite .i,[.e 224,.e 28,.e 525]⟩,
 ⟨552,.ite .i,[.e 224,.e 29,.e 526]⟩,
 ⟨553,.ite .i,[.e 224,.c (.int 21),.c (.int 0)]⟩,
 ⟨554,.or,[.e 224,.e 225]⟩,
 ⟨555,.ite .i,[.e 214,.e 4,.e 527]⟩,
 ⟨556,.ite .i,[.e 214,.e 5,.e 528]⟩,
 ⟨557,.ite .i,[.e 214,.e 6,.e 529]⟩,
 ⟨558,.ite .i,[.e 214,.e 7,.e 530]⟩,
 ⟨559,.ite .i,[.e 214,.e 8,.e 531]⟩]
def Wh:List En:=[⟨560,.ite .i,[.e 214,.e 9,.e 532]⟩,
 ⟨561,.ite .i,[.e 214,.e 10,.e 533]⟩,
 ⟨562,.ite .i,[.e 214,.e 11,.e 534]⟩,
 ⟨563,.ite .i,[.e 214,.e 12,.e 535]⟩,
 ⟨564,.ite .b,[.e 214,.e 13,.e 536]⟩,
 ⟨565,.ite .b,[.e 214,.e 14,.e 537]⟩,
 ⟨566,.ite .b,[.e 214,.e 15,.e 538]⟩,
 ⟨567,.ite .b,[.e 214,.e 16,.e 539]⟩,
 ⟨568,.ite .b,[.e 214,.e 17,.e 540]⟩,
 ⟨569,.ite .b,[.e 214,.e 18,.e 541]⟩,
 ⟨570,.ite .b,[.e 214,.e 19,.e 542]⟩,
 ⟨571,.ite .b,[.e 214,.e 20,.e 543]⟩,
 ⟨572,.ite .i,[.e 214,.e 21,.e 544]⟩,
 ⟨573,.ite .i,[.e 214,.e 22,.e 545]⟩,
 ⟨574,.ite .b,[.e 214,.e 23,.e 546]⟩,
 ⟨575,.ite .b,[.e 214,.e 24,.e 547]⟩]
def XX:List En:=[⟨576,.ite .b,[.e 214,.e 25,.e 548]⟩,
 ⟨577,.ite .i,[.e 214,.e 26,.e 549]⟩,
 ⟨578,.ite .i,[.e 214,.e 27,.e 550]⟩,
 ⟨579,.ite .i,[.e 214,.e 28,.e 551]⟩,
 ⟨580,.ite .i,[.e 214,.e 29,.e 552]⟩,
 ⟨581,.ite .i,[.e 214,.c (.int 6),.e 553]⟩,
 ⟨582,.or,[.e 214,.e 554]⟩,
 ⟨583,.ite .i,[.e 211,.e 4,.e 555]⟩,
 ⟨584,.ite .i,[.e 211,.e 5,.e 556]⟩,
 ⟨585,.ite .i,[.e 211,.e 6,.e 557]⟩,
 ⟨586,.ite .i,[.e 211,.e 7,.e 558]⟩,
 ⟨587,.ite .i,[.e 211,.e 8,.e 559]⟩,
 ⟨588,.ite .i,[.e 211,.e 9,.e 560]⟩,
 ⟨589,.ite .i,[.e 211,.e 10,.e 561]⟩,
 ⟨590,.ite .i,[.e 211,.e 11,.e 562]⟩,
 ⟨591,.ite .i,[.e 211,.e 12,.e 563]⟩]
def Wp:List En:=[⟨592,.ite .b,[.e 211,.e 13,.e 564]⟩,
 ⟨593,.ite .b,[.e 211,.e 14,.e 565]⟩,
 ⟨594,.ite .b,[.e 211,.e 15,.e 566]⟩,
 ⟨595,.ite .b,[.e 211,.e 16,.e 567]⟩,
 ⟨596,.ite .b,[.e 211,.e 17,.e 568]⟩,
 ⟨597,.ite .b,[.e 211,.e 18,.e 569]⟩,
 ⟨598,.ite .b,[.e 211,.e 19,.e 570]⟩,
 ⟨599,.ite .b,[.e 211,.e 20,.e 571]⟩,
 ⟨600,.ite .i,[.e 211,.e 21,.e 572]⟩,
 ⟨601,.ite .i,[.e 211,.e 22,.e 573]⟩,
 ⟨602,.ite .b,[.e 211,.e 23,.e 574]⟩,
 ⟨603,.ite .b,[.e 211,.e 24,.e 575]⟩,
 ⟨604,.ite .b,[.e 211,.e 25,.e 576]⟩,
 ⟨605,.ite .i,[.e 211,.e 26,.e 577]⟩,
 ⟨606,.ite .i,[.e 211,.e 27,.e 578]⟩,
 ⟨607,.ite .i,[.e 211,.e 28,.e 579]⟩]
def Wm:List En:=[⟨608,.ite .i,[.e 211,.e 29,.e 580]⟩,
 ⟨609,.ite .i,[.e 211,.c (.int 10),.e 581]⟩,
 ⟨610,.or,[.e 211,.e 582]⟩]
def UW:List En:=aU++(Z0++(ZM++(aY++(aH++(ZF++(ZE++(Za++(Zt++(ah++(XI++(Wx++(X2++(XW++(XC++(WY++(Wb++(XS++(W9++(WZ++(YJ++(Y6++(Wh++(XX++(Wp++(Wm)))))))))))))))))))))))))
def jr:List ObE:=[⟨some 363,.inr,[.e 366,.c (.int 2)]⟩,
 ⟨some 363,.inr,[.e 366,.c (.int 2)]⟩,
 ⟨some 363,.pre "gbegin.p0" Ep,AL⟩,
 ⟨some 328,.inr,[.e 331,.c (.int 2)]⟩,
 ⟨some 328,.inr,[.e 331,.c (.int 2)]⟩,
 ⟨some 328,.pre "gbegin.p0" Ep,AL⟩,
 ⟨some 289,.pre "gend.p0" Gg,BQ⟩,
 ⟨some 289,.pre "gend.p1" Fh,BQ⟩,
 ⟨some 260,.pre "gplay.p0" JV,A2⟩,
 ⟨some 260,.pre "gplay.p1" GN,A2⟩,
 ⟨some 260,.pre "gplay.p2" GH,A2⟩,
 ⟨some 260,.pre "gplay.p3" Gh,A2⟩,
 ⟨some 227,.inr,[.e 230,.c (.int 2)]⟩,
 ⟨some 227,.pre "gbegin.p0" Ep,AL⟩,
 ⟨none,.owes KQ,[.e 2,.e 1,.e 0,.e 183,.e 190,.c (.int 0)]⟩,
 ⟨some 153,.fits 48,[.e 151,.e 154]⟩,
 ⟨some 143,.fits 48,[.e 132,.e 148]⟩,
 ⟨some 139,.inr,[.e 140,.c (.int 2)]⟩,
 ⟨some 128,.fits 48,[.e 111,.e 129]⟩,
 ⟨some 101,.fits 48,[.e 95,.e 102]⟩,
 ⟨some 93,.fits 48,[.e 81,.e 94]⟩,
 ⟨some 70,.fits 48,[.e 64,.e 71]⟩,
 ⟨some 62,.fits 48,[.c (.list []),.e 63]⟩,
 ⟨some 43,.fits 48,[.e 45,.e 46]⟩,
 ⟨some 43,.fits 48,[.c (.list []),.e 44]⟩]
def av:List Rf:=[.e 583,.e 584,.e 585,.e 586,.e 587,.e 588,.e 589,.e 590,.e 591,.e 592,.e 593,.e 594,.e 595,.e 596,.e 597,.e 598,.e 599,.e 600,.e 601,.e 602,.e 603,.e 604,.e 605,.e 606,.e 607,.e 608,.e 609]
theorem jm:FR.sees av (FR.run Try.prog [(50,ID),(51,Iq),(52,Ev),(54,Ib)] Ba 3000 20 35)=some ((Kh++((Ek KQ [.i] NV)++(GS++(UW)))).map En.be,jr.map ObE.be,[]):=by kernel_rfl
theorem b8 {T:Tab}(hl3:(L T 3).length≤140737488355328)(lo6:0≤I T 6)(hi6:I T 6≤1)(g:Gm)(hg:g=gT T 4)(pre0:0≤I T 4∧I T 4≤3∧I T 30=AX (I T 4)∧I T 31=Ac (I T 4)∧I T 32=Ab (I T 4)∧B T 33=Aw (I T 4)∧B T 34=Ao (I T 4)∧B T 35=BI (I T 4))(pre1:AR g=true)(A0:AK T Kh):
  (((B T 13)=true→¬I T 9=13)∧((B T 14)=true→¬I T 10=13)∧((B T 15)=true→¬I T 11=13)∧((B T 16)=true→¬I T 12=13))∧(0≤I T 6∧I T 6≤1)∧(0≤I T 5∧I T 5≤4)∧((I T 28)= -1∨(0≤I T 28∧I T 28≤3∧4≤I T 26∧I T 5=0))∧(g.side=I T 6∧g.phase=I T 5)∧(Ag g=true↔B T 42=true)∧((B T 48)=true→L T 81=Co g (I T 6))∧((B T 48)=true→B T 83=true)∧((B T 48)=true→L T 111=L T 81++Co g ((I T 6)+2))∧((B T 48)=true→B T 114=true)∧((B T 48)=true→L T 132=L T 111++Ij g)∧((B T 48)=true→B T 137=false→L T 157=L T 132++C1 g++C0 g)∧((B T 137)=true→C1 g=[]∧C0 g=[])∧((B T 126)=false)∧((L T 183)=C2 g)∧(((L T 183)).length≤7)∧((I T 190)=((L T 183)).length):=by
 obtain⟨F0,A0⟩:=A0.cut
 obtain⟨F1,A0⟩:=A0.cut
 obtain⟨F2,A0⟩:=A0.cut
 obtain⟨F3,A0⟩:=A0.cut
 obtain⟨F4,A0⟩:=A0.cut
 obtain⟨F5,A0⟩:=A0.cut
 obtain⟨F6,A0⟩:=A0.cut
 obtain⟨F7,A0⟩:=A0.cut
 obtain⟨F8,A0⟩:=A0.cut
 have F9:=A0;clear A0
 have hin:((B T 13)=true→¬I T 9=13)∧((B T 14)=true→¬I T 10=13)∧((B T 15)=true→¬I T 11=13)∧((B T 16)=true→¬I T 12=13):=by have h:=KP pre1;rw[hg] at h;exact h
 have hsd:0≤I T 6∧I T 6≤1:=by have h:=(CS pre1).side;rw[hg] at h;exact h
 have hph:0≤I T 5∧I T 5≤4:=by have h:=Pa pre1;rw[hg] at h;exact h
 have hlb:(I T 28)= -1∨(0≤I T 28∧I T 28≤3∧4≤I T 26∧I T 5=0):=by have h:=QI pre1;rw[hg] at h;exact h
 have hsg:g.side=I T 6∧g.phase=I T 5:=by rw[hg];exact⟨rfl,rfl⟩
 have hts:Ag g=true↔B T 42=true:=by
  obtain⟨-,-,-,e39,-,e41,e42,-⟩:=F0
  simp only[AA,AD,zR] at e39 e41 e42
  subst hg
  simp only[Ag,Bool.or_eq_true,decide_eq_true_eq]
  clear hin
  grind
 have h81:(B T 48)=true→L T 81=Co g (I T 6):=by
  obtain⟨-,-,e54,e55,e56,-,e58,e59,e60,e61,e62,e63,e64,-,-,e67,-⟩:=F1
  obtain⟨e68,-,e70,e71,e72,-,e74,-,-,-,-,-,-,e81,-⟩:=F2
  simp only[AA,AD,zN,zC,zR,AN,AM,and_false,or_false,zL,uR,Aj,zW] at*
  clear hph hlb hts
  subst hg
  simp only[Co,MK,inS,AJ,AY,AS,Ke,mvU,zB]
  grind (splits:=100)
 have h83:(B T 48)=true→B T 83=true:=by
  obtain⟨-,-,-,-,-,-,-,-,-,e61,e62,-⟩:=F1
  obtain⟨-,-,-,-,-,-,-,-,e76,-,e78,-,-,-,-,e83,-⟩:=F2
  simp only[AA,AD,zN,zC,zR] at*
  clear hph hlb hts hin hsd h81
  grind
 have h111:(B T 48)=true→L T 111=L T 81++Co g ((I T 6)+2):=by
  obtain⟨e84,e85,e86,e87,-,e89,e90,e91,e92,e93,e94,e95,-,-,e98,e99,-⟩:=F3
  obtain⟨-,e101,e102,e103,-,e105,-,-,-,-,-,e111,-⟩:=F4
  simp only[AA,AD,zN,zC,zR,AN,AM,and_false,or_false,Af,zL,uR,Aj,zW] at*
  clear hph hlb hts h81
  intro h48
  have h83:=h83 h48
  subst hg
  simp only[Co,MK,inS,AJ,AY,AS,Ke,mvU,zB]
  grind (splits:=100)
 have h114:(B T 48)=true→B T 114=true:=by
  obtain⟨-,-,-,-,-,-,-,-,e92,e93,-⟩:=F3
  obtain⟨-,-,-,-,-,-,-,e107,-,e109,-,-,-,-,e114,-⟩:=F4
  simp only[AA,AD,zN,zC,zR] at*
  clear hph hlb hts hin hsd h81 h111
  grind
 have h132:(B T 48)=true→L T 132=L T 111++Ij g:=by
  obtain⟨-,-,-,-,-,-,-,-,-,-,-,e127,e128,e129,e130,-⟩:=F5
  obtain⟨e132,-⟩:=F6
  simp only[AA,AD,zN,zC,zR,zL,uR,Aj,zW] at*
  clear hph hlb hts hin hsd h81 h111 h83
  intro h48
  have h114:=h114 h48
  subst hg
  simp only[Ij,mvU,zB]
  grind (splits:=100)
 have h157:(B T 48)=true→B T 137=false→L T 157=L T 132++C1 g++C0 g:=by
  obtain⟨-,-,-,-,e136,e137,-,e139,e140,e141,e142,e143,e144,e145,e146,e147,-⟩:=F6
  obtain⟨e148,e149,-,e151,-,e153,e154,e155,-,e157,-⟩:=F7
  simp only[AA,AD,zN,zC,zR,AN,AM,and_false,or_false,Af,zL,uR,Aj,zW] at*
  clear hph hts hin hsd h81 h111 h83 h132
  intro h48 h137
  have h114:=h114 h48
  subst hg
  simp only[C1,C0,HO,mvU,zB]
  grind (splits:=100)
 have hnb:(B T 137)=true→C1 g=[]∧C0 g=[]:=by
  obtain⟨-,-,-,-,-,-,-,-,-,-,-,e127,-⟩:=F5
  obtain⟨-,-,e134,-,e136,e137,-⟩:=F6
  simp only[AA,AD,zC,zR] at*
  clear hph hts hin hsd h81 h111 h83 h132 h157 h114
  subst hg
  simp only[C1,C0,zB]
  grind (splits:=100)
 have h126:(B T 126)=false:=by
  obtain⟨-,-,-,-,-,-,-,-,e76,e77,-⟩:=F2
  obtain⟨-,-,-,-,-,-,-,e107,e108,-⟩:=F4
  obtain⟨-,-,-,-,-,-,-,-,-,-,e126,-⟩:=F5
  simp only[AA,AD,zC,zR] at*
  clear hph hts hin hsd h81 h111 h83 h132 h157 h114 hnb hlb
  grind
 have hmv:(L T 183)=C2 g:=by
  obtain⟨-,e37,e38,e39,-,e41,e42,e43,e44,e45,e46,e47,e48,-,-,e51,-⟩:=F0
  obtain⟨-,e53,-⟩:=F1
  obtain⟨-,-,-,-,-,-,e138,-⟩:=F6
  obtain⟨-,-,-,-,-,-,-,-,-,-,-,-,-,-,-,e163,-⟩:=F7
  obtain⟨-,-,-,-,-,-,-,-,e172,-,-,e175,-⟩:=F8
  obtain⟨e180,-,-,e183,-⟩:=F9
  simp only[AA,AD,zN,zC,zR,zL,uR,Aj,zW] at*
  clear hin hsd hlb h83 hg pre1
  obtain⟨e1,e2⟩:=hsg
  simp only[C2,e1,e2,mvU]
  grind (splits:=100)
 have hlen:((L T 183)).length≤7:=by rw[hmv];exact Uo g
 have h190:(I T 190)=((L T 183)).length:=by
  obtain⟨-,e37,e38,e39,-,e41,e42,e43,e44,e45,e46,e47,e48,-,-,e51,-⟩:=F0
  obtain⟨-,e53,e54,e55,e56,-,e58,e59,e60,e61,e62,e63,e64,-,-,e67,-⟩:=F1
  obtain⟨e68,-,e70,e71,e72,-,e74,-,e76,e77,e78,-,-,e81,-,e83,-⟩:=F2
  obtain⟨e84,e85,e86,e87,-,e89,e90,e91,e92,e93,e94,e95,-,-,e98,e99,-⟩:=F3
  obtain⟨-,e101,e102,e103,-,e105,-,e107,e108,e109,-,e111,-,-,e114,-⟩:=F4
  obtain⟨-,-,e118,-,-,-,-,-,-,-,e126,e127,e128,e129,e130,-⟩:=F5
  obtain⟨e132,-,e134,-,e136,e137,e138,e139,e140,e141,e142,-,e144,e145,e146,e147,-⟩:=F6
  obtain⟨e148,e149,-,e151,-,-,e154,e155,-,e157,-,-,-,-,-,e163,-⟩:=F7
  obtain⟨-,-,-,-,-,-,-,-,e172,-,-,e175,-⟩:=F8
  obtain⟨e180,-,-,e183,-,-,-,-,-,-,e190,-⟩:=F9
  simp only[AA,AD,zN,zC,zR,AN,AM,and_false,or_false,Af,zL,uR,Aj,zW] at*
  exact e190
 exact⟨hin,hsd,hph,hlb,hsg,hts,h81,h83,h111,h114,h132,h157,hnb,h126,hmv,hlen,h190⟩
theorem eX {T:Tab}(g:Gm)(hg:g=gT T 4)(hlen:((L T 183)).length≤7)(h190:(I T 190)=((L T 183)).length)(hS:Ay T (J7 (EE 0 FR.ks) Kh))(hB:CJ T (GS.map En.be))(hH:CJ T ((Ek KQ [.i] NV).map En.be)):
  (KQ).owes (NV.map (Rf.eval T))∧Ay T (hds 191 [.i])∧(0≤I T 191∧I T 191≤((L T 183)).length∧(∀j:Nat,(j:Int) < I T 191→¬(At (L T 183) j 0=I T 0∧At (L T 183) j 1=I T 1∧C8 (L T 183) j 2=B T 2)))∧¬B T 206=true:=by
 refine Gx (nh:=191) (k:=1) (pcn:=206) (top:=208) (bes:=GS) (bos:=Tx) (nxt:=[.e 207]) (inits:=[.c (.int 0)]) (fv:=[2,1,0,183,190]) (tys:=[.i]) (by kernel_rfl) rfl rfl rfl rfl hS (by kernel_rfl) (by kernel_rfl) hB (Ec hH) (fun s=>0≤(aI s 0)∧(aI s 0)≤((L T 183)).length∧(∀j:Nat,(j:Int) < (aI s 0)→¬(At (L T 183) j 0=I T 0∧At (L T 183) j 1=I T 1∧C8 (L T 183) j 2=B T 2))) (fun s=>(((L T 183)).length - (aI s 0)).toNat) ?_ ?_
 ·show 0≤(0:Int)∧(0:Int)≤((L T 183)).length∧(∀j:Nat,(j:Int) < (0:Int)→¬(At (L T 183) j 0=I T 0∧At (L T 183) j 1=I T 1∧C8 (L T 183) j 2=B T 2))
  clear hS hB hH
  exact⟨by omega,by omega,fun j hj=>absurd hj (by omega)⟩
 ·intro T2 hfv hF inv
  replace inv:0≤I T2 191∧I T2 191≤((L T 183)).length∧(∀j:Nat,(j:Int) < I T2 191→¬(At (L T 183) j 0=I T 0∧At (L T 183) j 1=I T 1∧C8 (L T 183) j 2=B T 2)):=inv
  clear hS hB hH
  replace hF:AK T2 GS:=hF
  have F0:=hF;clear hF
  have fv2:B T2 2=B T 2:=fvB (hfv 2 (by decide))
  have fv1:I T2 1=I T 1:=fvI (hfv 1 (by decide))
  have fv0:I T2 0=I T 0:=fvI (hfv 0 (by decide))
  have fv183:L T2 183=L T 183:=fvL (hfv 183 (by decide))
  have fv190:I T2 190=I T 190:=fvI (hfv 190 (by decide))
  clear hfv
  suffices hz:(B T2 192=true→0≤I T2 191∧I T2 191 < ((L T2 183)).length)∧(B T2 206=true→(0≤I T2 207∧I T2 207≤((L T 183)).length∧(∀j:Nat,(j:Int) < I T2 207→¬(At (L T 183) j 0=I T 0∧At (L T 183) j 1=I T 1∧C8 (L T 183) j 2=B T 2))))∧(B T2 206=true→(((L T 183)).length - (I T2 207)).toNat < (((L T 183)).length - (I T2 191)).toNat) from
   let⟨r0,nx,mz⟩:=hz;⟨⟨r0,trivial⟩,fun hp=>⟨nx hp,mz hp⟩⟩
  refine⟨?_,?_,?_⟩
  ·obtain⟨e192,-⟩:=F0
   simp only[AA,zR] at e192
   grind (splits:=100)
  ·obtain⟨e192,-,e194,e195,e196,-,e198,-,e200,e201,-,e203,e204,-,e206,e207,-⟩:=F0
   simp only[AA,AD,zN,zR,w2P,zL] at*
   intro hp
   obtain⟨v1,v2,v3⟩:=inv
   have hlt:(I T2 191) < ((L T 183)).length:=by rw[←h190];grind
   have e:(I T2 207)=I T2 191+1:=e207 (by omega) (by omega)
   refine⟨by omega,by omega,fun j hj=>?_⟩
   by_cases hj2:(j:Int) < I T2 191
   ·exact v3 j hj2
   ·obtain rfl:j=(I T2 191).toNat:=by omega
    clear v3
    grind
  ·obtain⟨e192,-,-,-,-,-,-,-,-,-,-,-,-,-,e206,e207,-⟩:=F0
   simp only[AA,AD,zN,zR,w2P] at e192 e206 e207
   intro hp
   obtain⟨v1,v2,v3⟩:=inv
   have hlt:(I T2 191) < ((L T 183)).length:=by rw[←h190];grind
   have e:(I T2 207)=I T2 191+1:=e207 (by omega) (by omega)
   omega
theorem jQ {T:Tab}(hl3:(L T 3).length≤140737488355328)(lo6:0≤I T 6)(hi6:I T 6≤1)(g:Gm)(hg:g=gT T 4)(pre0:0≤I T 4∧I T 4≤3∧I T 30=AX (I T 4)∧I T 31=Ac (I T 4)∧I T 32=Ab (I T 4)∧B T 33=Aw (I T 4)∧B T 34=Ao (I T 4)∧B T 35=BI (I T 4))(pre1:AR g=true)(hin:((B T 13)=true→¬I T 9=13)∧((B T 14)=true→¬I T 10=13)∧((B T 15)=true→¬I T 11=13)∧((B T 16)=true→¬I T 12=13))(hsd:0≤I T 6∧I T 6≤1)(hph:0≤I T 5∧I T 5≤4)(hlb:(I T 28)= -1∨(0≤I T 28∧I T 28≤3∧4≤I T 26∧I T 5=0))(hsg:g.side=I T 6∧g.phase=I T 5)(hts:Ag g=true↔B T 42=true)(h81:(B T 48)=true→L T 81=Co g (I T 6))(h83:(B T 48)=true→B T 83=true)(h111:(B T 48)=true→L T 111=L T 81++Co g ((I T 6)+2))(h114:(B T 48)=true→B T 114=true)(h132:(B T 48)=true→L T 132=L T 111++Ij g)(h157:(B T 48)=true→B T 137=false→L T 157=L T 132++C1 g++C0 g)(hnb:(B T 137)=true→C1 g=[]∧C0 g=[])(h126:(B T 126)=false)(hmv:(L T 183)=C2 g)(hlen:((L T 183)).length≤7)(h190:(I T 190)=((L T 183)).length)(inv0:0≤I T 191∧I T 191≤((L T 183)).length∧(∀j:Nat,(j:Int) < I T 191→¬(At (L T 183) j 0=I T 0∧At (L T 183) j 1=I T 1∧C8 (L T 183) j 2=B T 2)))(np0:¬B T 206=true)(g1:Gm)(z1:g1=gT T 4)(g2:Gm)(z2:g2=gT T 4)(g3:Gm)(z3:g3=Gm.mk (I T 4) (I T 5) (I T 6) (I T 7) (I T 8) (I T 9) (I T 10) (I T 11) (I T 12) (B T 13) (B T 14) (B T 15) (B T 16) (B T 17) (B T 18) (B T 19) (B T 20) (I T 21) (I T 22) (B T 23) (B T 24) (B T 25) (I T 299) (I T 27) (I T 28) (I T 29))(A0:AK T Kh)(B0:AK T GS)(A1:AK T UW):
  (gT T 583=if B9 g (I T 0) (I T 1) (B T 2) (L T 3)=0 then Bv g (I T 0) (I T 1) (L T 3) else g)∧
  ((I T 609)=(B9 g (I T 0) (I T 1) (B T 2) (L T 3)))∧
  (B T 363=true→0≤I T 366∧I T 366 < 2)∧
  (B T 363=true→0≤I T 366∧I T 366 < 2)∧
  (B T 363=true→0≤I T 1∧I T 1≤3∧0≤I T 26∧I T 26≤1073741824)∧
  (B T 328=true→0≤I T 331∧I T 331 < 2)∧
  (B T 328=true→0≤I T 331∧I T 331 < 2)∧
  (B T 328=true→0≤I T 1∧I T 1≤3∧0≤I T 26∧I T 26≤1073741824)∧
  (B T 289=true→0≤I T 4∧I T 4≤3∧I T 30=AX (I T 4)∧I T 31=Ac (I T 4)∧I T 32=Ab (I T 4)∧B T 33=Aw (I T 4)∧B T 34=Ao (I T 4)∧B T 35=BI (I T 4))∧
  (B T 289=true→((I T 7)= -1∨(0≤I T 7∧I T 7≤3))∧0≤I T 6∧I T 6≤1∧0≤I T 27)∧
  (B T 260=true→0≤I T 4∧I T 4≤3∧I T 30=AX (I T 4)∧I T 31=Ac (I T 4)∧I T 32=Ab (I T 4)∧B T 33=Aw (I T 4)∧B T 34=Ao (I T 4)∧B T 35=BI (I T 4))∧
  (B T 260=true→AR g1=true)∧
  (B T 260=true→Ag g1=true)∧
  (B T 260=true→BX g1 (L T 3)=true)∧
  (B T 227=true→0≤I T 230∧I T 230 < 2)∧
  (B T 227=true→0≤I T 1∧I T 1≤3∧0≤I T 26∧I T 26≤1073741824)∧
  (B T 153=true→(((L T 151)).length+((L T 154)).length)*48≤140737488355328)∧
  (B T 143=true→(((L T 132)).length+((L T 148)).length)*48≤140737488355328)∧
  (B T 139=true→0≤I T 140∧I T 140 < 2)∧
  (B T 128=true→(((L T 111)).length+((L T 129)).length)*48≤140737488355328)∧
  (B T 101=true→(((L T 95)).length+((L T 102)).length)*48≤140737488355328)∧
  (B T 93=true→(((L T 81)).length+((L T 94)).length)*48≤140737488355328)∧
  (B T 70=true→(((L T 64)).length+((L T 71)).length)*48≤140737488355328)∧
  (B T 62=true→((([]:List (List U))).length+((L T 63)).length)*48≤140737488355328)∧
  (B T 43=true→(((L T 45)).length+((L T 46)).length)*48≤140737488355328)∧
  (B T 43=true→((([]:List (List U))).length+((L T 44)).length)*48≤140737488355328):=by
 have hFa:=A1
 obtain⟨F0,A0⟩:=A0.cut
 obtain⟨F1,A0⟩:=A0.cut
 obtain⟨F2,A0⟩:=A0.cut
 obtain⟨F3,A0⟩:=A0.cut
 obtain⟨F4,A0⟩:=A0.cut
 obtain⟨F5,A0⟩:=A0.cut
 obtain⟨F6,A0⟩:=A0.cut
 obtain⟨F7,A0⟩:=A0.cut
 obtain⟨F8,A0⟩:=A0.cut
 have F9:=A0;clear A0
 have F10:=B0;clear B0
 obtain⟨F11,A1⟩:=A1.cut
 obtain⟨F12,A1⟩:=A1.cut
 obtain⟨F13,A1⟩:=A1.cut
 obtain⟨F14,A1⟩:=A1.cut
 obtain⟨F15,A1⟩:=A1.cut
 obtain⟨F16,A1⟩:=A1.cut
 obtain⟨F17,A1⟩:=A1.cut
 obtain⟨F18,A1⟩:=A1.cut
 obtain⟨F19,A1⟩:=A1.cut
 obtain⟨F20,A1⟩:=A1.cut
 obtain⟨F21,A1⟩:=A1.cut
 obtain⟨F22,A1⟩:=A1.cut
 obtain⟨F23,A1⟩:=A1.cut
 obtain⟨F24,A1⟩:=A1.cut
 obtain⟨F25,A1⟩:=A1.cut
 obtain⟨F26,A1⟩:=A1.cut
 obtain⟨F27,A1⟩:=A1.cut
 obtain⟨F28,A1⟩:=A1.cut
 obtain⟨F29,A1⟩:=A1.cut
 obtain⟨F30,A1⟩:=A1.cut
 obtain⟨F31,A1⟩:=A1.cut
 obtain⟨F32,A1⟩:=A1.cut
 obtain⟨F33,A1⟩:=A1.cut
 obtain⟨F34,A1⟩:=A1.cut
 obtain⟨F35,A1⟩:=A1.cut
 have F36:=A1;clear A1
 have n44:(L T 44).length≤1:=by
  obtain⟨-,-,-,-,-,-,-,-,e44,-⟩:=F0
  simp only[AA,zC,zR,zL,uR,Aj,zW] at e44
  rw[e44];exact Nat.le_refl _
 have n45:(L T 45).length≤1:=by
  obtain⟨-,-,-,-,-,-,-,-,-,e45,-⟩:=F0
  simp only[AA,zR,zL] at e45
  exact Mc e45 (Nat.le_refl 0) n44 (by decide)
 have n46:(L T 46).length≤1:=by
  obtain⟨-,-,-,-,-,-,-,-,-,-,e46,-⟩:=F0
  simp only[AA,zC,zR,zL,uR,Aj,zW] at e46
  rw[e46];exact Nat.le_refl _
 have n63:(L T 63).length≤1:=by
  obtain⟨-,-,-,-,-,-,-,-,-,-,-,e63,-⟩:=F1
  simp only[AA,AD,zC,zR,zL,uR,Aj,zW] at e63
  rw[e63];exact Nat.le_refl _
 have n64:(L T 64).length≤1:=by
  obtain⟨-,-,-,-,-,-,-,-,-,-,-,-,e64,-⟩:=F1
  simp only[AA,zR,zL] at e64
  exact Mc e64 (Nat.le_refl 0) n63 (by decide)
 have n71:(L T 71).length≤1:=by
  obtain⟨-,-,-,e71,-⟩:=F2
  simp only[AA,AD,zC,zR,zL,uR,Aj,zW] at e71
  rw[e71];exact Nat.le_refl _
 have n72:(L T 72).length≤2:=by
  obtain⟨-,-,-,-,e72,-⟩:=F2
  simp only[AA,zR,zL] at e72
  exact Mc e72 n64 n71 (by decide)
 have n74:(L T 74).length≤2:=by
  obtain⟨-,-,-,-,-,-,e74,-⟩:=F2
  simp only[AA,AD,zR,zL] at e74
  exact Of e74 n72 (Nat.le_trans n64 (by decide))
 have n81:(L T 81).length≤2:=by
  obtain⟨-,-,-,-,-,-,-,-,-,-,-,-,-,e81,-⟩:=F2
  simp only[AA,AD,zR,zL] at e81
  exact Of e81 (Nat.zero_le _) n74
 have n94:(L T 94).length≤1:=by
  obtain⟨-,-,-,-,-,-,-,-,-,-,e94,-⟩:=F3
  simp only[AA,AD,zC,zR,zL,uR,Aj,zW] at e94
  rw[e94];exact Nat.le_refl _
 have n95:(L T 95).length≤3:=by
  obtain⟨-,-,-,-,-,-,-,-,-,-,-,e95,-⟩:=F3
  simp only[AA,zR,zL] at e95
  exact Mc e95 n81 n94 (by decide)
 have n102:(L T 102).length≤1:=by
  obtain⟨-,-,e102,-⟩:=F4
  simp only[AA,AD,zC,zR,zL,uR,Aj,zW] at e102
  rw[e102];exact Nat.le_refl _
 have n103:(L T 103).length≤4:=by
  obtain⟨-,-,-,e103,-⟩:=F4
  simp only[AA,zR,zL] at e103
  exact Mc e103 n95 n102 (by decide)
 have n105:(L T 105).length≤4:=by
  obtain⟨-,-,-,-,-,e105,-⟩:=F4
  simp only[AA,AD,zR,zL] at e105
  exact Of e105 n103 (Nat.le_trans n95 (by decide))
 have n111:(L T 111).length≤4:=by
  obtain⟨-,-,-,-,-,-,-,-,-,-,-,e111,-⟩:=F4
  simp only[AA,AD,zR,zL] at e111
  exact Of e111 (Nat.le_trans n81 (by decide)) n105
 have n129:(L T 129).length≤1:=by
  obtain⟨-,-,-,-,-,-,-,-,-,-,-,-,-,e129,-⟩:=F5
  simp only[AA,zC,zR,zL,uR,Aj,zW] at e129
  rw[e129];exact Nat.le_refl _
 have n130:(L T 130).length≤5:=by
  obtain⟨-,-,-,-,-,-,-,-,-,-,-,-,-,-,e130,-⟩:=F5
  simp only[AA,zR,zL] at e130
  exact Mc e130 n111 n129 (by decide)
 have n132:(L T 132).length≤5:=by
  obtain⟨e132,-⟩:=F6
  simp only[AA,AD,zR,zL] at e132
  exact Of e132 n130 (Nat.le_trans n111 (by decide))
 have n148:(L T 148).length≤1:=by
  obtain⟨e148,-⟩:=F7
  simp only[AA,AD,zC,zR,zL,uR,Aj,zW] at e148
  rw[e148];exact Nat.le_refl _
 have n149:(L T 149).length≤6:=by
  obtain⟨-,e149,-⟩:=F7
  simp only[AA,zR,zL] at e149
  exact Mc e149 n132 n148 (by decide)
 have n151:(L T 151).length≤6:=by
  obtain⟨-,-,-,e151,-⟩:=F7
  simp only[AA,AD,zR,zL] at e151
  exact Of e151 (Nat.le_trans n132 (by decide)) n149
 have n154:(L T 154).length≤1:=by
  obtain⟨-,-,-,-,-,-,e154,-⟩:=F7
  simp only[AA,AD,zC,zR,zL,uR,Aj,zW] at e154
  rw[e154];exact Nat.le_refl _
 obtain⟨w1,w2,w3⟩:=inv0
 have hgA:g1=g:=by rw[z1,hg]
 have hgB:g2=g:=by rw[z2,hg]
 have hal:(B T 210)=true↔C3 g (I T 0) (I T 1) (B T 2)=true:=by
  obtain⟨e192,-,e194,e195,e196,-,e198,-,e200,e201,-,e203,e204,e205,e206,-⟩:=F10
  obtain⟨e208,-,e210,-⟩:=F11
  simp only[AA,AD,zN,zR,zL] at*
  rw[UA,←hmv]
  clear hin hsd hph hlb hts h81 h83 h111 h114 h132 h157 hnb h126 hsg pre1
  constructor
  ·intro h
   have h205:(B T 205)=true:=by clear w3;grind
   have hlt:(I T 191) < ((L T 183)).length:=by rw[←h190];clear w3;grind
   refine⟨(I T 191).toNat,by omega,?_,?_,?_⟩<;>(clear w3;grind)
  ·rintro⟨j,hj,h1,h2,h3⟩
   refine Classical.byContradiction fun h=>?_
   have h205:¬B T 205=true:=by intro h5;exact h (by clear w3;grind)
   have h192:¬B T 192=true:=by clear w3;grind
   have hle:(((L T 183)).length:Int)≤I T 191:=by rw[←h190];clear w3;grind
   exact w3 j (by omega) ⟨h1,h2,h3⟩
 clear hin hsd hph hlb hts h81 h83 h111 h114 h132 h157 hnb h126 hmv hlen h190 w1 w2 w3 np0
 have hab:C3 g (I T 0) (I T 1) (B T 2)=true→1≤I T 0∧I T 0≤5∧(¬I T 0=2→¬I T 0=3→0≤I T 1∧I T 1≤3)∧((I T 0)=2→Ag g=true):=fun ha=>L9 pre1 ha
 have hbr:((I T 7)= -1∨(0≤I T 7∧I T 7≤3))∧0≤I T 6∧I T 6≤1∧0≤I T 27:=by have h:=hM pre1;rw[hg] at h;exact h
 have htn:0≤I T 26∧I T 26≤1073741824:=by have h:=(CS pre1).turns;rw[hg] at h;exact h
 have hhv:(0≤I T 21∧I T 21≤40)∧(0≤I T 22∧I T 22≤40):=by have h:=Yo pre1;rw[hg] at h;exact h
 have hlb:(I T 28)= -1∨(0≤I T 28∧I T 28≤3∧4≤I T 26∧I T 5=0):=by have h:=QI pre1;rw[hg] at h;exact h
 have h211:(B T 211)=true↔¬C3 g (I T 0) (I T 1) (B T 2)=true:=by
  obtain⟨-,-,-,e211,-⟩:=F11
  simp only[AA,AD,zR] at e211
  rw[e211,hal]
 have h214:(B T 214)=true↔(C3 g (I T 0) (I T 1) (B T 2)=true∧24 < ((L T 3)).length):=by
  obtain⟨-,-,-,-,e212,e213,e214,-⟩:=F11
  simp only[AA,AD,zR,zL] at e212 e213 e214
  clear hab hbr htn hhv hlb
  grind
 have h222:(B T 222)=true↔BX g (L T 3)=true:=by
  obtain⟨-,-,-,-,-,-,-,-,-,-,-,-,-,-,e222,-⟩:=F11
  replace e222:B T 222=(BX g1 (L T 3)):=by rw[←show gAt 1 (A2.map (Rf.eval T))=g1 from z1.symm];exact e222
  rw[e222,hgA]
 have h224:(B T 224)=true↔(C3 g (I T 0) (I T 1) (B T 2)=true∧¬24 < ((L T 3)).length∧((¬I T 0=2∧0 < ((L T 3)).length)∨¬BX g (L T 3)=true)):=by
  obtain⟨-,-,-,-,e212,e213,-,e215,e216,-,e218,e219,e220,-,-,e223,-⟩:=F11
  obtain⟨e224,-⟩:=F12
  simp only[AA,AD,zN,zR,zL] at*
  clear hab hbr htn hhv hlb
  grind
 have h225:(B T 225)=true→(C3 g (I T 0) (I T 1) (B T 2)=true∧BX g (L T 3)=true):=by
  obtain⟨-,-,-,-,-,-,-,e215,-,-,-,-,-,-,-,e223,-⟩:=F11
  obtain⟨-,e225,-⟩:=F12
  simp only[AA,AD,zN,zR] at e215 e223 e225
  clear hab hbr htn hhv hlb h224 h214 h211
  grind
 have herr:B9 g (I T 0) (I T 1) (B T 2) (L T 3)=I T 609:=by
  obtain⟨-,-,-,-,-,-,-,-,-,e553,-⟩:=F32
  obtain⟨-,-,-,-,-,e581,-⟩:=F34
  obtain⟨-,e609,-⟩:=F36
  simp only[AA,AD,zR,zL] at e553 e581 e609
  clear hab hbr htn hhv hlb hal h222 h225
  unfold B9
  rw[if_neg (by rw[pre1];decide)]
  grind
 have hE:B9 g (I T 0) (I T 1) (B T 2) (L T 3)=0↔((B T 211)=false∧B T 214=false∧B T 224=false):=by
  obtain⟨-,-,-,-,-,-,-,-,-,e553,-⟩:=F32
  obtain⟨-,-,-,-,-,e581,-⟩:=F34
  obtain⟨-,e609,-⟩:=F36
  simp only[AA,AD,zR,zL] at e553 e581 e609
  rw[herr]
  clear hab hbr htn hhv hlb hal h222 h225 herr h224 h214 h211
  grind
 have h226:(B T 226)=true↔I T 0=1:=by
  obtain⟨-,-,e226,-⟩:=F12
  simp only[AA,zR] at e226
  exact e226
 have h259:(B T 259)=true↔I T 0=2:=by
  obtain⟨-,-,-,e259,-⟩:=F14
  simp only[AA,zR] at e259
  exact e259
 have h288:(B T 288)=true↔I T 0=3:=by
  obtain⟨e288,-⟩:=F16
  simp only[AA,zR] at e288
  exact e288
 have h327:(B T 327)=true↔I T 0=4:=by
  obtain⟨-,-,-,-,-,-,-,e327,-⟩:=F18
  simp only[AA,zR] at e327
  exact e327
 have h362:(B T 362)=true↔I T 0=5:=by
  obtain⟨-,-,-,-,-,-,-,-,-,-,e362,-⟩:=F20
  simp only[AA,zR] at e362
  exact e362
 have hh:(I T 346)=I T 21∧I T 347=I T 22∧I T 381=I T 21∧I T 382=I T 22∧I T 331=(I T 1) % 2∧I T 366=(I T 1) % 2∧I T 230=(I T 1) % 2:=by
  obtain⟨-,-,-,-,-,-,e230,-⟩:=F12
  obtain⟨-,-,-,-,-,-,-,-,-,-,-,e331,-⟩:=F18
  obtain⟨-,-,-,-,-,-,-,-,-,-,e346,e347,-⟩:=F19
  obtain⟨-,-,-,-,-,-,-,-,-,-,-,-,-,-,e366,-⟩:=F20
  obtain⟨-,-,-,-,-,-,-,-,-,-,-,-,-,e381,e382,-⟩:=F21
  replace e230:I T 230=((AH g2 (I T 1)).side):=by rw[←show gAt 1 (AL.map (Rf.eval T))=g2 from z2.symm];exact e230
  replace e331:I T 331=((AH g2 (I T 1)).side):=by rw[←show gAt 1 (AL.map (Rf.eval T))=g2 from z2.symm];exact e331
  replace e346:I T 346=((AH g2 (I T 1)).h0):=by rw[←show gAt 1 (AL.map (Rf.eval T))=g2 from z2.symm];exact e346
  replace e347:I T 347=((AH g2 (I T 1)).h1):=by rw[←show gAt 1 (AL.map (Rf.eval T))=g2 from z2.symm];exact e347
  replace e366:I T 366=((AH g2 (I T 1)).side):=by rw[←show gAt 1 (AL.map (Rf.eval T))=g2 from z2.symm];exact e366
  replace e381:I T 381=((AH g2 (I T 1)).h0):=by rw[←show gAt 1 (AL.map (Rf.eval T))=g2 from z2.symm];exact e381
  replace e382:I T 382=((AH g2 (I T 1)).h1):=by rw[←show gAt 1 (AL.map (Rf.eval T))=g2 from z2.symm];exact e382
  rw[hgB] at e346 e347 e381 e382 e331 e366 e230
  rw[e346,e347,e381,e382,e331,e366,e230]
  subst hg;exact⟨rfl,rfl,rfl,rfl,rfl,rfl,rfl⟩
 have h255:(B T 255)=true↔((B T 247)=true∧¬I T 230=0):=by
  obtain⟨-,-,-,-,-,-,-,-,-,-,-,-,-,-,e254,e255,-⟩:=F13
  simp only[AA,AD,zC,zR,zL] at e254 e255
  clear hab hbr htn hhv hlb hal h222 h225 herr h224 h214 h211
  grind
 have h257:(B T 257)=true↔((B T 248)=true∧¬I T 230=1):=by
  obtain⟨e256,e257,-⟩:=F14
  simp only[AA,AD,zC,zR,zL] at e256 e257
  clear hab hbr htn hhv hlb hal h222 h225 herr h224 h214 h211
  grind
 have h299:(I T 299)=if (I T 5)=0 then Ae (I T 26) else (I T 26):=by
  obtain⟨-,-,e290,-,e292,e293,-,e295,-,e297,-,e299,-⟩:=F16
  simp only[AA,AD,zR,w2P,zL] at*
  clear hab hbr hhv hlb hal h222 h225 herr h224 h214 h211 hh hE
  unfold Ae
  grind
 have h358:(I T 358)=if (I T 331)=0 then (I T 346) - 2 else (I T 346):=by
  obtain⟨-,-,-,e355,e356,e357,e358,-⟩:=F20
  simp only[AA,AD,zR,AN,AM,and_false,or_false,w2P,zL] at*
  clear hab hbr hlb hal h222 h225 herr h224 h214 h211 hE
  grind
 have h360:(I T 360)=if (I T 331)=1 then (I T 347) - 2 else (I T 347):=by
  obtain⟨-,-,-,e355,e356,-,-,e359,e360,-⟩:=F20
  simp only[AA,AD,zR,AN,AM,and_false,or_false,w2P,zL] at*
  clear hab hbr hlb hal h222 h225 herr h224 h214 h211 hE h358
  grind
 have h393:(I T 393)=if (I T 366)=0 then (I T 381) - 1 else (I T 381):=by
  obtain⟨-,-,-,-,-,-,e390,e391,e392,e393,-⟩:=F22
  simp only[AA,AD,zR,AN,AM,and_false,or_false,w2P,zL] at*
  clear hab hbr hlb hal h222 h225 herr h224 h214 h211 hE h358 h360
  grind
 have h395:(I T 395)=if (I T 366)=1 then (I T 382) - 1 else (I T 382):=by
  obtain⟨-,-,-,-,-,-,e390,e391,-,-,e394,e395,-⟩:=F22
  simp only[AA,AD,zR,AN,AM,and_false,or_false,w2P,zL] at*
  clear hab hbr hlb hal h222 h225 herr h224 h214 h211 hE h358 h360 h393
  grind
 have cr1_0:gT T 261=Ch g1 (L T 3):=by
  obtain⟨-,-,-,-,-,e261,e262,e263,e264,e265,e266,e267,e268,e269,e270,e271,-⟩:=F14
  obtain⟨e272,e273,e274,e275,e276,e277,e278,e279,e280,e281,e282,e283,e284,e285,e286,-⟩:=F15
  rw[←show gAt 1 (A2.map (Rf.eval T))=g1 from z1.symm]
  exact Bk e261 e262 e263 e264 e265 e266 e267 e268 e269 e270 e271 e272 e273 e274 e275 e276 e277 e278 e279 e280 e281 e282 e283 e284 e285 e286
 have cr2_0:gT T 228=AH g2 (I T 1):=by
  obtain⟨-,-,-,-,e228,e229,e230,e231,e232,e233,e234,e235,e236,e237,e238,e239,-⟩:=F12
  obtain⟨e240,e241,e242,e243,e244,e245,e246,e247,e248,e249,e250,e251,e252,e253,-⟩:=F13
  rw[←show gAt 1 (AL.map (Rf.eval T))=g2 from z2.symm]
  exact Bk e228 e229 e230 e231 e232 e233 e234 e235 e236 e237 e238 e239 e240 e241 e242 e243 e244 e245 e246 e247 e248 e249 e250 e251 e252 e253
 have cr2_1:gT T 329=AH g2 (I T 1):=by
  obtain⟨-,-,-,-,-,-,-,-,-,e329,e330,e331,e332,e333,e334,e335,-⟩:=F18
  obtain⟨e336,e337,e338,e339,e340,e341,e342,e343,e344,e345,e346,e347,e348,e349,e350,e351,-⟩:=F19
  obtain⟨e352,e353,e354,-⟩:=F20
  rw[←show gAt 1 (AL.map (Rf.eval T))=g2 from z2.symm]
  exact Bk e329 e330 e331 e332 e333 e334 e335 e336 e337 e338 e339 e340 e341 e342 e343 e344 e345 e346 e347 e348 e349 e350 e351 e352 e353 e354
 have cr2_2:gT T 364=AH g2 (I T 1):=by
  obtain⟨-,-,-,-,-,-,-,-,-,-,-,-,e364,e365,e366,e367,-⟩:=F20
  obtain⟨e368,e369,e370,e371,e372,e373,e374,e375,e376,e377,e378,e379,e380,e381,e382,e383,-⟩:=F21
  obtain⟨e384,e385,e386,e387,e388,e389,-⟩:=F22
  rw[←show gAt 1 (AL.map (Rf.eval T))=g2 from z2.symm]
  exact Bk e364 e365 e366 e367 e368 e369 e370 e371 e372 e373 e374 e375 e376 e377 e378 e379 e380 e381 e382 e383 e384 e385 e386 e387 e388 e389
 have cr3_0:gT T 300=AW g3:=by
  obtain⟨-,-,-,-,-,-,-,-,-,-,-,-,e300,e301,e302,e303,-⟩:=F16
  obtain⟨e304,e305,e306,e307,e308,e309,e310,e311,e312,e313,e314,e315,e316,e317,e318,e319,-⟩:=F17
  obtain⟨e320,e321,e322,e323,e324,e325,-⟩:=F18
  rw[←show gAt 0 (BQ.map (Rf.eval T))=g3 from z3.symm]
  exact Bk e300 e301 e302 e303 e304 e305 e306 e307 e308 e309 e310 e311 e312 e313 e314 e315 e316 e317 e318 e319 e320 e321 e322 e323 e324 e325
 refine⟨?_,?_,?_,?_,?_,?_,?_,?_,?_,?_,?_,?_,?_,?_,?_,?_,?_,?_,?_,?_,?_,?_,?_,?_,?_,?_⟩
 ·rcases Bool.eq_false_or_eq_true (B T 211) with k211|k211
  ·
   refine (BC (Ap (K:=[(211,.b,.c (.bool true))]) (outs:=G5) (os:=[.e 4,.e 5,.e 6,.e 7,.e 8,.e 9,.e 10,.e 11,.e 12,.e 13,.e 14,.e 15,.e 16,.e 17,.e 18,.e 19,.e 20,.e 21,.e 22,.e 23,.e 24,.e 25,.e 26,.e 27,.e 28,.e 29]) ⟨k211,trivial⟩ hFa (by kernel_rfl))).trans ?_
   show gT T 4=_
   rw[if_neg (fun h=>by rw[(hE.1 h).1] at k211;cases k211),hg]
  ·
   rcases Bool.eq_false_or_eq_true (B T 214) with k214|k214
   ·
    refine (BC (Ap (K:=[(211,.b,.c (.bool false)),(214,.b,.c (.bool true))]) (outs:=G5) (os:=[.e 4,.e 5,.e 6,.e 7,.e 8,.e 9,.e 10,.e 11,.e 12,.e 13,.e 14,.e 15,.e 16,.e 17,.e 18,.e 19,.e 20,.e 21,.e 22,.e 23,.e 24,.e 25,.e 26,.e 27,.e 28,.e 29]) ⟨k211,k214,trivial⟩ hFa (by kernel_rfl))).trans ?_
    show gT T 4=_
    rw[if_neg (fun h=>by rw[(hE.1 h).2.1] at k214;cases k214),hg]
   ·
    rcases Bool.eq_false_or_eq_true (B T 224) with k224|k224
    ·
     refine (BC (Ap (K:=[(211,.b,.c (.bool false)),(214,.b,.c (.bool false)),(224,.b,.c (.bool true))]) (outs:=G5) (os:=[.e 4,.e 5,.e 6,.e 7,.e 8,.e 9,.e 10,.e 11,.e 12,.e 13,.e 14,.e 15,.e 16,.e 17,.e 18,.e 19,.e 20,.e 21,.e 22,.e 23,.e 24,.e 25,.e 26,.e 27,.e 28,.e 29]) ⟨k211,k214,k224,trivial⟩ hFa (by kernel_rfl))).trans ?_
     show gT T 4=_
     rw[if_neg (fun h=>by rw[(hE.1 h).2.2] at k224;cases k224),hg]
    ·
     rcases Bool.eq_false_or_eq_true (B T 226) with k226|k226
     ·
      refine (BC (Ap (K:=[(211,.b,.c (.bool false)),(214,.b,.c (.bool false)),(224,.b,.c (.bool false)),(226,.b,.c (.bool true))]) (outs:=G5) (os:=[.e 228,.e 229,.e 230,.e 231,.e 232,.e 233,.e 234,.e 235,.e 236,.e 237,.e 238,.e 239,.e 240,.e 241,.e 242,.e 243,.e 244,.e 245,.e 246,.e 255,.e 257,.e 249,.e 250,.e 251,.e 252,.e 253]) ⟨k211,k214,k224,k226,trivial⟩ hFa (by kernel_rfl))).trans ?_
      show Gm.mk (I T 228) (I T 229) (I T 230) (I T 231) (I T 232) (I T 233) (I T 234) (I T 235) (I T 236) (B T 237) (B T 238) (B T 239) (B T 240) (B T 241) (B T 242) (B T 243) (B T 244) (I T 245) (I T 246) (B T 255) (B T 257) (B T 249) (I T 250) (I T 251) (I T 252) (I T 253)=_
      rw[if_pos (hE.2 ⟨k211,k214,k224⟩),show Bv g (I T 0) (I T 1) (L T 3)=Iw (AH g (I T 1)) from by unfold Bv;rw[if_pos (h226.1 k226)]]
      rw[hgB] at cr2_0
      rw[←cr2_0]
      simp only[Iw,Gm.mk.injEq,true_and,and_true]
      exact⟨AU (by simp only[Bool.and_eq_true,Bool.not_eq_true',decide_eq_false_iff_not];exact h255),AU (by simp only[Bool.and_eq_true,Bool.not_eq_true',decide_eq_false_iff_not];exact h257)⟩
     ·
      rcases Bool.eq_false_or_eq_true (B T 259) with k259|k259
      ·
       refine (BC (Ap (K:=[(211,.b,.c (.bool false)),(214,.b,.c (.bool false)),(224,.b,.c (.bool false)),(226,.b,.c (.bool false)),(259,.b,.c (.bool true))]) (outs:=G5) (os:=[.e 261,.e 262,.e 263,.e 264,.e 265,.e 266,.e 267,.e 268,.e 269,.e 270,.e 271,.e 272,.e 273,.e 274,.e 275,.e 276,.e 277,.e 278,.e 279,.e 280,.e 281,.e 282,.e 283,.e 284,.e 285,.e 286]) ⟨k211,k214,k224,k226,k259,trivial⟩ hFa (by kernel_rfl))).trans ?_
       show gT T 261=_
       rw[if_pos (hE.2 ⟨k211,k214,k224⟩),show Bv g (I T 0) (I T 1) (L T 3)=Ch g (L T 3) from by unfold Bv;rw[if_neg (fun h=>by rw[h226.2 h] at k226;cases k226),if_pos (h259.1 k259)],cr1_0,hgA]
      ·
       rcases Bool.eq_false_or_eq_true (B T 288) with k288|k288
       ·
        refine (BC (Ap (K:=[(211,.b,.c (.bool false)),(214,.b,.c (.bool false)),(224,.b,.c (.bool false)),(226,.b,.c (.bool false)),(259,.b,.c (.bool false)),(288,.b,.c (.bool true))]) (outs:=G5) (os:=[.e 300,.e 301,.e 302,.e 303,.e 304,.e 305,.e 306,.e 307,.e 308,.e 309,.e 310,.e 311,.e 312,.e 313,.e 314,.e 315,.e 316,.e 317,.e 318,.e 319,.e 320,.e 321,.e 322,.e 323,.e 324,.e 325]) ⟨k211,k214,k224,k226,k259,k288,trivial⟩ hFa (by kernel_rfl))).trans ?_
        show gT T 300=_
        rw[if_pos (hE.2 ⟨k211,k214,k224⟩),show Bv g (I T 0) (I T 1) (L T 3)=AW (G1 g) from by unfold Bv;rw[if_neg (fun h=>by rw[h226.2 h] at k226;cases k226),if_neg (fun h=>by rw[h259.2 h] at k259;cases k259),if_pos (h288.1 k288)],cr3_0]
        congr 1
        rw[z3,hg,h299]
        rfl
       ·
        rcases Bool.eq_false_or_eq_true (B T 327) with k327|k327
        ·
         refine (BC (Ap (K:=[(211,.b,.c (.bool false)),(214,.b,.c (.bool false)),(224,.b,.c (.bool false)),(226,.b,.c (.bool false)),(259,.b,.c (.bool false)),(288,.b,.c (.bool false)),(327,.b,.c (.bool true))]) (outs:=G5) (os:=[.e 329,.e 330,.e 331,.e 332,.e 333,.e 334,.e 335,.e 336,.e 337,.e 338,.e 339,.e 340,.e 341,.e 342,.e 343,.e 344,.e 345,.e 358,.e 360,.e 348,.e 349,.e 350,.e 351,.e 352,.e 353,.e 354]) ⟨k211,k214,k224,k226,k259,k288,k327,trivial⟩ hFa (by kernel_rfl))).trans ?_
         show Gm.mk (I T 329) (I T 330) (I T 331) (I T 332) (I T 333) (I T 334) (I T 335) (I T 336) (I T 337) (B T 338) (B T 339) (B T 340) (B T 341) (B T 342) (B T 343) (B T 344) (B T 345) (I T 358) (I T 360) (B T 348) (B T 349) (B T 350) (I T 351) (I T 352) (I T 353) (I T 354)=_
         rw[if_pos (hE.2 ⟨k211,k214,k224⟩),show Bv g (I T 0) (I T 1) (L T 3)=Gw 2 (AH g (I T 1)) from by unfold Bv;rw[if_neg (fun h=>by rw[h226.2 h] at k226;cases k226),if_neg (fun h=>by rw[h259.2 h] at k259;cases k259),if_neg (fun h=>by rw[h288.2 h] at k288;cases k288),if_pos (h327.1 k327)]]
         rw[hgB] at cr2_1
         rw[←cr2_1]
         simp only[Gw,Gm.mk.injEq,true_and,and_true]
         exact⟨h358,h360⟩
        ·
         rcases Bool.eq_false_or_eq_true (B T 362) with k362|k362
         ·
          refine (BC (Ap (K:=[(211,.b,.c (.bool false)),(214,.b,.c (.bool false)),(224,.b,.c (.bool false)),(226,.b,.c (.bool false)),(259,.b,.c (.bool false)),(288,.b,.c (.bool false)),(327,.b,.c (.bool false)),(362,.b,.c (.bool true))]) (outs:=G5) (os:=[.e 364,.e 365,.e 366,.e 367,.e 368,.e 369,.e 370,.e 371,.e 372,.e 373,.e 374,.e 375,.e 376,.e 377,.e 378,.e 379,.e 380,.e 393,.e 395,.e 383,.e 384,.c (.bool true),.e 386,.e 387,.e 388,.e 389]) ⟨k211,k214,k224,k226,k259,k288,k327,k362,trivial⟩ hFa (by kernel_rfl))).trans ?_
          show Gm.mk (I T 364) (I T 365) (I T 366) (I T 367) (I T 368) (I T 369) (I T 370) (I T 371) (I T 372) (B T 373) (B T 374) (B T 375) (B T 376) (B T 377) (B T 378) (B T 379) (B T 380) (I T 393) (I T 395) (B T 383) (B T 384) true (I T 386) (I T 387) (I T 388) (I T 389)=_
          rw[if_pos (hE.2 ⟨k211,k214,k224⟩),show Bv g (I T 0) (I T 1) (L T 3)={ Gw 1 (AH g (I T 1)) with half:=true } from by unfold Bv;rw[if_neg (fun h=>by rw[h226.2 h] at k226;cases k226),if_neg (fun h=>by rw[h259.2 h] at k259;cases k259),if_neg (fun h=>by rw[h288.2 h] at k288;cases k288),if_neg (fun h=>by rw[h327.2 h] at k327;cases k327)]]
          rw[hgB] at cr2_2
          rw[←cr2_2]
          simp only[Gw,Gm.mk.injEq,true_and,and_true]
          exact⟨h393,h395⟩
         ·
          refine (BC (Ap (K:=[(211,.b,.c (.bool false)),(214,.b,.c (.bool false)),(224,.b,.c (.bool false)),(226,.b,.c (.bool false)),(259,.b,.c (.bool false)),(288,.b,.c (.bool false)),(327,.b,.c (.bool false)),(362,.b,.c (.bool false))]) (outs:=G5) (os:=[.e 4,.e 5,.e 6,.e 7,.e 8,.e 9,.e 10,.e 11,.e 12,.e 13,.e 14,.e 15,.e 16,.e 17,.e 18,.e 19,.e 20,.e 21,.e 22,.e 23,.e 24,.e 25,.e 26,.e 27,.e 28,.e 29]) ⟨k211,k214,k224,k226,k259,k288,k327,k362,trivial⟩ hFa (by kernel_rfl))).trans ?_
          show gT T 4=_
          exfalso
          have ha:C3 g (I T 0) (I T 1) (B T 2)=true:=by cases hx:C3 g (I T 0) (I T 1) (B T 2) with|true=>rfl|false=>rw[h211.2 (by rw[hx];decide)] at k211;cases k211
          have:=hab ha
          have a1:¬I T 0=1:=fun h=>by rw[h226.2 h] at k226;cases k226
          have a2:¬I T 0=2:=fun h=>by rw[h259.2 h] at k259;cases k259
          have a3:¬I T 0=3:=fun h=>by rw[h288.2 h] at k288;cases k288
          have a4:¬I T 0=4:=fun h=>by rw[h327.2 h] at k327;cases k327
          have a5:¬I T 0=5:=fun h=>by rw[h362.2 h] at k362;cases k362
          omega
 ·obtain⟨-,e609,-⟩:=F36
  simp only[AA,AD,zR,zL] at e609
  exact herr.symm
 ·obtain⟨-,-,-,e227,-⟩:=F12
  obtain⟨-,-,e258,-,e260,-⟩:=F14
  obtain⟨-,-,-,-,-,-,-,-,-,-,-,-,-,-,-,e287,-⟩:=F15
  obtain⟨-,e289,-⟩:=F16
  obtain⟨-,-,-,-,-,-,e326,-,e328,-⟩:=F18
  obtain⟨-,-,-,-,-,-,-,-,-,e361,-,e363,-⟩:=F20
  simp only[AA,AD,zN,zR] at*
  clear hbr hlb hal h222 herr h224 h214 h211 hE h358 h360 h393 h395 h299 h255 h257
  intro h
  omega
 ·obtain⟨-,-,-,e227,-⟩:=F12
  obtain⟨-,-,e258,-,e260,-⟩:=F14
  obtain⟨-,-,-,-,-,-,-,-,-,-,-,-,-,-,-,e287,-⟩:=F15
  obtain⟨-,e289,-⟩:=F16
  obtain⟨-,-,-,-,-,-,e326,-,e328,-⟩:=F18
  obtain⟨-,-,-,-,-,-,-,-,-,e361,-,e363,-⟩:=F20
  simp only[AA,AD,zN,zR] at*
  clear hbr hlb hal h222 herr h224 h214 h211 hE h358 h360 h393 h395 h299 h255 h257
  intro h
  omega
 ·obtain⟨-,-,-,e227,-⟩:=F12
  obtain⟨-,-,e258,-,e260,-⟩:=F14
  obtain⟨-,-,-,-,-,-,-,-,-,-,-,-,-,-,-,e287,-⟩:=F15
  obtain⟨-,e289,-⟩:=F16
  obtain⟨-,-,-,-,-,-,e326,-,e328,-⟩:=F18
  obtain⟨-,-,-,-,-,-,-,-,-,e361,-,e363,-⟩:=F20
  simp only[AA,AD,zN,zR] at*
  clear hbr hlb hal h222 herr h224 h214 h211 hE h358 h360 h393 h395 h299 h255 h257
  intro h
  have ha:=h225 (by grind)
  have hx:=hab ha.1
  clear hab h225
  have hk:¬I T 0=2∧¬I T 0=3:=by grind
  omega
 ·obtain⟨-,-,-,e227,-⟩:=F12
  obtain⟨-,-,e258,-,e260,-⟩:=F14
  obtain⟨-,-,-,-,-,-,-,-,-,-,-,-,-,-,-,e287,-⟩:=F15
  obtain⟨-,e289,-⟩:=F16
  obtain⟨-,-,-,-,-,-,e326,-,e328,-⟩:=F18
  obtain⟨-,-,-,-,-,-,-,-,-,e361,-,e363,-⟩:=F20
  simp only[AA,AD,zN,zR] at*
  clear hbr hlb hal h222 herr h224 h214 h211 hE h358 h360 h393 h395 h299 h255 h257
  intro h
  omega
 ·obtain⟨-,-,-,e227,-⟩:=F12
  obtain⟨-,-,e258,-,e260,-⟩:=F14
  obtain⟨-,-,-,-,-,-,-,-,-,-,-,-,-,-,-,e287,-⟩:=F15
  obtain⟨-,e289,-⟩:=F16
  obtain⟨-,-,-,-,-,-,e326,-,e328,-⟩:=F18
  obtain⟨-,-,-,-,-,-,-,-,-,e361,-,e363,-⟩:=F20
  simp only[AA,AD,zN,zR] at*
  clear hbr hlb hal h222 herr h224 h214 h211 hE h358 h360 h393 h395 h299 h255 h257
  intro h
  omega
 ·obtain⟨-,-,-,e227,-⟩:=F12
  obtain⟨-,-,e258,-,e260,-⟩:=F14
  obtain⟨-,-,-,-,-,-,-,-,-,-,-,-,-,-,-,e287,-⟩:=F15
  obtain⟨-,e289,-⟩:=F16
  obtain⟨-,-,-,-,-,-,e326,-,e328,-⟩:=F18
  obtain⟨-,-,-,-,-,-,-,-,-,e361,-,e363,-⟩:=F20
  simp only[AA,AD,zN,zR] at*
  clear hbr hlb hal h222 herr h224 h214 h211 hE h358 h360 h393 h395 h299 h255 h257
  intro h
  have ha:=h225 (by grind)
  have hx:=hab ha.1
  clear hab h225
  have hk:¬I T 0=2∧¬I T 0=3:=by grind
  omega
 ·obtain⟨-,e609,-⟩:=F36
  simp only[AA,AD,zR,zL] at e609
  intro _
  exact pre0
 ·obtain⟨-,e609,-⟩:=F36
  simp only[AA,AD,zR,zL] at e609
  intro _
  exact hbr
 ·obtain⟨-,e609,-⟩:=F36
  simp only[AA,AD,zR,zL] at e609
  intro _
  exact pre0
 ·obtain⟨-,e609,-⟩:=F36
  simp only[AA,AD,zR,zL] at e609
  intro _
  rw[hgA];exact pre1
 ·obtain⟨-,-,-,e227,-⟩:=F12
  obtain⟨-,-,e258,-,e260,-⟩:=F14
  obtain⟨-,-,-,-,-,-,-,-,-,-,-,-,-,-,-,e287,-⟩:=F15
  obtain⟨-,e289,-⟩:=F16
  obtain⟨-,-,-,-,-,-,e326,-,e328,-⟩:=F18
  obtain⟨-,-,-,-,-,-,-,-,-,e361,-,e363,-⟩:=F20
  simp only[AA,AD,zN,zR] at*
  clear hbr hlb hal h222 herr h224 h214 h211 hE h358 h360 h393 h395 h299 h255 h257
  intro h
  have ha:=h225 (by grind)
  have hx:=hab ha.1
  rw[hgA]
  exact hx.2.2.2 (h259.1 (by grind))
 ·obtain⟨-,-,-,e227,-⟩:=F12
  obtain⟨-,-,e258,-,e260,-⟩:=F14
  obtain⟨-,-,-,-,-,-,-,-,-,-,-,-,-,-,-,e287,-⟩:=F15
  obtain⟨-,e289,-⟩:=F16
  obtain⟨-,-,-,-,-,-,e326,-,e328,-⟩:=F18
  obtain⟨-,-,-,-,-,-,-,-,-,e361,-,e363,-⟩:=F20
  simp only[AA,AD,zN,zR] at*
  clear hbr hlb hal h222 herr h224 h214 h211 hE h358 h360 h393 h395 h299 h255 h257
  intro h
  rw[hgA]
  exact (h225 (by grind)).2
 ·obtain⟨-,-,-,e227,-⟩:=F12
  obtain⟨-,-,e258,-,e260,-⟩:=F14
  obtain⟨-,-,-,-,-,-,-,-,-,-,-,-,-,-,-,e287,-⟩:=F15
  obtain⟨-,e289,-⟩:=F16
  obtain⟨-,-,-,-,-,-,e326,-,e328,-⟩:=F18
  obtain⟨-,-,-,-,-,-,-,-,-,e361,-,e363,-⟩:=F20
  simp only[AA,AD,zN,zR] at*
  clear hbr hlb hal h222 herr h224 h214 h211 hE h358 h360 h393 h395 h299 h255 h257
  intro h
  omega
 ·obtain⟨-,-,-,e227,-⟩:=F12
  obtain⟨-,-,e258,-,e260,-⟩:=F14
  obtain⟨-,-,-,-,-,-,-,-,-,-,-,-,-,-,-,e287,-⟩:=F15
  obtain⟨-,e289,-⟩:=F16
  obtain⟨-,-,-,-,-,-,e326,-,e328,-⟩:=F18
  obtain⟨-,-,-,-,-,-,-,-,-,e361,-,e363,-⟩:=F20
  simp only[AA,AD,zN,zR] at*
  clear hbr hlb hal h222 herr h224 h214 h211 hE h358 h360 h393 h395 h299 h255 h257
  intro h
  have ha:=h225 (by grind)
  have hx:=hab ha.1
  clear hab h225
  have hk:¬I T 0=2∧¬I T 0=3:=by grind
  omega
 ·obtain⟨-,e37,e38,e39,-,e41,e42,-,-,-,-,-,e48,-⟩:=F0
  obtain⟨-,-,e54,e55,e56,-,e58,e59,e60,e61,e62,e63,e64,-,-,e67,-⟩:=F1
  obtain⟨e68,-,e70,e71,e72,-,e74,-,e76,-,e78,-,-,e81,-,e83,-⟩:=F2
  obtain⟨e84,e85,e86,e87,-,e89,e90,e91,e92,e93,e94,e95,-,-,e98,e99,-⟩:=F3
  obtain⟨-,e101,e102,e103,-,e105,-,e107,-,e109,-,e111,-,-,e114,-⟩:=F4
  obtain⟨-,-,-,-,-,-,-,-,-,-,-,e127,e128,e129,e130,-⟩:=F5
  obtain⟨e132,-,e134,-,e136,e137,-,e139,e140,e141,e142,e143,e144,e145,e146,-⟩:=F6
  obtain⟨e148,e149,-,e151,-,e153,e154,-⟩:=F7
  simp only[AA,AD,zN,zC,zR,AN,AM,and_false,or_false,Af,zL,uR,Aj,zW] at*
  intro _
  (try simp only[List.length_nil])
  omega
 ·obtain⟨-,e37,e38,e39,-,e41,e42,-,-,-,-,-,e48,-⟩:=F0
  obtain⟨-,-,e54,e55,e56,-,e58,e59,e60,e61,e62,e63,e64,-,-,e67,-⟩:=F1
  obtain⟨e68,-,e70,e71,e72,-,e74,-,e76,-,e78,-,-,e81,-,e83,-⟩:=F2
  obtain⟨e84,e85,e86,e87,-,e89,e90,e91,e92,e93,e94,e95,-,-,e98,e99,-⟩:=F3
  obtain⟨-,e101,e102,e103,-,e105,-,e107,-,e109,-,e111,-,-,e114,-⟩:=F4
  obtain⟨-,-,-,-,-,-,-,-,-,-,-,e127,e128,e129,e130,-⟩:=F5
  obtain⟨e132,-,e134,-,e136,e137,-,e139,e140,e141,e142,e143,-⟩:=F6
  obtain⟨e148,-⟩:=F7
  simp only[AA,AD,zN,zC,zR,AN,AM,and_false,or_false,Af,zL,uR,Aj,zW] at*
  intro _
  (try simp only[List.length_nil])
  omega
 ·obtain⟨-,e37,e38,e39,-,e41,e42,-,-,-,-,-,e48,-⟩:=F0
  obtain⟨-,-,e54,e55,e56,-,e58,e59,e60,e61,e62,-,-,-,-,e67,-⟩:=F1
  obtain⟨e68,-,-,-,-,-,-,-,e76,-,e78,-,-,-,-,e83,-⟩:=F2
  obtain⟨e84,e85,e86,e87,-,e89,e90,e91,e92,e93,-,-,-,-,e98,e99,-⟩:=F3
  obtain⟨-,-,-,-,-,-,-,e107,-,e109,-,-,-,-,e114,-⟩:=F4
  obtain⟨-,-,-,-,-,-,-,-,-,-,-,e127,-⟩:=F5
  obtain⟨-,-,e134,-,e136,e137,-,e139,e140,-⟩:=F6
  simp only[AA,AD,zN,zC,zR,AN,AM,and_false,or_false,Af] at*
  grind (splits:=100)
 ·obtain⟨-,e37,e38,e39,-,e41,e42,-,-,-,-,-,e48,-⟩:=F0
  obtain⟨-,-,e54,e55,e56,-,e58,e59,e60,e61,e62,e63,e64,-,-,e67,-⟩:=F1
  obtain⟨e68,-,e70,e71,e72,-,e74,-,e76,-,e78,-,-,e81,-,e83,-⟩:=F2
  obtain⟨e84,e85,e86,e87,-,e89,e90,e91,e92,e93,e94,e95,-,-,e98,e99,-⟩:=F3
  obtain⟨-,e101,e102,e103,-,e105,-,e107,-,e109,-,e111,-,-,e114,-⟩:=F4
  obtain⟨-,-,-,-,-,-,-,-,-,-,-,e127,e128,e129,-⟩:=F5
  simp only[AA,AD,zN,zC,zR,AN,AM,and_false,or_false,Af,zL,uR,Aj,zW] at*
  intro _
  (try simp only[List.length_nil])
  omega
 ·obtain⟨-,e37,e38,e39,-,e41,e42,-,-,-,-,-,e48,-⟩:=F0
  obtain⟨-,-,e54,e55,e56,-,e58,e59,e60,e61,e62,e63,e64,-,-,e67,-⟩:=F1
  obtain⟨e68,-,e70,e71,e72,-,e74,-,e76,-,e78,-,-,e81,-,e83,-⟩:=F2
  obtain⟨e84,e85,e86,e87,-,e89,e90,e91,-,e93,e94,e95,-,-,e98,e99,-⟩:=F3
  obtain⟨-,e101,e102,-⟩:=F4
  simp only[AA,AD,zN,zC,zR,AN,AM,and_false,or_false,Af,zL,uR,Aj,zW] at*
  intro _
  (try simp only[List.length_nil])
  omega
 ·obtain⟨-,e37,e38,e39,-,e41,e42,-,-,-,-,-,e48,-⟩:=F0
  obtain⟨-,-,e54,e55,e56,-,e58,e59,e60,e61,e62,e63,e64,-,-,e67,-⟩:=F1
  obtain⟨e68,-,e70,e71,e72,-,e74,-,e76,-,e78,-,-,e81,-,e83,-⟩:=F2
  obtain⟨e84,e85,e86,e87,-,e89,e90,e91,-,e93,e94,-⟩:=F3
  simp only[AA,AD,zN,zC,zR,AN,AM,and_false,or_false,Af,zL,uR,Aj,zW] at*
  intro _
  (try simp only[List.length_nil])
  omega
 ·obtain⟨-,e37,e38,e39,-,e41,e42,-,-,-,-,-,e48,-⟩:=F0
  obtain⟨-,-,e54,e55,e56,-,e58,e59,e60,-,e62,e63,e64,-,-,e67,-⟩:=F1
  obtain⟨e68,-,e70,e71,-⟩:=F2
  simp only[AA,AD,zN,zC,zR,AN,AM,and_false,or_false,zL,uR,Aj,zW] at*
  intro _
  (try simp only[List.length_nil])
  omega
 ·obtain⟨-,e37,e38,e39,-,e41,e42,-,-,-,-,-,e48,-⟩:=F0
  obtain⟨-,-,e54,e55,e56,-,e58,e59,e60,-,e62,e63,-⟩:=F1
  simp only[AA,AD,zN,zC,zR,AN,AM,and_false,or_false,zL,uR,Aj,zW] at*
  intro _
  (try simp only[List.length_nil])
  omega
 ·obtain⟨-,e37,e38,e39,-,e41,e42,e43,e44,e45,e46,-⟩:=F0
  simp only[AA,AD,zC,zR,zL,uR,Aj,zW] at*
  intro _
  (try simp only[List.length_nil])
  omega
 ·obtain⟨-,e37,e38,e39,-,e41,e42,e43,e44,-⟩:=F0
  simp only[AA,AD,zC,zR,zL,uR,Aj,zW] at*
  intro _
  (try simp only[List.length_nil])
  omega
theorem WU:CA Try.prog 35 FR:=by
 refine Bu (l:=[(50,ID),(51,Iq),(52,Ev),(54,Ib)]) C6 (by simp only[List.forall_mem_cons];exact⟨eJ,fe,iF,bo,fun _ h=>absurd h (by simp)⟩) jm (by kernel_rfl) fun T us hpre hT hul hS hBd hE=>?_
 change us.length=36 at hul
 obtain⟨-,-,⟨hl3,he3⟩,-,-,⟨lo6,hi6⟩,-⟩:=hBd
 replace hl3:(L T 3).length≤140737488355328:=hl3
 replace lo6:0≤I T 6:=lo6
 replace hi6:I T 6≤1:=hi6
 obtain⟨g,hg⟩:∃g:Gm,g=gT T 4:=⟨_,rfl⟩
 have hgu:gAt 4 us=g:=by rw[hg];exact DV hT hul (by decide)
 have ha0:aI us 0=I T 0:=inI hT hul (by decide)
 have ha1:aI us 1=I T 1:=inI hT hul (by decide)
 have ha2:aB us 2=B T 2:=inB hT hul (by decide)
 have ha3:aL us 3=L T 3:=inL hT hul (by decide)
 have ha4:aI us 4=I T 4:=inI hT hul (by decide)
 have ha30:aI us 30=I T 30:=inI hT hul (by decide)
 have ha31:aI us 31=I T 31:=inI hT hul (by decide)
 have ha32:aI us 32=I T 32:=inI hT hul (by decide)
 have ha33:aB us 33=B T 33:=inB hT hul (by decide)
 have ha34:aB us 34=B T 34:=inB hT hul (by decide)
 have ha35:aB us 35=B T 35:=inB hT hul (by decide)
 have pre0:0≤I T 4∧I T 4≤3∧I T 30=AX (I T 4)∧I T 31=Ac (I T 4)∧I T 32=Ab (I T 4)∧B T 33=Aw (I T 4)∧B T 34=Ao (I T 4)∧B T 35=BI (I T 4):=by
  have h:=hpre (.s "gmove.p0",IJ) (by simp[FR])
  change IJ us at h
  unfold IJ at h
  simp only[ha30,ha31,ha32,ha33,ha34,ha35,ha4] at h
  exact h
 have pre1:AR g=true:=by
  have h:=hpre (.s "gmove.p1",Da) (by simp[FR])
  change Da us at h
  unfold Da at h
  simp only[hgu] at h
  exact h
 clear hpre
 rw[List.map_append,List.map_append,List.map_append] at hE
 have hA:=hE.left
 replace hE:=hE.right
 have hH:=hE.left
 replace hE:=hE.right
 have hB:=hE.left
 replace hE:=hE.right
 obtain⟨A0,hS1⟩:=Cp hS (by kernel_rfl) hA
 obtain⟨hin,hsd,hph,hlb,hsg,hts,h81,h83,h111,h114,h132,h157,hnb,h126,hmv,hlen,h190⟩:=b8 hl3 lo6 hi6 g hg pre0 pre1 A0
 obtain⟨ow0,hS2,inv0,np0⟩:=eX g hg hlen h190 hS1 hB hH
 have hF2:=(Cp (hS2.append hS1) (l:=GS) (by kernel_rfl) hB)
 obtain⟨B0,hS⟩:=hF2
 clear hA hB hH hS1 hS2
 obtain⟨A1,hO⟩:=CK (tys:=[.i,.i,.i,.i,.i,.i,.i,.i,.i,.b,.b,.b,.b,.b,.b,.b,.b,.i,.i,.b,.b,.b,.i,.i,.i,.i,.i]) (rs:=av) hS (by kernel_rfl) hE
 obtain⟨g1,z1⟩:∃g:Gm,g=gT T 4:=⟨_,rfl⟩
 obtain⟨g2,z2⟩:∃g:Gm,g=gT T 4:=⟨_,rfl⟩
 obtain⟨g3,z3⟩:∃g:Gm,g=Gm.mk (I T 4) (I T 5) (I T 6) (I T 7) (I T 8) (I T 9) (I T 10) (I T 11) (I T 12) (B T 13) (B T 14) (B T 15) (B T 16) (B T 17) (B T 18) (B T 19) (B T 20) (I T 21) (I T 22) (B T 23) (B T 24) (B T 25) (I T 299) (I T 27) (I T 28) (I T 29):=⟨_,rfl⟩
 obtain⟨whole,q26,r0,r1,r2,r3,r4,r5,r6,r7,r8,r9,r10,r11,r12,r13,r14,r15,r16,r17,r18,r19,r20,r21,r22,r23⟩:=jQ hl3 lo6 hi6 g hg pre0 pre1 hin hsd hph hlb hsg hts h81 h83 h111 h114 h132 h157 hnb h126 hmv hlen h190 inv0 np0 g1 z1 g2 z2 g3 z3 A0 B0 A1
 have hog:Bh us=if B9 g (I T 0) (I T 1) (B T 2) (L T 3)=0 then Bv g (I T 0) (I T 1) (L T 3) else g:=by unfold Bh;rw[hgu,ha0,ha1,ha2,ha3]
 replace whole:=whole.trans hog.symm
 refine⟨⟨r0,r1,r2,r3,r4,r5,r6,r7,r8,(fun hp=>by show GN _;unfold GN;rw[show gAt 1 (A2.map (Rf.eval T))=g1 from z1.symm];exact r9 hp),(fun hp=>by show GH _;unfold GH;rw[show gAt 1 (A2.map (Rf.eval T))=g1 from z1.symm];exact r10 hp),(fun hp=>by show Gh _;unfold Gh;rw[show gAt 1 (A2.map (Rf.eval T))=g1 from z1.symm];exact r11 hp),r12,r13,(fun _=>ow0),r14,r15,r16,r17,r18,r19,r20,r21,r22,r23,trivial⟩,hO.trans ?_⟩
 exact Ka whole ((lc (by show U.int (I T 609)= .int (IQ us);unfold IQ;rw[hgu,ha0,ha1,ha2,ha3];exact congrArg U.int q26) rfl))
end Go.Eng
end
