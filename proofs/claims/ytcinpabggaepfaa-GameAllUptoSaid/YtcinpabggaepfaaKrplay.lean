/-
  A part of the proof: K_rplayd K_rplay.
-/
import Derived.Test.YtcinpabggaepfaaE3
import Derived.Test.YtcinpabggaepfaaE4
import Derived.Test.YtcinpabggaepfaaKlaws
import Derived.Test.YtcinpabggaepfaaKrend
import Derived.Test.YtcinpabggaepfaaKrbegin
import Derived.Test.YtcinpabggaepfaaKrstroke
set_option linter.unusedVariables false
set_option linter.unusedSimpArgs false
noncomputable section
open Go Go.Eng Go.Proofs
set_option maxHeartbeats 4000000
set_option maxRecDepth 100000
namespace Go.Eng
def Bj (us:List U):Gm:=Bv (gAt 0 us) (aI us 26) (aI us 27) (aL us 29)
def TG (us:List U):Int:=(Bj us).code
def Um (us:List U):Int:=(Bj us).phase
def Tm (us:List U):Int:=(Bj us).side
def To (us:List U):Int:=(Bj us).ball
def Tn (us:List U):Int:=(Bj us).taken
def TX (us:List U):Int:=(Bj us).p0
def Ur (us:List U):Int:=(Bj us).p1
def Uj (us:List U):Int:=(Bj us).p2
def UJ (us:List U):Int:=(Bj us).p3
def Uw (us:List U):Bool:=(Bj us).n0
def QZ (us:List U):Bool:=(Bj us).n1
def RW (us:List U):Bool:=(Bj us).n2
def RR (us:List U):Bool:=(Bj us).n3
def Qw (us:List U):Bool:=(Bj us).d0
def Rk (us:List U):Bool:=(Bj us).d1
def Rz (us:List U):Bool:=(Bj us).d2
def Ri (us:List U):Bool:=(Bj us).d3
def RM (us:List U):Int:=(Bj us).h0
def Qj (us:List U):Int:=(Bj us).h1
def RT (us:List U):Bool:=(Bj us).l0
def Q9 (us:List U):Bool:=(Bj us).l1
def Ru (us:List U):Bool:=(Bj us).half
def Qh (us:List U):Int:=(Bj us).turns
def RL (us:List U):Int:=(Bj us).began
def RD (us:List U):Int:=(Bj us).lastb
def QL (us:List U):Int:=(Bj us).winner
def Ff:List U→Prop:=fun us=>AR (gAt 0 us)=true
def Fp:List U→Prop:=fun us=>(aI us 26)=2→Ag (gAt 0 us)=true∧BX (gAt 0 us) (aL us 29)=true
def JX:List U→Prop:=fun us=>¬(aI us 26)=2→¬(aI us 26)=3→0≤(aI us 27)∧(aI us 27)≤3
def H7:Bc:={ sh:=[.agg [k64,k64,k64,k64,k64,k64,k64,k64,k64,.bool,.bool,.bool,.bool,.bool,.bool,.bool,.bool,k64,k64,.bool,.bool,.bool,k64,k64,k64,k64],.agg [k64,k64,.bool,.list [k64,k64]]],blks:=[],outs:=[(.s "rplay.0",AI TG),(.s "rplay.1",AI Um),(.s "rplay.2",AI Tm),(.s "rplay.3",AI To),(.s "rplay.4",AI Tn),(.s "rplay.5",AI TX),(.s "rplay.6",AI Ur),(.s "rplay.7",AI Uj),(.s "rplay.8",AI UJ),(.s "rplay.9",AQ Uw),(.s "rplay.10",AQ QZ),(.s "rplay.11",AQ RW),(.s "rplay.12",AQ RR),(.s "rplay.13",AQ Qw),(.s "rplay.14",AQ Rk),(.s "rplay.15",AQ Rz),(.s "rplay.16",AQ Ri),(.s "rplay.17",AI RM),(.s "rplay.18",AI Qj),(.s "rplay.19",AQ RT),(.s "rplay.20",AQ Q9),(.s "rplay.21",AQ Ru),(.s "rplay.22",AI Qh),(.s "rplay.23",AI RL),(.s "rplay.24",AI RD),(.s "rplay.25",AI QL)],c:= .agg [(AG 30),(AG 31),(AG 32),(AG 33),(AG 34),(AG 35),(AG 36),(AG 37),(AG 38),.b 39,.b 40,.b 41,.b 42,.b 43,.b 44,.b 45,.b 46,(AG 47),(AG 48),.b 49,.b 50,.b 51,(AG 52),(AG 53),(AG 54),(AG 55)],m':=[],pre:=[(.s "rplay.p0",Ff),(.s "rplay.p1",Fp),(.s "rplay.p2",JX)] }
def AF:List Rf:=[.e 0,.e 1,.e 2,.e 3,.e 4,.e 5,.e 6,.e 7,.e 8,.e 9,.e 10,.e 11,.e 12,.e 13,.e 14,.e 15,.e 16,.e 17,.e 18,.e 19,.e 20,.e 21,.e 22,.e 23,.e 24,.e 25,.e 27]
def A8:List Rf:=[.e 0,.e 1,.e 2,.e 3,.e 4,.e 5,.e 6,.e 7,.e 8,.e 9,.e 10,.e 11,.e 12,.e 13,.e 14,.e 15,.e 16,.e 17,.e 18,.e 19,.e 20,.e 21,.e 22,.e 23,.e 24,.e 25,.e 29]
def BT:List Rf:=[.e 0,.e 1,.e 2,.e 3,.e 4,.e 5,.e 6,.e 7,.e 8,.e 9,.e 10,.e 11,.e 12,.e 13,.e 14,.e 15,.e 16,.e 17,.e 18,.e 19,.e 20,.e 21,.e 102,.e 23,.e 24,.e 25]
def LK:List (Nat × Ty):=[(282,.i),(283,.i),(284,.i),(285,.i),(286,.i),(287,.i),(288,.i),(289,.i),(290,.i),(291,.b),(292,.b),(293,.b),(294,.b),(295,.b),(296,.b),(297,.b),(298,.b),(299,.i),(300,.i),(301,.b),(302,.b),(303,.b),(304,.i),(305,.i),(306,.i),(307,.i)]
def Y9:List En:=[⟨30,.eq,[.e 26,.c (.int 1)]⟩,
 ⟨31,.outI "rbegin.0" Gq,AF⟩,
 ⟨32,.outI "rbegin.1" HJ,AF⟩,
 ⟨33,.outI "rbegin.2" HG,AF⟩,
 ⟨34,.outI "rbegin.3" G6,AF⟩,
 ⟨35,.outI "rbegin.4" HN,AF⟩,
 ⟨36,.outI "rbegin.5" Gu,AF⟩,
 ⟨37,.outI "rbegin.6" G2,AF⟩,
 ⟨38,.outI "rbegin.7" G0,AF⟩,
 ⟨39,.outI "rbegin.8" HH,AF⟩,
 ⟨40,.outB "rbegin.9" Gs,AF⟩,
 ⟨41,.outB "rbegin.10" E5,AF⟩,
 ⟨42,.outB "rbegin.11" Ey,AF⟩,
 ⟨43,.outB "rbegin.12" E8,AF⟩,
 ⟨44,.outB "rbegin.13" FP,AF⟩,
 ⟨45,.outB "rbegin.14" FI,AF⟩]
def Z9:List En:=[⟨46,.outB "rbegin.15" FG,AF⟩,
 ⟨47,.outB "rbegin.16" E2,AF⟩,
 ⟨48,.outI "rbegin.17" E0,AF⟩,
 ⟨49,.outI "rbegin.18" Ew,AF⟩,
 ⟨50,.outB "rbegin.19" FU,AF⟩,
 ⟨51,.outB "rbegin.20" FD,AF⟩,
 ⟨52,.outB "rbegin.21" FO,AF⟩,
 ⟨53,.outI "rbegin.22" E6,AF⟩,
 ⟨54,.outI "rbegin.23" E7,AF⟩,
 ⟨55,.outI "rbegin.24" FT,AF⟩,
 ⟨56,.outI "rbegin.25" E1,AF⟩,
 ⟨57,.eq,[.e 33,.c (.int 0)]⟩,
 ⟨58,.ite .b,[.e 57,.c (.bool false),.e 50]⟩,
 ⟨59,.eq,[.e 33,.c (.int 1)]⟩,
 ⟨60,.ite .b,[.e 59,.c (.bool false),.e 51]⟩,
 ⟨61,.not,[.e 30]⟩]
def aO:List En:=[⟨62,.eq,[.e 26,.c (.int 2)]⟩,
 ⟨63,.and,[.e 61,.e 62]⟩,
 ⟨64,.outI "rstroke.0" Pe,A8⟩,
 ⟨65,.outI "rstroke.1" Pk,A8⟩,
 ⟨66,.outI "rstroke.2" PB,A8⟩,
 ⟨67,.outI "rstroke.3" O2,A8⟩,
 ⟨68,.outI "rstroke.4" PU,A8⟩,
 ⟨69,.outI "rstroke.5" Ph,A8⟩,
 ⟨70,.outI "rstroke.6" PM,A8⟩,
 ⟨71,.outI "rstroke.7" Pg,A8⟩,
 ⟨72,.outI "rstroke.8" PR,A8⟩,
 ⟨73,.outB "rstroke.9" O6,A8⟩,
 ⟨74,.outB "rstroke.10" OU,A8⟩,
 ⟨75,.outB "rstroke.11" Ns,A8⟩,
 ⟨76,.outB "rstroke.12" OO,A8⟩,
 ⟨77,.outB "rstroke.13" Ni,A8⟩]
def ZU:List En:=[⟨78,.outB "rstroke.14" N9,A8⟩,
 ⟨79,.outB "rstroke.15" Nj,A8⟩,
 ⟨80,.outB "rstroke.16" No,A8⟩,
 ⟨81,.outI "rstroke.17" OT,A8⟩,
 ⟨82,.outI "rstroke.18" N3,A8⟩,
 ⟨83,.outB "rstroke.19" Nv,A8⟩,
 ⟨84,.outB "rstroke.20" OA,A8⟩,
 ⟨85,.outB "rstroke.21" OH,A8⟩,
 ⟨86,.outI "rstroke.22" N8,A8⟩,
 ⟨87,.outI "rstroke.23" NH,A8⟩,
 ⟨88,.outI "rstroke.24" Ne,A8⟩,
 ⟨89,.outI "rstroke.25" OM,A8⟩,
 ⟨90,.and,[.e 61,.n 62]⟩,
 ⟨91,.eq,[.e 26,.c (.int 3)]⟩,
 ⟨92,.and,[.e 90,.e 91]⟩,
 ⟨93,.eq,[.e 1,.c (.int 0)]⟩]
def ZG:List En:=[⟨94,.and,[.e 92,.e 93]⟩,
 ⟨95,.eq,[.e 22,.c (.int 1073741824)]⟩,
 ⟨96,.and,[.e 94,.e 95]⟩,
 ⟨97,.and,[.e 94,.n 95]⟩,
 ⟨98,.w2 .i64 .add,[.e 22,.c (.int 1)]⟩,
 ⟨99,.ite .i,[.e 96,.c (.int 1073741823),.e 98]⟩,
 ⟨100,.or,[.e 96,.e 97]⟩,
 ⟨101,.and,[.e 92,.n 93]⟩,
 ⟨102,.ite .i,[.e 93,.e 99,.e 22]⟩,
 ⟨103,.outI "rend.0" HZ,BT⟩,
 ⟨104,.outI "rend.1" Hk,BT⟩,
 ⟨105,.outI "rend.2" Hf,BT⟩,
 ⟨106,.outI "rend.3" Hd,BT⟩,
 ⟨107,.outI "rend.4" Hl,BT⟩,
 ⟨108,.outI "rend.5" Hi,BT⟩,
 ⟨109,.outI "rend.6" Hb,BT⟩]
def aD:List En:=[⟨110,.outI "rend.7" He,BT⟩,
 ⟨111,.outI "rend.8" Hh,BT⟩,
 ⟨112,.outB "rend.9" Hs,BT⟩,
 ⟨113,.outB "rend.10" GU,BT⟩,
 ⟨114,.outB "rend.11" GA,BT⟩,
 ⟨115,.outB "rend.12" Gf,BT⟩,
 ⟨116,.outB "rend.13" Fu,BT⟩,
 ⟨117,.outB "rend.14" GW,BT⟩,
 ⟨118,.outB "rend.15" Fw,BT⟩,
 ⟨119,.outB "rend.16" Gi,BT⟩,
 ⟨120,.outI "rend.17" Fk,BT⟩,
 ⟨121,.outI "rend.18" GB,BT⟩,
 ⟨122,.outB "rend.19" GM,BT⟩,
 ⟨123,.outB "rend.20" Fi,BT⟩,
 ⟨124,.outB "rend.21" Fm,BT⟩,
 ⟨125,.outI "rend.22" GX,BT⟩]
def aG:List En:=[⟨126,.outI "rend.23" GY,BT⟩,
 ⟨127,.outI "rend.24" GJ,BT⟩,
 ⟨128,.outI "rend.25" Fq,BT⟩,
 ⟨129,.and,[.e 90,.n 91]⟩,
 ⟨130,.eq,[.e 26,.c (.int 4)]⟩,
 ⟨131,.and,[.e 129,.e 130]⟩,
 ⟨132,.outI "rbegin.0" Gq,AF⟩,
 ⟨133,.outI "rbegin.1" HJ,AF⟩,
 ⟨134,.outI "rbegin.2" HG,AF⟩,
 ⟨135,.outI "rbegin.3" G6,AF⟩,
 ⟨136,.outI "rbegin.4" HN,AF⟩,
 ⟨137,.outI "rbegin.5" Gu,AF⟩,
 ⟨138,.outI "rbegin.6" G2,AF⟩,
 ⟨139,.outI "rbegin.7" G0,AF⟩,
 ⟨140,.outI "rbegin.8" HH,AF⟩,
 ⟨141,.outB "rbegin.9" Gs,AF⟩]
def Zw:List En:=[⟨142,.outB "rbegin.10" E5,AF⟩,
 ⟨143,.outB "rbegin.11" Ey,AF⟩,
 ⟨144,.outB "rbegin.12" E8,AF⟩,
 ⟨145,.outB "rbegin.13" FP,AF⟩,
 ⟨146,.outB "rbegin.14" FI,AF⟩,
 ⟨147,.outB "rbegin.15" FG,AF⟩,
 ⟨148,.outB "rbegin.16" E2,AF⟩,
 ⟨149,.outI "rbegin.17" E0,AF⟩,
 ⟨150,.outI "rbegin.18" Ew,AF⟩,
 ⟨151,.outB "rbegin.19" FU,AF⟩,
 ⟨152,.outB "rbegin.20" FD,AF⟩,
 ⟨153,.outB "rbegin.21" FO,AF⟩,
 ⟨154,.outI "rbegin.22" E6,AF⟩,
 ⟨155,.outI "rbegin.23" E7,AF⟩,
 ⟨156,.outI "rbegin.24" FT,AF⟩,
 ⟨157,.outI "rbegin.25" E1,AF⟩]
def aN:List En:=[⟨158,.pick .i,[.e 134,.e 149,.e 150]⟩,
 ⟨159,.w2 .i64 .sub,[.e 158,.c (.int 2)]⟩,
 ⟨160,.eq,[.e 134,.c (.int 0)]⟩,
 ⟨161,.ite .i,[.e 160,.e 159,.e 149]⟩,
 ⟨162,.eq,[.e 134,.c (.int 1)]⟩,
 ⟨163,.ite .i,[.e 162,.e 159,.e 150]⟩,
 ⟨164,.and,[.e 129,.n 130]⟩,
 ⟨165,.ite .i,[.e 91,.e 102,.e 22]⟩,
 ⟨166,.ite .i,[.e 91,.e 103,.e 132]⟩,
 ⟨167,.ite .i,[.e 91,.e 104,.e 133]⟩,
 ⟨168,.ite .i,[.e 91,.e 105,.e 134]⟩,
 ⟨169,.ite .i,[.e 91,.e 106,.e 135]⟩,
 ⟨170,.ite .i,[.e 91,.e 107,.e 136]⟩,
 ⟨171,.ite .i,[.e 91,.e 108,.e 137]⟩,
 ⟨172,.ite .i,[.e 91,.e 109,.e 138]⟩,
 ⟨173,.ite .i,[.e 91,.e 110,.e 139]⟩]
def aV:List En:=[⟨174,.ite .i,[.e 91,.e 111,.e 140]⟩,
 ⟨175,.ite .b,[.e 91,.e 112,.e 141]⟩,
 ⟨176,.ite .b,[.e 91,.e 113,.e 142]⟩,
 ⟨177,.ite .b,[.e 91,.e 114,.e 143]⟩,
 ⟨178,.ite .b,[.e 91,.e 115,.e 144]⟩,
 ⟨179,.ite .b,[.e 91,.e 116,.e 145]⟩,
 ⟨180,.ite .b,[.e 91,.e 117,.e 146]⟩,
 ⟨181,.ite .b,[.e 91,.e 118,.e 147]⟩,
 ⟨182,.ite .b,[.e 91,.e 119,.e 148]⟩,
 ⟨183,.ite .i,[.e 91,.e 120,.e 161]⟩,
 ⟨184,.ite .i,[.e 91,.e 121,.e 163]⟩,
 ⟨185,.ite .b,[.e 91,.e 122,.e 151]⟩,
 ⟨186,.ite .b,[.e 91,.e 123,.e 152]⟩,
 ⟨187,.ite .b,[.e 91,.e 124,.e 153]⟩,
 ⟨188,.ite .i,[.e 91,.e 125,.e 154]⟩,
 ⟨189,.ite .i,[.e 91,.e 126,.e 155]⟩]
def XP:List En:=[⟨190,.ite .i,[.e 91,.e 127,.e 156]⟩,
 ⟨191,.ite .i,[.e 91,.e 128,.e 157]⟩,
 ⟨192,.or,[.e 92,.e 131]⟩,
 ⟨193,.ite .i,[.e 62,.e 22,.e 165]⟩,
 ⟨194,.ite .i,[.e 62,.e 64,.e 166]⟩,
 ⟨195,.ite .i,[.e 62,.e 65,.e 167]⟩,
 ⟨196,.ite .i,[.e 62,.e 66,.e 168]⟩,
 ⟨197,.ite .i,[.e 62,.e 67,.e 169]⟩,
 ⟨198,.ite .i,[.e 62,.e 68,.e 170]⟩,
 ⟨199,.ite .i,[.e 62,.e 69,.e 171]⟩,
 ⟨200,.ite .i,[.e 62,.e 70,.e 172]⟩,
 ⟨201,.ite .i,[.e 62,.e 71,.e 173]⟩,
 ⟨202,.ite .i,[.e 62,.e 72,.e 174]⟩,
 ⟨203,.ite .b,[.e 62,.e 73,.e 175]⟩,
 ⟨204,.ite .b,[.e 62,.e 74,.e 176]⟩,
 ⟨205,.ite .b,[.e 62,.e 75,.e 177]⟩]
def YA:List En:=[⟨206,.ite .b,[.e 62,.e 76,.e 178]⟩,
 ⟨207,.ite .b,[.e 62,.e 77,.e 179]⟩,
 ⟨208,.ite .b,[.e 62,.e 78,.e 180]⟩,
 ⟨209,.ite .b,[.e 62,.e 79,.e 181]⟩,
 ⟨210,.ite .b,[.e 62,.e 80,.e 182]⟩,
 ⟨211,.ite .i,[.e 62,.e 81,.e 183]⟩,
 ⟨212,.ite .i,[.e 62,.e 82,.e 184]⟩,
 ⟨213,.ite .b,[.e 62,.e 83,.e 185]⟩,
 ⟨214,.ite .b,[.e 62,.e 84,.e 186]⟩,
 ⟨215,.ite .b,[.e 62,.e 85,.e 187]⟩,
 ⟨216,.ite .i,[.e 62,.e 86,.e 188]⟩,
 ⟨217,.ite .i,[.e 62,.e 87,.e 189]⟩,
 ⟨218,.ite .i,[.e 62,.e 88,.e 190]⟩,
 ⟨219,.ite .i,[.e 62,.e 89,.e 191]⟩,
 ⟨220,.or,[.e 63,.e 192]⟩,
 ⟨221,.ite .i,[.e 30,.e 22,.e 193]⟩]
def Xw:List En:=[⟨222,.ite .i,[.e 30,.e 31,.e 194]⟩,
 ⟨223,.ite .i,[.e 30,.e 32,.e 195]⟩,
 ⟨224,.ite .i,[.e 30,.e 33,.e 196]⟩,
 ⟨225,.ite .i,[.e 30,.e 34,.e 197]⟩,
 ⟨226,.ite .i,[.e 30,.e 35,.e 198]⟩,
 ⟨227,.ite .i,[.e 30,.e 36,.e 199]⟩,
 ⟨228,.ite .i,[.e 30,.e 37,.e 200]⟩,
 ⟨229,.ite .i,[.e 30,.e 38,.e 201]⟩,
 ⟨230,.ite .i,[.e 30,.e 39,.e 202]⟩,
 ⟨231,.ite .b,[.e 30,.e 40,.e 203]⟩,
 ⟨232,.ite .b,[.e 30,.e 41,.e 204]⟩,
 ⟨233,.ite .b,[.e 30,.e 42,.e 205]⟩,
 ⟨234,.ite .b,[.e 30,.e 43,.e 206]⟩,
 ⟨235,.ite .b,[.e 30,.e 44,.e 207]⟩,
 ⟨236,.ite .b,[.e 30,.e 45,.e 208]⟩,
 ⟨237,.ite .b,[.e 30,.e 46,.e 209]⟩]
def XF:List En:=[⟨238,.ite .b,[.e 30,.e 47,.e 210]⟩,
 ⟨239,.ite .i,[.e 30,.e 48,.e 211]⟩,
 ⟨240,.ite .i,[.e 30,.e 49,.e 212]⟩,
 ⟨241,.ite .b,[.e 30,.e 58,.e 213]⟩,
 ⟨242,.ite .b,[.e 30,.e 60,.e 214]⟩,
 ⟨243,.ite .b,[.e 30,.e 52,.e 215]⟩,
 ⟨244,.ite .i,[.e 30,.e 53,.e 216]⟩,
 ⟨245,.ite .i,[.e 30,.e 54,.e 217]⟩,
 ⟨246,.ite .i,[.e 30,.e 55,.e 218]⟩,
 ⟨247,.ite .i,[.e 30,.e 56,.e 219]⟩,
 ⟨248,.or,[.e 30,.e 220]⟩,
 ⟨249,.outI "rbegin.0" Gq,AF⟩,
 ⟨250,.outI "rbegin.1" HJ,AF⟩,
 ⟨251,.outI "rbegin.2" HG,AF⟩,
 ⟨252,.outI "rbegin.3" G6,AF⟩,
 ⟨253,.outI "rbegin.4" HN,AF⟩]
def Y3:List En:=[⟨254,.outI "rbegin.5" Gu,AF⟩,
 ⟨255,.outI "rbegin.6" G2,AF⟩,
 ⟨256,.outI "rbegin.7" G0,AF⟩,
 ⟨257,.outI "rbegin.8" HH,AF⟩,
 ⟨258,.outB "rbegin.9" Gs,AF⟩,
 ⟨259,.outB "rbegin.10" E5,AF⟩,
 ⟨260,.outB "rbegin.11" Ey,AF⟩,
 ⟨261,.outB "rbegin.12" E8,AF⟩,
 ⟨262,.outB "rbegin.13" FP,AF⟩,
 ⟨263,.outB "rbegin.14" FI,AF⟩,
 ⟨264,.outB "rbegin.15" FG,AF⟩,
 ⟨265,.outB "rbegin.16" E2,AF⟩,
 ⟨266,.outI "rbegin.17" E0,AF⟩,
 ⟨267,.outI "rbegin.18" Ew,AF⟩,
 ⟨268,.outB "rbegin.19" FU,AF⟩,
 ⟨269,.outB "rbegin.20" FD,AF⟩]
def Yh:List En:=[⟨270,.outB "rbegin.21" FO,AF⟩,
 ⟨271,.outI "rbegin.22" E6,AF⟩,
 ⟨272,.outI "rbegin.23" E7,AF⟩,
 ⟨273,.outI "rbegin.24" FT,AF⟩,
 ⟨274,.outI "rbegin.25" E1,AF⟩,
 ⟨275,.pick .i,[.e 251,.e 266,.e 267]⟩,
 ⟨276,.w2 .i64 .sub,[.e 275,.c (.int 1)]⟩,
 ⟨277,.eq,[.e 251,.c (.int 0)]⟩,
 ⟨278,.ite .i,[.e 277,.e 276,.e 266]⟩,
 ⟨279,.eq,[.e 251,.c (.int 1)]⟩,
 ⟨280,.ite .i,[.e 279,.e 276,.e 267]⟩,
 ⟨281,.ite .i,[.e 248,.e 221,.e 22]⟩,
 ⟨282,.ite .i,[.e 248,.e 222,.e 249]⟩,
 ⟨283,.ite .i,[.e 248,.e 223,.e 250]⟩,
 ⟨284,.ite .i,[.e 248,.e 224,.e 251]⟩,
 ⟨285,.ite .i,[.e 248,.e 225,.e 252]⟩]
def YC:List En:=[⟨286,.ite .i,[.e 248,.e 226,.e 253]⟩,
 ⟨287,.ite .i,[.e 248,.e 227,.e 254]⟩,
 ⟨288,.ite .i,[.e 248,.e 228,.e 255]⟩,
 ⟨289,.ite .i,[.e 248,.e 229,.e 256]⟩,
 ⟨290,.ite .i,[.e 248,.e 230,.e 257]⟩,
 ⟨291,.ite .b,[.e 248,.e 231,.e 258]⟩,
 ⟨292,.ite .b,[.e 248,.e 232,.e 259]⟩,
 ⟨293,.ite .b,[.e 248,.e 233,.e 260]⟩,
 ⟨294,.ite .b,[.e 248,.e 234,.e 261]⟩,
 ⟨295,.ite .b,[.e 248,.e 235,.e 262]⟩,
 ⟨296,.ite .b,[.e 248,.e 236,.e 263]⟩,
 ⟨297,.ite .b,[.e 248,.e 237,.e 264]⟩,
 ⟨298,.ite .b,[.e 248,.e 238,.e 265]⟩,
 ⟨299,.ite .i,[.e 248,.e 239,.e 278]⟩,
 ⟨300,.ite .i,[.e 248,.e 240,.e 280]⟩,
 ⟨301,.ite .b,[.e 248,.e 241,.e 268]⟩]
def Xe:List En:=[⟨302,.ite .b,[.e 248,.e 242,.e 269]⟩,
 ⟨303,.ite .b,[.e 248,.e 243,.c (.bool true)]⟩,
 ⟨304,.ite .i,[.e 248,.e 244,.e 271]⟩,
 ⟨305,.ite .i,[.e 248,.e 245,.e 272]⟩,
 ⟨306,.ite .i,[.e 248,.e 246,.e 273]⟩,
 ⟨307,.ite .i,[.e 248,.e 247,.e 274]⟩,
 ⟨308,.or,[.e 248,.e 164]⟩]
def UP:List En:=Y9++(Z9++(aO++(ZU++(ZG++(aD++(aG++(Zw++(aN++(aV++(XP++(YA++(Xw++(XF++(Y3++(Yh++(YC++(Xe)))))))))))))))))
def jz:List ObE:=[⟨some 164,.inr,[.e 251,.c (.int 2)]⟩,
 ⟨some 164,.inr,[.e 251,.c (.int 2)]⟩,
 ⟨some 164,.pre "rbegin.p0" Ee,AF⟩,
 ⟨some 131,.inr,[.e 134,.c (.int 2)]⟩,
 ⟨some 131,.inr,[.e 134,.c (.int 2)]⟩,
 ⟨some 131,.pre "rbegin.p0" Ee,AF⟩,
 ⟨some 92,.pre "rend.p0" Ft,BT⟩,
 ⟨some 63,.pre "rstroke.p0" D3,A8⟩,
 ⟨some 63,.pre "rstroke.p1" EA,A8⟩,
 ⟨some 63,.pre "rstroke.p2" EB,A8⟩,
 ⟨some 30,.inr,[.e 33,.c (.int 2)]⟩,
 ⟨some 30,.pre "rbegin.p0" Ee,AF⟩]
def bA:List Rf:=[.e 282,.e 283,.e 284,.e 285,.e 286,.e 287,.e 288,.e 289,.e 290,.e 291,.e 292,.e 293,.e 294,.e 295,.e 296,.e 297,.e 298,.e 299,.e 300,.e 301,.e 302,.e 303,.e 304,.e 305,.e 306,.e 307]
theorem jX:H7.sees bA (H7.run Try.prog [(43,De),(62,JS),(60,Iz),(61,Dx)] Ba 3000 20 39)=some ((UP).map En.be,jz.map ObE.be,[]):=by kernel_rfl
theorem ja {T:Tab}(lo1: -9223372036854775808≤I T 1)(hi1:I T 1≤9223372036854775807)(hl29:(L T 29).length≤140737488355328)(g:Gm)(hg:g=gT T 0)(pre0:AR g=true)(pre1:(I T 26)=2→Ag g=true∧BX g (L T 29)=true)(pre2:¬I T 26=2→¬I T 26=3→0≤I T 27∧I T 27≤3)(g1:Gm)(z1:g1=gT T 0)(g2:Gm)(z2:g2=gT T 0)(g3:Gm)(z3:g3=Gm.mk (I T 0) (I T 1) (I T 2) (I T 3) (I T 4) (I T 5) (I T 6) (I T 7) (I T 8) (B T 9) (B T 10) (B T 11) (B T 12) (B T 13) (B T 14) (B T 15) (B T 16) (I T 17) (I T 18) (B T 19) (B T 20) (B T 21) (I T 102) (I T 23) (I T 24) (I T 25))(A0:AK T UP):
  (gT T 282=Bv g (I T 26) (I T 27) (L T 29))∧
  (B T 164=true→0≤I T 251∧I T 251 < 2)∧
  (B T 164=true→0≤I T 251∧I T 251 < 2)∧
  (B T 164=true→0≤I T 27∧I T 27≤3∧0≤I T 22∧I T 22≤1073741824)∧
  (B T 131=true→0≤I T 134∧I T 134 < 2)∧
  (B T 131=true→0≤I T 134∧I T 134 < 2)∧
  (B T 131=true→0≤I T 27∧I T 27≤3∧0≤I T 22∧I T 22≤1073741824)∧
  (B T 92=true→((I T 3)= -1∨(0≤I T 3∧I T 3≤3))∧0≤I T 2∧I T 2≤1∧0≤I T 23)∧
  (B T 63=true→AR g2=true)∧
  (B T 63=true→Ag g2=true)∧
  (B T 63=true→BX g2 (L T 29)=true)∧
  (B T 30=true→0≤I T 33∧I T 33 < 2)∧
  (B T 30=true→0≤I T 27∧I T 27≤3∧0≤I T 22∧I T 22≤1073741824):=by
 have hFa:=A0
 obtain⟨F0,A0⟩:=A0.cut
 obtain⟨F1,A0⟩:=A0.cut
 obtain⟨F2,A0⟩:=A0.cut
 obtain⟨F3,A0⟩:=A0.cut
 obtain⟨F4,A0⟩:=A0.cut
 obtain⟨F5,A0⟩:=A0.cut
 obtain⟨F6,A0⟩:=A0.cut
 obtain⟨F7,A0⟩:=A0.cut
 obtain⟨F8,A0⟩:=A0.cut
 obtain⟨F9,A0⟩:=A0.cut
 obtain⟨F10,A0⟩:=A0.cut
 obtain⟨F11,A0⟩:=A0.cut
 obtain⟨F12,A0⟩:=A0.cut
 obtain⟨F13,A0⟩:=A0.cut
 obtain⟨F14,A0⟩:=A0.cut
 obtain⟨F15,A0⟩:=A0.cut
 obtain⟨F16,A0⟩:=A0.cut
 have F17:=A0;clear A0
 have hg1:g1=g:=by rw[z1,hg]
 have hg2:g2=g:=by rw[z2,hg]
 have hh:(0≤I T 17∧I T 17≤40)∧(0≤I T 18∧I T 18≤40):=by have h:=(Bs pre0).1;rw[hg] at h;simp only[BU,DD,Bool.and_eq_true,decide_eq_true_eq,Nat.reduceAdd] at h;omega
 have ht:0≤I T 22∧I T 22≤1073741824:=by have h:=DB (Bs pre0).1;rw[hg] at h;exact h.2.2.2.2.2.2
 have hbr:((I T 3)= -1∨(0≤I T 3∧I T 3≤3))∧0≤I T 2∧I T 2≤1∧0≤I T 23:=by have h:=DB (Bs pre0).1;have h2:=IK pre0;have h3:=Bs pre0;rw[hg] at h h2 h3;refine⟨?_,h.2.2.2.2.1,h.2.2.2.2.2.1,h2⟩;cases hb:Ag (gT T 0) with|true=>exact .inr (h3.2.2.1 hb)|false=>exact .inl (h3.2.2.2.2 hb)
 have h30:(B T 30)=true↔I T 26=1:=by
  obtain⟨e30,-⟩:=F0
  simp only[AA,zR] at e30
  exact e30
 have h62:(B T 62)=true↔I T 26=2:=by
  obtain⟨e62,-⟩:=F2
  simp only[AA,zR] at e62
  exact e62
 have h91:(B T 91)=true↔I T 26=3:=by
  obtain⟨-,-,-,-,-,-,-,-,-,-,-,-,-,e91,-⟩:=F3
  simp only[AA,zR] at e91
  exact e91
 have h130:(B T 130)=true↔I T 26=4:=by
  obtain⟨-,-,-,-,e130,-⟩:=F6
  simp only[AA,zR] at e130
  exact e130
 have h58:(B T 58)=true↔(¬I T 33=0∧B T 50=true):=by
  obtain⟨-,-,-,e33,-⟩:=F0
  obtain⟨-,-,-,-,e50,-,-,-,-,-,-,e57,e58,-⟩:=F1
  replace e33:I T 33=((AH g1 (I T 27)).side):=by rw[←show gAt 0 (AF.map (Rf.eval T))=g1 from z1.symm];exact e33
  replace e50:B T 50=((AH g1 (I T 27)).l0):=by rw[←show gAt 0 (AF.map (Rf.eval T))=g1 from z1.symm];exact e50
  simp only[AA,AD,zC,zR,zL] at e57 e58
  grind
 have h60:(B T 60)=true↔(¬I T 33=1∧B T 51=true):=by
  obtain⟨-,-,-,e33,-⟩:=F0
  obtain⟨-,-,-,-,-,e51,-,-,-,-,-,-,-,e59,e60,-⟩:=F1
  replace e33:I T 33=((AH g1 (I T 27)).side):=by rw[←show gAt 0 (AF.map (Rf.eval T))=g1 from z1.symm];exact e33
  replace e51:B T 51=((AH g1 (I T 27)).l1):=by rw[←show gAt 0 (AF.map (Rf.eval T))=g1 from z1.symm];exact e51
  simp only[AA,AD,zC,zR,zL] at e59 e60
  grind
 have h102:(B T 30)=false→B T 62=false→B T 91=true→I T 102=if (I T 1)=0 then Ae (I T 22) else (I T 22):=by
  obtain⟨e30,-⟩:=F0
  obtain⟨-,-,-,-,-,-,-,-,-,-,-,-,-,-,-,e61,-⟩:=F1
  obtain⟨e62,-⟩:=F2
  obtain⟨-,-,-,-,-,-,-,-,-,-,-,-,e90,e91,e92,e93,-⟩:=F3
  obtain⟨e94,e95,e96,-,e98,e99,-,-,e102,-⟩:=F4
  simp only[AA,AD,zN,zR,w2P,zL] at*
  unfold Ae;grind
 have hi1:(I T 48)=I T 17∧I T 149=I T 17∧I T 266=I T 17∧I T 49=I T 18∧I T 150=I T 18∧I T 267=I T 18:=by
  obtain⟨-,-,e48,e49,-⟩:=F1
  obtain⟨-,-,-,-,-,-,-,e149,e150,-⟩:=F7
  obtain⟨-,-,-,-,-,-,-,-,-,-,-,-,e266,e267,-⟩:=F14
  replace e48:I T 48=((AH g1 (I T 27)).h0):=by rw[←show gAt 0 (AF.map (Rf.eval T))=g1 from z1.symm];exact e48
  replace e49:I T 49=((AH g1 (I T 27)).h1):=by rw[←show gAt 0 (AF.map (Rf.eval T))=g1 from z1.symm];exact e49
  replace e149:I T 149=((AH g1 (I T 27)).h0):=by rw[←show gAt 0 (AF.map (Rf.eval T))=g1 from z1.symm];exact e149
  replace e150:I T 150=((AH g1 (I T 27)).h1):=by rw[←show gAt 0 (AF.map (Rf.eval T))=g1 from z1.symm];exact e150
  replace e266:I T 266=((AH g1 (I T 27)).h0):=by rw[←show gAt 0 (AF.map (Rf.eval T))=g1 from z1.symm];exact e266
  replace e267:I T 267=((AH g1 (I T 27)).h1):=by rw[←show gAt 0 (AF.map (Rf.eval T))=g1 from z1.symm];exact e267
  rw[hg1] at e48 e149 e266 e49 e150 e267
  rw[e48,e149,e266,e49,e150,e267]
  subst hg;exact⟨rfl,rfl,rfl,rfl,rfl,rfl⟩
 have hs:(I T 33)=(I T 27) % 2∧I T 134=(I T 27) % 2∧I T 251=(I T 27) % 2:=by
  obtain⟨-,-,-,e33,-⟩:=F0
  obtain⟨-,-,-,-,-,-,-,-,e134,-⟩:=F6
  obtain⟨-,-,-,-,-,-,-,-,-,-,-,-,-,e251,-⟩:=F13
  replace e33:I T 33=((AH g1 (I T 27)).side):=by rw[←show gAt 0 (AF.map (Rf.eval T))=g1 from z1.symm];exact e33
  replace e134:I T 134=((AH g1 (I T 27)).side):=by rw[←show gAt 0 (AF.map (Rf.eval T))=g1 from z1.symm];exact e134
  replace e251:I T 251=((AH g1 (I T 27)).side):=by rw[←show gAt 0 (AF.map (Rf.eval T))=g1 from z1.symm];exact e251
  exact⟨e33,e134,e251⟩
 have h161:((I T 134)=0∨I T 134=1)→I T 161=if (I T 134)=0 then (I T 149) - 2 else (I T 149):=by
  obtain⟨-,-,-,-,-,-,-,-,e134,-⟩:=F6
  obtain⟨-,-,-,-,-,-,-,e149,e150,-⟩:=F7
  obtain⟨e158,e159,e160,e161,-⟩:=F8
  replace e134:I T 134=((AH g1 (I T 27)).side):=by rw[←show gAt 0 (AF.map (Rf.eval T))=g1 from z1.symm];exact e134
  replace e149:I T 149=((AH g1 (I T 27)).h0):=by rw[←show gAt 0 (AF.map (Rf.eval T))=g1 from z1.symm];exact e149
  replace e150:I T 150=((AH g1 (I T 27)).h1):=by rw[←show gAt 0 (AF.map (Rf.eval T))=g1 from z1.symm];exact e150
  simp only[AA,AD,zR,AN,AM,and_false,or_false,w2P,zL] at*
  grind
 have h163:((I T 134)=0∨I T 134=1)→I T 163=if (I T 134)=1 then (I T 150) - 2 else (I T 150):=by
  obtain⟨-,-,-,-,-,-,-,-,e134,-⟩:=F6
  obtain⟨-,-,-,-,-,-,-,e149,e150,-⟩:=F7
  obtain⟨e158,e159,-,-,e162,e163,-⟩:=F8
  replace e134:I T 134=((AH g1 (I T 27)).side):=by rw[←show gAt 0 (AF.map (Rf.eval T))=g1 from z1.symm];exact e134
  replace e149:I T 149=((AH g1 (I T 27)).h0):=by rw[←show gAt 0 (AF.map (Rf.eval T))=g1 from z1.symm];exact e149
  replace e150:I T 150=((AH g1 (I T 27)).h1):=by rw[←show gAt 0 (AF.map (Rf.eval T))=g1 from z1.symm];exact e150
  simp only[AA,AD,zR,AN,AM,and_false,or_false,w2P,zL] at*
  grind
 have h278:((I T 251)=0∨I T 251=1)→I T 278=if (I T 251)=0 then (I T 266) - 1 else (I T 266):=by
  obtain⟨-,-,-,-,-,-,-,-,-,-,-,-,-,e251,-⟩:=F13
  obtain⟨-,-,-,-,-,-,-,-,-,-,-,-,e266,e267,-⟩:=F14
  obtain⟨-,-,-,-,-,e275,e276,e277,e278,-⟩:=F15
  replace e251:I T 251=((AH g1 (I T 27)).side):=by rw[←show gAt 0 (AF.map (Rf.eval T))=g1 from z1.symm];exact e251
  replace e266:I T 266=((AH g1 (I T 27)).h0):=by rw[←show gAt 0 (AF.map (Rf.eval T))=g1 from z1.symm];exact e266
  replace e267:I T 267=((AH g1 (I T 27)).h1):=by rw[←show gAt 0 (AF.map (Rf.eval T))=g1 from z1.symm];exact e267
  simp only[AA,AD,zR,AN,AM,and_false,or_false,w2P,zL] at*
  grind
 have h280:((I T 251)=0∨I T 251=1)→I T 280=if (I T 251)=1 then (I T 267) - 1 else (I T 267):=by
  obtain⟨-,-,-,-,-,-,-,-,-,-,-,-,-,e251,-⟩:=F13
  obtain⟨-,-,-,-,-,-,-,-,-,-,-,-,e266,e267,-⟩:=F14
  obtain⟨-,-,-,-,-,e275,e276,-,-,e279,e280,-⟩:=F15
  replace e251:I T 251=((AH g1 (I T 27)).side):=by rw[←show gAt 0 (AF.map (Rf.eval T))=g1 from z1.symm];exact e251
  replace e266:I T 266=((AH g1 (I T 27)).h0):=by rw[←show gAt 0 (AF.map (Rf.eval T))=g1 from z1.symm];exact e266
  replace e267:I T 267=((AH g1 (I T 27)).h1):=by rw[←show gAt 0 (AF.map (Rf.eval T))=g1 from z1.symm];exact e267
  simp only[AA,AD,zR,AN,AM,and_false,or_false,w2P,zL] at*
  grind
 have cr1_0:gT T 31=AH g1 (I T 27):=by
  obtain⟨-,e31,e32,e33,e34,e35,e36,e37,e38,e39,e40,e41,e42,e43,e44,e45,-⟩:=F0
  obtain⟨e46,e47,e48,e49,e50,e51,e52,e53,e54,e55,e56,-⟩:=F1
  rw[←show gAt 0 (AF.map (Rf.eval T))=g1 from z1.symm]
  exact Bk e31 e32 e33 e34 e35 e36 e37 e38 e39 e40 e41 e42 e43 e44 e45 e46 e47 e48 e49 e50 e51 e52 e53 e54 e55 e56
 have cr1_1:gT T 132=AH g1 (I T 27):=by
  obtain⟨-,-,-,-,-,-,e132,e133,e134,e135,e136,e137,e138,e139,e140,e141,-⟩:=F6
  obtain⟨e142,e143,e144,e145,e146,e147,e148,e149,e150,e151,e152,e153,e154,e155,e156,e157,-⟩:=F7
  rw[←show gAt 0 (AF.map (Rf.eval T))=g1 from z1.symm]
  exact Bk e132 e133 e134 e135 e136 e137 e138 e139 e140 e141 e142 e143 e144 e145 e146 e147 e148 e149 e150 e151 e152 e153 e154 e155 e156 e157
 have cr1_2:gT T 249=AH g1 (I T 27):=by
  obtain⟨-,-,-,-,-,-,-,-,-,-,-,e249,e250,e251,e252,e253,-⟩:=F13
  obtain⟨e254,e255,e256,e257,e258,e259,e260,e261,e262,e263,e264,e265,e266,e267,e268,e269,-⟩:=F14
  obtain⟨e270,e271,e272,e273,e274,-⟩:=F15
  rw[←show gAt 0 (AF.map (Rf.eval T))=g1 from z1.symm]
  exact Bk e249 e250 e251 e252 e253 e254 e255 e256 e257 e258 e259 e260 e261 e262 e263 e264 e265 e266 e267 e268 e269 e270 e271 e272 e273 e274
 have cr2_0:gT T 64=Ch g2 (L T 29):=by
  obtain⟨-,-,e64,e65,e66,e67,e68,e69,e70,e71,e72,e73,e74,e75,e76,e77,-⟩:=F2
  obtain⟨e78,e79,e80,e81,e82,e83,e84,e85,e86,e87,e88,e89,-⟩:=F3
  rw[←show gAt 0 (A8.map (Rf.eval T))=g2 from z2.symm]
  exact Bk e64 e65 e66 e67 e68 e69 e70 e71 e72 e73 e74 e75 e76 e77 e78 e79 e80 e81 e82 e83 e84 e85 e86 e87 e88 e89
 have cr3_0:gT T 103=AW g3:=by
  obtain⟨-,-,-,-,-,-,-,-,-,e103,e104,e105,e106,e107,e108,e109,-⟩:=F4
  obtain⟨e110,e111,e112,e113,e114,e115,e116,e117,e118,e119,e120,e121,e122,e123,e124,e125,-⟩:=F5
  obtain⟨e126,e127,e128,-⟩:=F6
  rw[←show gAt 0 (BT.map (Rf.eval T))=g3 from z3.symm]
  exact Bk e103 e104 e105 e106 e107 e108 e109 e110 e111 e112 e113 e114 e115 e116 e117 e118 e119 e120 e121 e122 e123 e124 e125 e126 e127 e128
 refine⟨?_,?_,?_,?_,?_,?_,?_,?_,?_,?_,?_,?_,?_⟩
 ·rcases Bool.eq_false_or_eq_true (B T 30) with k30|k30
  ·
   refine (BC (Ap (K:=[(30,.b,.c (.bool true))]) (outs:=LK) (os:=[.e 31,.e 32,.e 33,.e 34,.e 35,.e 36,.e 37,.e 38,.e 39,.e 40,.e 41,.e 42,.e 43,.e 44,.e 45,.e 46,.e 47,.e 48,.e 49,.e 58,.e 60,.e 52,.e 53,.e 54,.e 55,.e 56]) ⟨k30,trivial⟩ hFa (by kernel_rfl))).trans ?_
   show Gm.mk (I T 31) (I T 32) (I T 33) (I T 34) (I T 35) (I T 36) (I T 37) (I T 38) (I T 39) (B T 40) (B T 41) (B T 42) (B T 43) (B T 44) (B T 45) (B T 46) (B T 47) (I T 48) (I T 49) (B T 58) (B T 60) (B T 52) (I T 53) (I T 54) (I T 55) (I T 56)=_
   rw[show Bv g (I T 26) (I T 27) (L T 29)=Iw (AH g (I T 27)) from by unfold Bv;rw[if_pos (h30.1 k30)]]
   rw[hg1] at cr1_0
   rw[←cr1_0]
   simp only[Iw,Gm.mk.injEq,true_and,and_true]
   exact⟨AU (by simp only[Bool.and_eq_true,Bool.not_eq_true',decide_eq_false_iff_not];grind),AU (by simp only[Bool.and_eq_true,Bool.not_eq_true',decide_eq_false_iff_not];grind)⟩
  ·
   rcases Bool.eq_false_or_eq_true (B T 62) with k62|k62
   ·
    refine (BC (Ap (K:=[(30,.b,.c (.bool false)),(62,.b,.c (.bool true))]) (outs:=LK) (os:=[.e 64,.e 65,.e 66,.e 67,.e 68,.e 69,.e 70,.e 71,.e 72,.e 73,.e 74,.e 75,.e 76,.e 77,.e 78,.e 79,.e 80,.e 81,.e 82,.e 83,.e 84,.e 85,.e 86,.e 87,.e 88,.e 89]) ⟨k30,k62,trivial⟩ hFa (by kernel_rfl))).trans ?_
    show gT T 64=_
    rw[show Bv g (I T 26) (I T 27) (L T 29)=Ch g (L T 29) from by unfold Bv;rw[if_neg (fun h=>by rw[h30.2 h] at k30;cases k30),if_pos (h62.1 k62)],cr2_0,hg2]
   ·
    rcases Bool.eq_false_or_eq_true (B T 91) with k91|k91
    ·
     refine (BC (Ap (K:=[(30,.b,.c (.bool false)),(62,.b,.c (.bool false)),(91,.b,.c (.bool true))]) (outs:=LK) (os:=[.e 103,.e 104,.e 105,.e 106,.e 107,.e 108,.e 109,.e 110,.e 111,.e 112,.e 113,.e 114,.e 115,.e 116,.e 117,.e 118,.e 119,.e 120,.e 121,.e 122,.e 123,.e 124,.e 125,.e 126,.e 127,.e 128]) ⟨k30,k62,k91,trivial⟩ hFa (by kernel_rfl))).trans ?_
     show gT T 103=_
     rw[show Bv g (I T 26) (I T 27) (L T 29)=AW (G1 g) from by unfold Bv;rw[if_neg (fun h=>by rw[h30.2 h] at k30;cases k30),if_neg (fun h=>by rw[h62.2 h] at k62;cases k62),if_pos (h91.1 k91)],cr3_0]
     congr 1
     rw[z3,hg,h102 k30 k62 k91]
     rfl
    ·
     rcases Bool.eq_false_or_eq_true (B T 130) with k130|k130
     ·
      refine (BC (Ap (K:=[(30,.b,.c (.bool false)),(62,.b,.c (.bool false)),(91,.b,.c (.bool false)),(130,.b,.c (.bool true))]) (outs:=LK) (os:=[.e 132,.e 133,.e 134,.e 135,.e 136,.e 137,.e 138,.e 139,.e 140,.e 141,.e 142,.e 143,.e 144,.e 145,.e 146,.e 147,.e 148,.e 161,.e 163,.e 151,.e 152,.e 153,.e 154,.e 155,.e 156,.e 157]) ⟨k30,k62,k91,k130,trivial⟩ hFa (by kernel_rfl))).trans ?_
      show Gm.mk (I T 132) (I T 133) (I T 134) (I T 135) (I T 136) (I T 137) (I T 138) (I T 139) (I T 140) (B T 141) (B T 142) (B T 143) (B T 144) (B T 145) (B T 146) (B T 147) (B T 148) (I T 161) (I T 163) (B T 151) (B T 152) (B T 153) (I T 154) (I T 155) (I T 156) (I T 157)=_
      rw[show Bv g (I T 26) (I T 27) (L T 29)=Gw 2 (AH g (I T 27)) from by unfold Bv;rw[if_neg (fun h=>by rw[h30.2 h] at k30;cases k30),if_neg (fun h=>by rw[h62.2 h] at k62;cases k62),if_neg (fun h=>by rw[h91.2 h] at k91;cases k91),if_pos (h130.1 k130)]]
      rw[hg1] at cr1_1
      rw[←cr1_1]
      simp only[Gw,Gm.mk.injEq,true_and,and_true]
      exact⟨h161 (by omega),h163 (by omega)⟩
     ·
      refine (BC (Ap (K:=[(30,.b,.c (.bool false)),(62,.b,.c (.bool false)),(91,.b,.c (.bool false)),(130,.b,.c (.bool false))]) (outs:=LK) (os:=[.e 249,.e 250,.e 251,.e 252,.e 253,.e 254,.e 255,.e 256,.e 257,.e 258,.e 259,.e 260,.e 261,.e 262,.e 263,.e 264,.e 265,.e 278,.e 280,.e 268,.e 269,.c (.bool true),.e 271,.e 272,.e 273,.e 274]) ⟨k30,k62,k91,k130,trivial⟩ hFa (by kernel_rfl))).trans ?_
      show Gm.mk (I T 249) (I T 250) (I T 251) (I T 252) (I T 253) (I T 254) (I T 255) (I T 256) (I T 257) (B T 258) (B T 259) (B T 260) (B T 261) (B T 262) (B T 263) (B T 264) (B T 265) (I T 278) (I T 280) (B T 268) (B T 269) true (I T 271) (I T 272) (I T 273) (I T 274)=_
      rw[show Bv g (I T 26) (I T 27) (L T 29)={ Gw 1 (AH g (I T 27)) with half:=true } from by unfold Bv;rw[if_neg (fun h=>by rw[h30.2 h] at k30;cases k30),if_neg (fun h=>by rw[h62.2 h] at k62;cases k62),if_neg (fun h=>by rw[h91.2 h] at k91;cases k91),if_neg (fun h=>by rw[h130.2 h] at k130;cases k130)]]
      rw[hg1] at cr1_2
      rw[←cr1_2]
      simp only[Gw,Gm.mk.injEq,true_and,and_true]
      exact⟨h278 (by omega),h280 (by omega)⟩
 ·obtain⟨e30,-⟩:=F0
  obtain⟨-,-,-,-,-,-,-,-,-,-,-,-,-,-,-,e61,-⟩:=F1
  obtain⟨e62,-⟩:=F2
  obtain⟨-,-,-,-,-,-,-,-,-,-,-,-,e90,e91,-⟩:=F3
  obtain⟨-,-,-,e129,e130,-⟩:=F6
  obtain⟨-,-,-,-,-,-,e164,-⟩:=F8
  obtain⟨-,-,-,-,-,-,-,-,-,-,-,-,-,e251,-⟩:=F13
  replace e251:I T 251=((AH g1 (I T 27)).side):=by rw[←show gAt 0 (AF.map (Rf.eval T))=g1 from z1.symm];exact e251
  simp only[AA,AD,zN,zR] at*
  grind (splits:=100)
 ·obtain⟨e30,-⟩:=F0
  obtain⟨-,-,-,-,-,-,-,-,-,-,-,-,-,-,-,e61,-⟩:=F1
  obtain⟨e62,-⟩:=F2
  obtain⟨-,-,-,-,-,-,-,-,-,-,-,-,e90,e91,-⟩:=F3
  obtain⟨-,-,-,e129,e130,-⟩:=F6
  obtain⟨-,-,-,-,-,-,e164,-⟩:=F8
  obtain⟨-,-,-,-,-,-,-,-,-,-,-,-,-,e251,-⟩:=F13
  replace e251:I T 251=((AH g1 (I T 27)).side):=by rw[←show gAt 0 (AF.map (Rf.eval T))=g1 from z1.symm];exact e251
  simp only[AA,AD,zN,zR] at*
  grind (splits:=100)
 ·obtain⟨e30,-⟩:=F0
  obtain⟨-,-,-,-,-,-,-,-,-,-,-,-,-,-,-,e61,-⟩:=F1
  obtain⟨e62,-⟩:=F2
  obtain⟨-,-,-,-,-,-,-,-,-,-,-,-,e90,e91,-⟩:=F3
  obtain⟨-,-,-,e129,e130,-⟩:=F6
  obtain⟨-,-,-,-,-,-,e164,-⟩:=F8
  simp only[AA,AD,zN,zR] at*
  grind (splits:=100)
 ·obtain⟨e30,-⟩:=F0
  obtain⟨-,-,-,-,-,-,-,-,-,-,-,-,-,-,-,e61,-⟩:=F1
  obtain⟨e62,-⟩:=F2
  obtain⟨-,-,-,-,-,-,-,-,-,-,-,-,e90,e91,-⟩:=F3
  obtain⟨-,-,-,e129,e130,e131,-,-,e134,-⟩:=F6
  replace e134:I T 134=((AH g1 (I T 27)).side):=by rw[←show gAt 0 (AF.map (Rf.eval T))=g1 from z1.symm];exact e134
  simp only[AA,AD,zN,zR] at*
  grind (splits:=100)
 ·obtain⟨e30,-⟩:=F0
  obtain⟨-,-,-,-,-,-,-,-,-,-,-,-,-,-,-,e61,-⟩:=F1
  obtain⟨e62,-⟩:=F2
  obtain⟨-,-,-,-,-,-,-,-,-,-,-,-,e90,e91,-⟩:=F3
  obtain⟨-,-,-,e129,e130,e131,-,-,e134,-⟩:=F6
  replace e134:I T 134=((AH g1 (I T 27)).side):=by rw[←show gAt 0 (AF.map (Rf.eval T))=g1 from z1.symm];exact e134
  simp only[AA,AD,zN,zR] at*
  grind (splits:=100)
 ·obtain⟨e30,-⟩:=F0
  obtain⟨-,-,-,-,-,-,-,-,-,-,-,-,-,-,-,e61,-⟩:=F1
  obtain⟨e62,-⟩:=F2
  obtain⟨-,-,-,-,-,-,-,-,-,-,-,-,e90,e91,-⟩:=F3
  obtain⟨-,-,-,e129,e130,e131,-⟩:=F6
  simp only[AA,AD,zN,zR] at*
  grind (splits:=100)
 ·obtain⟨e30,-⟩:=F0
  obtain⟨-,-,-,-,-,-,-,-,-,-,-,-,-,-,-,e61,-⟩:=F1
  obtain⟨e62,-⟩:=F2
  obtain⟨-,-,-,-,-,-,-,-,-,-,-,-,e90,e91,e92,-⟩:=F3
  simp only[AA,AD,zN,zR] at*
  grind (splits:=100)
 ·obtain⟨e30,-⟩:=F0
  obtain⟨-,-,-,-,-,-,-,-,-,-,-,-,-,-,-,e61,-⟩:=F1
  obtain⟨e62,e63,-⟩:=F2
  simp only[AA,AD,zR] at*
  grind (splits:=100)
 ·obtain⟨e30,-⟩:=F0
  obtain⟨-,-,-,-,-,-,-,-,-,-,-,-,-,-,-,e61,-⟩:=F1
  obtain⟨e62,e63,-⟩:=F2
  simp only[AA,AD,zR] at*
  grind (splits:=100)
 ·obtain⟨e30,-⟩:=F0
  obtain⟨-,-,-,-,-,-,-,-,-,-,-,-,-,-,-,e61,-⟩:=F1
  obtain⟨e62,e63,-⟩:=F2
  simp only[AA,AD,zR] at*
  grind (splits:=100)
 ·obtain⟨e30,-,-,e33,-⟩:=F0
  replace e33:I T 33=((AH g1 (I T 27)).side):=by rw[←show gAt 0 (AF.map (Rf.eval T))=g1 from z1.symm];exact e33
  simp only[AA,zR] at e30
  grind (splits:=100)
 ·obtain⟨e30,-⟩:=F0
  simp only[AA,zR] at e30
  grind (splits:=100)
theorem iG:CA Try.prog 39 H7:=by
 refine Bu (l:=[(43,De),(62,JS),(60,Iz),(61,Dx)]) C6 (by simp only[List.forall_mem_cons];exact⟨Jo,bk,fW,dZ,fun _ h=>absurd h (by simp)⟩) jX (by kernel_rfl) fun T us hpre hT hul hS hBd hE=>?_
 change us.length=30 at hul
 obtain⟨-,⟨lo1,hi1⟩,-,-,-,-,-,-,-,-,-,-,-,-,-,-,-,⟨hl29,he29⟩,-⟩:=hBd
 replace lo1: -9223372036854775808≤I T 1:=lo1
 replace hi1:I T 1≤9223372036854775807:=hi1
 replace hl29:(L T 29).length≤140737488355328:=hl29
 obtain⟨g,hg⟩:∃g:Gm,g=gT T 0:=⟨_,rfl⟩
 have hgu:gAt 0 us=g:=by rw[hg];exact DV hT hul (by decide)
 have ha26:aI us 26=I T 26:=inI hT hul (by decide)
 have ha27:aI us 27=I T 27:=inI hT hul (by decide)
 have ha29:aL us 29=L T 29:=inL hT hul (by decide)
 have pre0:AR g=true:=by
  have h:=hpre (.s "rplay.p0",Ff) (by simp[H7])
  change Ff us at h
  unfold Ff at h
  simp only[hgu] at h
  exact h
 have pre1:(I T 26)=2→Ag g=true∧BX g (L T 29)=true:=by
  have h:=hpre (.s "rplay.p1",Fp) (by simp[H7])
  change Fp us at h
  unfold Fp at h
  simp only[hgu,ha26,ha29] at h
  exact h
 have pre2:¬I T 26=2→¬I T 26=3→0≤I T 27∧I T 27≤3:=by
  have h:=hpre (.s "rplay.p2",JX) (by simp[H7])
  change JX us at h
  unfold JX at h
  simp only[ha26,ha27] at h
  exact h
 clear hpre
 skip
 obtain⟨A0,hO⟩:=CK (tys:=[.i,.i,.i,.i,.i,.i,.i,.i,.i,.b,.b,.b,.b,.b,.b,.b,.b,.i,.i,.b,.b,.b,.i,.i,.i,.i]) (rs:=bA) hS (by kernel_rfl) hE
 obtain⟨g1,z1⟩:∃g:Gm,g=gT T 0:=⟨_,rfl⟩
 obtain⟨g2,z2⟩:∃g:Gm,g=gT T 0:=⟨_,rfl⟩
 obtain⟨g3,z3⟩:∃g:Gm,g=Gm.mk (I T 0) (I T 1) (I T 2) (I T 3) (I T 4) (I T 5) (I T 6) (I T 7) (I T 8) (B T 9) (B T 10) (B T 11) (B T 12) (B T 13) (B T 14) (B T 15) (B T 16) (I T 17) (I T 18) (B T 19) (B T 20) (B T 21) (I T 102) (I T 23) (I T 24) (I T 25):=⟨_,rfl⟩
 obtain⟨whole,r0,r1,r2,r3,r4,r5,r6,r7,r8,r9,r10,r11⟩:=ja lo1 hi1 hl29 g hg pre0 pre1 pre2 g1 z1 g2 z2 g3 z3 A0
 have hog:Bj us=Bv g (I T 26) (I T 27) (L T 29):=by unfold Bj;rw[hgu,ha26,ha27,ha29]
 replace whole:=whole.trans hog.symm
 refine⟨⟨r0,r1,r2,r3,r4,r5,r6,(fun hp=>by show D3 _;unfold D3;rw[show gAt 0 (A8.map (Rf.eval T))=g2 from z2.symm];exact r7 hp),(fun hp=>by show EA _;unfold EA;rw[show gAt 0 (A8.map (Rf.eval T))=g2 from z2.symm];exact r8 hp),(fun hp=>by show EB _;unfold EB;rw[show gAt 0 (A8.map (Rf.eval T))=g2 from z2.symm];exact r9 hp),r10,r11,trivial⟩,hO.trans ?_⟩
 exact Ka whole rfl
end Go.Eng
end
