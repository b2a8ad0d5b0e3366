/-
  A part of the proof: K_glegal.
-/
import Derived.Test.YtcinpabggaepfaaE3
import Derived.Test.YtcinpabggaepfaaE4
set_option linter.unusedVariables false
set_option linter.unusedSimpArgs false
noncomputable section
open Go Go.Eng Go.Proofs
set_option maxHeartbeats 4000000
set_option maxRecDepth 100000
namespace Go.Eng
def IY:List U→Bool:=fun us=>(DR (gAt 0 us)&&CI (gAt 0 us)&&((Ag (gAt 0 us)&&Ct (gAt 0 us))||(!Ag (gAt 0 us)&&Cm (gAt 0 us))))
def HE:List U→Prop:=fun us=>0≤(aI us 0)∧(aI us 0)≤3∧(aI us 26)=AX (aI us 0)∧(aI us 27)=Ac (aI us 0)∧(aI us 28)=Ab (aI us 0)∧(aB us 29)=Aw (aI us 0)∧(aB us 30)=Ao (aI us 0)∧(aB us 31)=BI (aI us 0)
def DP:List U→Prop:=fun us=>BU (gAt 0 us)=true
def EX:Bc:={ sh:=[.ptr 0 0],blks:=[([k64,k64,k64,k64,k64,k64,k64,k64,k64,.bool,.bool,.bool,.bool,.bool,.bool,.bool,.bool,k64,k64,.bool,.bool,.bool,k64,k64,k64,k64,k64,k64,k64,.bool,.bool,.bool],73)],outs:=[(.s "glegal.0",AQ IY)],c:= .b 32,m':=[.cells [(AG 0),(AG 1),(AG 2),(AG 3),(AG 4),(AG 5),(AG 6),(AG 7),(AG 8),.b 9,.b 10,.b 11,.b 12,.b 13,.b 14,.b 15,.b 16,(AG 17),(AG 18),.b 19,.b 20,.b 21,(AG 22),(AG 23),(AG 24),(AG 25),(AG 26),(AG 27),(AG 28),.b 29,.b 30,.b 31] 73],pre:=[(.s "glegal.p0",HE),(.s "glegal.p1",DP)] }
def OL:List En:=[⟨32,.o2 .min,[.e 22,.c (.int 4)]⟩,
 ⟨33,.not,[.e 9]⟩,
 ⟨34,.eq,[.e 5,.c (.int 13)]⟩,
 ⟨35,.or,[.e 9,.e 34]⟩,
 ⟨36,.not,[.e 35]⟩,
 ⟨37,.ite .i,[.e 35,.c (.int 1),.c (.int 0)]⟩,
 ⟨38,.not,[.e 11]⟩,
 ⟨39,.eq,[.e 7,.c (.int 13)]⟩,
 ⟨40,.or,[.e 11,.e 39]⟩,
 ⟨41,.o2 .add,[.e 37,.c (.int 1)]⟩,
 ⟨42,.not,[.e 40]⟩,
 ⟨43,.ite .i,[.e 40,.e 41,.e 37]⟩,
 ⟨44,.o2 .add,[.e 32,.c (.int 1)]⟩,
 ⟨45,.o2 .tdiv,[.e 44,.c (.int 2)]⟩,
 ⟨46,.ne,[.e 43,.e 45]⟩,
 ⟨47,.not,[.e 46]⟩]
def Nt:List En:=[⟨48,.o2 .min,[.e 22,.c (.int 4)]⟩,
 ⟨49,.and,[.e 47,.n 10]⟩,
 ⟨50,.eq,[.e 6,.c (.int 13)]⟩,
 ⟨51,.or,[.e 10,.e 50]⟩,
 ⟨52,.and,[.e 47,.e 51]⟩,
 ⟨53,.and,[.e 47,.n 51]⟩,
 ⟨54,.ite .i,[.e 51,.c (.int 1),.c (.int 0)]⟩,
 ⟨55,.and,[.e 47,.n 12]⟩,
 ⟨56,.eq,[.e 8,.c (.int 13)]⟩,
 ⟨57,.or,[.e 12,.e 56]⟩,
 ⟨58,.and,[.e 47,.e 57]⟩,
 ⟨59,.o2 .add,[.e 54,.c (.int 1)]⟩,
 ⟨60,.and,[.e 47,.n 57]⟩,
 ⟨61,.ite .i,[.e 57,.e 59,.e 54]⟩,
 ⟨62,.o2 .add,[.e 48,.c (.int 1)]⟩,
 ⟨63,.o2 .sub,[.e 62,.c (.int 1)]⟩]
def OF:List En:=[⟨64,.o2 .tdiv,[.e 63,.c (.int 2)]⟩,
 ⟨65,.ne,[.e 61,.e 64]⟩,
 ⟨66,.and,[.e 47,.e 65]⟩,
 ⟨67,.and,[.e 47,.n 65]⟩,
 ⟨68,.o2 .min,[.e 22,.c (.int 4)]⟩,
 ⟨69,.and,[.e 67,.n 9]⟩,
 ⟨70,.eq,[.e 5,.c (.int 13)]⟩,
 ⟨71,.or,[.e 9,.e 70]⟩,
 ⟨72,.and,[.e 67,.e 71]⟩,
 ⟨73,.and,[.e 67,.n 71]⟩,
 ⟨74,.ite .i,[.e 71,.c (.int 1),.c (.int 0)]⟩,
 ⟨75,.and,[.e 67,.n 11]⟩,
 ⟨76,.eq,[.e 7,.c (.int 13)]⟩,
 ⟨77,.or,[.e 11,.e 76]⟩,
 ⟨78,.and,[.e 67,.e 77]⟩,
 ⟨79,.o2 .add,[.e 74,.c (.int 1)]⟩]
def OZ:List En:=[⟨80,.and,[.e 67,.n 77]⟩,
 ⟨81,.ite .i,[.e 77,.e 79,.e 74]⟩,
 ⟨82,.o2 .add,[.e 68,.c (.int 1)]⟩,
 ⟨83,.o2 .tdiv,[.e 82,.c (.int 2)]⟩,
 ⟨84,.ne,[.e 81,.e 83]⟩,
 ⟨85,.and,[.e 67,.e 84]⟩,
 ⟨86,.and,[.e 67,.n 84]⟩,
 ⟨87,.o2 .min,[.e 22,.c (.int 4)]⟩,
 ⟨88,.and,[.e 86,.n 10]⟩,
 ⟨89,.eq,[.e 6,.c (.int 13)]⟩,
 ⟨90,.or,[.e 10,.e 89]⟩,
 ⟨91,.and,[.e 86,.e 90]⟩,
 ⟨92,.and,[.e 86,.n 90]⟩,
 ⟨93,.ite .i,[.e 90,.c (.int 1),.c (.int 0)]⟩,
 ⟨94,.and,[.e 86,.n 12]⟩,
 ⟨95,.eq,[.e 8,.c (.int 13)]⟩]
def OR:List En:=[⟨96,.or,[.e 12,.e 95]⟩,
 ⟨97,.and,[.e 86,.e 96]⟩,
 ⟨98,.o2 .add,[.e 93,.c (.int 1)]⟩,
 ⟨99,.and,[.e 86,.n 96]⟩,
 ⟨100,.ite .i,[.e 96,.e 98,.e 93]⟩,
 ⟨101,.o2 .add,[.e 87,.c (.int 1)]⟩,
 ⟨102,.o2 .sub,[.e 101,.c (.int 1)]⟩,
 ⟨103,.o2 .tdiv,[.e 102,.c (.int 2)]⟩,
 ⟨104,.ne,[.e 100,.e 103]⟩,
 ⟨105,.and,[.e 86,.e 104]⟩,
 ⟨106,.and,[.e 86,.n 104]⟩,
 ⟨107,.ite .i,[.e 85,.c (.int 2),.c (.int 3)]⟩,
 ⟨108,.ite .i,[.e 85,.e 81,.e 100]⟩,
 ⟨109,.ite .i,[.e 85,.e 68,.e 87]⟩,
 ⟨110,.ite .b,[.e 85,.e 77,.e 96]⟩,
 ⟨111,.ite .i,[.e 85,.c (.int 4),.c (.int 5)]⟩]
def Nd:List En:=[⟨112,.ite .i,[.e 85,.c (.int 2),.c (.int 3)]⟩,
 ⟨113,.ite .b,[.e 85,.e 84,.e 104]⟩,
 ⟨114,.or,[.e 85,.e 105]⟩,
 ⟨115,.ite .i,[.e 66,.c (.int 1),.e 107]⟩,
 ⟨116,.ite .i,[.e 66,.e 61,.e 108]⟩,
 ⟨117,.ite .i,[.e 66,.e 48,.e 109]⟩,
 ⟨118,.ite .b,[.e 66,.e 57,.e 110]⟩,
 ⟨119,.ite .i,[.e 66,.c (.int 5),.e 111]⟩,
 ⟨120,.ite .i,[.e 66,.c (.int 1),.e 112]⟩,
 ⟨121,.ite .b,[.e 66,.e 65,.e 113]⟩,
 ⟨122,.or,[.e 66,.e 114]⟩,
 ⟨123,.ite .i,[.e 46,.c (.int 0),.e 115]⟩,
 ⟨124,.ite .i,[.e 46,.e 43,.e 116]⟩,
 ⟨125,.ite .i,[.e 46,.e 32,.e 117]⟩,
 ⟨126,.ite .b,[.e 46,.e 40,.e 118]⟩,
 ⟨127,.ite .i,[.e 46,.c (.int 4),.e 119]⟩]
def M6:List En:=[⟨128,.ite .i,[.e 46,.c (.int 0),.e 120]⟩,
 ⟨129,.ite .b,[.e 46,.e 46,.e 121]⟩,
 ⟨130,.or,[.e 46,.e 122]⟩,
 ⟨131,.eq,[.e 5,.c (.int 13)]⟩,
 ⟨132,.and,[.e 106,.e 131]⟩,
 ⟨133,.eq,[.e 7,.c (.int 13)]⟩,
 ⟨134,.and,[.e 131,.e 133]⟩,
 ⟨135,.and,[.e 106,.e 134]⟩,
 ⟨136,.and,[.e 106,.n 134]⟩,
 ⟨137,.eq,[.e 6,.c (.int 13)]⟩,
 ⟨138,.and,[.e 136,.e 137]⟩,
 ⟨139,.eq,[.e 8,.c (.int 13)]⟩,
 ⟨140,.and,[.e 137,.e 139]⟩,
 ⟨141,.and,[.e 136,.e 140]⟩,
 ⟨142,.and,[.e 136,.n 140]⟩,
 ⟨143,.ite .i,[.e 135,.c (.int 0),.c (.int 1)]⟩]
def NK:List En:=[⟨144,.ite .b,[.e 135,.e 134,.e 140]⟩,
 ⟨145,.ite .i,[.e 135,.c (.int 0),.c (.int 1)]⟩,
 ⟨146,.ite .i,[.e 135,.c (.int 0),.c (.int 1)]⟩,
 ⟨147,.or,[.e 135,.e 141]⟩,
 ⟨148,.ite .i,[.e 147,.e 143,.c (.int 1)]⟩,
 ⟨149,.ite .b,[.e 147,.e 144,.e 140]⟩,
 ⟨150,.ite .b,[.e 147,.c (.bool true),.c (.bool false)]⟩,
 ⟨151,.ite .i,[.e 147,.e 145,.c (.int (-1))]⟩,
 ⟨152,.ite .i,[.e 147,.e 146,.c (.int 2)]⟩,
 ⟨153,.or,[.e 147,.e 142]⟩,
 ⟨154,.eq,[.e 151,.c (.int 0)]⟩,
 ⟨155,.and,[.e 106,.e 154]⟩,
 ⟨156,.eq,[.e 6,.c (.int 13)]⟩,
 ⟨157,.and,[.e 154,.e 156]⟩,
 ⟨158,.and,[.e 106,.e 157]⟩,
 ⟨159,.eq,[.e 8,.c (.int 13)]⟩]
def Nk:List En:=[⟨160,.and,[.e 157,.e 159]⟩,
 ⟨161,.and,[.e 106,.n 160]⟩,
 ⟨162,.ne,[.e 151,.e 25]⟩,
 ⟨163,.or,[.e 160,.e 162]⟩,
 ⟨164,.and,[.e 106,.n 163]⟩,
 ⟨165,.le,[.c (.int 0),.e 151]⟩,
 ⟨166,.eq,[.e 1,.c (.int 4)]⟩,
 ⟨167,.neb,[.e 165,.e 166]⟩,
 ⟨168,.or,[.e 163,.e 167]⟩,
 ⟨169,.and,[.e 106,.e 168]⟩,
 ⟨170,.and,[.e 106,.n 168]⟩,
 ⟨171,.and,[.e 170,.e 30]⟩,
 ⟨172,.lt,[.e 22,.c (.int 4)]⟩,
 ⟨173,.or,[.n 30,.e 172]⟩,
 ⟨174,.and,[.e 170,.e 173]⟩,
 ⟨175,.ne,[.e 1,.c (.int 4)]⟩]
def N2:List En:=[⟨176,.and,[.e 173,.e 175]⟩,
 ⟨177,.and,[.e 170,.e 176]⟩,
 ⟨178,.o2 .tmod,[.e 22,.c (.int 2)]⟩,
 ⟨179,.lt,[.c (.int 0),.e 1]⟩,
 ⟨180,.and,[.e 177,.e 179]⟩,
 ⟨181,.lt,[.e 1,.c (.int 4)]⟩,
 ⟨182,.and,[.e 179,.e 181]⟩,
 ⟨183,.and,[.e 177,.e 182]⟩,
 ⟨184,.o2 .sub,[.c (.int 1),.e 178]⟩,
 ⟨185,.and,[.e 177,.n 182]⟩,
 ⟨186,.ite .i,[.e 182,.e 184,.e 178]⟩,
 ⟨187,.ne,[.e 2,.e 186]⟩,
 ⟨188,.and,[.e 177,.e 187]⟩,
 ⟨189,.and,[.e 177,.n 187]⟩,
 ⟨190,.and,[.e 170,.n 176]⟩,
 ⟨191,.or,[.e 189,.e 190]⟩]
def Mx:List En:=[⟨192,.lt,[.c (.int 0),.e 1]⟩,
 ⟨193,.and,[.e 191,.e 192]⟩,
 ⟨194,.lt,[.e 1,.c (.int 4)]⟩,
 ⟨195,.and,[.e 192,.e 194]⟩,
 ⟨196,.and,[.e 191,.e 195]⟩,
 ⟨197,.and,[.e 191,.n 195]⟩,
 ⟨198,.nes [.i,.i,.b,.b,.b,.b,.b,.i],[.c (.int (-1)),.e 3,.c (.int (-1)),.e 4,.c (.bool false),.e 13,.c (.bool false),.e 14,.c (.bool false),.e 15,.c (.bool false),.e 16,.c (.bool false),.e 21,.c (.int 0),.e 23]⟩,
 ⟨199,.and,[.e 197,.e 198]⟩,
 ⟨200,.and,[.e 197,.n 198]⟩,
 ⟨201,.eq,[.e 24,.c (.int (-1))]⟩,
 ⟨202,.and,[.e 200,.e 201]⟩,
 ⟨203,.and,[.e 200,.n 201]⟩,
 ⟨204,.eq,[.e 1,.c (.int 0)]⟩,
 ⟨205,.and,[.e 203,.e 204]⟩,
 ⟨206,.and,[.e 204,.e 30]⟩,
 ⟨207,.and,[.e 203,.e 206]⟩]
def Mn:List En:=[⟨208,.le,[.c (.int 4),.e 22]⟩,
 ⟨209,.and,[.e 206,.e 208]⟩,
 ⟨210,.and,[.e 203,.e 209]⟩,
 ⟨211,.and,[.e 203,.e 209]⟩,
 ⟨212,.le,[.c (.int 0),.e 24]⟩,
 ⟨213,.and,[.e 211,.e 212]⟩,
 ⟨214,.lt,[.e 24,.c (.int 4)]⟩,
 ⟨215,.and,[.e 212,.e 214]⟩,
 ⟨216,.and,[.e 211,.e 215]⟩,
 ⟨217,.pick .b,[.e 24,.e 9,.e 10,.e 11,.e 12]⟩,
 ⟨218,.and,[.e 215,.e 217]⟩,
 ⟨219,.and,[.e 209,.e 218]⟩,
 ⟨220,.and,[.e 203,.e 219]⟩,
 ⟨221,.o2 .tmod,[.e 24,.c (.int 2)]⟩,
 ⟨222,.and,[.e 203,.e 219]⟩,
 ⟨223,.w2 .i64 .sub,[.c (.int 1),.e 2]⟩]
def Ms:List En:=[⟨224,.eq,[.e 221,.e 223]⟩,
 ⟨225,.and,[.e 219,.e 224]⟩,
 ⟨226,.ite .b,[.e 202,.c (.bool true),.e 225]⟩,
 ⟨227,.or,[.e 202,.e 203]⟩,
 ⟨228,.ite .b,[.e 199,.c (.bool false),.e 226]⟩,
 ⟨229,.or,[.e 199,.e 227]⟩,
 ⟨230,.le,[.c (.int 0),.e 3]⟩,
 ⟨231,.and,[.e 196,.e 230]⟩,
 ⟨232,.lt,[.e 3,.c (.int 4)]⟩,
 ⟨233,.and,[.e 230,.e 232]⟩,
 ⟨234,.and,[.e 196,.e 233]⟩,
 ⟨235,.pick .b,[.e 3,.e 9,.e 10,.e 11,.e 12]⟩,
 ⟨236,.and,[.e 233,.e 235]⟩,
 ⟨237,.and,[.e 196,.e 236]⟩,
 ⟨238,.o2 .tmod,[.e 3,.c (.int 2)]⟩,
 ⟨239,.and,[.e 196,.e 236]⟩]
def Mz:List En:=[⟨240,.ne,[.e 238,.e 2]⟩,
 ⟨241,.or,[.n 236,.e 240]⟩,
 ⟨242,.and,[.e 196,.n 241]⟩,
 ⟨243,.and,[.e 196,.n 241]⟩,
 ⟨244,.pick .b,[.e 3,.e 13,.e 14,.e 15,.e 16]⟩,
 ⟨245,.or,[.e 241,.e 244]⟩,
 ⟨246,.and,[.e 196,.n 245]⟩,
 ⟨247,.lt,[.e 23,.c (.int 0)]⟩,
 ⟨248,.or,[.e 245,.e 247]⟩,
 ⟨249,.and,[.e 196,.n 248]⟩,
 ⟨250,.and,[.e 196,.n 248]⟩,
 ⟨251,.and,[.e 196,.n 248]⟩,
 ⟨252,.pick .i,[.e 3,.e 5,.e 6,.e 7,.e 8]⟩,
 ⟨253,.lt,[.e 252,.e 23]⟩,
 ⟨254,.or,[.e 248,.e 253]⟩,
 ⟨255,.and,[.e 196,.n 254]⟩]
def Mq:List En:=[⟨256,.ne,[.e 24,.c (.int (-1))]⟩,
 ⟨257,.or,[.e 254,.e 256]⟩,
 ⟨258,.and,[.e 196,.n 257]⟩,
 ⟨259,.and,[.e 258,.e 21]⟩,
 ⟨260,.and,[.e 21,.n 30]⟩,
 ⟨261,.or,[.e 257,.e 260]⟩,
 ⟨262,.and,[.e 196,.e 261]⟩,
 ⟨263,.and,[.e 196,.n 261]⟩,
 ⟨264,.ne,[.e 1,.c (.int 2)]⟩,
 ⟨265,.and,[.e 263,.e 264]⟩,
 ⟨266,.eq,[.e 4,.c (.int (-1))]⟩,
 ⟨267,.and,[.e 263,.n 264]⟩,
 ⟨268,.le,[.c (.int 0),.e 4]⟩,
 ⟨269,.and,[.e 267,.e 268]⟩,
 ⟨270,.lt,[.e 4,.c (.int 4)]⟩,
 ⟨271,.and,[.e 268,.e 270]⟩]
def M3:List En:=[⟨272,.and,[.e 267,.e 271]⟩,
 ⟨273,.pick .b,[.e 4,.e 9,.e 10,.e 11,.e 12]⟩,
 ⟨274,.and,[.e 271,.e 273]⟩,
 ⟨275,.and,[.e 267,.e 274]⟩,
 ⟨276,.and,[.e 267,.e 274]⟩,
 ⟨277,.ne,[.e 4,.e 3]⟩,
 ⟨278,.and,[.e 274,.e 277]⟩,
 ⟨279,.and,[.e 267,.e 278]⟩,
 ⟨280,.and,[.e 267,.e 278]⟩,
 ⟨281,.pick .b,[.e 4,.e 13,.e 14,.e 15,.e 16]⟩,
 ⟨282,.and,[.e 278,.n 281]⟩,
 ⟨283,.ite .b,[.e 265,.e 266,.e 282]⟩,
 ⟨284,.or,[.e 265,.e 267]⟩,
 ⟨285,.ite .b,[.e 262,.c (.bool false),.e 283]⟩,
 ⟨286,.or,[.e 262,.e 284]⟩,
 ⟨287,.ite .b,[.e 197,.e 228,.e 285]⟩]
def Mu:List En:=[⟨288,.or,[.e 197,.e 286]⟩,
 ⟨289,.ite .b,[.e 188,.c (.bool false),.e 287]⟩,
 ⟨290,.or,[.e 188,.e 288]⟩,
 ⟨291,.ite .b,[.e 169,.c (.bool false),.e 289]⟩,
 ⟨292,.or,[.e 169,.e 290]⟩,
 ⟨293,.ite .i,[.e 130,.e 123,.c (.int 3)]⟩,
 ⟨294,.ite .b,[.e 130,.c (.bool true),.c (.bool false)]⟩,
 ⟨295,.ite .i,[.e 130,.e 124,.e 100]⟩,
 ⟨296,.ite .b,[.e 130,.c (.bool false),.e 291]⟩,
 ⟨297,.ite .i,[.e 130,.e 125,.e 87]⟩,
 ⟨298,.ite .b,[.e 130,.e 126,.e 96]⟩,
 ⟨299,.ite .i,[.e 130,.e 127,.c (.int 5)]⟩,
 ⟨300,.ite .i,[.e 130,.e 128,.c (.int 4)]⟩,
 ⟨301,.ite .b,[.e 130,.e 129,.e 104]⟩,
 ⟨302,.or,[.e 130,.e 292]⟩]
def cD:List En:=OL++(Nt++(OF++(OZ++(OR++(Nd++(M6++(NK++(Nk++(N2++(Mx++(Mn++(Ms++(Mz++(Mq++(M3++(Mu))))))))))))))))
def gu:List ObE:=[⟨some 280,.inr,[.e 4,.c (.int 4)]⟩,
 ⟨some 272,.inr,[.e 4,.c (.int 4)]⟩,
 ⟨some 251,.inr,[.e 3,.c (.int 4)]⟩,
 ⟨some 243,.inr,[.e 3,.c (.int 4)]⟩,
 ⟨some 234,.inr,[.e 3,.c (.int 4)]⟩,
 ⟨some 216,.inr,[.e 24,.c (.int 4)]⟩]
def XU:List Rf:=[.e 296]
theorem iP:EX.sees XU (EX.run Try.prog [] Ba 3000 20 46)=some ((cD).map En.be,gu.map ObE.be,[]):=by kernel_rfl
theorem TJ:CA Try.prog 46 EX:=by
 refine Bu (l:=[]) C6 (by intro p h;exact absurd h (by simp)) iP (by kernel_rfl) fun T us hpre hT hul hS hBd hE=>?_
 change us.length=32 at hul
 obtain⟨⟨lo0,hi0⟩,⟨lo1,hi1⟩,⟨lo2,hi2⟩,⟨lo3,hi3⟩,⟨lo4,hi4⟩,⟨lo5,hi5⟩,⟨lo6,hi6⟩,⟨lo7,hi7⟩,⟨lo8,hi8⟩,⟨lo17,hi17⟩,⟨lo18,hi18⟩,⟨lo22,hi22⟩,⟨lo23,hi23⟩,⟨lo24,hi24⟩,⟨lo25,hi25⟩,⟨lo26,hi26⟩,⟨lo27,hi27⟩,⟨lo28,hi28⟩,-⟩:=hBd
 clear lo0 hi0
 clear lo1 hi1
 clear lo2 hi2
 clear lo3 hi3
 clear lo4 hi4
 clear lo5 hi5
 clear lo6 hi6
 clear lo7 hi7
 clear lo8 hi8
 clear lo17 hi17
 clear lo18 hi18
 clear lo22 hi22
 clear lo23 hi23
 clear lo24 hi24
 clear lo25 hi25
 clear lo26 hi26
 clear lo27 hi27
 clear lo28 hi28
 obtain⟨g,hg⟩:∃g:Gm,g=Gm.mk (I T 0) (I T 1) (I T 2) (I T 3) (I T 4) (I T 5) (I T 6) (I T 7) (I T 8) (B T 9) (B T 10) (B T 11) (B T 12) (B T 13) (B T 14) (B T 15) (B T 16) (I T 17) (I T 18) (B T 19) (B T 20) (B T 21) (I T 22) (I T 23) (I T 24) (I T 25):=⟨_,rfl⟩
 have hgu:gAt 0 us=g:=by rw[hg];exact R8 (inI hT hul (by decide)) (inI hT hul (by decide)) (inI hT hul (by decide)) (inI hT hul (by decide)) (inI hT hul (by decide)) (inI hT hul (by decide)) (inI hT hul (by decide)) (inI hT hul (by decide)) (inI hT hul (by decide)) (inB hT hul (by decide)) (inB hT hul (by decide)) (inB hT hul (by decide)) (inB hT hul (by decide)) (inB hT hul (by decide)) (inB hT hul (by decide)) (inB hT hul (by decide)) (inB hT hul (by decide)) (inI hT hul (by decide)) (inI hT hul (by decide)) (inB hT hul (by decide)) (inB hT hul (by decide)) (inB hT hul (by decide)) (inI hT hul (by decide)) (inI hT hul (by decide)) (inI hT hul (by decide)) (inI hT hul (by decide))
 have ha0:aI us 0=I T 0:=inI hT hul (by decide)
 have ha26:aI us 26=I T 26:=inI hT hul (by decide)
 have ha27:aI us 27=I T 27:=inI hT hul (by decide)
 have ha28:aI us 28=I T 28:=inI hT hul (by decide)
 have ha29:aB us 29=B T 29:=inB hT hul (by decide)
 have ha30:aB us 30=B T 30:=inB hT hul (by decide)
 have ha31:aB us 31=B T 31:=inB hT hul (by decide)
 have pre0:0≤(I T 0)∧(I T 0)≤3∧(I T 26)=AX (I T 0)∧(I T 27)=Ac (I T 0)∧(I T 28)=Ab (I T 0)∧(B T 29)=Aw (I T 0)∧(B T 30)=Ao (I T 0)∧(B T 31)=BI (I T 0):=by
  have h:=hpre (.s "glegal.p0",HE) (by simp[EX])
  change HE us at h
  unfold HE at h
  simp only[ha0,ha26,ha27,ha28,ha29,ha30,ha31] at h
  exact h
 have pre1:BU g=true:=by
  have h:=hpre (.s "glegal.p1",DP) (by simp[EX])
  change DP us at h
  unfold DP at h
  simp only[hgu] at h
  exact h
 clear hpre
 skip
 obtain⟨hF,hO⟩:=CK (tys:=[.b]) (rs:=XU) hS (by kernel_rfl) hE
 clear hE hS
 have F0:AK T OL:=hF.left
 replace hF:=hF.right
 have F1:AK T Nt:=hF.left
 replace hF:=hF.right
 have F2:AK T OF:=hF.left
 replace hF:=hF.right
 have F3:AK T OZ:=hF.left
 replace hF:=hF.right
 have F4:AK T OR:=hF.left
 replace hF:=hF.right
 have F5:AK T Nd:=hF.left
 replace hF:=hF.right
 have F6:AK T M6:=hF.left
 replace hF:=hF.right
 have F7:AK T NK:=hF.left
 replace hF:=hF.right
 have F8:AK T Nk:=hF.left
 replace hF:=hF.right
 have F9:AK T N2:=hF.left
 replace hF:=hF.right
 have F10:AK T Mx:=hF.left
 replace hF:=hF.right
 have F11:AK T Mn:=hF.left
 replace hF:=hF.right
 have F12:AK T Ms:=hF.left
 replace hF:=hF.right
 have F13:AK T Mz:=hF.left
 replace hF:=hF.right
 have F14:AK T Mq:=hF.left
 replace hF:=hF.right
 have F15:AK T M3:=hF.left
 replace hF:=hF.right
 have F16:AK T Mu:=hF
 clear hF
 obtain⟨z0,z1,z2,z3,z4,z5,z6,z7⟩:=pre0
 have y:=DB pre1
 rw[hg] at y
 obtain⟨_,_,y1,y2,y3,y4,y5,y6⟩:=y
 simp only at y1 y2 y3 y4 y5 y6
 clear pre1
 have hwa:C5 g=true↔((I T 5)=13∧(I T 7)=13):=by subst hg;simp[C5]
 have hwb:Cz g=true↔((I T 6)=13∧(I T 8)=13):=by subst hg;simp[Cz]
 have c46:(B T 46)=true↔¬(Cj (B T 9) (B T 11) (I T 5) (I T 7)=(CQ (I T 22)+1) / 2):=by
  obtain⟨e32,-,e34,e35,-,e37,-,e39,e40,e41,-,e43,e44,e45,e46,-⟩:=F0
  simp only[AA,AD,BD,Ax,Af,Bt,Bn] at e32 e34 e35 e37 e39 e40 e41 e43 e44 e45 e46
  clear F1 F2 F3 F4 F5 F6 F7 F8 F9 F10 F11 F12 F13 F14 F15 F16
  subst hg
  (try simp only[Cj,CQ,bit,Bool.and_eq_true,Bool.or_eq_true,Bool.not_eq_true,Bool.not_eq_true',Bool.not_eq_eq_eq_not,Bool.not_true,Bool.not_false,decide_eq_true_eq,decide_eq_false_iff_not])<;>grind (splits:=100)
 have c65:(B T 65)=true↔¬(Cj (B T 10) (B T 12) (I T 6) (I T 8)=CQ (I T 22) / 2):=by
  clear c46
  obtain⟨e48,-,e50,e51,-,-,e54,-,e56,e57,-,e59,-,e61,e62,e63,-⟩:=F1
  obtain⟨e64,e65,-⟩:=F2
  simp only[AA,AD,BD,Ax,Af,Bt,Bn] at e48 e50 e51 e54 e56 e57 e59 e61 e62 e63 e64 e65
  clear F0 F3 F4 F5 F6 F7 F8 F9 F10 F11 F12 F13 F14 F15 F16
  subst hg
  (try simp only[Cj,CQ,bit,Bool.and_eq_true,Bool.or_eq_true,Bool.not_eq_true,Bool.not_eq_true',Bool.not_eq_eq_eq_not,Bool.not_true,Bool.not_false,decide_eq_true_eq,decide_eq_false_iff_not])<;>grind (splits:=100)
 have c84:(B T 84)=true↔¬(Cj (B T 9) (B T 11) (I T 5) (I T 7)=(CQ (I T 22)+1) / 2):=by
  clear c46 c65
  obtain⟨-,-,-,-,e68,-,e70,e71,-,-,e74,-,e76,e77,-,e79,-⟩:=F2
  obtain⟨-,e81,e82,e83,e84,-⟩:=F3
  simp only[AA,AD,BD,Ax,Af,Bt,Bn] at e68 e70 e71 e74 e76 e77 e79 e81 e82 e83 e84
  clear F0 F1 F4 F5 F6 F7 F8 F9 F10 F11 F12 F13 F14 F15 F16
  subst hg
  (try simp only[Cj,CQ,bit,Bool.and_eq_true,Bool.or_eq_true,Bool.not_eq_true,Bool.not_eq_true',Bool.not_eq_eq_eq_not,Bool.not_true,Bool.not_false,decide_eq_true_eq,decide_eq_false_iff_not])<;>grind (splits:=100)
 have c104:(B T 104)=true↔¬(Cj (B T 10) (B T 12) (I T 6) (I T 8)=CQ (I T 22) / 2):=by
  clear c46 c65 c84
  obtain⟨-,-,-,-,-,-,-,e87,-,e89,e90,-,-,e93,-,e95,-⟩:=F3
  obtain⟨e96,-,e98,-,e100,e101,e102,e103,e104,-⟩:=F4
  simp only[AA,AD,BD,Ax,Af,Bt,Bn] at e87 e89 e90 e93 e95 e96 e98 e100 e101 e102 e103 e104
  clear F0 F1 F2 F5 F6 F7 F8 F9 F10 F11 F12 F13 F14 F15 F16
  subst hg
  (try simp only[Cj,CQ,bit,Bool.and_eq_true,Bool.or_eq_true,Bool.not_eq_true,Bool.not_eq_true',Bool.not_eq_eq_eq_not,Bool.not_true,Bool.not_false,decide_eq_true_eq,decide_eq_false_iff_not])<;>grind (splits:=100)
 have c106:(B T 106)=true↔((Cj (B T 9) (B T 11) (I T 5) (I T 7)=(CQ (I T 22)+1) / 2)∧(Cj (B T 10) (B T 12) (I T 6) (I T 8)=CQ (I T 22) / 2)):=by
  obtain⟨-,-,-,-,-,-,-,-,-,-,-,-,-,-,-,e47,-⟩:=F0
  obtain⟨-,-,-,e67,-⟩:=F2
  obtain⟨-,-,-,-,-,-,e86,-⟩:=F3
  obtain⟨-,-,-,-,-,-,-,-,-,-,e106,-⟩:=F4
  simp only[AA,AD,CW,Bool.not_eq_true',Bool.not_eq_true,BD,Ax] at e47 e67 e86 e106
  clear F1 F5 F6 F7 F8 F9 F10 F11 F12 F13 F14 F15 F16
  grind (splits:=100)
 have c130:(B T 130)=true↔¬((Cj (B T 9) (B T 11) (I T 5) (I T 7)=(CQ (I T 22)+1) / 2)∧(Cj (B T 10) (B T 12) (I T 6) (I T 8)=CQ (I T 22) / 2)):=by
  clear c106
  obtain⟨-,-,-,-,-,-,-,-,-,-,-,-,-,-,-,e47,-⟩:=F0
  obtain⟨-,-,e66,e67,-⟩:=F2
  obtain⟨-,-,-,-,-,e85,e86,-⟩:=F3
  obtain⟨-,-,-,-,-,-,-,-,-,e105,-⟩:=F4
  obtain⟨-,-,e114,-,-,-,-,-,-,-,e122,-⟩:=F5
  obtain⟨-,-,e130,-⟩:=F6
  simp only[AA,AD,CW,Bool.not_eq_true',Bool.not_eq_true,BD,Ax] at e47 e66 e67 e85 e86 e105 e114 e122 e130
  clear F1 F7 F8 F9 F10 F11 F12 F13 F14 F15 F16
  grind (splits:=100)
 have c134:(B T 134)=true↔C5 g=true:=by
  clear c46 c65 c84 c104 c106 c130
  obtain⟨-,-,-,e131,-,e133,e134,-⟩:=F6
  simp only[AA,AD,BD,Ax] at e131 e133 e134
  clear F0 F1 F2 F3 F4 F5 F7 F8 F9 F10 F11 F12 F13 F14 F15 F16
  grind (splits:=100)
 have c140:(B T 140)=true↔Cz g=true:=by
  clear c46 c65 c84 c104 c106 c130 c134
  obtain⟨-,-,-,-,-,-,-,-,-,e137,-,e139,e140,-⟩:=F6
  simp only[AA,AD,BD,Ax] at e137 e139 e140
  clear F0 F1 F2 F3 F4 F5 F7 F8 F9 F10 F11 F12 F13 F14 F15 F16
  grind (splits:=100)
 have c151:(B T 106)=true→(I T 151)=if C5 g=true then 0 else if Cz g=true then 1 else -1:=by
  clear c46 c65 c84 c104 c106 c130
  obtain⟨-,-,-,-,-,-,-,e135,e136,-,-,-,-,e141,-⟩:=F6
  obtain⟨-,e145,-,e147,-,-,-,e151,-⟩:=F7
  simp only[AA,AD,CW,Bool.not_eq_true',Bool.not_eq_true,BD,Ax,Bt,Bn] at e135 e136 e141 e145 e147 e151
  clear F0 F1 F2 F3 F4 F5 F8 F9 F10 F11 F12 F13 F14 F15 F16
  grind (splits:=100)
 have c160:(B T 160)=true↔((I T 151)=0∧Cz g=true):=by
  clear c46 c65 c84 c104 c106 c130 c134 c140 c151
  obtain⟨-,-,-,-,-,-,-,-,-,-,e154,-,e156,e157,-,e159,-⟩:=F7
  obtain⟨e160,-⟩:=F8
  simp only[AA,AD,BD,Ax] at e154 e156 e157 e159 e160
  clear F0 F1 F2 F3 F4 F5 F6 F9 F10 F11 F12 F13 F14 F15 F16
  grind (splits:=100)
 have c169:(B T 169)=true↔((B T 106)=true∧¬(((C5 g=true∧(I T 1)=4∧(I T 25)=0)∨(Cz g=true∧(I T 1)=4∧(I T 25)=1)∨(¬C5 g=true∧¬Cz g=true∧¬(I T 1)=4∧(I T 25)= -1))∧¬(C5 g=true∧Cz g=true))):=by
  clear c46 c65 c84 c104 c106 c130 c134 c140
  obtain⟨-,-,e162,e163,-,e165,e166,e167,e168,e169,-⟩:=F8
  simp only[AA,AD,BD,Ax] at e162 e163 e165 e166 e167 e168 e169
  clear F0 F1 F2 F3 F4 F5 F6 F7 F9 F10 F11 F12 F13 F14 F15 F16
  grind (splits:=100)
 have c170:(B T 170)=true↔((B T 106)=true∧((C5 g=true∧(I T 1)=4∧(I T 25)=0)∨(Cz g=true∧(I T 1)=4∧(I T 25)=1)∨(¬C5 g=true∧¬Cz g=true∧¬(I T 1)=4∧(I T 25)= -1))∧¬(C5 g=true∧Cz g=true)):=by
  clear c46 c65 c84 c104 c106 c130 c134 c140 c169
  obtain⟨-,-,e162,e163,-,e165,e166,e167,e168,-,e170,-⟩:=F8
  simp only[AA,AD,CW,Bool.not_eq_true',Bool.not_eq_true,BD,Ax] at e162 e163 e165 e166 e167 e168 e170
  clear F0 F1 F2 F3 F4 F5 F6 F7 F9 F10 F11 F12 F13 F14 F15 F16
  grind (splits:=100)
 have c182:(B T 182)=true↔Ag g=true:=by
  clear c46 c65 c84 c104 c106 c130 c134 c140 c151 c160 c169 c170
  obtain⟨-,-,-,e179,-,e181,e182,-⟩:=F9
  simp only[AA,AD,BD,Ax] at e179 e181 e182
  clear F0 F1 F2 F3 F4 F5 F6 F7 F8 F10 F11 F12 F13 F14 F15 F16
  subst hg
  (try simp only[Ag,Bool.and_eq_true,Bool.or_eq_true,Bool.not_eq_true,Bool.not_eq_true',Bool.not_eq_eq_eq_not,Bool.not_true,Bool.not_false,decide_eq_true_eq,decide_eq_false_iff_not])<;>grind (splits:=100)
 have c195:(B T 195)=true↔Ag g=true:=by
  clear c46 c65 c84 c104 c106 c130 c134 c140 c151 c160 c169 c170 c182
  obtain⟨e192,-,e194,e195,-⟩:=F10
  simp only[AA,AD,BD,Ax] at e192 e194 e195
  clear F0 F1 F2 F3 F4 F5 F6 F7 F8 F9 F11 F12 F13 F14 F15 F16
  subst hg
  (try simp only[Ag,Bool.and_eq_true,Bool.or_eq_true,Bool.not_eq_true,Bool.not_eq_true',Bool.not_eq_eq_eq_not,Bool.not_true,Bool.not_false,decide_eq_true_eq,decide_eq_false_iff_not])<;>grind (splits:=100)
 have c188:(B T 188)=true↔((B T 170)=true∧¬CI g=true):=by
  clear c46 c65 c84 c104 c106 c130 c134 c140 c151 c160 c169 c170 c195
  obtain⟨-,-,-,-,-,-,-,-,-,-,-,-,e172,e173,-,e175,-⟩:=F8
  obtain⟨e176,e177,e178,-,-,-,-,-,e184,-,e186,e187,e188,-⟩:=F9
  simp only[AA,AD,CW,Bool.not_eq_true',Bool.not_eq_true,BD,Ax,Af,Bt,Bn] at e172 e173 e175 e176 e177 e178 e184 e186 e187 e188
  clear F0 F1 F2 F3 F4 F5 F6 F7 F10 F11 F12 F13 F14 F15 F16
  subst hg
  (try simp only[CI,Ag,Bool.and_eq_true,Bool.or_eq_true,Bool.not_eq_true,Bool.not_eq_true',Bool.not_eq_eq_eq_not,Bool.not_true,Bool.not_false,decide_eq_true_eq,decide_eq_false_iff_not])<;>grind (splits:=100) [Ag]
 have c191:(B T 191)=true↔((B T 170)=true∧CI g=true):=by
  clear c46 c65 c84 c104 c106 c130 c134 c140 c151 c160 c169 c170 c188 c195
  obtain⟨-,-,-,-,-,-,-,-,-,-,-,-,e172,e173,-,e175,-⟩:=F8
  obtain⟨e176,e177,e178,-,-,-,-,-,e184,-,e186,e187,-,e189,e190,e191,-⟩:=F9
  simp only[AA,AD,CW,Bool.not_eq_true',Bool.not_eq_true,BD,Ax,Af,Bt,Bn] at e172 e173 e175 e176 e177 e178 e184 e186 e187 e189 e190 e191
  clear F0 F1 F2 F3 F4 F5 F6 F7 F10 F11 F12 F13 F14 F15 F16
  subst hg
  (try simp only[CI,Ag,Bool.and_eq_true,Bool.or_eq_true,Bool.not_eq_true,Bool.not_eq_true',Bool.not_eq_eq_eq_not,Bool.not_true,Bool.not_false,decide_eq_true_eq,decide_eq_false_iff_not])<;>grind (splits:=100) [Ag]
 have c228:(B T 197)=true→((B T 228)=true↔Cm g=true):=by
  clear c46 c65 c84 c104 c106 c130 c134 c140 c151 c160 c169 c170 c182 c188 c191 c195
  obtain⟨-,-,-,-,-,-,e198,e199,e200,e201,e202,-,e204,-,e206,-⟩:=F10
  obtain⟨e208,e209,-,-,e212,-,e214,e215,-,e217,e218,e219,-,e221,-,e223,-⟩:=F11
  obtain⟨e224,e225,e226,-,e228,-⟩:=F12
  simp only[AA,AD,CW,Bool.not_eq_true',Bool.not_eq_true,BG,Bool.false_eq_true,eq_self,and_true,and_false,or_false,false_or,true_and,false_and,BD,Ax,AN,AM,BL,Af,w2P,Bt,Bn] at e198 e199 e200 e201 e202 e204 e206 e208 e209 e212 e214 e215 e217 e218 e219 e221 e223 e224 e225 e226 e228
  clear F0 F1 F2 F3 F4 F5 F6 F7 F8 F9 F13 F14 F15 F16
  subst hg
  (try simp only[Cm,inS,AY,Bool.and_eq_true,Bool.or_eq_true,Bool.not_eq_true,Bool.not_eq_true',Bool.not_eq_eq_eq_not,Bool.not_true,Bool.not_false,decide_eq_true_eq,decide_eq_false_iff_not])<;>grind (splits:=100)
 have c262:(B T 262)=true↔((B T 196)=true∧¬(inS g (I T 3)=true∧(I T 3) % 2=(I T 2)∧¬Dk g (I T 3)=true∧0≤(I T 23)∧(I T 23)≤AJ g (I T 3)∧(I T 24)= -1∧((B T 21)=true→Ao (I T 0)=true))):=by
  clear c46 c65 c84 c104 c106 c130 c134 c140 c151 c160 c169 c170 c182 c188 c191 c195 c228
  obtain⟨-,-,-,-,-,-,e230,-,e232,e233,-,e235,e236,-,e238,-⟩:=F12
  obtain⟨e240,e241,-,-,e244,e245,-,e247,e248,-,-,-,e252,e253,e254,-⟩:=F13
  obtain⟨e256,e257,-,-,e260,e261,e262,-⟩:=F14
  simp only[AA,AD,CW,Bool.not_eq_true',Bool.not_eq_true,BD,Ax,AN,AM,and_false,or_false,Af] at e230 e232 e233 e235 e236 e238 e240 e241 e244 e245 e247 e248 e252 e253 e254 e256 e257 e260 e261 e262
  clear F0 F1 F2 F3 F4 F5 F6 F7 F8 F9 F10 F11 F15 F16
  subst hg
  (try simp only[inS,Dk,AJ,AY,AS,Bool.and_eq_true,Bool.or_eq_true,Bool.not_eq_true,Bool.not_eq_true',Bool.not_eq_eq_eq_not,Bool.not_true,Bool.not_false,decide_eq_true_eq,decide_eq_false_iff_not])<;>grind (splits:=100)
 have c263:(B T 263)=true↔((B T 196)=true∧(inS g (I T 3)=true∧(I T 3) % 2=(I T 2)∧¬Dk g (I T 3)=true∧0≤(I T 23)∧(I T 23)≤AJ g (I T 3)∧(I T 24)= -1∧((B T 21)=true→Ao (I T 0)=true))):=by
  clear c46 c65 c84 c104 c106 c130 c134 c140 c151 c160 c169 c170 c182 c188 c191 c195 c228 c262
  obtain⟨-,-,-,-,-,-,e230,-,e232,e233,-,e235,e236,-,e238,-⟩:=F12
  obtain⟨e240,e241,-,-,e244,e245,-,e247,e248,-,-,-,e252,e253,e254,-⟩:=F13
  obtain⟨e256,e257,-,-,e260,e261,-,e263,-⟩:=F14
  simp only[AA,AD,CW,Bool.not_eq_true',Bool.not_eq_true,BD,Ax,AN,AM,and_false,or_false,Af] at e230 e232 e233 e235 e236 e238 e240 e241 e244 e245 e247 e248 e252 e253 e254 e256 e257 e260 e261 e263
  clear F0 F1 F2 F3 F4 F5 F6 F7 F8 F9 F10 F11 F15 F16
  subst hg
  (try simp only[inS,Dk,AJ,AY,AS,Bool.and_eq_true,Bool.or_eq_true,Bool.not_eq_true,Bool.not_eq_true',Bool.not_eq_eq_eq_not,Bool.not_true,Bool.not_false,decide_eq_true_eq,decide_eq_false_iff_not])<;>grind (splits:=100)
 have c283:(B T 263)=true→((B T 283)=true↔(((I T 1)=2∧inS g (I T 4)=true∧¬(I T 4)=(I T 3)∧¬Dk g (I T 4)=true)∨(¬(I T 1)=2∧(I T 4)= -1))):=by
  clear c46 c65 c84 c104 c106 c130 c134 c140 c151 c160 c169 c170 c182 c188 c191 c195 c228 c262 c263
  obtain⟨-,-,-,-,-,-,-,-,e264,e265,e266,-,e268,-,e270,e271,-⟩:=F14
  obtain⟨-,e273,e274,-,-,e277,e278,-,-,e281,e282,e283,-⟩:=F15
  simp only[AA,AD,CW,Bool.not_eq_true',Bool.not_eq_true,BD,Ax,AN,AM,and_false,or_false,Bt,Bn] at e264 e265 e266 e268 e270 e271 e273 e274 e277 e278 e281 e282 e283
  clear F0 F1 F2 F3 F4 F5 F6 F7 F8 F9 F10 F11 F12 F13 F16
  subst hg
  (try simp only[inS,Dk,AY,Bool.and_eq_true,Bool.or_eq_true,Bool.not_eq_true,Bool.not_eq_true',Bool.not_eq_eq_eq_not,Bool.not_true,Bool.not_false,decide_eq_true_eq,decide_eq_false_iff_not])<;>grind (splits:=100)
 have q0:(B T 296)=(DR g&&CI g&&((Ag g&&Ct g)||(!Ag g&&Cm g))):=by
  clear c46 c65 c84 c104 c134 c140 c151 c160 c182
  obtain⟨-,-,-,-,e196,e197,-⟩:=F10
  obtain⟨-,-,-,-,-,-,-,-,-,-,-,-,-,e285,-,e287,-⟩:=F15
  obtain⟨-,e289,-,e291,-,-,-,-,e296,-⟩:=F16
  simp only[AA,AD,CW,Bool.not_eq_true',Bool.not_eq_true,BG,Bool.false_eq_true,eq_self,and_true,and_false,or_false,false_or,true_and,false_and,BD,Ax,Bt,Bn] at e196 e197 e285 e287 e289 e291 e296
  clear F0 F1 F2 F3 F4 F5 F6 F7 F8 F9 F11 F12 F13 F14
  subst hg
  refine AU ?_
  (try simp only[DR,Ct,Bool.and_eq_true,Bool.or_eq_true,Bool.not_eq_true,Bool.not_eq_true',Bool.not_eq_eq_eq_not,Bool.not_true,Bool.not_false,decide_eq_true_eq,decide_eq_false_iff_not])<;>(try constructor)<;>grind (splits:=100)
 have r0:B T 280=true→0≤(I T 4)∧(I T 4) < 4:=by
  clear c46 c65 c84 c104 c130 c134 c140 c151 c160 c169 c182 c188 c228 c262 c283
  obtain⟨-,-,-,-,e196,-⟩:=F10
  obtain⟨-,-,-,-,-,-,-,-,e264,-,-,e267,e268,-,e270,e271,-⟩:=F14
  obtain⟨-,e273,e274,-,-,e277,e278,-,e280,-⟩:=F15
  simp only[AA,AD,CW,Bool.not_eq_true',Bool.not_eq_true,BD,Ax,AN,AM,and_false,or_false] at e196 e264 e267 e268 e270 e271 e273 e274 e277 e278 e280
  clear F0 F1 F2 F3 F4 F5 F6 F7 F8 F9 F11 F12 F13 F16
  grind (splits:=100)
 have r1:B T 272=true→0≤(I T 4)∧(I T 4) < 4:=by
  clear c46 c65 c84 c104 c130 c134 c140 c151 c160 c169 c182 c188 c228 c262 c283
  obtain⟨-,-,-,-,e196,-⟩:=F10
  obtain⟨-,-,-,-,-,-,-,-,e264,-,-,e267,e268,-,e270,e271,-⟩:=F14
  obtain⟨e272,-⟩:=F15
  simp only[AA,AD,CW,Bool.not_eq_true',Bool.not_eq_true,BD,Ax] at e196 e264 e267 e268 e270 e271 e272
  clear F0 F1 F2 F3 F4 F5 F6 F7 F8 F9 F11 F12 F13 F16
  grind (splits:=100)
 have r2:B T 251=true→0≤(I T 3)∧(I T 3) < 4:=by
  clear c46 c65 c84 c104 c130 c134 c140 c151 c160 c169 c182 c188 c228 c262 c263 c283
  obtain⟨-,-,-,-,e196,-⟩:=F10
  obtain⟨-,-,-,-,-,-,e230,-,e232,e233,-,e235,e236,-,e238,-⟩:=F12
  obtain⟨e240,e241,-,-,e244,e245,-,e247,e248,-,-,e251,-⟩:=F13
  simp only[AA,AD,CW,Bool.not_eq_true',Bool.not_eq_true,BD,Ax,AN,AM,and_false,or_false,Af] at e196 e230 e232 e233 e235 e236 e238 e240 e241 e244 e245 e247 e248 e251
  clear F0 F1 F2 F3 F4 F5 F6 F7 F8 F9 F11 F14 F15 F16
  grind (splits:=100)
 have r3:B T 243=true→0≤(I T 3)∧(I T 3) < 4:=by
  clear c46 c65 c84 c104 c130 c134 c140 c151 c160 c169 c182 c188 c228 c262 c263 c283
  obtain⟨-,-,-,-,e196,-⟩:=F10
  obtain⟨-,-,-,-,-,-,e230,-,e232,e233,-,e235,e236,-,e238,-⟩:=F12
  obtain⟨e240,e241,-,e243,-⟩:=F13
  simp only[AA,AD,CW,Bool.not_eq_true',Bool.not_eq_true,BD,Ax,AN,AM,and_false,or_false,Af] at e196 e230 e232 e233 e235 e236 e238 e240 e241 e243
  clear F0 F1 F2 F3 F4 F5 F6 F7 F8 F9 F11 F14 F15 F16
  grind (splits:=100)
 have r4:B T 234=true→0≤(I T 3)∧(I T 3) < 4:=by
  clear c46 c65 c84 c104 c130 c134 c140 c151 c160 c169 c182 c188 c228 c262 c263 c283
  obtain⟨-,-,-,-,e196,-⟩:=F10
  obtain⟨-,-,-,-,-,-,e230,-,e232,e233,e234,-⟩:=F12
  simp only[AA,AD,BD,Ax] at e196 e230 e232 e233 e234
  clear F0 F1 F2 F3 F4 F5 F6 F7 F8 F9 F11 F13 F14 F15 F16
  grind (splits:=100)
 have r5:B T 216=true→0≤(I T 24)∧(I T 24) < 4:=by
  clear c46 c65 c84 c104 c130 c134 c140 c151 c160 c169 c182 c188 c228 c262 c263 c283
  obtain⟨-,-,-,-,-,e197,e198,-,e200,e201,-,e203,e204,-,e206,-⟩:=F10
  obtain⟨e208,e209,-,e211,e212,-,e214,e215,e216,-⟩:=F11
  simp only[AA,AD,CW,Bool.not_eq_true',Bool.not_eq_true,BG,Bool.false_eq_true,eq_self,and_true,and_false,or_false,false_or,true_and,false_and,BD,Ax,BL] at e197 e198 e200 e201 e203 e204 e206 e208 e209 e211 e212 e214 e215 e216
  clear F0 F1 F2 F3 F4 F5 F6 F7 F8 F9 F12 F13 F14 F15 F16
  grind (splits:=100)
 refine⟨⟨r0,r1,r2,r3,r4,r5,trivial⟩,hO.trans ?_⟩
 exact (lc (by show U.bool (B T 296)= .bool (IY us);unfold IY;rw[hgu];exact congrArg U.bool q0) rfl)
end Go.Eng
end
