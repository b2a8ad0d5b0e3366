/-
  A part of the proof: K_glegal.
-/
import Derived.Test.YtcinpabggaepfaaE3
import Derived.Test.YtcinpabggaepfaaE4
set_option linter.unusedVariables false
set_option linter.unusedSimpArgs false
section
open Go Go.Eng Go.Proofs
set_option maxHeartbeats 4000000
set_option maxRecDepth 100000
namespace Go.Eng
def o_glegal_0:List U→Bool:=fun us=>(casesS (gAt 0 us)&&sidesS (gAt 0 us)&&((turnS (gAt 0 us)&&turnsS (gAt 0 us))||(!turnS (gAt 0 us)&&restsS (gAt 0 us))))
def p_glegal_0:List U→Prop:=fun us=>0≤(aI us 0)∧(aI us 0)≤3∧(aI us 26)=hoopsS (aI us 0)∧(aI us 27)=liftaS (aI us 0)∧(aI us 28)=liftbS (aI us 0)∧(aB us 29)=peelsS (aI us 0)∧(aB us 30)=bisqS (aI us 0)∧(aB us 31)=partS (aI us 0)
def p_glegal_1:List U→Prop:=fun us=>numbersS (gAt 0 us)=true
def t_glegal:Tmpl:={ sh:=[.ptr 0 0],blks:=[([k64,k64,k64,k64,k64,k64,k64,k64,k64,.bool,.bool,.bool,.bool,.bool,.bool,.bool,.bool,k64,k64,.bool,.bool,.bool,k64,k64,k64,k64,k64,k64,k64,.bool,.bool,.bool],73)],outs:=[(.s "glegal.0",outUB o_glegal_0)],c:= .b 32,m':=[.cells [(aI64 0),(aI64 1),(aI64 2),(aI64 3),(aI64 4),(aI64 5),(aI64 6),(aI64 7),(aI64 8),.b 9,.b 10,.b 11,.b 12,.b 13,.b 14,.b 15,.b 16,(aI64 17),(aI64 18),.b 19,.b 20,.b 21,(aI64 22),(aI64 23),(aI64 24),(aI64 25),(aI64 26),(aI64 27),(aI64 28),.b 29,.b 30,.b 31] 73],pre:=[(.s "glegal.p0",p_glegal_0),(.s "glegal.p1",p_glegal_1)] }
noncomputable def a_glegal_0_0:List En:=[⟨32,.o2 .min,[.e 22,.c (.int 4)]⟩,
 ⟨33,.not,[.e 9]⟩,
 ⟨34,.eq,[.e 5,.c (.int 13)]⟩,
 ⟨35,.or,[.e 9,.e 34]⟩,
 ⟨36,.not,[.e 35]⟩,
 ⟨37,.ite .i,[.e 35,.c (.int 1),.c (.int 0)]⟩,
 ⟨38,.not,[.e 11]⟩,
 ⟨39,.eq,[.e 7,.c (.int 13)]⟩,
 ⟨40,.or,[.e 11,.e 39]⟩,
 ⟨41,.o2 .add,[.e 37,.c (.int 1)]⟩,
 ⟨42,.not,[.e 40]⟩,
 ⟨43,.ite .i,[.e 40,.e 41,.e 37]⟩,
 ⟨44,.o2 .add,[.e 32,.c (.int 1)]⟩,
 ⟨45,.o2 .tdiv,[.e 44,.c (.int 2)]⟩,
 ⟨46,.ne,[.e 43,.e 45]⟩,
 ⟨47,.not,[.e 46]⟩]
noncomputable def a_glegal_0_1:List En:=[⟨48,.o2 .min,[.e 22,.c (.int 4)]⟩,
 ⟨49,.and,[.e 47,.n 10]⟩,
 ⟨50,.eq,[.e 6,.c (.int 13)]⟩,
 ⟨51,.or,[.e 10,.e 50]⟩,
 ⟨52,.and,[.e 47,.e 51]⟩,
 ⟨53,.and,[.e 47,.n 51]⟩,
 ⟨54,.ite .i,[.e 51,.c (.int 1),.c (.int 0)]⟩,
 ⟨55,.and,[.e 47,.n 12]⟩,
 ⟨56,.eq,[.e 8,.c (.int 13)]⟩,
 ⟨57,.or,[.e 12,.e 56]⟩,
 ⟨58,.and,[.e 47,.e 57]⟩,
 ⟨59,.o2 .add,[.e 54,.c (.int 1)]⟩,
 ⟨60,.and,[.e 47,.n 57]⟩,
 ⟨61,.ite .i,[.e 57,.e 59,.e 54]⟩,
 ⟨62,.o2 .add,[.e 48,.c (.int 1)]⟩,
 ⟨63,.o2 .sub,[.e 62,.c (.int 1)]⟩]
noncomputable def a_glegal_0_2:List En:=[⟨64,.o2 .tdiv,[.e 63,.c (.int 2)]⟩,
 ⟨65,.ne,[.e 61,.e 64]⟩,
 ⟨66,.and,[.e 47,.e 65]⟩,
 ⟨67,.and,[.e 47,.n 65]⟩,
 ⟨68,.o2 .min,[.e 22,.c (.int 4)]⟩,
 ⟨69,.and,[.e 67,.n 9]⟩,
 ⟨70,.eq,[.e 5,.c (.int 13)]⟩,
 ⟨71,.or,[.e 9,.e 70]⟩,
 ⟨72,.and,[.e 67,.e 71]⟩,
 ⟨73,.and,[.e 67,.n 71]⟩,
 ⟨74,.ite .i,[.e 71,.c (.int 1),.c (.int 0)]⟩,
 ⟨75,.and,[.e 67,.n 11]⟩,
 ⟨76,.eq,[.e 7,.c (.int 13)]⟩,
 ⟨77,.or,[.e 11,.e 76]⟩,
 ⟨78,.and,[.e 67,.e 77]⟩,
 ⟨79,.o2 .add,[.e 74,.c (.int 1)]⟩]
noncomputable def a_glegal_0_3:List En:=[⟨80,.and,[.e 67,.n 77]⟩,
 ⟨81,.ite .i,[.e 77,.e 79,.e 74]⟩,
 ⟨82,.o2 .add,[.e 68,.c (.int 1)]⟩,
 ⟨83,.o2 .tdiv,[.e 82,.c (.int 2)]⟩,
 ⟨84,.ne,[.e 81,.e 83]⟩,
 ⟨85,.and,[.e 67,.e 84]⟩,
 ⟨86,.and,[.e 67,.n 84]⟩,
 ⟨87,.o2 .min,[.e 22,.c (.int 4)]⟩,
 ⟨88,.and,[.e 86,.n 10]⟩,
 ⟨89,.eq,[.e 6,.c (.int 13)]⟩,
 ⟨90,.or,[.e 10,.e 89]⟩,
 ⟨91,.and,[.e 86,.e 90]⟩,
 ⟨92,.and,[.e 86,.n 90]⟩,
 ⟨93,.ite .i,[.e 90,.c (.int 1),.c (.int 0)]⟩,
 ⟨94,.and,[.e 86,.n 12]⟩,
 ⟨95,.eq,[.e 8,.c (.int 13)]⟩]
noncomputable def a_glegal_0_4:List En:=[⟨96,.or,[.e 12,.e 95]⟩,
 ⟨97,.and,[.e 86,.e 96]⟩,
 ⟨98,.o2 .add,[.e 93,.c (.int 1)]⟩,
 ⟨99,.and,[.e 86,.n 96]⟩,
 ⟨100,.ite .i,[.e 96,.e 98,.e 93]⟩,
 ⟨101,.o2 .add,[.e 87,.c (.int 1)]⟩,
 ⟨102,.o2 .sub,[.e 101,.c (.int 1)]⟩,
 ⟨103,.o2 .tdiv,[.e 102,.c (.int 2)]⟩,
 ⟨104,.ne,[.e 100,.e 103]⟩,
 ⟨105,.and,[.e 86,.e 104]⟩,
 ⟨106,.and,[.e 86,.n 104]⟩,
 ⟨107,.ite .i,[.e 85,.c (.int 2),.c (.int 3)]⟩,
 ⟨108,.ite .i,[.e 85,.e 81,.e 100]⟩,
 ⟨109,.ite .i,[.e 85,.e 68,.e 87]⟩,
 ⟨110,.ite .b,[.e 85,.e 77,.e 96]⟩,
 ⟨111,.ite .i,[.e 85,.c (.int 4),.c (.int 5)]⟩]
noncomputable def a_glegal_0_5:List En:=[⟨112,.ite .i,[.e 85,.c (.int 2),.c (.int 3)]⟩,
 ⟨113,.ite .b,[.e 85,.e 84,.e 104]⟩,
 ⟨114,.or,[.e 85,.e 105]⟩,
 ⟨115,.ite .i,[.e 66,.c (.int 1),.e 107]⟩,
 ⟨116,.ite .i,[.e 66,.e 61,.e 108]⟩,
 ⟨117,.ite .i,[.e 66,.e 48,.e 109]⟩,
 ⟨118,.ite .b,[.e 66,.e 57,.e 110]⟩,
 ⟨119,.ite .i,[.e 66,.c (.int 5),.e 111]⟩,
 ⟨120,.ite .i,[.e 66,.c (.int 1),.e 112]⟩,
 ⟨121,.ite .b,[.e 66,.e 65,.e 113]⟩,
 ⟨122,.or,[.e 66,.e 114]⟩,
 ⟨123,.ite .i,[.e 46,.c (.int 0),.e 115]⟩,
 ⟨124,.ite .i,[.e 46,.e 43,.e 116]⟩,
 ⟨125,.ite .i,[.e 46,.e 32,.e 117]⟩,
 ⟨126,.ite .b,[.e 46,.e 40,.e 118]⟩,
 ⟨127,.ite .i,[.e 46,.c (.int 4),.e 119]⟩]
noncomputable def a_glegal_0_6:List En:=[⟨128,.ite .i,[.e 46,.c (.int 0),.e 120]⟩,
 ⟨129,.ite .b,[.e 46,.e 46,.e 121]⟩,
 ⟨130,.or,[.e 46,.e 122]⟩,
 ⟨131,.eq,[.e 5,.c (.int 13)]⟩,
 ⟨132,.and,[.e 106,.e 131]⟩,
 ⟨133,.eq,[.e 7,.c (.int 13)]⟩,
 ⟨134,.and,[.e 131,.e 133]⟩,
 ⟨135,.and,[.e 106,.e 134]⟩,
 ⟨136,.and,[.e 106,.n 134]⟩,
 ⟨137,.eq,[.e 6,.c (.int 13)]⟩,
 ⟨138,.and,[.e 136,.e 137]⟩,
 ⟨139,.eq,[.e 8,.c (.int 13)]⟩,
 ⟨140,.and,[.e 137,.e 139]⟩,
 ⟨141,.and,[.e 136,.e 140]⟩,
 ⟨142,.and,[.e 136,.n 140]⟩,
 ⟨143,.ite .i,[.e 135,.c (.int 0),.c (.int 1)]⟩]
noncomputable def a_glegal_0_7:List En:=[⟨144,.ite .b,[.e 135,.e 134,.e 140]⟩,
 ⟨145,.ite .i,[.e 135,.c (.int 0),.c (.int 1)]⟩,
 ⟨146,.ite .i,[.e 135,.c (.int 0),.c (.int 1)]⟩,
 ⟨147,.or,[.e 135,.e 141]⟩,
 ⟨148,.ite .i,[.e 147,.e 143,.c (.int 1)]⟩,
 ⟨149,.ite .b,[.e 147,.e 144,.e 140]⟩,
 ⟨150,.ite .b,[.e 147,.c (.bool true),.c (.bool false)]⟩,
 ⟨151,.ite .i,[.e 147,.e 145,.c (.int (-1))]⟩,
 ⟨152,.ite .i,[.e 147,.e 146,.c (.int 2)]⟩,
 ⟨153,.or,[.e 147,.e 142]⟩,
 ⟨154,.eq,[.e 151,.c (.int 0)]⟩,
 ⟨155,.and,[.e 106,.e 154]⟩,
 ⟨156,.eq,[.e 6,.c (.int 13)]⟩,
 ⟨157,.and,[.e 154,.e 156]⟩,
 ⟨158,.and,[.e 106,.e 157]⟩,
 ⟨159,.eq,[.e 8,.c (.int 13)]⟩]
noncomputable def a_glegal_0_8:List En:=[⟨160,.and,[.e 157,.e 159]⟩,
 ⟨161,.and,[.e 106,.n 160]⟩,
 ⟨162,.ne,[.e 151,.e 25]⟩,
 ⟨163,.or,[.e 160,.e 162]⟩,
 ⟨164,.and,[.e 106,.n 163]⟩,
 ⟨165,.le,[.c (.int 0),.e 151]⟩,
 ⟨166,.eq,[.e 1,.c (.int 4)]⟩,
 ⟨167,.neb,[.e 165,.e 166]⟩,
 ⟨168,.or,[.e 163,.e 167]⟩,
 ⟨169,.and,[.e 106,.e 168]⟩,
 ⟨170,.and,[.e 106,.n 168]⟩,
 ⟨171,.and,[.e 170,.e 30]⟩,
 ⟨172,.lt,[.e 22,.c (.int 4)]⟩,
 ⟨173,.or,[.n 30,.e 172]⟩,
 ⟨174,.and,[.e 170,.e 173]⟩,
 ⟨175,.ne,[.e 1,.c (.int 4)]⟩]
noncomputable def a_glegal_0_9:List En:=[⟨176,.and,[.e 173,.e 175]⟩,
 ⟨177,.and,[.e 170,.e 176]⟩,
 ⟨178,.o2 .tmod,[.e 22,.c (.int 2)]⟩,
 ⟨179,.lt,[.c (.int 0),.e 1]⟩,
 ⟨180,.and,[.e 177,.e 179]⟩,
 ⟨181,.lt,[.e 1,.c (.int 4)]⟩,
 ⟨182,.and,[.e 179,.e 181]⟩,
 ⟨183,.and,[.e 177,.e 182]⟩,
 ⟨184,.o2 .sub,[.c (.int 1),.e 178]⟩,
 ⟨185,.and,[.e 177,.n 182]⟩,
 ⟨186,.ite .i,[.e 182,.e 184,.e 178]⟩,
 ⟨187,.ne,[.e 2,.e 186]⟩,
 ⟨188,.and,[.e 177,.e 187]⟩,
 ⟨189,.and,[.e 177,.n 187]⟩,
 ⟨190,.and,[.e 170,.n 176]⟩,
 ⟨191,.or,[.e 189,.e 190]⟩]
noncomputable def a_glegal_0_10:List En:=[⟨192,.lt,[.c (.int 0),.e 1]⟩,
 ⟨193,.and,[.e 191,.e 192]⟩,
 ⟨194,.lt,[.e 1,.c (.int 4)]⟩,
 ⟨195,.and,[.e 192,.e 194]⟩,
 ⟨196,.and,[.e 191,.e 195]⟩,
 ⟨197,.and,[.e 191,.n 195]⟩,
 ⟨198,.nes [.i,.i,.b,.b,.b,.b,.b,.i],[.c (.int (-1)),.e 3,.c (.int (-1)),.e 4,.c (.bool false),.e 13,.c (.bool false),.e 14,.c (.bool false),.e 15,.c (.bool false),.e 16,.c (.bool false),.e 21,.c (.int 0),.e 23]⟩,
 ⟨199,.and,[.e 197,.e 198]⟩,
 ⟨200,.and,[.e 197,.n 198]⟩,
 ⟨201,.eq,[.e 24,.c (.int (-1))]⟩,
 ⟨202,.and,[.e 200,.e 201]⟩,
 ⟨203,.and,[.e 200,.n 201]⟩,
 ⟨204,.eq,[.e 1,.c (.int 0)]⟩,
 ⟨205,.and,[.e 203,.e 204]⟩,
 ⟨206,.and,[.e 204,.e 30]⟩,
 ⟨207,.and,[.e 203,.e 206]⟩]
noncomputable def a_glegal_0_11:List En:=[⟨208,.le,[.c (.int 4),.e 22]⟩,
 ⟨209,.and,[.e 206,.e 208]⟩,
 ⟨210,.and,[.e 203,.e 209]⟩,
 ⟨211,.and,[.e 203,.e 209]⟩,
 ⟨212,.le,[.c (.int 0),.e 24]⟩,
 ⟨213,.and,[.e 211,.e 212]⟩,
 ⟨214,.lt,[.e 24,.c (.int 4)]⟩,
 ⟨215,.and,[.e 212,.e 214]⟩,
 ⟨216,.and,[.e 211,.e 215]⟩,
 ⟨217,.pick .b,[.e 24,.e 9,.e 10,.e 11,.e 12]⟩,
 ⟨218,.and,[.e 215,.e 217]⟩,
 ⟨219,.and,[.e 209,.e 218]⟩,
 ⟨220,.and,[.e 203,.e 219]⟩,
 ⟨221,.o2 .tmod,[.e 24,.c (.int 2)]⟩,
 ⟨222,.and,[.e 203,.e 219]⟩,
 ⟨223,.w2 .i64 .sub,[.c (.int 1),.e 2]⟩]
noncomputable def a_glegal_0_12:List En:=[⟨224,.eq,[.e 221,.e 223]⟩,
 ⟨225,.and,[.e 219,.e 224]⟩,
 ⟨226,.ite .b,[.e 202,.c (.bool true),.e 225]⟩,
 ⟨227,.or,[.e 202,.e 203]⟩,
 ⟨228,.ite .b,[.e 199,.c (.bool false),.e 226]⟩,
 ⟨229,.or,[.e 199,.e 227]⟩,
 ⟨230,.le,[.c (.int 0),.e 3]⟩,
 ⟨231,.and,[.e 196,.e 230]⟩,
 ⟨232,.lt,[.e 3,.c (.int 4)]⟩,
 ⟨233,.and,[.e 230,.e 232]⟩,
 ⟨234,.and,[.e 196,.e 233]⟩,
 ⟨235,.pick .b,[.e 3,.e 9,.e 10,.e 11,.e 12]⟩,
 ⟨236,.and,[.e 233,.e 235]⟩,
 ⟨237,.and,[.e 196,.e 236]⟩,
 ⟨238,.o2 .tmod,[.e 3,.c (.int 2)]⟩,
 ⟨239,.and,[.e 196,.e 236]⟩]
noncomputable def a_glegal_0_13:List En:=[⟨240,.ne,[.e 238,.e 2]⟩,
 ⟨241,.or,[.n 236,.e 240]⟩,
 ⟨242,.and,[.e 196,.n 241]⟩,
 ⟨243,.and,[.e 196,.n 241]⟩,
 ⟨244,.pick .b,[.e 3,.e 13,.e 14,.e 15,.e 16]⟩,
 ⟨245,.or,[.e 241,.e 244]⟩,
 ⟨246,.and,[.e 196,.n 245]⟩,
 ⟨247,.lt,[.e 23,.c (.int 0)]⟩,
 ⟨248,.or,[.e 245,.e 247]⟩,
 ⟨249,.and,[.e 196,.n 248]⟩,
 ⟨250,.and,[.e 196,.n 248]⟩,
 ⟨251,.and,[.e 196,.n 248]⟩,
 ⟨252,.pick .i,[.e 3,.e 5,.e 6,.e 7,.e 8]⟩,
 ⟨253,.lt,[.e 252,.e 23]⟩,
 ⟨254,.or,[.e 248,.e 253]⟩,
 ⟨255,.and,[.e 196,.n 254]⟩]
noncomputable def a_glegal_0_14:List En:=[⟨256,.ne,[.e 24,.c (.int (-1))]⟩,
 ⟨257,.or,[.e 254,.e 256]⟩,
 ⟨258,.and,[.e 196,.n 257]⟩,
 ⟨259,.and,[.e 258,.e 21]⟩,
 ⟨260,.and,[.e 21,.n 30]⟩,
 ⟨261,.or,[.e 257,.e 260]⟩,
 ⟨262,.and,[.e 196,.e 261]⟩,
 ⟨263,.and,[.e 196,.n 261]⟩,
 ⟨264,.ne,[.e 1,.c (.int 2)]⟩,
 ⟨265,.and,[.e 263,.e 264]⟩,
 ⟨266,.eq,[.e 4,.c (.int (-1))]⟩,
 ⟨267,.and,[.e 263,.n 264]⟩,
 ⟨268,.le,[.c (.int 0),.e 4]⟩,
 ⟨269,.and,[.e 267,.e 268]⟩,
 ⟨270,.lt,[.e 4,.c (.int 4)]⟩,
 ⟨271,.and,[.e 268,.e 270]⟩]
noncomputable def a_glegal_0_15:List En:=[⟨272,.and,[.e 267,.e 271]⟩,
 ⟨273,.pick .b,[.e 4,.e 9,.e 10,.e 11,.e 12]⟩,
 ⟨274,.and,[.e 271,.e 273]⟩,
 ⟨275,.and,[.e 267,.e 274]⟩,
 ⟨276,.and,[.e 267,.e 274]⟩,
 ⟨277,.ne,[.e 4,.e 3]⟩,
 ⟨278,.and,[.e 274,.e 277]⟩,
 ⟨279,.and,[.e 267,.e 278]⟩,
 ⟨280,.and,[.e 267,.e 278]⟩,
 ⟨281,.pick .b,[.e 4,.e 13,.e 14,.e 15,.e 16]⟩,
 ⟨282,.and,[.e 278,.n 281]⟩,
 ⟨283,.ite .b,[.e 265,.e 266,.e 282]⟩,
 ⟨284,.or,[.e 265,.e 267]⟩,
 ⟨285,.ite .b,[.e 262,.c (.bool false),.e 283]⟩,
 ⟨286,.or,[.e 262,.e 284]⟩,
 ⟨287,.ite .b,[.e 197,.e 228,.e 285]⟩]
noncomputable def a_glegal_0_16:List En:=[⟨288,.or,[.e 197,.e 286]⟩,
 ⟨289,.ite .b,[.e 188,.c (.bool false),.e 287]⟩,
 ⟨290,.or,[.e 188,.e 288]⟩,
 ⟨291,.ite .b,[.e 169,.c (.bool false),.e 289]⟩,
 ⟨292,.or,[.e 169,.e 290]⟩,
 ⟨293,.ite .i,[.e 130,.e 123,.c (.int 3)]⟩,
 ⟨294,.ite .b,[.e 130,.c (.bool true),.c (.bool false)]⟩,
 ⟨295,.ite .i,[.e 130,.e 124,.e 100]⟩,
 ⟨296,.ite .b,[.e 130,.c (.bool false),.e 291]⟩,
 ⟨297,.ite .i,[.e 130,.e 125,.e 87]⟩,
 ⟨298,.ite .b,[.e 130,.e 126,.e 96]⟩,
 ⟨299,.ite .i,[.e 130,.e 127,.c (.int 5)]⟩,
 ⟨300,.ite .i,[.e 130,.e 128,.c (.int 4)]⟩,
 ⟨301,.ite .b,[.e 130,.e 129,.e 104]⟩,
 ⟨302,.or,[.e 130,.e 292]⟩]
noncomputable def a_glegal_0:List En:=a_glegal_0_0++(a_glegal_0_1++(a_glegal_0_2++(a_glegal_0_3++(a_glegal_0_4++(a_glegal_0_5++(a_glegal_0_6++(a_glegal_0_7++(a_glegal_0_8++(a_glegal_0_9++(a_glegal_0_10++(a_glegal_0_11++(a_glegal_0_12++(a_glegal_0_13++(a_glegal_0_14++(a_glegal_0_15++(a_glegal_0_16))))))))))))))))
noncomputable def q_glegal:List ObE:=[⟨some 280,.inr,[.e 4,.c (.int 4)]⟩,
 ⟨some 272,.inr,[.e 4,.c (.int 4)]⟩,
 ⟨some 251,.inr,[.e 3,.c (.int 4)]⟩,
 ⟨some 243,.inr,[.e 3,.c (.int 4)]⟩,
 ⟨some 234,.inr,[.e 3,.c (.int 4)]⟩,
 ⟨some 216,.inr,[.e 24,.c (.int 4)]⟩]
def r_glegal:List Rf:=[.e 296]
theorem s_glegal:t_glegal.sees r_glegal (t_glegal.run Try.prog [] hints 3000 20 46)=some ((a_glegal_0).map En.be,q_glegal.map ObE.be,[]):=by kernel_rfl
theorem ok_glegal:TmplOK Try.prog 46 t_glegal:=by
 refine tmpl_sees (l:=[]) mixed (by intro p h;exact absurd h (by simp)) s_glegal (by kernel_rfl) fun T us hpre hT hul hS hBd hE=>?_
 change us.length=32 at hul
 obtain⟨⟨lo0,hi0⟩,⟨lo1,hi1⟩,⟨lo2,hi2⟩,⟨lo3,hi3⟩,⟨lo4,hi4⟩,⟨lo5,hi5⟩,⟨lo6,hi6⟩,⟨lo7,hi7⟩,⟨lo8,hi8⟩,⟨lo17,hi17⟩,⟨lo18,hi18⟩,⟨lo22,hi22⟩,⟨lo23,hi23⟩,⟨lo24,hi24⟩,⟨lo25,hi25⟩,⟨lo26,hi26⟩,⟨lo27,hi27⟩,⟨lo28,hi28⟩,-⟩:=hBd
 clear lo0 hi0
 clear lo1 hi1
 clear lo2 hi2
 clear lo3 hi3
 clear lo4 hi4
 clear lo5 hi5
 clear lo6 hi6
 clear lo7 hi7
 clear lo8 hi8
 clear lo17 hi17
 clear lo18 hi18
 clear lo22 hi22
 clear lo23 hi23
 clear lo24 hi24
 clear lo25 hi25
 clear lo26 hi26
 clear lo27 hi27
 clear lo28 hi28
 obtain⟨g,hg⟩:∃g:Gm,g=Gm.mk (I T 0) (I T 1) (I T 2) (I T 3) (I T 4) (I T 5) (I T 6) (I T 7) (I T 8) (B T 9) (B T 10) (B T 11) (B T 12) (B T 13) (B T 14) (B T 15) (B T 16) (I T 17) (I T 18) (B T 19) (B T 20) (B T 21) (I T 22) (I T 23) (I T 24) (I T 25):=⟨_,rfl⟩
 have hgu:gAt 0 us=g:=by rw[hg];exact gAt_eq (inI hT hul (by decide)) (inI hT hul (by decide)) (inI hT hul (by decide)) (inI hT hul (by decide)) (inI hT hul (by decide)) (inI hT hul (by decide)) (inI hT hul (by decide)) (inI hT hul (by decide)) (inI hT hul (by decide)) (inB hT hul (by decide)) (inB hT hul (by decide)) (inB hT hul (by decide)) (inB hT hul (by decide)) (inB hT hul (by decide)) (inB hT hul (by decide)) (inB hT hul (by decide)) (inB hT hul (by decide)) (inI hT hul (by decide)) (inI hT hul (by decide)) (inB hT hul (by decide)) (inB hT hul (by decide)) (inB hT hul (by decide)) (inI hT hul (by decide)) (inI hT hul (by decide)) (inI hT hul (by decide)) (inI hT hul (by decide))
 have ha0:aI us 0=I T 0:=inI hT hul (by decide)
 have ha26:aI us 26=I T 26:=inI hT hul (by decide)
 have ha27:aI us 27=I T 27:=inI hT hul (by decide)
 have ha28:aI us 28=I T 28:=inI hT hul (by decide)
 have ha29:aB us 29=B T 29:=inB hT hul (by decide)
 have ha30:aB us 30=B T 30:=inB hT hul (by decide)
 have ha31:aB us 31=B T 31:=inB hT hul (by decide)
 have pre0:0≤(I T 0)∧(I T 0)≤3∧(I T 26)=hoopsS (I T 0)∧(I T 27)=liftaS (I T 0)∧(I T 28)=liftbS (I T 0)∧(B T 29)=peelsS (I T 0)∧(B T 30)=bisqS (I T 0)∧(B T 31)=partS (I T 0):=by
  have h:=hpre (.s "glegal.p0",p_glegal_0) (by simp[t_glegal])
  change p_glegal_0 us at h
  unfold p_glegal_0 at h
  simp only[ha0,ha26,ha27,ha28,ha29,ha30,ha31] at h
  exact h
 have pre1:numbersS g=true:=by
  have h:=hpre (.s "glegal.p1",p_glegal_1) (by simp[t_glegal])
  change p_glegal_1 us at h
  unfold p_glegal_1 at h
  simp only[hgu] at h
  exact h
 clear hpre
 skip
 obtain⟨hF,hO⟩:=chkO_ok (tys:=[.b]) (rs:=r_glegal) hS (by kernel_rfl) hE
 clear hE hS
 have F0:Facts T a_glegal_0_0:=hF.left
 replace hF:=hF.right
 have F1:Facts T a_glegal_0_1:=hF.left
 replace hF:=hF.right
 have F2:Facts T a_glegal_0_2:=hF.left
 replace hF:=hF.right
 have F3:Facts T a_glegal_0_3:=hF.left
 replace hF:=hF.right
 have F4:Facts T a_glegal_0_4:=hF.left
 replace hF:=hF.right
 have F5:Facts T a_glegal_0_5:=hF.left
 replace hF:=hF.right
 have F6:Facts T a_glegal_0_6:=hF.left
 replace hF:=hF.right
 have F7:Facts T a_glegal_0_7:=hF.left
 replace hF:=hF.right
 have F8:Facts T a_glegal_0_8:=hF.left
 replace hF:=hF.right
 have F9:Facts T a_glegal_0_9:=hF.left
 replace hF:=hF.right
 have F10:Facts T a_glegal_0_10:=hF.left
 replace hF:=hF.right
 have F11:Facts T a_glegal_0_11:=hF.left
 replace hF:=hF.right
 have F12:Facts T a_glegal_0_12:=hF.left
 replace hF:=hF.right
 have F13:Facts T a_glegal_0_13:=hF.left
 replace hF:=hF.right
 have F14:Facts T a_glegal_0_14:=hF.left
 replace hF:=hF.right
 have F15:Facts T a_glegal_0_15:=hF.left
 replace hF:=hF.right
 have F16:Facts T a_glegal_0_16:=hF
 clear hF
 obtain⟨z0,z1,z2,z3,z4,z5,z6,z7⟩:=pre0
 have y:=numbersS_le pre1
 rw[hg] at y
 obtain⟨_,_,y1,y2,y3,y4,y5,y6⟩:=y
 simp only at y1 y2 y3 y4 y5 y6
 clear pre1
 have hwa:wonaS g=true↔((I T 5)=13∧(I T 7)=13):=by subst hg;simp[wonaS]
 have hwb:wonbS g=true↔((I T 6)=13∧(I T 8)=13):=by subst hg;simp[wonbS]
 have c46:(B T 46)=true↔¬(comeS (B T 9) (B T 11) (I T 5) (I T 7)=(firstS (I T 22)+1) / 2):=by
  obtain⟨e32,-,e34,e35,-,e37,-,e39,e40,e41,-,e43,e44,e45,e46,-⟩:=F0
  simp only[fact,bR_e,iR_e,iR_c,op2P,lR_e,lR_c] at e32 e34 e35 e37 e39 e40 e41 e43 e44 e45 e46
  clear F1 F2 F3 F4 F5 F6 F7 F8 F9 F10 F11 F12 F13 F14 F15 F16
  subst hg
  (try simp only[comeS,firstS,bit,Bool.and_eq_true,Bool.or_eq_true,Bool.not_eq_true,Bool.not_eq_true',Bool.not_eq_eq_eq_not,Bool.not_true,Bool.not_false,decide_eq_true_eq,decide_eq_false_iff_not])<;>grind (splits:=100)
 have c65:(B T 65)=true↔¬(comeS (B T 10) (B T 12) (I T 6) (I T 8)=firstS (I T 22) / 2):=by
  clear c46
  obtain⟨e48,-,e50,e51,-,-,e54,-,e56,e57,-,e59,-,e61,e62,e63,-⟩:=F1
  obtain⟨e64,e65,-⟩:=F2
  simp only[fact,bR_e,iR_e,iR_c,op2P,lR_e,lR_c] at e48 e50 e51 e54 e56 e57 e59 e61 e62 e63 e64 e65
  clear F0 F3 F4 F5 F6 F7 F8 F9 F10 F11 F12 F13 F14 F15 F16
  subst hg
  (try simp only[comeS,firstS,bit,Bool.and_eq_true,Bool.or_eq_true,Bool.not_eq_true,Bool.not_eq_true',Bool.not_eq_eq_eq_not,Bool.not_true,Bool.not_false,decide_eq_true_eq,decide_eq_false_iff_not])<;>grind (splits:=100)
 have c84:(B T 84)=true↔¬(comeS (B T 9) (B T 11) (I T 5) (I T 7)=(firstS (I T 22)+1) / 2):=by
  clear c46 c65
  obtain⟨-,-,-,-,e68,-,e70,e71,-,-,e74,-,e76,e77,-,e79,-⟩:=F2
  obtain⟨-,e81,e82,e83,e84,-⟩:=F3
  simp only[fact,bR_e,iR_e,iR_c,op2P,lR_e,lR_c] at e68 e70 e71 e74 e76 e77 e79 e81 e82 e83 e84
  clear F0 F1 F4 F5 F6 F7 F8 F9 F10 F11 F12 F13 F14 F15 F16
  subst hg
  (try simp only[comeS,firstS,bit,Bool.and_eq_true,Bool.or_eq_true,Bool.not_eq_true,Bool.not_eq_true',Bool.not_eq_eq_eq_not,Bool.not_true,Bool.not_false,decide_eq_true_eq,decide_eq_false_iff_not])<;>grind (splits:=100)
 have c104:(B T 104)=true↔¬(comeS (B T 10) (B T 12) (I T 6) (I T 8)=firstS (I T 22) / 2):=by
  clear c46 c65 c84
  obtain⟨-,-,-,-,-,-,-,e87,-,e89,e90,-,-,e93,-,e95,-⟩:=F3
  obtain⟨e96,-,e98,-,e100,e101,e102,e103,e104,-⟩:=F4
  simp only[fact,bR_e,iR_e,iR_c,op2P,lR_e,lR_c] at e87 e89 e90 e93 e95 e96 e98 e100 e101 e102 e103 e104
  clear F0 F1 F2 F5 F6 F7 F8 F9 F10 F11 F12 F13 F14 F15 F16
  subst hg
  (try simp only[comeS,firstS,bit,Bool.and_eq_true,Bool.or_eq_true,Bool.not_eq_true,Bool.not_eq_true',Bool.not_eq_eq_eq_not,Bool.not_true,Bool.not_false,decide_eq_true_eq,decide_eq_false_iff_not])<;>grind (splits:=100)
 have c106:(B T 106)=true↔((comeS (B T 9) (B T 11) (I T 5) (I T 7)=(firstS (I T 22)+1) / 2)∧(comeS (B T 10) (B T 12) (I T 6) (I T 8)=firstS (I T 22) / 2)):=by
  obtain⟨-,-,-,-,-,-,-,-,-,-,-,-,-,-,-,e47,-⟩:=F0
  obtain⟨-,-,-,e67,-⟩:=F2
  obtain⟨-,-,-,-,-,-,e86,-⟩:=F3
  obtain⟨-,-,-,-,-,-,-,-,-,-,e106,-⟩:=F4
  simp only[fact,bR_e,bR_n,Bool.not_eq_true',Bool.not_eq_true,iR_e,iR_c] at e47 e67 e86 e106
  clear F1 F5 F6 F7 F8 F9 F10 F11 F12 F13 F14 F15 F16
  grind (splits:=100)
 have c130:(B T 130)=true↔¬((comeS (B T 9) (B T 11) (I T 5) (I T 7)=(firstS (I T 22)+1) / 2)∧(comeS (B T 10) (B T 12) (I T 6) (I T 8)=firstS (I T 22) / 2)):=by
  clear c106
  obtain⟨-,-,-,-,-,-,-,-,-,-,-,-,-,-,-,e47,-⟩:=F0
  obtain⟨-,-,e66,e67,-⟩:=F2
  obtain⟨-,-,-,-,-,e85,e86,-⟩:=F3
  obtain⟨-,-,-,-,-,-,-,-,-,e105,-⟩:=F4
  obtain⟨-,-,e114,-,-,-,-,-,-,-,e122,-⟩:=F5
  obtain⟨-,-,e130,-⟩:=F6
  simp only[fact,bR_e,bR_n,Bool.not_eq_true',Bool.not_eq_true,iR_e,iR_c] at e47 e66 e67 e85 e86 e105 e114 e122 e130
  clear F1 F7 F8 F9 F10 F11 F12 F13 F14 F15 F16
  grind (splits:=100)
 have c134:(B T 134)=true↔wonaS g=true:=by
  clear c46 c65 c84 c104 c106 c130
  obtain⟨-,-,-,e131,-,e133,e134,-⟩:=F6
  simp only[fact,bR_e,iR_e,iR_c] at e131 e133 e134
  clear F0 F1 F2 F3 F4 F5 F7 F8 F9 F10 F11 F12 F13 F14 F15 F16
  grind (splits:=100)
 have c140:(B T 140)=true↔wonbS g=true:=by
  clear c46 c65 c84 c104 c106 c130 c134
  obtain⟨-,-,-,-,-,-,-,-,-,e137,-,e139,e140,-⟩:=F6
  simp only[fact,bR_e,iR_e,iR_c] at e137 e139 e140
  clear F0 F1 F2 F3 F4 F5 F7 F8 F9 F10 F11 F12 F13 F14 F15 F16
  grind (splits:=100)
 have c151:(B T 106)=true→(I T 151)=if wonaS g=true then 0 else if wonbS g=true then 1 else -1:=by
  clear c46 c65 c84 c104 c106 c130
  obtain⟨-,-,-,-,-,-,-,e135,e136,-,-,-,-,e141,-⟩:=F6
  obtain⟨-,e145,-,e147,-,-,-,e151,-⟩:=F7
  simp only[fact,bR_e,bR_n,Bool.not_eq_true',Bool.not_eq_true,iR_e,iR_c,lR_e,lR_c] at e135 e136 e141 e145 e147 e151
  clear F0 F1 F2 F3 F4 F5 F8 F9 F10 F11 F12 F13 F14 F15 F16
  grind (splits:=100)
 have c160:(B T 160)=true↔((I T 151)=0∧wonbS g=true):=by
  clear c46 c65 c84 c104 c106 c130 c134 c140 c151
  obtain⟨-,-,-,-,-,-,-,-,-,-,e154,-,e156,e157,-,e159,-⟩:=F7
  obtain⟨e160,-⟩:=F8
  simp only[fact,bR_e,iR_e,iR_c] at e154 e156 e157 e159 e160
  clear F0 F1 F2 F3 F4 F5 F6 F9 F10 F11 F12 F13 F14 F15 F16
  grind (splits:=100)
 have c169:(B T 169)=true↔((B T 106)=true∧¬(((wonaS g=true∧(I T 1)=4∧(I T 25)=0)∨(wonbS g=true∧(I T 1)=4∧(I T 25)=1)∨(¬wonaS g=true∧¬wonbS g=true∧¬(I T 1)=4∧(I T 25)= -1))∧¬(wonaS g=true∧wonbS g=true))):=by
  clear c46 c65 c84 c104 c106 c130 c134 c140
  obtain⟨-,-,e162,e163,-,e165,e166,e167,e168,e169,-⟩:=F8
  simp only[fact,bR_e,iR_e,iR_c] at e162 e163 e165 e166 e167 e168 e169
  clear F0 F1 F2 F3 F4 F5 F6 F7 F9 F10 F11 F12 F13 F14 F15 F16
  grind (splits:=100)
 have c170:(B T 170)=true↔((B T 106)=true∧((wonaS g=true∧(I T 1)=4∧(I T 25)=0)∨(wonbS g=true∧(I T 1)=4∧(I T 25)=1)∨(¬wonaS g=true∧¬wonbS g=true∧¬(I T 1)=4∧(I T 25)= -1))∧¬(wonaS g=true∧wonbS g=true)):=by
  clear c46 c65 c84 c104 c106 c130 c134 c140 c169
  obtain⟨-,-,e162,e163,-,e165,e166,e167,e168,-,e170,-⟩:=F8
  simp only[fact,bR_e,bR_n,Bool.not_eq_true',Bool.not_eq_true,iR_e,iR_c] at e162 e163 e165 e166 e167 e168 e170
  clear F0 F1 F2 F3 F4 F5 F6 F7 F9 F10 F11 F12 F13 F14 F15 F16
  grind (splits:=100)
 have c182:(B T 182)=true↔turnS g=true:=by
  clear c46 c65 c84 c104 c106 c130 c134 c140 c151 c160 c169 c170
  obtain⟨-,-,-,e179,-,e181,e182,-⟩:=F9
  simp only[fact,bR_e,iR_e,iR_c] at e179 e181 e182
  clear F0 F1 F2 F3 F4 F5 F6 F7 F8 F10 F11 F12 F13 F14 F15 F16
  subst hg
  (try simp only[turnS,Bool.and_eq_true,Bool.or_eq_true,Bool.not_eq_true,Bool.not_eq_true',Bool.not_eq_eq_eq_not,Bool.not_true,Bool.not_false,decide_eq_true_eq,decide_eq_false_iff_not])<;>grind (splits:=100)
 have c195:(B T 195)=true↔turnS g=true:=by
  clear c46 c65 c84 c104 c106 c130 c134 c140 c151 c160 c169 c170 c182
  obtain⟨e192,-,e194,e195,-⟩:=F10
  simp only[fact,bR_e,iR_e,iR_c] at e192 e194 e195
  clear F0 F1 F2 F3 F4 F5 F6 F7 F8 F9 F11 F12 F13 F14 F15 F16
  subst hg
  (try simp only[turnS,Bool.and_eq_true,Bool.or_eq_true,Bool.not_eq_true,Bool.not_eq_true',Bool.not_eq_eq_eq_not,Bool.not_true,Bool.not_false,decide_eq_true_eq,decide_eq_false_iff_not])<;>grind (splits:=100)
 have c188:(B T 188)=true↔((B T 170)=true∧¬sidesS g=true):=by
  clear c46 c65 c84 c104 c106 c130 c134 c140 c151 c160 c169 c170 c195
  obtain⟨-,-,-,-,-,-,-,-,-,-,-,-,e172,e173,-,e175,-⟩:=F8
  obtain⟨e176,e177,e178,-,-,-,-,-,e184,-,e186,e187,e188,-⟩:=F9
  simp only[fact,bR_e,bR_n,Bool.not_eq_true',Bool.not_eq_true,iR_e,iR_c,op2P,lR_e,lR_c] at e172 e173 e175 e176 e177 e178 e184 e186 e187 e188
  clear F0 F1 F2 F3 F4 F5 F6 F7 F10 F11 F12 F13 F14 F15 F16
  subst hg
  (try simp only[sidesS,turnS,Bool.and_eq_true,Bool.or_eq_true,Bool.not_eq_true,Bool.not_eq_true',Bool.not_eq_eq_eq_not,Bool.not_true,Bool.not_false,decide_eq_true_eq,decide_eq_false_iff_not])<;>grind (splits:=100) [turnS]
 have c191:(B T 191)=true↔((B T 170)=true∧sidesS g=true):=by
  clear c46 c65 c84 c104 c106 c130 c134 c140 c151 c160 c169 c170 c188 c195
  obtain⟨-,-,-,-,-,-,-,-,-,-,-,-,e172,e173,-,e175,-⟩:=F8
  obtain⟨e176,e177,e178,-,-,-,-,-,e184,-,e186,e187,-,e189,e190,e191,-⟩:=F9
  simp only[fact,bR_e,bR_n,Bool.not_eq_true',Bool.not_eq_true,iR_e,iR_c,op2P,lR_e,lR_c] at e172 e173 e175 e176 e177 e178 e184 e186 e187 e189 e190 e191
  clear F0 F1 F2 F3 F4 F5 F6 F7 F10 F11 F12 F13 F14 F15 F16
  subst hg
  (try simp only[sidesS,turnS,Bool.and_eq_true,Bool.or_eq_true,Bool.not_eq_true,Bool.not_eq_true',Bool.not_eq_eq_eq_not,Bool.not_true,Bool.not_false,decide_eq_true_eq,decide_eq_false_iff_not])<;>grind (splits:=100) [turnS]
 have c228:(B T 197)=true→((B T 228)=true↔restsS g=true):=by
  clear c46 c65 c84 c104 c106 c130 c134 c140 c151 c160 c169 c170 c182 c188 c191 c195
  obtain⟨-,-,-,-,-,-,e198,e199,e200,e201,e202,-,e204,-,e206,-⟩:=F10
  obtain⟨e208,e209,-,-,e212,-,e214,e215,-,e217,e218,e219,-,e221,-,e223,-⟩:=F11
  obtain⟨e224,e225,e226,-,e228,-⟩:=F12
  simp only[fact,bR_e,bR_n,Bool.not_eq_true',Bool.not_eq_true,bR_c,Bool.false_eq_true,eq_self,and_true,and_false,or_false,false_or,true_and,false_and,iR_e,iR_c,pickI,pickB,eqsP,op2P,w2P,lR_e,lR_c] at e198 e199 e200 e201 e202 e204 e206 e208 e209 e212 e214 e215 e217 e218 e219 e221 e223 e224 e225 e226 e228
  clear F0 F1 F2 F3 F4 F5 F6 F7 F8 F9 F13 F14 F15 F16
  subst hg
  (try simp only[restsS,inS,oneB,Bool.and_eq_true,Bool.or_eq_true,Bool.not_eq_true,Bool.not_eq_true',Bool.not_eq_eq_eq_not,Bool.not_true,Bool.not_false,decide_eq_true_eq,decide_eq_false_iff_not])<;>grind (splits:=100)
 have c262:(B T 262)=true↔((B T 196)=true∧¬(inS g (I T 3)=true∧(I T 3) % 2=(I T 2)∧¬deadS g (I T 3)=true∧0≤(I T 23)∧(I T 23)≤pointsS g (I T 3)∧(I T 24)= -1∧((B T 21)=true→bisqS (I T 0)=true))):=by
  clear c46 c65 c84 c104 c106 c130 c134 c140 c151 c160 c169 c170 c182 c188 c191 c195 c228
  obtain⟨-,-,-,-,-,-,e230,-,e232,e233,-,e235,e236,-,e238,-⟩:=F12
  obtain⟨e240,e241,-,-,e244,e245,-,e247,e248,-,-,-,e252,e253,e254,-⟩:=F13
  obtain⟨e256,e257,-,-,e260,e261,e262,-⟩:=F14
  simp only[fact,bR_e,bR_n,Bool.not_eq_true',Bool.not_eq_true,iR_e,iR_c,pickI,pickB,and_false,or_false,op2P] at e230 e232 e233 e235 e236 e238 e240 e241 e244 e245 e247 e248 e252 e253 e254 e256 e257 e260 e261 e262
  clear F0 F1 F2 F3 F4 F5 F6 F7 F8 F9 F10 F11 F15 F16
  subst hg
  (try simp only[inS,deadS,pointsS,oneB,oneI,Bool.and_eq_true,Bool.or_eq_true,Bool.not_eq_true,Bool.not_eq_true',Bool.not_eq_eq_eq_not,Bool.not_true,Bool.not_false,decide_eq_true_eq,decide_eq_false_iff_not])<;>grind (splits:=100)
 have c263:(B T 263)=true↔((B T 196)=true∧(inS g (I T 3)=true∧(I T 3) % 2=(I T 2)∧¬deadS g (I T 3)=true∧0≤(I T 23)∧(I T 23)≤pointsS g (I T 3)∧(I T 24)= -1∧((B T 21)=true→bisqS (I T 0)=true))):=by
  clear c46 c65 c84 c104 c106 c130 c134 c140 c151 c160 c169 c170 c182 c188 c191 c195 c228 c262
  obtain⟨-,-,-,-,-,-,e230,-,e232,e233,-,e235,e236,-,e238,-⟩:=F12
  obtain⟨e240,e241,-,-,e244,e245,-,e247,e248,-,-,-,e252,e253,e254,-⟩:=F13
  obtain⟨e256,e257,-,-,e260,e261,-,e263,-⟩:=F14
  simp only[fact,bR_e,bR_n,Bool.not_eq_true',Bool.not_eq_true,iR_e,iR_c,pickI,pickB,and_false,or_false,op2P] at e230 e232 e233 e235 e236 e238 e240 e241 e244 e245 e247 e248 e252 e253 e254 e256 e257 e260 e261 e263
  clear F0 F1 F2 F3 F4 F5 F6 F7 F8 F9 F10 F11 F15 F16
  subst hg
  (try simp only[inS,deadS,pointsS,oneB,oneI,Bool.and_eq_true,Bool.or_eq_true,Bool.not_eq_true,Bool.not_eq_true',Bool.not_eq_eq_eq_not,Bool.not_true,Bool.not_false,decide_eq_true_eq,decide_eq_false_iff_not])<;>grind (splits:=100)
 have c283:(B T 263)=true→((B T 283)=true↔(((I T 1)=2∧inS g (I T 4)=true∧¬(I T 4)=(I T 3)∧¬deadS g (I T 4)=true)∨(¬(I T 1)=2∧(I T 4)= -1))):=by
  clear c46 c65 c84 c104 c106 c130 c134 c140 c151 c160 c169 c170 c182 c188 c191 c195 c228 c262 c263
  obtain⟨-,-,-,-,-,-,-,-,e264,e265,e266,-,e268,-,e270,e271,-⟩:=F14
  obtain⟨-,e273,e274,-,-,e277,e278,-,-,e281,e282,e283,-⟩:=F15
  simp only[fact,bR_e,bR_n,Bool.not_eq_true',Bool.not_eq_true,iR_e,iR_c,pickI,pickB,and_false,or_false,lR_e,lR_c] at e264 e265 e266 e268 e270 e271 e273 e274 e277 e278 e281 e282 e283
  clear F0 F1 F2 F3 F4 F5 F6 F7 F8 F9 F10 F11 F12 F13 F16
  subst hg
  (try simp only[inS,deadS,oneB,Bool.and_eq_true,Bool.or_eq_true,Bool.not_eq_true,Bool.not_eq_true',Bool.not_eq_eq_eq_not,Bool.not_true,Bool.not_false,decide_eq_true_eq,decide_eq_false_iff_not])<;>grind (splits:=100)
 have q0:(B T 296)=(casesS g&&sidesS g&&((turnS g&&turnsS g)||(!turnS g&&restsS g))):=by
  clear c46 c65 c84 c104 c134 c140 c151 c160 c182
  obtain⟨-,-,-,-,e196,e197,-⟩:=F10
  obtain⟨-,-,-,-,-,-,-,-,-,-,-,-,-,e285,-,e287,-⟩:=F15
  obtain⟨-,e289,-,e291,-,-,-,-,e296,-⟩:=F16
  simp only[fact,bR_e,bR_n,Bool.not_eq_true',Bool.not_eq_true,bR_c,Bool.false_eq_true,eq_self,and_true,and_false,or_false,false_or,true_and,false_and,iR_e,iR_c,lR_e,lR_c] at e196 e197 e285 e287 e289 e291 e296
  clear F0 F1 F2 F3 F4 F5 F6 F7 F8 F9 F11 F12 F13 F14
  subst hg
  refine iff_eq ?_
  (try simp only[casesS,turnsS,Bool.and_eq_true,Bool.or_eq_true,Bool.not_eq_true,Bool.not_eq_true',Bool.not_eq_eq_eq_not,Bool.not_true,Bool.not_false,decide_eq_true_eq,decide_eq_false_iff_not])<;>(try constructor)<;>grind (splits:=100)
 have r0:B T 280=true→0≤(I T 4)∧(I T 4) < 4:=by
  clear c46 c65 c84 c104 c130 c134 c140 c151 c160 c169 c182 c188 c228 c262 c283
  obtain⟨-,-,-,-,e196,-⟩:=F10
  obtain⟨-,-,-,-,-,-,-,-,e264,-,-,e267,e268,-,e270,e271,-⟩:=F14
  obtain⟨-,e273,e274,-,-,e277,e278,-,e280,-⟩:=F15
  simp only[fact,bR_e,bR_n,Bool.not_eq_true',Bool.not_eq_true,iR_e,iR_c,pickI,pickB,and_false,or_false] at e196 e264 e267 e268 e270 e271 e273 e274 e277 e278 e280
  clear F0 F1 F2 F3 F4 F5 F6 F7 F8 F9 F11 F12 F13 F16
  grind (splits:=100)
 have r1:B T 272=true→0≤(I T 4)∧(I T 4) < 4:=by
  clear c46 c65 c84 c104 c130 c134 c140 c151 c160 c169 c182 c188 c228 c262 c283
  obtain⟨-,-,-,-,e196,-⟩:=F10
  obtain⟨-,-,-,-,-,-,-,-,e264,-,-,e267,e268,-,e270,e271,-⟩:=F14
  obtain⟨e272,-⟩:=F15
  simp only[fact,bR_e,bR_n,Bool.not_eq_true',Bool.not_eq_true,iR_e,iR_c] at e196 e264 e267 e268 e270 e271 e272
  clear F0 F1 F2 F3 F4 F5 F6 F7 F8 F9 F11 F12 F13 F16
  grind (splits:=100)
 have r2:B T 251=true→0≤(I T 3)∧(I T 3) < 4:=by
  clear c46 c65 c84 c104 c130 c134 c140 c151 c160 c169 c182 c188 c228 c262 c263 c283
  obtain⟨-,-,-,-,e196,-⟩:=F10
  obtain⟨-,-,-,-,-,-,e230,-,e232,e233,-,e235,e236,-,e238,-⟩:=F12
  obtain⟨e240,e241,-,-,e244,e245,-,e247,e248,-,-,e251,-⟩:=F13
  simp only[fact,bR_e,bR_n,Bool.not_eq_true',Bool.not_eq_true,iR_e,iR_c,pickI,pickB,and_false,or_false,op2P] at e196 e230 e232 e233 e235 e236 e238 e240 e241 e244 e245 e247 e248 e251
  clear F0 F1 F2 F3 F4 F5 F6 F7 F8 F9 F11 F14 F15 F16
  grind (splits:=100)
 have r3:B T 243=true→0≤(I T 3)∧(I T 3) < 4:=by
  clear c46 c65 c84 c104 c130 c134 c140 c151 c160 c169 c182 c188 c228 c262 c263 c283
  obtain⟨-,-,-,-,e196,-⟩:=F10
  obtain⟨-,-,-,-,-,-,e230,-,e232,e233,-,e235,e236,-,e238,-⟩:=F12
  obtain⟨e240,e241,-,e243,-⟩:=F13
  simp only[fact,bR_e,bR_n,Bool.not_eq_true',Bool.not_eq_true,iR_e,iR_c,pickI,pickB,and_false,or_false,op2P] at e196 e230 e232 e233 e235 e236 e238 e240 e241 e243
  clear F0 F1 F2 F3 F4 F5 F6 F7 F8 F9 F11 F14 F15 F16
  grind (splits:=100)
 have r4:B T 234=true→0≤(I T 3)∧(I T 3) < 4:=by
  clear c46 c65 c84 c104 c130 c134 c140 c151 c160 c169 c182 c188 c228 c262 c263 c283
  obtain⟨-,-,-,-,e196,-⟩:=F10
  obtain⟨-,-,-,-,-,-,e230,-,e232,e233,e234,-⟩:=F12
  simp only[fact,bR_e,iR_e,iR_c] at e196 e230 e232 e233 e234
  clear F0 F1 F2 F3 F4 F5 F6 F7 F8 F9 F11 F13 F14 F15 F16
  grind (splits:=100)
 have r5:B T 216=true→0≤(I T 24)∧(I T 24) < 4:=by
  clear c46 c65 c84 c104 c130 c134 c140 c151 c160 c169 c182 c188 c228 c262 c263 c283
  obtain⟨-,-,-,-,-,e197,e198,-,e200,e201,-,e203,e204,-,e206,-⟩:=F10
  obtain⟨e208,e209,-,e211,e212,-,e214,e215,e216,-⟩:=F11
  simp only[fact,bR_e,bR_n,Bool.not_eq_true',Bool.not_eq_true,bR_c,Bool.false_eq_true,eq_self,and_true,and_false,or_false,false_or,true_and,false_and,iR_e,iR_c,eqsP] at e197 e198 e200 e201 e203 e204 e206 e208 e209 e211 e212 e214 e215 e216
  clear F0 F1 F2 F3 F4 F5 F6 F7 F8 F9 F12 F13 F14 F15 F16
  grind (splits:=100)
 refine⟨⟨r0,r1,r2,r3,r4,r5,trivial⟩,hO.trans ?_⟩
 exact (lc (by show U.bool (B T 296)= .bool (o_glegal_0 us);unfold o_glegal_0;rw[hgu];exact congrArg U.bool q0) rfl)
end Go.Eng
end
