/-
  A part of the proof: K_rplayd K_rplay.
-/
import Derived.Test.YtcinpabggaepfaaE3
import Derived.Test.YtcinpabggaepfaaE4
import Derived.Test.YtcinpabggaepfaaKlaws
import Derived.Test.YtcinpabggaepfaaKrend
import Derived.Test.YtcinpabggaepfaaKrbegin
import Derived.Test.YtcinpabggaepfaaKrstroke
set_option linter.unusedVariables false
set_option linter.unusedSimpArgs false
section
open Go Go.Eng Go.Proofs
set_option maxHeartbeats 4000000
set_option maxRecDepth 100000
namespace Go.Eng
def og_rplay (us:List U):Gm:=playS (gAt 0 us) (aI us 26) (aI us 27) (aL us 29)
def o_rplay_0 (us:List U):Int:=(og_rplay us).code
def o_rplay_1 (us:List U):Int:=(og_rplay us).phase
def o_rplay_2 (us:List U):Int:=(og_rplay us).side
def o_rplay_3 (us:List U):Int:=(og_rplay us).ball
def o_rplay_4 (us:List U):Int:=(og_rplay us).taken
def o_rplay_5 (us:List U):Int:=(og_rplay us).p0
def o_rplay_6 (us:List U):Int:=(og_rplay us).p1
def o_rplay_7 (us:List U):Int:=(og_rplay us).p2
def o_rplay_8 (us:List U):Int:=(og_rplay us).p3
def o_rplay_9 (us:List U):Bool:=(og_rplay us).n0
def o_rplay_10 (us:List U):Bool:=(og_rplay us).n1
def o_rplay_11 (us:List U):Bool:=(og_rplay us).n2
def o_rplay_12 (us:List U):Bool:=(og_rplay us).n3
def o_rplay_13 (us:List U):Bool:=(og_rplay us).d0
def o_rplay_14 (us:List U):Bool:=(og_rplay us).d1
def o_rplay_15 (us:List U):Bool:=(og_rplay us).d2
def o_rplay_16 (us:List U):Bool:=(og_rplay us).d3
def o_rplay_17 (us:List U):Int:=(og_rplay us).h0
def o_rplay_18 (us:List U):Int:=(og_rplay us).h1
def o_rplay_19 (us:List U):Bool:=(og_rplay us).l0
def o_rplay_20 (us:List U):Bool:=(og_rplay us).l1
def o_rplay_21 (us:List U):Bool:=(og_rplay us).half
def o_rplay_22 (us:List U):Int:=(og_rplay us).turns
def o_rplay_23 (us:List U):Int:=(og_rplay us).began
def o_rplay_24 (us:List U):Int:=(og_rplay us).lastb
def o_rplay_25 (us:List U):Int:=(og_rplay us).winner
def p_rplay_0:List U→Prop:=fun us=>legalS (gAt 0 us)=true
def p_rplay_1:List U→Prop:=fun us=>(aI us 26)=2→turnS (gAt 0 us)=true∧eventsS (gAt 0 us) (aL us 29)=true
def p_rplay_2:List U→Prop:=fun us=>¬(aI us 26)=2→¬(aI us 26)=3→0≤(aI us 27)∧(aI us 27)≤3
def t_rplay:Tmpl:={ sh:=[.agg [k64,k64,k64,k64,k64,k64,k64,k64,k64,.bool,.bool,.bool,.bool,.bool,.bool,.bool,.bool,k64,k64,.bool,.bool,.bool,k64,k64,k64,k64],.agg [k64,k64,.bool,.list [k64,k64]]],blks:=[],outs:=[(.s "rplay.0",outUI o_rplay_0),(.s "rplay.1",outUI o_rplay_1),(.s "rplay.2",outUI o_rplay_2),(.s "rplay.3",outUI o_rplay_3),(.s "rplay.4",outUI o_rplay_4),(.s "rplay.5",outUI o_rplay_5),(.s "rplay.6",outUI o_rplay_6),(.s "rplay.7",outUI o_rplay_7),(.s "rplay.8",outUI o_rplay_8),(.s "rplay.9",outUB o_rplay_9),(.s "rplay.10",outUB o_rplay_10),(.s "rplay.11",outUB o_rplay_11),(.s "rplay.12",outUB o_rplay_12),(.s "rplay.13",outUB o_rplay_13),(.s "rplay.14",outUB o_rplay_14),(.s "rplay.15",outUB o_rplay_15),(.s "rplay.16",outUB o_rplay_16),(.s "rplay.17",outUI o_rplay_17),(.s "rplay.18",outUI o_rplay_18),(.s "rplay.19",outUB o_rplay_19),(.s "rplay.20",outUB o_rplay_20),(.s "rplay.21",outUB o_rplay_21),(.s "rplay.22",outUI o_rplay_22),(.s "rplay.23",outUI o_rplay_23),(.s "rplay.24",outUI o_rplay_24),(.s "rplay.25",outUI o_rplay_25)],c:= .agg [(aI64 30),(aI64 31),(aI64 32),(aI64 33),(aI64 34),(aI64 35),(aI64 36),(aI64 37),(aI64 38),.b 39,.b 40,.b 41,.b 42,.b 43,.b 44,.b 45,.b 46,(aI64 47),(aI64 48),.b 49,.b 50,.b 51,(aI64 52),(aI64 53),(aI64 54),(aI64 55)],m':=[],pre:=[(.s "rplay.p0",p_rplay_0),(.s "rplay.p1",p_rplay_1),(.s "rplay.p2",p_rplay_2)] }
def v_rplay_0:List Rf:=[.e 0,.e 1,.e 2,.e 3,.e 4,.e 5,.e 6,.e 7,.e 8,.e 9,.e 10,.e 11,.e 12,.e 13,.e 14,.e 15,.e 16,.e 17,.e 18,.e 19,.e 20,.e 21,.e 22,.e 23,.e 24,.e 25,.e 27]
def v_rplay_1:List Rf:=[.e 0,.e 1,.e 2,.e 3,.e 4,.e 5,.e 6,.e 7,.e 8,.e 9,.e 10,.e 11,.e 12,.e 13,.e 14,.e 15,.e 16,.e 17,.e 18,.e 19,.e 20,.e 21,.e 22,.e 23,.e 24,.e 25,.e 29]
def v_rplay_2:List Rf:=[.e 0,.e 1,.e 2,.e 3,.e 4,.e 5,.e 6,.e 7,.e 8,.e 9,.e 10,.e 11,.e 12,.e 13,.e 14,.e 15,.e 16,.e 17,.e 18,.e 19,.e 20,.e 21,.e 102,.e 23,.e 24,.e 25]
def w_rplay:List (Nat × Ty):=[(282,.i),(283,.i),(284,.i),(285,.i),(286,.i),(287,.i),(288,.i),(289,.i),(290,.i),(291,.b),(292,.b),(293,.b),(294,.b),(295,.b),(296,.b),(297,.b),(298,.b),(299,.i),(300,.i),(301,.b),(302,.b),(303,.b),(304,.i),(305,.i),(306,.i),(307,.i)]
noncomputable def a_rplay_0_0:List En:=[⟨30,.eq,[.e 26,.c (.int 1)]⟩,
 ⟨31,.outI "rbegin.0" o_rbegin_0,v_rplay_0⟩,
 ⟨32,.outI "rbegin.1" o_rbegin_1,v_rplay_0⟩,
 ⟨33,.outI "rbegin.2" o_rbegin_2,v_rplay_0⟩,
 ⟨34,.outI "rbegin.3" o_rbegin_3,v_rplay_0⟩,
 ⟨35,.outI "rbegin.4" o_rbegin_4,v_rplay_0⟩,
 ⟨36,.outI "rbegin.5" o_rbegin_5,v_rplay_0⟩,
 ⟨37,.outI "rbegin.6" o_rbegin_6,v_rplay_0⟩,
 ⟨38,.outI "rbegin.7" o_rbegin_7,v_rplay_0⟩,
 ⟨39,.outI "rbegin.8" o_rbegin_8,v_rplay_0⟩,
 ⟨40,.outB "rbegin.9" o_rbegin_9,v_rplay_0⟩,
 ⟨41,.outB "rbegin.10" o_rbegin_10,v_rplay_0⟩,
 ⟨42,.outB "rbegin.11" o_rbegin_11,v_rplay_0⟩,
 ⟨43,.outB "rbegin.12" o_rbegin_12,v_rplay_0⟩,
 ⟨44,.outB "rbegin.13" o_rbegin_13,v_rplay_0⟩,
 ⟨45,.outB "rbegin.14" o_rbegin_14,v_rplay_0⟩]
noncomputable def a_rplay_0_1:List En:=[⟨46,.outB "rbegin.15" o_rbegin_15,v_rplay_0⟩,
 ⟨47,.outB "rbegin.16" o_rbegin_16,v_rplay_0⟩,
 ⟨48,.outI "rbegin.17" o_rbegin_17,v_rplay_0⟩,
 ⟨49,.outI "rbegin.18" o_rbegin_18,v_rplay_0⟩,
 ⟨50,.outB "rbegin.19" o_rbegin_19,v_rplay_0⟩,
 ⟨51,.outB "rbegin.20" o_rbegin_20,v_rplay_0⟩,
 ⟨52,.outB "rbegin.21" o_rbegin_21,v_rplay_0⟩,
 ⟨53,.outI "rbegin.22" o_rbegin_22,v_rplay_0⟩,
 ⟨54,.outI "rbegin.23" o_rbegin_23,v_rplay_0⟩,
 ⟨55,.outI "rbegin.24" o_rbegin_24,v_rplay_0⟩,
 ⟨56,.outI "rbegin.25" o_rbegin_25,v_rplay_0⟩,
 ⟨57,.eq,[.e 33,.c (.int 0)]⟩,
 ⟨58,.ite .b,[.e 57,.c (.bool false),.e 50]⟩,
 ⟨59,.eq,[.e 33,.c (.int 1)]⟩,
 ⟨60,.ite .b,[.e 59,.c (.bool false),.e 51]⟩,
 ⟨61,.not,[.e 30]⟩]
noncomputable def a_rplay_0_2:List En:=[⟨62,.eq,[.e 26,.c (.int 2)]⟩,
 ⟨63,.and,[.e 61,.e 62]⟩,
 ⟨64,.outI "rstroke.0" o_rstroke_0,v_rplay_1⟩,
 ⟨65,.outI "rstroke.1" o_rstroke_1,v_rplay_1⟩,
 ⟨66,.outI "rstroke.2" o_rstroke_2,v_rplay_1⟩,
 ⟨67,.outI "rstroke.3" o_rstroke_3,v_rplay_1⟩,
 ⟨68,.outI "rstroke.4" o_rstroke_4,v_rplay_1⟩,
 ⟨69,.outI "rstroke.5" o_rstroke_5,v_rplay_1⟩,
 ⟨70,.outI "rstroke.6" o_rstroke_6,v_rplay_1⟩,
 ⟨71,.outI "rstroke.7" o_rstroke_7,v_rplay_1⟩,
 ⟨72,.outI "rstroke.8" o_rstroke_8,v_rplay_1⟩,
 ⟨73,.outB "rstroke.9" o_rstroke_9,v_rplay_1⟩,
 ⟨74,.outB "rstroke.10" o_rstroke_10,v_rplay_1⟩,
 ⟨75,.outB "rstroke.11" o_rstroke_11,v_rplay_1⟩,
 ⟨76,.outB "rstroke.12" o_rstroke_12,v_rplay_1⟩,
 ⟨77,.outB "rstroke.13" o_rstroke_13,v_rplay_1⟩]
noncomputable def a_rplay_0_3:List En:=[⟨78,.outB "rstroke.14" o_rstroke_14,v_rplay_1⟩,
 ⟨79,.outB "rstroke.15" o_rstroke_15,v_rplay_1⟩,
 ⟨80,.outB "rstroke.16" o_rstroke_16,v_rplay_1⟩,
 ⟨81,.outI "rstroke.17" o_rstroke_17,v_rplay_1⟩,
 ⟨82,.outI "rstroke.18" o_rstroke_18,v_rplay_1⟩,
 ⟨83,.outB "rstroke.19" o_rstroke_19,v_rplay_1⟩,
 ⟨84,.outB "rstroke.20" o_rstroke_20,v_rplay_1⟩,
 ⟨85,.outB "rstroke.21" o_rstroke_21,v_rplay_1⟩,
 ⟨86,.outI "rstroke.22" o_rstroke_22,v_rplay_1⟩,
 ⟨87,.outI "rstroke.23" o_rstroke_23,v_rplay_1⟩,
 ⟨88,.outI "rstroke.24" o_rstroke_24,v_rplay_1⟩,
 ⟨89,.outI "rstroke.25" o_rstroke_25,v_rplay_1⟩,
 ⟨90,.and,[.e 61,.n 62]⟩,
 ⟨91,.eq,[.e 26,.c (.int 3)]⟩,
 ⟨92,.and,[.e 90,.e 91]⟩,
 ⟨93,.eq,[.e 1,.c (.int 0)]⟩]
noncomputable def a_rplay_0_4:List En:=[⟨94,.and,[.e 92,.e 93]⟩,
 ⟨95,.eq,[.e 22,.c (.int 1073741824)]⟩,
 ⟨96,.and,[.e 94,.e 95]⟩,
 ⟨97,.and,[.e 94,.n 95]⟩,
 ⟨98,.w2 .i64 .add,[.e 22,.c (.int 1)]⟩,
 ⟨99,.ite .i,[.e 96,.c (.int 1073741823),.e 98]⟩,
 ⟨100,.or,[.e 96,.e 97]⟩,
 ⟨101,.and,[.e 92,.n 93]⟩,
 ⟨102,.ite .i,[.e 93,.e 99,.e 22]⟩,
 ⟨103,.outI "rend.0" o_rend_0,v_rplay_2⟩,
 ⟨104,.outI "rend.1" o_rend_1,v_rplay_2⟩,
 ⟨105,.outI "rend.2" o_rend_2,v_rplay_2⟩,
 ⟨106,.outI "rend.3" o_rend_3,v_rplay_2⟩,
 ⟨107,.outI "rend.4" o_rend_4,v_rplay_2⟩,
 ⟨108,.outI "rend.5" o_rend_5,v_rplay_2⟩,
 ⟨109,.outI "rend.6" o_rend_6,v_rplay_2⟩]
noncomputable def a_rplay_0_5:List En:=[⟨110,.outI "rend.7" o_rend_7,v_rplay_2⟩,
 ⟨111,.outI "rend.8" o_rend_8,v_rplay_2⟩,
 ⟨112,.outB "rend.9" o_rend_9,v_rplay_2⟩,
 ⟨113,.outB "rend.10" o_rend_10,v_rplay_2⟩,
 ⟨114,.outB "rend.11" o_rend_11,v_rplay_2⟩,
 ⟨115,.outB "rend.12" o_rend_12,v_rplay_2⟩,
 ⟨116,.outB "rend.13" o_rend_13,v_rplay_2⟩,
 ⟨117,.outB "rend.14" o_rend_14,v_rplay_2⟩,
 ⟨118,.outB "rend.15" o_rend_15,v_rplay_2⟩,
 ⟨119,.outB "rend.16" o_rend_16,v_rplay_2⟩,
 ⟨120,.outI "rend.17" o_rend_17,v_rplay_2⟩,
 ⟨121,.outI "rend.18" o_rend_18,v_rplay_2⟩,
 ⟨122,.outB "rend.19" o_rend_19,v_rplay_2⟩,
 ⟨123,.outB "rend.20" o_rend_20,v_rplay_2⟩,
 ⟨124,.outB "rend.21" o_rend_21,v_rplay_2⟩,
 ⟨125,.outI "rend.22" o_rend_22,v_rplay_2⟩]
noncomputable def a_rplay_0_6:List En:=[⟨126,.outI "rend.23" o_rend_23,v_rplay_2⟩,
 ⟨127,.outI "rend.24" o_rend_24,v_rplay_2⟩,
 ⟨128,.outI "rend.25" o_rend_25,v_rplay_2⟩,
 ⟨129,.and,[.e 90,.n 91]⟩,
 ⟨130,.eq,[.e 26,.c (.int 4)]⟩,
 ⟨131,.and,[.e 129,.e 130]⟩,
 ⟨132,.outI "rbegin.0" o_rbegin_0,v_rplay_0⟩,
 ⟨133,.outI "rbegin.1" o_rbegin_1,v_rplay_0⟩,
 ⟨134,.outI "rbegin.2" o_rbegin_2,v_rplay_0⟩,
 ⟨135,.outI "rbegin.3" o_rbegin_3,v_rplay_0⟩,
 ⟨136,.outI "rbegin.4" o_rbegin_4,v_rplay_0⟩,
 ⟨137,.outI "rbegin.5" o_rbegin_5,v_rplay_0⟩,
 ⟨138,.outI "rbegin.6" o_rbegin_6,v_rplay_0⟩,
 ⟨139,.outI "rbegin.7" o_rbegin_7,v_rplay_0⟩,
 ⟨140,.outI "rbegin.8" o_rbegin_8,v_rplay_0⟩,
 ⟨141,.outB "rbegin.9" o_rbegin_9,v_rplay_0⟩]
noncomputable def a_rplay_0_7:List En:=[⟨142,.outB "rbegin.10" o_rbegin_10,v_rplay_0⟩,
 ⟨143,.outB "rbegin.11" o_rbegin_11,v_rplay_0⟩,
 ⟨144,.outB "rbegin.12" o_rbegin_12,v_rplay_0⟩,
 ⟨145,.outB "rbegin.13" o_rbegin_13,v_rplay_0⟩,
 ⟨146,.outB "rbegin.14" o_rbegin_14,v_rplay_0⟩,
 ⟨147,.outB "rbegin.15" o_rbegin_15,v_rplay_0⟩,
 ⟨148,.outB "rbegin.16" o_rbegin_16,v_rplay_0⟩,
 ⟨149,.outI "rbegin.17" o_rbegin_17,v_rplay_0⟩,
 ⟨150,.outI "rbegin.18" o_rbegin_18,v_rplay_0⟩,
 ⟨151,.outB "rbegin.19" o_rbegin_19,v_rplay_0⟩,
 ⟨152,.outB "rbegin.20" o_rbegin_20,v_rplay_0⟩,
 ⟨153,.outB "rbegin.21" o_rbegin_21,v_rplay_0⟩,
 ⟨154,.outI "rbegin.22" o_rbegin_22,v_rplay_0⟩,
 ⟨155,.outI "rbegin.23" o_rbegin_23,v_rplay_0⟩,
 ⟨156,.outI "rbegin.24" o_rbegin_24,v_rplay_0⟩,
 ⟨157,.outI "rbegin.25" o_rbegin_25,v_rplay_0⟩]
noncomputable def a_rplay_0_8:List En:=[⟨158,.pick .i,[.e 134,.e 149,.e 150]⟩,
 ⟨159,.w2 .i64 .sub,[.e 158,.c (.int 2)]⟩,
 ⟨160,.eq,[.e 134,.c (.int 0)]⟩,
 ⟨161,.ite .i,[.e 160,.e 159,.e 149]⟩,
 ⟨162,.eq,[.e 134,.c (.int 1)]⟩,
 ⟨163,.ite .i,[.e 162,.e 159,.e 150]⟩,
 ⟨164,.and,[.e 129,.n 130]⟩,
 ⟨165,.ite .i,[.e 91,.e 102,.e 22]⟩,
 ⟨166,.ite .i,[.e 91,.e 103,.e 132]⟩,
 ⟨167,.ite .i,[.e 91,.e 104,.e 133]⟩,
 ⟨168,.ite .i,[.e 91,.e 105,.e 134]⟩,
 ⟨169,.ite .i,[.e 91,.e 106,.e 135]⟩,
 ⟨170,.ite .i,[.e 91,.e 107,.e 136]⟩,
 ⟨171,.ite .i,[.e 91,.e 108,.e 137]⟩,
 ⟨172,.ite .i,[.e 91,.e 109,.e 138]⟩,
 ⟨173,.ite .i,[.e 91,.e 110,.e 139]⟩]
noncomputable def a_rplay_0_9:List En:=[⟨174,.ite .i,[.e 91,.e 111,.e 140]⟩,
 ⟨175,.ite .b,[.e 91,.e 112,.e 141]⟩,
 ⟨176,.ite .b,[.e 91,.e 113,.e 142]⟩,
 ⟨177,.ite .b,[.e 91,.e 114,.e 143]⟩,
 ⟨178,.ite .b,[.e 91,.e 115,.e 144]⟩,
 ⟨179,.ite .b,[.e 91,.e 116,.e 145]⟩,
 ⟨180,.ite .b,[.e 91,.e 117,.e 146]⟩,
 ⟨181,.ite .b,[.e 91,.e 118,.e 147]⟩,
 ⟨182,.ite .b,[.e 91,.e 119,.e 148]⟩,
 ⟨183,.ite .i,[.e 91,.e 120,.e 161]⟩,
 ⟨184,.ite .i,[.e 91,.e 121,.e 163]⟩,
 ⟨185,.ite .b,[.e 91,.e 122,.e 151]⟩,
 ⟨186,.ite .b,[.e 91,.e 123,.e 152]⟩,
 ⟨187,.ite .b,[.e 91,.e 124,.e 153]⟩,
 ⟨188,.ite .i,[.e 91,.e 125,.e 154]⟩,
 ⟨189,.ite .i,[.e 91,.e 126,.e 155]⟩]
noncomputable def a_rplay_0_10:List En:=[⟨190,.ite .i,[.e 91,.e 127,.e 156]⟩,
 ⟨191,.ite .i,[.e 91,.e 128,.e 157]⟩,
 ⟨192,.or,[.e 92,.e 131]⟩,
 ⟨193,.ite .i,[.e 62,.e 22,.e 165]⟩,
 ⟨194,.ite .i,[.e 62,.e 64,.e 166]⟩,
 ⟨195,.ite .i,[.e 62,.e 65,.e 167]⟩,
 ⟨196,.ite .i,[.e 62,.e 66,.e 168]⟩,
 ⟨197,.ite .i,[.e 62,.e 67,.e 169]⟩,
 ⟨198,.ite .i,[.e 62,.e 68,.e 170]⟩,
 ⟨199,.ite .i,[.e 62,.e 69,.e 171]⟩,
 ⟨200,.ite .i,[.e 62,.e 70,.e 172]⟩,
 ⟨201,.ite .i,[.e 62,.e 71,.e 173]⟩,
 ⟨202,.ite .i,[.e 62,.e 72,.e 174]⟩,
 ⟨203,.ite .b,[.e 62,.e 73,.e 175]⟩,
 ⟨204,.ite .b,[.e 62,.e 74,.e 176]⟩,
 ⟨205,.ite .b,[.e 62,.e 75,.e 177]⟩]
noncomputable def a_rplay_0_11:List En:=[⟨206,.ite .b,[.e 62,.e 76,.e 178]⟩,
 ⟨207,.ite .b,[.e 62,.e 77,.e 179]⟩,
 ⟨208,.ite .b,[.e 62,.e 78,.e 180]⟩,
 ⟨209,.ite .b,[.e 62,.e 79,.e 181]⟩,
 ⟨210,.ite .b,[.e 62,.e 80,.e 182]⟩,
 ⟨211,.ite .i,[.e 62,.e 81,.e 183]⟩,
 ⟨212,.ite .i,[.e 62,.e 82,.e 184]⟩,
 ⟨213,.ite .b,[.e 62,.e 83,.e 185]⟩,
 ⟨214,.ite .b,[.e 62,.e 84,.e 186]⟩,
 ⟨215,.ite .b,[.e 62,.e 85,.e 187]⟩,
 ⟨216,.ite .i,[.e 62,.e 86,.e 188]⟩,
 ⟨217,.ite .i,[.e 62,.e 87,.e 189]⟩,
 ⟨218,.ite .i,[.e 62,.e 88,.e 190]⟩,
 ⟨219,.ite .i,[.e 62,.e 89,.e 191]⟩,
 ⟨220,.or,[.e 63,.e 192]⟩,
 ⟨221,.ite .i,[.e 30,.e 22,.e 193]⟩]
noncomputable def a_rplay_0_12:List En:=[⟨222,.ite .i,[.e 30,.e 31,.e 194]⟩,
 ⟨223,.ite .i,[.e 30,.e 32,.e 195]⟩,
 ⟨224,.ite .i,[.e 30,.e 33,.e 196]⟩,
 ⟨225,.ite .i,[.e 30,.e 34,.e 197]⟩,
 ⟨226,.ite .i,[.e 30,.e 35,.e 198]⟩,
 ⟨227,.ite .i,[.e 30,.e 36,.e 199]⟩,
 ⟨228,.ite .i,[.e 30,.e 37,.e 200]⟩,
 ⟨229,.ite .i,[.e 30,.e 38,.e 201]⟩,
 ⟨230,.ite .i,[.e 30,.e 39,.e 202]⟩,
 ⟨231,.ite .b,[.e 30,.e 40,.e 203]⟩,
 ⟨232,.ite .b,[.e 30,.e 41,.e 204]⟩,
 ⟨233,.ite .b,[.e 30,.e 42,.e 205]⟩,
 ⟨234,.ite .b,[.e 30,.e 43,.e 206]⟩,
 ⟨235,.ite .b,[.e 30,.e 44,.e 207]⟩,
 ⟨236,.ite .b,[.e 30,.e 45,.e 208]⟩,
 ⟨237,.ite .b,[.e 30,.e 46,.e 209]⟩]
noncomputable def a_rplay_0_13:List En:=[⟨238,.ite .b,[.e 30,.e 47,.e 210]⟩,
 ⟨239,.ite .i,[.e 30,.e 48,.e 211]⟩,
 ⟨240,.ite .i,[.e 30,.e 49,.e 212]⟩,
 ⟨241,.ite .b,[.e 30,.e 58,.e 213]⟩,
 ⟨242,.ite .b,[.e 30,.e 60,.e 214]⟩,
 ⟨243,.ite .b,[.e 30,.e 52,.e 215]⟩,
 ⟨244,.ite .i,[.e 30,.e 53,.e 216]⟩,
 ⟨245,.ite .i,[.e 30,.e 54,.e 217]⟩,
 ⟨246,.ite .i,[.e 30,.e 55,.e 218]⟩,
 ⟨247,.ite .i,[.e 30,.e 56,.e 219]⟩,
 ⟨248,.or,[.e 30,.e 220]⟩,
 ⟨249,.outI "rbegin.0" o_rbegin_0,v_rplay_0⟩,
 ⟨250,.outI "rbegin.1" o_rbegin_1,v_rplay_0⟩,
 ⟨251,.outI "rbegin.2" o_rbegin_2,v_rplay_0⟩,
 ⟨252,.outI "rbegin.3" o_rbegin_3,v_rplay_0⟩,
 ⟨253,.outI "rbegin.4" o_rbegin_4,v_rplay_0⟩]
noncomputable def a_rplay_0_14:List En:=[⟨254,.outI "rbegin.5" o_rbegin_5,v_rplay_0⟩,
 ⟨255,.outI "rbegin.6" o_rbegin_6,v_rplay_0⟩,
 ⟨256,.outI "rbegin.7" o_rbegin_7,v_rplay_0⟩,
 ⟨257,.outI "rbegin.8" o_rbegin_8,v_rplay_0⟩,
 ⟨258,.outB "rbegin.9" o_rbegin_9,v_rplay_0⟩,
 ⟨259,.outB "rbegin.10" o_rbegin_10,v_rplay_0⟩,
 ⟨260,.outB "rbegin.11" o_rbegin_11,v_rplay_0⟩,
 ⟨261,.outB "rbegin.12" o_rbegin_12,v_rplay_0⟩,
 ⟨262,.outB "rbegin.13" o_rbegin_13,v_rplay_0⟩,
 ⟨263,.outB "rbegin.14" o_rbegin_14,v_rplay_0⟩,
 ⟨264,.outB "rbegin.15" o_rbegin_15,v_rplay_0⟩,
 ⟨265,.outB "rbegin.16" o_rbegin_16,v_rplay_0⟩,
 ⟨266,.outI "rbegin.17" o_rbegin_17,v_rplay_0⟩,
 ⟨267,.outI "rbegin.18" o_rbegin_18,v_rplay_0⟩,
 ⟨268,.outB "rbegin.19" o_rbegin_19,v_rplay_0⟩,
 ⟨269,.outB "rbegin.20" o_rbegin_20,v_rplay_0⟩]
noncomputable def a_rplay_0_15:List En:=[⟨270,.outB "rbegin.21" o_rbegin_21,v_rplay_0⟩,
 ⟨271,.outI "rbegin.22" o_rbegin_22,v_rplay_0⟩,
 ⟨272,.outI "rbegin.23" o_rbegin_23,v_rplay_0⟩,
 ⟨273,.outI "rbegin.24" o_rbegin_24,v_rplay_0⟩,
 ⟨274,.outI "rbegin.25" o_rbegin_25,v_rplay_0⟩,
 ⟨275,.pick .i,[.e 251,.e 266,.e 267]⟩,
 ⟨276,.w2 .i64 .sub,[.e 275,.c (.int 1)]⟩,
 ⟨277,.eq,[.e 251,.c (.int 0)]⟩,
 ⟨278,.ite .i,[.e 277,.e 276,.e 266]⟩,
 ⟨279,.eq,[.e 251,.c (.int 1)]⟩,
 ⟨280,.ite .i,[.e 279,.e 276,.e 267]⟩,
 ⟨281,.ite .i,[.e 248,.e 221,.e 22]⟩,
 ⟨282,.ite .i,[.e 248,.e 222,.e 249]⟩,
 ⟨283,.ite .i,[.e 248,.e 223,.e 250]⟩,
 ⟨284,.ite .i,[.e 248,.e 224,.e 251]⟩,
 ⟨285,.ite .i,[.e 248,.e 225,.e 252]⟩]
noncomputable def a_rplay_0_16:List En:=[⟨286,.ite .i,[.e 248,.e 226,.e 253]⟩,
 ⟨287,.ite .i,[.e 248,.e 227,.e 254]⟩,
 ⟨288,.ite .i,[.e 248,.e 228,.e 255]⟩,
 ⟨289,.ite .i,[.e 248,.e 229,.e 256]⟩,
 ⟨290,.ite .i,[.e 248,.e 230,.e 257]⟩,
 ⟨291,.ite .b,[.e 248,.e 231,.e 258]⟩,
 ⟨292,.ite .b,[.e 248,.e 232,.e 259]⟩,
 ⟨293,.ite .b,[.e 248,.e 233,.e 260]⟩,
 ⟨294,.ite .b,[.e 248,.e 234,.e 261]⟩,
 ⟨295,.ite .b,[.e 248,.e 235,.e 262]⟩,
 ⟨296,.ite .b,[.e 248,.e 236,.e 263]⟩,
 ⟨297,.ite .b,[.e 248,.e 237,.e 264]⟩,
 ⟨298,.ite .b,[.e 248,.e 238,.e 265]⟩,
 ⟨299,.ite .i,[.e 248,.e 239,.e 278]⟩,
 ⟨300,.ite .i,[.e 248,.e 240,.e 280]⟩,
 ⟨301,.ite .b,[.e 248,.e 241,.e 268]⟩]
noncomputable def a_rplay_0_17:List En:=[⟨302,.ite .b,[.e 248,.e 242,.e 269]⟩,
 ⟨303,.ite .b,[.e 248,.e 243,.c (.bool true)]⟩,
 ⟨304,.ite .i,[.e 248,.e 244,.e 271]⟩,
 ⟨305,.ite .i,[.e 248,.e 245,.e 272]⟩,
 ⟨306,.ite .i,[.e 248,.e 246,.e 273]⟩,
 ⟨307,.ite .i,[.e 248,.e 247,.e 274]⟩,
 ⟨308,.or,[.e 248,.e 164]⟩]
noncomputable def a_rplay_0:List En:=a_rplay_0_0++(a_rplay_0_1++(a_rplay_0_2++(a_rplay_0_3++(a_rplay_0_4++(a_rplay_0_5++(a_rplay_0_6++(a_rplay_0_7++(a_rplay_0_8++(a_rplay_0_9++(a_rplay_0_10++(a_rplay_0_11++(a_rplay_0_12++(a_rplay_0_13++(a_rplay_0_14++(a_rplay_0_15++(a_rplay_0_16++(a_rplay_0_17)))))))))))))))))
noncomputable def q_rplay:List ObE:=[⟨some 164,.inr,[.e 251,.c (.int 2)]⟩,
 ⟨some 164,.inr,[.e 251,.c (.int 2)]⟩,
 ⟨some 164,.pre "rbegin.p0" p_rbegin_0,v_rplay_0⟩,
 ⟨some 131,.inr,[.e 134,.c (.int 2)]⟩,
 ⟨some 131,.inr,[.e 134,.c (.int 2)]⟩,
 ⟨some 131,.pre "rbegin.p0" p_rbegin_0,v_rplay_0⟩,
 ⟨some 92,.pre "rend.p0" p_rend_0,v_rplay_2⟩,
 ⟨some 63,.pre "rstroke.p0" p_rstroke_0,v_rplay_1⟩,
 ⟨some 63,.pre "rstroke.p1" p_rstroke_1,v_rplay_1⟩,
 ⟨some 63,.pre "rstroke.p2" p_rstroke_2,v_rplay_1⟩,
 ⟨some 30,.inr,[.e 33,.c (.int 2)]⟩,
 ⟨some 30,.pre "rbegin.p0" p_rbegin_0,v_rplay_0⟩]
def r_rplay:List Rf:=[.e 282,.e 283,.e 284,.e 285,.e 286,.e 287,.e 288,.e 289,.e 290,.e 291,.e 292,.e 293,.e 294,.e 295,.e 296,.e 297,.e 298,.e 299,.e 300,.e 301,.e 302,.e 303,.e 304,.e 305,.e 306,.e 307]
end Go.Eng
end
section
open Go Go.Eng Go.Proofs
set_option maxHeartbeats 4000000
set_option maxRecDepth 100000
namespace Go.Eng
theorem s_rplay:t_rplay.sees r_rplay (t_rplay.run Try.prog [(43,t_laws),(62,t_rend),(60,t_rbegin),(61,t_rstroke)] hints 3000 20 39)=some ((a_rplay_0).map En.be,q_rplay.map ObE.be,[]):=by kernel_rfl
theorem m_rplay {T:Tab}(lo1: -9223372036854775808≤I T 1)(hi1:I T 1≤9223372036854775807)(hl29:(L T 29).length≤140737488355328)(g:Gm)(hg:g=Gm.mk (I T 0) (I T 1) (I T 2) (I T 3) (I T 4) (I T 5) (I T 6) (I T 7) (I T 8) (B T 9) (B T 10) (B T 11) (B T 12) (B T 13) (B T 14) (B T 15) (B T 16) (I T 17) (I T 18) (B T 19) (B T 20) (B T 21) (I T 22) (I T 23) (I T 24) (I T 25))(pre0:legalS g=true)(pre1:(I T 26)=2→turnS g=true∧eventsS g (L T 29)=true)(pre2:¬I T 26=2→¬I T 26=3→0≤I T 27∧I T 27≤3)(g1:Gm)(z1:g1=Gm.mk (I T 0) (I T 1) (I T 2) (I T 3) (I T 4) (I T 5) (I T 6) (I T 7) (I T 8) (B T 9) (B T 10) (B T 11) (B T 12) (B T 13) (B T 14) (B T 15) (B T 16) (I T 17) (I T 18) (B T 19) (B T 20) (B T 21) (I T 22) (I T 23) (I T 24) (I T 25))(g2:Gm)(z2:g2=Gm.mk (I T 0) (I T 1) (I T 2) (I T 3) (I T 4) (I T 5) (I T 6) (I T 7) (I T 8) (B T 9) (B T 10) (B T 11) (B T 12) (B T 13) (B T 14) (B T 15) (B T 16) (I T 17) (I T 18) (B T 19) (B T 20) (B T 21) (I T 22) (I T 23) (I T 24) (I T 25))(g3:Gm)(z3:g3=Gm.mk (I T 0) (I T 1) (I T 2) (I T 3) (I T 4) (I T 5) (I T 6) (I T 7) (I T 8) (B T 9) (B T 10) (B T 11) (B T 12) (B T 13) (B T 14) (B T 15) (B T 16) (I T 17) (I T 18) (B T 19) (B T 20) (B T 21) (I T 102) (I T 23) (I T 24) (I T 25))(A0:Facts T a_rplay_0):
  (Gm.mk (I T 282) (I T 283) (I T 284) (I T 285) (I T 286) (I T 287) (I T 288) (I T 289) (I T 290) (B T 291) (B T 292) (B T 293) (B T 294) (B T 295) (B T 296) (B T 297) (B T 298) (I T 299) (I T 300) (B T 301) (B T 302) (B T 303) (I T 304) (I T 305) (I T 306) (I T 307)=playS g (I T 26) (I T 27) (L T 29))∧
  (B T 164=true→0≤I T 251∧I T 251 < 2)∧
  (B T 164=true→0≤I T 251∧I T 251 < 2)∧
  (B T 164=true→0≤I T 27∧I T 27≤3∧0≤I T 22∧I T 22≤1073741824)∧
  (B T 131=true→0≤I T 134∧I T 134 < 2)∧
  (B T 131=true→0≤I T 134∧I T 134 < 2)∧
  (B T 131=true→0≤I T 27∧I T 27≤3∧0≤I T 22∧I T 22≤1073741824)∧
  (B T 92=true→((I T 3)= -1∨(0≤I T 3∧I T 3≤3))∧0≤I T 2∧I T 2≤1∧0≤I T 23)∧
  (B T 63=true→legalS g2=true)∧
  (B T 63=true→turnS g2=true)∧
  (B T 63=true→eventsS g2 (L T 29)=true)∧
  (B T 30=true→0≤I T 33∧I T 33 < 2)∧
  (B T 30=true→0≤I T 27∧I T 27≤3∧0≤I T 22∧I T 22≤1073741824):=by
 have hFa:=A0
 obtain⟨F0,A0⟩:=A0.cut
 obtain⟨F1,A0⟩:=A0.cut
 obtain⟨F2,A0⟩:=A0.cut
 obtain⟨F3,A0⟩:=A0.cut
 obtain⟨F4,A0⟩:=A0.cut
 obtain⟨F5,A0⟩:=A0.cut
 obtain⟨F6,A0⟩:=A0.cut
 obtain⟨F7,A0⟩:=A0.cut
 obtain⟨F8,A0⟩:=A0.cut
 obtain⟨F9,A0⟩:=A0.cut
 obtain⟨F10,A0⟩:=A0.cut
 obtain⟨F11,A0⟩:=A0.cut
 obtain⟨F12,A0⟩:=A0.cut
 obtain⟨F13,A0⟩:=A0.cut
 obtain⟨F14,A0⟩:=A0.cut
 obtain⟨F15,A0⟩:=A0.cut
 obtain⟨F16,A0⟩:=A0.cut
 have F17:=A0;clear A0
 have hg1:g1=g:=by rw[z1,hg]
 have hg2:g2=g:=by rw[z2,hg]
 have hh:(0≤I T 17∧I T 17≤40)∧(0≤I T 18∧I T 18≤40):=by have h:=(legalS_facts pre0).1;rw[hg] at h;simp only[numbersS,halvesS,Bool.and_eq_true,decide_eq_true_eq] at h;omega
 have ht:0≤I T 22∧I T 22≤1073741824:=by have h:=numbersS_le (legalS_facts pre0).1;rw[hg] at h;exact h.2.2.2.2.2.2
 have hbr:((I T 3)= -1∨(0≤I T 3∧I T 3≤3))∧0≤I T 2∧I T 2≤1∧0≤I T 23:=by have h:=numbersS_le (legalS_facts pre0).1;have h2:=legalS_began pre0;have h3:=legalS_facts pre0;rw[hg] at h h2 h3;refine⟨?_,h.2.2.2.2.1,h.2.2.2.2.2.1,h2⟩;cases hb:turnS (Gm.mk (I T 0) (I T 1) (I T 2) (I T 3) (I T 4) (I T 5) (I T 6) (I T 7) (I T 8) (B T 9) (B T 10) (B T 11) (B T 12) (B T 13) (B T 14) (B T 15) (B T 16) (I T 17) (I T 18) (B T 19) (B T 20) (B T 21) (I T 22) (I T 23) (I T 24) (I T 25)) with|true=>exact .inr (h3.2.2.1 hb)|false=>exact .inl (h3.2.2.2.2 hb)
 have h30:(B T 30)=true↔I T 26=1:=by
  obtain⟨e30,-⟩:=F0
  simp only[fact,zR] at e30
  exact e30
 have h62:(B T 62)=true↔I T 26=2:=by
  obtain⟨e62,-⟩:=F2
  simp only[fact,zR] at e62
  exact e62
 have h91:(B T 91)=true↔I T 26=3:=by
  obtain⟨-,-,-,-,-,-,-,-,-,-,-,-,-,e91,-⟩:=F3
  simp only[fact,zR] at e91
  exact e91
 have h130:(B T 130)=true↔I T 26=4:=by
  obtain⟨-,-,-,-,e130,-⟩:=F6
  simp only[fact,zR] at e130
  exact e130
 have h58:(B T 58)=true↔(¬I T 33=0∧B T 50=true):=by
  obtain⟨-,-,-,e33,-⟩:=F0
  obtain⟨-,-,-,-,e50,-,-,-,-,-,-,e57,e58,-⟩:=F1
  replace e33:I T 33=((beginS g1 (I T 27)).side):=by rw[←show gAt 0 (v_rplay_0.map (Rf.eval T))=g1 from z1.symm];exact e33
  replace e50:B T 50=((beginS g1 (I T 27)).l0):=by rw[←show gAt 0 (v_rplay_0.map (Rf.eval T))=g1 from z1.symm];exact e50
  simp only[fact,bR_e,zC,zR,zL] at e57 e58
  grind
 have h60:(B T 60)=true↔(¬I T 33=1∧B T 51=true):=by
  obtain⟨-,-,-,e33,-⟩:=F0
  obtain⟨-,-,-,-,-,e51,-,-,-,-,-,-,-,e59,e60,-⟩:=F1
  replace e33:I T 33=((beginS g1 (I T 27)).side):=by rw[←show gAt 0 (v_rplay_0.map (Rf.eval T))=g1 from z1.symm];exact e33
  replace e51:B T 51=((beginS g1 (I T 27)).l1):=by rw[←show gAt 0 (v_rplay_0.map (Rf.eval T))=g1 from z1.symm];exact e51
  simp only[fact,bR_e,zC,zR,zL] at e59 e60
  grind
 have h102:(B T 30)=false→B T 62=false→B T 91=true→I T 102=if (I T 1)=0 then followS (I T 22) else (I T 22):=by
  obtain⟨e30,-⟩:=F0
  obtain⟨-,-,-,-,-,-,-,-,-,-,-,-,-,-,-,e61,-⟩:=F1
  obtain⟨e62,-⟩:=F2
  obtain⟨-,-,-,-,-,-,-,-,-,-,-,-,e90,e91,e92,e93,-⟩:=F3
  obtain⟨e94,e95,e96,-,e98,e99,-,-,e102,-⟩:=F4
  simp only[fact,bR_e,zN,zR,w2P,zL] at e30 e61 e62 e90 e91 e92 e93 e94 e95 e96 e98 e99 e102
  unfold followS;grind
 have hi1:(I T 48)=I T 17∧I T 149=I T 17∧I T 266=I T 17∧I T 49=I T 18∧I T 150=I T 18∧I T 267=I T 18:=by
  obtain⟨-,-,e48,e49,-⟩:=F1
  obtain⟨-,-,-,-,-,-,-,e149,e150,-⟩:=F7
  obtain⟨-,-,-,-,-,-,-,-,-,-,-,-,e266,e267,-⟩:=F14
  replace e48:I T 48=((beginS g1 (I T 27)).h0):=by rw[←show gAt 0 (v_rplay_0.map (Rf.eval T))=g1 from z1.symm];exact e48
  replace e49:I T 49=((beginS g1 (I T 27)).h1):=by rw[←show gAt 0 (v_rplay_0.map (Rf.eval T))=g1 from z1.symm];exact e49
  replace e149:I T 149=((beginS g1 (I T 27)).h0):=by rw[←show gAt 0 (v_rplay_0.map (Rf.eval T))=g1 from z1.symm];exact e149
  replace e150:I T 150=((beginS g1 (I T 27)).h1):=by rw[←show gAt 0 (v_rplay_0.map (Rf.eval T))=g1 from z1.symm];exact e150
  replace e266:I T 266=((beginS g1 (I T 27)).h0):=by rw[←show gAt 0 (v_rplay_0.map (Rf.eval T))=g1 from z1.symm];exact e266
  replace e267:I T 267=((beginS g1 (I T 27)).h1):=by rw[←show gAt 0 (v_rplay_0.map (Rf.eval T))=g1 from z1.symm];exact e267
  rw[hg1] at e48 e149 e266 e49 e150 e267
  rw[e48,e149,e266,e49,e150,e267]
  subst hg;exact⟨rfl,rfl,rfl,rfl,rfl,rfl⟩
 have hs:(I T 33)=(I T 27) % 2∧I T 134=(I T 27) % 2∧I T 251=(I T 27) % 2:=by
  obtain⟨-,-,-,e33,-⟩:=F0
  obtain⟨-,-,-,-,-,-,-,-,e134,-⟩:=F6
  obtain⟨-,-,-,-,-,-,-,-,-,-,-,-,-,e251,-⟩:=F13
  replace e33:I T 33=((beginS g1 (I T 27)).side):=by rw[←show gAt 0 (v_rplay_0.map (Rf.eval T))=g1 from z1.symm];exact e33
  replace e134:I T 134=((beginS g1 (I T 27)).side):=by rw[←show gAt 0 (v_rplay_0.map (Rf.eval T))=g1 from z1.symm];exact e134
  replace e251:I T 251=((beginS g1 (I T 27)).side):=by rw[←show gAt 0 (v_rplay_0.map (Rf.eval T))=g1 from z1.symm];exact e251
  exact⟨e33,e134,e251⟩
 have h161:((I T 134)=0∨I T 134=1)→I T 161=if (I T 134)=0 then (I T 149) - 2 else (I T 149):=by
  obtain⟨-,-,-,-,-,-,-,-,e134,-⟩:=F6
  obtain⟨-,-,-,-,-,-,-,e149,e150,-⟩:=F7
  obtain⟨e158,e159,e160,e161,-⟩:=F8
  replace e134:I T 134=((beginS g1 (I T 27)).side):=by rw[←show gAt 0 (v_rplay_0.map (Rf.eval T))=g1 from z1.symm];exact e134
  replace e149:I T 149=((beginS g1 (I T 27)).h0):=by rw[←show gAt 0 (v_rplay_0.map (Rf.eval T))=g1 from z1.symm];exact e149
  replace e150:I T 150=((beginS g1 (I T 27)).h1):=by rw[←show gAt 0 (v_rplay_0.map (Rf.eval T))=g1 from z1.symm];exact e150
  simp only[fact,bR_e,zR,pickI,pickB,and_false,or_false,w2P,zL] at e158 e159 e160 e161
  grind
 have h163:((I T 134)=0∨I T 134=1)→I T 163=if (I T 134)=1 then (I T 150) - 2 else (I T 150):=by
  obtain⟨-,-,-,-,-,-,-,-,e134,-⟩:=F6
  obtain⟨-,-,-,-,-,-,-,e149,e150,-⟩:=F7
  obtain⟨e158,e159,-,-,e162,e163,-⟩:=F8
  replace e134:I T 134=((beginS g1 (I T 27)).side):=by rw[←show gAt 0 (v_rplay_0.map (Rf.eval T))=g1 from z1.symm];exact e134
  replace e149:I T 149=((beginS g1 (I T 27)).h0):=by rw[←show gAt 0 (v_rplay_0.map (Rf.eval T))=g1 from z1.symm];exact e149
  replace e150:I T 150=((beginS g1 (I T 27)).h1):=by rw[←show gAt 0 (v_rplay_0.map (Rf.eval T))=g1 from z1.symm];exact e150
  simp only[fact,bR_e,zR,pickI,pickB,and_false,or_false,w2P,zL] at e158 e159 e162 e163
  grind
 have h278:((I T 251)=0∨I T 251=1)→I T 278=if (I T 251)=0 then (I T 266) - 1 else (I T 266):=by
  obtain⟨-,-,-,-,-,-,-,-,-,-,-,-,-,e251,-⟩:=F13
  obtain⟨-,-,-,-,-,-,-,-,-,-,-,-,e266,e267,-⟩:=F14
  obtain⟨-,-,-,-,-,e275,e276,e277,e278,-⟩:=F15
  replace e251:I T 251=((beginS g1 (I T 27)).side):=by rw[←show gAt 0 (v_rplay_0.map (Rf.eval T))=g1 from z1.symm];exact e251
  replace e266:I T 266=((beginS g1 (I T 27)).h0):=by rw[←show gAt 0 (v_rplay_0.map (Rf.eval T))=g1 from z1.symm];exact e266
  replace e267:I T 267=((beginS g1 (I T 27)).h1):=by rw[←show gAt 0 (v_rplay_0.map (Rf.eval T))=g1 from z1.symm];exact e267
  simp only[fact,bR_e,zR,pickI,pickB,and_false,or_false,w2P,zL] at e275 e276 e277 e278
  grind
 have h280:((I T 251)=0∨I T 251=1)→I T 280=if (I T 251)=1 then (I T 267) - 1 else (I T 267):=by
  obtain⟨-,-,-,-,-,-,-,-,-,-,-,-,-,e251,-⟩:=F13
  obtain⟨-,-,-,-,-,-,-,-,-,-,-,-,e266,e267,-⟩:=F14
  obtain⟨-,-,-,-,-,e275,e276,-,-,e279,e280,-⟩:=F15
  replace e251:I T 251=((beginS g1 (I T 27)).side):=by rw[←show gAt 0 (v_rplay_0.map (Rf.eval T))=g1 from z1.symm];exact e251
  replace e266:I T 266=((beginS g1 (I T 27)).h0):=by rw[←show gAt 0 (v_rplay_0.map (Rf.eval T))=g1 from z1.symm];exact e266
  replace e267:I T 267=((beginS g1 (I T 27)).h1):=by rw[←show gAt 0 (v_rplay_0.map (Rf.eval T))=g1 from z1.symm];exact e267
  simp only[fact,bR_e,zR,pickI,pickB,and_false,or_false,w2P,zL] at e275 e276 e279 e280
  grind
 have cr1_0:Gm.mk (I T 31) (I T 32) (I T 33) (I T 34) (I T 35) (I T 36) (I T 37) (I T 38) (I T 39) (B T 40) (B T 41) (B T 42) (B T 43) (B T 44) (B T 45) (B T 46) (B T 47) (I T 48) (I T 49) (B T 50) (B T 51) (B T 52) (I T 53) (I T 54) (I T 55) (I T 56)=beginS g1 (I T 27):=by
  obtain⟨-,e31,e32,e33,e34,e35,e36,e37,e38,e39,e40,e41,e42,e43,e44,e45,-⟩:=F0
  obtain⟨e46,e47,e48,e49,e50,e51,e52,e53,e54,e55,e56,-⟩:=F1
  rw[←show gAt 0 (v_rplay_0.map (Rf.eval T))=g1 from z1.symm]
  exact gm_congr e31 e32 e33 e34 e35 e36 e37 e38 e39 e40 e41 e42 e43 e44 e45 e46 e47 e48 e49 e50 e51 e52 e53 e54 e55 e56
 have cr1_1:Gm.mk (I T 132) (I T 133) (I T 134) (I T 135) (I T 136) (I T 137) (I T 138) (I T 139) (I T 140) (B T 141) (B T 142) (B T 143) (B T 144) (B T 145) (B T 146) (B T 147) (B T 148) (I T 149) (I T 150) (B T 151) (B T 152) (B T 153) (I T 154) (I T 155) (I T 156) (I T 157)=beginS g1 (I T 27):=by
  obtain⟨-,-,-,-,-,-,e132,e133,e134,e135,e136,e137,e138,e139,e140,e141,-⟩:=F6
  obtain⟨e142,e143,e144,e145,e146,e147,e148,e149,e150,e151,e152,e153,e154,e155,e156,e157,-⟩:=F7
  rw[←show gAt 0 (v_rplay_0.map (Rf.eval T))=g1 from z1.symm]
  exact gm_congr e132 e133 e134 e135 e136 e137 e138 e139 e140 e141 e142 e143 e144 e145 e146 e147 e148 e149 e150 e151 e152 e153 e154 e155 e156 e157
 have cr1_2:Gm.mk (I T 249) (I T 250) (I T 251) (I T 252) (I T 253) (I T 254) (I T 255) (I T 256) (I T 257) (B T 258) (B T 259) (B T 260) (B T 261) (B T 262) (B T 263) (B T 264) (B T 265) (I T 266) (I T 267) (B T 268) (B T 269) (B T 270) (I T 271) (I T 272) (I T 273) (I T 274)=beginS g1 (I T 27):=by
  obtain⟨-,-,-,-,-,-,-,-,-,-,-,e249,e250,e251,e252,e253,-⟩:=F13
  obtain⟨e254,e255,e256,e257,e258,e259,e260,e261,e262,e263,e264,e265,e266,e267,e268,e269,-⟩:=F14
  obtain⟨e270,e271,e272,e273,e274,-⟩:=F15
  rw[←show gAt 0 (v_rplay_0.map (Rf.eval T))=g1 from z1.symm]
  exact gm_congr e249 e250 e251 e252 e253 e254 e255 e256 e257 e258 e259 e260 e261 e262 e263 e264 e265 e266 e267 e268 e269 e270 e271 e272 e273 e274
 have cr2_0:Gm.mk (I T 64) (I T 65) (I T 66) (I T 67) (I T 68) (I T 69) (I T 70) (I T 71) (I T 72) (B T 73) (B T 74) (B T 75) (B T 76) (B T 77) (B T 78) (B T 79) (B T 80) (I T 81) (I T 82) (B T 83) (B T 84) (B T 85) (I T 86) (I T 87) (I T 88) (I T 89)=strokeS g2 (L T 29):=by
  obtain⟨-,-,e64,e65,e66,e67,e68,e69,e70,e71,e72,e73,e74,e75,e76,e77,-⟩:=F2
  obtain⟨e78,e79,e80,e81,e82,e83,e84,e85,e86,e87,e88,e89,-⟩:=F3
  rw[←show gAt 0 (v_rplay_1.map (Rf.eval T))=g2 from z2.symm]
  exact gm_congr e64 e65 e66 e67 e68 e69 e70 e71 e72 e73 e74 e75 e76 e77 e78 e79 e80 e81 e82 e83 e84 e85 e86 e87 e88 e89
 have cr3_0:Gm.mk (I T 103) (I T 104) (I T 105) (I T 106) (I T 107) (I T 108) (I T 109) (I T 110) (I T 111) (B T 112) (B T 113) (B T 114) (B T 115) (B T 116) (B T 117) (B T 118) (B T 119) (I T 120) (I T 121) (B T 122) (B T 123) (B T 124) (I T 125) (I T 126) (I T 127) (I T 128)=endS g3:=by
  obtain⟨-,-,-,-,-,-,-,-,-,e103,e104,e105,e106,e107,e108,e109,-⟩:=F4
  obtain⟨e110,e111,e112,e113,e114,e115,e116,e117,e118,e119,e120,e121,e122,e123,e124,e125,-⟩:=F5
  obtain⟨e126,e127,e128,-⟩:=F6
  rw[←show gAt 0 (v_rplay_2.map (Rf.eval T))=g3 from z3.symm]
  exact gm_congr e103 e104 e105 e106 e107 e108 e109 e110 e111 e112 e113 e114 e115 e116 e117 e118 e119 e120 e121 e122 e123 e124 e125 e126 e127 e128
 refine⟨?_,?_,?_,?_,?_,?_,?_,?_,?_,?_,?_,?_,?_⟩
 ·rcases Bool.eq_false_or_eq_true (B T 30) with k30|k30
  ·
   refine (gm_outs (redo_outs (K:=[(30,.b,.c (.bool true))]) (outs:=w_rplay) (os:=[.e 31,.e 32,.e 33,.e 34,.e 35,.e 36,.e 37,.e 38,.e 39,.e 40,.e 41,.e 42,.e 43,.e 44,.e 45,.e 46,.e 47,.e 48,.e 49,.e 58,.e 60,.e 52,.e 53,.e 54,.e 55,.e 56]) ⟨k30,trivial⟩ hFa (by kernel_rfl))).trans ?_
   show Gm.mk (I T 31) (I T 32) (I T 33) (I T 34) (I T 35) (I T 36) (I T 37) (I T 38) (I T 39) (B T 40) (B T 41) (B T 42) (B T 43) (B T 44) (B T 45) (B T 46) (B T 47) (I T 48) (I T 49) (B T 58) (B T 60) (B T 52) (I T 53) (I T 54) (I T 55) (I T 56)=_
   rw[show playS g (I T 26) (I T 27) (L T 29)=liftOff (beginS g (I T 27)) from by unfold playS;rw[if_pos (h30.1 k30)]]
   rw[hg1] at cr1_0
   rw[←cr1_0]
   simp only[liftOff,Gm.mk.injEq,true_and,and_true]
   exact⟨iff_eq (by simp only[Bool.and_eq_true,Bool.not_eq_true',decide_eq_false_iff_not];grind),iff_eq (by simp only[Bool.and_eq_true,Bool.not_eq_true',decide_eq_false_iff_not];grind)⟩
  ·
   rcases Bool.eq_false_or_eq_true (B T 62) with k62|k62
   ·
    refine (gm_outs (redo_outs (K:=[(30,.b,.c (.bool false)),(62,.b,.c (.bool true))]) (outs:=w_rplay) (os:=[.e 64,.e 65,.e 66,.e 67,.e 68,.e 69,.e 70,.e 71,.e 72,.e 73,.e 74,.e 75,.e 76,.e 77,.e 78,.e 79,.e 80,.e 81,.e 82,.e 83,.e 84,.e 85,.e 86,.e 87,.e 88,.e 89]) ⟨k30,k62,trivial⟩ hFa (by kernel_rfl))).trans ?_
    show Gm.mk (I T 64) (I T 65) (I T 66) (I T 67) (I T 68) (I T 69) (I T 70) (I T 71) (I T 72) (B T 73) (B T 74) (B T 75) (B T 76) (B T 77) (B T 78) (B T 79) (B T 80) (I T 81) (I T 82) (B T 83) (B T 84) (B T 85) (I T 86) (I T 87) (I T 88) (I T 89)=_
    rw[show playS g (I T 26) (I T 27) (L T 29)=strokeS g (L T 29) from by unfold playS;rw[if_neg (fun h=>by rw[h30.2 h] at k30;cases k30),if_pos (h62.1 k62)],cr2_0,hg2]
   ·
    rcases Bool.eq_false_or_eq_true (B T 91) with k91|k91
    ·
     refine (gm_outs (redo_outs (K:=[(30,.b,.c (.bool false)),(62,.b,.c (.bool false)),(91,.b,.c (.bool true))]) (outs:=w_rplay) (os:=[.e 103,.e 104,.e 105,.e 106,.e 107,.e 108,.e 109,.e 110,.e 111,.e 112,.e 113,.e 114,.e 115,.e 116,.e 117,.e 118,.e 119,.e 120,.e 121,.e 122,.e 123,.e 124,.e 125,.e 126,.e 127,.e 128]) ⟨k30,k62,k91,trivial⟩ hFa (by kernel_rfl))).trans ?_
     show Gm.mk (I T 103) (I T 104) (I T 105) (I T 106) (I T 107) (I T 108) (I T 109) (I T 110) (I T 111) (B T 112) (B T 113) (B T 114) (B T 115) (B T 116) (B T 117) (B T 118) (B T 119) (I T 120) (I T 121) (B T 122) (B T 123) (B T 124) (I T 125) (I T 126) (I T 127) (I T 128)=_
     rw[show playS g (I T 26) (I T 27) (L T 29)=endS (passedS g) from by unfold playS;rw[if_neg (fun h=>by rw[h30.2 h] at k30;cases k30),if_neg (fun h=>by rw[h62.2 h] at k62;cases k62),if_pos (h91.1 k91)],cr3_0]
     congr 1
     rw[z3,hg,h102 k30 k62 k91]
     rfl
    ·
     rcases Bool.eq_false_or_eq_true (B T 130) with k130|k130
     ·
      refine (gm_outs (redo_outs (K:=[(30,.b,.c (.bool false)),(62,.b,.c (.bool false)),(91,.b,.c (.bool false)),(130,.b,.c (.bool true))]) (outs:=w_rplay) (os:=[.e 132,.e 133,.e 134,.e 135,.e 136,.e 137,.e 138,.e 139,.e 140,.e 141,.e 142,.e 143,.e 144,.e 145,.e 146,.e 147,.e 148,.e 161,.e 163,.e 151,.e 152,.e 153,.e 154,.e 155,.e 156,.e 157]) ⟨k30,k62,k91,k130,trivial⟩ hFa (by kernel_rfl))).trans ?_
      show Gm.mk (I T 132) (I T 133) (I T 134) (I T 135) (I T 136) (I T 137) (I T 138) (I T 139) (I T 140) (B T 141) (B T 142) (B T 143) (B T 144) (B T 145) (B T 146) (B T 147) (B T 148) (I T 161) (I T 163) (B T 151) (B T 152) (B T 153) (I T 154) (I T 155) (I T 156) (I T 157)=_
      rw[show playS g (I T 26) (I T 27) (L T 29)=spend 2 (beginS g (I T 27)) from by unfold playS;rw[if_neg (fun h=>by rw[h30.2 h] at k30;cases k30),if_neg (fun h=>by rw[h62.2 h] at k62;cases k62),if_neg (fun h=>by rw[h91.2 h] at k91;cases k91),if_pos (h130.1 k130)]]
      rw[hg1] at cr1_1
      rw[←cr1_1]
      simp only[spend,Gm.mk.injEq,true_and,and_true]
      exact⟨h161 (by omega),h163 (by omega)⟩
     ·
      refine (gm_outs (redo_outs (K:=[(30,.b,.c (.bool false)),(62,.b,.c (.bool false)),(91,.b,.c (.bool false)),(130,.b,.c (.bool false))]) (outs:=w_rplay) (os:=[.e 249,.e 250,.e 251,.e 252,.e 253,.e 254,.e 255,.e 256,.e 257,.e 258,.e 259,.e 260,.e 261,.e 262,.e 263,.e 264,.e 265,.e 278,.e 280,.e 268,.e 269,.c (.bool true),.e 271,.e 272,.e 273,.e 274]) ⟨k30,k62,k91,k130,trivial⟩ hFa (by kernel_rfl))).trans ?_
      show Gm.mk (I T 249) (I T 250) (I T 251) (I T 252) (I T 253) (I T 254) (I T 255) (I T 256) (I T 257) (B T 258) (B T 259) (B T 260) (B T 261) (B T 262) (B T 263) (B T 264) (B T 265) (I T 278) (I T 280) (B T 268) (B T 269) true (I T 271) (I T 272) (I T 273) (I T 274)=_
      rw[show playS g (I T 26) (I T 27) (L T 29)={ spend 1 (beginS g (I T 27)) with half:=true } from by unfold playS;rw[if_neg (fun h=>by rw[h30.2 h] at k30;cases k30),if_neg (fun h=>by rw[h62.2 h] at k62;cases k62),if_neg (fun h=>by rw[h91.2 h] at k91;cases k91),if_neg (fun h=>by rw[h130.2 h] at k130;cases k130)]]
      rw[hg1] at cr1_2
      rw[←cr1_2]
      simp only[spend,Gm.mk.injEq,true_and,and_true]
      exact⟨h278 (by omega),h280 (by omega)⟩
 ·obtain⟨e30,-⟩:=F0
  obtain⟨-,-,-,-,-,-,-,-,-,-,-,-,-,-,-,e61,-⟩:=F1
  obtain⟨e62,-⟩:=F2
  obtain⟨-,-,-,-,-,-,-,-,-,-,-,-,e90,e91,-⟩:=F3
  obtain⟨-,-,-,e129,e130,-⟩:=F6
  obtain⟨-,-,-,-,-,-,e164,-⟩:=F8
  obtain⟨-,-,-,-,-,-,-,-,-,-,-,-,-,e251,-⟩:=F13
  replace e251:I T 251=((beginS g1 (I T 27)).side):=by rw[←show gAt 0 (v_rplay_0.map (Rf.eval T))=g1 from z1.symm];exact e251
  simp only[fact,bR_e,zN,zR] at e30 e61 e62 e90 e91 e129 e130 e164
  grind (splits:=100)
 ·obtain⟨e30,-⟩:=F0
  obtain⟨-,-,-,-,-,-,-,-,-,-,-,-,-,-,-,e61,-⟩:=F1
  obtain⟨e62,-⟩:=F2
  obtain⟨-,-,-,-,-,-,-,-,-,-,-,-,e90,e91,-⟩:=F3
  obtain⟨-,-,-,e129,e130,-⟩:=F6
  obtain⟨-,-,-,-,-,-,e164,-⟩:=F8
  obtain⟨-,-,-,-,-,-,-,-,-,-,-,-,-,e251,-⟩:=F13
  replace e251:I T 251=((beginS g1 (I T 27)).side):=by rw[←show gAt 0 (v_rplay_0.map (Rf.eval T))=g1 from z1.symm];exact e251
  simp only[fact,bR_e,zN,zR] at e30 e61 e62 e90 e91 e129 e130 e164
  grind (splits:=100)
 ·obtain⟨e30,-⟩:=F0
  obtain⟨-,-,-,-,-,-,-,-,-,-,-,-,-,-,-,e61,-⟩:=F1
  obtain⟨e62,-⟩:=F2
  obtain⟨-,-,-,-,-,-,-,-,-,-,-,-,e90,e91,-⟩:=F3
  obtain⟨-,-,-,e129,e130,-⟩:=F6
  obtain⟨-,-,-,-,-,-,e164,-⟩:=F8
  simp only[fact,bR_e,zN,zR] at e30 e61 e62 e90 e91 e129 e130 e164
  grind (splits:=100)
 ·obtain⟨e30,-⟩:=F0
  obtain⟨-,-,-,-,-,-,-,-,-,-,-,-,-,-,-,e61,-⟩:=F1
  obtain⟨e62,-⟩:=F2
  obtain⟨-,-,-,-,-,-,-,-,-,-,-,-,e90,e91,-⟩:=F3
  obtain⟨-,-,-,e129,e130,e131,-,-,e134,-⟩:=F6
  replace e134:I T 134=((beginS g1 (I T 27)).side):=by rw[←show gAt 0 (v_rplay_0.map (Rf.eval T))=g1 from z1.symm];exact e134
  simp only[fact,bR_e,zN,zR] at e30 e61 e62 e90 e91 e129 e130 e131
  grind (splits:=100)
 ·obtain⟨e30,-⟩:=F0
  obtain⟨-,-,-,-,-,-,-,-,-,-,-,-,-,-,-,e61,-⟩:=F1
  obtain⟨e62,-⟩:=F2
  obtain⟨-,-,-,-,-,-,-,-,-,-,-,-,e90,e91,-⟩:=F3
  obtain⟨-,-,-,e129,e130,e131,-,-,e134,-⟩:=F6
  replace e134:I T 134=((beginS g1 (I T 27)).side):=by rw[←show gAt 0 (v_rplay_0.map (Rf.eval T))=g1 from z1.symm];exact e134
  simp only[fact,bR_e,zN,zR] at e30 e61 e62 e90 e91 e129 e130 e131
  grind (splits:=100)
 ·obtain⟨e30,-⟩:=F0
  obtain⟨-,-,-,-,-,-,-,-,-,-,-,-,-,-,-,e61,-⟩:=F1
  obtain⟨e62,-⟩:=F2
  obtain⟨-,-,-,-,-,-,-,-,-,-,-,-,e90,e91,-⟩:=F3
  obtain⟨-,-,-,e129,e130,e131,-⟩:=F6
  simp only[fact,bR_e,zN,zR] at e30 e61 e62 e90 e91 e129 e130 e131
  grind (splits:=100)
 ·obtain⟨e30,-⟩:=F0
  obtain⟨-,-,-,-,-,-,-,-,-,-,-,-,-,-,-,e61,-⟩:=F1
  obtain⟨e62,-⟩:=F2
  obtain⟨-,-,-,-,-,-,-,-,-,-,-,-,e90,e91,e92,-⟩:=F3
  simp only[fact,bR_e,zN,zR] at e30 e61 e62 e90 e91 e92
  grind (splits:=100)
 ·obtain⟨e30,-⟩:=F0
  obtain⟨-,-,-,-,-,-,-,-,-,-,-,-,-,-,-,e61,-⟩:=F1
  obtain⟨e62,e63,-⟩:=F2
  simp only[fact,bR_e,zR] at e30 e61 e62 e63
  grind (splits:=100)
 ·obtain⟨e30,-⟩:=F0
  obtain⟨-,-,-,-,-,-,-,-,-,-,-,-,-,-,-,e61,-⟩:=F1
  obtain⟨e62,e63,-⟩:=F2
  simp only[fact,bR_e,zR] at e30 e61 e62 e63
  grind (splits:=100)
 ·obtain⟨e30,-⟩:=F0
  obtain⟨-,-,-,-,-,-,-,-,-,-,-,-,-,-,-,e61,-⟩:=F1
  obtain⟨e62,e63,-⟩:=F2
  simp only[fact,bR_e,zR] at e30 e61 e62 e63
  grind (splits:=100)
 ·obtain⟨e30,-,-,e33,-⟩:=F0
  replace e33:I T 33=((beginS g1 (I T 27)).side):=by rw[←show gAt 0 (v_rplay_0.map (Rf.eval T))=g1 from z1.symm];exact e33
  simp only[fact,zR] at e30
  grind (splits:=100)
 ·obtain⟨e30,-⟩:=F0
  simp only[fact,zR] at e30
  grind (splits:=100)
theorem ok_rplay:TmplOK Try.prog 39 t_rplay:=by
 refine tmpl_sees (l:=[(43,t_laws),(62,t_rend),(60,t_rbegin),(61,t_rstroke)]) mixed (by simp only[List.forall_mem_cons];exact⟨ok_laws,ok_rend,ok_rbegin,ok_rstroke,fun _ h=>absurd h (by simp)⟩) s_rplay (by kernel_rfl) fun T us hpre hT hul hS hBd hE=>?_
 change us.length=30 at hul
 obtain⟨⟨lo0,hi0⟩,⟨lo1,hi1⟩,⟨lo2,hi2⟩,⟨lo3,hi3⟩,⟨lo4,hi4⟩,⟨lo5,hi5⟩,⟨lo6,hi6⟩,⟨lo7,hi7⟩,⟨lo8,hi8⟩,⟨lo17,hi17⟩,⟨lo18,hi18⟩,⟨lo22,hi22⟩,⟨lo23,hi23⟩,⟨lo24,hi24⟩,⟨lo25,hi25⟩,⟨lo26,hi26⟩,⟨lo27,hi27⟩,⟨hl29,he29⟩,-⟩:=hBd
 clear lo0 hi0
 replace lo1: -9223372036854775808≤I T 1:=lo1
 replace hi1:I T 1≤9223372036854775807:=hi1
 clear lo2 hi2
 clear lo3 hi3
 clear lo4 hi4
 clear lo5 hi5
 clear lo6 hi6
 clear lo7 hi7
 clear lo8 hi8
 clear lo17 hi17
 clear lo18 hi18
 clear lo22 hi22
 clear lo23 hi23
 clear lo24 hi24
 clear lo25 hi25
 clear lo26 hi26
 clear lo27 hi27
 replace hl29:(L T 29).length≤140737488355328:=hl29
 obtain⟨g,hg⟩:∃g:Gm,g=Gm.mk (I T 0) (I T 1) (I T 2) (I T 3) (I T 4) (I T 5) (I T 6) (I T 7) (I T 8) (B T 9) (B T 10) (B T 11) (B T 12) (B T 13) (B T 14) (B T 15) (B T 16) (I T 17) (I T 18) (B T 19) (B T 20) (B T 21) (I T 22) (I T 23) (I T 24) (I T 25):=⟨_,rfl⟩
 have hgu:gAt 0 us=g:=by rw[hg];exact gAt_in hT hul (by decide)
 have ha26:aI us 26=I T 26:=inI hT hul (by decide)
 have ha27:aI us 27=I T 27:=inI hT hul (by decide)
 have ha29:aL us 29=L T 29:=inL hT hul (by decide)
 have pre0:legalS g=true:=by
  have h:=hpre (.s "rplay.p0",p_rplay_0) (by simp[t_rplay])
  change p_rplay_0 us at h
  unfold p_rplay_0 at h
  simp only[hgu] at h
  exact h
 have pre1:(I T 26)=2→turnS g=true∧eventsS g (L T 29)=true:=by
  have h:=hpre (.s "rplay.p1",p_rplay_1) (by simp[t_rplay])
  change p_rplay_1 us at h
  unfold p_rplay_1 at h
  simp only[hgu,ha26,ha29] at h
  exact h
 have pre2:¬I T 26=2→¬I T 26=3→0≤I T 27∧I T 27≤3:=by
  have h:=hpre (.s "rplay.p2",p_rplay_2) (by simp[t_rplay])
  change p_rplay_2 us at h
  unfold p_rplay_2 at h
  simp only[ha26,ha27] at h
  exact h
 clear hpre
 skip
 obtain⟨A0,hO⟩:=chkO_ok (tys:=[.i,.i,.i,.i,.i,.i,.i,.i,.i,.b,.b,.b,.b,.b,.b,.b,.b,.i,.i,.b,.b,.b,.i,.i,.i,.i]) (rs:=r_rplay) hS (by kernel_rfl) hE
 obtain⟨g1,z1⟩:∃g:Gm,g=Gm.mk (I T 0) (I T 1) (I T 2) (I T 3) (I T 4) (I T 5) (I T 6) (I T 7) (I T 8) (B T 9) (B T 10) (B T 11) (B T 12) (B T 13) (B T 14) (B T 15) (B T 16) (I T 17) (I T 18) (B T 19) (B T 20) (B T 21) (I T 22) (I T 23) (I T 24) (I T 25):=⟨_,rfl⟩
 obtain⟨g2,z2⟩:∃g:Gm,g=Gm.mk (I T 0) (I T 1) (I T 2) (I T 3) (I T 4) (I T 5) (I T 6) (I T 7) (I T 8) (B T 9) (B T 10) (B T 11) (B T 12) (B T 13) (B T 14) (B T 15) (B T 16) (I T 17) (I T 18) (B T 19) (B T 20) (B T 21) (I T 22) (I T 23) (I T 24) (I T 25):=⟨_,rfl⟩
 obtain⟨g3,z3⟩:∃g:Gm,g=Gm.mk (I T 0) (I T 1) (I T 2) (I T 3) (I T 4) (I T 5) (I T 6) (I T 7) (I T 8) (B T 9) (B T 10) (B T 11) (B T 12) (B T 13) (B T 14) (B T 15) (B T 16) (I T 17) (I T 18) (B T 19) (B T 20) (B T 21) (I T 102) (I T 23) (I T 24) (I T 25):=⟨_,rfl⟩
 obtain⟨whole,r0,r1,r2,r3,r4,r5,r6,r7,r8,r9,r10,r11⟩:=m_rplay lo1 hi1 hl29 g hg pre0 pre1 pre2 g1 z1 g2 z2 g3 z3 A0
 have hog:og_rplay us=playS g (I T 26) (I T 27) (L T 29):=by unfold og_rplay;rw[hgu,ha26,ha27,ha29]
 replace whole:=whole.trans hog.symm
 refine⟨⟨r0,r1,r2,r3,r4,r5,r6,(fun hp=>by show p_rstroke_0 _;unfold p_rstroke_0;rw[show gAt 0 (v_rplay_1.map (Rf.eval T))=g2 from z2.symm];exact r7 hp),(fun hp=>by show p_rstroke_1 _;unfold p_rstroke_1;rw[show gAt 0 (v_rplay_1.map (Rf.eval T))=g2 from z2.symm];exact r8 hp),(fun hp=>by show p_rstroke_2 _;unfold p_rstroke_2;rw[show gAt 0 (v_rplay_1.map (Rf.eval T))=g2 from z2.symm];exact r9 hp),r10,r11,trivial⟩,hO.trans ?_⟩
 exact gm_lc whole rfl
end Go.Eng
end
