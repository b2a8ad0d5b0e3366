/-
  A part of the proof: K_lPointsd K_lPoints.
-/
import Derived.Test.YtcinpabggaepfaaXQlPoints
import Derived.Test.YtcinpabggaepfaaE3
import Derived.Test.YtcinpabggaepfaaE4
import Derived.Test.YtcinpabggaepfaaKgPlay
import Derived.Test.YtcinpabggaepfaaKrcheck
import Derived.Test.YtcinpabggaepfaaKgscore
import Derived.Test.YtcinpabggaepfaaKfine
set_option linter.unusedVariables false
set_option linter.unusedSimpArgs false
section
open Go Go.Eng Go.Proofs
set_option maxHeartbeats 4000000
set_option maxRecDepth 100000
namespace Go.Eng
def k_lPoints:List Kd:=[k64,k64,k64,k64,k64,k64,k64,k64,k64,.bool,.bool,.bool,.bool,.bool,.bool,.bool,.bool,k64,k64,.bool,.bool,.bool,k64,k64,k64,k64,k64,k64,.bool,.list [k64,k64]]
noncomputable def as_lPoints:List AC:=((argsAC Try.prog 9 Try.f5.params.toList 0).map (·.1)).getD []
def v_lPoints_0:List Rf:=[.e 0,.e 1,.e 2,.e 3,.e 4,.e 5,.e 6,.e 7,.e 8,.e 9,.e 10,.e 11,.e 12,.e 13,.e 14,.e 15,.e 16,.e 17,.e 18,.e 19,.e 20,.e 21,.e 22,.e 23,.e 24,.e 25]
def v_lPoints_1:List Rf:=[.e 0,.e 1,.e 2,.e 3,.e 4,.e 5,.e 6,.e 7,.e 8,.e 9,.e 10,.e 11,.e 12,.e 13,.e 14,.e 15,.e 16,.e 17,.e 18,.e 19,.e 20,.e 21,.e 22,.e 23,.e 24,.e 25,.e 26,.e 27,.e 28,.e 29]
def v_lPoints_2:List Rf:=[.e 38,.e 39,.e 40,.e 41,.e 42,.e 43,.e 44,.e 45,.e 46,.e 47,.e 48,.e 49,.e 50,.e 51,.e 52,.e 53,.e 54,.e 55,.e 56,.e 57,.e 58,.e 59,.e 60,.e 61,.e 62,.e 63]
noncomputable def a_lPoints_0_0:List En:=[⟨30,.len,[.e 29]⟩,
 ⟨31,.lt,[.c (.int 40),.e 30]⟩,
 ⟨32,.not,[.e 31]⟩,
 ⟨33,.outI "rcheck.0" o_rcheck_0,v_lPoints_0⟩,
 ⟨34,.ne,[.e 33,.c (.int 0)]⟩,
 ⟨35,.or,[.e 31,.e 34]⟩,
 ⟨36,.outB "fine.0" o_fine_0,[]⟩,
 ⟨37,.not,[.e 35]⟩,
 ⟨38,.outI "gPlay.0" o_gPlay_0,v_lPoints_1⟩,
 ⟨39,.outI "gPlay.1" o_gPlay_1,v_lPoints_1⟩,
 ⟨40,.outI "gPlay.2" o_gPlay_2,v_lPoints_1⟩,
 ⟨41,.outI "gPlay.3" o_gPlay_3,v_lPoints_1⟩,
 ⟨42,.outI "gPlay.4" o_gPlay_4,v_lPoints_1⟩,
 ⟨43,.outI "gPlay.5" o_gPlay_5,v_lPoints_1⟩,
 ⟨44,.outI "gPlay.6" o_gPlay_6,v_lPoints_1⟩,
 ⟨45,.outI "gPlay.7" o_gPlay_7,v_lPoints_1⟩]
noncomputable def a_lPoints_0_1:List En:=[⟨46,.outI "gPlay.8" o_gPlay_8,v_lPoints_1⟩,
 ⟨47,.outB "gPlay.9" o_gPlay_9,v_lPoints_1⟩,
 ⟨48,.outB "gPlay.10" o_gPlay_10,v_lPoints_1⟩,
 ⟨49,.outB "gPlay.11" o_gPlay_11,v_lPoints_1⟩,
 ⟨50,.outB "gPlay.12" o_gPlay_12,v_lPoints_1⟩,
 ⟨51,.outB "gPlay.13" o_gPlay_13,v_lPoints_1⟩,
 ⟨52,.outB "gPlay.14" o_gPlay_14,v_lPoints_1⟩,
 ⟨53,.outB "gPlay.15" o_gPlay_15,v_lPoints_1⟩,
 ⟨54,.outB "gPlay.16" o_gPlay_16,v_lPoints_1⟩,
 ⟨55,.outI "gPlay.17" o_gPlay_17,v_lPoints_1⟩,
 ⟨56,.outI "gPlay.18" o_gPlay_18,v_lPoints_1⟩,
 ⟨57,.outB "gPlay.19" o_gPlay_19,v_lPoints_1⟩,
 ⟨58,.outB "gPlay.20" o_gPlay_20,v_lPoints_1⟩,
 ⟨59,.outB "gPlay.21" o_gPlay_21,v_lPoints_1⟩,
 ⟨60,.outI "gPlay.22" o_gPlay_22,v_lPoints_1⟩,
 ⟨61,.outI "gPlay.23" o_gPlay_23,v_lPoints_1⟩]
noncomputable def a_lPoints_0_2:List En:=[⟨62,.outI "gPlay.24" o_gPlay_24,v_lPoints_1⟩,
 ⟨63,.outI "gPlay.25" o_gPlay_25,v_lPoints_1⟩,
 ⟨64,.outI "gPlay.26" o_gPlay_26,v_lPoints_1⟩,
 ⟨65,.ne,[.e 64,.c (.int 0)]⟩,
 ⟨66,.and,[.e 37,.e 65]⟩,
 ⟨67,.eqs [.i,.i,.i,.i,.i,.i,.i,.i,.i,.b,.b,.b,.b,.b,.b,.b,.b,.i,.i,.b,.b,.b,.i,.i,.i,.i],[.e 38,.c (.int 0),.e 39,.c (.int 0),.e 40,.c (.int 0),.e 41,.c (.int 0),.e 42,.c (.int 0),.e 43,.c (.int 0),.e 44,.c (.int 0),.e 45,.c (.int 0),.e 46,.c (.int 0),.e 47,.c (.bool false),.e 48,.c (.bool false),.e 49,.c (.bool false),.e 50,.c (.bool false),.e 51,.c (.bool false),.e 52,.c (.bool false),.e 53,.c (.bool false),.e 54,.c (.bool false),.e 55,.c (.int 0),.e 56,.c (.int 0),.e 57,.c (.bool false),.e 58,.c (.bool false),.e 59,.c (.bool false),.e 60,.c (.int 0),.e 61,.c (.int 0),.e 62,.c (.int 0),.e 63,.c (.int 0)]⟩,
 ⟨68,.and,[.e 66,.e 67]⟩,
 ⟨69,.outB "fine.0" o_fine_0,[]⟩,
 ⟨70,.and,[.e 67,.e 69]⟩,
 ⟨71,.and,[.e 37,.n 65]⟩,
 ⟨72,.len,[.e 29]⟩,
 ⟨73,.lt,[.c (.int 0),.e 72]⟩,
 ⟨74,.and,[.e 71,.e 73]⟩,
 ⟨75,.len,[.e 29]⟩,
 ⟨76,.o2 .sub,[.e 75,.c (.int 1)]⟩,
 ⟨77,.get .i 0,[.e 29,.e 76]⟩]
noncomputable def a_lPoints_0_3:List En:=[⟨78,.eq,[.e 77,.c (.int 5)]⟩,
 ⟨79,.and,[.e 73,.e 78]⟩,
 ⟨80,.eq,[.e 43,.e 5]⟩,
 ⟨81,.lt,[.e 43,.e 5]⟩,
 ⟨82,.and,[.e 71,.n 81]⟩,
 ⟨83,.and,[.e 82,.n 80]⟩,
 ⟨84,.ne,[.e 26,.c (.int 2)]⟩,
 ⟨85,.and,[.e 83,.n 84]⟩,
 ⟨86,.or,[.e 84,.e 79]⟩,
 ⟨87,.and,[.n 80,.e 86]⟩,
 ⟨88,.or,[.e 81,.e 87]⟩,
 ⟨89,.and,[.e 71,.n 88]⟩,
 ⟨90,.and,[.e 89,.n 80]⟩,
 ⟨91,.and,[.n 80,.e 21]⟩,
 ⟨92,.and,[.e 89,.e 91]⟩,
 ⟨93,.and,[.e 89,.e 91]⟩]
noncomputable def a_lPoints_0_4:List En:=[⟨94,.eq,[.c (.int 0),.e 2]⟩,
 ⟨95,.and,[.e 91,.e 94]⟩,
 ⟨96,.or,[.e 88,.e 95]⟩,
 ⟨97,.and,[.e 71,.e 96]⟩,
 ⟨98,.and,[.e 71,.n 96]⟩,
 ⟨99,.neb,[.e 47,.e 9]⟩,
 ⟨100,.and,[.e 98,.e 99]⟩,
 ⟨101,.and,[.e 100,.n 79]⟩,
 ⟨102,.ne,[.e 26,.c (.int 1)]⟩,
 ⟨103,.and,[.e 101,.e 102]⟩,
 ⟨104,.and,[.e 101,.e 102]⟩,
 ⟨105,.ne,[.e 43,.c (.int 13)]⟩,
 ⟨106,.and,[.e 102,.e 105]⟩,
 ⟨107,.or,[.e 79,.e 106]⟩,
 ⟨108,.and,[.e 99,.e 107]⟩,
 ⟨109,.and,[.e 98,.e 108]⟩]
noncomputable def a_lPoints_0_5:List En:=[⟨110,.and,[.e 98,.n 108]⟩,
 ⟨111,.or,[.e 97,.e 109]⟩,
 ⟨112,.eq,[.e 44,.e 6]⟩,
 ⟨113,.lt,[.e 44,.e 6]⟩,
 ⟨114,.and,[.e 110,.n 113]⟩,
 ⟨115,.and,[.e 114,.n 112]⟩,
 ⟨116,.ne,[.e 26,.c (.int 2)]⟩,
 ⟨117,.and,[.e 115,.n 116]⟩,
 ⟨118,.or,[.e 116,.e 79]⟩,
 ⟨119,.and,[.n 112,.e 118]⟩,
 ⟨120,.or,[.e 113,.e 119]⟩,
 ⟨121,.and,[.e 110,.n 120]⟩,
 ⟨122,.and,[.e 121,.n 112]⟩,
 ⟨123,.and,[.n 112,.e 21]⟩,
 ⟨124,.and,[.e 121,.e 123]⟩,
 ⟨125,.and,[.e 121,.e 123]⟩]
noncomputable def a_lPoints_0_6:List En:=[⟨126,.eq,[.c (.int 1),.e 2]⟩,
 ⟨127,.and,[.e 123,.e 126]⟩,
 ⟨128,.or,[.e 120,.e 127]⟩,
 ⟨129,.and,[.e 110,.e 128]⟩,
 ⟨130,.and,[.e 110,.n 128]⟩,
 ⟨131,.neb,[.e 48,.e 10]⟩,
 ⟨132,.and,[.e 130,.e 131]⟩,
 ⟨133,.and,[.e 132,.n 79]⟩,
 ⟨134,.ne,[.e 26,.c (.int 1)]⟩,
 ⟨135,.and,[.e 133,.e 134]⟩,
 ⟨136,.and,[.e 133,.e 134]⟩,
 ⟨137,.ne,[.e 44,.c (.int 13)]⟩,
 ⟨138,.and,[.e 134,.e 137]⟩,
 ⟨139,.or,[.e 79,.e 138]⟩,
 ⟨140,.and,[.e 131,.e 139]⟩,
 ⟨141,.and,[.e 130,.e 140]⟩]
noncomputable def a_lPoints_0_7:List En:=[⟨142,.and,[.e 130,.n 140]⟩,
 ⟨143,.ite .b,[.e 129,.e 108,.e 140]⟩,
 ⟨144,.or,[.e 129,.e 141]⟩,
 ⟨145,.eq,[.e 45,.e 7]⟩,
 ⟨146,.lt,[.e 45,.e 7]⟩,
 ⟨147,.and,[.e 142,.n 146]⟩,
 ⟨148,.and,[.e 147,.n 145]⟩,
 ⟨149,.ne,[.e 26,.c (.int 2)]⟩,
 ⟨150,.and,[.e 148,.n 149]⟩,
 ⟨151,.or,[.e 149,.e 79]⟩,
 ⟨152,.and,[.n 145,.e 151]⟩,
 ⟨153,.or,[.e 146,.e 152]⟩,
 ⟨154,.and,[.e 142,.n 153]⟩,
 ⟨155,.and,[.e 154,.n 145]⟩,
 ⟨156,.and,[.n 145,.e 21]⟩,
 ⟨157,.and,[.e 154,.e 156]⟩]
noncomputable def a_lPoints_0_8:List En:=[⟨158,.and,[.e 154,.e 156]⟩,
 ⟨159,.eq,[.c (.int 0),.e 2]⟩,
 ⟨160,.and,[.e 156,.e 159]⟩,
 ⟨161,.or,[.e 153,.e 160]⟩,
 ⟨162,.and,[.e 142,.e 161]⟩,
 ⟨163,.and,[.e 142,.n 161]⟩,
 ⟨164,.neb,[.e 49,.e 11]⟩,
 ⟨165,.and,[.e 163,.e 164]⟩,
 ⟨166,.and,[.e 165,.n 79]⟩,
 ⟨167,.ne,[.e 26,.c (.int 1)]⟩,
 ⟨168,.and,[.e 166,.e 167]⟩,
 ⟨169,.and,[.e 166,.e 167]⟩,
 ⟨170,.ne,[.e 45,.c (.int 13)]⟩,
 ⟨171,.and,[.e 167,.e 170]⟩,
 ⟨172,.or,[.e 79,.e 171]⟩,
 ⟨173,.and,[.e 164,.e 172]⟩]
noncomputable def a_lPoints_0_9:List En:=[⟨174,.and,[.e 163,.e 173]⟩,
 ⟨175,.and,[.e 163,.n 173]⟩,
 ⟨176,.ite .b,[.e 162,.e 140,.e 173]⟩,
 ⟨177,.or,[.e 162,.e 174]⟩,
 ⟨178,.eq,[.e 46,.e 8]⟩,
 ⟨179,.lt,[.e 46,.e 8]⟩,
 ⟨180,.and,[.e 175,.n 179]⟩,
 ⟨181,.and,[.e 180,.n 178]⟩,
 ⟨182,.ne,[.e 26,.c (.int 2)]⟩,
 ⟨183,.and,[.e 181,.n 182]⟩,
 ⟨184,.or,[.e 182,.e 79]⟩,
 ⟨185,.and,[.n 178,.e 184]⟩,
 ⟨186,.or,[.e 179,.e 185]⟩,
 ⟨187,.and,[.e 175,.n 186]⟩,
 ⟨188,.and,[.e 187,.n 178]⟩,
 ⟨189,.and,[.n 178,.e 21]⟩]
noncomputable def a_lPoints_0_10:List En:=[⟨190,.and,[.e 187,.e 189]⟩,
 ⟨191,.and,[.e 187,.e 189]⟩,
 ⟨192,.eq,[.c (.int 1),.e 2]⟩,
 ⟨193,.and,[.e 189,.e 192]⟩,
 ⟨194,.or,[.e 186,.e 193]⟩,
 ⟨195,.and,[.e 175,.e 194]⟩,
 ⟨196,.and,[.e 175,.n 194]⟩,
 ⟨197,.neb,[.e 50,.e 12]⟩,
 ⟨198,.and,[.e 196,.e 197]⟩,
 ⟨199,.and,[.e 198,.n 79]⟩,
 ⟨200,.ne,[.e 26,.c (.int 1)]⟩,
 ⟨201,.and,[.e 199,.e 200]⟩,
 ⟨202,.and,[.e 199,.e 200]⟩,
 ⟨203,.ne,[.e 46,.c (.int 13)]⟩,
 ⟨204,.and,[.e 200,.e 203]⟩,
 ⟨205,.or,[.e 79,.e 204]⟩]
noncomputable def a_lPoints_0_11:List En:=[⟨206,.and,[.e 197,.e 205]⟩,
 ⟨207,.and,[.e 196,.e 206]⟩,
 ⟨208,.and,[.e 196,.n 206]⟩,
 ⟨209,.ite .b,[.e 195,.e 173,.e 206]⟩,
 ⟨210,.or,[.e 195,.e 207]⟩,
 ⟨211,.ite .b,[.e 177,.e 145,.e 178]⟩,
 ⟨212,.ite .b,[.e 177,.e 161,.e 194]⟩,
 ⟨213,.ite .b,[.e 177,.e 176,.e 209]⟩,
 ⟨214,.ite .i,[.e 177,.c (.int 2),.c (.int 3)]⟩,
 ⟨215,.or,[.e 177,.e 210]⟩,
 ⟨216,.ite .b,[.e 144,.e 112,.e 211]⟩,
 ⟨217,.ite .b,[.e 144,.e 128,.e 212]⟩,
 ⟨218,.ite .b,[.e 144,.e 143,.e 213]⟩,
 ⟨219,.ite .i,[.e 144,.c (.int 1),.e 214]⟩,
 ⟨220,.or,[.e 144,.e 215]⟩,
 ⟨221,.ite .b,[.e 111,.e 80,.e 216]⟩]
noncomputable def a_lPoints_0_12:List En:=[⟨222,.ite .b,[.e 111,.e 96,.e 217]⟩,
 ⟨223,.ite .i,[.e 111,.c (.int 0),.e 219]⟩,
 ⟨224,.or,[.e 111,.e 220]⟩,
 ⟨225,.outI "gscore.0" o_gscore_0,v_lPoints_0⟩,
 ⟨226,.outI "gscore.1" o_gscore_1,v_lPoints_0⟩,
 ⟨227,.outI "gscore.2" o_gscore_2,v_lPoints_0⟩,
 ⟨228,.outI "gscore.0" o_gscore_0,v_lPoints_2⟩,
 ⟨229,.outI "gscore.1" o_gscore_1,v_lPoints_2⟩,
 ⟨230,.outI "gscore.2" o_gscore_2,v_lPoints_2⟩,
 ⟨231,.eq,[.e 227,.c (.int 0)]⟩,
 ⟨232,.and,[.e 208,.e 231]⟩,
 ⟨233,.eq,[.e 230,.c (.int 0)]⟩,
 ⟨234,.and,[.e 231,.e 233]⟩,
 ⟨235,.and,[.e 208,.e 234]⟩,
 ⟨236,.le,[.e 225,.e 228]⟩,
 ⟨237,.and,[.e 234,.e 236]⟩]
noncomputable def a_lPoints_0_13:List En:=[⟨238,.and,[.e 208,.e 237]⟩,
 ⟨239,.le,[.e 226,.e 229]⟩,
 ⟨240,.and,[.e 237,.e 239]⟩,
 ⟨241,.and,[.e 208,.e 240]⟩,
 ⟨242,.outB "fine.0" o_fine_0,[]⟩,
 ⟨243,.and,[.e 240,.e 242]⟩,
 ⟨244,.ite .b,[.e 224,.e 221,.e 178]⟩,
 ⟨245,.ite .b,[.e 224,.e 222,.e 194]⟩,
 ⟨246,.ite .b,[.e 224,.c (.bool false),.e 243]⟩,
 ⟨247,.ite .i,[.e 224,.e 223,.c (.int 4)]⟩,
 ⟨248,.ite .i,[.e 224,.e 64,.e 227]⟩,
 ⟨249,.ite .b,[.e 224,.c (.bool true),.c (.bool false)]⟩,
 ⟨250,.or,[.e 224,.e 208]⟩,
 ⟨251,.ite .b,[.e 66,.e 70,.e 246]⟩,
 ⟨252,.ite .i,[.e 66,.e 64,.e 248]⟩,
 ⟨253,.or,[.e 66,.e 250]⟩]
noncomputable def a_lPoints_0_14:List En:=[⟨254,.ite .b,[.e 35,.e 36,.e 251]⟩,
 ⟨255,.or,[.e 35,.e 253]⟩]
noncomputable def a_lPoints_0:List En:=a_lPoints_0_0++(a_lPoints_0_1++(a_lPoints_0_2++(a_lPoints_0_3++(a_lPoints_0_4++(a_lPoints_0_5++(a_lPoints_0_6++(a_lPoints_0_7++(a_lPoints_0_8++(a_lPoints_0_9++(a_lPoints_0_10++(a_lPoints_0_11++(a_lPoints_0_12++(a_lPoints_0_13++(a_lPoints_0_14))))))))))))))
noncomputable def q_lPoints:List ObE:=[⟨some 74,.inl,[.e 76,.e 29]⟩]
def r_lPoints:List Rf:=[.e 254]
end Go.Eng
end
section
open Go Go.Eng Go.Proofs
set_option maxHeartbeats 4000000
set_option maxRecDepth 100000
namespace Go.Eng
theorem s_lPoints:seesL 30 (lawRun Try.prog [(12,t_gPlay),(14,t_rcheck),(16,t_gscore),(11,t_fine)] hints 3000 20 5 as_lPoints 30)=some (254,(a_lPoints_0).map En.be,q_lPoints.map ObE.be):=by kernel_rfl
theorem m_lPoints {T:Tab}(hl29:(L T 29).length≤140737488355328)(g:Gm)(hg:g=Gm.mk (I T 0) (I T 1) (I T 2) (I T 3) (I T 4) (I T 5) (I T 6) (I T 7) (I T 8) (B T 9) (B T 10) (B T 11) (B T 12) (B T 13) (B T 14) (B T 15) (B T 16) (I T 17) (I T 18) (B T 19) (B T 20) (B T 21) (I T 22) (I T 23) (I T 24) (I T 25))(hb29:(L T 29).length≤1048576)(g1:Gm)(z1:g1=Gm.mk (I T 0) (I T 1) (I T 2) (I T 3) (I T 4) (I T 5) (I T 6) (I T 7) (I T 8) (B T 9) (B T 10) (B T 11) (B T 12) (B T 13) (B T 14) (B T 15) (B T 16) (I T 17) (I T 18) (B T 19) (B T 20) (B T 21) (I T 22) (I T 23) (I T 24) (I T 25))(g2:Gm)(z2:g2=Gm.mk (I T 0) (I T 1) (I T 2) (I T 3) (I T 4) (I T 5) (I T 6) (I T 7) (I T 8) (B T 9) (B T 10) (B T 11) (B T 12) (B T 13) (B T 14) (B T 15) (B T 16) (I T 17) (I T 18) (B T 19) (B T 20) (B T 21) (I T 22) (I T 23) (I T 24) (I T 25))(g3:Gm)(z3:g3=Gm.mk (I T 38) (I T 39) (I T 40) (I T 41) (I T 42) (I T 43) (I T 44) (I T 45) (I T 46) (B T 47) (B T 48) (B T 49) (B T 50) (B T 51) (B T 52) (B T 53) (B T 54) (I T 55) (I T 56) (B T 57) (B T 58) (B T 59) (I T 60) (I T 61) (I T 62) (I T 63))(A0:Facts T a_lPoints_0):
  ((B T 254)=(true))∧
  (B T 74=true→0≤I T 76∧I T 76 < ((L T 29)).length):=by
 obtain⟨F0,A0⟩:=A0.cut
 obtain⟨F1,A0⟩:=A0.cut
 obtain⟨F2,A0⟩:=A0.cut
 obtain⟨F3,A0⟩:=A0.cut
 obtain⟨F4,A0⟩:=A0.cut
 obtain⟨F5,A0⟩:=A0.cut
 obtain⟨F6,A0⟩:=A0.cut
 obtain⟨F7,A0⟩:=A0.cut
 obtain⟨F8,A0⟩:=A0.cut
 obtain⟨F9,A0⟩:=A0.cut
 obtain⟨F10,A0⟩:=A0.cut
 obtain⟨F11,A0⟩:=A0.cut
 obtain⟨F12,A0⟩:=A0.cut
 obtain⟨F13,A0⟩:=A0.cut
 have F14:=A0;clear A0
 have hgA:g1=g:=by rw[z1,hg]
 have hgB:g2=g:=by rw[z2,hg]
 have hleg:(I T 33)=0→legalS g=true:=by
  obtain⟨-,-,-,e33,-⟩:=F0
  replace e33:I T 33=((if legalS g1=true then 0 else 2)):=by rw[←show gAt 0 (v_lPoints_0.map (Rf.eval T))=g1 from z1.symm];exact e33
  rw[e33,hgA]
  intro h
  split at h
  ·assumption
  ·omega
 have h64:(I T 64)=errS g (I T 26) (I T 27) (B T 28) (L T 29):=by
  obtain⟨-,-,e64,-⟩:=F2
  replace e64:I T 64=(errS g2 (I T 26) (I T 27) (B T 28) (L T 29)):=by rw[←show gAt 0 (v_lPoints_1.map (Rf.eval T))=g2 from z2.symm];exact e64
  rw[e64,hgB]
 have hhw:(I T 33)=0→(0≤I T 2∧I T 2≤1):=by
  obtain⟨-,-,-,e33,-⟩:=F0
  replace e33:I T 33=((if legalS g1=true then 0 else 2)):=by rw[←show gAt 0 (v_lPoints_0.map (Rf.eval T))=g1 from z1.symm];exact e33
  intro h
  have x:=(legal_base (hleg h)).side
  rw[hg] at x
  exact x
 have hflt:(B T 79)=true↔faultS (L T 29)=true:=by
  obtain⟨-,-,-,-,-,-,-,-,-,-,e72,e73,-,e75,e76,e77,-⟩:=F2
  obtain⟨e78,e79,-⟩:=F3
  simp only[fact,bR_e,zR,op2P,zL] at e72 e73 e75 e76 e77 e78 e79
  clear hg hgA hgB hleg h64 hhw
  simp only[faultS,Bool.and_eq_true,decide_eq_true_eq]
  by_cases h:(0:Int) < ((L T 29)).length
  ·have e:(I T 76).toNat=((L T 29)).length - 1:=by omega
   rw[e] at e77
   grind
  ·grind
 have cr2_0:Gm.mk (I T 38) (I T 39) (I T 40) (I T 41) (I T 42) (I T 43) (I T 44) (I T 45) (I T 46) (B T 47) (B T 48) (B T 49) (B T 50) (B T 51) (B T 52) (B T 53) (B T 54) (I T 55) (I T 56) (B T 57) (B T 58) (B T 59) (I T 60) (I T 61) (I T 62) (I T 63)=resS g2 (I T 26) (I T 27) (B T 28) (L T 29):=by
  obtain⟨-,-,-,-,-,-,-,-,e38,e39,e40,e41,e42,e43,e44,e45,-⟩:=F0
  obtain⟨e46,e47,e48,e49,e50,e51,e52,e53,e54,e55,e56,e57,e58,e59,e60,e61,-⟩:=F1
  obtain⟨e62,e63,-⟩:=F2
  rw[←show gAt 0 (v_lPoints_1.map (Rf.eval T))=g2 from z2.symm]
  exact gm_congr e38 e39 e40 e41 e42 e43 e44 e45 e46 e47 e48 e49 e50 e51 e52 e53 e54 e55 e56 e57 e58 e59 e60 e61 e62 e63
 have hz:¬I T 64=0→B T 67=true:=by
  obtain⟨-,-,-,-,-,e67,-⟩:=F2
  simp only[fact,bR_e,zC,zR,eqsP,and_true] at e67
  intro h
  rw[hgB] at cr2_0
  unfold resS at cr2_0
  rw[if_neg (by rw[←h64];exact h)] at cr2_0
  simp only[zeroS,Gm.mk.injEq] at cr2_0
  clear hleg hhw hflt hg hgA hgB h64
  grind
 have hpt:(I T 64)=0→PtsOk g (Gm.mk (I T 38) (I T 39) (I T 40) (I T 41) (I T 42) (I T 43) (I T 44) (I T 45) (I T 46) (B T 47) (B T 48) (B T 49) (B T 50) (B T 51) (B T 52) (B T 53) (B T 54) (I T 55) (I T 56) (B T 57) (B T 58) (B T 59) (I T 60) (I T 61) (I T 62) (I T 63)) (I T 26) (faultS (L T 29)):=by
  obtain⟨-,-,-,-,-,-,-,-,e38,e39,e40,e41,e42,e43,e44,e45,-⟩:=F0
  obtain⟨e46,e47,e48,e49,e50,e51,e52,e53,e54,e55,e56,e57,e58,e59,e60,e61,-⟩:=F1
  obtain⟨e62,e63,e64,-⟩:=F2
  replace e38:I T 38=(((resS g2 (I T 26) (I T 27) (B T 28) (L T 29))).code):=by rw[←show gAt 0 (v_lPoints_1.map (Rf.eval T))=g2 from z2.symm];exact e38
  replace e39:I T 39=(((resS g2 (I T 26) (I T 27) (B T 28) (L T 29))).phase):=by rw[←show gAt 0 (v_lPoints_1.map (Rf.eval T))=g2 from z2.symm];exact e39
  replace e40:I T 40=(((resS g2 (I T 26) (I T 27) (B T 28) (L T 29))).side):=by rw[←show gAt 0 (v_lPoints_1.map (Rf.eval T))=g2 from z2.symm];exact e40
  replace e41:I T 41=(((resS g2 (I T 26) (I T 27) (B T 28) (L T 29))).ball):=by rw[←show gAt 0 (v_lPoints_1.map (Rf.eval T))=g2 from z2.symm];exact e41
  replace e42:I T 42=(((resS g2 (I T 26) (I T 27) (B T 28) (L T 29))).taken):=by rw[←show gAt 0 (v_lPoints_1.map (Rf.eval T))=g2 from z2.symm];exact e42
  replace e43:I T 43=(((resS g2 (I T 26) (I T 27) (B T 28) (L T 29))).p0):=by rw[←show gAt 0 (v_lPoints_1.map (Rf.eval T))=g2 from z2.symm];exact e43
  replace e44:I T 44=(((resS g2 (I T 26) (I T 27) (B T 28) (L T 29))).p1):=by rw[←show gAt 0 (v_lPoints_1.map (Rf.eval T))=g2 from z2.symm];exact e44
  replace e45:I T 45=(((resS g2 (I T 26) (I T 27) (B T 28) (L T 29))).p2):=by rw[←show gAt 0 (v_lPoints_1.map (Rf.eval T))=g2 from z2.symm];exact e45
  replace e46:I T 46=(((resS g2 (I T 26) (I T 27) (B T 28) (L T 29))).p3):=by rw[←show gAt 0 (v_lPoints_1.map (Rf.eval T))=g2 from z2.symm];exact e46
  replace e47:B T 47=(((resS g2 (I T 26) (I T 27) (B T 28) (L T 29))).n0):=by rw[←show gAt 0 (v_lPoints_1.map (Rf.eval T))=g2 from z2.symm];exact e47
  replace e48:B T 48=(((resS g2 (I T 26) (I T 27) (B T 28) (L T 29))).n1):=by rw[←show gAt 0 (v_lPoints_1.map (Rf.eval T))=g2 from z2.symm];exact e48
  replace e49:B T 49=(((resS g2 (I T 26) (I T 27) (B T 28) (L T 29))).n2):=by rw[←show gAt 0 (v_lPoints_1.map (Rf.eval T))=g2 from z2.symm];exact e49
  replace e50:B T 50=(((resS g2 (I T 26) (I T 27) (B T 28) (L T 29))).n3):=by rw[←show gAt 0 (v_lPoints_1.map (Rf.eval T))=g2 from z2.symm];exact e50
  replace e51:B T 51=(((resS g2 (I T 26) (I T 27) (B T 28) (L T 29))).d0):=by rw[←show gAt 0 (v_lPoints_1.map (Rf.eval T))=g2 from z2.symm];exact e51
  replace e52:B T 52=(((resS g2 (I T 26) (I T 27) (B T 28) (L T 29))).d1):=by rw[←show gAt 0 (v_lPoints_1.map (Rf.eval T))=g2 from z2.symm];exact e52
  replace e53:B T 53=(((resS g2 (I T 26) (I T 27) (B T 28) (L T 29))).d2):=by rw[←show gAt 0 (v_lPoints_1.map (Rf.eval T))=g2 from z2.symm];exact e53
  replace e54:B T 54=(((resS g2 (I T 26) (I T 27) (B T 28) (L T 29))).d3):=by rw[←show gAt 0 (v_lPoints_1.map (Rf.eval T))=g2 from z2.symm];exact e54
  replace e55:I T 55=(((resS g2 (I T 26) (I T 27) (B T 28) (L T 29))).h0):=by rw[←show gAt 0 (v_lPoints_1.map (Rf.eval T))=g2 from z2.symm];exact e55
  replace e56:I T 56=(((resS g2 (I T 26) (I T 27) (B T 28) (L T 29))).h1):=by rw[←show gAt 0 (v_lPoints_1.map (Rf.eval T))=g2 from z2.symm];exact e56
  replace e57:B T 57=(((resS g2 (I T 26) (I T 27) (B T 28) (L T 29))).l0):=by rw[←show gAt 0 (v_lPoints_1.map (Rf.eval T))=g2 from z2.symm];exact e57
  replace e58:B T 58=(((resS g2 (I T 26) (I T 27) (B T 28) (L T 29))).l1):=by rw[←show gAt 0 (v_lPoints_1.map (Rf.eval T))=g2 from z2.symm];exact e58
  replace e59:B T 59=(((resS g2 (I T 26) (I T 27) (B T 28) (L T 29))).half):=by rw[←show gAt 0 (v_lPoints_1.map (Rf.eval T))=g2 from z2.symm];exact e59
  replace e60:I T 60=(((resS g2 (I T 26) (I T 27) (B T 28) (L T 29))).turns):=by rw[←show gAt 0 (v_lPoints_1.map (Rf.eval T))=g2 from z2.symm];exact e60
  replace e61:I T 61=(((resS g2 (I T 26) (I T 27) (B T 28) (L T 29))).began):=by rw[←show gAt 0 (v_lPoints_1.map (Rf.eval T))=g2 from z2.symm];exact e61
  replace e62:I T 62=(((resS g2 (I T 26) (I T 27) (B T 28) (L T 29))).lastb):=by rw[←show gAt 0 (v_lPoints_1.map (Rf.eval T))=g2 from z2.symm];exact e62
  replace e63:I T 63=(((resS g2 (I T 26) (I T 27) (B T 28) (L T 29))).winner):=by rw[←show gAt 0 (v_lPoints_1.map (Rf.eval T))=g2 from z2.symm];exact e63
  replace e64:I T 64=(errS g2 (I T 26) (I T 27) (B T 28) (L T 29)):=by rw[←show gAt 0 (v_lPoints_1.map (Rf.eval T))=g2 from z2.symm];exact e64
  intro h
  have he:errS g (I T 26) (I T 27) (B T 28) (L T 29)=0:=by rw[←h64];exact h
  rw[hgB] at cr2_0
  unfold resS at cr2_0
  rw[if_pos he] at cr2_0
  exact play_points he cr2_0
 have hsc:(I T 33)=0→I T 225=scoreS (hoopsS (I T 0)) (I T 5) (I T 7)∧I T 226=scoreS (hoopsS (I T 0)) (I T 6) (I T 8)∧I T 227=0:=by
  obtain⟨-,-,-,e33,-⟩:=F0
  obtain⟨-,-,-,e225,e226,e227,-⟩:=F12
  replace e33:I T 33=((if legalS g1=true then 0 else 2)):=by rw[←show gAt 0 (v_lPoints_0.map (Rf.eval T))=g1 from z1.symm];exact e33
  replace e225:I T 225=((if legalS g1=true then scoreS (hoopsS (I T 0)) (I T 5) (I T 7) else 0)):=by rw[←show gAt 0 (v_lPoints_0.map (Rf.eval T))=g1 from z1.symm];exact e225
  replace e226:I T 226=((if legalS g1=true then scoreS (hoopsS (I T 0)) (I T 6) (I T 8) else 0)):=by rw[←show gAt 0 (v_lPoints_0.map (Rf.eval T))=g1 from z1.symm];exact e226
  replace e227:I T 227=((if legalS g1=true then 0 else 2)):=by rw[←show gAt 0 (v_lPoints_0.map (Rf.eval T))=g1 from z1.symm];exact e227
  intro h
  have hl:=hleg h
  rw[hgA] at e225 e226 e227
  rw[if_pos hl] at e225 e226 e227
  exact⟨e225,e226,e227⟩
 have hsn:(I T 64)=0→I T 228=scoreS (hoopsS (I T 38)) (I T 43) (I T 45)∧I T 229=scoreS (hoopsS (I T 38)) (I T 44) (I T 46)∧I T 230=0:=by
  obtain⟨-,-,-,-,-,-,-,-,e38,e39,e40,e41,e42,e43,e44,e45,-⟩:=F0
  obtain⟨e46,e47,e48,e49,e50,e51,e52,e53,e54,e55,e56,e57,e58,e59,e60,e61,-⟩:=F1
  obtain⟨e62,e63,e64,-⟩:=F2
  obtain⟨-,-,-,-,-,-,e228,e229,e230,-⟩:=F12
  replace e38:I T 38=(((resS g2 (I T 26) (I T 27) (B T 28) (L T 29))).code):=by rw[←show gAt 0 (v_lPoints_1.map (Rf.eval T))=g2 from z2.symm];exact e38
  replace e39:I T 39=(((resS g2 (I T 26) (I T 27) (B T 28) (L T 29))).phase):=by rw[←show gAt 0 (v_lPoints_1.map (Rf.eval T))=g2 from z2.symm];exact e39
  replace e40:I T 40=(((resS g2 (I T 26) (I T 27) (B T 28) (L T 29))).side):=by rw[←show gAt 0 (v_lPoints_1.map (Rf.eval T))=g2 from z2.symm];exact e40
  replace e41:I T 41=(((resS g2 (I T 26) (I T 27) (B T 28) (L T 29))).ball):=by rw[←show gAt 0 (v_lPoints_1.map (Rf.eval T))=g2 from z2.symm];exact e41
  replace e42:I T 42=(((resS g2 (I T 26) (I T 27) (B T 28) (L T 29))).taken):=by rw[←show gAt 0 (v_lPoints_1.map (Rf.eval T))=g2 from z2.symm];exact e42
  replace e43:I T 43=(((resS g2 (I T 26) (I T 27) (B T 28) (L T 29))).p0):=by rw[←show gAt 0 (v_lPoints_1.map (Rf.eval T))=g2 from z2.symm];exact e43
  replace e44:I T 44=(((resS g2 (I T 26) (I T 27) (B T 28) (L T 29))).p1):=by rw[←show gAt 0 (v_lPoints_1.map (Rf.eval T))=g2 from z2.symm];exact e44
  replace e45:I T 45=(((resS g2 (I T 26) (I T 27) (B T 28) (L T 29))).p2):=by rw[←show gAt 0 (v_lPoints_1.map (Rf.eval T))=g2 from z2.symm];exact e45
  replace e46:I T 46=(((resS g2 (I T 26) (I T 27) (B T 28) (L T 29))).p3):=by rw[←show gAt 0 (v_lPoints_1.map (Rf.eval T))=g2 from z2.symm];exact e46
  replace e47:B T 47=(((resS g2 (I T 26) (I T 27) (B T 28) (L T 29))).n0):=by rw[←show gAt 0 (v_lPoints_1.map (Rf.eval T))=g2 from z2.symm];exact e47
  replace e48:B T 48=(((resS g2 (I T 26) (I T 27) (B T 28) (L T 29))).n1):=by rw[←show gAt 0 (v_lPoints_1.map (Rf.eval T))=g2 from z2.symm];exact e48
  replace e49:B T 49=(((resS g2 (I T 26) (I T 27) (B T 28) (L T 29))).n2):=by rw[←show gAt 0 (v_lPoints_1.map (Rf.eval T))=g2 from z2.symm];exact e49
  replace e50:B T 50=(((resS g2 (I T 26) (I T 27) (B T 28) (L T 29))).n3):=by rw[←show gAt 0 (v_lPoints_1.map (Rf.eval T))=g2 from z2.symm];exact e50
  replace e51:B T 51=(((resS g2 (I T 26) (I T 27) (B T 28) (L T 29))).d0):=by rw[←show gAt 0 (v_lPoints_1.map (Rf.eval T))=g2 from z2.symm];exact e51
  replace e52:B T 52=(((resS g2 (I T 26) (I T 27) (B T 28) (L T 29))).d1):=by rw[←show gAt 0 (v_lPoints_1.map (Rf.eval T))=g2 from z2.symm];exact e52
  replace e53:B T 53=(((resS g2 (I T 26) (I T 27) (B T 28) (L T 29))).d2):=by rw[←show gAt 0 (v_lPoints_1.map (Rf.eval T))=g2 from z2.symm];exact e53
  replace e54:B T 54=(((resS g2 (I T 26) (I T 27) (B T 28) (L T 29))).d3):=by rw[←show gAt 0 (v_lPoints_1.map (Rf.eval T))=g2 from z2.symm];exact e54
  replace e55:I T 55=(((resS g2 (I T 26) (I T 27) (B T 28) (L T 29))).h0):=by rw[←show gAt 0 (v_lPoints_1.map (Rf.eval T))=g2 from z2.symm];exact e55
  replace e56:I T 56=(((resS g2 (I T 26) (I T 27) (B T 28) (L T 29))).h1):=by rw[←show gAt 0 (v_lPoints_1.map (Rf.eval T))=g2 from z2.symm];exact e56
  replace e57:B T 57=(((resS g2 (I T 26) (I T 27) (B T 28) (L T 29))).l0):=by rw[←show gAt 0 (v_lPoints_1.map (Rf.eval T))=g2 from z2.symm];exact e57
  replace e58:B T 58=(((resS g2 (I T 26) (I T 27) (B T 28) (L T 29))).l1):=by rw[←show gAt 0 (v_lPoints_1.map (Rf.eval T))=g2 from z2.symm];exact e58
  replace e59:B T 59=(((resS g2 (I T 26) (I T 27) (B T 28) (L T 29))).half):=by rw[←show gAt 0 (v_lPoints_1.map (Rf.eval T))=g2 from z2.symm];exact e59
  replace e60:I T 60=(((resS g2 (I T 26) (I T 27) (B T 28) (L T 29))).turns):=by rw[←show gAt 0 (v_lPoints_1.map (Rf.eval T))=g2 from z2.symm];exact e60
  replace e61:I T 61=(((resS g2 (I T 26) (I T 27) (B T 28) (L T 29))).began):=by rw[←show gAt 0 (v_lPoints_1.map (Rf.eval T))=g2 from z2.symm];exact e61
  replace e62:I T 62=(((resS g2 (I T 26) (I T 27) (B T 28) (L T 29))).lastb):=by rw[←show gAt 0 (v_lPoints_1.map (Rf.eval T))=g2 from z2.symm];exact e62
  replace e63:I T 63=(((resS g2 (I T 26) (I T 27) (B T 28) (L T 29))).winner):=by rw[←show gAt 0 (v_lPoints_1.map (Rf.eval T))=g2 from z2.symm];exact e63
  replace e64:I T 64=(errS g2 (I T 26) (I T 27) (B T 28) (L T 29)):=by rw[←show gAt 0 (v_lPoints_1.map (Rf.eval T))=g2 from z2.symm];exact e64
  replace e228:I T 228=((if legalS g3=true then scoreS (hoopsS (I T 38)) (I T 43) (I T 45) else 0)):=by rw[←show gAt 0 (v_lPoints_2.map (Rf.eval T))=g3 from z3.symm];exact e228
  replace e229:I T 229=((if legalS g3=true then scoreS (hoopsS (I T 38)) (I T 44) (I T 46) else 0)):=by rw[←show gAt 0 (v_lPoints_2.map (Rf.eval T))=g3 from z3.symm];exact e229
  replace e230:I T 230=((if legalS g3=true then 0 else 2)):=by rw[←show gAt 0 (v_lPoints_2.map (Rf.eval T))=g3 from z3.symm];exact e230
  intro h
  have he:errS g (I T 26) (I T 27) (B T 28) (L T 29)=0:=by rw[←h64];exact h
  have hl:legalS g3=true:=by
   rw[z3,cr2_0,hgB]
   unfold resS
   rw[if_pos he]
   exact legal_res he
  rw[if_pos hl] at e228 e229 e230
  exact⟨e228,e229,e230⟩
 have k96:(I T 33)=0→I T 64=0→B T 96=false:=by
  obtain⟨-,-,e80,e81,-,-,e84,-,e86,e87,e88,-,-,e91,-⟩:=F3
  obtain⟨e94,e95,e96,-⟩:=F4
  simp only[fact,bR_e,zN,zR] at e80 e81 e84 e86 e87 e88 e91 e94 e95 e96
  intro h33 h
  obtain⟨m0,m1,m2,m3,m4,m5,m6,m7⟩:=hpt h
  rw[←hflt] at m5 m6
  rw[hg] at m0 m1 m2 m3 m4 m5 m6 m7
  simp only at m0 m1 m2 m3 m4 m5 m6 m7
  have hs:=hhw h33
  clear hpt hsc hsn hz hflt hhw hg m0 m2 m3 m4 m6
  grind (splits:=30)
 have k108:(I T 33)=0→I T 64=0→B T 108=false:=by
  obtain⟨-,-,-,-,-,e99,-,-,e102,-,-,e105,e106,e107,e108,-⟩:=F4
  simp only[fact,bR_e,zR] at e99 e102 e105 e106 e107 e108
  intro h33 h
  obtain⟨m0,m1,m2,m3,m4,m5,m6,m7⟩:=hpt h
  rw[←hflt] at m5 m6
  rw[hg] at m0 m1 m2 m3 m4 m5 m6 m7
  simp only at m0 m1 m2 m3 m4 m5 m6 m7
  have hs:=hhw h33
  clear hpt hsc hsn hz hflt hhw hg m0 m2 m3 m4 m5 m7 k96
  grind (splits:=30)
 have k128:(I T 33)=0→I T 64=0→B T 128=false:=by
  obtain⟨-,-,e112,e113,-,-,e116,-,e118,e119,e120,-,-,e123,-⟩:=F5
  obtain⟨e126,e127,e128,-⟩:=F6
  simp only[fact,bR_e,zN,zR] at e112 e113 e116 e118 e119 e120 e123 e126 e127 e128
  intro h33 h
  obtain⟨m0,m1,m2,m3,m4,m5,m6,m7⟩:=hpt h
  rw[←hflt] at m5 m6
  rw[hg] at m0 m1 m2 m3 m4 m5 m6 m7
  simp only at m0 m1 m2 m3 m4 m5 m6 m7
  have hs:=hhw h33
  clear hpt hsc hsn hz hflt hhw hg m0 m1 m3 m4 m6 k96 k108
  grind (splits:=30)
 have k140:(I T 33)=0→I T 64=0→B T 140=false:=by
  obtain⟨-,-,-,-,-,e131,-,-,e134,-,-,e137,e138,e139,e140,-⟩:=F6
  simp only[fact,bR_e,zR] at e131 e134 e137 e138 e139 e140
  intro h33 h
  obtain⟨m0,m1,m2,m3,m4,m5,m6,m7⟩:=hpt h
  rw[←hflt] at m5 m6
  rw[hg] at m0 m1 m2 m3 m4 m5 m6 m7
  simp only at m0 m1 m2 m3 m4 m5 m6 m7
  have hs:=hhw h33
  clear hpt hsc hsn hz hflt hhw hg m0 m1 m3 m4 m5 m7 k96 k108 k128
  grind (splits:=30)
 have k161:(I T 33)=0→I T 64=0→B T 161=false:=by
  obtain⟨-,-,-,e145,e146,-,-,e149,-,e151,e152,e153,-,-,e156,-⟩:=F7
  obtain⟨-,e159,e160,e161,-⟩:=F8
  simp only[fact,bR_e,zN,zR] at e145 e146 e149 e151 e152 e153 e156 e159 e160 e161
  intro h33 h
  obtain⟨m0,m1,m2,m3,m4,m5,m6,m7⟩:=hpt h
  rw[←hflt] at m5 m6
  rw[hg] at m0 m1 m2 m3 m4 m5 m6 m7
  simp only at m0 m1 m2 m3 m4 m5 m6 m7
  have hs:=hhw h33
  clear hpt hsc hsn hz hflt hhw hg m0 m1 m2 m4 m6 k96 k108 k128 k140
  grind (splits:=30)
 have k173:(I T 33)=0→I T 64=0→B T 173=false:=by
  obtain⟨-,-,-,-,-,-,e164,-,-,e167,-,-,e170,e171,e172,e173,-⟩:=F8
  simp only[fact,bR_e,zR] at e164 e167 e170 e171 e172 e173
  intro h33 h
  obtain⟨m0,m1,m2,m3,m4,m5,m6,m7⟩:=hpt h
  rw[←hflt] at m5 m6
  rw[hg] at m0 m1 m2 m3 m4 m5 m6 m7
  simp only at m0 m1 m2 m3 m4 m5 m6 m7
  have hs:=hhw h33
  clear hpt hsc hsn hz hflt hhw hg m0 m1 m2 m4 m5 m7 k96 k108 k128 k140 k161
  grind (splits:=30)
 have k194:(I T 33)=0→I T 64=0→B T 194=false:=by
  obtain⟨-,-,-,-,e178,e179,-,-,e182,-,e184,e185,e186,-,-,e189,-⟩:=F9
  obtain⟨-,-,e192,e193,e194,-⟩:=F10
  simp only[fact,bR_e,zN,zR] at e178 e179 e182 e184 e185 e186 e189 e192 e193 e194
  intro h33 h
  obtain⟨m0,m1,m2,m3,m4,m5,m6,m7⟩:=hpt h
  rw[←hflt] at m5 m6
  rw[hg] at m0 m1 m2 m3 m4 m5 m6 m7
  simp only at m0 m1 m2 m3 m4 m5 m6 m7
  have hs:=hhw h33
  clear hpt hsc hsn hz hflt hhw hg m0 m1 m2 m3 m6 k96 k108 k128 k140 k161 k173
  grind (splits:=30)
 have k206:(I T 33)=0→I T 64=0→B T 206=false:=by
  obtain⟨-,-,-,-,-,-,-,e197,-,-,e200,-,-,e203,e204,e205,-⟩:=F10
  obtain⟨e206,-⟩:=F11
  simp only[fact,bR_e,zR] at e197 e200 e203 e204 e205 e206
  intro h33 h
  obtain⟨m0,m1,m2,m3,m4,m5,m6,m7⟩:=hpt h
  rw[←hflt] at m5 m6
  rw[hg] at m0 m1 m2 m3 m4 m5 m6 m7
  simp only at m0 m1 m2 m3 m4 m5 m6 m7
  have hs:=hhw h33
  clear hpt hsc hsn hz hflt hhw hg m0 m1 m2 m3 m5 m7 k96 k108 k128 k140 k161 k173 k194
  grind (splits:=30)
 have k224:(I T 33)=0→I T 64=0→B T 224=false:=by
  obtain⟨-,-,-,e97,e98,-,-,-,-,-,-,-,-,-,-,e109,-⟩:=F4
  obtain⟨e110,e111,-⟩:=F5
  obtain⟨-,-,-,e129,e130,-,-,-,-,-,-,-,-,-,-,e141,-⟩:=F6
  obtain⟨e142,-,e144,-⟩:=F7
  obtain⟨-,-,-,-,e162,e163,-⟩:=F8
  obtain⟨e174,e175,-,e177,-⟩:=F9
  obtain⟨-,-,-,-,-,e195,e196,-⟩:=F10
  obtain⟨-,e207,-,-,e210,-,-,-,-,e215,-,-,-,-,e220,-⟩:=F11
  obtain⟨-,-,e224,-⟩:=F12
  simp only[fact,bR_e,zN,zR] at e97 e98 e109 e110 e111 e129 e130 e141 e142 e144 e162 e163 e174 e175 e177 e195 e196 e207 e210 e215 e220 e224
  intro x y
  replace k96:=k96 x y
  replace k108:=k108 x y
  replace k128:=k128 x y
  replace k140:=k140 x y
  replace k161:=k161 x y
  replace k173:=k173 x y
  replace k194:=k194 x y
  replace k206:=k206 x y
  clear hpt hsc hsn hz hflt hhw hg
  grind
 clear k96 k108 k128 k140 k161 k173 k194 k206
 clear hgA hgB h64 hleg cr2_0
 refine⟨?_,?_⟩
 ·obtain⟨-,e31,-,-,e34,e35,e36,e37,-⟩:=F0
  obtain⟨-,-,-,e65,e66,e67,-,e69,e70,-⟩:=F2
  obtain⟨-,-,-,-,-,-,-,-,-,e231,-,e233,e234,-,e236,e237,-⟩:=F12
  obtain⟨-,e239,e240,-,e242,e243,-,-,e246,-,-,-,-,e251,-⟩:=F13
  obtain⟨e254,-⟩:=F14
  replace e36:B T 36=(true):=e36
  replace e69:B T 69=(true):=e69
  replace e242:B T 242=(true):=e242
  simp only[fact,bR_e,zC,zR,eqsP,and_true,zL] at e31 e34 e35 e37 e65 e66 e67 e70 e231 e233 e234 e236 e237 e239 e240 e243 e246 e251 e254
  cases h35:(B T 35) with
  |true=>clear hpt hsc hsn hz k224;grind
  |false=>
   have h33:(I T 33)=0:=by clear hpt hsc hsn hz k224;grind
   cases h65:(B T 65) with
   |true=>
    have h67:(B T 67)=true:=hz (by clear hpt hsc hsn hz k224;grind)
    clear hpt hsc hsn hz k224
    grind
   |false=>
    have h64:(I T 64)=0:=by clear hpt hsc hsn hz k224;grind
    obtain⟨x1,x2,x3⟩:=hsc h33
    obtain⟨y1,y2,y3⟩:=hsn h64
    have k224:=k224 h33 h64
    obtain⟨m0,m1,m2,m3,m4,m5,m6,m7⟩:=hpt h64
    rw[hg] at m0 m1 m2 m3 m4
    simp only at m0 m1 m2 m3 m4
    have s1:(I T 225)≤I T 228:=by rw[x1,y1,m0];exact score_le m1.1 m3.1
    have s2:(I T 226)≤I T 229:=by rw[x2,y2,m0];exact score_le m2.1 m4.1
    clear hpt hsc hsn hz hhw hflt x1 x2 y1 y2 hg m0 m1 m2 m3 m4 m5 m6 m7
    grind
 ·obtain⟨-,-,-,-,-,-,-,-,-,-,e72,e73,e74,e75,e76,-⟩:=F2
  simp only[fact,bR_e,zR,op2P,zL] at e72 e73 e74 e75 e76
  clear hpt hsc hsn hz hflt hhw hg
  grind
theorem args_lPoints:argsAC Try.prog 9 Try.f5.params.toList 0=some (as_lPoints,k_lPoints):=by kernel_rfl
theorem ctx_lPoints:∀p∈([(12,t_gPlay),(14,t_rcheck),(16,t_gscore),(11,t_fine)]:List (FuncId × Tmpl)),TmplOK Try.prog p.1 p.2:=by simp only[List.forall_mem_cons];exact⟨ok_gPlay,ok_rcheck,ok_gscore,ok_fine,fun _ h=>absurd h (by simp)⟩
theorem ok_lPoints:∀T:Tab,Strong T (envOf 0 k_lPoints)→Bnd T 0 k_lPoints→BndL 1048576 T 0 k_lPoints→AllB T ((a_lPoints_0).map En.be)→AllG T q_lPoints∧B T 254=true:=by
 intro T hS hBd hBl hE
 obtain⟨⟨lo0,hi0⟩,⟨lo1,hi1⟩,⟨lo2,hi2⟩,⟨lo3,hi3⟩,⟨lo4,hi4⟩,⟨lo5,hi5⟩,⟨lo6,hi6⟩,⟨lo7,hi7⟩,⟨lo8,hi8⟩,⟨lo17,hi17⟩,⟨lo18,hi18⟩,⟨lo22,hi22⟩,⟨lo23,hi23⟩,⟨lo24,hi24⟩,⟨lo25,hi25⟩,⟨lo26,hi26⟩,⟨lo27,hi27⟩,⟨hl29,he29⟩,-⟩:=hBd
 clear lo0 hi0
 clear lo1 hi1
 clear lo2 hi2
 clear lo3 hi3
 clear lo4 hi4
 clear lo5 hi5
 clear lo6 hi6
 clear lo7 hi7
 clear lo8 hi8
 clear lo17 hi17
 clear lo18 hi18
 clear lo22 hi22
 clear lo23 hi23
 clear lo24 hi24
 clear lo25 hi25
 clear lo26 hi26
 clear lo27 hi27
 replace hl29:(L T 29).length≤140737488355328:=hl29
 obtain⟨g,hg⟩:∃g:Gm,g=Gm.mk (I T 0) (I T 1) (I T 2) (I T 3) (I T 4) (I T 5) (I T 6) (I T 7) (I T 8) (B T 9) (B T 10) (B T 11) (B T 12) (B T 13) (B T 14) (B T 15) (B T 16) (I T 17) (I T 18) (B T 19) (B T 20) (B T 21) (I T 22) (I T 23) (I T 24) (I T 25):=⟨_,rfl⟩
 obtain⟨hb29,-⟩:=hBl
 replace hb29:(L T 29).length≤1048576:=hb29
 skip
 obtain⟨A0,hO⟩:=chkO_ok (tys:=[.b]) (rs:=r_lPoints) hS (by kernel_rfl) hE
 obtain⟨g1,z1⟩:∃g:Gm,g=Gm.mk (I T 0) (I T 1) (I T 2) (I T 3) (I T 4) (I T 5) (I T 6) (I T 7) (I T 8) (B T 9) (B T 10) (B T 11) (B T 12) (B T 13) (B T 14) (B T 15) (B T 16) (I T 17) (I T 18) (B T 19) (B T 20) (B T 21) (I T 22) (I T 23) (I T 24) (I T 25):=⟨_,rfl⟩
 obtain⟨g2,z2⟩:∃g:Gm,g=Gm.mk (I T 0) (I T 1) (I T 2) (I T 3) (I T 4) (I T 5) (I T 6) (I T 7) (I T 8) (B T 9) (B T 10) (B T 11) (B T 12) (B T 13) (B T 14) (B T 15) (B T 16) (I T 17) (I T 18) (B T 19) (B T 20) (B T 21) (I T 22) (I T 23) (I T 24) (I T 25):=⟨_,rfl⟩
 obtain⟨g3,z3⟩:∃g:Gm,g=Gm.mk (I T 38) (I T 39) (I T 40) (I T 41) (I T 42) (I T 43) (I T 44) (I T 45) (I T 46) (B T 47) (B T 48) (B T 49) (B T 50) (B T 51) (B T 52) (B T 53) (B T 54) (I T 55) (I T 56) (B T 57) (B T 58) (B T 59) (I T 60) (I T 61) (I T 62) (I T 63):=⟨_,rfl⟩
 obtain⟨q0,r0⟩:=m_lPoints hl29 g hg hb29 g1 z1 g2 z2 g3 z3 A0
 exact⟨⟨r0,trivial⟩,q0⟩
end Go.Eng
end
