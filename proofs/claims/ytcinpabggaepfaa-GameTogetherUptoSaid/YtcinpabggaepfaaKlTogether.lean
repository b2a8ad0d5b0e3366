/-
  A part of the proof: K_lTogetherd K_lTogether.
-/
import Derived.Test.YtcinpabggaepfaaE3
import Derived.Test.YtcinpabggaepfaaE4
import Derived.Test.YtcinpabggaepfaaKlong
import Derived.Test.YtcinpabggaepfaaKgAll
import Derived.Test.YtcinpabggaepfaaKgcheck
import Derived.Test.YtcinpabggaepfaaKgPlay
import Derived.Test.YtcinpabggaepfaaKfine
set_option linter.unusedVariables false
set_option linter.unusedSimpArgs false
noncomputable section
open Go Go.Eng Go.Proofs
set_option maxHeartbeats 4000000
set_option maxRecDepth 100000
namespace Go.Eng
def lr:List Kd:=[k64,k64,k64,k64,k64,k64,k64,k64,k64,.bool,.bool,.bool,.bool,.bool,.bool,.bool,.bool,k64,k64,.bool,.bool,.bool,k64,k64,k64,k64,.list [k64,k64,.bool,.list [k64,k64]]]
def l7:List AC:=((JQ Try.prog 9 Try.f9.params.toList 0).map (·.1)).getD []
def lg:List Rf:=[.e 0,.e 1,.e 2,.e 3,.e 4,.e 5,.e 6,.e 7,.e 8,.e 9,.e 10,.e 11,.e 12,.e 13,.e 14,.e 15,.e 16,.e 17,.e 18,.e 19,.e 20,.e 21,.e 22,.e 23,.e 24,.e 25,.e 26]
def l5:List Rf:=[.e 0,.e 1,.e 2,.e 3,.e 4,.e 5,.e 6,.e 7,.e 8,.e 9,.e 10,.e 11,.e 12,.e 13,.e 14,.e 15,.e 16,.e 17,.e 18,.e 19,.e 20,.e 21,.e 22,.e 23,.e 24,.e 25]
def lh:List Rf:=[.e 77,.e 78,.e 79,.e 80,.e 81,.e 82,.e 83,.e 84,.e 85,.e 86,.e 87,.e 88,.e 89,.e 90,.e 91,.e 92,.e 93,.e 94,.e 95,.e 96,.e 97,.e 98,.e 99,.e 100,.e 101,.e 102,.e 107,.e 108,.e 109,.e 110]
def mC:List En:=[⟨27,.outB "long.0" LZ,[.e 26]⟩,
 ⟨28,.not,[.e 27]⟩,
 ⟨29,.len,[.e 26]⟩,
 ⟨30,.lt,[.c (.int 100),.e 29]⟩,
 ⟨31,.or,[.e 27,.e 30]⟩,
 ⟨32,.outB "fine.0" KH,[]⟩,
 ⟨33,.not,[.e 31]⟩,
 ⟨34,.outI "gAll.0" WX,lg⟩,
 ⟨35,.outI "gAll.1" Yw,lg⟩,
 ⟨36,.outI "gAll.2" Y1,lg⟩,
 ⟨37,.outI "gAll.3" YN,lg⟩,
 ⟨38,.outI "gAll.4" Xn,lg⟩,
 ⟨39,.outI "gAll.5" X4,lg⟩,
 ⟨40,.outI "gAll.6" Xq,lg⟩,
 ⟨41,.outI "gAll.7" W8,lg⟩,
 ⟨42,.outI "gAll.8" Xk,lg⟩]
def mA:List En:=[⟨43,.outB "gAll.9" W2,lg⟩,
 ⟨44,.outB "gAll.10" TC,lg⟩,
 ⟨45,.outB "gAll.11" UE,lg⟩,
 ⟨46,.outB "gAll.12" Uv,lg⟩,
 ⟨47,.outB "gAll.13" Uk,lg⟩,
 ⟨48,.outB "gAll.14" Un,lg⟩,
 ⟨49,.outB "gAll.15" Ug,lg⟩,
 ⟨50,.outB "gAll.16" Tq,lg⟩,
 ⟨51,.outI "gAll.17" TA,lg⟩,
 ⟨52,.outI "gAll.18" Ua,lg⟩,
 ⟨53,.outB "gAll.19" TP,lg⟩,
 ⟨54,.outB "gAll.20" Ul,lg⟩,
 ⟨55,.outB "gAll.21" TD,lg⟩,
 ⟨56,.outI "gAll.22" UX,lg⟩,
 ⟨57,.outI "gAll.23" TW,lg⟩,
 ⟨58,.outI "gAll.24" UQ,lg⟩]
def mG:List En:=[⟨59,.outI "gAll.25" UL,lg⟩,
 ⟨60,.outI "gAll.26" KO,lg⟩,
 ⟨61,.outI "gAll.27" Kg,lg⟩,
 ⟨62,.outI "gcheck.0" ly,l5⟩,
 ⟨63,.ne,[.e 62,.c (.int 0)]⟩,
 ⟨64,.and,[.e 33,.e 63]⟩,
 ⟨65,.eq,[.e 61,.c (.int 2)]⟩,
 ⟨66,.and,[.e 64,.e 65]⟩,
 ⟨67,.eq,[.e 60,.c (.int 0)]⟩,
 ⟨68,.and,[.e 65,.e 67]⟩,
 ⟨69,.and,[.e 64,.e 68]⟩,
 ⟨70,.eqs [.i,.i,.i,.i,.i,.i,.i,.i,.i,.b,.b,.b,.b,.b,.b,.b,.b,.i,.i,.b,.b,.b,.i,.i,.i,.i],[.e 34,.c (.int 0),.e 35,.c (.int 0),.e 36,.c (.int 0),.e 37,.c (.int 0),.e 38,.c (.int 0),.e 39,.c (.int 0),.e 40,.c (.int 0),.e 41,.c (.int 0),.e 42,.c (.int 0),.e 43,.c (.bool false),.e 44,.c (.bool false),.e 45,.c (.bool false),.e 46,.c (.bool false),.e 47,.c (.bool false),.e 48,.c (.bool false),.e 49,.c (.bool false),.e 50,.c (.bool false),.e 51,.c (.int 0),.e 52,.c (.int 0),.e 53,.c (.bool false),.e 54,.c (.bool false),.e 55,.c (.bool false),.e 56,.c (.int 0),.e 57,.c (.int 0),.e 58,.c (.int 0),.e 59,.c (.int 0)]⟩,
 ⟨71,.and,[.e 68,.e 70]⟩,
 ⟨72,.and,[.e 64,.e 71]⟩,
 ⟨73,.outB "fine.0" KH,[]⟩,
 ⟨74,.and,[.e 71,.e 73]⟩]
def mE:List En:=[⟨75,.and,[.e 33,.n 63]⟩]
def l9:List En:=[⟨103,.len,[.e 26]⟩,
 ⟨104,.lt,[.e 76,.e 103]⟩,
 ⟨105,.and,[.e 75,.e 104]⟩,
 ⟨106,.and,[.e 75,.n 104]⟩,
 ⟨107,.get .i 0,[.e 26,.e 76]⟩,
 ⟨108,.get .i 1,[.e 26,.e 76]⟩,
 ⟨109,.get .b 2,[.e 26,.e 76]⟩,
 ⟨110,.get .l 3,[.e 26,.e 76]⟩,
 ⟨111,.outI "gPlay.0" NX,lh⟩,
 ⟨112,.outI "gPlay.1" OB,lh⟩,
 ⟨113,.outI "gPlay.2" OS,lh⟩,
 ⟨114,.outI "gPlay.3" Nu,lh⟩,
 ⟨115,.outI "gPlay.4" NJ,lh⟩,
 ⟨116,.outI "gPlay.5" Oe,lh⟩,
 ⟨117,.outI "gPlay.6" N7,lh⟩,
 ⟨118,.outI "gPlay.7" NO,lh⟩]
def mB:List En:=[⟨119,.outI "gPlay.8" OX,lh⟩,
 ⟨120,.outB "gPlay.9" Nm,lh⟩,
 ⟨121,.outB "gPlay.10" MI,lh⟩,
 ⟨122,.outB "gPlay.11" MQ,lh⟩,
 ⟨123,.outB "gPlay.12" Md,lh⟩,
 ⟨124,.outB "gPlay.13" MF,lh⟩,
 ⟨125,.outB "gPlay.14" MM,lh⟩,
 ⟨126,.outB "gPlay.15" L0,lh⟩,
 ⟨127,.outB "gPlay.16" Lh,lh⟩,
 ⟨128,.outI "gPlay.17" MX,lh⟩,
 ⟨129,.outI "gPlay.18" L2,lh⟩,
 ⟨130,.outB "gPlay.19" Mh,lh⟩,
 ⟨131,.outB "gPlay.20" Lt,lh⟩,
 ⟨132,.outB "gPlay.21" Lo,lh⟩,
 ⟨133,.outI "gPlay.22" L8,lh⟩,
 ⟨134,.outI "gPlay.23" MA,lh⟩]
def mH:List En:=[⟨135,.outI "gPlay.24" Mb,lh⟩,
 ⟨136,.outI "gPlay.25" ML,lh⟩,
 ⟨137,.outI "gPlay.26" Ih,lh⟩,
 ⟨138,.ne,[.e 137,.c (.int 0)]⟩,
 ⟨139,.and,[.e 105,.e 138]⟩,
 ⟨140,.eq,[.e 61,.e 137]⟩,
 ⟨141,.and,[.e 139,.e 140]⟩,
 ⟨142,.eq,[.e 60,.e 76]⟩,
 ⟨143,.and,[.e 140,.e 142]⟩,
 ⟨144,.and,[.e 139,.e 143]⟩,
 ⟨145,.eqs [.i,.i,.i,.i,.i,.i,.i,.i,.i,.b,.b,.b,.b,.b,.b,.b,.b,.i,.i,.b,.b,.b,.i,.i,.i,.i],[.e 34,.e 77,.e 35,.e 78,.e 36,.e 79,.e 37,.e 80,.e 38,.e 81,.e 39,.e 82,.e 40,.e 83,.e 41,.e 84,.e 42,.e 85,.e 43,.e 86,.e 44,.e 87,.e 45,.e 88,.e 46,.e 89,.e 47,.e 90,.e 48,.e 91,.e 49,.e 92,.e 50,.e 93,.e 51,.e 94,.e 52,.e 95,.e 53,.e 96,.e 54,.e 97,.e 55,.e 98,.e 56,.e 99,.e 57,.e 100,.e 58,.e 101,.e 59,.e 102]⟩,
 ⟨146,.and,[.e 143,.e 145]⟩,
 ⟨147,.and,[.e 139,.e 146]⟩,
 ⟨148,.outB "fine.0" KH,[]⟩,
 ⟨149,.and,[.e 146,.e 148]⟩,
 ⟨150,.and,[.e 105,.n 138]⟩]
def mM:List En:=[⟨151,.w2 .i64 .add,[.e 76,.c (.int 1)]⟩]
def lv:List En:=mC++(mA++(mG++(mE)))
def li:List En:=l9++(mB++(mH++(mM)))
def l6:List ObE:=[⟨some 105,.inl,[.e 76,.e 26]⟩]
def ln:BW:=mkD 76 27 li 150 [.e 151,.e 111,.e 112,.e 113,.e 114,.e 115,.e 116,.e 117,.e 118,.e 119,.e 120,.e 121,.e 122,.e 123,.e 124,.e 125,.e 126,.e 127,.e 128,.e 129,.e 130,.e 131,.e 132,.e 133,.e 134,.e 135,.e 136] l6 [34,35,36,37,38,39,40,41,42,43,44,45,46,47,48,49,50,51,52,53,54,55,56,57,58,59,60,61,26,75]
def lu:List Rf:=[.e 34,.e 35,.e 36,.e 37,.e 38,.e 39,.e 40,.e 41,.e 42,.e 43,.e 44,.e 45,.e 46,.e 47,.e 48,.e 49,.e 50,.e 51,.e 52,.e 53,.e 54,.e 55,.e 56,.e 57,.e 58,.e 59,.e 60,.e 61,.e 26,.e 75,.c (.int 0),.e 0,.e 1,.e 2,.e 3,.e 4,.e 5,.e 6,.e 7,.e 8,.e 9,.e 10,.e 11,.e 12,.e 13,.e 14,.e 15,.e 16,.e 17,.e 18,.e 19,.e 20,.e 21,.e 22,.e 23,.e 24,.e 25]
def mK:List En:=[⟨152,.eq,[.e 61,.c (.int 0)]⟩,
 ⟨153,.and,[.e 106,.e 152]⟩,
 ⟨154,.len,[.e 26]⟩,
 ⟨155,.eq,[.e 60,.e 154]⟩,
 ⟨156,.and,[.e 152,.e 155]⟩,
 ⟨157,.and,[.e 106,.e 156]⟩,
 ⟨158,.eqs [.i,.i,.i,.i,.i,.i,.i,.i,.i,.b,.b,.b,.b,.b,.b,.b,.b,.i,.i,.b,.b,.b,.i,.i,.i,.i],[.e 34,.e 77,.e 35,.e 78,.e 36,.e 79,.e 37,.e 80,.e 38,.e 81,.e 39,.e 82,.e 40,.e 83,.e 41,.e 84,.e 42,.e 85,.e 43,.e 86,.e 44,.e 87,.e 45,.e 88,.e 46,.e 89,.e 47,.e 90,.e 48,.e 91,.e 49,.e 92,.e 50,.e 93,.e 51,.e 94,.e 52,.e 95,.e 53,.e 96,.e 54,.e 97,.e 55,.e 98,.e 56,.e 99,.e 57,.e 100,.e 58,.e 101,.e 59,.e 102]⟩,
 ⟨159,.and,[.e 156,.e 158]⟩,
 ⟨160,.and,[.e 106,.e 159]⟩,
 ⟨161,.outB "fine.0" KH,[]⟩,
 ⟨162,.and,[.e 159,.e 161]⟩,
 ⟨163,.ite .b,[.e 139,.e 149,.e 162]⟩,
 ⟨164,.or,[.e 139,.e 106]⟩,
 ⟨165,.ite .i,[.e 64,.e 0,.e 77]⟩,
 ⟨166,.ite .i,[.e 64,.e 1,.e 78]⟩,
 ⟨167,.ite .i,[.e 64,.e 2,.e 79]⟩]
def mL:List En:=[⟨168,.ite .i,[.e 64,.e 3,.e 80]⟩,
 ⟨169,.ite .i,[.e 64,.e 4,.e 81]⟩,
 ⟨170,.ite .i,[.e 64,.e 5,.e 82]⟩,
 ⟨171,.ite .i,[.e 64,.e 6,.e 83]⟩,
 ⟨172,.ite .i,[.e 64,.e 7,.e 84]⟩,
 ⟨173,.ite .i,[.e 64,.e 8,.e 85]⟩,
 ⟨174,.ite .b,[.e 64,.e 9,.e 86]⟩,
 ⟨175,.ite .b,[.e 64,.e 10,.e 87]⟩,
 ⟨176,.ite .b,[.e 64,.e 11,.e 88]⟩,
 ⟨177,.ite .b,[.e 64,.e 12,.e 89]⟩,
 ⟨178,.ite .b,[.e 64,.e 13,.e 90]⟩,
 ⟨179,.ite .b,[.e 64,.e 14,.e 91]⟩,
 ⟨180,.ite .b,[.e 64,.e 15,.e 92]⟩,
 ⟨181,.ite .b,[.e 64,.e 16,.e 93]⟩,
 ⟨182,.ite .i,[.e 64,.e 17,.e 94]⟩,
 ⟨183,.ite .i,[.e 64,.e 18,.e 95]⟩]
def mJ:List En:=[⟨184,.ite .b,[.e 64,.e 19,.e 96]⟩,
 ⟨185,.ite .b,[.e 64,.e 20,.e 97]⟩,
 ⟨186,.ite .b,[.e 64,.e 21,.e 98]⟩,
 ⟨187,.ite .i,[.e 64,.e 22,.e 99]⟩,
 ⟨188,.ite .i,[.e 64,.e 23,.e 100]⟩,
 ⟨189,.ite .i,[.e 64,.e 24,.e 101]⟩,
 ⟨190,.ite .i,[.e 64,.e 25,.e 102]⟩,
 ⟨191,.ite .b,[.e 64,.e 74,.e 163]⟩,
 ⟨192,.or,[.e 64,.e 164]⟩,
 ⟨193,.ite .i,[.e 31,.e 0,.e 165]⟩,
 ⟨194,.ite .i,[.e 31,.e 1,.e 166]⟩,
 ⟨195,.ite .i,[.e 31,.e 2,.e 167]⟩,
 ⟨196,.ite .i,[.e 31,.e 3,.e 168]⟩,
 ⟨197,.ite .i,[.e 31,.e 4,.e 169]⟩,
 ⟨198,.ite .i,[.e 31,.e 5,.e 170]⟩,
 ⟨199,.ite .i,[.e 31,.e 6,.e 171]⟩]
def mF:List En:=[⟨200,.ite .i,[.e 31,.e 7,.e 172]⟩,
 ⟨201,.ite .i,[.e 31,.e 8,.e 173]⟩,
 ⟨202,.ite .b,[.e 31,.e 9,.e 174]⟩,
 ⟨203,.ite .b,[.e 31,.e 10,.e 175]⟩,
 ⟨204,.ite .b,[.e 31,.e 11,.e 176]⟩,
 ⟨205,.ite .b,[.e 31,.e 12,.e 177]⟩,
 ⟨206,.ite .b,[.e 31,.e 13,.e 178]⟩,
 ⟨207,.ite .b,[.e 31,.e 14,.e 179]⟩,
 ⟨208,.ite .b,[.e 31,.e 15,.e 180]⟩,
 ⟨209,.ite .b,[.e 31,.e 16,.e 181]⟩,
 ⟨210,.ite .i,[.e 31,.e 17,.e 182]⟩,
 ⟨211,.ite .i,[.e 31,.e 18,.e 183]⟩,
 ⟨212,.ite .b,[.e 31,.e 19,.e 184]⟩,
 ⟨213,.ite .b,[.e 31,.e 20,.e 185]⟩,
 ⟨214,.ite .b,[.e 31,.e 21,.e 186]⟩,
 ⟨215,.ite .i,[.e 31,.e 22,.e 187]⟩]
def mI:List En:=[⟨216,.ite .i,[.e 31,.e 23,.e 188]⟩,
 ⟨217,.ite .i,[.e 31,.e 24,.e 189]⟩,
 ⟨218,.ite .i,[.e 31,.e 25,.e 190]⟩,
 ⟨219,.ite .b,[.e 31,.e 32,.e 191]⟩,
 ⟨220,.or,[.e 31,.e 192]⟩]
def lw:List En:=mK++(mL++(mJ++(mF++(mI))))
def l8:List ObE:=[⟨some 75,.owes ln,[.e 34,.e 35,.e 36,.e 37,.e 38,.e 39,.e 40,.e 41,.e 42,.e 43,.e 44,.e 45,.e 46,.e 47,.e 48,.e 49,.e 50,.e 51,.e 52,.e 53,.e 54,.e 55,.e 56,.e 57,.e 58,.e 59,.e 60,.e 61,.e 26,.e 75,.c (.int 0),.e 0,.e 1,.e 2,.e 3,.e 4,.e 5,.e 6,.e 7,.e 8,.e 9,.e 10,.e 11,.e 12,.e 13,.e 14,.e 15,.e 16,.e 17,.e 18,.e 19,.e 20,.e 21,.e 22,.e 23,.e 24,.e 25]⟩]
def mW:List Rf:=[.e 219]
theorem mU:d8 27 (ed Try.prog [(20,LQ),(21,LD),(23,lz),(12,LU),(11,M8)] RN 3000 20 9 l7 27)=some (219,(lv++((Ek ln [.i,.i,.i,.i,.i,.i,.i,.i,.i,.i,.b,.b,.b,.b,.b,.b,.b,.b,.i,.i,.b,.b,.b,.i,.i,.i,.i] lu)++(li++(lw)))).map En.be,l8.map ObE.be):=by kernel_rfl
theorem mP {T:Tab}(hl26:(L T 26).length≤140737488355328)(g:Gm)(hg:g=gT T 0)(hS:Ay T (J7 (EE 0 lr) lv))(hB:CJ T (li.map En.be))(hH:CJ T ((Ek ln [.i,.i,.i,.i,.i,.i,.i,.i,.i,.i,.b,.b,.b,.b,.b,.b,.b,.b,.i,.i,.b,.b,.b,.i,.i,.i,.i] lu).map En.be)):
  (ln).owes (lu.map (Rf.eval T))∧Ay T (hds 76 [.i,.i,.i,.i,.i,.i,.i,.i,.i,.i,.b,.b,.b,.b,.b,.b,.b,.b,.i,.i,.b,.b,.b,.i,.i,.i,.i])∧(0≤I T 76∧I T 76≤((L T 26)).length∧((B T 75)=true→CB g 0 (L T 26)=CB (gT T 77) (I T 76) ((L T 26).drop (I T 76).toNat)))∧¬B T 150=true:=by
 refine Gx (nh:=76) (k:=27) (pcn:=150) (top:=152) (bes:=li) (bos:=l6) (nxt:=[.e 151,.e 111,.e 112,.e 113,.e 114,.e 115,.e 116,.e 117,.e 118,.e 119,.e 120,.e 121,.e 122,.e 123,.e 124,.e 125,.e 126,.e 127,.e 128,.e 129,.e 130,.e 131,.e 132,.e 133,.e 134,.e 135,.e 136]) (inits:=[.c (.int 0),.e 0,.e 1,.e 2,.e 3,.e 4,.e 5,.e 6,.e 7,.e 8,.e 9,.e 10,.e 11,.e 12,.e 13,.e 14,.e 15,.e 16,.e 17,.e 18,.e 19,.e 20,.e 21,.e 22,.e 23,.e 24,.e 25]) (fv:=[34,35,36,37,38,39,40,41,42,43,44,45,46,47,48,49,50,51,52,53,54,55,56,57,58,59,60,61,26,75]) (tys:=[.i,.i,.i,.i,.i,.i,.i,.i,.i,.i,.b,.b,.b,.b,.b,.b,.b,.b,.i,.i,.b,.b,.b,.i,.i,.i,.i]) (by kernel_rfl) rfl rfl rfl rfl hS (by kernel_rfl) (by kernel_rfl) hB (Ec hH) (fun s=>0≤(aI s 0)∧(aI s 0)≤((L T 26)).length∧((B T 75)=true→CB g 0 (L T 26)=CB (Gm.mk (aI s 1) (aI s 2) (aI s 3) (aI s 4) (aI s 5) (aI s 6) (aI s 7) (aI s 8) (aI s 9) (aB s 10) (aB s 11) (aB s 12) (aB s 13) (aB s 14) (aB s 15) (aB s 16) (aB s 17) (aI s 18) (aI s 19) (aB s 20) (aB s 21) (aB s 22) (aI s 23) (aI s 24) (aI s 25) (aI s 26)) (aI s 0) ((L T 26).drop (aI s 0).toNat))) (fun s=>(((L T 26)).length - (aI s 0)).toNat) ?_ ?_
 ·show 0≤(0:Int)∧(0:Int)≤((L T 26)).length∧((B T 75)=true→CB g 0 (L T 26)=CB (gT T 0) (0:Int) ((L T 26).drop (0:Int).toNat))
  clear hS hB hH
  refine⟨by omega,by omega,fun h=>?_⟩
  rw[←hg];rfl
 ·intro T2 hfv hF inv
  replace inv:0≤I T2 76∧I T2 76≤((L T 26)).length∧((B T 75)=true→CB g 0 (L T 26)=CB (gT T2 77) (I T2 76) ((L T 26).drop (I T2 76).toNat)):=inv
  clear hS hB hH
  replace hF:AK T2 li:=hF
  obtain⟨F0,hF⟩:=hF.cut
  obtain⟨F1,hF⟩:=hF.cut
  obtain⟨F2,hF⟩:=hF.cut
  have F3:=hF;clear hF
  have fv34:I T2 34=I T 34:=fvI (hfv 34 (by decide))
  have fv35:I T2 35=I T 35:=fvI (hfv 35 (by decide))
  have fv36:I T2 36=I T 36:=fvI (hfv 36 (by decide))
  have fv37:I T2 37=I T 37:=fvI (hfv 37 (by decide))
  have fv38:I T2 38=I T 38:=fvI (hfv 38 (by decide))
  have fv39:I T2 39=I T 39:=fvI (hfv 39 (by decide))
  have fv40:I T2 40=I T 40:=fvI (hfv 40 (by decide))
  have fv41:I T2 41=I T 41:=fvI (hfv 41 (by decide))
  have fv42:I T2 42=I T 42:=fvI (hfv 42 (by decide))
  have fv43:B T2 43=B T 43:=fvB (hfv 43 (by decide))
  have fv44:B T2 44=B T 44:=fvB (hfv 44 (by decide))
  have fv45:B T2 45=B T 45:=fvB (hfv 45 (by decide))
  have fv46:B T2 46=B T 46:=fvB (hfv 46 (by decide))
  have fv47:B T2 47=B T 47:=fvB (hfv 47 (by decide))
  have fv48:B T2 48=B T 48:=fvB (hfv 48 (by decide))
  have fv49:B T2 49=B T 49:=fvB (hfv 49 (by decide))
  have fv50:B T2 50=B T 50:=fvB (hfv 50 (by decide))
  have fv51:I T2 51=I T 51:=fvI (hfv 51 (by decide))
  have fv52:I T2 52=I T 52:=fvI (hfv 52 (by decide))
  have fv53:B T2 53=B T 53:=fvB (hfv 53 (by decide))
  have fv54:B T2 54=B T 54:=fvB (hfv 54 (by decide))
  have fv55:B T2 55=B T 55:=fvB (hfv 55 (by decide))
  have fv56:I T2 56=I T 56:=fvI (hfv 56 (by decide))
  have fv57:I T2 57=I T 57:=fvI (hfv 57 (by decide))
  have fv58:I T2 58=I T 58:=fvI (hfv 58 (by decide))
  have fv59:I T2 59=I T 59:=fvI (hfv 59 (by decide))
  have fv60:I T2 60=I T 60:=fvI (hfv 60 (by decide))
  have fv61:I T2 61=I T 61:=fvI (hfv 61 (by decide))
  have fv26:L T2 26=L T 26:=fvL (hfv 26 (by decide))
  have fv75:B T2 75=B T 75:=fvB (hfv 75 (by decide))
  clear hfv
  obtain⟨g3,z3⟩:∃g:Gm,g=gT T2 77:=⟨_,rfl⟩
  have cr3_0:gT T2 111=D2 g3 (I T2 107) (I T2 108) (B T2 109) (L T2 110):=by
   obtain⟨-,-,-,-,-,-,-,-,e111,e112,e113,e114,e115,e116,e117,e118,-⟩:=F0
   obtain⟨e119,e120,e121,e122,e123,e124,e125,e126,e127,e128,e129,e130,e131,e132,e133,e134,-⟩:=F1
   obtain⟨e135,e136,-⟩:=F2
   rw[←show gAt 0 (lh.map (Rf.eval T2))=g3 from z3.symm]
   exact Bk e111 e112 e113 e114 e115 e116 e117 e118 e119 e120 e121 e122 e123 e124 e125 e126 e127 e128 e129 e130 e131 e132 e133 e134 e135 e136
  suffices hz:(B T2 105=true→0≤I T2 76∧I T2 76 < ((L T2 26)).length)∧(B T2 150=true→(0≤I T2 151∧I T2 151≤((L T 26)).length∧((B T 75)=true→CB g 0 (L T 26)=CB (gT T2 111) (I T2 151) ((L T 26).drop (I T2 151).toNat))))∧(B T2 150=true→(((L T 26)).length - (I T2 151)).toNat < (((L T 26)).length - (I T2 76)).toNat) from
   let⟨r0,nx,mz⟩:=hz;⟨⟨r0,trivial⟩,fun hp=>⟨nx hp,mz hp⟩⟩
  refine⟨?_,?_,?_⟩
  ·obtain⟨e103,e104,e105,-⟩:=F0
   simp only[AA,AD,zR,zL] at e103 e104 e105
   obtain⟨v1,v2,v4⟩:=inv
   clear v4 hg z3 cr3_0
   grind
  ·obtain⟨e103,e104,e105,-,e107,e108,e109,e110,-⟩:=F0
   obtain⟨-,-,e137,e138,-,-,-,-,-,-,-,-,-,-,-,e150,-⟩:=F2
   obtain⟨e151,-⟩:=F3
   replace e137:I T2 137=(B9 g3 (I T2 107) (I T2 108) (B T2 109) (L T2 110)):=by rw[←show gAt 0 (lh.map (Rf.eval T2))=g3 from z3.symm];exact e137
   simp only[AA,AD,zN,zR,w2P,zL] at*
   intro hp
   obtain⟨v1,v2,v4⟩:=inv
   have h92:(B T2 105)=true:=by clear v4 hg z3 cr3_0;grind
   have h62b:(B T 75)=true:=by rw[←fv75];clear v4 hg z3 cr3_0;grind
   have v6:=v4 h62b
   have hlt:(I T2 76) < ((L T 26)).length:=by clear v4 hg z3 cr3_0 v6;grind
   have e:(I T2 151)=I T2 76+1:=e151 (by omega) (by omega)
   have he:B9 g3 (I T2 107) (I T2 108) (B T2 109) (L T2 110)=0:=by rw[←e137];clear v4 hg z3 cr3_0 v6;grind
   rw[j8 he] at cr3_0
   rw[←z3] at v6
   have a1:(I T2 107)=At (L T 26) (I T2 76).toNat 0:=by rw[e107,fv26]
   have a2:(I T2 108)=At (L T 26) (I T2 76).toNat 1:=by rw[e108,fv26]
   have a3:(B T2 109)=C8 (L T 26) (I T2 76).toNat 2:=by rw[e109,fv26]
   have a4:(L T2 110)=EF (L T 26) (I T2 76).toNat 3:=by rw[e110,fv26]
   refine⟨by omega,by rw[e];omega,fun _=>?_⟩
   rw[v6,cr3_0,e,show ((I T2 76)+1).toNat=(I T2 76).toNat+1 by omega,a1,a2,a4]
   rw[a1,a2,a3,a4] at he
   exact Ww (by omega) he
  ·obtain⟨e103,e104,e105,-⟩:=F0
   obtain⟨-,-,-,-,-,-,-,-,-,-,-,-,-,-,-,e150,-⟩:=F2
   obtain⟨e151,-⟩:=F3
   simp only[AA,AD,zN,zR,w2P,zL] at*
   intro hp
   obtain⟨v1,v2,v4⟩:=inv
   have hlt:(I T2 76) < ((L T 26)).length:=by clear v4 hg z3 cr3_0;grind
   have e:(I T2 151)=I T2 76+1:=e151 (by omega) (by omega)
   omega
theorem mV {T:Tab}(hl26:(L T 26).length≤140737488355328)(g:Gm)(hg:g=gT T 0)(hb26:(L T 26).length≤1048576)(g1:Gm)(z1:g1=gT T 0)(g2:Gm)(z2:g2=gT T 0)(inv0:0≤I T 76∧I T 76≤((L T 26)).length∧((B T 75)=true→CB g 0 (L T 26)=CB (gT T 77) (I T 76) ((L T 26).drop (I T 76).toNat)))(np0:¬B T 150=true)(g4:Gm)(z4:g4=gT T 77)(A0:AK T lv)(B0:AK T li)(A1:AK T lw):
  ((B T 219)=(true)):=by
 obtain⟨F0,A0⟩:=A0.cut
 obtain⟨F1,A0⟩:=A0.cut
 obtain⟨F2,A0⟩:=A0.cut
 have F3:=A0;clear A0
 obtain⟨F4,B0⟩:=B0.cut
 obtain⟨F5,B0⟩:=B0.cut
 obtain⟨F6,B0⟩:=B0.cut
 have F7:=B0;clear B0
 obtain⟨F8,A1⟩:=A1.cut
 obtain⟨F9,A1⟩:=A1.cut
 obtain⟨F10,A1⟩:=A1.cut
 obtain⟨F11,A1⟩:=A1.cut
 have F12:=A1;clear A1
 obtain⟨w1,w2,w4⟩:=inv0
 have hgA:g1=g:=by rw[z1,hg]
 have hgB:g2=g:=by rw[z2,hg]
 have h62:(I T 62)=if AR g=true then 0 else 2:=by
  obtain⟨-,-,-,e62,-⟩:=F2
  replace e62:I T 62=((if AR g2=true then 0 else 2)):=by rw[←show gAt 0 (l5.map (Rf.eval T))=g2 from z2.symm];exact e62
  rw[e62,hgB]
 have cr1_0:gT T 34=(Cu g1 (L T 26)).1:=by
  obtain⟨-,-,-,-,-,-,-,e34,e35,e36,e37,e38,e39,e40,e41,e42,-⟩:=F0
  obtain⟨e43,e44,e45,e46,e47,e48,e49,e50,e51,e52,e53,e54,e55,e56,e57,e58,-⟩:=F1
  obtain⟨e59,-⟩:=F2
  rw[←show gAt 0 (lg.map (Rf.eval T))=g1 from z1.symm]
  exact Bk e34 e35 e36 e37 e38 e39 e40 e41 e42 e43 e44 e45 e46 e47 e48 e49 e50 e51 e52 e53 e54 e55 e56 e57 e58 e59
 have cr4_0:gT T 111=D2 g4 (I T 107) (I T 108) (B T 109) (L T 110):=by
  obtain⟨-,-,-,-,-,-,-,-,e111,e112,e113,e114,e115,e116,e117,e118,-⟩:=F4
  obtain⟨e119,e120,e121,e122,e123,e124,e125,e126,e127,e128,e129,e130,e131,e132,e133,e134,-⟩:=F5
  obtain⟨e135,e136,-⟩:=F6
  rw[←show gAt 0 (lh.map (Rf.eval T))=g4 from z4.symm]
  exact Bk e111 e112 e113 e114 e115 e116 e117 e118 e119 e120 e121 e122 e123 e124 e125 e126 e127 e128 e129 e130 e131 e132 e133 e134 e135 e136
 have h60:(I T 60)=(Cu g (L T 26)).2.1∧I T 61=(Cu g (L T 26)).2.2:=by
  obtain⟨-,e60,e61,-⟩:=F2
  replace e60:I T 60=((Cu g1 (L T 26)).2.1):=by rw[←show gAt 0 (lg.map (Rf.eval T))=g1 from z1.symm];exact e60
  replace e61:I T 61=((Cu g1 (L T 26)).2.2):=by rw[←show gAt 0 (lg.map (Rf.eval T))=g1 from z1.symm];exact e61
  rw[e60,e61,hgA];exact⟨rfl,rfl⟩
 have hcr:gT T 34=(Cu g (L T 26)).1:=by
  rw[cr1_0,hgA]
 have h63:(B T 63)=true↔¬AR g=true:=by
  obtain⟨-,-,-,-,e63,-⟩:=F2
  simp only[AA,zR] at e63
  rw[e63,h62]
  clear w4 hg hcr h60 cr1_0 cr4_0
  split<;>simp_all
 have h100:(B T 31)=false→¬1000 < ((L T 26)).length:=by
  obtain⟨-,-,e29,e30,e31,-⟩:=F0
  simp only[AA,AD,zR,zL] at e29 e30 e31
  clear w4 hg z1 z2 hgA cr1_0 cr4_0 h62 h60 hcr h63
  grind
 have hD:(B T 139)=true→CB (gT T 77) (I T 76) ((L T 26).drop (I T 76).toNat)=((gT T 77),(I T 76),(I T 137)):=by
  obtain⟨e103,e104,e105,-,e107,e108,e109,e110,-⟩:=F4
  obtain⟨-,-,e137,e138,e139,-⟩:=F6
  replace e137:I T 137=(B9 g4 (I T 107) (I T 108) (B T 109) (L T 110)):=by rw[←show gAt 0 (lh.map (Rf.eval T))=g4 from z4.symm];exact e137
  simp only[AA,AD,zR,zL] at*
  intro h
  have hlt:(I T 76) < ((L T 26)).length:=by clear w4 hg z1 z2 hgA cr1_0 cr4_0 h62 h60 hcr h63 h100;grind
  have hn:¬I T 137=0:=by clear w4 hg z1 z2 hgA cr1_0 cr4_0 h62 h60 hcr h63 h100;grind
  rw[z4,e107,e108,e109,e110] at e137
  rw[e137] at hn⊢
  exact RQ (by omega) hn
 have hE:(B T 75)=true→B T 139=false→CB (gT T 77) (I T 76) ((L T 26).drop (I T 76).toNat)=((gT T 77),(I T 76),0)∧I T 76=((L T 26)).length:=by
  obtain⟨e103,e104,e105,-⟩:=F4
  obtain⟨-,-,-,e138,e139,-,-,-,-,-,-,-,-,-,-,e150,-⟩:=F6
  simp only[AA,AD,zN,zR,zL] at*
  intro h m
  have hle:(((L T 26)).length:Int)≤I T 76:=by clear w4 hg z1 z2 hgA cr1_0 cr4_0 h62 h60 hcr h63 h100 hD;grind
  exact⟨TU (by omega),by omega⟩
 have hA:(B T 64)=true→B T 31=false→B T 71=true:=by
  obtain⟨-,-,-,-,-,-,e33,-⟩:=F0
  obtain⟨-,-,-,-,e63,e64,e65,-,e67,e68,-,e70,e71,-⟩:=F2
  simp only[AA,AD,zC,zR,BL,and_true] at*
  intro h _
  rw[W5 (h63.1 (by clear w4 hg z1 z2 hgA cr1_0 cr4_0 h62 h60 hcr h63 h100 hD hE;grind))] at hcr h60
  simp only[Jm,Gm.mk.injEq] at hcr h60
  clear w4 hg z1 z2 hgA cr1_0 cr4_0 h62 h63 h100 hD hE
  grind
 have hM:(B T 64)=false→B T 31=false→B T 75=true∧Cu g (L T 26)=CB (gT T 77) (I T 76) ((L T 26).drop (I T 76).toNat):=by
  obtain⟨-,-,-,-,-,-,e33,-⟩:=F0
  obtain⟨-,-,-,-,-,e64,-⟩:=F2
  obtain⟨e75,-⟩:=F3
  simp only[AA,AD,zN,zR] at e33 e64 e75
  intro h k
  have h75:(B T 75)=true∧B T 63=false:=by clear w4 hg z1 z2 hgA cr1_0 cr4_0 h62 h60 hcr h63 h100 hD hE hA;grind
  have hl:AR g=true:=by refine Classical.byContradiction fun hn=>?_;rw[h63.2 hn] at h75;cases h75.2
  exact⟨h75.1,(bB hl (h100 k)).trans (w4 h75.1)⟩
 have hS:(B T 139)=true→B T 64=false→B T 31=false→B T 146=true:=by
  obtain⟨-,-,-,-,-,e140,-,e142,e143,-,e145,e146,-⟩:=F6
  simp only[AA,AD,zR,BL,and_true] at*
  intro h h64 h31
  rw[(hM h64 h31).2,hD h] at hcr h60
  simp only[Gm.mk.injEq] at hcr
  obtain⟨y1,y2⟩:=h60
  have h145:(B T 145)=true:=e145.2 (by simp only[hcr,iff_self,and_self])
  clear w4 hg z1 z2 hgA cr1_0 cr4_0 h62 h63 h100 hD hE hA hM hcr e145
  grind
 have hN:(B T 139)=false→B T 64=false→B T 31=false→B T 159=true:=by
  obtain⟨e152,-,e154,e155,e156,-,e158,e159,-⟩:=F8
  simp only[AA,AD,zR,BL,and_true,zL] at*
  intro h h64 h31
  have hm:=hM h64 h31
  have he:=hE hm.1 h
  rw[hm.2,he.1] at hcr h60
  simp only[Gm.mk.injEq] at hcr
  obtain⟨y1,y2⟩:=h60
  have y3:=he.2
  have h158:(B T 158)=true:=e158.2 (by simp only[hcr,iff_self,and_self])
  clear w4 hg z1 z2 hgA cr1_0 cr4_0 h62 h63 h100 hD hE hA hM hcr e158 hS hm he
  grind
 clear w4 hg z1 z2 hgA cr1_0 cr4_0 h62 h60 hcr h63 h100 hD hE hM
 ·obtain⟨-,-,-,-,-,e32,-⟩:=F0
  obtain⟨-,-,-,-,-,-,-,-,-,-,-,-,-,-,e73,e74,-⟩:=F2
  obtain⟨-,-,-,-,-,-,-,-,-,-,-,-,-,e148,e149,-⟩:=F6
  obtain⟨-,-,-,-,-,-,-,-,-,e161,e162,e163,-⟩:=F8
  obtain⟨-,-,-,-,-,-,-,e191,-⟩:=F10
  obtain⟨-,-,-,e219,-⟩:=F12
  replace e32:B T 32=(true):=e32
  replace e73:B T 73=(true):=e73
  replace e148:B T 148=(true):=e148
  replace e161:B T 161=(true):=e161
  simp only[AA,AD,zR,zL] at*
  cases h31:(B T 31) with
  |true=>grind
  |false=>
   cases h64:(B T 64) with
   |true=>have:=hA h64 h31;grind
   |false=>
    cases h139:(B T 139) with
    |true=>have:=hS h139 h64 h31;grind
    |false=>have:=hN h139 h64 h31;grind
theorem mN:JQ Try.prog 9 Try.f9.params.toList 0=some (l7,lr):=by kernel_rfl
theorem mO:∀p∈([(20,LQ),(21,LD),(23,lz),(12,LU),(11,M8)]:List (FuncId × Bc)),CA Try.prog p.1 p.2:=by simp only[List.forall_mem_cons];exact⟨ju,j7,mX,ip,jS,fun _ h=>absurd h (by simp)⟩
theorem mR:∀T:Tab,Ay T (EE 0 lr)→Bnd T 0 lr→Y5 1048576 T 0 lr→CJ T ((lv++((Ek ln [.i,.i,.i,.i,.i,.i,.i,.i,.i,.i,.b,.b,.b,.b,.b,.b,.b,.b,.i,.i,.b,.b,.b,.i,.i,.i,.i] lu)++(li++(lw)))).map En.be)→Sp T l8∧B T 219=true:=by
 intro T hS hBd hBl hE
 obtain⟨-,-,-,-,-,-,-,-,-,-,-,-,-,-,-,⟨hl26,he26⟩,-⟩:=hBd
 replace hl26:(L T 26).length≤140737488355328:=hl26
 obtain⟨g,hg⟩:∃g:Gm,g=gT T 0:=⟨_,rfl⟩
 obtain⟨hb26,-⟩:=hBl
 replace hb26:(L T 26).length≤1048576:=hb26
 rw[List.map_append,List.map_append,List.map_append] at hE
 have hA:=hE.left
 replace hE:=hE.right
 have hH:=hE.left
 replace hE:=hE.right
 have hB:=hE.left
 replace hE:=hE.right
 obtain⟨A0,hS1⟩:=Cp hS (by kernel_rfl) hA
 obtain⟨g1,z1⟩:∃g:Gm,g=gT T 0:=⟨_,rfl⟩
 obtain⟨g2,z2⟩:∃g:Gm,g=gT T 0:=⟨_,rfl⟩
 obtain⟨ow0,hS2,inv0,np0⟩:=mP hl26 g hg hS1 hB hH
 have hF2:=(Cp (hS2.append hS1) (l:=li) (by kernel_rfl) hB)
 obtain⟨B0,hS⟩:=hF2
 clear hA hB hH hS1 hS2
 obtain⟨g4,z4⟩:∃g:Gm,g=gT T 77:=⟨_,rfl⟩
 obtain⟨A1,hO⟩:=CK (tys:=[.b]) (rs:=mW) hS (by kernel_rfl) hE
 have q0:=mV hl26 g hg hb26 g1 z1 g2 z2 inv0 np0 g4 z4 A0 B0 A1
 exact⟨⟨(fun _=>ow0),trivial⟩,q0⟩
end Go.Eng
end
