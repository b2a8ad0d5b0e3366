/-
  A part of the proof: K_lOnced K_lOnce.
-/
import Derived.Test.YtcinpabggaepfaaXQlOnce
import Derived.Test.YtcinpabggaepfaaE3
import Derived.Test.YtcinpabggaepfaaE4
import Derived.Test.YtcinpabggaepfaaKgNew
import Derived.Test.YtcinpabggaepfaaKgMoves
import Derived.Test.YtcinpabggaepfaaKposs
import Derived.Test.YtcinpabggaepfaaKgPlay
import Derived.Test.YtcinpabggaepfaaKfine
set_option linter.unusedVariables false
set_option linter.unusedSimpArgs false
noncomputable section
open Go Go.Eng Go.Proofs
set_option maxHeartbeats 4000000
set_option maxRecDepth 100000
namespace Go.Eng
def nM:List Kd:=[.int .u8 (0) (255),.int .u8 (0) (255),.int .u8 (0) (255),.list [.int .u8 (0) (255),.list [.int .u8 (0) (255)],.int .u16 (0) (65535)]]
def oG:List AC:=((JQ Try.prog 9 Try.f6.params.toList 0).map (·.1)).getD []
def mq:List Rf:=[.e 50,.e 51,.e 52,.e 53,.e 54,.e 55,.e 56,.e 57,.e 58,.e 59,.e 60,.e 61,.e 62,.e 63,.e 64,.e 65,.e 66,.e 67,.e 68,.e 69,.e 70,.e 71,.e 72,.e 73,.e 74,.e 75]
def ni:List Rf:=[.e 50,.e 51,.e 52,.e 53,.e 54,.e 55,.e 56,.e 57,.e 58,.e 59,.e 60,.e 61,.e 62,.e 63,.e 64,.e 65,.e 66,.e 67,.e 68,.e 69,.e 70,.e 71,.e 72,.e 73,.e 74,.e 75,.e 106]
def mi:List Rf:=[.e 50,.e 51,.e 52,.e 53,.e 54,.e 55,.e 56,.e 57,.e 58,.e 59,.e 60,.e 61,.e 62,.e 63,.e 64,.e 65,.e 66,.e 67,.e 68,.e 69,.e 70,.e 71,.e 72,.e 73,.e 74,.e 75,.e 100,.e 101,.e 102,.e 109]
def oU:List En:=[⟨4,.len,[.e 3]⟩,
 ⟨5,.lt,[.c (.int 60),.e 4]⟩,
 ⟨6,.outB "fine.0" KH,[]⟩,
 ⟨7,.not,[.e 5]⟩,
 ⟨8,.o2 .mod,[.e 0,.c (.int 4)]⟩,
 ⟨9,.o2 .mod,[.e 1,.c (.int 41)]⟩,
 ⟨10,.o2 .mod,[.e 2,.c (.int 41)]⟩,
 ⟨11,.eq,[.e 8,.c (.int 1)]⟩,
 ⟨12,.and,[.e 7,.n 11]⟩,
 ⟨13,.eq,[.e 8,.c (.int 3)]⟩,
 ⟨14,.or,[.e 11,.e 13]⟩,
 ⟨15,.and,[.e 7,.e 14]⟩,
 ⟨16,.and,[.e 7,.n 14]⟩,
 ⟨17,.ite .i,[.e 14,.c (.int 0),.e 9]⟩,
 ⟨18,.ite .i,[.e 14,.c (.int 0),.e 10]⟩,
 ⟨19,.outI "gNew.0" nO,[.e 8,.e 17,.e 18]⟩]
def oW:List En:=[⟨20,.outI "gNew.1" nY,[.e 8,.e 17,.e 18]⟩,
 ⟨21,.outI "gNew.2" nP,[.e 8,.e 17,.e 18]⟩,
 ⟨22,.outI "gNew.3" nR,[.e 8,.e 17,.e 18]⟩,
 ⟨23,.outI "gNew.4" nS,[.e 8,.e 17,.e 18]⟩,
 ⟨24,.outI "gNew.5" nc,[.e 8,.e 17,.e 18]⟩,
 ⟨25,.outI "gNew.6" nW,[.e 8,.e 17,.e 18]⟩,
 ⟨26,.outI "gNew.7" nX,[.e 8,.e 17,.e 18]⟩,
 ⟨27,.outI "gNew.8" nQ,[.e 8,.e 17,.e 18]⟩,
 ⟨28,.outB "gNew.9" nN,[.e 8,.e 17,.e 18]⟩,
 ⟨29,.outB "gNew.10" nJ,[.e 8,.e 17,.e 18]⟩,
 ⟨30,.outB "gNew.11" m4,[.e 8,.e 17,.e 18]⟩,
 ⟨31,.outB "gNew.12" nA,[.e 8,.e 17,.e 18]⟩,
 ⟨32,.outB "gNew.13" m5,[.e 8,.e 17,.e 18]⟩,
 ⟨33,.outB "gNew.14" m8,[.e 8,.e 17,.e 18]⟩,
 ⟨34,.outB "gNew.15" nF,[.e 8,.e 17,.e 18]⟩,
 ⟨35,.outB "gNew.16" nI,[.e 8,.e 17,.e 18]⟩]
def oM:List En:=[⟨36,.outI "gNew.17" m7,[.e 8,.e 17,.e 18]⟩,
 ⟨37,.outI "gNew.18" nE,[.e 8,.e 17,.e 18]⟩,
 ⟨38,.outB "gNew.19" my,[.e 8,.e 17,.e 18]⟩,
 ⟨39,.outB "gNew.20" m9,[.e 8,.e 17,.e 18]⟩,
 ⟨40,.outB "gNew.21" nH,[.e 8,.e 17,.e 18]⟩,
 ⟨41,.outI "gNew.22" nK,[.e 8,.e 17,.e 18]⟩,
 ⟨42,.outI "gNew.23" nG,[.e 8,.e 17,.e 18]⟩,
 ⟨43,.outI "gNew.24" nD,[.e 8,.e 17,.e 18]⟩,
 ⟨44,.outI "gNew.25" m6,[.e 8,.e 17,.e 18]⟩,
 ⟨45,.outI "gNew.26" nC,[.e 8,.e 17,.e 18]⟩,
 ⟨46,.ne,[.e 45,.c (.int 0)]⟩,
 ⟨47,.and,[.e 7,.e 46]⟩,
 ⟨48,.and,[.e 7,.n 46]⟩]
def oV:List En:=[⟨80,.len,[.e 3]⟩,
 ⟨81,.lt,[.e 49,.e 80]⟩,
 ⟨82,.and,[.e 48,.e 81]⟩,
 ⟨83,.and,[.e 48,.n 81]⟩,
 ⟨84,.outL "gMoves.0" mv,mq⟩,
 ⟨85,.outI "gMoves.1" mw,mq⟩,
 ⟨86,.ne,[.e 85,.c (.int 0)]⟩,
 ⟨87,.and,[.e 82,.n 86]⟩,
 ⟨88,.len,[.e 84]⟩,
 ⟨89,.eq,[.e 88,.c (.int 0)]⟩,
 ⟨90,.or,[.e 86,.e 89]⟩,
 ⟨91,.and,[.e 82,.e 90]⟩,
 ⟨92,.eq,[.e 85,.c (.int 0)]⟩,
 ⟨93,.and,[.e 91,.e 92]⟩,
 ⟨94,.outB "fine.0" KH,[]⟩,
 ⟨95,.and,[.e 92,.e 94]⟩]
def oT:List En:=[⟨96,.and,[.e 82,.n 90]⟩,
 ⟨97,.get .i 0,[.e 3,.e 49]⟩,
 ⟨98,.len,[.e 84]⟩,
 ⟨99,.o2 .tmod,[.e 97,.e 98]⟩,
 ⟨100,.get .i 0,[.e 84,.e 99]⟩,
 ⟨101,.get .i 1,[.e 84,.e 99]⟩,
 ⟨102,.get .b 2,[.e 84,.e 99]⟩,
 ⟨103,.get .l 3,[.e 84,.e 99]⟩,
 ⟨104,.eq,[.e 100,.c (.int 2)]⟩,
 ⟨105,.and,[.e 96,.e 104]⟩,
 ⟨106,.get .l 1,[.e 3,.e 49]⟩,
 ⟨107,.outL "poss.0" nZ,ni⟩,
 ⟨108,.and,[.e 96,.n 104]⟩,
 ⟨109,.ite .l,[.e 104,.e 107,.e 103]⟩,
 ⟨110,.outI "gPlay.0" NX,mi⟩,
 ⟨111,.outI "gPlay.1" OB,mi⟩]
def oZ:List En:=[⟨112,.outI "gPlay.2" OS,mi⟩,
 ⟨113,.outI "gPlay.3" Nu,mi⟩,
 ⟨114,.outI "gPlay.4" NJ,mi⟩,
 ⟨115,.outI "gPlay.5" Oe,mi⟩,
 ⟨116,.outI "gPlay.6" N7,mi⟩,
 ⟨117,.outI "gPlay.7" NO,mi⟩,
 ⟨118,.outI "gPlay.8" OX,mi⟩,
 ⟨119,.outB "gPlay.9" Nm,mi⟩,
 ⟨120,.outB "gPlay.10" MI,mi⟩,
 ⟨121,.outB "gPlay.11" MQ,mi⟩,
 ⟨122,.outB "gPlay.12" Md,mi⟩,
 ⟨123,.outB "gPlay.13" MF,mi⟩,
 ⟨124,.outB "gPlay.14" MM,mi⟩,
 ⟨125,.outB "gPlay.15" L0,mi⟩,
 ⟨126,.outB "gPlay.16" Lh,mi⟩,
 ⟨127,.outI "gPlay.17" MX,mi⟩]
def oN:List En:=[⟨128,.outI "gPlay.18" L2,mi⟩,
 ⟨129,.outB "gPlay.19" Mh,mi⟩,
 ⟨130,.outB "gPlay.20" Lt,mi⟩,
 ⟨131,.outB "gPlay.21" Lo,mi⟩,
 ⟨132,.outI "gPlay.22" L8,mi⟩,
 ⟨133,.outI "gPlay.23" MA,mi⟩,
 ⟨134,.outI "gPlay.24" Mb,mi⟩,
 ⟨135,.outI "gPlay.25" ML,mi⟩,
 ⟨136,.outI "gPlay.26" Ih,mi⟩,
 ⟨137,.ne,[.e 136,.c (.int 0)]⟩,
 ⟨138,.and,[.e 96,.e 137]⟩,
 ⟨139,.and,[.e 96,.n 137]⟩,
 ⟨140,.ne,[.e 113,.e 53]⟩,
 ⟨141,.and,[.e 139,.n 140]⟩,
 ⟨142,.lt,[.e 113,.c (.int 0)]⟩,
 ⟨143,.or,[.e 140,.e 142]⟩]
def oQ:List En:=[⟨144,.and,[.e 139,.n 143]⟩,
 ⟨145,.lt,[.c (.int 3),.e 113]⟩,
 ⟨146,.or,[.e 143,.e 145]⟩,
 ⟨147,.and,[.e 139,.n 146]⟩,
 ⟨148,.and,[.e 139,.n 146]⟩,
 ⟨149,.ne,[.e 132,.e 72]⟩,
 ⟨150,.or,[.e 146,.e 149]⟩,
 ⟨151,.and,[.e 139,.n 150]⟩,
 ⟨152,.and,[.e 139,.n 150]⟩,
 ⟨153,.pick .i,[.e 113,.e 115,.e 116,.e 117,.e 118]⟩,
 ⟨154,.and,[.e 139,.n 150]⟩,
 ⟨155,.and,[.e 139,.n 150]⟩,
 ⟨156,.pick .i,[.e 113,.e 55,.e 56,.e 57,.e 58]⟩,
 ⟨157,.ne,[.e 153,.e 156]⟩,
 ⟨158,.or,[.e 150,.e 157]⟩,
 ⟨159,.and,[.e 139,.e 158]⟩]
def oR:List En:=[⟨160,.and,[.e 139,.n 158]⟩,
 ⟨161,.ite .b,[.e 158,.c (.bool false),.e 76]⟩,
 ⟨162,.ite .b,[.e 158,.c (.bool false),.e 77]⟩,
 ⟨163,.ite .b,[.e 158,.c (.bool false),.e 78]⟩,
 ⟨164,.ite .b,[.e 158,.c (.bool false),.e 79]⟩,
 ⟨165,.eq,[.e 111,.c (.int 2)]⟩,
 ⟨166,.and,[.e 139,.e 165]⟩,
 ⟨167,.lt,[.e 114,.c (.int 0)]⟩,
 ⟨168,.and,[.e 166,.n 167]⟩,
 ⟨169,.lt,[.c (.int 3),.e 114]⟩,
 ⟨170,.or,[.e 167,.e 169]⟩,
 ⟨171,.and,[.e 166,.n 170]⟩,
 ⟨172,.pick .b,[.e 114,.e 161,.e 162,.e 163,.e 164]⟩,
 ⟨173,.or,[.e 170,.e 172]⟩,
 ⟨174,.and,[.e 166,.e 173]⟩,
 ⟨175,.and,[.e 166,.n 173]⟩]
def oL:List En:=[⟨176,.eq,[.e 114,.c (.int 0)]⟩,
 ⟨177,.ite .b,[.e 176,.c (.bool true),.e 161]⟩,
 ⟨178,.eq,[.e 114,.c (.int 1)]⟩,
 ⟨179,.ite .b,[.e 178,.c (.bool true),.e 162]⟩,
 ⟨180,.eq,[.e 114,.c (.int 2)]⟩,
 ⟨181,.ite .b,[.e 180,.c (.bool true),.e 163]⟩,
 ⟨182,.eq,[.e 114,.c (.int 3)]⟩,
 ⟨183,.ite .b,[.e 182,.c (.bool true),.e 164]⟩,
 ⟨184,.and,[.e 139,.n 165]⟩,
 ⟨185,.ite .b,[.e 165,.e 177,.e 161]⟩,
 ⟨186,.ite .b,[.e 165,.e 179,.e 162]⟩,
 ⟨187,.ite .b,[.e 165,.e 181,.e 163]⟩,
 ⟨188,.ite .b,[.e 165,.e 183,.e 164]⟩,
 ⟨189,.or,[.e 175,.e 184]⟩,
 ⟨190,.ite .b,[.e 138,.e 76,.e 161]⟩,
 ⟨191,.ite .b,[.e 138,.e 77,.e 162]⟩]
def oY:List En:=[⟨192,.ite .b,[.e 138,.e 78,.e 163]⟩,
 ⟨193,.ite .b,[.e 138,.e 79,.e 164]⟩,
 ⟨194,.or,[.e 138,.e 174]⟩,
 ⟨195,.ite .b,[.e 91,.e 76,.e 190]⟩,
 ⟨196,.ite .b,[.e 91,.e 77,.e 191]⟩,
 ⟨197,.ite .b,[.e 91,.e 78,.e 192]⟩,
 ⟨198,.ite .b,[.e 91,.e 79,.e 193]⟩,
 ⟨199,.ite .b,[.e 91,.e 95,.c (.bool false)]⟩,
 ⟨200,.ite .i,[.e 91,.e 85,.e 136]⟩,
 ⟨201,.or,[.e 91,.e 194]⟩,
 ⟨202,.w2 .i64 .add,[.e 49,.c (.int 1)]⟩]
def mu:List En:=oU++(oW++(oM))
def mn:List En:=oV++(oT++(oZ++(oN++(oQ++(oR++(oL++(oY)))))))
def nq:List ObE:=[⟨some 175,.inr,[.e 114,.c (.int 4)]⟩,⟨some 171,.inr,[.e 114,.c (.int 4)]⟩,⟨some 155,.inr,[.e 113,.c (.int 4)]⟩,⟨some 152,.inr,[.e 113,.c (.int 4)]⟩,⟨some 105,.inl,[.e 49,.e 3]⟩,⟨some 96,.inl,[.e 99,.e 84]⟩,⟨some 96,.nez,[.e 98]⟩,⟨some 96,.inl,[.e 49,.e 3]⟩]
def mr:BW:=mkD 49 31 mn 189 [.e 202,.e 110,.e 111,.e 112,.e 113,.e 114,.e 115,.e 116,.e 117,.e 118,.e 119,.e 120,.e 121,.e 122,.e 123,.e 124,.e 125,.e 126,.e 127,.e 128,.e 129,.e 130,.e 131,.e 132,.e 133,.e 134,.e 135,.e 185,.e 186,.e 187,.e 188] nq [3,48]
def nB:List Rf:=[.e 3,.e 48,.c (.int 0),.e 19,.e 20,.e 21,.e 22,.e 23,.e 24,.e 25,.e 26,.e 27,.e 28,.e 29,.e 30,.e 31,.e 32,.e 33,.e 34,.e 35,.e 36,.e 37,.e 38,.e 39,.e 40,.e 41,.e 42,.e 43,.e 44,.c (.bool false),.c (.bool false),.c (.bool false),.c (.bool false)]
def oO:List En:=[⟨203,.outB "fine.0" KH,[]⟩,
 ⟨204,.ite .b,[.e 201,.e 195,.e 76]⟩,
 ⟨205,.ite .b,[.e 201,.e 196,.e 77]⟩,
 ⟨206,.ite .b,[.e 201,.e 197,.e 78]⟩,
 ⟨207,.ite .b,[.e 201,.e 198,.e 79]⟩,
 ⟨208,.ite .b,[.e 201,.e 199,.e 203]⟩,
 ⟨209,.or,[.e 201,.e 83]⟩,
 ⟨210,.ite .i,[.e 47,.e 19,.e 50]⟩,
 ⟨211,.ite .i,[.e 47,.e 20,.e 51]⟩,
 ⟨212,.ite .i,[.e 47,.e 21,.e 52]⟩,
 ⟨213,.ite .i,[.e 47,.e 22,.e 53]⟩,
 ⟨214,.ite .i,[.e 47,.e 23,.e 54]⟩,
 ⟨215,.ite .i,[.e 47,.e 24,.e 55]⟩,
 ⟨216,.ite .i,[.e 47,.e 25,.e 56]⟩,
 ⟨217,.ite .i,[.e 47,.e 26,.e 57]⟩,
 ⟨218,.ite .i,[.e 47,.e 27,.e 58]⟩]
def oX:List En:=[⟨219,.ite .b,[.e 47,.e 28,.e 59]⟩,
 ⟨220,.ite .b,[.e 47,.e 29,.e 60]⟩,
 ⟨221,.ite .b,[.e 47,.e 30,.e 61]⟩,
 ⟨222,.ite .b,[.e 47,.e 31,.e 62]⟩,
 ⟨223,.ite .b,[.e 47,.e 32,.e 63]⟩,
 ⟨224,.ite .b,[.e 47,.e 33,.e 64]⟩,
 ⟨225,.ite .b,[.e 47,.e 34,.e 65]⟩,
 ⟨226,.ite .b,[.e 47,.e 35,.e 66]⟩,
 ⟨227,.ite .i,[.e 47,.e 36,.e 67]⟩,
 ⟨228,.ite .i,[.e 47,.e 37,.e 68]⟩,
 ⟨229,.ite .b,[.e 47,.e 38,.e 69]⟩,
 ⟨230,.ite .b,[.e 47,.e 39,.e 70]⟩,
 ⟨231,.ite .b,[.e 47,.e 40,.e 71]⟩,
 ⟨232,.ite .i,[.e 47,.e 41,.e 72]⟩,
 ⟨233,.ite .i,[.e 47,.e 42,.e 73]⟩,
 ⟨234,.ite .i,[.e 47,.e 43,.e 74]⟩]
def oS:List En:=[⟨235,.ite .i,[.e 47,.e 44,.e 75]⟩,
 ⟨236,.ite .b,[.e 47,.c (.bool false),.e 208]⟩,
 ⟨237,.or,[.e 47,.e 209]⟩,
 ⟨238,.ite .b,[.e 5,.e 6,.e 236]⟩,
 ⟨239,.or,[.e 5,.e 237]⟩]
def ng:List En:=oO++(oX++(oS))
def oc:List ObE:=[⟨some 48,.owes mr,[.e 3,.e 48,.c (.int 0),.e 19,.e 20,.e 21,.e 22,.e 23,.e 24,.e 25,.e 26,.e 27,.e 28,.e 29,.e 30,.e 31,.e 32,.e 33,.e 34,.e 35,.e 36,.e 37,.e 38,.e 39,.e 40,.e 41,.e 42,.e 43,.e 44,.c (.bool false),.c (.bool false),.c (.bool false),.c (.bool false)]⟩]
def pR:List Rf:=[.e 238]
theorem pV:d8 4 (ed Try.prog [(17,nf),(18,mx),(19,nL),(12,LU),(11,M8)] RN 3000 20 6 oG 4)=some (238,(mu++((Ek mr [.i,.i,.i,.i,.i,.i,.i,.i,.i,.i,.b,.b,.b,.b,.b,.b,.b,.b,.i,.i,.b,.b,.b,.i,.i,.i,.i,.b,.b,.b,.b] nB)++(mn++(ng)))).map En.be,oc.map ObE.be):=by kernel_rfl
theorem oq {T:Tab}(lo0:0≤I T 0)(hi0:I T 0≤255)(lo1:0≤I T 1)(hi1:I T 1≤255)(lo2:0≤I T 2)(hi2:I T 2≤255)(hl3:(L T 3).length≤140737488355328)(hc3_0:∀q:Nat,q < (L T 3).length→0≤At (L T 3) q 0∧At (L T 3) q 0≤255)(hc3_2:∀q:Nat,q < (L T 3).length→0≤At (L T 3) q 2∧At (L T 3) q 2≤65535)(hb3:(L T 3).length≤1048576)(A0:AK T mu):
  (mj (I T 8) (I T 17) (I T 18)=true)∧(AR (gT T 19)=true)∧((B T 47)=false):=by
 obtain⟨F0,A0⟩:=A0.cut
 obtain⟨F1,A0⟩:=A0.cut
 have F2:=A0;clear A0
 have hok:mj (I T 8) (I T 17) (I T 18)=true:=by
  obtain⟨-,-,-,-,e8,e9,e10,e11,-,e13,e14,-,-,e17,e18,-⟩:=F0
  simp only[AA,AD,zR,Af,zL] at*
  have h:=pd (a:=I T 0) (b:=I T 1) (c:=I T 2)
  rw[←e8,←e9,←e10] at h
  have a1:(I T 17)=if (I T 8)=1∨I T 8=3 then 0 else (I T 9):=by clear h;grind
  have a2:(I T 18)=if (I T 8)=1∨I T 8=3 then 0 else (I T 10):=by clear h;grind
  rw[a1,a2];exact h
 have hleg0:AR (gT T 19)=true:=by
  obtain⟨-,-,-,-,-,-,-,-,-,-,-,-,-,-,-,e19,-⟩:=F0
  obtain⟨e20,e21,e22,e23,e24,e25,e26,e27,e28,e29,e30,e31,e32,e33,e34,e35,-⟩:=F1
  obtain⟨e36,e37,e38,e39,e40,e41,e42,e43,e44,-⟩:=F2
  replace e19:I T 19=(((mf (I T 8) (I T 17) (I T 18))).code):=e19
  replace e20:I T 20=(((mf (I T 8) (I T 17) (I T 18))).phase):=e20
  replace e21:I T 21=(((mf (I T 8) (I T 17) (I T 18))).side):=e21
  replace e22:I T 22=(((mf (I T 8) (I T 17) (I T 18))).ball):=e22
  replace e23:I T 23=(((mf (I T 8) (I T 17) (I T 18))).taken):=e23
  replace e24:I T 24=(((mf (I T 8) (I T 17) (I T 18))).p0):=e24
  replace e25:I T 25=(((mf (I T 8) (I T 17) (I T 18))).p1):=e25
  replace e26:I T 26=(((mf (I T 8) (I T 17) (I T 18))).p2):=e26
  replace e27:I T 27=(((mf (I T 8) (I T 17) (I T 18))).p3):=e27
  replace e28:B T 28=(((mf (I T 8) (I T 17) (I T 18))).n0):=e28
  replace e29:B T 29=(((mf (I T 8) (I T 17) (I T 18))).n1):=e29
  replace e30:B T 30=(((mf (I T 8) (I T 17) (I T 18))).n2):=e30
  replace e31:B T 31=(((mf (I T 8) (I T 17) (I T 18))).n3):=e31
  replace e32:B T 32=(((mf (I T 8) (I T 17) (I T 18))).d0):=e32
  replace e33:B T 33=(((mf (I T 8) (I T 17) (I T 18))).d1):=e33
  replace e34:B T 34=(((mf (I T 8) (I T 17) (I T 18))).d2):=e34
  replace e35:B T 35=(((mf (I T 8) (I T 17) (I T 18))).d3):=e35
  replace e36:I T 36=(((mf (I T 8) (I T 17) (I T 18))).h0):=e36
  replace e37:I T 37=(((mf (I T 8) (I T 17) (I T 18))).h1):=e37
  replace e38:B T 38=(((mf (I T 8) (I T 17) (I T 18))).l0):=e38
  replace e39:B T 39=(((mf (I T 8) (I T 17) (I T 18))).l1):=e39
  replace e40:B T 40=(((mf (I T 8) (I T 17) (I T 18))).half):=e40
  replace e41:I T 41=(((mf (I T 8) (I T 17) (I T 18))).turns):=e41
  replace e42:I T 42=(((mf (I T 8) (I T 17) (I T 18))).began):=e42
  replace e43:I T 43=(((mf (I T 8) (I T 17) (I T 18))).lastb):=e43
  replace e44:I T 44=(((mf (I T 8) (I T 17) (I T 18))).winner):=e44
  have e:(gT T 19)=mf (I T 8) (I T 17) (I T 18):=Bk e19 e20 e21 e22 e23 e24 e25 e26 e27 e28 e29 e30 e31 e32 e33 e34 e35 e36 e37 e38 e39 e40 e41 e42 e43 e44
  rw[e]
  exact pE hok
 have h47:(B T 47)=false:=by
  obtain⟨-,-,-,-,-,-,-,-,-,e45,e46,e47,-⟩:=F2
  replace e45:I T 45=(mm (I T 8) (I T 17) (I T 18)):=e45
  simp only[AA,AD,zR] at e46 e47
  rw[pP hok] at e45
  clear hleg0 hok hc3_0 hc3_2
  grind
 exact⟨hok,hleg0,h47⟩
theorem o9 {T:Tab}(hl3:(L T 3).length≤140737488355328)(hc3_0:∀q:Nat,q < (L T 3).length→0≤At (L T 3) q 0∧At (L T 3) q 0≤255)(hc3_2:∀q:Nat,q < (L T 3).length→0≤At (L T 3) q 2∧At (L T 3) q 2≤65535)(hleg0:AR (gT T 19)=true)(hS:Ay T (J7 (EE 0 nM) mu))(hB:CJ T (mn.map En.be))(hH:CJ T ((Ek mr [.i,.i,.i,.i,.i,.i,.i,.i,.i,.i,.b,.b,.b,.b,.b,.b,.b,.b,.i,.i,.b,.b,.b,.i,.i,.i,.i,.b,.b,.b,.b] nB).map En.be)):
  (mr).owes (nB.map (Rf.eval T))∧Ay T (hds 49 [.i,.i,.i,.i,.i,.i,.i,.i,.i,.i,.b,.b,.b,.b,.b,.b,.b,.b,.i,.i,.b,.b,.b,.i,.i,.i,.i,.b,.b,.b,.b])∧(0≤I T 49∧I T 49≤((L T 3)).length∧((B T 48)=true→AR (gT T 50)=true∧tk1 (gT T 50) (B T 76) (B T 77) (B T 78) (B T 79)))∧¬B T 189=true:=by
 refine Gx (nh:=49) (k:=31) (pcn:=189) (top:=203) (bes:=mn) (bos:=nq) (nxt:=[.e 202,.e 110,.e 111,.e 112,.e 113,.e 114,.e 115,.e 116,.e 117,.e 118,.e 119,.e 120,.e 121,.e 122,.e 123,.e 124,.e 125,.e 126,.e 127,.e 128,.e 129,.e 130,.e 131,.e 132,.e 133,.e 134,.e 135,.e 185,.e 186,.e 187,.e 188]) (inits:=[.c (.int 0),.e 19,.e 20,.e 21,.e 22,.e 23,.e 24,.e 25,.e 26,.e 27,.e 28,.e 29,.e 30,.e 31,.e 32,.e 33,.e 34,.e 35,.e 36,.e 37,.e 38,.e 39,.e 40,.e 41,.e 42,.e 43,.e 44,.c (.bool false),.c (.bool false),.c (.bool false),.c (.bool false)]) (fv:=[3,48]) (tys:=[.i,.i,.i,.i,.i,.i,.i,.i,.i,.i,.b,.b,.b,.b,.b,.b,.b,.b,.i,.i,.b,.b,.b,.i,.i,.i,.i,.b,.b,.b,.b]) (by kernel_rfl) rfl rfl rfl rfl hS (by kernel_rfl) (by kernel_rfl) hB (Ec hH) (fun s=>0≤(aI s 0)∧(aI s 0)≤((L T 3)).length∧((B T 48)=true→AR (Gm.mk (aI s 1) (aI s 2) (aI s 3) (aI s 4) (aI s 5) (aI s 6) (aI s 7) (aI s 8) (aI s 9) (aB s 10) (aB s 11) (aB s 12) (aB s 13) (aB s 14) (aB s 15) (aB s 16) (aB s 17) (aI s 18) (aI s 19) (aB s 20) (aB s 21) (aB s 22) (aI s 23) (aI s 24) (aI s 25) (aI s 26))=true∧tk1 (Gm.mk (aI s 1) (aI s 2) (aI s 3) (aI s 4) (aI s 5) (aI s 6) (aI s 7) (aI s 8) (aI s 9) (aB s 10) (aB s 11) (aB s 12) (aB s 13) (aB s 14) (aB s 15) (aB s 16) (aB s 17) (aI s 18) (aI s 19) (aB s 20) (aB s 21) (aB s 22) (aI s 23) (aI s 24) (aI s 25) (aI s 26)) (aB s 27) (aB s 28) (aB s 29) (aB s 30))) (fun s=>(((L T 3)).length - (aI s 0)).toNat) ?_ ?_
 ·show 0≤(0:Int)∧(0:Int)≤((L T 3)).length∧((B T 48)=true→AR (gT T 19)=true∧tk1 (gT T 19) (false:Bool) (false:Bool) (false:Bool) (false:Bool))
  clear hS hB hH
  exact⟨by omega,by omega,fun _=>⟨hleg0,by unfold tk1;simp⟩⟩
 ·intro T2 hfv hF inv
  replace inv:0≤I T2 49∧I T2 49≤((L T 3)).length∧((B T 48)=true→AR (gT T2 50)=true∧tk1 (gT T2 50) (B T2 76) (B T2 77) (B T2 78) (B T2 79)):=inv
  clear hS hB hH
  replace hF:AK T2 mn:=hF
  obtain⟨F0,hF⟩:=hF.cut
  obtain⟨F1,hF⟩:=hF.cut
  obtain⟨F2,hF⟩:=hF.cut
  obtain⟨F3,hF⟩:=hF.cut
  obtain⟨F4,hF⟩:=hF.cut
  obtain⟨F5,hF⟩:=hF.cut
  obtain⟨F6,hF⟩:=hF.cut
  have F7:=hF;clear hF
  have fv3:L T2 3=L T 3:=fvL (hfv 3 (by decide))
  have fv48:B T2 48=B T 48:=fvB (hfv 48 (by decide))
  clear hfv
  obtain⟨g1,z1⟩:∃g:Gm,g=gT T2 50:=⟨_,rfl⟩
  obtain⟨g2,z2⟩:∃g:Gm,g=gT T2 50:=⟨_,rfl⟩
  obtain⟨g3,z3⟩:∃g:Gm,g=gT T2 50:=⟨_,rfl⟩
  have cr3_0:gT T2 110=D2 g3 (I T2 100) (I T2 101) (B T2 102) (L T2 109):=by
   obtain⟨-,-,-,-,-,-,-,-,-,-,-,-,-,-,e110,e111,-⟩:=F1
   obtain⟨e112,e113,e114,e115,e116,e117,e118,e119,e120,e121,e122,e123,e124,e125,e126,e127,-⟩:=F2
   obtain⟨e128,e129,e130,e131,e132,e133,e134,e135,-⟩:=F3
   rw[←show gAt 0 (mi.map (Rf.eval T2))=g3 from z3.symm]
   exact Bk e110 e111 e112 e113 e114 e115 e116 e117 e118 e119 e120 e121 e122 e123 e124 e125 e126 e127 e128 e129 e130 e131 e132 e133 e134 e135
  have hleg:(B T2 82)=true→AR g1=true∧tk1 g1 (B T2 76) (B T2 77) (B T2 78) (B T2 79):=by
   obtain⟨-,e81,e82,-⟩:=F0
   simp only[AA,AD,zR] at e81 e82
   intro h
   obtain⟨v1,v2,v3⟩:=inv
   have h48:(B T 48)=true:=by rw[←fv48];clear v3 hc3_0 hc3_2 z1 z2 z3 cr3_0;grind
   rw[z1];exact v3 h48
  have hBA:g2=g1∧g3=g1:=by
   rw[z1,z2,z3];exact⟨rfl,rfl⟩
  have h84:(B T2 82)=true→L T2 84=C2 g1∧I T2 85=0:=by
   obtain⟨e80,e81,e82,-,e84,e85,-⟩:=F0
   replace e84:L T2 84=((if AR g1=true then C2 g1 else [])):=by rw[←show gAt 0 (mq.map (Rf.eval T2))=g1 from z1.symm];exact e84
   replace e85:I T2 85=((if AR g1=true then 0 else 2)):=by rw[←show gAt 0 (mq.map (Rf.eval T2))=g1 from z1.symm];exact e85
   simp only[AA,AD,zR,zL] at e80 e81 e82
   intro h
   rw[e84,e85,if_pos (hleg h).1,if_pos (hleg h).1];exact⟨rfl,rfl⟩
  have h96:(B T2 96)=true→B T2 82=true∧I T2 98=((L T2 84)).length∧0 < I T2 98:=by
   obtain⟨-,-,-,-,-,-,-,-,e88,e89,e90,-⟩:=F0
   obtain⟨e96,-,e98,-⟩:=F1
   simp only[AA,AD,zN,zR,zL] at*
   clear inv hleg hc3_0 hc3_2 z1 z2 z3 cr3_0
   grind
  have h99:(B T2 96)=true→0≤I T2 99∧I T2 99 < I T2 98:=by
   obtain⟨e80,e81,e82,-⟩:=F0
   obtain⟨e96,e97,-,e99,-⟩:=F1
   simp only[AA,AD,zN,zR,Af,zL] at*
   intro h
   obtain⟨v1,v2,v3⟩:=inv
   have h2:=h96 h
   rw[fv3] at e97
   have hlt:(I T2 49) < ((L T 3)).length:=by clear v3 hc3_0 hc3_2 z1 z2 z3 cr3_0 hleg h84 h96;grind
   have h3:=hc3_0 (I T2 49).toNat (by omega)
   rw[←e97] at h3
   rw[e99,if_pos h3.1]
   exact⟨Int.emod_nonneg _ (by omega),Int.emod_lt_of_pos _ h2.2.2⟩
  have herr:(B T2 96)=true→B9 g3 (I T2 100) (I T2 101) (B T2 102) (L T2 109)=0:=by
   obtain⟨-,-,-,-,e100,e101,e102,e103,e104,-,-,e107,-,e109,-⟩:=F1
   replace e107:L T2 107=(nU g2 (L T2 106)):=by rw[←show gAt 0 (ni.map (Rf.eval T2))=g2 from z2.symm];exact e107
   simp only[AA,AD,zR,zL] at*
   intro h
   obtain⟨h82,h98,h0⟩:=h96 h
   obtain⟨h9a,h9b⟩:=h99 h
   have hm:=(h84 h82).1
   have hl:=(hleg h82).1
   rw[hm] at e100 e101 e102 e103
   rw[nd] at e103
   rw[hBA.2,e100,e101,e102]
   refine np hl (by rw[←hm];omega) (fun h2=>?_) (fun h2=>?_)
   ·rw[←e100] at h2
    have h104:(B T2 104)=true:=e104.2 h2
    rw[if_pos h104] at e109
    rw[e109,e107,hBA.1]
    exact⟨nj.2,nj.1⟩
   ·rw[←e100] at h2
    have h104:(B T2 104)=false:=by cases hx:(B T2 104) with|true=>exact absurd (e104.1 hx) h2|false=>rfl
    rw[if_neg (by rw[h104];decide)] at e109
    rw[e109,e103]
  have h138:(B T2 96)=true→I T2 136=0∧B T2 138=false∧B T2 139=true:=by
   obtain⟨-,-,-,-,-,-,-,-,e136,e137,e138,e139,-⟩:=F3
   replace e136:I T2 136=(B9 g3 (I T2 100) (I T2 101) (B T2 102) (L T2 109)):=by rw[←show gAt 0 (mi.map (Rf.eval T2))=g3 from z3.symm];exact e136
   simp only[AA,AD,zN,zR] at e137 e138 e139
   intro h
   have h0:=herr h
   rw[h0] at e136
   clear inv hleg hc3_0 hc3_2 z1 z2 z3 cr3_0 h84 h96 h99 herr hBA h0
   grind
  have hN:(B T2 96)=true→AR (gT T2 110)=true∧tk2 (B T2 123) (B T2 124) (B T2 125) (B T2 126) (B T2 119) (B T2 120) (B T2 121) (B T2 122) (B T2 161) (B T2 162) (B T2 163) (B T2 164):=by
   obtain⟨-,-,-,-,-,-,-,-,-,-,-,-,e140,-,e142,e143,-⟩:=F3
   obtain⟨-,e145,e146,-,-,e149,e150,-,-,e153,-,-,e156,e157,e158,-⟩:=F4
   obtain⟨-,e161,e162,e163,e164,-⟩:=F5
   simp only[AA,AD,zC,zR,AN,AM,and_false,or_false,zL] at*
   intro h
   have he:=herr h
   have hP:=cr3_0
   rw[j8 he] at hP
   refine⟨by rw[hP];exact gU he,?_⟩
   cases h158:(B T2 158) with
   |true=>
    have t0:(B T2 161)=false∧B T2 162=false∧B T2 163=false∧B T2 164=false:=by clear inv hleg hc3_0 hc3_2 z1 z2 z3 cr3_0 h84 h96 h99 herr hBA h138 hP he;grind
    rw[t0.1,t0.2.1,t0.2.2.1,t0.2.2.2]
    exact oC _ _ _ _ _ _ _ _
   |false=>
    have t0:(B T2 161)=B T2 76∧B T2 162=B T2 77∧B T2 163=B T2 78∧B T2 164=B T2 79:=by clear inv hleg hc3_0 hc3_2 z1 z2 z3 cr3_0 h84 h96 h99 herr hBA h138 hP he;grind
    rw[t0.1,t0.2.1,t0.2.2.1,t0.2.2.2]
    have hb:(I T2 113)=I T2 53∧0≤I T2 113∧I T2 113≤3∧I T2 153=I T2 156:=by clear inv hleg hc3_0 hc3_2 z1 z2 z3 cr3_0 h84 h96 h99 herr hBA h138 hP he t0;grind
    have ht:=(hleg (h96 h).1).2
    rw[←hBA.2] at ht
    refine nr he hP ht ?_ ⟨hb.2.1,hb.2.2.1⟩ ?_
    ·rw[z3];exact hb.1
    ·rw[z3]
     show AS (I T2 113) (I T2 115) (I T2 116) (I T2 117) (I T2 118)=AS (I T2 113) (I T2 55) (I T2 56) (I T2 57) (I T2 58)
     unfold AS
     clear inv hleg hc3_0 hc3_2 z1 z2 z3 cr3_0 h84 h96 h99 herr hBA h138 hP he t0 ht h158
     grind (splits:=60)
  have h174:(B T2 96)=true→B T2 174=false∧((B T2 165)=true→AY (I T2 114) (B T2 161) (B T2 162) (B T2 163) (B T2 164)=false∧0≤I T2 114∧I T2 114≤3):=by
   obtain⟨-,-,-,-,-,e165,e166,e167,-,e169,e170,-,e172,e173,e174,-⟩:=F5
   simp only[AA,AD,zR,AN,AM,and_false,or_false] at*
   intro h
   obtain⟨hl,ht⟩:=hN h
   have hw:=(nk hl ht).1
   clear inv hleg hc3_0 hc3_2 z1 z2 z3 cr3_0 h84 h96 h99 herr hBA h138 hN ht hl
   have hz:(B T2 165)=true→AY (I T2 114) (B T2 161) (B T2 162) (B T2 163) (B T2 164)=false∧0≤I T2 114∧I T2 114≤3:=fun h5=>⟨(hw (e165.1 h5)).2.1,(hw (e165.1 h5)).1⟩
   clear hw
   refine⟨?_,hz⟩
   unfold AY at hz
   grind (splits:=40)
  have hres:(B T2 189)=true→B T2 96=true:=by
   obtain⟨-,-,-,-,-,-,-,-,-,-,-,e139,-⟩:=F3
   obtain⟨-,-,-,-,-,-,e166,-,-,-,-,-,-,-,-,e175,-⟩:=F5
   obtain⟨-,-,-,-,-,-,-,-,e184,-,-,-,-,e189,-⟩:=F6
   simp only[AA,AD,zN,zR] at*
   clear inv hleg hc3_0 hc3_2 z1 z2 z3 cr3_0 h84 h96 h99 herr hBA h138 hN h174
   grind
  have hlt:(B T2 82)=true→I T2 49 < ((L T 3)).length:=by
   obtain⟨e80,e81,e82,-⟩:=F0
   simp only[AA,AD,zR,zL] at e80 e81 e82
   clear inv hleg hc3_0 hc3_2 z1 z2 z3 cr3_0 h84 h96 h99 herr hBA h138 hN h174 hres
   grind
  suffices hz:(B T2 175=true→0≤I T2 114∧I T2 114 < 4)∧(B T2 171=true→0≤I T2 114∧I T2 114 < 4)∧(B T2 155=true→0≤I T2 113∧I T2 113 < 4)∧(B T2 152=true→0≤I T2 113∧I T2 113 < 4)∧(B T2 105=true→0≤I T2 49∧I T2 49 < ((L T2 3)).length)∧(B T2 96=true→0≤I T2 99∧I T2 99 < ((L T2 84)).length)∧(B T2 96=true→¬I T2 98=0)∧(B T2 96=true→0≤I T2 49∧I T2 49 < ((L T2 3)).length)∧(B T2 189=true→(0≤I T2 202∧I T2 202≤((L T 3)).length∧((B T 48)=true→AR (gT T2 110)=true∧tk1 (gT T2 110) (B T2 185) (B T2 186) (B T2 187) (B T2 188))))∧(B T2 189=true→(((L T 3)).length - (I T2 202)).toNat < (((L T 3)).length - (I T2 49)).toNat) from
   let⟨r0,r1,r2,r3,r4,r5,r6,r7,nx,mz⟩:=hz;⟨⟨r0,r1,r2,r3,r4,r5,r6,r7,trivial⟩,fun hp=>⟨nx hp,mz hp⟩⟩
  refine⟨?_,?_,?_,?_,?_,?_,?_,?_,?_,?_⟩
  ·obtain⟨-,-,-,-,-,-,-,-,-,-,-,e139,e140,-,e142,e143,-⟩:=F3
   obtain⟨-,e145,e146,-,-,e149,e150,-,e152,-,-,e155,-⟩:=F4
   obtain⟨-,-,-,-,-,e165,e166,e167,-,e169,e170,e171,-,e173,-,e175,-⟩:=F5
   simp only[AA,AD,zN,zR] at*
   clear inv hleg hc3_0 z1 z2 z3 cr3_0 h84 h96 h99 herr hBA h138 hN h174 hres hlt
   grind
  ·obtain⟨-,-,-,-,-,-,-,-,-,-,-,e139,e140,-,e142,e143,-⟩:=F3
   obtain⟨-,e145,e146,-,-,e149,e150,-,e152,-,-,e155,-⟩:=F4
   obtain⟨-,-,-,-,-,e165,e166,e167,-,e169,e170,e171,-,e173,-,e175,-⟩:=F5
   simp only[AA,AD,zN,zR] at*
   clear inv hleg hc3_0 z1 z2 z3 cr3_0 h84 h96 h99 herr hBA h138 hN h174 hres hlt
   grind
  ·obtain⟨-,-,-,-,-,-,-,-,-,-,-,e139,e140,-,e142,e143,-⟩:=F3
   obtain⟨-,e145,e146,-,-,e149,e150,-,e152,-,-,e155,-⟩:=F4
   obtain⟨-,-,-,-,-,e165,e166,e167,-,e169,e170,e171,-,e173,-,e175,-⟩:=F5
   simp only[AA,AD,zN,zR] at*
   clear inv hleg hc3_0 z1 z2 z3 cr3_0 h84 h96 h99 herr hBA h138 hN h174 hres hlt
   grind
  ·obtain⟨-,-,-,-,-,-,-,-,-,-,-,e139,e140,-,e142,e143,-⟩:=F3
   obtain⟨-,e145,e146,-,-,e149,e150,-,e152,-,-,e155,-⟩:=F4
   obtain⟨-,-,-,-,-,e165,e166,e167,-,e169,e170,e171,-,e173,-,e175,-⟩:=F5
   simp only[AA,AD,zN,zR] at*
   clear inv hleg hc3_0 z1 z2 z3 cr3_0 h84 h96 h99 herr hBA h138 hN h174 hres hlt
   grind
  ·obtain⟨e96,-,-,-,-,-,-,-,-,e105,-⟩:=F1
   simp only[AA,AD,zN,zR] at e96 e105
   intro h
   obtain⟨v1,v2,v3⟩:=inv
   have h6:(B T2 96)=true:=by clear v3 hleg hc3_0 z1 z2 z3 cr3_0 h84 h96 h99 herr hBA h138 hN h174 hres hlt;grind
   have hl:=hlt (h96 h6).1
   rw[fv3];omega
  ·intro h
   have a:=h96 h
   have b:=h99 h
   omega
  ·intro h
   have a:=h96 h
   omega
  ·intro h
   obtain⟨v1,v2,v3⟩:=inv
   have hl:=hlt (h96 h).1
   rw[fv3];omega
  ·obtain⟨-,-,-,-,-,e165,-⟩:=F5
   obtain⟨e176,e177,e178,e179,e180,e181,e182,e183,-,e185,e186,e187,e188,-⟩:=F6
   obtain⟨-,-,-,-,-,-,-,-,-,-,e202,-⟩:=F7
   simp only[AA,AD,zC,zR,w2P,zL] at*
   intro hp
   obtain⟨v1,v2,v3⟩:=inv
   have h96b:=hres hp
   have hl:=hlt (h96 h96b).1
   have e:(I T2 202)=I T2 49+1:=e202 (by omega) (by omega)
   obtain⟨n1,n2⟩:=hN h96b
   have n3:=nk n1 n2
   refine⟨by omega,by omega,fun _=>⟨n1,?_⟩⟩
   cases h165:(B T2 165) with
   |true=>
    have n4:=(n3.1 (e165.1 h165)).2.2
    have t0:(B T2 185)=((B T2 161)||decide ((I T2 114)=0))∧B T2 186=((B T2 162)||decide ((I T2 114)=1))∧B T2 187=((B T2 163)||decide ((I T2 114)=2))∧B T2 188=((B T2 164)||decide ((I T2 114)=3)):=by
     clear v3 hleg hc3_0 z1 z2 z3 cr3_0 h84 h96 h99 herr hBA h138 hN h174 hres hlt n1 n2 n3 n4
     refine⟨?_,?_,?_,?_⟩<;>(refine AU ?_;simp only[Bool.or_eq_true,decide_eq_true_eq];grind)
    rw[t0.1,t0.2.1,t0.2.2.1,t0.2.2.2]
    exact n4
   |false=>
    have t0:(B T2 185)=B T2 161∧B T2 186=B T2 162∧B T2 187=B T2 163∧B T2 188=B T2 164:=by
     clear v3 hleg hc3_0 z1 z2 z3 cr3_0 h84 h96 h99 herr hBA h138 hN h174 hres hlt n1 n2 n3
     grind
    rw[t0.1,t0.2.1,t0.2.2.1,t0.2.2.2]
    exact n3.2
  ·obtain⟨-,-,-,-,-,-,-,-,-,-,e202,-⟩:=F7
   simp only[AA,zR,w2P] at e202
   intro hp
   obtain⟨v1,v2,v3⟩:=inv
   have hl:=hlt (h96 (hres hp)).1
   have e:(I T2 202)=I T2 49+1:=e202 (by omega) (by omega)
   omega
theorem pQ {T:Tab}(lo0:0≤I T 0)(hi0:I T 0≤255)(lo1:0≤I T 1)(hi1:I T 1≤255)(lo2:0≤I T 2)(hi2:I T 2≤255)(hl3:(L T 3).length≤140737488355328)(hc3_0:∀q:Nat,q < (L T 3).length→0≤At (L T 3) q 0∧At (L T 3) q 0≤255)(hc3_2:∀q:Nat,q < (L T 3).length→0≤At (L T 3) q 2∧At (L T 3) q 2≤65535)(hb3:(L T 3).length≤1048576)(hok:mj (I T 8) (I T 17) (I T 18)=true)(hleg0:AR (gT T 19)=true)(h47:(B T 47)=false)(inv0:0≤I T 49∧I T 49≤((L T 3)).length∧((B T 48)=true→AR (gT T 50)=true∧tk1 (gT T 50) (B T 76) (B T 77) (B T 78) (B T 79)))(np0:¬B T 189=true)(g4:Gm)(z4:g4=gT T 50)(g5:Gm)(z5:g5=gT T 50)(g6:Gm)(z6:g6=gT T 50)(A0:AK T mu)(B0:AK T mn)(A1:AK T ng):
  ((B T 238)=(true)):=by
 obtain⟨F0,A0⟩:=A0.cut
 obtain⟨F1,A0⟩:=A0.cut
 have F2:=A0;clear A0
 obtain⟨F3,B0⟩:=B0.cut
 obtain⟨F4,B0⟩:=B0.cut
 obtain⟨F5,B0⟩:=B0.cut
 obtain⟨F6,B0⟩:=B0.cut
 obtain⟨F7,B0⟩:=B0.cut
 obtain⟨F8,B0⟩:=B0.cut
 obtain⟨F9,B0⟩:=B0.cut
 have F10:=B0;clear B0
 obtain⟨F11,A1⟩:=A1.cut
 obtain⟨F12,A1⟩:=A1.cut
 have F13:=A1;clear A1
 have cr6_0:gT T 110=D2 g6 (I T 100) (I T 101) (B T 102) (L T 109):=by
  obtain⟨-,-,-,-,-,-,-,-,-,-,-,-,-,-,e110,e111,-⟩:=F4
  obtain⟨e112,e113,e114,e115,e116,e117,e118,e119,e120,e121,e122,e123,e124,e125,e126,e127,-⟩:=F5
  obtain⟨e128,e129,e130,e131,e132,e133,e134,e135,-⟩:=F6
  rw[←show gAt 0 (mi.map (Rf.eval T))=g6 from z6.symm]
  exact Bk e110 e111 e112 e113 e114 e115 e116 e117 e118 e119 e120 e121 e122 e123 e124 e125 e126 e127 e128 e129 e130 e131 e132 e133 e134 e135
 have hleg:(B T 82)=true→AR g4=true∧tk1 g4 (B T 76) (B T 77) (B T 78) (B T 79):=by
  obtain⟨-,e81,e82,-⟩:=F3
  simp only[AA,AD,zR] at e81 e82
  intro h
  obtain⟨v1,v2,v3⟩:=inv0
  have h48:(B T 48)=true:=by clear v3 hc3_0 hc3_2 z4 z5 z6 cr6_0;grind
  rw[z4];exact v3 h48
 have hBA:g5=g4∧g6=g4:=by
  rw[z4,z5,z6];exact⟨rfl,rfl⟩
 have h84:(B T 82)=true→L T 84=C2 g4∧I T 85=0:=by
  obtain⟨e4,e5,-,e7,e8,e9,e10,e11,-,e13,e14,-,-,e17,e18,-⟩:=F0
  obtain⟨-,-,-,-,-,-,-,-,-,e45,e46,-,e48,-⟩:=F2
  obtain⟨e80,e81,e82,-,e84,e85,-⟩:=F3
  replace e45:I T 45=(mm (I T 8) (I T 17) (I T 18)):=e45
  replace e84:L T 84=((if AR g4=true then C2 g4 else [])):=by rw[←show gAt 0 (mq.map (Rf.eval T))=g4 from z4.symm];exact e84
  replace e85:I T 85=((if AR g4=true then 0 else 2)):=by rw[←show gAt 0 (mq.map (Rf.eval T))=g4 from z4.symm];exact e85
  simp only[AA,AD,zN,zR,Af,zL] at*
  intro h
  rw[e84,e85,if_pos (hleg h).1,if_pos (hleg h).1];exact⟨rfl,rfl⟩
 have h96:(B T 96)=true→B T 82=true∧I T 98=((L T 84)).length∧0 < I T 98:=by
  obtain⟨-,-,-,-,-,-,-,-,e88,e89,e90,-⟩:=F3
  obtain⟨e96,-,e98,-⟩:=F4
  simp only[AA,AD,zN,zR,zL] at*
  clear inv0 hleg hc3_0 hc3_2 z4 z5 z6 cr6_0 np0
  grind
 have h99:(B T 96)=true→0≤I T 99∧I T 99 < I T 98:=by
  obtain⟨e80,e81,e82,-⟩:=F3
  obtain⟨e96,e97,-,e99,-⟩:=F4
  simp only[AA,AD,zN,zR,Af,zL] at*
  intro h
  obtain⟨v1,v2,v3⟩:=inv0
  have h2:=h96 h
  have hlt:(I T 49) < ((L T 3)).length:=by clear v3 hc3_0 hc3_2 z4 z5 z6 cr6_0 hleg h84 h96;grind
  have h3:=hc3_0 (I T 49).toNat (by omega)
  rw[←e97] at h3
  rw[e99,if_pos h3.1]
  exact⟨Int.emod_nonneg _ (by omega),Int.emod_lt_of_pos _ h2.2.2⟩
 have herr:(B T 96)=true→B9 g6 (I T 100) (I T 101) (B T 102) (L T 109)=0:=by
  obtain⟨-,-,-,-,e100,e101,e102,e103,e104,-,-,e107,-,e109,-⟩:=F4
  replace e107:L T 107=(nU g5 (L T 106)):=by rw[←show gAt 0 (ni.map (Rf.eval T))=g5 from z5.symm];exact e107
  simp only[AA,AD,zR,zL] at*
  intro h
  obtain⟨h82,h98,h0⟩:=h96 h
  obtain⟨h9a,h9b⟩:=h99 h
  have hm:=(h84 h82).1
  have hl:=(hleg h82).1
  rw[hm] at e100 e101 e102 e103
  rw[nd] at e103
  rw[hBA.2,e100,e101,e102]
  refine np hl (by rw[←hm];omega) (fun h2=>?_) (fun h2=>?_)
  ·rw[←e100] at h2
   have h104:(B T 104)=true:=e104.2 h2
   rw[if_pos h104] at e109
   rw[e109,e107,hBA.1]
   exact⟨nj.2,nj.1⟩
  ·rw[←e100] at h2
   have h104:(B T 104)=false:=by cases hx:(B T 104) with|true=>exact absurd (e104.1 hx) h2|false=>rfl
   rw[if_neg (by rw[h104];decide)] at e109
   rw[e109,e103]
 have h138:(B T 96)=true→I T 136=0∧B T 138=false∧B T 139=true:=by
  obtain⟨-,-,-,-,-,-,-,-,e136,e137,e138,e139,-⟩:=F6
  replace e136:I T 136=(B9 g6 (I T 100) (I T 101) (B T 102) (L T 109)):=by rw[←show gAt 0 (mi.map (Rf.eval T))=g6 from z6.symm];exact e136
  simp only[AA,AD,zN,zR] at e137 e138 e139
  intro h
  have h0:=herr h
  rw[h0] at e136
  clear inv0 hleg hc3_0 hc3_2 z4 z5 z6 cr6_0 h84 h96 h99 herr hBA h0
  grind
 have hN:(B T 96)=true→AR (gT T 110)=true∧tk2 (B T 123) (B T 124) (B T 125) (B T 126) (B T 119) (B T 120) (B T 121) (B T 122) (B T 161) (B T 162) (B T 163) (B T 164):=by
  obtain⟨-,-,-,-,-,-,-,-,-,-,-,-,e140,-,e142,e143,-⟩:=F6
  obtain⟨-,e145,e146,-,-,e149,e150,-,-,e153,-,-,e156,e157,e158,-⟩:=F7
  obtain⟨-,e161,e162,e163,e164,-⟩:=F8
  simp only[AA,AD,zC,zR,AN,AM,and_false,or_false,zL] at*
  intro h
  have he:=herr h
  have hP:=cr6_0
  rw[j8 he] at hP
  refine⟨by rw[hP];exact gU he,?_⟩
  cases h158:(B T 158) with
  |true=>
   have t0:(B T 161)=false∧B T 162=false∧B T 163=false∧B T 164=false:=by clear inv0 hleg hc3_0 hc3_2 z4 z5 z6 cr6_0 h84 h96 h99 herr hBA h138 hP he;grind
   rw[t0.1,t0.2.1,t0.2.2.1,t0.2.2.2]
   exact oC _ _ _ _ _ _ _ _
  |false=>
   have t0:(B T 161)=B T 76∧B T 162=B T 77∧B T 163=B T 78∧B T 164=B T 79:=by clear inv0 hleg hc3_0 hc3_2 z4 z5 z6 cr6_0 h84 h96 h99 herr hBA h138 hP he;grind
   rw[t0.1,t0.2.1,t0.2.2.1,t0.2.2.2]
   have hb:(I T 113)=I T 53∧0≤I T 113∧I T 113≤3∧I T 153=I T 156:=by clear inv0 hleg hc3_0 hc3_2 z4 z5 z6 cr6_0 h84 h96 h99 herr hBA h138 hP he t0;grind
   have ht:=(hleg (h96 h).1).2
   rw[←hBA.2] at ht
   refine nr he hP ht ?_ ⟨hb.2.1,hb.2.2.1⟩ ?_
   ·rw[z6];exact hb.1
   ·rw[z6]
    show AS (I T 113) (I T 115) (I T 116) (I T 117) (I T 118)=AS (I T 113) (I T 55) (I T 56) (I T 57) (I T 58)
    unfold AS
    clear inv0 hleg hc3_0 hc3_2 z4 z5 z6 cr6_0 h84 h96 h99 herr hBA h138 hP he t0 ht h158
    grind (splits:=60)
 have h174:(B T 96)=true→B T 174=false∧((B T 165)=true→AY (I T 114) (B T 161) (B T 162) (B T 163) (B T 164)=false∧0≤I T 114∧I T 114≤3):=by
  obtain⟨-,-,-,-,-,e165,e166,e167,-,e169,e170,-,e172,e173,e174,-⟩:=F8
  simp only[AA,AD,zR,AN,AM,and_false,or_false] at*
  intro h
  obtain⟨hl,ht⟩:=hN h
  have hw:=(nk hl ht).1
  clear inv0 hleg hc3_0 hc3_2 z4 z5 z6 cr6_0 h84 h96 h99 herr hBA h138 hN ht hl
  have hz:(B T 165)=true→AY (I T 114) (B T 161) (B T 162) (B T 163) (B T 164)=false∧0≤I T 114∧I T 114≤3:=fun h5=>⟨(hw (e165.1 h5)).2.1,(hw (e165.1 h5)).1⟩
  clear hw
  refine⟨?_,hz⟩
  unfold AY at hz
  grind (splits:=40)
 have h201:(B T 201)=true→B T 199=true:=by
  obtain⟨-,-,e82,-,-,-,-,-,-,-,e90,e91,e92,-,e94,e95,-⟩:=F3
  obtain⟨e96,-⟩:=F4
  obtain⟨-,-,-,-,-,-,-,-,-,-,e138,e139,-⟩:=F6
  obtain⟨-,-,-,-,-,e165,e166,-,-,-,-,-,-,e173,e174,-⟩:=F8
  obtain⟨-,-,e194,-,-,-,-,e199,-,e201,-⟩:=F10
  replace e94:B T 94=(true):=e94
  simp only[AA,AD,zN,zC,zR,zL] at*
  have a1:(B T 96)=true→B T 138=false∧B T 174=false:=fun h=>⟨(h138 h).2.1,(h174 h).1⟩
  have a2:(B T 82)=true→I T 85=0:=fun h=>(h84 h).2
  clear inv0 hleg hc3_0 hc3_2 z4 z5 z6 cr6_0 h84 h96 h99 herr hBA h138 hN h174
  grind
 clear inv0 hleg hc3_0 hc3_2 z4 z5 z6 cr6_0 h84 h96 h99 herr hBA h138 hN h174 hleg0
 ·obtain⟨-,-,e6,-⟩:=F0
  obtain⟨e203,-,-,-,-,e208,-⟩:=F11
  obtain⟨-,e236,-,e238,-⟩:=F13
  replace e6:B T 6=(true):=e6
  replace e203:B T 203=(true):=e203
  simp only[AA,AD,zC,zR,zL] at e208 e236 e238
  grind
theorem o4:JQ Try.prog 9 Try.f6.params.toList 0=some (oG,nM):=by kernel_rfl
theorem o8:∀p∈([(17,nf),(18,mx),(19,nL),(12,LU),(11,M8)]:List (FuncId × Bc)),CA Try.prog p.1 p.2:=by simp only[List.forall_mem_cons];exact⟨pS,pF,pU,ip,jS,fun _ h=>absurd h (by simp)⟩
theorem pM:∀T:Tab,Ay T (EE 0 nM)→Bnd T 0 nM→Y5 1048576 T 0 nM→CJ T ((mu++((Ek mr [.i,.i,.i,.i,.i,.i,.i,.i,.i,.i,.b,.b,.b,.b,.b,.b,.b,.b,.i,.i,.b,.b,.b,.i,.i,.i,.i,.b,.b,.b,.b] nB)++(mn++(ng)))).map En.be)→Sp T oc∧B T 238=true:=by
 intro T hS hBd hBl hE
 obtain⟨⟨lo0,hi0⟩,⟨lo1,hi1⟩,⟨lo2,hi2⟩,⟨hl3,he3⟩,-⟩:=hBd
 replace lo0:0≤I T 0:=lo0
 replace hi0:I T 0≤255:=hi0
 replace lo1:0≤I T 1:=lo1
 replace hi1:I T 1≤255:=hi1
 replace lo2:0≤I T 2:=lo2
 replace hi2:I T 2≤255:=hi2
 replace hl3:(L T 3).length≤140737488355328:=hl3
 have hc3_0:∀q:Nat,q < (L T 3).length→0≤At (L T 3) q 0∧At (L T 3) q 0≤255:=fun q hq=>od he3 hq rfl
 have hc3_2:∀q:Nat,q < (L T 3).length→0≤At (L T 3) q 2∧At (L T 3) q 2≤65535:=fun q hq=>od he3 hq rfl
 obtain⟨hb3,-⟩:=hBl
 replace hb3:(L T 3).length≤1048576:=hb3
 rw[List.map_append,List.map_append,List.map_append] at hE
 have hA:=hE.left
 replace hE:=hE.right
 have hH:=hE.left
 replace hE:=hE.right
 have hB:=hE.left
 replace hE:=hE.right
 obtain⟨A0,hS1⟩:=Cp hS (by kernel_rfl) hA
 obtain⟨hok,hleg0,h47⟩:=oq lo0 hi0 lo1 hi1 lo2 hi2 hl3 hc3_0 hc3_2 hb3 A0
 obtain⟨ow0,hS2,inv0,np0⟩:=o9 hl3 hc3_0 hc3_2 hleg0 hS1 hB hH
 have hF2:=(Cp (hS2.append hS1) (l:=mn) (by kernel_rfl) hB)
 obtain⟨B0,hS⟩:=hF2
 clear hA hB hH hS1 hS2
 obtain⟨g4,z4⟩:∃g:Gm,g=gT T 50:=⟨_,rfl⟩
 obtain⟨g5,z5⟩:∃g:Gm,g=gT T 50:=⟨_,rfl⟩
 obtain⟨g6,z6⟩:∃g:Gm,g=gT T 50:=⟨_,rfl⟩
 obtain⟨A1,hO⟩:=CK (tys:=[.b]) (rs:=pR) hS (by kernel_rfl) hE
 have q0:=pQ lo0 hi0 lo1 hi1 lo2 hi2 hl3 hc3_0 hc3_2 hb3 hok hleg0 h47 inv0 np0 g4 z4 g5 z5 g6 z6 A0 B0 A1
 exact⟨⟨(fun _=>ow0),trivial⟩,q0⟩
end Go.Eng
end
