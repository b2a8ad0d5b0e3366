/-
  A part of the proof: K_rlegald K_rlegal.
-/
import Derived.Test.YtcinpabggaepfaaE3
import Derived.Test.YtcinpabggaepfaaE4
import Derived.Test.YtcinpabggaepfaaKlaws
import Derived.Test.YtcinpabggaepfaaKnumbers
set_option linter.unusedVariables false
set_option linter.unusedSimpArgs false
noncomputable section
open Go Go.Eng Go.Proofs
set_option maxHeartbeats 4000000
set_option maxRecDepth 100000
namespace Go.Eng
def Ik:List U→Bool:=fun us=>(AR (gAt 0 us))
def Hw:Bc:={ sh:=[.agg [k64,k64,k64,k64,k64,k64,k64,k64,k64,.bool,.bool,.bool,.bool,.bool,.bool,.bool,.bool,k64,k64,.bool,.bool,.bool,k64,k64,k64,k64]],blks:=[],outs:=[(.s "rlegal.0",AQ Ik)],c:= .b 26,m':=[],pre:=[] }
def L1:List Rf:=[.e 0,.e 1,.e 2,.e 3,.e 4,.e 5,.e 6,.e 7,.e 8,.e 9,.e 10,.e 11,.e 12,.e 13,.e 14,.e 15,.e 16,.e 17,.e 18,.e 19,.e 20,.e 21,.e 22,.e 23,.e 24,.e 25]
def XH:List En:=[⟨26,.outB "numbers.0" JG,L1⟩,
 ⟨27,.not,[.e 26]⟩,
 ⟨28,.outI "laws.0" El,[.e 0]⟩,
 ⟨29,.outI "laws.1" EV,[.e 0]⟩,
 ⟨30,.outI "laws.2" Ef,[.e 0]⟩,
 ⟨31,.outB "laws.3" EZ,[.e 0]⟩,
 ⟨32,.outB "laws.4" Ed,[.e 0]⟩,
 ⟨33,.outB "laws.5" Eb,[.e 0]⟩,
 ⟨34,.o2 .min,[.e 22,.c (.int 4)]⟩,
 ⟨35,.and,[.e 26,.n 9]⟩,
 ⟨36,.eq,[.e 5,.c (.int 13)]⟩,
 ⟨37,.or,[.e 9,.e 36]⟩,
 ⟨38,.and,[.e 26,.e 37]⟩,
 ⟨39,.and,[.e 26,.n 37]⟩,
 ⟨40,.ite .i,[.e 37,.c (.int 1),.c (.int 0)]⟩,
 ⟨41,.and,[.e 26,.n 11]⟩]
def Ya:List En:=[⟨42,.eq,[.e 7,.c (.int 13)]⟩,
 ⟨43,.or,[.e 11,.e 42]⟩,
 ⟨44,.and,[.e 26,.e 43]⟩,
 ⟨45,.o2 .add,[.e 40,.c (.int 1)]⟩,
 ⟨46,.and,[.e 26,.n 43]⟩,
 ⟨47,.ite .i,[.e 43,.e 45,.e 40]⟩,
 ⟨48,.o2 .add,[.e 34,.c (.int 1)]⟩,
 ⟨49,.o2 .tdiv,[.e 48,.c (.int 2)]⟩,
 ⟨50,.ne,[.e 47,.e 49]⟩,
 ⟨51,.and,[.e 26,.n 50]⟩,
 ⟨52,.and,[.e 51,.n 10]⟩,
 ⟨53,.eq,[.e 6,.c (.int 13)]⟩,
 ⟨54,.or,[.e 10,.e 53]⟩,
 ⟨55,.and,[.e 51,.e 54]⟩,
 ⟨56,.and,[.e 51,.n 54]⟩,
 ⟨57,.ite .i,[.e 54,.c (.int 1),.c (.int 0)]⟩]
def YU:List En:=[⟨58,.and,[.e 51,.n 12]⟩,
 ⟨59,.eq,[.e 8,.c (.int 13)]⟩,
 ⟨60,.or,[.e 12,.e 59]⟩,
 ⟨61,.and,[.e 51,.e 60]⟩,
 ⟨62,.o2 .add,[.e 57,.c (.int 1)]⟩,
 ⟨63,.and,[.e 51,.n 60]⟩,
 ⟨64,.ite .i,[.e 60,.e 62,.e 57]⟩,
 ⟨65,.o2 .tdiv,[.e 34,.c (.int 2)]⟩,
 ⟨66,.ne,[.e 64,.e 65]⟩,
 ⟨67,.or,[.e 50,.e 66]⟩,
 ⟨68,.and,[.e 26,.e 67]⟩,
 ⟨69,.and,[.e 26,.n 67]⟩,
 ⟨70,.eq,[.e 5,.c (.int 13)]⟩,
 ⟨71,.and,[.e 69,.e 70]⟩,
 ⟨72,.eq,[.e 7,.c (.int 13)]⟩,
 ⟨73,.and,[.e 70,.e 72]⟩]
def Xv:List En:=[⟨74,.and,[.e 69,.e 73]⟩,
 ⟨75,.eq,[.e 6,.c (.int 13)]⟩,
 ⟨76,.and,[.e 74,.e 75]⟩,
 ⟨77,.eq,[.e 8,.c (.int 13)]⟩,
 ⟨78,.and,[.e 75,.e 77]⟩,
 ⟨79,.and,[.e 73,.e 78]⟩,
 ⟨80,.and,[.e 69,.e 79]⟩,
 ⟨81,.and,[.e 69,.n 79]⟩,
 ⟨82,.eq,[.e 5,.c (.int 13)]⟩,
 ⟨83,.and,[.e 81,.e 82]⟩,
 ⟨84,.eq,[.e 7,.c (.int 13)]⟩,
 ⟨85,.and,[.e 82,.e 84]⟩,
 ⟨86,.and,[.e 81,.n 85]⟩,
 ⟨87,.eq,[.e 6,.c (.int 13)]⟩,
 ⟨88,.and,[.e 86,.e 87]⟩,
 ⟨89,.eq,[.e 8,.c (.int 13)]⟩]
def Yy:List En:=[⟨90,.and,[.e 87,.e 89]⟩,
 ⟨91,.or,[.e 85,.e 90]⟩,
 ⟨92,.and,[.e 81,.e 91]⟩,
 ⟨93,.ne,[.e 1,.c (.int 4)]⟩,
 ⟨94,.and,[.e 92,.n 93]⟩,
 ⟨95,.lt,[.e 25,.c (.int 0)]⟩,
 ⟨96,.or,[.e 93,.e 95]⟩,
 ⟨97,.and,[.e 92,.n 96]⟩,
 ⟨98,.lt,[.c (.int 1),.e 25]⟩,
 ⟨99,.or,[.e 96,.e 98]⟩,
 ⟨100,.and,[.e 92,.n 99]⟩,
 ⟨101,.pick .i,[.e 25,.e 5,.e 6,.e 7,.e 8]⟩,
 ⟨102,.eq,[.e 101,.c (.int 13)]⟩,
 ⟨103,.and,[.e 100,.e 102]⟩,
 ⟨104,.w2 .i64 .add,[.e 25,.c (.int 2)]⟩,
 ⟨105,.pick .i,[.e 104,.e 5,.e 6,.e 7,.e 8]⟩]
def WE:List En:=[⟨106,.eq,[.e 105,.c (.int 13)]⟩,
 ⟨107,.and,[.e 102,.e 106]⟩,
 ⟨108,.or,[.e 99,.n 107]⟩,
 ⟨109,.and,[.e 92,.e 108]⟩,
 ⟨110,.and,[.e 92,.n 108]⟩,
 ⟨111,.and,[.e 81,.n 91]⟩,
 ⟨112,.eq,[.e 1,.c (.int 4)]⟩,
 ⟨113,.and,[.e 111,.n 112]⟩,
 ⟨114,.ne,[.e 25,.c (.int (-1))]⟩,
 ⟨115,.or,[.e 112,.e 114]⟩,
 ⟨116,.and,[.e 111,.e 115]⟩,
 ⟨117,.and,[.e 111,.n 115]⟩,
 ⟨118,.or,[.e 109,.e 116]⟩,
 ⟨119,.or,[.e 110,.e 117]⟩,
 ⟨120,.and,[.e 119,.e 32]⟩,
 ⟨121,.lt,[.e 22,.c (.int 4)]⟩]
def WM:List En:=[⟨122,.or,[.n 32,.e 121]⟩,
 ⟨123,.and,[.e 119,.e 122]⟩,
 ⟨124,.eq,[.e 1,.c (.int 1)]⟩,
 ⟨125,.and,[.e 123,.n 124]⟩,
 ⟨126,.eq,[.e 1,.c (.int 2)]⟩,
 ⟨127,.or,[.e 124,.e 126]⟩,
 ⟨128,.and,[.e 123,.n 127]⟩,
 ⟨129,.eq,[.e 1,.c (.int 3)]⟩,
 ⟨130,.or,[.e 127,.e 129]⟩,
 ⟨131,.and,[.e 123,.e 130]⟩,
 ⟨132,.w2 .i64 .add,[.e 22,.c (.int 1)]⟩,
 ⟨133,.o2 .tmod,[.e 132,.c (.int 2)]⟩,
 ⟨134,.ne,[.e 2,.e 133]⟩,
 ⟨135,.and,[.e 130,.e 134]⟩,
 ⟨136,.and,[.e 123,.n 135]⟩,
 ⟨137,.eq,[.e 1,.c (.int 0)]⟩]
def Wn:List En:=[⟨138,.and,[.e 136,.e 137]⟩,
 ⟨139,.o2 .tmod,[.e 22,.c (.int 2)]⟩,
 ⟨140,.ne,[.e 2,.e 139]⟩,
 ⟨141,.and,[.e 137,.e 140]⟩,
 ⟨142,.or,[.e 135,.e 141]⟩,
 ⟨143,.and,[.e 123,.e 142]⟩,
 ⟨144,.and,[.e 123,.n 142]⟩,
 ⟨145,.and,[.e 119,.n 122]⟩,
 ⟨146,.or,[.e 144,.e 145]⟩,
 ⟨147,.eq,[.e 1,.c (.int 1)]⟩,
 ⟨148,.and,[.e 146,.n 147]⟩,
 ⟨149,.eq,[.e 1,.c (.int 2)]⟩,
 ⟨150,.or,[.e 147,.e 149]⟩,
 ⟨151,.and,[.e 146,.n 150]⟩,
 ⟨152,.eq,[.e 1,.c (.int 3)]⟩,
 ⟨153,.or,[.e 150,.e 152]⟩]
def YY:List En:=[⟨154,.and,[.e 146,.e 153]⟩,
 ⟨155,.and,[.e 146,.n 153]⟩,
 ⟨156,.ne,[.e 3,.c (.int (-1))]⟩,
 ⟨157,.and,[.e 155,.n 156]⟩,
 ⟨158,.ne,[.e 4,.c (.int (-1))]⟩,
 ⟨159,.or,[.e 156,.e 158]⟩,
 ⟨160,.and,[.e 155,.n 159]⟩,
 ⟨161,.nes [.b,.b,.b,.b],[.e 13,.c (.bool false),.e 14,.c (.bool false),.e 15,.c (.bool false),.e 16,.c (.bool false)]⟩,
 ⟨162,.or,[.e 159,.e 161]⟩,
 ⟨163,.and,[.e 155,.n 162]⟩,
 ⟨164,.or,[.e 162,.e 21]⟩,
 ⟨165,.and,[.e 155,.n 164]⟩,
 ⟨166,.ne,[.e 23,.c (.int 0)]⟩,
 ⟨167,.or,[.e 164,.e 166]⟩,
 ⟨168,.and,[.e 155,.e 167]⟩,
 ⟨169,.and,[.e 155,.n 167]⟩]
def Xx:List En:=[⟨170,.eq,[.e 24,.c (.int (-1))]⟩,
 ⟨171,.and,[.e 169,.n 170]⟩,
 ⟨172,.eq,[.e 1,.c (.int 0)]⟩,
 ⟨173,.and,[.e 171,.e 172]⟩,
 ⟨174,.and,[.e 172,.e 32]⟩,
 ⟨175,.and,[.e 171,.e 174]⟩,
 ⟨176,.le,[.c (.int 4),.e 22]⟩,
 ⟨177,.and,[.e 174,.e 176]⟩,
 ⟨178,.and,[.e 171,.e 177]⟩,
 ⟨179,.le,[.c (.int 0),.e 24]⟩,
 ⟨180,.and,[.e 178,.e 179]⟩,
 ⟨181,.lt,[.e 24,.c (.int 4)]⟩,
 ⟨182,.and,[.e 179,.e 181]⟩,
 ⟨183,.and,[.e 178,.e 182]⟩,
 ⟨184,.pick .b,[.e 24,.e 9,.e 10,.e 11,.e 12]⟩,
 ⟨185,.and,[.e 182,.e 184]⟩]
def VW:List En:=[⟨186,.and,[.e 177,.e 185]⟩,
 ⟨187,.and,[.e 171,.e 186]⟩,
 ⟨188,.o2 .tmod,[.e 24,.c (.int 2)]⟩,
 ⟨189,.ne,[.e 188,.e 2]⟩,
 ⟨190,.and,[.e 186,.e 189]⟩,
 ⟨191,.or,[.e 170,.e 190]⟩,
 ⟨192,.ite .b,[.e 168,.c (.bool false),.e 191]⟩,
 ⟨193,.or,[.e 168,.e 169]⟩,
 ⟨194,.le,[.c (.int 0),.e 3]⟩,
 ⟨195,.and,[.e 154,.e 194]⟩,
 ⟨196,.lt,[.e 3,.c (.int 4)]⟩,
 ⟨197,.and,[.e 194,.e 196]⟩,
 ⟨198,.and,[.e 154,.e 197]⟩,
 ⟨199,.pick .b,[.e 3,.e 9,.e 10,.e 11,.e 12]⟩,
 ⟨200,.and,[.e 197,.e 199]⟩,
 ⟨201,.and,[.e 154,.e 200]⟩]
def Vm:List En:=[⟨202,.o2 .tmod,[.e 3,.c (.int 2)]⟩,
 ⟨203,.and,[.e 154,.e 200]⟩,
 ⟨204,.ne,[.e 202,.e 2]⟩,
 ⟨205,.or,[.n 200,.e 204]⟩,
 ⟨206,.and,[.e 154,.n 205]⟩,
 ⟨207,.and,[.e 154,.n 205]⟩,
 ⟨208,.pick .b,[.e 3,.e 13,.e 14,.e 15,.e 16]⟩,
 ⟨209,.or,[.e 205,.e 208]⟩,
 ⟨210,.and,[.e 154,.n 209]⟩,
 ⟨211,.lt,[.e 23,.c (.int 0)]⟩,
 ⟨212,.or,[.e 209,.e 211]⟩,
 ⟨213,.and,[.e 154,.n 212]⟩,
 ⟨214,.and,[.e 154,.n 212]⟩,
 ⟨215,.and,[.e 154,.n 212]⟩,
 ⟨216,.pick .i,[.e 3,.e 5,.e 6,.e 7,.e 8]⟩,
 ⟨217,.lt,[.e 216,.e 23]⟩]
def Vh:List En:=[⟨218,.or,[.e 212,.e 217]⟩,
 ⟨219,.and,[.e 154,.n 218]⟩,
 ⟨220,.ne,[.e 24,.c (.int (-1))]⟩,
 ⟨221,.or,[.e 218,.e 220]⟩,
 ⟨222,.and,[.e 154,.n 221]⟩,
 ⟨223,.and,[.e 222,.e 21]⟩,
 ⟨224,.and,[.e 21,.n 32]⟩,
 ⟨225,.or,[.e 221,.e 224]⟩,
 ⟨226,.and,[.e 154,.e 225]⟩,
 ⟨227,.and,[.e 154,.n 225]⟩,
 ⟨228,.eq,[.e 1,.c (.int 2)]⟩,
 ⟨229,.and,[.e 227,.e 228]⟩,
 ⟨230,.le,[.c (.int 0),.e 4]⟩,
 ⟨231,.and,[.e 229,.e 230]⟩,
 ⟨232,.lt,[.e 4,.c (.int 4)]⟩,
 ⟨233,.and,[.e 230,.e 232]⟩]
def VN:List En:=[⟨234,.and,[.e 229,.e 233]⟩,
 ⟨235,.pick .b,[.e 4,.e 9,.e 10,.e 11,.e 12]⟩,
 ⟨236,.and,[.e 233,.e 235]⟩,
 ⟨237,.and,[.e 229,.e 236]⟩,
 ⟨238,.ne,[.e 4,.e 3]⟩,
 ⟨239,.and,[.e 236,.e 238]⟩,
 ⟨240,.and,[.e 229,.e 239]⟩,
 ⟨241,.pick .b,[.e 4,.e 13,.e 14,.e 15,.e 16]⟩,
 ⟨242,.and,[.e 239,.n 241]⟩,
 ⟨243,.and,[.e 227,.n 228]⟩,
 ⟨244,.eq,[.e 4,.c (.int (-1))]⟩,
 ⟨245,.ite .b,[.e 229,.e 242,.e 244]⟩,
 ⟨246,.or,[.e 229,.e 243]⟩,
 ⟨247,.ite .b,[.e 226,.c (.bool false),.e 245]⟩,
 ⟨248,.or,[.e 226,.e 246]⟩,
 ⟨249,.ite .b,[.e 193,.e 192,.e 247]⟩]
def Ve:List En:=[⟨250,.or,[.e 193,.e 248]⟩,
 ⟨251,.ite .b,[.e 143,.c (.bool false),.e 249]⟩,
 ⟨252,.or,[.e 143,.e 250]⟩,
 ⟨253,.ite .b,[.e 118,.c (.bool false),.e 251]⟩,
 ⟨254,.or,[.e 118,.e 252]⟩,
 ⟨255,.ite .b,[.e 80,.c (.bool false),.e 253]⟩,
 ⟨256,.or,[.e 80,.e 254]⟩,
 ⟨257,.ite .b,[.e 68,.c (.bool false),.e 255]⟩,
 ⟨258,.or,[.e 68,.e 256]⟩,
 ⟨259,.ite .b,[.e 27,.c (.bool false),.e 257]⟩,
 ⟨260,.or,[.e 27,.e 258]⟩]
def Q0:List En:=XH++(Ya++(YU++(Xv++(Yy++(WE++(WM++(Wn++(YY++(Xx++(VW++(Vm++(Vh++(VN++(Ve))))))))))))))
def i6:List ObE:=[⟨some 240,.inr,[.e 4,.c (.int 4)]⟩,
 ⟨some 234,.inr,[.e 4,.c (.int 4)]⟩,
 ⟨some 215,.inr,[.e 3,.c (.int 4)]⟩,
 ⟨some 207,.inr,[.e 3,.c (.int 4)]⟩,
 ⟨some 198,.inr,[.e 3,.c (.int 4)]⟩,
 ⟨some 183,.inr,[.e 24,.c (.int 4)]⟩,
 ⟨some 103,.inr,[.e 104,.c (.int 4)]⟩,
 ⟨some 100,.inr,[.e 25,.c (.int 4)]⟩]
def Yx:List Rf:=[.e 259]
theorem gz:Hw.sees Yx (Hw.run Try.prog [(43,De),(55,JT)] Ba 3000 20 36)=some ((Q0).map En.be,i6.map ObE.be,[]):=by kernel_rfl
theorem gw {T:Tab}(g:Gm)(hg:g=gT T 0)(g1:Gm)(z1:g1=gT T 0)(A0:AK T Q0):
  ((B T 259)=(AR g))∧
  (B T 240=true→0≤I T 4∧I T 4 < 4)∧
  (B T 234=true→0≤I T 4∧I T 4 < 4)∧
  (B T 215=true→0≤I T 3∧I T 3 < 4)∧
  (B T 207=true→0≤I T 3∧I T 3 < 4)∧
  (B T 198=true→0≤I T 3∧I T 3 < 4)∧
  (B T 183=true→0≤I T 24∧I T 24 < 4)∧
  (B T 103=true→0≤I T 104∧I T 104 < 4)∧
  (B T 100=true→0≤I T 25∧I T 25 < 4):=by
 obtain⟨F0,A0⟩:=A0.cut
 obtain⟨F1,A0⟩:=A0.cut
 obtain⟨F2,A0⟩:=A0.cut
 obtain⟨F3,A0⟩:=A0.cut
 obtain⟨F4,A0⟩:=A0.cut
 obtain⟨F5,A0⟩:=A0.cut
 obtain⟨F6,A0⟩:=A0.cut
 obtain⟨F7,A0⟩:=A0.cut
 obtain⟨F8,A0⟩:=A0.cut
 obtain⟨F9,A0⟩:=A0.cut
 obtain⟨F10,A0⟩:=A0.cut
 obtain⟨F11,A0⟩:=A0.cut
 obtain⟨F12,A0⟩:=A0.cut
 obtain⟨F13,A0⟩:=A0.cut
 have F14:=A0;clear A0
 have hn:BU g=true→0≤I T 22∧I T 22≤1073741824:=fun h=>by subst hg;exact⟨(DB h).2.2.2.2.2.2.1,(DB h).2.2.2.2.2.2.2⟩
 have hwa:C5 g=true↔((I T 5)=13∧I T 7=13):=by subst hg;simp[C5]
 have hwb:Cz g=true↔((I T 6)=13∧I T 8=13):=by subst hg;simp[Cz]
 have c50:0≤I T 22→I T 22≤1073741824→((B T 50)=true↔¬(Cj (B T 9) (B T 11) (I T 5) (I T 7)=(CQ (I T 22)+1) / 2)):=by
  obtain⟨-,-,-,-,-,-,-,-,e34,-,e36,e37,-,-,e40,-⟩:=F0
  obtain⟨e42,e43,-,e45,-,e47,e48,e49,e50,-⟩:=F1
  simp only[AA,AD,zR,Af,zL] at*
  subst hg
  (try simp only[Cj,CQ,bit,zB])<;>grind (splits:=100)
 have c66:0≤I T 22→I T 22≤1073741824→((B T 66)=true↔¬(Cj (B T 10) (B T 12) (I T 6) (I T 8)=CQ (I T 22) / 2)):=by
  clear c50
  obtain⟨-,-,-,-,-,-,-,-,e34,-⟩:=F0
  obtain⟨-,-,-,-,-,-,-,-,-,-,-,e53,e54,-,-,e57,-⟩:=F1
  obtain⟨-,e59,e60,-,e62,-,e64,e65,e66,-⟩:=F2
  simp only[AA,AD,zR,Af,zL] at*
  subst hg
  (try simp only[Cj,CQ,bit,zB])<;>grind (splits:=100)
 have c79:(B T 79)=true↔(C5 g=true∧Cz g=true):=by
  clear c50 c66
  obtain⟨-,-,-,-,-,-,-,-,-,-,-,-,e70,-,e72,e73,-⟩:=F2
  obtain⟨-,e75,-,e77,e78,e79,-⟩:=F3
  simp only[AA,AD,zR] at*
  grind (splits:=100)
 have c91:(B T 91)=true↔(C5 g=true∨Cz g=true):=by
  clear c50 c66 c79
  obtain⟨-,-,-,-,-,-,-,-,e82,-,e84,e85,-,e87,-,e89,-⟩:=F3
  obtain⟨e90,e91,-⟩:=F4
  simp only[AA,AD,zR] at*
  grind (splits:=100)
 have c118:(B T 118)=true↔((B T 81)=true∧¬((C5 g=true∧I T 1=4∧I T 25=0)∨(Cz g=true∧I T 1=4∧I T 25=1)∨(¬C5 g=true∧¬Cz g=true∧¬I T 1=4∧I T 25= -1))):=by
  clear c50 c66 c79
  obtain⟨-,-,e92,e93,-,e95,e96,-,e98,e99,-,e101,e102,-,e104,e105,-⟩:=F4
  obtain⟨e106,e107,e108,e109,-,e111,e112,-,e114,e115,e116,-,e118,-⟩:=F5
  simp only[AA,AD,zN,zR,AN,AM,and_false,or_false,w2P] at*
  grind (splits:=100)
 have c119:(B T 119)=true↔((B T 81)=true∧((C5 g=true∧I T 1=4∧I T 25=0)∨(Cz g=true∧I T 1=4∧I T 25=1)∨(¬C5 g=true∧¬Cz g=true∧¬I T 1=4∧I T 25= -1))):=by
  clear c50 c66 c79 c118
  obtain⟨-,-,e92,e93,-,e95,e96,-,e98,e99,-,e101,e102,-,e104,e105,-⟩:=F4
  obtain⟨e106,e107,e108,-,e110,e111,e112,-,e114,e115,-,e117,-,e119,-⟩:=F5
  simp only[AA,AD,zN,zR,AN,AM,and_false,or_false,w2P] at*
  grind (splits:=100)
 have c81:(B T 81)=true↔(BU g=true∧B T 67=false∧¬(C5 g=true∧Cz g=true)):=by
  clear c50 c66 c91 c118 c119
  obtain⟨e26,-⟩:=F0
  obtain⟨-,-,-,-,-,-,-,-,-,-,-,e69,-⟩:=F2
  obtain⟨-,-,-,-,-,-,-,e81,-⟩:=F3
  replace e26:B T 26=(BU g1):=by rw[←show gAt 0 (L1.map (Rf.eval T))=g1 from z1.symm];exact e26
  simp only[AA,AD,zN,zR] at e69 e81
  grind (splits:=100)
 have c143:0≤I T 22→I T 22≤1073741824→((B T 143)=true↔((B T 119)=true∧¬CI g=true)):=by
  clear c50 c66 c79 c91 c118 c119 c81
  obtain⟨-,-,-,-,-,-,e32,-⟩:=F0
  obtain⟨-,-,-,-,-,-,-,-,-,-,-,-,-,-,-,e121,-⟩:=F5
  obtain⟨e122,e123,e124,-,e126,e127,-,e129,e130,-,e132,e133,e134,e135,-,e137,-⟩:=F6
  obtain⟨-,e139,e140,e141,e142,e143,-⟩:=F7
  replace e32:B T 32=(Ao (I T 0)):=e32
  simp only[AA,AD,zN,zR,Af,w2P] at*
  subst hg
  (try simp only[CI,Ag,zB])<;>grind (splits:=100)
 have c146:0≤I T 22→I T 22≤1073741824→((B T 146)=true↔((B T 119)=true∧CI g=true)):=by
  clear c50 c66 c79 c91 c118 c119 c81 c143
  obtain⟨-,-,-,-,-,-,e32,-⟩:=F0
  obtain⟨-,-,-,-,-,-,-,-,-,-,-,-,-,-,-,e121,-⟩:=F5
  obtain⟨e122,e123,e124,-,e126,e127,-,e129,e130,-,e132,e133,e134,e135,-,e137,-⟩:=F6
  obtain⟨-,e139,e140,e141,e142,-,e144,e145,e146,-⟩:=F7
  replace e32:B T 32=(Ao (I T 0)):=e32
  simp only[AA,AD,zN,zR,Af,w2P] at*
  subst hg
  (try simp only[CI,Ag,zB])<;>grind (splits:=100)
 have c153:(B T 153)=true↔Ag g=true:=by
  clear c50 c66 c79 c91 c118 c119 c81 c143 c146
  obtain⟨-,-,-,-,-,-,-,-,-,e147,-,e149,e150,-,e152,e153,-⟩:=F7
  simp only[AA,AD,zR] at*
  subst hg
  (try simp only[Ag,zB])<;>grind (splits:=100)
 have c192:(B T 155)=true→((B T 192)=true↔Cm g=true):=by
  clear c50 c66 c79 c91 c118 c119 c81 c143 c146 c153
  obtain⟨-,-,-,-,-,-,e32,-⟩:=F0
  obtain⟨-,-,e156,-,e158,e159,-,e161,e162,-,e164,-,e166,e167,e168,-⟩:=F8
  obtain⟨e170,-,e172,-,e174,-,e176,e177,-,e179,-,e181,e182,-,e184,e185,-⟩:=F9
  obtain⟨e186,-,e188,e189,e190,e191,e192,-⟩:=F10
  replace e32:B T 32=(Ao (I T 0)):=e32
  simp only[AA,AD,zC,zR,AN,AM,and_false,or_false,BL,and_true,Af,zL] at*
  subst hg
  (try simp only[Cm,inS,AY,zB])<;>grind (splits:=100)
 have c226:(B T 226)=true↔((B T 154)=true∧¬(inS g (I T 3)=true∧(I T 3) % 2=I T 2∧¬Dk g (I T 3)=true∧0≤I T 23∧I T 23≤AJ g (I T 3)∧I T 24= -1∧((B T 21)=true→Ao (I T 0)=true))):=by
  clear c50 c66 c79 c91 c118 c119 c81 c143 c146 c153 c192
  obtain⟨-,-,-,-,-,-,e32,-⟩:=F0
  obtain⟨-,-,-,-,-,-,-,-,e194,-,e196,e197,-,e199,e200,-⟩:=F10
  obtain⟨e202,-,e204,e205,-,-,e208,e209,-,e211,e212,-,-,-,e216,e217,-⟩:=F11
  obtain⟨e218,-,e220,e221,-,-,e224,e225,e226,-⟩:=F12
  replace e32:B T 32=(Ao (I T 0)):=e32
  simp only[AA,AD,zN,zR,AN,AM,and_false,or_false,Af] at*
  subst hg
  (try simp only[inS,Dk,AJ,AY,AS,zB])<;>grind (splits:=100)
 have c227:(B T 227)=true↔((B T 154)=true∧(inS g (I T 3)=true∧(I T 3) % 2=I T 2∧¬Dk g (I T 3)=true∧0≤I T 23∧I T 23≤AJ g (I T 3)∧I T 24= -1∧((B T 21)=true→Ao (I T 0)=true))):=by
  clear c50 c66 c79 c91 c118 c119 c81 c143 c146 c153 c192 c226
  obtain⟨-,-,-,-,-,-,e32,-⟩:=F0
  obtain⟨-,-,-,-,-,-,-,-,e194,-,e196,e197,-,e199,e200,-⟩:=F10
  obtain⟨e202,-,e204,e205,-,-,e208,e209,-,e211,e212,-,-,-,e216,e217,-⟩:=F11
  obtain⟨e218,-,e220,e221,-,-,e224,e225,-,e227,-⟩:=F12
  replace e32:B T 32=(Ao (I T 0)):=e32
  simp only[AA,AD,zN,zR,AN,AM,and_false,or_false,Af] at*
  subst hg
  (try simp only[inS,Dk,AJ,AY,AS,zB])<;>grind (splits:=100)
 have c245:(B T 227)=true→((B T 245)=true↔(((I T 1)=2∧inS g (I T 4)=true∧¬I T 4=I T 3∧¬Dk g (I T 4)=true)∨(¬I T 1=2∧I T 4= -1))):=by
  clear c50 c66 c79 c91 c118 c119 c81 c143 c146 c153 c192 c226 c227
  obtain⟨-,-,-,-,-,-,-,-,-,-,e228,e229,e230,-,e232,e233,-⟩:=F12
  obtain⟨-,e235,e236,-,e238,e239,-,e241,e242,-,e244,e245,-⟩:=F13
  simp only[AA,AD,zN,zR,AN,AM,and_false,or_false,zL] at*
  subst hg
  (try simp only[inS,Dk,AY,zB])<;>grind (splits:=100)
 refine⟨?_,?_,?_,?_,?_,?_,?_,?_,?_⟩
 ·clear c91
  obtain⟨e26,e27,-⟩:=F0
  obtain⟨-,-,-,-,-,-,-,-,-,e67,e68,e69,-⟩:=F2
  obtain⟨-,-,-,-,-,-,e80,-⟩:=F3
  obtain⟨e154,e155,e156,-,e158,e159,-,e161,e162,-,e164,-,e166,e167,e168,e169,-⟩:=F8
  obtain⟨-,-,-,-,-,-,-,e193,-⟩:=F10
  obtain⟨-,-,-,-,-,-,-,-,-,-,-,-,-,e247,-,e249,-⟩:=F13
  obtain⟨-,e251,-,e253,-,e255,-,e257,-,e259,-⟩:=F14
  replace e26:B T 26=(BU g1):=by rw[←show gAt 0 (L1.map (Rf.eval T))=g1 from z1.symm];exact e26
  simp only[AA,AD,zN,zC,zR,BL,and_true,zL] at*
  subst hg
  refine AU ?_
  (try simp only[AR,DR,Ct,zB])<;>(try constructor)<;>grind (splits:=100)
 ·clear c79 c91 c118 c143 c192 c226 c245
  obtain⟨-,-,-,-,-,-,-,-,-,e67,-⟩:=F2
  obtain⟨e154,-⟩:=F8
  obtain⟨-,-,-,-,-,-,-,-,-,-,e228,e229,e230,-,e232,e233,-⟩:=F12
  obtain⟨-,e235,e236,-,e238,e239,e240,-⟩:=F13
  simp only[AA,AD,zR,AN,AM,and_false,or_false] at*
  grind (splits:=100)
 ·clear c79 c91 c118 c143 c192 c226 c245
  obtain⟨-,-,-,-,-,-,-,-,-,e67,-⟩:=F2
  obtain⟨e154,-⟩:=F8
  obtain⟨-,-,-,-,-,-,-,-,-,-,e228,e229,e230,-,e232,e233,-⟩:=F12
  obtain⟨e234,-⟩:=F13
  simp only[AA,AD,zR] at*
  grind (splits:=100)
 ·clear c79 c91 c118 c143 c192 c226 c227 c245
  obtain⟨-,-,-,-,-,-,-,-,-,e67,-⟩:=F2
  obtain⟨e154,-⟩:=F8
  obtain⟨-,-,-,-,-,-,-,-,e194,-,e196,e197,-,e199,e200,-⟩:=F10
  obtain⟨e202,-,e204,e205,-,-,e208,e209,-,e211,e212,-,-,e215,-⟩:=F11
  simp only[AA,AD,zN,zR,AN,AM,and_false,or_false,Af] at*
  grind (splits:=100)
 ·clear c79 c91 c118 c143 c192 c226 c227 c245
  obtain⟨-,-,-,-,-,-,-,-,-,e67,-⟩:=F2
  obtain⟨e154,-⟩:=F8
  obtain⟨-,-,-,-,-,-,-,-,e194,-,e196,e197,-,e199,e200,-⟩:=F10
  obtain⟨e202,-,e204,e205,-,e207,-⟩:=F11
  simp only[AA,AD,zN,zR,AN,AM,and_false,or_false,Af] at*
  grind (splits:=100)
 ·clear c79 c91 c118 c143 c192 c226 c227 c245
  obtain⟨-,-,-,-,-,-,-,-,-,e67,-⟩:=F2
  obtain⟨e154,-⟩:=F8
  obtain⟨-,-,-,-,-,-,-,-,e194,-,e196,e197,e198,-⟩:=F10
  simp only[AA,AD,zR] at*
  grind (splits:=100)
 ·clear c79 c91 c118 c143 c192 c226 c227 c245
  obtain⟨-,-,-,-,-,-,e32,-⟩:=F0
  obtain⟨-,-,-,-,-,-,-,-,-,e67,-⟩:=F2
  obtain⟨-,e155,e156,-,e158,e159,-,e161,e162,-,e164,-,e166,e167,-,e169,-⟩:=F8
  obtain⟨e170,e171,e172,-,e174,-,e176,e177,e178,e179,-,e181,e182,e183,-⟩:=F9
  replace e32:B T 32=(Ao (I T 0)):=e32
  simp only[AA,AD,zN,zC,zR,BL,and_true] at*
  grind (splits:=100)
 ·clear c79 c118 c119 c143 c146 c153 c192 c226 c227 c245
  obtain⟨-,-,-,-,-,-,-,-,-,e67,-⟩:=F2
  obtain⟨-,-,e92,e93,-,e95,e96,-,e98,e99,e100,e101,e102,e103,e104,-⟩:=F4
  simp only[AA,AD,zN,zR,AN,AM,and_false,or_false,w2P] at*
  grind (splits:=100)
 ·clear c79 c118 c119 c143 c146 c153 c192 c226 c227 c245
  obtain⟨-,-,-,-,-,-,-,-,-,e67,-⟩:=F2
  obtain⟨-,-,e92,e93,-,e95,e96,-,e98,e99,e100,-⟩:=F4
  simp only[AA,AD,zN,zR] at*
  grind (splits:=100)
theorem Uc:CA Try.prog 36 Hw:=by
 refine Bu (l:=[(43,De),(55,JT)]) C6 (by simp only[List.forall_mem_cons];exact⟨Jo,dV,fun _ h=>absurd h (by simp)⟩) gz (by kernel_rfl) fun T us hpre hT hul hS hBd hE=>?_
 change us.length=26 at hul
 clear hBd
 obtain⟨g,hg⟩:∃g:Gm,g=gT T 0:=⟨_,rfl⟩
 have hgu:gAt 0 us=g:=by rw[hg];exact DV hT hul (by decide)
 clear hpre
 skip
 obtain⟨A0,hO⟩:=CK (tys:=[.b]) (rs:=Yx) hS (by kernel_rfl) hE
 obtain⟨g1,z1⟩:∃g:Gm,g=gT T 0:=⟨_,rfl⟩
 obtain⟨q0,r0,r1,r2,r3,r4,r5,r6,r7⟩:=gw g hg g1 z1 A0
 refine⟨⟨r0,r1,r2,r3,r4,r5,r6,r7,trivial⟩,hO.trans ?_⟩
 exact (lc (by show U.bool (B T 259)= .bool (Ik us);unfold Ik;rw[hgu];exact congrArg U.bool q0) rfl)
end Go.Eng
end
