/-
  A part of the proof: K_gMovesd K_gMoves.
-/
import Derived.Test.YtcinpabggaepfaaXQlRules
import Derived.Test.YtcinpabggaepfaaE3
import Derived.Test.YtcinpabggaepfaaE4
import Derived.Test.YtcinpabggaepfaaKgposs
import Derived.Test.YtcinpabggaepfaaKglegal
set_option linter.unusedVariables false
set_option linter.unusedSimpArgs false
noncomputable section
open Go Go.Eng Go.Proofs
set_option maxHeartbeats 4000000
set_option maxRecDepth 100000
namespace Go.Eng
def mv:List U→List (List U):=fun us=>((if AR (gAt 0 us)=true then C2 (gAt 0 us) else []))
def mw:List U→Int:=fun us=>((if AR (gAt 0 us)=true then 0 else 2))
def mx:Bc:={ sh:=[.agg [k64,k64,k64,k64,k64,k64,k64,k64,k64,.bool,.bool,.bool,.bool,.bool,.bool,.bool,.bool,k64,k64,.bool,.bool,.bool,k64,k64,k64,k64]],blks:=[],outs:=[(.s "gMoves.0",jD mv),(.s "gMoves.1",AI mw)],c:= .tup [.ro 26 [k64,k64,.bool,.list [k64,k64]],(AG 27)],m':=[],pre:=[] }
def mg:List Rf:=[.e 0,.e 1,.e 2,.e 3,.e 4,.e 5,.e 6,.e 7,.e 8,.e 9,.e 10,.e 11,.e 12,.e 13,.e 14,.e 15,.e 16,.e 17,.e 18,.e 19,.e 20,.e 21,.e 22,.e 23,.e 24,.e 25,.e 37,.e 38,.e 39,.e 40,.e 41,.e 42]
def n8:List En:=[⟨26,.lt,[.e 0,.c (.int 0)]⟩,
 ⟨27,.not,[.e 26]⟩,
 ⟨28,.le,[.c (.int 4),.e 0]⟩,
 ⟨29,.or,[.e 26,.e 28]⟩,
 ⟨30,.not,[.e 29]⟩,
 ⟨31,.pick .i,[.e 0,.c (.int 12),.c (.int 12),.c (.int 6),.c (.int 12)]⟩,
 ⟨32,.pick .i,[.e 0,.c (.int 0),.c (.int 7),.c (.int 0),.c (.int 0)]⟩,
 ⟨33,.pick .i,[.e 0,.c (.int 0),.c (.int 10),.c (.int 0),.c (.int 0)]⟩,
 ⟨34,.pick .b,[.e 0,.c (.bool true),.c (.bool true),.c (.bool true),.c (.bool false)]⟩,
 ⟨35,.pick .b,[.e 0,.c (.bool true),.c (.bool false),.c (.bool true),.c (.bool false)]⟩,
 ⟨36,.pick .b,[.e 0,.c (.bool false),.c (.bool false),.c (.bool false),.c (.bool true)]⟩,
 ⟨37,.ite .i,[.e 29,.c (.int 0),.e 31]⟩,
 ⟨38,.ite .i,[.e 29,.c (.int 0),.e 32]⟩,
 ⟨39,.ite .i,[.e 29,.c (.int 0),.e 33]⟩,
 ⟨40,.ite .b,[.e 29,.c (.bool false),.e 34]⟩,
 ⟨41,.ite .b,[.e 29,.c (.bool false),.e 35]⟩]
def oF:List En:=[⟨42,.ite .b,[.e 29,.c (.bool false),.e 36]⟩,
 ⟨43,.ite .i,[.e 29,.c (.int 3),.c (.int 0)]⟩,
 ⟨44,.or,[.e 29,.e 30]⟩,
 ⟨45,.ne,[.e 43,.c (.int 0)]⟩,
 ⟨46,.not,[.e 45]⟩,
 ⟨47,.outB "gposs.0" JU,mg⟩,
 ⟨48,.or,[.e 45,.n 47]⟩,
 ⟨49,.not,[.e 48]⟩,
 ⟨50,.outB "glegal.0" IY,mg⟩,
 ⟨51,.or,[.e 48,.n 50]⟩,
 ⟨52,.not,[.e 51]⟩,
 ⟨53,.ite .i,[.e 51,.c (.int 2),.c (.int 0)]⟩,
 ⟨54,.not,[.e 51]⟩,
 ⟨55,.or,[.e 51,.e 52]⟩,
 ⟨56,.ne,[.e 53,.c (.int 0)]⟩,
 ⟨57,.not,[.e 56]⟩]
def n9:List En:=[⟨58,.id .i,[.c (.int 0)]⟩,
 ⟨59,.eq,[.e 1,.c (.int 4)]⟩,
 ⟨60,.and,[.e 57,.e 59]⟩,
 ⟨61,.and,[.e 57,.n 59]⟩,
 ⟨62,.lt,[.c (.int 0),.e 1]⟩,
 ⟨63,.and,[.e 61,.e 62]⟩,
 ⟨64,.lt,[.e 1,.c (.int 4)]⟩,
 ⟨65,.and,[.e 62,.e 64]⟩,
 ⟨66,.and,[.e 61,.e 65]⟩,
 ⟨67,.row 1 4 [.i,.i,.b,.l],[.c (.int 2),.c (.int 0),.c (.bool false),.c (.list [])]⟩,
 ⟨68,.app,[.c (.list []),.e 67]⟩,
 ⟨69,.row 1 4 [.i,.i,.b,.l],[.c (.int 3),.c (.int 0),.c (.bool false),.c (.list [])]⟩,
 ⟨70,.app,[.e 68,.e 69]⟩,
 ⟨71,.and,[.e 61,.n 65]⟩,
 ⟨72,.ite .l,[.e 59,.c (.list []),.e 70]⟩,
 ⟨73,.ite .l,[.e 59,.c (.list []),.e 67]⟩]
def oH:List En:=[⟨74,.ite .l,[.e 59,.c (.list []),.e 70]⟩,
 ⟨75,.ite .l,[.e 59,.c (.list []),.e 69]⟩,
 ⟨76,.or,[.e 60,.e 66]⟩,
 ⟨77,.le,[.c (.int 4),.e 22]⟩,
 ⟨78,.pick .b,[.e 2,.e 9,.e 10,.e 11,.e 12]⟩,
 ⟨79,.neb,[.e 77,.e 78]⟩,
 ⟨80,.and,[.e 71,.n 79]⟩,
 ⟨81,.pick .i,[.e 2,.e 5,.e 6,.e 7,.e 8]⟩,
 ⟨82,.eq,[.e 81,.c (.int 13)]⟩,
 ⟨83,.or,[.e 79,.e 82]⟩,
 ⟨84,.and,[.e 71,.e 83]⟩,
 ⟨85,.and,[.e 71,.n 83]⟩,
 ⟨86,.row 1 4 [.i,.i,.b,.l],[.c (.int 1),.e 2,.c (.bool false),.c (.list [])]⟩,
 ⟨87,.app,[.c (.list []),.e 86]⟩,
 ⟨88,.and,[.e 85,.e 77]⟩,
 ⟨89,.and,[.e 85,.e 77]⟩]
def oA:List En:=[⟨90,.pick .b,[.e 2,.e 19,.e 20]⟩,
 ⟨91,.and,[.e 77,.e 90]⟩,
 ⟨92,.and,[.e 85,.e 91]⟩,
 ⟨93,.and,[.e 85,.e 91]⟩,
 ⟨94,.row 1 4 [.i,.i,.b,.l],[.c (.int 1),.e 2,.c (.bool true),.c (.list [])]⟩,
 ⟨95,.app,[.e 87,.e 94]⟩,
 ⟨96,.ite .l,[.e 93,.e 95,.e 87]⟩,
 ⟨97,.ite .l,[.e 93,.e 95,.e 87]⟩,
 ⟨98,.ite .l,[.e 93,.e 94,.c (.list [])]⟩,
 ⟨99,.and,[.e 91,.c (.bool false)]⟩,
 ⟨100,.and,[.e 85,.e 99]⟩,
 ⟨101,.and,[.e 85,.n 99]⟩,
 ⟨102,.ite .l,[.e 84,.c (.list []),.e 97]⟩,
 ⟨103,.ite .l,[.e 84,.c (.list []),.e 86]⟩,
 ⟨104,.ite .l,[.e 84,.c (.list []),.e 97]⟩,
 ⟨105,.ite .l,[.e 84,.c (.list []),.e 98]⟩]
def ny:List En:=[⟨106,.or,[.e 84,.e 101]⟩,
 ⟨107,.o2 .add,[.e 2,.c (.int 2)]⟩,
 ⟨108,.le,[.c (.int 4),.e 22]⟩,
 ⟨109,.pick .b,[.e 107,.e 9,.e 10,.e 11,.e 12]⟩,
 ⟨110,.neb,[.e 108,.e 109]⟩,
 ⟨111,.and,[.e 106,.n 110]⟩,
 ⟨112,.pick .i,[.e 107,.e 5,.e 6,.e 7,.e 8]⟩,
 ⟨113,.eq,[.e 112,.c (.int 13)]⟩,
 ⟨114,.or,[.e 110,.e 113]⟩,
 ⟨115,.and,[.e 106,.e 114]⟩,
 ⟨116,.and,[.e 106,.n 114]⟩,
 ⟨117,.row 1 4 [.i,.i,.b,.l],[.c (.int 1),.e 107,.c (.bool false),.c (.list [])]⟩,
 ⟨118,.app,[.e 104,.e 117]⟩,
 ⟨119,.and,[.e 116,.e 108]⟩,
 ⟨120,.and,[.e 116,.e 108]⟩,
 ⟨121,.pick .b,[.e 2,.e 19,.e 20]⟩]
def oK:List En:=[⟨122,.and,[.e 108,.e 121]⟩,
 ⟨123,.and,[.e 116,.e 122]⟩,
 ⟨124,.and,[.e 116,.e 122]⟩,
 ⟨125,.row 1 4 [.i,.i,.b,.l],[.c (.int 1),.e 107,.c (.bool true),.c (.list [])]⟩,
 ⟨126,.app,[.e 118,.e 125]⟩,
 ⟨127,.ite .l,[.e 124,.e 126,.e 118]⟩,
 ⟨128,.ite .l,[.e 124,.e 126,.e 118]⟩,
 ⟨129,.ite .l,[.e 124,.e 125,.c (.list [])]⟩,
 ⟨130,.and,[.e 122,.c (.bool false)]⟩,
 ⟨131,.and,[.e 116,.e 130]⟩,
 ⟨132,.and,[.e 116,.n 130]⟩,
 ⟨133,.ite .l,[.e 115,.e 104,.e 128]⟩,
 ⟨134,.ite .l,[.e 115,.e 104,.e 128]⟩,
 ⟨135,.ite .l,[.e 115,.c (.list []),.e 117]⟩,
 ⟨136,.ite .l,[.e 115,.c (.list []),.e 129]⟩,
 ⟨137,.or,[.e 115,.e 132]⟩]
def n5:List En:=[⟨138,.o2 .add,[.e 107,.c (.int 2)]⟩,
 ⟨139,.ite .l,[.e 100,.e 97,.e 128]⟩,
 ⟨140,.ite .l,[.e 100,.e 86,.e 103]⟩,
 ⟨141,.ite .l,[.e 100,.e 97,.e 128]⟩,
 ⟨142,.ite .l,[.e 100,.e 98,.e 105]⟩,
 ⟨143,.ite .l,[.e 100,.c (.list []),.e 117]⟩,
 ⟨144,.ite .l,[.e 100,.c (.list []),.e 129]⟩,
 ⟨145,.ite .i,[.e 100,.e 2,.e 107]⟩,
 ⟨146,.ite .b,[.e 100,.e 77,.e 108]⟩,
 ⟨147,.ite .b,[.e 100,.e 99,.e 130]⟩,
 ⟨148,.ite .b,[.e 100,.e 83,.e 114]⟩,
 ⟨149,.or,[.e 100,.e 131]⟩,
 ⟨150,.lt,[.e 22,.c (.int 4)]⟩,
 ⟨151,.and,[.e 137,.n 150]⟩,
 ⟨152,.row 1 4 [.i,.i,.b,.l],[.c (.int 3),.c (.int 0),.c (.bool false),.c (.list [])]⟩,
 ⟨153,.app,[.e 134,.e 152]⟩]
def n7:List En:=[⟨154,.ite .l,[.e 151,.e 153,.e 134]⟩,
 ⟨155,.ite .l,[.e 151,.e 153,.e 134]⟩,
 ⟨156,.ite .l,[.e 151,.e 152,.c (.list [])]⟩,
 ⟨157,.or,[.e 150,.c (.bool false)]⟩,
 ⟨158,.and,[.e 137,.n 157]⟩,
 ⟨159,.eq,[.e 24,.c (.int (-1))]⟩,
 ⟨160,.or,[.e 157,.e 159]⟩,
 ⟨161,.and,[.e 137,.e 160]⟩,
 ⟨162,.and,[.e 137,.n 160]⟩,
 ⟨163,.o2 .tmod,[.e 24,.c (.int 2)]⟩,
 ⟨164,.pick .i,[.e 163,.e 17,.e 18]⟩,
 ⟨165,.le,[.c (.int 2),.e 164]⟩,
 ⟨166,.and,[.e 162,.e 165]⟩,
 ⟨167,.and,[.e 162,.n 165]⟩,
 ⟨168,.eq,[.e 164,.c (.int 1)]⟩,
 ⟨169,.and,[.e 167,.e 168]⟩]
def oI:List En:=[⟨170,.and,[.e 167,.n 168]⟩,
 ⟨171,.row 1 4 [.i,.i,.b,.l],[.c (.int 4),.e 24,.c (.bool false),.c (.list [])]⟩,
 ⟨172,.app,[.e 155,.e 171]⟩,
 ⟨173,.ite .l,[.e 169,.e 155,.e 172]⟩,
 ⟨174,.ite .l,[.e 169,.e 155,.e 172]⟩,
 ⟨175,.ite .l,[.e 169,.c (.list []),.e 171]⟩,
 ⟨176,.or,[.e 169,.e 166]⟩,
 ⟨177,.row 1 4 [.i,.i,.b,.l],[.c (.int 5),.e 24,.c (.bool false),.c (.list [])]⟩,
 ⟨178,.app,[.e 174,.e 177]⟩,
 ⟨179,.ite .l,[.e 170,.e 155,.e 178]⟩,
 ⟨180,.ite .l,[.e 170,.e 155,.e 178]⟩,
 ⟨181,.ite .l,[.e 170,.c (.list []),.e 175]⟩,
 ⟨182,.ite .l,[.e 170,.c (.list []),.e 177]⟩,
 ⟨183,.or,[.e 170,.e 176]⟩,
 ⟨184,.ite .l,[.e 149,.e 141,.e 155]⟩,
 ⟨185,.ite .l,[.e 149,.e 140,.e 103]⟩]
def nu:List En:=[⟨186,.ite .l,[.e 149,.e 141,.e 155]⟩,
 ⟨187,.ite .l,[.e 149,.e 142,.e 105]⟩,
 ⟨188,.ite .l,[.e 149,.e 143,.e 135]⟩,
 ⟨189,.ite .l,[.e 149,.e 144,.e 136]⟩,
 ⟨190,.ite .l,[.e 149,.c (.list []),.e 156]⟩,
 ⟨191,.ite .i,[.e 149,.e 145,.e 138]⟩,
 ⟨192,.ite .b,[.e 149,.e 146,.e 108]⟩,
 ⟨193,.ite .b,[.e 149,.e 148,.e 114]⟩,
 ⟨194,.ite .b,[.e 149,.c (.bool true),.c (.bool false)]⟩,
 ⟨195,.or,[.e 149,.e 161]⟩,
 ⟨196,.ite .l,[.e 76,.e 74,.e 186]⟩,
 ⟨197,.ite .l,[.e 76,.e 73,.e 185]⟩,
 ⟨198,.ite .l,[.e 76,.e 74,.e 186]⟩,
 ⟨199,.ite .l,[.e 76,.e 75,.e 187]⟩,
 ⟨200,.ite .l,[.e 76,.c (.list []),.e 188]⟩,
 ⟨201,.ite .l,[.e 76,.c (.list []),.e 189]⟩]
def nv:List En:=[⟨202,.ite .l,[.e 76,.c (.list []),.e 190]⟩,
 ⟨203,.or,[.e 76,.e 195]⟩,
 ⟨204,.ite .l,[.e 203,.e 198,.e 180]⟩,
 ⟨205,.ite .l,[.e 203,.e 197,.e 103]⟩,
 ⟨206,.ite .l,[.e 203,.e 198,.e 180]⟩,
 ⟨207,.ite .l,[.e 203,.e 199,.e 105]⟩,
 ⟨208,.ite .l,[.e 203,.e 200,.e 135]⟩,
 ⟨209,.ite .l,[.e 203,.e 201,.e 136]⟩,
 ⟨210,.ite .l,[.e 203,.e 202,.e 156]⟩,
 ⟨211,.ite .l,[.e 203,.c (.list []),.e 181]⟩,
 ⟨212,.ite .l,[.e 203,.c (.list []),.e 182]⟩,
 ⟨213,.ite .l,[.e 56,.c (.list []),.e 205]⟩,
 ⟨214,.ite .l,[.e 56,.c (.list []),.e 206]⟩,
 ⟨215,.ite .l,[.e 56,.c (.list []),.e 207]⟩,
 ⟨216,.ite .l,[.e 56,.c (.list []),.e 208]⟩,
 ⟨217,.ite .l,[.e 56,.c (.list []),.e 209]⟩]
def nw:List En:=[⟨218,.ite .l,[.e 56,.c (.list []),.e 210]⟩,
 ⟨219,.ite .l,[.e 56,.c (.list []),.e 211]⟩,
 ⟨220,.ite .l,[.e 56,.c (.list []),.e 212]⟩,
 ⟨221,.ite .i,[.e 56,.e 53,.c (.int 0)]⟩,
 ⟨222,.or,[.e 56,.e 57]⟩]
def nn:List En:=n8++(oF++(n9++(oH++(oA++(ny++(oK++(n5++(n7++(oI++(nu++(nv++(nw))))))))))))
def pL:List ObE:=[⟨some 176,.fits 48,[.e 174,.e 177]⟩,
 ⟨some 166,.fits 48,[.e 155,.e 171]⟩,
 ⟨some 162,.inr,[.e 163,.c (.int 2)]⟩,
 ⟨some 151,.fits 48,[.e 134,.e 152]⟩,
 ⟨some 124,.fits 48,[.e 118,.e 125]⟩,
 ⟨some 120,.inr,[.e 2,.c (.int 2)]⟩,
 ⟨some 116,.fits 48,[.e 104,.e 117]⟩,
 ⟨some 93,.fits 48,[.e 87,.e 94]⟩,
 ⟨some 89,.inr,[.e 2,.c (.int 2)]⟩,
 ⟨some 85,.fits 48,[.c (.list []),.e 86]⟩,
 ⟨some 71,.btw (0) (1),[.e 2]⟩,
 ⟨some 66,.fits 48,[.e 68,.e 69]⟩,
 ⟨some 66,.fits 48,[.c (.list []),.e 67]⟩,
 ⟨some 57,.t,[.e 54]⟩,
 ⟨some 49,.pre "glegal.p0" HE,mg⟩,
 ⟨some 49,.pre "glegal.p1" DP,mg⟩,
 ⟨some 46,.pre "gposs.p0" IG,mg⟩,
 ⟨some 30,.inr,[.e 0,.c (.int 4)]⟩]
def oB:List Rf:=[.e 214,.e 221]
theorem pO:mx.sees oB (mx.run Try.prog [(45,II),(46,EX)] RN 3000 20 18)=some ((nn).map En.be,pL.map ObE.be,[]):=by kernel_rfl
theorem pJ {T:Tab}(g:Gm)(hg:g=gT T 0)(g1:Gm)(z1:g1=gT T 0)(A0:AK T nn):
  ((L T 214)=((if AR g=true then C2 g else [])))∧
  ((I T 221)=((if AR g=true then 0 else 2)))∧
  (B T 176=true→(((L T 174)).length+((L T 177)).length)*48≤140737488355328)∧
  (B T 166=true→(((L T 155)).length+((L T 171)).length)*48≤140737488355328)∧
  (B T 162=true→0≤I T 163∧I T 163 < 2)∧
  (B T 151=true→(((L T 134)).length+((L T 152)).length)*48≤140737488355328)∧
  (B T 124=true→(((L T 118)).length+((L T 125)).length)*48≤140737488355328)∧
  (B T 120=true→0≤I T 2∧I T 2 < 2)∧
  (B T 116=true→(((L T 104)).length+((L T 117)).length)*48≤140737488355328)∧
  (B T 93=true→(((L T 87)).length+((L T 94)).length)*48≤140737488355328)∧
  (B T 89=true→0≤I T 2∧I T 2 < 2)∧
  (B T 85=true→((([]:List (List U))).length+((L T 86)).length)*48≤140737488355328)∧
  (B T 71=true→0≤I T 2∧I T 2≤1)∧
  (B T 66=true→(((L T 68)).length+((L T 69)).length)*48≤140737488355328)∧
  (B T 66=true→((([]:List (List U))).length+((L T 67)).length)*48≤140737488355328)∧
  (B T 57=true→B T 54=true)∧
  (B T 49=true→0≤I T 0∧I T 0≤3∧I T 37=AX (I T 0)∧I T 38=Ac (I T 0)∧I T 39=Ab (I T 0)∧B T 40=Aw (I T 0)∧B T 41=Ao (I T 0)∧B T 42=BI (I T 0))∧
  (B T 49=true→BU g1=true)∧
  (B T 46=true→0≤I T 0∧I T 0≤3∧I T 37=AX (I T 0)∧I T 38=Ac (I T 0)∧I T 39=Ab (I T 0)∧B T 40=Aw (I T 0)∧B T 41=Ao (I T 0)∧B T 42=BI (I T 0))∧
  (B T 30=true→0≤I T 0∧I T 0 < 4):=by
 obtain⟨F0,A0⟩:=A0.cut
 obtain⟨F1,A0⟩:=A0.cut
 obtain⟨F2,A0⟩:=A0.cut
 obtain⟨F3,A0⟩:=A0.cut
 obtain⟨F4,A0⟩:=A0.cut
 obtain⟨F5,A0⟩:=A0.cut
 obtain⟨F6,A0⟩:=A0.cut
 obtain⟨F7,A0⟩:=A0.cut
 obtain⟨F8,A0⟩:=A0.cut
 obtain⟨F9,A0⟩:=A0.cut
 obtain⟨F10,A0⟩:=A0.cut
 obtain⟨F11,A0⟩:=A0.cut
 have F12:=A0;clear A0
 have n67:(L T 67).length≤1:=by
  obtain⟨-,-,-,-,-,-,-,-,-,e67,-⟩:=F2
  simp only[AA,zC,zR,zL,uR,Aj,zW] at e67
  rw[e67];exact Nat.le_refl _
 have n68:(L T 68).length≤1:=by
  obtain⟨-,-,-,-,-,-,-,-,-,-,e68,-⟩:=F2
  simp only[AA,zR,zL] at e68
  exact Mc e68 (Nat.le_refl 0) n67 (by decide)
 have n69:(L T 69).length≤1:=by
  obtain⟨-,-,-,-,-,-,-,-,-,-,-,e69,-⟩:=F2
  simp only[AA,zC,zR,zL,uR,Aj,zW] at e69
  rw[e69];exact Nat.le_refl _
 have n86:(L T 86).length≤1:=by
  obtain⟨-,-,-,-,-,-,-,-,-,-,-,-,e86,-⟩:=F3
  simp only[AA,AD,zC,zR,zL,uR,Aj,zW] at e86
  rw[e86];exact Nat.le_refl _
 have n87:(L T 87).length≤1:=by
  obtain⟨-,-,-,-,-,-,-,-,-,-,-,-,-,e87,-⟩:=F3
  simp only[AA,zR,zL] at e87
  exact Mc e87 (Nat.le_refl 0) n86 (by decide)
 have n94:(L T 94).length≤1:=by
  obtain⟨-,-,-,-,e94,-⟩:=F4
  simp only[AA,AD,zC,zR,zL,uR,Aj,zW] at e94
  rw[e94];exact Nat.le_refl _
 have n95:(L T 95).length≤2:=by
  obtain⟨-,-,-,-,-,e95,-⟩:=F4
  simp only[AA,zR,zL] at e95
  exact Mc e95 n87 n94 (by decide)
 have n97:(L T 97).length≤2:=by
  obtain⟨-,-,-,-,-,-,-,e97,-⟩:=F4
  simp only[AA,AD,zR,zL] at e97
  exact Of e97 n95 (Nat.le_trans n87 (by decide))
 have n104:(L T 104).length≤2:=by
  obtain⟨-,-,-,-,-,-,-,-,-,-,-,-,-,-,e104,-⟩:=F4
  simp only[AA,AD,zR,zL] at e104
  exact Of e104 (Nat.zero_le _) n97
 have n117:(L T 117).length≤1:=by
  obtain⟨-,-,-,-,-,-,-,-,-,-,-,e117,-⟩:=F5
  simp only[AA,AD,zC,zR,zL,uR,Aj,zW] at e117
  rw[e117];exact Nat.le_refl _
 have n118:(L T 118).length≤3:=by
  obtain⟨-,-,-,-,-,-,-,-,-,-,-,-,e118,-⟩:=F5
  simp only[AA,zR,zL] at e118
  exact Mc e118 n104 n117 (by decide)
 have n125:(L T 125).length≤1:=by
  obtain⟨-,-,-,e125,-⟩:=F6
  simp only[AA,AD,zC,zR,zL,uR,Aj,zW] at e125
  rw[e125];exact Nat.le_refl _
 have n126:(L T 126).length≤4:=by
  obtain⟨-,-,-,-,e126,-⟩:=F6
  simp only[AA,zR,zL] at e126
  exact Mc e126 n118 n125 (by decide)
 have n128:(L T 128).length≤4:=by
  obtain⟨-,-,-,-,-,-,e128,-⟩:=F6
  simp only[AA,AD,zR,zL] at e128
  exact Of e128 n126 (Nat.le_trans n118 (by decide))
 have n134:(L T 134).length≤4:=by
  obtain⟨-,-,-,-,-,-,-,-,-,-,-,-,e134,-⟩:=F6
  simp only[AA,AD,zR,zL] at e134
  exact Of e134 (Nat.le_trans n104 (by decide)) n128
 have n152:(L T 152).length≤1:=by
  obtain⟨-,-,-,-,-,-,-,-,-,-,-,-,-,-,e152,-⟩:=F7
  simp only[AA,zC,zR,zL,uR,Aj,zW] at e152
  rw[e152];exact Nat.le_refl _
 have n153:(L T 153).length≤5:=by
  obtain⟨-,-,-,-,-,-,-,-,-,-,-,-,-,-,-,e153,-⟩:=F7
  simp only[AA,zR,zL] at e153
  exact Mc e153 n134 n152 (by decide)
 have n155:(L T 155).length≤5:=by
  obtain⟨-,e155,-⟩:=F8
  simp only[AA,AD,zR,zL] at e155
  exact Of e155 n153 (Nat.le_trans n134 (by decide))
 have n171:(L T 171).length≤1:=by
  obtain⟨-,e171,-⟩:=F9
  simp only[AA,AD,zC,zR,zL,uR,Aj,zW] at e171
  rw[e171];exact Nat.le_refl _
 have n172:(L T 172).length≤6:=by
  obtain⟨-,-,e172,-⟩:=F9
  simp only[AA,zR,zL] at e172
  exact Mc e172 n155 n171 (by decide)
 have n174:(L T 174).length≤6:=by
  obtain⟨-,-,-,-,e174,-⟩:=F9
  simp only[AA,AD,zR,zL] at e174
  exact Of e174 (Nat.le_trans n155 (by decide)) n172
 have n177:(L T 177).length≤1:=by
  obtain⟨-,-,-,-,-,-,-,e177,-⟩:=F9
  simp only[AA,AD,zC,zR,zL,uR,Aj,zW] at e177
  rw[e177];exact Nat.le_refl _
 have hgA:g1=g:=by rw[z1,hg]
 have hcode:g.code=I T 0:=by rw[hg]
 have h46:(B T 46)=true↔(0≤I T 0∧I T 0≤3):=by
  obtain⟨e26,-,e28,e29,-⟩:=F0
  obtain⟨-,e43,-,e45,e46,-⟩:=F1
  simp only[AA,AD,zR,zL] at*
  clear hg
  grind
 have hcd:(B T 46)=true→0≤I T 0∧I T 0≤3∧I T 37=AX (I T 0)∧I T 38=Ac (I T 0)∧I T 39=Ab (I T 0)∧B T 40=Aw (I T 0)∧B T 41=Ao (I T 0)∧B T 42=BI (I T 0):=by
  obtain⟨e26,-,e28,e29,-,e31,e32,e33,e34,e35,e36,e37,e38,e39,e40,e41,-⟩:=F0
  obtain⟨e42,e43,-,e45,e46,-⟩:=F1
  simp only[AA,AD,zC,zR,AN,AM,and_false,or_false,zL] at*
  clear hg
  intro h
  have h0:=h46.1 h
  refine⟨h0.1,h0.2,?_,?_,?_,?_,?_,?_⟩<;>first|(unfold AX;grind)|(unfold Ac;grind)|(unfold Ab;grind)|(refine AU ?_;unfold Aw;simp only[Bool.not_eq_true',decide_eq_false_iff_not];grind)|(refine AU ?_;unfold Ao;simp only[Bool.and_eq_true,Bool.not_eq_true',decide_eq_false_iff_not];grind)|(refine AU ?_;unfold BI;simp only[decide_eq_true_eq];grind)
 have h47:(B T 47)=BU g:=by
  obtain⟨-,-,-,-,-,e47,-⟩:=F1
  replace e47:B T 47=(BU g1):=by rw[←show gAt 0 (mg.map (Rf.eval T))=g1 from z1.symm];exact e47
  rw[e47,hgA]
 have h50:(B T 50)=(DR g&&CI g&&((Ag g&&Ct g)||(!Ag g&&Cm g))):=by
  obtain⟨-,-,-,-,-,-,-,-,e50,-⟩:=F1
  replace e50:B T 50=(DR g1&&CI g1&&((Ag g1&&Ct g1)||(!Ag g1&&Cm g1))):=by rw[←show gAt 0 (mg.map (Rf.eval T))=g1 from z1.symm];exact e50
  rw[e50,hgA]
 have hleg:(B T 54)=true↔AR g=true:=by
  obtain⟨-,-,-,e45,e46,-,e48,-,-,e51,-,-,e54,-⟩:=F1
  simp only[AA,AD,zN,zR] at*
  have e:AR g=(BU g&&(DR g&&CI g&&((Ag g&&Ct g)||(!Ag g&&Cm g)))):=by unfold AR;simp only[Bool.and_assoc]
  rw[e,←h47,←h50,Bool.and_eq_true]
  have hn:(B T 47)=true→B T 46=true:=by intro h;rw[h47] at h;have:=DB h;rw[hcode] at this;exact h46.2 ⟨this.1,this.2.1⟩
  clear hcd h46 hg e h47 h50
  grind
 have h56:(B T 56)=true↔¬AR g=true:=by
  obtain⟨-,-,-,-,-,-,-,-,-,e51,-,e53,e54,-,e56,-⟩:=F1
  simp only[AA,AD,zN,zR,zL] at*
  clear hg h46 hcd h47 h50
  grind
 have hpt:(B T 54)=true→(0≤I T 5∧I T 5≤13)∧(0≤I T 6∧I T 6≤13)∧(0≤I T 7∧I T 7≤13)∧(0≤I T 8∧I T 8≤13):=by
  obtain⟨-,-,-,-,-,-,-,-,-,-,-,-,e54,-⟩:=F1
  simp only[AA,AD,zR] at e54
  intro h
  have p:=Jl (hleg.1 h)
  rw[hg] at p;exact p
 have h37:(B T 54)=true→I T 37=AX (I T 0):=by
  obtain⟨-,-,-,e45,e46,-,e48,-,-,e51,-,-,e54,-⟩:=F1
  simp only[AA,AD,zN,zR] at*
  intro h
  exact (hcd (by clear hcd h56 hpt hg h46;grind)).2.2.1
 have hq:(B T 71)=true→(((B T 9)=true→¬I T 5=13)∧((B T 10)=true→¬I T 6=13)∧((B T 11)=true→¬I T 7=13)∧((B T 12)=true→¬I T 8=13))∧(0≤I T 2∧I T 2≤1)∧(0≤I T 1∧I T 1≤4)∧((I T 24)= -1∨(0≤I T 24∧I T 24≤3∧4≤I T 22∧I T 1=0))∧B T 57=true:=by
  obtain⟨-,-,-,-,-,-,-,-,-,-,-,e53,e54,-,e56,e57,-⟩:=F1
  obtain⟨-,-,-,e61,-,-,-,-,-,-,-,-,-,e71,-⟩:=F2
  simp only[AA,AD,zN,zR,zL] at*
  intro h
  have h57:(B T 57)=true:=by clear hcd h46 h47 h50 hpt h37 hleg h56 hg hgA;grind
  have hl:AR g=true:=hleg.1 (by clear hcd h46 h47 h50 hpt h37 hleg h56 hg hgA;grind)
  have a:=KP hl
  have b:=(CS hl).side
  have c:=Pa hl
  have d:=QI hl
  rw[hg] at a b c d
  exact⟨a,b,c,d,h57⟩
 have hsg:g.side=I T 2∧g.phase=I T 1:=by rw[hg];exact⟨rfl,rfl⟩
 have hts:Ag g=true↔B T 65=true:=by
  obtain⟨-,-,-,-,e62,-,e64,e65,-⟩:=F2
  simp only[AA,AD,zR] at e62 e64 e65
  clear hcd h46 h47 h50 hpt h37 hleg h56 hq hgA
  subst hg
  simp only[Ag,Bool.or_eq_true,decide_eq_true_eq]
  grind
 have h104:(B T 71)=true→L T 104=Co g (I T 2):=by
  obtain⟨-,-,-,e77,e78,e79,-,e81,e82,e83,e84,e85,e86,e87,-,e89,-⟩:=F3
  obtain⟨e90,e91,-,e93,e94,e95,-,e97,-,-,-,-,-,-,e104,-⟩:=F4
  simp only[AA,AD,zN,zC,zR,AN,AM,and_false,or_false,zL,uR,Aj,zW] at*
  intro h71
  obtain⟨hin,hsd,hph,hlb,h57⟩:=hq h71
  clear hcd h46 h47 h50 hpt h37 hleg h56 hq hgA
  clear hph hlb hts hsg
  subst hg
  simp only[Co,MK,inS,AJ,AY,AS,Ke,mvU,zB]
  grind (splits:=100) [-List.append_assoc]
 have h106:(B T 71)=true→B T 106=true:=by
  obtain⟨-,-,-,-,-,-,-,-,-,-,e84,e85,-⟩:=F3
  obtain⟨-,-,-,-,-,-,-,-,-,e99,-,e101,-⟩:=F4
  obtain⟨e106,-⟩:=F5
  simp only[AA,AD,zN,zC,zR] at*
  intro h71
  obtain⟨hin,hsd,hph,hlb,h57⟩:=hq h71
  clear hcd h46 h47 h50 hpt h37 hleg h56 hq hgA
  clear hph hlb hts hin hsd hsg h104 hg
  grind
 have h134:(B T 71)=true→L T 134=L T 104++Co g ((I T 2)+2):=by
  obtain⟨-,e107,e108,e109,e110,-,e112,e113,e114,e115,e116,e117,e118,-,e120,e121,-⟩:=F5
  obtain⟨e122,-,e124,e125,e126,-,e128,-,-,-,-,-,e134,-⟩:=F6
  simp only[AA,AD,zN,zC,zR,AN,AM,and_false,or_false,Af,zL,uR,Aj,zW] at*
  intro h71
  obtain⟨hin,hsd,hph,hlb,h57⟩:=hq h71
  clear hcd h46 h47 h50 hpt h37 hleg h56 hq hgA
  have h106:=h106 h71
  clear hph hlb hts hsg h104
  rw[e118,List.append_assoc] at e126
  subst hg
  simp only[Co,MK,inS,AJ,AY,AS,Ke,mvU,zB]
  grind (splits:=100) [-List.append_assoc]
 have h137:(B T 71)=true→B T 137=true:=by
  obtain⟨-,-,-,-,-,-,-,-,-,e115,e116,-⟩:=F5
  obtain⟨-,-,-,-,-,-,-,-,e130,-,e132,-,-,-,-,e137,-⟩:=F6
  simp only[AA,AD,zN,zC,zR] at*
  intro h71
  obtain⟨hin,hsd,hph,hlb,h57⟩:=hq h71
  clear hcd h46 h47 h50 hpt h37 hleg h56 hq hgA
  have h106:=h106 h71
  clear hph hlb hts hin hsd hsg h104 hg h134
  grind
 have h155:(B T 71)=true→L T 155=L T 134++Ij g:=by
  obtain⟨-,-,-,-,-,-,-,-,-,-,-,-,e150,e151,e152,e153,-⟩:=F7
  obtain⟨-,e155,-⟩:=F8
  simp only[AA,AD,zN,zC,zR,zL,uR,Aj,zW] at*
  intro h71
  obtain⟨hin,hsd,hph,hlb,h57⟩:=hq h71
  clear hcd h46 h47 h50 hpt h37 hleg h56 hq hgA
  have h137:=h137 h71
  clear hph hlb hts hin hsd hsg h104 h134 h106
  subst hg
  simp only[Ij,mvU,zB]
  grind (splits:=100) [-List.append_assoc]
 have h180:(B T 71)=true→B T 160=false→L T 180=L T 155++C1 g++C0 g:=by
  obtain⟨-,-,-,-,-,-,-,-,-,-,-,-,e150,-⟩:=F7
  obtain⟨-,-,-,e157,-,e159,e160,-,e162,e163,e164,e165,e166,e167,e168,e169,-⟩:=F8
  obtain⟨e170,e171,e172,-,e174,-,-,e177,e178,-,e180,-⟩:=F9
  simp only[AA,AD,zN,zC,zR,AN,AM,and_false,or_false,Af,zL,uR,Aj,zW] at*
  intro h71
  obtain⟨hin,hsd,hph,hlb,h57⟩:=hq h71
  clear hcd h46 h47 h50 hpt h37 hleg h56 hq hgA
  intro h160
  have h137:=h137 h71
  clear hph hts hin hsd hsg h104 h134 h106 h155
  subst hg
  simp only[C1,C0,HO,mvU,zB]
  grind (splits:=100) [-List.append_assoc]
 have hnb:(B T 160)=true→B T 71=true→C1 g=[]∧C0 g=[]:=by
  obtain⟨-,-,-,-,-,-,-,-,-,-,-,-,e150,-⟩:=F7
  obtain⟨-,-,-,e157,-,e159,e160,-⟩:=F8
  simp only[AA,AD,zC,zR] at*
  intro h160
  intro h71
  obtain⟨hin,hsd,hph,hlb,h57⟩:=hq h71
  clear hcd h46 h47 h50 hpt h37 hleg h56 hq hgA
  clear hph hts hin hsd hsg h104 h134 h106 h155 h180 h137
  subst hg
  simp only[C1,C0,zB]
  grind (splits:=100) [-List.append_assoc]
 have hmv:(B T 57)=true→L T 206=C2 g:=by
  obtain⟨-,e59,e60,e61,e62,-,e64,e65,e66,e67,e68,e69,e70,e71,-⟩:=F2
  obtain⟨e74,-,e76,-⟩:=F3
  obtain⟨-,-,-,-,-,-,-,-,-,e99,e100,-⟩:=F4
  obtain⟨-,-,-,-,-,-,-,-,e130,e131,-⟩:=F6
  obtain⟨-,-,-,-,-,-,-,-,-,-,-,e149,-⟩:=F7
  obtain⟨-,-,-,-,-,-,-,e161,e162,-⟩:=F8
  obtain⟨e186,-,-,-,-,-,-,-,-,e195,-,-,e198,-⟩:=F10
  obtain⟨-,e203,-,-,e206,-⟩:=F11
  simp only[AA,AD,zN,zC,zR,zL,uR,Aj,zW] at*
  intro h57
  clear hcd h46 h47 h50 hpt h37 hleg h56 hgA hg
  obtain⟨e1,e2⟩:=hsg
  unfold C2
  rw[e1,e2]
  cases k65:(B T 65) with
  |true=>
   rw[if_pos (hts.2 k65)]
   simp only[mvU]
   clear hq h104 h106 h134 h137 h155 h180 hnb
   grind [-List.append_assoc]
  |false=>
   rw[if_neg (by rw[hts,k65];decide)]
   by_cases h4:(I T 1)=4
   ·rw[if_pos h4]
    clear hq h104 h106 h134 h137 h155 h180 hnb
    grind [-List.append_assoc]
   ·rw[if_neg h4]
    have h71:(B T 71)=true:=by clear hq h104 h106 h134 h137 h155 h180 hnb;grind [-List.append_assoc]
    have h137:=h137 h71
    rw[←h104 h71,←h134 h71,←h155 h71]
    cases k160:(B T 160) with
    |true=>
     rw[(hnb k160 h71).1,(hnb k160 h71).2,List.append_nil,List.append_nil]
     clear hq h104 h106 h134 h155 h180 hnb
     grind [-List.append_assoc]
    |false=>
     rw[←h180 h71 k160]
     clear hq h104 h106 h134 h155 h180 hnb
     grind [-List.append_assoc]
 refine⟨?_,?_,?_,?_,?_,?_,?_,?_,?_,?_,?_,?_,?_,?_,?_,?_,?_,?_,?_,?_⟩
 ·obtain⟨-,-,-,-,-,-,-,-,-,-,-,e53,e54,-,e56,e57,-⟩:=F1
  obtain⟨-,-,-,-,-,-,-,-,-,-,-,-,e214,-⟩:=F11
  simp only[AA,AD,zR,zL] at*
  clear hcd h46 h47 h50 hg hpt h37 hq hsg hts h104 h106 h134 h137 h155 h180 hnb
  cases hx:AR g with
  |false=>rw[if_neg (by decide)];grind
  |true=>rw[if_pos rfl];grind
 ·obtain⟨-,-,-,-,-,-,-,-,-,-,-,e53,e54,-,e56,-⟩:=F1
  obtain⟨-,-,-,e221,-⟩:=F12
  simp only[AA,AD,zR,zL] at*
  clear hcd h46 h47 h50 hg hpt h37 hq hsg hts h104 h106 h134 h137 h155 h180 hnb hmv
  cases hx:AR g with
  |false=>rw[if_neg (by decide)];grind
  |true=>rw[if_pos rfl];grind
 ·obtain⟨e26,-,e28,e29,-,e31,e32,e33,e34,e35,e36,e37,e38,e39,e40,e41,-⟩:=F0
  obtain⟨e42,e43,-,e45,-,e47,e48,-,e50,e51,-,e53,-,-,e56,e57,-⟩:=F1
  obtain⟨-,e59,-,e61,e62,-,e64,e65,-,-,-,-,-,e71,-⟩:=F2
  obtain⟨-,-,-,e77,e78,e79,-,e81,e82,e83,e84,e85,e86,e87,-⟩:=F3
  obtain⟨e90,e91,-,e93,e94,e95,-,e97,-,e99,-,e101,-,-,e104,-⟩:=F4
  obtain⟨e106,e107,e108,e109,e110,-,e112,e113,e114,e115,e116,e117,e118,-,-,e121,-⟩:=F5
  obtain⟨e122,-,e124,e125,e126,-,e128,-,e130,-,e132,-,e134,-,-,e137,-⟩:=F6
  obtain⟨-,-,-,-,-,-,-,-,-,-,-,-,e150,e151,e152,e153,-⟩:=F7
  obtain⟨-,e155,-,e157,-,e159,e160,-,e162,e163,e164,e165,e166,e167,e168,e169,-⟩:=F8
  obtain⟨-,e171,e172,-,e174,-,e176,e177,-⟩:=F9
  replace e47:B T 47=(BU g1):=by rw[←show gAt 0 (mg.map (Rf.eval T))=g1 from z1.symm];exact e47
  replace e50:B T 50=(DR g1&&CI g1&&((Ag g1&&Ct g1)||(!Ag g1&&Cm g1))):=by rw[←show gAt 0 (mg.map (Rf.eval T))=g1 from z1.symm];exact e50
  simp only[AA,AD,zN,zC,zR,AN,AM,and_false,or_false,Af,zL,uR,Aj,zW] at*
  intro _
  (try simp only[List.length_nil])
  omega
 ·obtain⟨e26,-,e28,e29,-,e31,e32,e33,e34,e35,e36,e37,e38,e39,e40,e41,-⟩:=F0
  obtain⟨e42,e43,-,e45,-,e47,e48,-,e50,e51,-,e53,-,-,e56,e57,-⟩:=F1
  obtain⟨-,e59,-,e61,e62,-,e64,e65,-,-,-,-,-,e71,-⟩:=F2
  obtain⟨-,-,-,e77,e78,e79,-,e81,e82,e83,e84,e85,e86,e87,-⟩:=F3
  obtain⟨e90,e91,-,e93,e94,e95,-,e97,-,e99,-,e101,-,-,e104,-⟩:=F4
  obtain⟨e106,e107,e108,e109,e110,-,e112,e113,e114,e115,e116,e117,e118,-,-,e121,-⟩:=F5
  obtain⟨e122,-,e124,e125,e126,-,e128,-,e130,-,e132,-,e134,-,-,e137,-⟩:=F6
  obtain⟨-,-,-,-,-,-,-,-,-,-,-,-,e150,e151,e152,e153,-⟩:=F7
  obtain⟨-,e155,-,e157,-,e159,e160,-,e162,e163,e164,e165,e166,-⟩:=F8
  obtain⟨-,e171,-⟩:=F9
  replace e47:B T 47=(BU g1):=by rw[←show gAt 0 (mg.map (Rf.eval T))=g1 from z1.symm];exact e47
  replace e50:B T 50=(DR g1&&CI g1&&((Ag g1&&Ct g1)||(!Ag g1&&Cm g1))):=by rw[←show gAt 0 (mg.map (Rf.eval T))=g1 from z1.symm];exact e50
  simp only[AA,AD,zN,zC,zR,AN,AM,and_false,or_false,Af,zL,uR,Aj,zW] at*
  intro _
  (try simp only[List.length_nil])
  omega
 ·obtain⟨-,-,-,-,-,-,-,-,-,-,e84,e85,-⟩:=F3
  obtain⟨-,-,-,-,-,-,-,-,-,-,-,e101,-⟩:=F4
  obtain⟨e106,-,-,-,-,-,-,-,-,e115,e116,-⟩:=F5
  obtain⟨-,-,-,-,-,-,-,-,-,e131,e132,-,-,-,-,e137,-⟩:=F6
  obtain⟨-,-,-,-,-,e159,e160,-,e162,e163,-⟩:=F8
  simp only[AA,AD,zN,zR,Af] at*
  clear hcd h46 h47 h50 hg hpt h37 hleg h56 hgA hsg hts h104 h134 h155 h180 hnb hmv
  intro h
  have h71:(B T 71)=true:=by clear hq h106 h137;grind
  obtain⟨-,-,-,h4,-⟩:=hq h71
  have h159:¬I T 24= -1:=by clear hq h106 h137;grind
  clear hq h106 h137
  have h5:0≤I T 24:=by omega
  rw[e163]
  first|omega|(rw[Int.tmod_eq_emod_of_nonneg h5];omega)
 ·obtain⟨e26,-,e28,e29,-,e31,e32,e33,e34,e35,e36,e37,e38,e39,e40,e41,-⟩:=F0
  obtain⟨e42,e43,-,e45,-,e47,e48,-,e50,e51,-,e53,-,-,e56,e57,-⟩:=F1
  obtain⟨-,e59,-,e61,e62,-,e64,e65,-,-,-,-,-,e71,-⟩:=F2
  obtain⟨-,-,-,e77,e78,e79,-,e81,e82,e83,e84,e85,e86,e87,-⟩:=F3
  obtain⟨e90,e91,-,e93,e94,e95,-,e97,-,e99,-,e101,-,-,e104,-⟩:=F4
  obtain⟨e106,e107,e108,e109,e110,-,e112,e113,e114,e115,e116,e117,e118,-,-,e121,-⟩:=F5
  obtain⟨e122,-,e124,e125,e126,-,e128,-,e130,-,e132,-,e134,-,-,e137,-⟩:=F6
  obtain⟨-,-,-,-,-,-,-,-,-,-,-,-,e150,e151,e152,-⟩:=F7
  replace e47:B T 47=(BU g1):=by rw[←show gAt 0 (mg.map (Rf.eval T))=g1 from z1.symm];exact e47
  replace e50:B T 50=(DR g1&&CI g1&&((Ag g1&&Ct g1)||(!Ag g1&&Cm g1))):=by rw[←show gAt 0 (mg.map (Rf.eval T))=g1 from z1.symm];exact e50
  simp only[AA,AD,zN,zC,zR,AN,AM,and_false,or_false,Af,zL,uR,Aj,zW] at*
  intro _
  (try simp only[List.length_nil])
  omega
 ·obtain⟨e26,-,e28,e29,-,e31,e32,e33,e34,e35,e36,e37,e38,e39,e40,e41,-⟩:=F0
  obtain⟨e42,e43,-,e45,-,e47,e48,-,e50,e51,-,e53,-,-,e56,e57,-⟩:=F1
  obtain⟨-,e59,-,e61,e62,-,e64,e65,-,-,-,-,-,e71,-⟩:=F2
  obtain⟨-,-,-,e77,e78,e79,-,e81,e82,e83,e84,e85,e86,e87,-⟩:=F3
  obtain⟨e90,e91,-,e93,e94,e95,-,e97,-,e99,-,e101,-,-,e104,-⟩:=F4
  obtain⟨e106,e107,e108,e109,e110,-,e112,e113,e114,-,e116,e117,e118,-,-,e121,-⟩:=F5
  obtain⟨e122,-,e124,e125,-⟩:=F6
  replace e47:B T 47=(BU g1):=by rw[←show gAt 0 (mg.map (Rf.eval T))=g1 from z1.symm];exact e47
  replace e50:B T 50=(DR g1&&CI g1&&((Ag g1&&Ct g1)||(!Ag g1&&Cm g1))):=by rw[←show gAt 0 (mg.map (Rf.eval T))=g1 from z1.symm];exact e50
  simp only[AA,AD,zN,zC,zR,AN,AM,and_false,or_false,Af,zL,uR,Aj,zW] at*
  intro _
  (try simp only[List.length_nil])
  omega
 ·obtain⟨-,-,-,-,-,-,-,-,-,-,e84,e85,-⟩:=F3
  obtain⟨-,-,-,-,-,-,-,-,-,e99,e100,e101,-⟩:=F4
  obtain⟨e106,-,-,-,-,-,-,-,-,-,e116,-,-,-,e120,-⟩:=F5
  simp only[AA,AD,zN,zC,zR] at*
  clear hcd h46 h47 h50 hg hpt h37 hleg h56 hgA hsg hts h104 h134 h155 h180 hnb hmv
  intro h
  have h71:(B T 71)=true:=by clear hq h106 h137;grind
  obtain⟨-,h4,-,-,-⟩:=hq h71
  clear hq h106 h137
  omega
 ·obtain⟨e26,-,e28,e29,-,e31,e32,e33,e34,e35,e36,e37,e38,e39,e40,e41,-⟩:=F0
  obtain⟨e42,e43,-,e45,-,e47,e48,-,e50,e51,-,e53,-,-,e56,e57,-⟩:=F1
  obtain⟨-,e59,-,e61,e62,-,e64,e65,-,-,-,-,-,e71,-⟩:=F2
  obtain⟨-,-,-,e77,e78,e79,-,e81,e82,e83,e84,e85,e86,e87,-⟩:=F3
  obtain⟨e90,e91,-,e93,e94,e95,-,e97,-,e99,-,e101,-,-,e104,-⟩:=F4
  obtain⟨e106,e107,e108,e109,e110,-,e112,e113,e114,-,e116,e117,-⟩:=F5
  replace e47:B T 47=(BU g1):=by rw[←show gAt 0 (mg.map (Rf.eval T))=g1 from z1.symm];exact e47
  replace e50:B T 50=(DR g1&&CI g1&&((Ag g1&&Ct g1)||(!Ag g1&&Cm g1))):=by rw[←show gAt 0 (mg.map (Rf.eval T))=g1 from z1.symm];exact e50
  simp only[AA,AD,zN,zC,zR,AN,AM,and_false,or_false,Af,zL,uR,Aj,zW] at*
  intro _
  (try simp only[List.length_nil])
  omega
 ·obtain⟨e26,-,e28,e29,-,e31,e32,e33,e34,e35,e36,e37,e38,e39,e40,e41,-⟩:=F0
  obtain⟨e42,e43,-,e45,-,e47,e48,-,e50,e51,-,e53,-,-,e56,e57,-⟩:=F1
  obtain⟨-,e59,-,e61,e62,-,e64,e65,-,-,-,-,-,e71,-⟩:=F2
  obtain⟨-,-,-,e77,e78,e79,-,e81,e82,e83,-,e85,e86,e87,-⟩:=F3
  obtain⟨e90,e91,-,e93,e94,-⟩:=F4
  replace e47:B T 47=(BU g1):=by rw[←show gAt 0 (mg.map (Rf.eval T))=g1 from z1.symm];exact e47
  replace e50:B T 50=(DR g1&&CI g1&&((Ag g1&&Ct g1)||(!Ag g1&&Cm g1))):=by rw[←show gAt 0 (mg.map (Rf.eval T))=g1 from z1.symm];exact e50
  simp only[AA,AD,zN,zC,zR,AN,AM,and_false,or_false,zL,uR,Aj,zW] at*
  intro _
  (try simp only[List.length_nil])
  omega
 ·obtain⟨-,-,-,-,-,-,-,-,-,-,-,e85,-,-,-,e89,-⟩:=F3
  simp only[AA,AD,zN,zR] at e85 e89
  clear hcd h46 h47 h50 hg hpt h37 hleg h56 hgA hsg hts h104 h134 h155 h180 hnb hmv
  intro h
  have h71:(B T 71)=true:=by clear hq h106 h137;grind
  obtain⟨-,h4,-,-,-⟩:=hq h71
  clear hq h106 h137
  omega
 ·obtain⟨e26,-,e28,e29,-,e31,e32,e33,e34,e35,e36,e37,e38,e39,e40,e41,-⟩:=F0
  obtain⟨e42,e43,-,e45,-,e47,e48,-,e50,e51,-,e53,-,-,e56,e57,-⟩:=F1
  obtain⟨-,e59,-,e61,e62,-,e64,e65,-,-,-,-,-,e71,-⟩:=F2
  obtain⟨-,-,-,e77,e78,e79,-,e81,e82,e83,-,e85,e86,-⟩:=F3
  replace e47:B T 47=(BU g1):=by rw[←show gAt 0 (mg.map (Rf.eval T))=g1 from z1.symm];exact e47
  replace e50:B T 50=(DR g1&&CI g1&&((Ag g1&&Ct g1)||(!Ag g1&&Cm g1))):=by rw[←show gAt 0 (mg.map (Rf.eval T))=g1 from z1.symm];exact e50
  simp only[AA,AD,zN,zC,zR,AN,AM,and_false,or_false,zL,uR,Aj,zW] at*
  intro _
  (try simp only[List.length_nil])
  omega
 ·obtain⟨e26,-,e28,e29,-,e31,e32,e33,e34,e35,e36,e37,e38,e39,e40,e41,-⟩:=F0
  obtain⟨e42,e43,-,e45,-,e47,e48,-,e50,e51,-,e53,-,-,e56,e57,-⟩:=F1
  obtain⟨-,e59,-,e61,e62,-,e64,e65,-,-,-,-,-,e71,-⟩:=F2
  replace e47:B T 47=(BU g1):=by rw[←show gAt 0 (mg.map (Rf.eval T))=g1 from z1.symm];exact e47
  replace e50:B T 50=(DR g1&&CI g1&&((Ag g1&&Ct g1)||(!Ag g1&&Cm g1))):=by rw[←show gAt 0 (mg.map (Rf.eval T))=g1 from z1.symm];exact e50
  simp only[AA,AD,zN,zC,zR,AN,AM,and_false,or_false,zL] at*
  clear hcd h46 h47 h50 hg hpt h37 hleg h56 hgA hsg hts h104 h134 h155 h180 hnb hmv
  intro h
  obtain⟨-,h4,-,-,-⟩:=hq h
  clear hq h106 h137
  omega
 ·obtain⟨e26,-,e28,e29,-,e31,e32,e33,e34,e35,e36,e37,e38,e39,e40,e41,-⟩:=F0
  obtain⟨e42,e43,-,e45,-,e47,e48,-,e50,e51,-,e53,-,-,e56,e57,-⟩:=F1
  obtain⟨-,e59,-,e61,e62,-,e64,e65,e66,e67,e68,e69,-⟩:=F2
  replace e47:B T 47=(BU g1):=by rw[←show gAt 0 (mg.map (Rf.eval T))=g1 from z1.symm];exact e47
  replace e50:B T 50=(DR g1&&CI g1&&((Ag g1&&Ct g1)||(!Ag g1&&Cm g1))):=by rw[←show gAt 0 (mg.map (Rf.eval T))=g1 from z1.symm];exact e50
  simp only[AA,AD,zN,zC,zR,AN,AM,and_false,or_false,zL,uR,Aj,zW] at*
  intro _
  (try simp only[List.length_nil])
  omega
 ·obtain⟨e26,-,e28,e29,-,e31,e32,e33,e34,e35,e36,e37,e38,e39,e40,e41,-⟩:=F0
  obtain⟨e42,e43,-,e45,-,e47,e48,-,e50,e51,-,e53,-,-,e56,e57,-⟩:=F1
  obtain⟨-,e59,-,e61,e62,-,e64,e65,e66,e67,-⟩:=F2
  replace e47:B T 47=(BU g1):=by rw[←show gAt 0 (mg.map (Rf.eval T))=g1 from z1.symm];exact e47
  replace e50:B T 50=(DR g1&&CI g1&&((Ag g1&&Ct g1)||(!Ag g1&&Cm g1))):=by rw[←show gAt 0 (mg.map (Rf.eval T))=g1 from z1.symm];exact e50
  simp only[AA,AD,zN,zC,zR,AN,AM,and_false,or_false,zL,uR,Aj,zW] at*
  intro _
  (try simp only[List.length_nil])
  omega
 ·obtain⟨-,-,-,-,-,-,-,-,-,-,-,e53,e54,-,e56,e57,-⟩:=F1
  simp only[AA,AD,zR,zL] at*
  grind (splits:=100)
 ·obtain⟨-,-,-,e45,e46,-,e48,e49,-⟩:=F1
  simp only[AA,AD,zN,zR] at*
  intro h
  exact hcd (by clear hq hmv hts h104 h106 h134 h137 h155 h180 hnb hcd h56 hpt hg hleg;grind)
 ·obtain⟨-,-,-,-,-,-,e48,e49,-⟩:=F1
  simp only[AA,AD,zN,zR] at e48 e49
  intro h
  rw[hgA,←h47]
  clear hcd h50 hg
  grind
 ·obtain⟨-,-,-,-,e46,-⟩:=F1
  simp only[AA,AD,zR] at e46
  exact hcd
 ·obtain⟨e26,-,e28,e29,e30,-⟩:=F0
  simp only[AA,AD,zR] at*
  clear hcd h50 hg h47
  grind
theorem pF:CA Try.prog 18 mx:=by
 refine Bu (l:=[(45,II),(46,EX)]) C6 (by simp only[List.forall_mem_cons];exact⟨Wj,TJ,fun _ h=>absurd h (by simp)⟩) pO (by kernel_rfl) fun T us hpre hT hul hS hBd hE=>?_
 change us.length=26 at hul
 clear hBd
 obtain⟨g,hg⟩:∃g:Gm,g=gT T 0:=⟨_,rfl⟩
 have hgu:gAt 0 us=g:=by rw[hg];exact DV hT hul (by decide)
 clear hpre
 skip
 obtain⟨A0,hO⟩:=CK (tys:=[.l,.i]) (rs:=oB) hS (by kernel_rfl) hE
 obtain⟨g1,z1⟩:∃g:Gm,g=gT T 0:=⟨_,rfl⟩
 obtain⟨q0,q1,r0,r1,r2,r3,r4,r5,r6,r7,r8,r9,r10,r11,r12,r13,r14,r15,r16,r17⟩:=pJ g hg g1 z1 A0
 refine⟨⟨r0,r1,r2,r3,r4,r5,r6,r7,r8,r9,r10,r11,r12,r13,r14,(fun hp=>by show DP _;unfold DP;rw[show gAt 0 (mg.map (Rf.eval T))=g1 from z1.symm];exact r15 hp),r16,r17,trivial⟩,hO.trans ?_⟩
 exact (lc (by show U.list (L T 214)= .list (mv us);unfold mv;rw[hgu];exact congrArg U.list q0) (lc (by show U.int (I T 221)= .int (mw us);unfold mw;rw[hgu];exact congrArg U.int q1) rfl))
end Go.Eng
end
