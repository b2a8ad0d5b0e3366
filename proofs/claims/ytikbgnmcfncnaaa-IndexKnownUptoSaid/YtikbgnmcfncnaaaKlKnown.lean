/-
  A part of the proof: K_lKnownd K_lKnown.
-/
import Derived.Test.YtikbgnmcfncnaaaXQlKnown
import Derived.Test.YtikbgnmcfncnaaaE4
import Derived.Test.YtikbgnmcfncnaaaE5
import Derived.Test.YtikbgnmcfncnaaaKGain
import Derived.Test.YtikbgnmcfncnaaaKHalves
import Derived.Test.YtikbgnmcfncnaaaKCount
import Derived.Test.YtikbgnmcfncnaaaKTrigger
import Derived.Test.YtikbgnmcfncnaaaKTable
import Derived.Test.YtikbgnmcfncnaaaKcompare
import Derived.Test.YtikbgnmcfncnaaaKworks
set_option linter.unusedVariables false
set_option linter.unusedSimpArgs false
noncomputable section
open Go Go.Eng Go.Proofs
set_option maxHeartbeats 4000000
set_option maxRecDepth 100000
namespace Go.Eng
def jP:List Kd:=[]
def jW:List AC:=((Fg Try.prog 9 Try.f6.params.toList 0).map (·.1)).getD []
def jT:List Rf:=[.e 98,.e 99,.e 100,.e 101,.e 102,.e 103,.e 105,.e 106,.e 107,.e 108,.e 109,.e 110]
def jc:List En:=[⟨0,.row 3 3 [.s,.i,.i,.s,.i,.i,.s,.i,.i],[.c (.str ⟨#[97,110,110]⟩),.c (.int 2000),.c (.int 0),.c (.str ⟨#[98,111,98]⟩),.c (.int 1500),.c (.int 10),.c (.str ⟨#[99,97,116]⟩),.c (.int 1000),.c (.int 20)]⟩,
 ⟨1,.outI "Gain.0" G5,[.c (.int 2000),.c (.int 1500),.c (.bool true)]⟩,
 ⟨2,.outI "Gain.1" HS,[.c (.int 2000),.c (.int 1500),.c (.bool true)]⟩,
 ⟨3,.outI "Gain.0" G5,[.c (.int 1500),.c (.int 2000),.c (.bool true)]⟩,
 ⟨4,.outI "Gain.1" HS,[.c (.int 1500),.c (.int 2000),.c (.bool true)]⟩,
 ⟨5,.outI "Gain.0" G5,[.c (.int 2000),.c (.int 1500),.c (.bool false)]⟩,
 ⟨6,.outI "Gain.1" HS,[.c (.int 2000),.c (.int 1500),.c (.bool false)]⟩,
 ⟨7,.id .i,[.c (.int 0)]⟩,
 ⟨8,.get .s 0,[.e 0,.e 7]⟩,
 ⟨9,.get .i 1,[.e 0,.e 7]⟩,
 ⟨10,.get .i 2,[.e 0,.e 7]⟩,
 ⟨11,.id .i,[.c (.int 2)]⟩,
 ⟨12,.get .s 0,[.e 0,.e 11]⟩,
 ⟨13,.get .i 1,[.e 0,.e 11]⟩,
 ⟨14,.get .i 2,[.e 0,.e 11]⟩,
 ⟨15,.outI "Halves.0" jM,[.e 8,.e 9,.e 10,.e 12,.e 13,.e 14]⟩]
def je:List En:=[⟨16,.outI "Halves.1" jN,[.e 8,.e 9,.e 10,.e 12,.e 13,.e 14]⟩,
 ⟨17,.outI "Halves.2" jL,[.e 8,.e 9,.e 10,.e 12,.e 13,.e 14]⟩,
 ⟨18,.id .i,[.c (.int 1)]⟩,
 ⟨19,.get .s 0,[.e 0,.e 18]⟩,
 ⟨20,.get .i 1,[.e 0,.e 18]⟩,
 ⟨21,.get .i 2,[.e 0,.e 18]⟩,
 ⟨22,.outS "Count.0" GU,[.c (.str ⟨#[99,97,116]⟩),.c (.int 1040),.c (.int 20),.e 19,.e 20,.e 21,.c (.bool false)]⟩,
 ⟨23,.outI "Count.1" GT,[.c (.str ⟨#[99,97,116]⟩),.c (.int 1040),.c (.int 20),.e 19,.e 20,.e 21,.c (.bool false)]⟩,
 ⟨24,.outI "Count.2" GL,[.c (.str ⟨#[99,97,116]⟩),.c (.int 1040),.c (.int 20),.e 19,.e 20,.e 21,.c (.bool false)]⟩,
 ⟨25,.outS "Count.3" GR,[.c (.str ⟨#[99,97,116]⟩),.c (.int 1040),.c (.int 20),.e 19,.e 20,.e 21,.c (.bool false)]⟩,
 ⟨26,.outI "Count.4" GP,[.c (.str ⟨#[99,97,116]⟩),.c (.int 1040),.c (.int 20),.e 19,.e 20,.e 21,.c (.bool false)]⟩,
 ⟨27,.outI "Count.5" GF,[.c (.str ⟨#[99,97,116]⟩),.c (.int 1040),.c (.int 20),.e 19,.e 20,.e 21,.c (.bool false)]⟩,
 ⟨28,.outI "Count.6" GN,[.c (.str ⟨#[99,97,116]⟩),.c (.int 1040),.c (.int 20),.e 19,.e 20,.e 21,.c (.bool false)]⟩,
 ⟨29,.w2 .i64 .add,[.e 2,.e 4]⟩,
 ⟨30,.w2 .i64 .add,[.e 29,.e 6]⟩,
 ⟨31,.w2 .i64 .add,[.e 30,.e 17]⟩]
def jb:List En:=[⟨32,.w2 .i64 .add,[.e 31,.e 28]⟩,
 ⟨33,.ne,[.e 32,.c (.int 0)]⟩,
 ⟨34,.not,[.e 33]⟩,
 ⟨35,.ne,[.e 1,.c (.int 6)]⟩,
 ⟨36,.or,[.e 33,.e 35]⟩,
 ⟨37,.not,[.e 36]⟩,
 ⟨38,.ne,[.e 3,.c (.int 14)]⟩,
 ⟨39,.or,[.e 36,.e 38]⟩,
 ⟨40,.not,[.e 39]⟩,
 ⟨41,.ne,[.e 5,.c (.int 10)]⟩,
 ⟨42,.or,[.e 39,.e 41]⟩,
 ⟨43,.not,[.e 42]⟩,
 ⟨44,.nes [.i,.i],[.e 15,.c (.int 0),.e 16,.c (.int 20)]⟩,
 ⟨45,.or,[.e 42,.e 44]⟩,
 ⟨46,.not,[.e 45]⟩,
 ⟨47,.nes [.s,.i,.i],[.e 22,.c (.str ⟨#[99,97,116]⟩),.e 23,.c (.int 1050),.e 24,.c (.int 19)]⟩]
def jh:List En:=[⟨48,.or,[.e 45,.e 47]⟩,
 ⟨49,.not,[.e 48]⟩]
def jO:List En:=jc++(je++(jb++(jh)))
def ji:List En:=[⟨51,.lt,[.e 50,.c (.int 4)]⟩,
 ⟨52,.and,[.e 49,.e 51]⟩,
 ⟨53,.and,[.e 49,.n 51]⟩,
 ⟨54,.row 4 1 [.i,.i,.i,.i],[.c (.int (-12)),.c (.int 0),.c (.int 1),.c (.int 48)]⟩,
 ⟨55,.get .i 0,[.e 54,.e 50]⟩,
 ⟨56,.outI "Trigger.0" FU,[.e 55]⟩,
 ⟨57,.outI "Trigger.1" Fh,[.e 55]⟩,
 ⟨58,.ne,[.e 57,.c (.int 0)]⟩,
 ⟨59,.and,[.e 52,.n 58]⟩,
 ⟨60,.row 4 1 [.i,.i,.i,.i],[.c (.int 2480),.c (.int 2000),.c (.int 1950),.c (.int (-400))]⟩,
 ⟨61,.get .i 0,[.e 60,.e 50]⟩,
 ⟨62,.ne,[.e 56,.e 61]⟩,
 ⟨63,.or,[.e 58,.e 62]⟩,
 ⟨64,.and,[.e 52,.e 63]⟩,
 ⟨65,.and,[.e 52,.n 63]⟩,
 ⟨66,.w2 .i64 .add,[.e 50,.c (.int 1)]⟩]
def jI:List En:=ji
def jU:List ObE:=[⟨some 59,.inl,[.e 50,.e 60]⟩,⟨some 52,.inl,[.e 50,.e 54]⟩]
def jJ:Ag:=mkD 50 1 jI 65 [.e 66] jU [49]
def jK:List Rf:=[.e 49,.c (.int 0)]
def jf:List En:=[⟨67,.row 3 9 [.i,.i,.i,.b,.s,.s,.b,.i,.i,.i,.i,.i,.b,.s,.s,.b,.i,.i,.i,.i,.i,.b,.s,.s,.b,.i,.i],[.c (.int 1),.c (.int 0),.c (.int 5),.c (.bool false),.c (.str ⟨#[97,110,110]⟩),.c (.str ⟨#[98,111,98]⟩),.c (.bool true),.c (.int 26),.c (.int 20),.c (.int 2),.c (.int 0),.c (.int 6),.c (.bool false),.c (.str ⟨#[98,111,98]⟩),.c (.str ⟨#[99,97,116]⟩),.c (.bool true),.c (.int 26),.c (.int 3),.c (.int 3),.c (.int 0),.c (.int 7),.c (.bool false),.c (.str ⟨#[99,97,116]⟩),.c (.str ⟨#[97,110,110]⟩),.c (.bool true),.c (.int 26),.c (.int 25)]⟩,
 ⟨68,.outL "Table.0" KF,[.e 0,.e 67,.c (.int 0),.c (.int 100)]⟩,
 ⟨69,.outI "Table.1" Jt,[.e 0,.e 67,.c (.int 0),.c (.int 100)]⟩,
 ⟨70,.ne,[.e 69,.c (.int 0)]⟩,
 ⟨71,.and,[.e 53,.n 70]⟩,
 ⟨72,.len,[.e 68]⟩,
 ⟨73,.ne,[.e 72,.c (.int 3)]⟩,
 ⟨74,.or,[.e 70,.e 73]⟩,
 ⟨75,.and,[.e 53,.n 74]⟩,
 ⟨76,.id .i,[.c (.int 1)]⟩,
 ⟨77,.get .s 0,[.e 68,.e 76]⟩,
 ⟨78,.nes [.s],[.e 77,.c (.str ⟨#[97,110,110]⟩)]⟩,
 ⟨79,.or,[.e 74,.e 78]⟩,
 ⟨80,.and,[.e 53,.n 79]⟩,
 ⟨81,.id .i,[.c (.int 1)]⟩,
 ⟨82,.get .i 4,[.e 68,.e 81]⟩]
def jg:List En:=[⟨83,.ne,[.e 82,.c (.int 5)]⟩,
 ⟨84,.or,[.e 79,.e 83]⟩,
 ⟨85,.and,[.e 53,.n 84]⟩,
 ⟨86,.id .i,[.c (.int 2)]⟩,
 ⟨87,.get .s 0,[.e 68,.e 86]⟩,
 ⟨88,.nes [.s],[.e 87,.c (.str ⟨#[99,97,116]⟩)]⟩,
 ⟨89,.or,[.e 84,.e 88]⟩,
 ⟨90,.and,[.e 53,.n 89]⟩,
 ⟨91,.id .i,[.c (.int 2)]⟩,
 ⟨92,.get .i 4,[.e 68,.e 91]⟩,
 ⟨93,.ne,[.e 92,.c (.int (-22))]⟩,
 ⟨94,.or,[.e 89,.e 93]⟩,
 ⟨95,.and,[.e 53,.e 94]⟩,
 ⟨96,.and,[.e 53,.n 94]⟩,
 ⟨97,.id .i,[.c (.int 0)]⟩,
 ⟨98,.get .s 0,[.e 68,.e 97]⟩]
def jY:List En:=[⟨99,.get .i 1,[.e 68,.e 97]⟩,
 ⟨100,.get .i 2,[.e 68,.e 97]⟩,
 ⟨101,.get .i 3,[.e 68,.e 97]⟩,
 ⟨102,.get .i 4,[.e 68,.e 97]⟩,
 ⟨103,.get .i 5,[.e 68,.e 97]⟩,
 ⟨104,.id .i,[.c (.int 1)]⟩,
 ⟨105,.get .s 0,[.e 68,.e 104]⟩,
 ⟨106,.get .i 1,[.e 68,.e 104]⟩,
 ⟨107,.get .i 2,[.e 68,.e 104]⟩,
 ⟨108,.get .i 3,[.e 68,.e 104]⟩,
 ⟨109,.get .i 4,[.e 68,.e 104]⟩,
 ⟨110,.get .i 5,[.e 68,.e 104]⟩,
 ⟨111,.outI "compare.0" Hl,jT⟩,
 ⟨112,.outI "compare.1" HZ,jT⟩,
 ⟨113,.lt,[.e 111,.c (.int 0)]⟩,
 ⟨114,.and,[.e 96,.e 113]⟩]
def jZ:List En:=[⟨115,.eq,[.e 112,.c (.int 3)]⟩,
 ⟨116,.and,[.e 113,.e 115]⟩,
 ⟨117,.and,[.e 96,.e 116]⟩,
 ⟨118,.outB "works.0" De,[]⟩,
 ⟨119,.and,[.e 116,.e 118]⟩,
 ⟨120,.ite .b,[.e 95,.c (.bool false),.e 119]⟩,
 ⟨121,.or,[.e 95,.e 96]⟩,
 ⟨122,.ite .b,[.e 64,.c (.bool false),.e 120]⟩,
 ⟨123,.or,[.e 64,.e 121]⟩,
 ⟨124,.ite .b,[.e 48,.c (.bool false),.e 122]⟩,
 ⟨125,.or,[.e 48,.e 123]⟩]
def jS:List En:=jf++(jg++(jY++(jZ)))
def jd:List ObE:=[⟨some 96,.inl,[.c (.int 1),.e 68]⟩,
 ⟨some 96,.inl,[.c (.int 0),.e 68]⟩,
 ⟨some 90,.inl,[.c (.int 2),.e 68]⟩,
 ⟨some 85,.inl,[.c (.int 2),.e 68]⟩,
 ⟨some 80,.inl,[.c (.int 1),.e 68]⟩,
 ⟨some 75,.inl,[.c (.int 1),.e 68]⟩,
 ⟨some 53,.pre "Table.p0" Hz,[.e 0,.e 67,.c (.int 0),.c (.int 100)]⟩,
 ⟨some 49,.owes jJ,[.e 49,.c (.int 0)]⟩,
 ⟨none,.inl,[.c (.int 1),.e 0]⟩,
 ⟨none,.inl,[.c (.int 2),.e 0]⟩,
 ⟨none,.inl,[.c (.int 0),.e 0]⟩]
def jq:List Rf:=[.e 124]
theorem js:TA 0 (VL Try.prog [(17,NZ),(28,jQ),(16,E7),(29,ID),(30,Du),(73,Hs),(15,HO)] AW 3000 20 6 jW 0)=some (124,(jO++((BU jJ [.i] jK)++(jI++(jS)))).map En.be,jd.map ObE.be):=by kernel_rfl
theorem jl {T:Tab}(hS:AK T (Ab (BK 0 jP) jO))(hB:Ac T (jI.map En.be))(hH:Ac T ((BU jJ [.i] jK).map En.be)):
  (jJ).owes (jK.map (Rf.eval T))∧AK T (hds 50 [.i])∧(0≤I T 50∧I T 50≤4)∧¬B T 65=true:=by
 refine CH (nh:=50) (k:=1) (pcn:=65) (top:=67) (bes:=jI) (bos:=jU) (nxt:=[.e 66]) (inits:=[.c (.int 0)]) (fv:=[49]) (tys:=[.i]) (by kernel_rfl) rfl rfl rfl rfl hS (by kernel_rfl) (by kernel_rfl) hB (BV hH) (fun s=>0≤(aI s 0)∧(aI s 0)≤4) (fun s=>(4 - (aI s 0)).toNat) ?_ ?_
 ·show 0≤(0:Int)∧(0:Int)≤4
  clear hS hB hH
  exact⟨by omega,by omega⟩
 ·intro T2 hfv hF inv
  replace inv:0≤I T2 50∧I T2 50≤4:=inv
  clear hS hB hH
  replace hF:AH T2 jI:=hF
  have F0:=hF;clear hF
  have fv49:B T2 49=B T 49:=fvB (hfv 49 (by decide))
  clear hfv
  suffices hz:(B T2 59=true→0≤I T2 50∧I T2 50 < ((L T2 60)).length)∧(B T2 52=true→0≤I T2 50∧I T2 50 < ((L T2 54)).length)∧(B T2 65=true→(0≤I T2 66∧I T2 66≤4))∧(B T2 65=true→(4 - (I T2 66)).toNat < (4 - (I T2 50)).toNat) from
   let⟨r0,r1,nx,mz⟩:=hz;⟨⟨r0,r1,trivial⟩,fun hp=>⟨nx hp,mz hp⟩⟩
  refine⟨?_,?_,?_,?_⟩
  ·obtain⟨e51,e52,-,-,-,-,-,-,e59,e60,-⟩:=F0
   simp only[AI,AP,zN,zR,zL,zS,uR,DK,zW] at e51 e52 e59 e60
   obtain⟨v1,v2⟩:=inv
   intro hp
   have h51:=e51.1 (e52.1 (e59.1 hp).1).2
   rw[e60]
   exact⟨v1,h51⟩
  ·obtain⟨e51,e52,-,e54,-⟩:=F0
   simp only[AI,AP,zR,zL,zS,uR,DK,zW] at e51 e52 e54
   obtain⟨v1,v2⟩:=inv
   intro hp
   have h51:=e51.1 (e52.1 hp).2
   rw[e54]
   exact⟨v1,h51⟩
  ·obtain⟨e51,e52,-,-,-,-,-,-,-,-,-,-,-,-,e65,e66,-⟩:=F0
   simp only[AI,AP,zN,zR,w2P] at e51 e52 e65 e66
   obtain⟨v1,v2⟩:=inv
   intro hp
   have h51:=e51.1 (e52.1 (e65.1 hp).1).2
   have x66:=e66 (by omega) (by omega)
   omega
  ·obtain⟨e51,e52,-,-,-,-,-,-,-,-,-,-,-,-,e65,e66,-⟩:=F0
   simp only[AI,AP,zN,zR,w2P] at e51 e52 e65 e66
   obtain⟨v1,v2⟩:=inv
   intro hp
   have h51:=e51.1 (e52.1 (e65.1 hp).1).2
   have x66:=e66 (by omega) (by omega)
   omega
theorem jr {T:Tab}(inv0:0≤I T 50∧I T 50≤4)(np0:¬B T 65=true)(A0:AH T jO)(B0:AH T jI)(A1:AH T jS):
  ((B T 124)=(true))∧
  (B T 96=true→0≤(1:Int)∧(1:Int) < ((L T 68)).length)∧
  (B T 96=true→0≤(0:Int)∧(0:Int) < ((L T 68)).length)∧
  (B T 90=true→0≤(2:Int)∧(2:Int) < ((L T 68)).length)∧
  (B T 85=true→0≤(2:Int)∧(2:Int) < ((L T 68)).length)∧
  (B T 80=true→0≤(1:Int)∧(1:Int) < ((L T 68)).length)∧
  (B T 75=true→0≤(1:Int)∧(1:Int) < ((L T 68)).length)∧
  (B T 53=true→(((L T 0)).length≤20∧((L T 67)).length≤20)∧Bk (L T 0)=0∧B7 (L T 67)=0)∧
  (0≤(1:Int)∧(1:Int) < ((L T 0)).length)∧
  (0≤(2:Int)∧(2:Int) < ((L T 0)).length)∧
  (0≤(0:Int)∧(0:Int) < ((L T 0)).length):=by
 obtain⟨F0,A0⟩:=A0.cut
 obtain⟨F1,A0⟩:=A0.cut
 obtain⟨F2,A0⟩:=A0.cut
 have F3:=A0;clear A0
 have F4:=B0;clear B0
 obtain⟨F5,A1⟩:=A1.cut
 obtain⟨F6,A1⟩:=A1.cut
 obtain⟨F7,A1⟩:=A1.cut
 have F8:=A1;clear A1
 have x0:(L T 0)=cH:=by
  obtain⟨e0,-⟩:=F0
  simp only[AI,zR,zL,zS,uR,DK,zW] at e0
  rw[e0];rfl
 refine⟨?_,?_,?_,?_,?_,?_,?_,?_,?_,?_,?_⟩
 ·obtain⟨-,e1,e2,e3,e4,e5,e6,e7,e8,e9,e10,e11,e12,e13,e14,e15,-⟩:=F0
  obtain⟨e16,e17,e18,e19,e20,e21,e22,e23,e24,-,-,-,e28,e29,e30,e31,-⟩:=F1
  obtain⟨e32,e33,-,e35,e36,-,e38,e39,-,e41,e42,-,e44,e45,-,e47,-⟩:=F2
  obtain⟨e48,e49,-⟩:=F3
  obtain⟨e51,e52,e53,e54,e55,e56,e57,e58,-,e60,e61,e62,e63,e64,e65,-⟩:=F4
  obtain⟨e67,e68,e69,e70,-,e72,e73,e74,-,e76,e77,e78,e79,-,e81,e82,-⟩:=F5
  obtain⟨e83,e84,-,e86,e87,e88,e89,-,e91,e92,e93,e94,e95,-,e97,e98,-⟩:=F6
  obtain⟨e99,e100,e101,e102,e103,e104,e105,e106,e107,e108,e109,e110,e111,e112,e113,-⟩:=F7
  obtain⟨e115,e116,-,e118,e119,e120,-,e122,-,e124,-⟩:=F8
  replace e1:I T 1=(if (Ax (2000:Int) (-10000) 10000&&Ax (1500:Int) (-10000) 10000)=true then Ar (2000:Int) (1500:Int) true else 0):=e1
  replace e2:I T 2=(if (Ax (2000:Int) (-10000) 10000&&Ax (1500:Int) (-10000) 10000)=true then 0 else 3):=e2
  replace e3:I T 3=(if (Ax (1500:Int) (-10000) 10000&&Ax (2000:Int) (-10000) 10000)=true then Ar (1500:Int) (2000:Int) true else 0):=e3
  replace e4:I T 4=(if (Ax (1500:Int) (-10000) 10000&&Ax (2000:Int) (-10000) 10000)=true then 0 else 3):=e4
  replace e5:I T 5=(if (Ax (2000:Int) (-10000) 10000&&Ax (1500:Int) (-10000) 10000)=true then Ar (2000:Int) (1500:Int) false else 0):=e5
  replace e6:I T 6=(if (Ax (2000:Int) (-10000) 10000&&Ax (1500:Int) (-10000) 10000)=true then 0 else 3):=e6
  replace e15:I T 15=(if Am (S T 8) (I T 9) (I T 10) (S T 12) (I T 13) (I T 14)=0 then jR (I T 10) (I T 14) else 0):=e15
  replace e16:I T 16=(if Am (S T 8) (I T 9) (I T 10) (S T 12) (I T 13) (I T 14)=0 then jR (I T 14) (I T 10) else 0):=e16
  replace e17:I T 17=(Am (S T 8) (I T 9) (I T 10) (S T 12) (I T 13) (I T 14)):=e17
  replace e22:S T 22=(if Am (⟨#[99,97,116]⟩:ByteArray) (1040:Int) (20:Int) (S T 19) (I T 20) (I T 21)=0 then (⟨#[99,97,116]⟩:ByteArray) else (⟨#[]⟩:ByteArray)):=e22
  replace e23:I T 23=(if Am (⟨#[99,97,116]⟩:ByteArray) (1040:Int) (20:Int) (S T 19) (I T 20) (I T 21)=0 then Ay (1040:Int) (Ar (1040:Int) (I T 20) false) else 0):=e23
  replace e24:I T 24=(if Am (⟨#[99,97,116]⟩:ByteArray) (1040:Int) (20:Int) (S T 19) (I T 20) (I T 21)=0 then CS (Ay (1040:Int) (Ar (1040:Int) (I T 20) false)) (20:Int) else 0):=e24
  replace e28:I T 28=(Am (⟨#[99,97,116]⟩:ByteArray) (1040:Int) (20:Int) (S T 19) (I T 20) (I T 21)):=e28
  replace e56:I T 56=(if Ax (I T 55) (-12) 48=true then BS (I T 55) else 0):=e56
  replace e57:I T 57=(if Ax (I T 55) (-12) 48=true then 0 else 3):=e57
  replace e68:L T 68=(RQ (L T 0) (L T 67) (0:Int) (100:Int)):=e68
  replace e69:I T 69=(Gd (0:Int) (100:Int)):=e69
  replace e111:I T 111=(plN (I T 99) (I T 101) (I T 102) (I T 103) (S T 98) (I T 106) (I T 108) (I T 109) (I T 110) (S T 105)):=e111
  replace e112:I T 112=(plR (I T 99) (I T 101) (I T 102) (I T 103) (S T 98) (I T 106) (I T 108) (I T 109) (I T 110) (S T 105)):=e112
  replace e118:B T 118=(true):=e118
  simp only[AI,AP,zN,zC,zR,EB,and_true,w2P,zL,zS,uR,DK,zW] at e7 e8 e9 e10 e11 e12 e13 e14 e18 e19 e20 e21 e29 e30 e31 e32 e33 e35 e36 e38 e39 e41 e42 e44 e45 e47 e48 e49 e51 e52 e53 e54 e55 e58 e60 e61 e62 e63 e64 e65 e67 e70 e72 e73 e74 e76 e77 e78 e79 e81 e82 e83 e84 e86 e87 e88 e89 e91 e92 e93 e94 e95 e97 e98 e99 e100 e101 e102 e103 e104 e105 e106 e107 e108 e109 e110 e113 e115 e116 e119 e120 e122 e124
  have x68:(L T 68)=Ia:=by rw[e68,x0,e67];rfl
  have x8:(S T 8)=Uf:=by rw[e8,e7,x0];rfl
  have x9:(I T 9)=2000:=by rw[e9,e7,x0];rfl
  have x10:(I T 10)=0:=by rw[e10,e7,x0];rfl
  have x12:(S T 12)=dz:=by rw[e12,e11,x0];rfl
  have x13:(I T 13)=1000:=by rw[e13,e11,x0];rfl
  have x14:(I T 14)=20:=by rw[e14,e11,x0];rfl
  have x19:(S T 19)=Q6:=by rw[e19,e18,x0];rfl
  have x20:(I T 20)=1500:=by rw[e20,e18,x0];rfl
  have x21:(I T 21)=10:=by rw[e21,e18,x0];rfl
  rw[x8,x9,x10,x12,x13,x14] at e15 e16 e17
  rw[x19,x20,x21] at e22 e23 e24 e28
  have y1:(I T 1)=6:=e1.trans (by kernel_rfl)
  have y2:(I T 2)=0:=e2.trans (by kernel_rfl)
  have y3:(I T 3)=14:=e3.trans (by kernel_rfl)
  have y4:(I T 4)=0:=e4.trans (by kernel_rfl)
  have y5:(I T 5)=10:=e5.trans (by kernel_rfl)
  have y6:(I T 6)=0:=e6.trans (by kernel_rfl)
  have y15:(I T 15)=0:=e15.trans (by kernel_rfl)
  have y16:(I T 16)=20:=e16.trans (by kernel_rfl)
  have y17:(I T 17)=0:=e17.trans (by kernel_rfl)
  have y22:(S T 22)=dz:=e22.trans (by kernel_rfl)
  have y23:(I T 23)=1050:=e23.trans (by kernel_rfl)
  have y24:(I T 24)=19:=e24.trans (by kernel_rfl)
  have y28:(I T 28)=0:=e28.trans (by kernel_rfl)
  have z29:=e29 (by omega) (by omega)
  have z30:=e30 (by omega) (by omega)
  have z31:=e31 (by omega) (by omega)
  have z32:=e32 (by omega) (by omega)
  have n48:¬B T 48=true:=by
   rw[e48,e45,e42,e39,e36,e33,e35,e38,e41,e44,e47]
   rintro (((((h|h)|h)|h)|h)|h)
   ·omega
   ·exact h y1
   ·exact h y3
   ·exact h y5
   ·exact h ⟨y15,y16⟩
   ·exact h ⟨y22,y23,y24⟩
  have h49:(B T 49)=true:=e49.2 (by simpa using n48)
  obtain⟨v1,v2⟩:=inv0
  have n63:(I T 50) < 4→¬B T 63=true:=fun h=>by
   have key:∀k:Fin 4,(if Ax (Bt [[U.int (-12)],[.int 0],[.int 1],[.int 48]] k 0) (-12) 48=true then BS (Bt [[U.int (-12)],[.int 0],[.int 1],[.int 48]] k 0) else 0)=Bt [[U.int 2480],[.int 2000],[.int 1950],[.int (-400)]] k 0∧(if Ax (Bt [[U.int (-12)],[.int 0],[.int 1],[.int 48]] k 0) (-12) 48=true then (0:Int) else 3)=0:=by decide+kernel
   obtain⟨k1,k2⟩:=key ⟨(I T 50).toNat,by omega⟩
   rw[e54] at e55
   rw[e55] at e56 e57
   have w57:(I T 57)=0:=e57.trans k2
   have w56:(I T 56)=I T 61:=by rw[e61,e60];exact e56.trans k1
   rw[e63,e58,e62]
   rintro (q|q)
   ·exact q w57
   ·exact q w56
  have n51:¬B T 51=true:=fun h=>np0 (e65.2 ⟨e52.2 ⟨h49,h⟩,by simpa using n63 (e51.1 h)⟩)
  have h53:(B T 53)=true:=e53.2 ⟨h49,by simpa using n51⟩
  have n64:¬B T 64=true:=fun h=>n51 (e52.1 (e64.1 h).1).2
  rw[x68] at e72
  rw[x68,e76] at e77
  rw[x68,e81] at e82
  rw[x68,e86] at e87
  rw[x68,e91] at e92
  rw[x68,e97] at e98 e99 e100 e101 e102 e103
  rw[x68,e104] at e105 e106 e107 e108 e109 e110
  have w69:(I T 69)=0:=e69.trans iV
  have w72:(I T 72)=3:=by rw[e72,Zi];rfl
  have w77:(S T 77)=Uf:=e77.trans (by kernel_rfl)
  have w82:(I T 82)=5:=e82.trans (by kernel_rfl)
  have w87:(S T 87)=dz:=e87.trans (by kernel_rfl)
  have w92:(I T 92)= -22:=e92.trans (by kernel_rfl)
  have n94:¬B T 94=true:=by
   rw[e94,e89,e84,e79,e74,e70,e73,e78,e83,e88,e93]
   rintro (((((h|h)|h)|h)|h)|h)
   ·exact h w69
   ·exact h w72
   ·exact h w77
   ·exact h w82
   ·exact h w87
   ·exact h w92
  have n95:¬B T 95=true:=fun h=>n94 (e95.1 h).2
  rw[e98.trans gq.1,e99.trans gq.2.1,e101.trans gq.2.2.2.1,e102.trans gq.2.2.2.2.1,e103.trans gq.2.2.2.2.2] at e111 e112
  rw[e105,e106,e108,e109,e110] at e111 e112
  have w111:(I T 111) < 0:=by rw[e111.trans (show _=(-1:Int) by kernel_rfl)];decide
  have w112:(I T 112)=3:=e112.trans (by kernel_rfl)
  have h119:=e119.2 ⟨e116.2 ⟨e113.2 w111,e115.2 w112⟩,e118⟩
  refine e124.2 ⟨by simpa using n48,e122.2 ⟨by simpa using n64,e120.2 ⟨by simpa using n95,h119⟩⟩⟩
 ·obtain⟨e67,e68,-⟩:=F5
  replace e68:L T 68=(RQ (L T 0) (L T 67) (0:Int) (100:Int)):=e68
  simp only[AI,zC,zR,zL,zS,uR,DK,zW] at e67
  have x68:(L T 68)=Ia:=by rw[e68,x0,e67];rfl
  intro _
  rw[x68,Zi]
  decide
 ·obtain⟨e67,e68,-⟩:=F5
  replace e68:L T 68=(RQ (L T 0) (L T 67) (0:Int) (100:Int)):=e68
  simp only[AI,zC,zR,zL,zS,uR,DK,zW] at e67
  have x68:(L T 68)=Ia:=by rw[e68,x0,e67];rfl
  intro _
  rw[x68,Zi]
  decide
 ·obtain⟨e67,e68,-⟩:=F5
  replace e68:L T 68=(RQ (L T 0) (L T 67) (0:Int) (100:Int)):=e68
  simp only[AI,zC,zR,zL,zS,uR,DK,zW] at e67
  have x68:(L T 68)=Ia:=by rw[e68,x0,e67];rfl
  intro _
  rw[x68,Zi]
  decide
 ·obtain⟨e67,e68,-⟩:=F5
  replace e68:L T 68=(RQ (L T 0) (L T 67) (0:Int) (100:Int)):=e68
  simp only[AI,zC,zR,zL,zS,uR,DK,zW] at e67
  have x68:(L T 68)=Ia:=by rw[e68,x0,e67];rfl
  intro _
  rw[x68,Zi]
  decide
 ·obtain⟨e67,e68,-⟩:=F5
  replace e68:L T 68=(RQ (L T 0) (L T 67) (0:Int) (100:Int)):=e68
  simp only[AI,zC,zR,zL,zS,uR,DK,zW] at e67
  have x68:(L T 68)=Ia:=by rw[e68,x0,e67];rfl
  intro _
  rw[x68,Zi]
  decide
 ·obtain⟨e67,e68,-⟩:=F5
  replace e68:L T 68=(RQ (L T 0) (L T 67) (0:Int) (100:Int)):=e68
  simp only[AI,zC,zR,zL,zS,uR,DK,zW] at e67
  have x68:(L T 68)=Ia:=by rw[e68,x0,e67];rfl
  intro _
  rw[x68,Zi]
  decide
 ·obtain⟨e67,-⟩:=F5
  simp only[AI,zC,zR,zL,zS,uR,DK,zW] at e67
  intro _
  rw[x0,e67]
  exact⟨⟨by decide,by decide⟩,Xq,ZT⟩
 ·rw[x0]
  decide
 ·rw[x0]
  decide
 ·rw[x0]
  decide
theorem jj:Fg Try.prog 9 Try.f6.params.toList 0=some (jW,jP):=by kernel_rfl
theorem jk:∀p∈([(17,NZ),(28,jQ),(16,E7),(29,ID),(30,Du),(73,Hs),(15,HO)]:List (FuncId × AV)),Ae Try.prog p.1 p.2:=by simp only[List.forall_mem_cons];exact⟨gK,jn,PK,X0,eu,X6,UC,fun _ h=>absurd h (by simp)⟩
theorem jm:∀T:Tab,AK T (BK 0 jP)→Bnd T 0 jP→RM 1048576 T 0 jP→Ac T ((jO++((BU jJ [.i] jK)++(jI++(jS)))).map En.be)→HF T jd∧B T 124=true:=by
 intro T hS hBd hBl hE
 clear hBd
 clear hBl
 rw[List.map_append,List.map_append,List.map_append] at hE
 have hA:=hE.left
 replace hE:=hE.right
 have hH:=hE.left
 replace hE:=hE.right
 have hB:=hE.left
 replace hE:=hE.right
 obtain⟨A0,hS1⟩:=Ai hS (by kernel_rfl) hA
 obtain⟨ow0,hS2,inv0,np0⟩:=jl hS1 hB hH
 have hF2:=(Ai (hS2.append hS1) (l:=jI) (by kernel_rfl) hB)
 obtain⟨B0,hS⟩:=hF2
 clear hA hB hH hS1 hS2
 obtain⟨A1,hO⟩:=BG (tys:=[.b]) (rs:=jq) hS (by kernel_rfl) hE
 obtain⟨q0,r0,r1,r2,r3,r4,r5,r6,r7,r8,r9⟩:=jr inv0 np0 A0 B0 A1
 exact⟨⟨r0,r1,r2,r3,r4,r5,r6,(fun _=>ow0),(fun _=>r7),(fun _=>r8),(fun _=>r9),trivial⟩,q0⟩
end Go.Eng
end
