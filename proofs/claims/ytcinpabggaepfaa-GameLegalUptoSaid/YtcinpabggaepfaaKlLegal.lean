/-
  A part of the proof: K_lLegald K_lLegal.
-/
import Derived.Test.YtcinpabggaepfaaXQlLegal
import Derived.Test.YtcinpabggaepfaaE3
import Derived.Test.YtcinpabggaepfaaE4
import Derived.Test.YtcinpabggaepfaaKgNew
import Derived.Test.YtcinpabggaepfaaKgcheck
import Derived.Test.YtcinpabggaepfaaKgMoves
import Derived.Test.YtcinpabggaepfaaKrefused
import Derived.Test.YtcinpabggaepfaaKposs
import Derived.Test.YtcinpabggaepfaaKgPlay
import Derived.Test.YtcinpabggaepfaaKrOut
import Derived.Test.YtcinpabggaepfaaKfine
set_option linter.unusedVariables false
set_option linter.unusedSimpArgs false
noncomputable section
open Go Go.Eng Go.Proofs
set_option maxHeartbeats 4000000
set_option maxRecDepth 100000
namespace Go.Eng
def qB:List Kd:=[.int .u8 (0) (255),.int .u8 (0) (255),.int .u8 (0) (255),.list [.int .u8 (0) (255),.list [.int .u8 (0) (255)],.int .u16 (0) (65535)]]
def qP:List AC:=((JQ Try.prog 9 Try.f8.params.toList 0).map (·.1)).getD []
def qH:List Rf:=[.e 19,.e 20,.e 21,.e 22,.e 23,.e 24,.e 25,.e 26,.e 27,.e 28,.e 29,.e 30,.e 31,.e 32,.e 33,.e 34,.e 35,.e 36,.e 37,.e 38,.e 39,.e 40,.e 41,.e 42,.e 43,.e 44]
def pm:List Rf:=[.e 54,.e 55,.e 56,.e 57,.e 58,.e 59,.e 60,.e 61,.e 62,.e 63,.e 64,.e 65,.e 66,.e 67,.e 68,.e 69,.e 70,.e 71,.e 72,.e 73,.e 74,.e 75,.e 76,.e 77,.e 78,.e 79]
def p9:List Rf:=[.e 54,.e 55,.e 56,.e 57,.e 58,.e 59,.e 60,.e 61,.e 62,.e 63,.e 64,.e 65,.e 66,.e 67,.e 68,.e 69,.e 70,.e 71,.e 72,.e 73,.e 74,.e 75,.e 76,.e 77,.e 78,.e 79,.e 97]
def p8:List Rf:=[.e 54,.e 55,.e 56,.e 57,.e 58,.e 59,.e 60,.e 61,.e 62,.e 63,.e 64,.e 65,.e 66,.e 67,.e 68,.e 69,.e 70,.e 71,.e 72,.e 73,.e 74,.e 75,.e 76,.e 77,.e 78,.e 79,.e 102]
def qG:List Rf:=[.e 54,.e 55,.e 56,.e 57,.e 58,.e 59,.e 60,.e 61,.e 62,.e 63,.e 64,.e 65,.e 66,.e 67,.e 68,.e 69,.e 70,.e 71,.e 72,.e 73,.e 74,.e 75,.e 76,.e 77,.e 78,.e 79,.e 108,.e 109,.e 110]
def qF:List Rf:=[.e 54,.e 55,.e 56,.e 57,.e 58,.e 59,.e 60,.e 61,.e 62,.e 63,.e 64,.e 65,.e 66,.e 67,.e 68,.e 69,.e 70,.e 71,.e 72,.e 73,.e 74,.e 75,.e 76,.e 77,.e 78,.e 79,.e 117,.e 118,.e 119]
def qJ:List Rf:=[.e 54,.e 55,.e 56,.e 57,.e 58,.e 59,.e 60,.e 61,.e 62,.e 63,.e 64,.e 65,.e 66,.e 67,.e 68,.e 69,.e 70,.e 71,.e 72,.e 73,.e 74,.e 75,.e 76,.e 77,.e 78,.e 79,.e 132]
def pi:List Rf:=[.e 54,.e 55,.e 56,.e 57,.e 58,.e 59,.e 60,.e 61,.e 62,.e 63,.e 64,.e 65,.e 66,.e 67,.e 68,.e 69,.e 70,.e 71,.e 72,.e 73,.e 74,.e 75,.e 76,.e 77,.e 78,.e 79,.e 126,.e 127,.e 128,.e 135]
def qE:List Rf:=[.e 136,.e 137,.e 138,.e 139,.e 140,.e 141,.e 142,.e 143,.e 144,.e 145,.e 146,.e 147,.e 148,.e 149,.e 150,.e 151,.e 152,.e 153,.e 154,.e 155,.e 156,.e 157,.e 158,.e 159,.e 160,.e 161]
def qm:List En:=[⟨4,.len,[.e 3]⟩,
 ⟨5,.lt,[.c (.int 60),.e 4]⟩,
 ⟨6,.outB "fine.0" KH,[]⟩,
 ⟨7,.not,[.e 5]⟩,
 ⟨8,.o2 .mod,[.e 0,.c (.int 4)]⟩,
 ⟨9,.o2 .mod,[.e 1,.c (.int 41)]⟩,
 ⟨10,.o2 .mod,[.e 2,.c (.int 41)]⟩,
 ⟨11,.eq,[.e 8,.c (.int 1)]⟩,
 ⟨12,.and,[.e 7,.n 11]⟩,
 ⟨13,.eq,[.e 8,.c (.int 3)]⟩,
 ⟨14,.or,[.e 11,.e 13]⟩,
 ⟨15,.and,[.e 7,.e 14]⟩,
 ⟨16,.and,[.e 7,.n 14]⟩,
 ⟨17,.ite .i,[.e 14,.c (.int 0),.e 9]⟩,
 ⟨18,.ite .i,[.e 14,.c (.int 0),.e 10]⟩,
 ⟨19,.outI "gNew.0" nO,[.e 8,.e 17,.e 18]⟩]
def qa:List En:=[⟨20,.outI "gNew.1" nY,[.e 8,.e 17,.e 18]⟩,
 ⟨21,.outI "gNew.2" nP,[.e 8,.e 17,.e 18]⟩,
 ⟨22,.outI "gNew.3" nR,[.e 8,.e 17,.e 18]⟩,
 ⟨23,.outI "gNew.4" nS,[.e 8,.e 17,.e 18]⟩,
 ⟨24,.outI "gNew.5" nc,[.e 8,.e 17,.e 18]⟩,
 ⟨25,.outI "gNew.6" nW,[.e 8,.e 17,.e 18]⟩,
 ⟨26,.outI "gNew.7" nX,[.e 8,.e 17,.e 18]⟩,
 ⟨27,.outI "gNew.8" nQ,[.e 8,.e 17,.e 18]⟩,
 ⟨28,.outB "gNew.9" nN,[.e 8,.e 17,.e 18]⟩,
 ⟨29,.outB "gNew.10" nJ,[.e 8,.e 17,.e 18]⟩,
 ⟨30,.outB "gNew.11" m4,[.e 8,.e 17,.e 18]⟩,
 ⟨31,.outB "gNew.12" nA,[.e 8,.e 17,.e 18]⟩,
 ⟨32,.outB "gNew.13" m5,[.e 8,.e 17,.e 18]⟩,
 ⟨33,.outB "gNew.14" m8,[.e 8,.e 17,.e 18]⟩,
 ⟨34,.outB "gNew.15" nF,[.e 8,.e 17,.e 18]⟩,
 ⟨35,.outB "gNew.16" nI,[.e 8,.e 17,.e 18]⟩]
def qY:List En:=[⟨36,.outI "gNew.17" m7,[.e 8,.e 17,.e 18]⟩,
 ⟨37,.outI "gNew.18" nE,[.e 8,.e 17,.e 18]⟩,
 ⟨38,.outB "gNew.19" my,[.e 8,.e 17,.e 18]⟩,
 ⟨39,.outB "gNew.20" m9,[.e 8,.e 17,.e 18]⟩,
 ⟨40,.outB "gNew.21" nH,[.e 8,.e 17,.e 18]⟩,
 ⟨41,.outI "gNew.22" nK,[.e 8,.e 17,.e 18]⟩,
 ⟨42,.outI "gNew.23" nG,[.e 8,.e 17,.e 18]⟩,
 ⟨43,.outI "gNew.24" nD,[.e 8,.e 17,.e 18]⟩,
 ⟨44,.outI "gNew.25" m6,[.e 8,.e 17,.e 18]⟩,
 ⟨45,.outI "gNew.26" nC,[.e 8,.e 17,.e 18]⟩,
 ⟨46,.ne,[.e 45,.c (.int 0)]⟩,
 ⟨47,.and,[.e 7,.n 46]⟩,
 ⟨48,.outI "gcheck.0" ly,qH⟩,
 ⟨49,.ne,[.e 48,.c (.int 0)]⟩,
 ⟨50,.or,[.e 46,.e 49]⟩,
 ⟨51,.and,[.e 7,.e 50]⟩]
def qi:List En:=[⟨52,.and,[.e 7,.n 50]⟩]
def qf:List En:=[⟨80,.len,[.e 3]⟩,
 ⟨81,.lt,[.e 53,.e 80]⟩,
 ⟨82,.and,[.e 52,.e 81]⟩,
 ⟨83,.and,[.e 52,.n 81]⟩,
 ⟨84,.outL "gMoves.0" mv,pm⟩,
 ⟨85,.outI "gMoves.1" mw,pm⟩,
 ⟨86,.ne,[.e 85,.c (.int 0)]⟩,
 ⟨87,.and,[.e 82,.n 86]⟩,
 ⟨88,.len,[.e 84]⟩,
 ⟨89,.eq,[.e 88,.c (.int 0)]⟩,
 ⟨90,.eq,[.e 55,.c (.int 4)]⟩,
 ⟨91,.neb,[.e 89,.e 90]⟩,
 ⟨92,.or,[.e 86,.e 91]⟩,
 ⟨93,.and,[.e 82,.e 92]⟩,
 ⟨94,.and,[.e 82,.n 92]⟩,
 ⟨95,.eq,[.e 55,.c (.int 4)]⟩]
def qd:List En:=[⟨96,.and,[.e 94,.e 95]⟩,
 ⟨97,.bits .and .i64,[.e 79,.c (.int 1)]⟩,
 ⟨98,.outB "rOut.0" qA,p9⟩,
 ⟨99,.and,[.e 96,.e 98]⟩,
 ⟨100,.and,[.e 96,.e 98]⟩,
 ⟨101,.bits .and .i64,[.e 79,.c (.int 1)]⟩,
 ⟨102,.w2 .i64 .add,[.e 101,.c (.int 2)]⟩,
 ⟨103,.outB "rOut.0" qA,p8⟩,
 ⟨104,.and,[.e 98,.e 103]⟩,
 ⟨105,.and,[.e 96,.e 104]⟩,
 ⟨106,.and,[.e 96,.e 104]⟩,
 ⟨107,.and,[.e 96,.e 104]⟩,
 ⟨108,.get .i 0,[.e 3,.e 53]⟩,
 ⟨109,.get .l 1,[.e 3,.e 53]⟩,
 ⟨110,.get .i 2,[.e 3,.e 53]⟩,
 ⟨111,.outB "refused.0" pn,qG⟩]
def qX:List En:=[⟨112,.and,[.e 104,.e 111]⟩,
 ⟨113,.and,[.e 96,.e 112]⟩,
 ⟨114,.outB "fine.0" KH,[]⟩,
 ⟨115,.and,[.e 112,.e 114]⟩,
 ⟨116,.and,[.e 94,.n 95]⟩,
 ⟨117,.get .i 0,[.e 3,.e 53]⟩,
 ⟨118,.get .l 1,[.e 3,.e 53]⟩,
 ⟨119,.get .i 2,[.e 3,.e 53]⟩,
 ⟨120,.outB "refused.0" pn,qF⟩,
 ⟨121,.and,[.e 116,.e 120]⟩,
 ⟨122,.and,[.e 116,.n 120]⟩,
 ⟨123,.get .i 0,[.e 3,.e 53]⟩,
 ⟨124,.len,[.e 84]⟩,
 ⟨125,.o2 .tmod,[.e 123,.e 124]⟩,
 ⟨126,.get .i 0,[.e 84,.e 125]⟩,
 ⟨127,.get .i 1,[.e 84,.e 125]⟩]
def qh:List En:=[⟨128,.get .b 2,[.e 84,.e 125]⟩,
 ⟨129,.get .l 3,[.e 84,.e 125]⟩,
 ⟨130,.eq,[.e 126,.c (.int 2)]⟩,
 ⟨131,.and,[.e 121,.e 130]⟩,
 ⟨132,.get .l 1,[.e 3,.e 53]⟩,
 ⟨133,.outL "poss.0" nZ,qJ⟩,
 ⟨134,.and,[.e 121,.n 130]⟩,
 ⟨135,.ite .l,[.e 130,.e 133,.e 129]⟩,
 ⟨136,.outI "gPlay.0" NX,pi⟩,
 ⟨137,.outI "gPlay.1" OB,pi⟩,
 ⟨138,.outI "gPlay.2" OS,pi⟩,
 ⟨139,.outI "gPlay.3" Nu,pi⟩,
 ⟨140,.outI "gPlay.4" NJ,pi⟩,
 ⟨141,.outI "gPlay.5" Oe,pi⟩,
 ⟨142,.outI "gPlay.6" N7,pi⟩,
 ⟨143,.outI "gPlay.7" NO,pi⟩]
def qo:List En:=[⟨144,.outI "gPlay.8" OX,pi⟩,
 ⟨145,.outB "gPlay.9" Nm,pi⟩,
 ⟨146,.outB "gPlay.10" MI,pi⟩,
 ⟨147,.outB "gPlay.11" MQ,pi⟩,
 ⟨148,.outB "gPlay.12" Md,pi⟩,
 ⟨149,.outB "gPlay.13" MF,pi⟩,
 ⟨150,.outB "gPlay.14" MM,pi⟩,
 ⟨151,.outB "gPlay.15" L0,pi⟩,
 ⟨152,.outB "gPlay.16" Lh,pi⟩,
 ⟨153,.outI "gPlay.17" MX,pi⟩,
 ⟨154,.outI "gPlay.18" L2,pi⟩,
 ⟨155,.outB "gPlay.19" Mh,pi⟩,
 ⟨156,.outB "gPlay.20" Lt,pi⟩,
 ⟨157,.outB "gPlay.21" Lo,pi⟩,
 ⟨158,.outI "gPlay.22" L8,pi⟩,
 ⟨159,.outI "gPlay.23" MA,pi⟩]
def qn:List En:=[⟨160,.outI "gPlay.24" Mb,pi⟩,
 ⟨161,.outI "gPlay.25" ML,pi⟩,
 ⟨162,.outI "gPlay.26" Ih,pi⟩,
 ⟨163,.ne,[.e 162,.c (.int 0)]⟩,
 ⟨164,.and,[.e 121,.n 163]⟩,
 ⟨165,.outI "gcheck.0" ly,qE⟩,
 ⟨166,.ne,[.e 165,.c (.int 0)]⟩,
 ⟨167,.or,[.e 163,.e 166]⟩,
 ⟨168,.and,[.e 121,.e 167]⟩,
 ⟨169,.and,[.e 121,.n 167]⟩,
 ⟨170,.ite .i,[.e 122,.e 85,.e 162]⟩,
 ⟨171,.or,[.e 122,.e 168]⟩,
 ⟨172,.ite .i,[.e 96,.e 85,.e 170]⟩,
 ⟨173,.ite .b,[.e 96,.e 115,.c (.bool false)]⟩,
 ⟨174,.or,[.e 96,.e 171]⟩,
 ⟨175,.ite .i,[.e 93,.e 85,.e 172]⟩]
def ql:List En:=[⟨176,.ite .b,[.e 93,.c (.bool false),.e 173]⟩,
 ⟨177,.or,[.e 93,.e 174]⟩,
 ⟨178,.w2 .i64 .add,[.e 53,.c (.int 1)]⟩]
def pt:List En:=qm++(qa++(qY++(qi)))
def pk:List En:=qf++(qd++(qX++(qh++(qo++(qn++(ql))))))
def qM:List ObE:=[⟨some 131,.inl,[.e 53,.e 3]⟩,⟨some 121,.inl,[.e 125,.e 84]⟩,⟨some 121,.nez,[.e 124]⟩,⟨some 121,.inl,[.e 53,.e 3]⟩,⟨some 116,.inl,[.e 53,.e 3]⟩,⟨some 107,.inl,[.e 53,.e 3]⟩,⟨some 100,.pre "rOut.p0" pu,p8⟩,⟨some 96,.pre "rOut.p0" pu,p9⟩]
def pr:BW:=mkD 53 27 pk 169 [.e 178,.e 136,.e 137,.e 138,.e 139,.e 140,.e 141,.e 142,.e 143,.e 144,.e 145,.e 146,.e 147,.e 148,.e 149,.e 150,.e 151,.e 152,.e 153,.e 154,.e 155,.e 156,.e 157,.e 158,.e 159,.e 160,.e 161] qM [3,52]
def pz:List Rf:=[.e 3,.e 52,.c (.int 0),.e 19,.e 20,.e 21,.e 22,.e 23,.e 24,.e 25,.e 26,.e 27,.e 28,.e 29,.e 30,.e 31,.e 32,.e 33,.e 34,.e 35,.e 36,.e 37,.e 38,.e 39,.e 40,.e 41,.e 42,.e 43,.e 44]
def qc:List En:=[⟨179,.outB "fine.0" KH,[]⟩,
 ⟨180,.ite .b,[.e 177,.e 176,.e 179]⟩,
 ⟨181,.or,[.e 177,.e 83]⟩,
 ⟨182,.ite .i,[.e 51,.e 19,.e 54]⟩,
 ⟨183,.ite .i,[.e 51,.e 20,.e 55]⟩,
 ⟨184,.ite .i,[.e 51,.e 21,.e 56]⟩,
 ⟨185,.ite .i,[.e 51,.e 22,.e 57]⟩,
 ⟨186,.ite .i,[.e 51,.e 23,.e 58]⟩,
 ⟨187,.ite .i,[.e 51,.e 24,.e 59]⟩,
 ⟨188,.ite .i,[.e 51,.e 25,.e 60]⟩,
 ⟨189,.ite .i,[.e 51,.e 26,.e 61]⟩,
 ⟨190,.ite .i,[.e 51,.e 27,.e 62]⟩,
 ⟨191,.ite .b,[.e 51,.e 28,.e 63]⟩,
 ⟨192,.ite .b,[.e 51,.e 29,.e 64]⟩,
 ⟨193,.ite .b,[.e 51,.e 30,.e 65]⟩,
 ⟨194,.ite .b,[.e 51,.e 31,.e 66]⟩]
def qj:List En:=[⟨195,.ite .b,[.e 51,.e 32,.e 67]⟩,
 ⟨196,.ite .b,[.e 51,.e 33,.e 68]⟩,
 ⟨197,.ite .b,[.e 51,.e 34,.e 69]⟩,
 ⟨198,.ite .b,[.e 51,.e 35,.e 70]⟩,
 ⟨199,.ite .i,[.e 51,.e 36,.e 71]⟩,
 ⟨200,.ite .i,[.e 51,.e 37,.e 72]⟩,
 ⟨201,.ite .b,[.e 51,.e 38,.e 73]⟩,
 ⟨202,.ite .b,[.e 51,.e 39,.e 74]⟩,
 ⟨203,.ite .b,[.e 51,.e 40,.e 75]⟩,
 ⟨204,.ite .i,[.e 51,.e 41,.e 76]⟩,
 ⟨205,.ite .i,[.e 51,.e 42,.e 77]⟩,
 ⟨206,.ite .i,[.e 51,.e 43,.e 78]⟩,
 ⟨207,.ite .i,[.e 51,.e 44,.e 79]⟩,
 ⟨208,.ite .b,[.e 51,.c (.bool false),.e 180]⟩,
 ⟨209,.or,[.e 51,.e 181]⟩,
 ⟨210,.ite .b,[.e 5,.e 6,.e 208]⟩]
def qZ:List En:=[⟨211,.or,[.e 5,.e 209]⟩]
def qI:List En:=qc++(qj++(qZ))
def qg:List ObE:=[⟨some 52,.owes pr,[.e 3,.e 52,.c (.int 0),.e 19,.e 20,.e 21,.e 22,.e 23,.e 24,.e 25,.e 26,.e 27,.e 28,.e 29,.e 30,.e 31,.e 32,.e 33,.e 34,.e 35,.e 36,.e 37,.e 38,.e 39,.e 40,.e 41,.e 42,.e 43,.e 44]⟩]
def rD:List Rf:=[.e 210]
theorem rE:d8 4 (ed Try.prog [(17,nf),(23,lz),(18,mx),(25,pq),(19,nL),(12,LU),(24,qD),(11,M8)] RN 3000 20 8 qP 4)=some (210,(pt++((Ek pr [.i,.i,.i,.i,.i,.i,.i,.i,.i,.i,.b,.b,.b,.b,.b,.b,.b,.b,.i,.i,.b,.b,.b,.i,.i,.i,.i] pz)++(pk++(qI)))).map En.be,qg.map ObE.be):=by kernel_rfl
theorem qr {T:Tab}(lo0:0≤I T 0)(hi0:I T 0≤255)(lo1:0≤I T 1)(hi1:I T 1≤255)(lo2:0≤I T 2)(hi2:I T 2≤255)(hl3:(L T 3).length≤140737488355328)(hc3_0:∀q:Nat,q < (L T 3).length→0≤At (L T 3) q 0∧At (L T 3) q 0≤255)(hc3_2:∀q:Nat,q < (L T 3).length→0≤At (L T 3) q 2∧At (L T 3) q 2≤65535)(hb3:(L T 3).length≤1048576)(g1:Gm)(z1:g1=gT T 19)(A0:AK T pt):
  (mj (I T 8) (I T 17) (I T 18)=true)∧(AR (gT T 19)=true)∧((B T 51)=false):=by
 obtain⟨F0,A0⟩:=A0.cut
 obtain⟨F1,A0⟩:=A0.cut
 obtain⟨F2,A0⟩:=A0.cut
 have F3:=A0;clear A0
 have hok:mj (I T 8) (I T 17) (I T 18)=true:=by
  obtain⟨-,-,-,-,e8,e9,e10,e11,-,e13,e14,-,-,e17,e18,-⟩:=F0
  simp only[AA,AD,zR,Af,zL] at*
  have h:=pd (a:=I T 0) (b:=I T 1) (c:=I T 2)
  rw[←e8,←e9,←e10] at h
  have a1:(I T 17)=if (I T 8)=1∨I T 8=3 then 0 else (I T 9):=by clear h;grind
  have a2:(I T 18)=if (I T 8)=1∨I T 8=3 then 0 else (I T 10):=by clear h;grind
  rw[a1,a2];exact h
 have hleg0:AR (gT T 19)=true:=by
  obtain⟨-,-,-,-,-,-,-,-,-,-,-,-,-,-,-,e19,-⟩:=F0
  obtain⟨e20,e21,e22,e23,e24,e25,e26,e27,e28,e29,e30,e31,e32,e33,e34,e35,-⟩:=F1
  obtain⟨e36,e37,e38,e39,e40,e41,e42,e43,e44,-⟩:=F2
  replace e19:I T 19=(((mf (I T 8) (I T 17) (I T 18))).code):=e19
  replace e20:I T 20=(((mf (I T 8) (I T 17) (I T 18))).phase):=e20
  replace e21:I T 21=(((mf (I T 8) (I T 17) (I T 18))).side):=e21
  replace e22:I T 22=(((mf (I T 8) (I T 17) (I T 18))).ball):=e22
  replace e23:I T 23=(((mf (I T 8) (I T 17) (I T 18))).taken):=e23
  replace e24:I T 24=(((mf (I T 8) (I T 17) (I T 18))).p0):=e24
  replace e25:I T 25=(((mf (I T 8) (I T 17) (I T 18))).p1):=e25
  replace e26:I T 26=(((mf (I T 8) (I T 17) (I T 18))).p2):=e26
  replace e27:I T 27=(((mf (I T 8) (I T 17) (I T 18))).p3):=e27
  replace e28:B T 28=(((mf (I T 8) (I T 17) (I T 18))).n0):=e28
  replace e29:B T 29=(((mf (I T 8) (I T 17) (I T 18))).n1):=e29
  replace e30:B T 30=(((mf (I T 8) (I T 17) (I T 18))).n2):=e30
  replace e31:B T 31=(((mf (I T 8) (I T 17) (I T 18))).n3):=e31
  replace e32:B T 32=(((mf (I T 8) (I T 17) (I T 18))).d0):=e32
  replace e33:B T 33=(((mf (I T 8) (I T 17) (I T 18))).d1):=e33
  replace e34:B T 34=(((mf (I T 8) (I T 17) (I T 18))).d2):=e34
  replace e35:B T 35=(((mf (I T 8) (I T 17) (I T 18))).d3):=e35
  replace e36:I T 36=(((mf (I T 8) (I T 17) (I T 18))).h0):=e36
  replace e37:I T 37=(((mf (I T 8) (I T 17) (I T 18))).h1):=e37
  replace e38:B T 38=(((mf (I T 8) (I T 17) (I T 18))).l0):=e38
  replace e39:B T 39=(((mf (I T 8) (I T 17) (I T 18))).l1):=e39
  replace e40:B T 40=(((mf (I T 8) (I T 17) (I T 18))).half):=e40
  replace e41:I T 41=(((mf (I T 8) (I T 17) (I T 18))).turns):=e41
  replace e42:I T 42=(((mf (I T 8) (I T 17) (I T 18))).began):=e42
  replace e43:I T 43=(((mf (I T 8) (I T 17) (I T 18))).lastb):=e43
  replace e44:I T 44=(((mf (I T 8) (I T 17) (I T 18))).winner):=e44
  have e:(gT T 19)=mf (I T 8) (I T 17) (I T 18):=Bk e19 e20 e21 e22 e23 e24 e25 e26 e27 e28 e29 e30 e31 e32 e33 e34 e35 e36 e37 e38 e39 e40 e41 e42 e43 e44
  rw[e]
  exact pE hok
 have h51:(B T 51)=false:=by
  obtain⟨-,-,-,-,-,-,-,-,-,e45,e46,-,e48,e49,e50,e51,-⟩:=F2
  replace e45:I T 45=(mm (I T 8) (I T 17) (I T 18)):=e45
  replace e48:I T 48=((if AR g1=true then 0 else 2)):=by rw[←show gAt 0 (qH.map (Rf.eval T))=g1 from z1.symm];exact e48
  simp only[AA,AD,zR] at*
  rw[pP hok] at e45
  rw[z1,if_pos hleg0] at e48
  clear hleg0 hok hc3_0 hc3_2 z1
  grind
 exact⟨hok,hleg0,h51⟩
theorem qw {T:Tab}(hl3:(L T 3).length≤140737488355328)(hc3_0:∀q:Nat,q < (L T 3).length→0≤At (L T 3) q 0∧At (L T 3) q 0≤255)(hc3_2:∀q:Nat,q < (L T 3).length→0≤At (L T 3) q 2∧At (L T 3) q 2≤65535)(hleg0:AR (gT T 19)=true)(hS:Ay T (J7 (EE 0 qB) pt))(hB:CJ T (pk.map En.be))(hH:CJ T ((Ek pr [.i,.i,.i,.i,.i,.i,.i,.i,.i,.i,.b,.b,.b,.b,.b,.b,.b,.b,.i,.i,.b,.b,.b,.i,.i,.i,.i] pz).map En.be)):
  (pr).owes (pz.map (Rf.eval T))∧Ay T (hds 53 [.i,.i,.i,.i,.i,.i,.i,.i,.i,.i,.b,.b,.b,.b,.b,.b,.b,.b,.i,.i,.b,.b,.b,.i,.i,.i,.i])∧(0≤I T 53∧I T 53≤((L T 3)).length∧((B T 52)=true→AR (gT T 54)=true))∧¬B T 169=true:=by
 refine Gx (nh:=53) (k:=27) (pcn:=169) (top:=179) (bes:=pk) (bos:=qM) (nxt:=[.e 178,.e 136,.e 137,.e 138,.e 139,.e 140,.e 141,.e 142,.e 143,.e 144,.e 145,.e 146,.e 147,.e 148,.e 149,.e 150,.e 151,.e 152,.e 153,.e 154,.e 155,.e 156,.e 157,.e 158,.e 159,.e 160,.e 161]) (inits:=[.c (.int 0),.e 19,.e 20,.e 21,.e 22,.e 23,.e 24,.e 25,.e 26,.e 27,.e 28,.e 29,.e 30,.e 31,.e 32,.e 33,.e 34,.e 35,.e 36,.e 37,.e 38,.e 39,.e 40,.e 41,.e 42,.e 43,.e 44]) (fv:=[3,52]) (tys:=[.i,.i,.i,.i,.i,.i,.i,.i,.i,.i,.b,.b,.b,.b,.b,.b,.b,.b,.i,.i,.b,.b,.b,.i,.i,.i,.i]) (by kernel_rfl) rfl rfl rfl rfl hS (by kernel_rfl) (by kernel_rfl) hB (Ec hH) (fun s=>0≤(aI s 0)∧(aI s 0)≤((L T 3)).length∧((B T 52)=true→AR (Gm.mk (aI s 1) (aI s 2) (aI s 3) (aI s 4) (aI s 5) (aI s 6) (aI s 7) (aI s 8) (aI s 9) (aB s 10) (aB s 11) (aB s 12) (aB s 13) (aB s 14) (aB s 15) (aB s 16) (aB s 17) (aI s 18) (aI s 19) (aB s 20) (aB s 21) (aB s 22) (aI s 23) (aI s 24) (aI s 25) (aI s 26))=true)) (fun s=>(((L T 3)).length - (aI s 0)).toNat) ?_ ?_
 ·show 0≤(0:Int)∧(0:Int)≤((L T 3)).length∧((B T 52)=true→AR (gT T 19)=true)
  clear hS hB hH
  exact⟨by omega,by omega,fun _=>hleg0⟩
 ·intro T2 hfv hF inv
  replace inv:0≤I T2 53∧I T2 53≤((L T 3)).length∧((B T 52)=true→AR (gT T2 54)=true):=inv
  clear hS hB hH
  replace hF:AK T2 pk:=hF
  obtain⟨F0,hF⟩:=hF.cut
  obtain⟨F1,hF⟩:=hF.cut
  obtain⟨F2,hF⟩:=hF.cut
  obtain⟨F3,hF⟩:=hF.cut
  obtain⟨F4,hF⟩:=hF.cut
  obtain⟨F5,hF⟩:=hF.cut
  have F6:=hF;clear hF
  have fv3:L T2 3=L T 3:=fvL (hfv 3 (by decide))
  have fv52:B T2 52=B T 52:=fvB (hfv 52 (by decide))
  clear hfv
  obtain⟨g2,z2⟩:∃g:Gm,g=gT T2 54:=⟨_,rfl⟩
  obtain⟨g3,z3⟩:∃g:Gm,g=gT T2 54:=⟨_,rfl⟩
  obtain⟨g4,z4⟩:∃g:Gm,g=gT T2 54:=⟨_,rfl⟩
  obtain⟨g5,z5⟩:∃g:Gm,g=gT T2 54:=⟨_,rfl⟩
  obtain⟨g6,z6⟩:∃g:Gm,g=gT T2 54:=⟨_,rfl⟩
  obtain⟨g7,z7⟩:∃g:Gm,g=gT T2 54:=⟨_,rfl⟩
  obtain⟨g8,z8⟩:∃g:Gm,g=gT T2 54:=⟨_,rfl⟩
  obtain⟨g9,z9⟩:∃g:Gm,g=gT T2 136:=⟨_,rfl⟩
  have cr8_0:gT T2 136=D2 g8 (I T2 126) (I T2 127) (B T2 128) (L T2 135):=by
   obtain⟨-,-,-,-,-,-,-,-,e136,e137,e138,e139,e140,e141,e142,e143,-⟩:=F3
   obtain⟨e144,e145,e146,e147,e148,e149,e150,e151,e152,e153,e154,e155,e156,e157,e158,e159,-⟩:=F4
   obtain⟨e160,e161,-⟩:=F5
   rw[←show gAt 0 (pi.map (Rf.eval T2))=g8 from z8.symm]
   exact Bk e136 e137 e138 e139 e140 e141 e142 e143 e144 e145 e146 e147 e148 e149 e150 e151 e152 e153 e154 e155 e156 e157 e158 e159 e160 e161
  have hleg:(B T2 82)=true→AR g2=true:=by
   obtain⟨-,e81,e82,-⟩:=F0
   simp only[AA,AD,zR] at e81 e82
   intro h
   obtain⟨v1,v2,v3⟩:=inv
   have h52:(B T 52)=true:=by rw[←fv52];clear v3 hc3_0 hc3_2 z2 z3 z4 z5 z6 z7 z8 z9 cr8_0;grind
   rw[z2];exact v3 h52
  have hBs:g3=g2∧g4=g2∧g5=g2∧g6=g2∧g7=g2∧g8=g2:=by
   rw[z2,z3,z4,z5,z6,z7,z8];exact⟨rfl,rfl,rfl,rfl,rfl,rfl⟩
  have h84:(B T2 82)=true→L T2 84=C2 g2∧I T2 85=0:=by
   obtain⟨e80,e81,e82,-,e84,e85,-⟩:=F0
   replace e84:L T2 84=((if AR g2=true then C2 g2 else [])):=by rw[←show gAt 0 (pm.map (Rf.eval T2))=g2 from z2.symm];exact e84
   replace e85:I T2 85=((if AR g2=true then 0 else 2)):=by rw[←show gAt 0 (pm.map (Rf.eval T2))=g2 from z2.symm];exact e85
   simp only[AA,AD,zR,zL] at e80 e81 e82
   intro h
   rw[e84,e85,if_pos (hleg h),if_pos (hleg h)];exact⟨rfl,rfl⟩
  have hph:(g2).phase=I T2 55∧(g2).winner=I T2 79:=by
   rw[z2];exact⟨rfl,rfl⟩
  have hmn:(B T2 82)=true→((I T2 88)=0↔I T2 55=4):=by
   obtain⟨-,-,-,-,-,-,-,-,e88,-⟩:=F0
   simp only[AA,zR,zL] at e88
   intro h
   have hn:=qO (hleg h)
   rw[←(h84 h).1,hph.1] at hn
   rw[e88,←hn];omega
  have h92:(B T2 82)=true→B T2 92=false:=by
   obtain⟨-,-,-,-,-,-,e86,-,-,e89,e90,e91,e92,-⟩:=F0
   simp only[AA,AD,zR] at*
   intro h
   have h1:=hmn h
   have h2:=(h84 h).2
   clear inv hc3_0 hc3_2 z2 z3 z4 z5 z6 z7 z8 z9 cr8_0 hleg hBs h84 hph hmn
   grind
  have hov:(B T2 96)=true→B T2 115=true∧(0≤I T2 97∧I T2 97≤3)∧(0≤I T2 102∧I T2 102≤3):=by
   obtain⟨-,-,-,-,-,-,-,-,-,-,-,-,-,-,e94,e95,-⟩:=F0
   obtain⟨e96,e97,e98,-,-,e101,e102,e103,e104,-,-,-,-,-,-,e111,-⟩:=F1
   obtain⟨e112,-,e114,e115,-⟩:=F2
   replace e98:B T2 98=(decide (AJ g3 (I T2 97)=13)):=by rw[←show gAt 0 (p9.map (Rf.eval T2))=g3 from z3.symm];exact e98
   replace e103:B T2 103=(decide (AJ g4 (I T2 102)=13)):=by rw[←show gAt 0 (p8.map (Rf.eval T2))=g4 from z4.symm];exact e103
   replace e111:B T2 111=(AR g5):=by rw[←show gAt 0 (qG.map (Rf.eval T2))=g5 from z5.symm];exact e111
   replace e114:B T2 114=(true):=e114
   simp only[AA,AD,zN,zR,w2P] at*
   intro h
   have hl:(B T2 82)=true∧I T2 55=4:=by clear inv hc3_0 hc3_2 z2 z3 z4 z5 z6 z7 z8 z9 cr8_0 hleg h84 hph hmn h92;grind
   have ho:=qN (hleg hl.1) (by rw[hph.1];exact hl.2)
   rw[hph.2] at ho
   obtain⟨B1,B2,B3,-⟩:=hBs
   have h111:(B T2 111)=true:=by rw[e111,B3];exact hleg hl.1
   rcases ho with⟨w0,w1,w2⟩|⟨w0,w1,w2⟩
   ·have h97:(I T2 97)=0:=by rw[e97,w2];kernel_rfl
    have h101:(I T2 101)=0:=by rw[e101,w2];kernel_rfl
    have h102:(I T2 102)=2:=by rw[e102 (by omega) (by omega),h101];rfl
    have h98:(B T2 98)=true:=by rw[e98,B1,h97,decide_eq_true_eq];unfold AJ AS;rw[if_pos rfl];exact w0
    have h103:(B T2 103)=true:=by rw[e103,B2,h102,decide_eq_true_eq];unfold AJ AS;rw[if_neg (by decide),if_neg (by decide),if_pos rfl];exact w1
    refine⟨?_,by omega,by omega⟩
    clear inv hc3_0 hc3_2 z2 z3 z4 z5 z6 z7 z8 z9 cr8_0 hleg h84 hph hmn h92 w0 w1 w2 h97 h101 h102 e97 e101 e98 e102 e103 e111 B1 B2 B3
    grind
   ·have h97:(I T2 97)=1:=by rw[e97,w2];kernel_rfl
    have h101:(I T2 101)=1:=by rw[e101,w2];kernel_rfl
    have h102:(I T2 102)=3:=by rw[e102 (by omega) (by omega),h101];rfl
    have h98:(B T2 98)=true:=by rw[e98,B1,h97,decide_eq_true_eq];unfold AJ AS;rw[if_neg (by decide),if_pos rfl];exact w0
    have h103:(B T2 103)=true:=by rw[e103,B2,h102,decide_eq_true_eq];unfold AJ AS;rw[if_neg (by decide),if_neg (by decide),if_neg (by decide)];exact w1
    refine⟨?_,by omega,by omega⟩
    clear inv hc3_0 hc3_2 z2 z3 z4 z5 z6 z7 z8 z9 cr8_0 hleg h84 hph hmn h92 w0 w1 w2 h97 h101 h102 e97 e101 e98 e102 e103 e111 B1 B2 B3
    grind
  have h121:(B T2 116)=true→B T2 121=true∧B T2 82=true∧B T2 122=false∧0 < I T2 124∧I T2 124=((L T2 84)).length:=by
   obtain⟨-,-,-,-,-,-,-,-,e88,-,-,-,-,-,e94,e95,-⟩:=F0
   obtain⟨-,-,-,-,e116,-,-,-,e120,e121,e122,-,e124,-⟩:=F2
   replace e120:B T2 120=(AR g6):=by rw[←show gAt 0 (qF.map (Rf.eval T2))=g6 from z6.symm];exact e120
   simp only[AA,AD,zN,zR,zL] at*
   intro h
   have hl:(B T2 82)=true∧¬I T2 55=4:=by clear inv hc3_0 hc3_2 z2 z3 z4 z5 z6 z7 z8 z9 cr8_0 hleg hBs h84 hph hmn h92 hov;grind
   have h120:(B T2 120)=true:=by rw[e120,hBs.2.2.2.1];exact hleg hl.1
   have hn:=hmn hl.1
   clear inv hc3_0 hc3_2 z2 z3 z4 z5 z6 z7 z8 z9 cr8_0 hleg hBs h84 hph hmn h92 hov e120
   grind
  have h116:(B T2 121)=true→B T2 116=true:=by
   obtain⟨-,-,-,-,-,-,-,-,-,e121,-⟩:=F2
   simp only[AA,AD,zR] at e121
   clear inv hc3_0 hc3_2 z2 z3 z4 z5 z6 z7 z8 z9 cr8_0 hleg hBs h84 hph hmn h92 hov h121
   grind
  have h125:(B T2 121)=true→0≤I T2 125∧I T2 125 < I T2 124:=by
   obtain⟨e80,e81,e82,-⟩:=F0
   obtain⟨-,-,-,-,-,-,-,-,-,-,-,e123,-,e125,-⟩:=F2
   simp only[AA,AD,zR,Af,zL] at*
   intro h
   obtain⟨v1,v2,v3⟩:=inv
   have h2:=h121 (h116 h)
   rw[fv3] at e123
   have hlt:(I T2 53) < ((L T 3)).length:=by clear hc3_0 hc3_2 z2 z3 z4 z5 z6 z7 z8 z9 cr8_0 hleg hBs h84 hph hmn h92 hov h121 h116 v3;grind
   have h3:=hc3_0 (I T2 53).toNat (by omega)
   rw[←e123] at h3
   rw[e125,if_pos h3.1]
   exact⟨Int.emod_nonneg _ (by omega),Int.emod_lt_of_pos _ h2.2.2.2.1⟩
  have herr:(B T2 121)=true→B9 g8 (I T2 126) (I T2 127) (B T2 128) (L T2 135)=0:=by
   obtain⟨-,-,-,-,-,-,-,-,-,-,-,-,-,-,e126,e127,-⟩:=F2
   obtain⟨e128,e129,e130,-,-,e133,-,e135,-⟩:=F3
   replace e133:L T2 133=(nU g7 (L T2 132)):=by rw[←show gAt 0 (qJ.map (Rf.eval T2))=g7 from z7.symm];exact e133
   simp only[AA,AD,zR,zL] at*
   intro h
   obtain⟨-,h82,-,h0,h98⟩:=h121 (h116 h)
   obtain⟨h9a,h9b⟩:=h125 h
   have hm:=(h84 h82).1
   have hl:=hleg h82
   rw[hm] at e126 e127 e128 e129
   rw[nd] at e129
   rw[hBs.2.2.2.2.2,e126,e127,e128]
   refine np hl (by rw[←hm];omega) (fun h2=>?_) (fun h2=>?_)
   ·rw[←e126] at h2
    have h104:(B T2 130)=true:=e130.2 h2
    rw[if_pos h104] at e135
    rw[e135,e133,hBs.2.2.2.2.1]
    exact⟨nj.2,nj.1⟩
   ·rw[←e126] at h2
    have h104:(B T2 130)=false:=by cases hx:(B T2 130) with|true=>exact absurd (e130.1 hx) h2|false=>rfl
    rw[if_neg (by rw[h104];decide)] at e135
    rw[e135,e129]
  have hN:(B T2 121)=true→AR (gT T2 136)=true:=by
   intro h
   have he:=herr h
   have hP:=cr8_0
   rw[j8 he] at hP
   rw[hP];exact gU he
  have h167:(B T2 121)=true→B T2 167=false∧B T2 168=false:=by
   obtain⟨-,-,e162,e163,-,e165,e166,e167,e168,-⟩:=F5
   replace e162:I T2 162=(B9 g8 (I T2 126) (I T2 127) (B T2 128) (L T2 135)):=by rw[←show gAt 0 (pi.map (Rf.eval T2))=g8 from z8.symm];exact e162
   replace e165:I T2 165=((if AR g9=true then 0 else 2)):=by rw[←show gAt 0 (qE.map (Rf.eval T2))=g9 from z9.symm];exact e165
   simp only[AA,AD,zR] at*
   intro h
   rw[herr h] at e162
   rw[z9,if_pos (hN h)] at e165
   clear inv hc3_0 hc3_2 z2 z3 z4 z5 z6 z7 z8 z9 cr8_0 hleg hBs h84 hph hmn h92 hov h121 h116 h125 herr hN
   grind
  have hres:(B T2 169)=true→B T2 121=true:=by
   obtain⟨-,-,-,-,-,-,-,-,-,e169,-⟩:=F5
   simp only[AA,AD,zN,zR] at e169
   clear inv
   clear hc3_0 hc3_2 z2 z3 z4 z5 z6 z7 z8 z9 cr8_0 hleg hBs h84 hph hmn h92 hov h121 h116 h125 herr hN h167
   grind
  have hlt:(B T2 82)=true→I T2 53 < ((L T 3)).length:=by
   obtain⟨e80,e81,e82,-⟩:=F0
   simp only[AA,AD,zR,zL] at e80 e81 e82
   clear inv hres
   clear hc3_0 hc3_2 z2 z3 z4 z5 z6 z7 z8 z9 cr8_0 hleg hBs h84 hph hmn h92 hov h121 h116 h125 herr hN h167
   grind
  suffices hz:(B T2 131=true→0≤I T2 53∧I T2 53 < ((L T2 3)).length)∧(B T2 121=true→0≤I T2 125∧I T2 125 < ((L T2 84)).length)∧(B T2 121=true→¬I T2 124=0)∧(B T2 121=true→0≤I T2 53∧I T2 53 < ((L T2 3)).length)∧(B T2 116=true→0≤I T2 53∧I T2 53 < ((L T2 3)).length)∧(B T2 107=true→0≤I T2 53∧I T2 53 < ((L T2 3)).length)∧(B T2 100=true→0≤I T2 102∧I T2 102≤3)∧(B T2 96=true→0≤I T2 97∧I T2 97≤3)∧(B T2 169=true→(0≤I T2 178∧I T2 178≤((L T 3)).length∧((B T 52)=true→AR (gT T2 136)=true)))∧(B T2 169=true→(((L T 3)).length - (I T2 178)).toNat < (((L T 3)).length - (I T2 53)).toNat) from
   let⟨r0,r1,r2,r3,r4,r5,r6,r7,nx,mz⟩:=hz;⟨⟨r0,r1,r2,r3,r4,r5,r6,r7,trivial⟩,fun hp=>⟨nx hp,mz hp⟩⟩
  refine⟨?_,?_,?_,?_,?_,?_,?_,?_,?_,?_⟩
  ·obtain⟨-,-,-,e131,-⟩:=F3
   simp only[AA,AD,zR] at e131
   intro h
   obtain⟨v1,v2,v3⟩:=inv
   have h1:(B T2 121)=true:=by clear v3 hres hlt hc3_0 hc3_2 z2 z3 z4 z5 z6 z7 z8 z9 cr8_0 hleg hBs h84 hph hmn h92 hov h121 h116 h125 herr hN h167;grind
   have hl:=hlt (h121 (h116 h1)).2.1
   rw[fv3];omega
  ·intro h
   have a:=h125 h
   have b:=h121 (h116 h)
   omega
  ·intro h
   have b:=h121 (h116 h)
   omega
  ·intro h
   obtain⟨v1,v2,v3⟩:=inv
   have hl:=hlt (h121 (h116 h)).2.1
   rw[fv3];omega
  ·intro h
   obtain⟨v1,v2,v3⟩:=inv
   have hl:=hlt (h121 h).2.1
   rw[fv3];omega
  ·obtain⟨-,-,-,-,-,-,-,-,-,-,-,-,-,-,e94,-⟩:=F0
   obtain⟨e96,-,-,-,-,-,-,-,-,-,-,e107,-⟩:=F1
   simp only[AA,AD,zN,zR] at e94 e96 e107
   intro h
   obtain⟨v1,v2,v3⟩:=inv
   have h1:(B T2 82)=true:=by clear v3 hres hlt hc3_0 hc3_2 z2 z3 z4 z5 z6 z7 z8 z9 cr8_0 hleg hBs h84 hph hmn h92 hov h121 h116 h125 herr hN h167;grind
   have hl:=hlt h1
   rw[fv3];omega
  ·obtain⟨-,-,-,-,e100,-⟩:=F1
   simp only[AA,AD,zR] at e100
   intro h
   exact (hov (by clear inv hres hlt hc3_0 hc3_2 z2 z3 z4 z5 z6 z7 z8 z9 cr8_0 hleg hBs h84 hph hmn h92 hov h121 h116 h125 herr hN h167;grind)).2.2
  ·intro h
   exact (hov h).2.1
  ·obtain⟨-,-,e178,-⟩:=F6
   simp only[AA,zR,w2P] at e178
   intro hp
   obtain⟨v1,v2,v3⟩:=inv
   have h1:=hres hp
   have hl:=hlt (h121 (h116 h1)).2.1
   have e:(I T2 178)=I T2 53+1:=e178 (by omega) (by omega)
   exact⟨by omega,by omega,fun _=>hN h1⟩
  ·obtain⟨-,-,e178,-⟩:=F6
   simp only[AA,zR,w2P] at e178
   intro hp
   obtain⟨v1,v2,v3⟩:=inv
   have hl:=hlt (h121 (h116 (hres hp))).2.1
   have e:(I T2 178)=I T2 53+1:=e178 (by omega) (by omega)
   omega
theorem rF {T:Tab}(lo0:0≤I T 0)(hi0:I T 0≤255)(lo1:0≤I T 1)(hi1:I T 1≤255)(lo2:0≤I T 2)(hi2:I T 2≤255)(hl3:(L T 3).length≤140737488355328)(hc3_0:∀q:Nat,q < (L T 3).length→0≤At (L T 3) q 0∧At (L T 3) q 0≤255)(hc3_2:∀q:Nat,q < (L T 3).length→0≤At (L T 3) q 2∧At (L T 3) q 2≤65535)(hb3:(L T 3).length≤1048576)(g1:Gm)(z1:g1=gT T 19)(hok:mj (I T 8) (I T 17) (I T 18)=true)(hleg0:AR (gT T 19)=true)(h51:(B T 51)=false)(inv0:0≤I T 53∧I T 53≤((L T 3)).length∧((B T 52)=true→AR (gT T 54)=true))(np0:¬B T 169=true)(g10:Gm)(z10:g10=gT T 54)(g11:Gm)(z11:g11=gT T 54)(g12:Gm)(z12:g12=gT T 54)(g13:Gm)(z13:g13=gT T 54)(g14:Gm)(z14:g14=gT T 54)(g15:Gm)(z15:g15=gT T 54)(g16:Gm)(z16:g16=gT T 54)(g17:Gm)(z17:g17=gT T 136)(A0:AK T pt)(B0:AK T pk)(A1:AK T qI):
  ((B T 210)=(true)):=by
 obtain⟨F0,A0⟩:=A0.cut
 obtain⟨F1,A0⟩:=A0.cut
 obtain⟨F2,A0⟩:=A0.cut
 have F3:=A0;clear A0
 obtain⟨F4,B0⟩:=B0.cut
 obtain⟨F5,B0⟩:=B0.cut
 obtain⟨F6,B0⟩:=B0.cut
 obtain⟨F7,B0⟩:=B0.cut
 obtain⟨F8,B0⟩:=B0.cut
 obtain⟨F9,B0⟩:=B0.cut
 have F10:=B0;clear B0
 obtain⟨F11,A1⟩:=A1.cut
 obtain⟨F12,A1⟩:=A1.cut
 have F13:=A1;clear A1
 have cr16_0:gT T 136=D2 g16 (I T 126) (I T 127) (B T 128) (L T 135):=by
  obtain⟨-,-,-,-,-,-,-,-,e136,e137,e138,e139,e140,e141,e142,e143,-⟩:=F7
  obtain⟨e144,e145,e146,e147,e148,e149,e150,e151,e152,e153,e154,e155,e156,e157,e158,e159,-⟩:=F8
  obtain⟨e160,e161,-⟩:=F9
  rw[←show gAt 0 (pi.map (Rf.eval T))=g16 from z16.symm]
  exact Bk e136 e137 e138 e139 e140 e141 e142 e143 e144 e145 e146 e147 e148 e149 e150 e151 e152 e153 e154 e155 e156 e157 e158 e159 e160 e161
 have hleg:(B T 82)=true→AR g10=true:=by
  obtain⟨-,e81,e82,-⟩:=F4
  simp only[AA,AD,zR] at e81 e82
  intro h
  obtain⟨v1,v2,v3⟩:=inv0
  have h52:(B T 52)=true:=by clear v3 hc3_0 hc3_2 z10 z11 z12 z13 z14 z15 z16 z17 cr16_0;grind
  rw[z10];exact v3 h52
 have hBs:g11=g10∧g12=g10∧g13=g10∧g14=g10∧g15=g10∧g16=g10:=by
  rw[z10,z11,z12,z13,z14,z15,z16];exact⟨rfl,rfl,rfl,rfl,rfl,rfl⟩
 have h84:(B T 82)=true→L T 84=C2 g10∧I T 85=0:=by
  obtain⟨e4,e5,-,e7,e8,e9,e10,e11,-,e13,e14,-,-,e17,e18,e19,-⟩:=F0
  obtain⟨e20,e21,e22,e23,e24,e25,e26,e27,e28,e29,e30,e31,e32,e33,e34,e35,-⟩:=F1
  obtain⟨e36,e37,e38,e39,e40,e41,e42,e43,e44,e45,e46,-,e48,e49,e50,-⟩:=F2
  obtain⟨e52,-⟩:=F3
  obtain⟨e80,e81,e82,-,e84,e85,-⟩:=F4
  replace e19:I T 19=(((mf (I T 8) (I T 17) (I T 18))).code):=e19
  replace e20:I T 20=(((mf (I T 8) (I T 17) (I T 18))).phase):=e20
  replace e21:I T 21=(((mf (I T 8) (I T 17) (I T 18))).side):=e21
  replace e22:I T 22=(((mf (I T 8) (I T 17) (I T 18))).ball):=e22
  replace e23:I T 23=(((mf (I T 8) (I T 17) (I T 18))).taken):=e23
  replace e24:I T 24=(((mf (I T 8) (I T 17) (I T 18))).p0):=e24
  replace e25:I T 25=(((mf (I T 8) (I T 17) (I T 18))).p1):=e25
  replace e26:I T 26=(((mf (I T 8) (I T 17) (I T 18))).p2):=e26
  replace e27:I T 27=(((mf (I T 8) (I T 17) (I T 18))).p3):=e27
  replace e28:B T 28=(((mf (I T 8) (I T 17) (I T 18))).n0):=e28
  replace e29:B T 29=(((mf (I T 8) (I T 17) (I T 18))).n1):=e29
  replace e30:B T 30=(((mf (I T 8) (I T 17) (I T 18))).n2):=e30
  replace e31:B T 31=(((mf (I T 8) (I T 17) (I T 18))).n3):=e31
  replace e32:B T 32=(((mf (I T 8) (I T 17) (I T 18))).d0):=e32
  replace e33:B T 33=(((mf (I T 8) (I T 17) (I T 18))).d1):=e33
  replace e34:B T 34=(((mf (I T 8) (I T 17) (I T 18))).d2):=e34
  replace e35:B T 35=(((mf (I T 8) (I T 17) (I T 18))).d3):=e35
  replace e36:I T 36=(((mf (I T 8) (I T 17) (I T 18))).h0):=e36
  replace e37:I T 37=(((mf (I T 8) (I T 17) (I T 18))).h1):=e37
  replace e38:B T 38=(((mf (I T 8) (I T 17) (I T 18))).l0):=e38
  replace e39:B T 39=(((mf (I T 8) (I T 17) (I T 18))).l1):=e39
  replace e40:B T 40=(((mf (I T 8) (I T 17) (I T 18))).half):=e40
  replace e41:I T 41=(((mf (I T 8) (I T 17) (I T 18))).turns):=e41
  replace e42:I T 42=(((mf (I T 8) (I T 17) (I T 18))).began):=e42
  replace e43:I T 43=(((mf (I T 8) (I T 17) (I T 18))).lastb):=e43
  replace e44:I T 44=(((mf (I T 8) (I T 17) (I T 18))).winner):=e44
  replace e45:I T 45=(mm (I T 8) (I T 17) (I T 18)):=e45
  replace e48:I T 48=((if AR g1=true then 0 else 2)):=by rw[←show gAt 0 (qH.map (Rf.eval T))=g1 from z1.symm];exact e48
  replace e84:L T 84=((if AR g10=true then C2 g10 else [])):=by rw[←show gAt 0 (pm.map (Rf.eval T))=g10 from z10.symm];exact e84
  replace e85:I T 85=((if AR g10=true then 0 else 2)):=by rw[←show gAt 0 (pm.map (Rf.eval T))=g10 from z10.symm];exact e85
  simp only[AA,AD,zN,zR,Af,zL] at*
  intro h
  rw[e84,e85,if_pos (hleg h),if_pos (hleg h)];exact⟨rfl,rfl⟩
 have hph:(g10).phase=I T 55∧(g10).winner=I T 79:=by
  rw[z10];exact⟨rfl,rfl⟩
 have hmn:(B T 82)=true→((I T 88)=0↔I T 55=4):=by
  obtain⟨-,-,-,-,-,-,-,-,e88,-⟩:=F4
  simp only[AA,zR,zL] at e88
  intro h
  have hn:=qO (hleg h)
  rw[←(h84 h).1,hph.1] at hn
  rw[e88,←hn];omega
 have h92:(B T 82)=true→B T 92=false:=by
  obtain⟨-,-,-,-,-,-,e86,-,-,e89,e90,e91,e92,-⟩:=F4
  simp only[AA,AD,zR] at*
  intro h
  have h1:=hmn h
  have h2:=(h84 h).2
  clear inv0 hc3_0 hc3_2 z10 z11 z12 z13 z14 z15 z16 z17 cr16_0 hleg hBs h84 hph hmn np0
  grind
 have hov:(B T 96)=true→B T 115=true∧(0≤I T 97∧I T 97≤3)∧(0≤I T 102∧I T 102≤3):=by
  obtain⟨-,-,-,-,-,-,-,-,-,-,-,-,-,-,e94,e95,-⟩:=F4
  obtain⟨e96,e97,e98,-,-,e101,e102,e103,e104,-,-,-,-,-,-,e111,-⟩:=F5
  obtain⟨e112,-,e114,e115,-⟩:=F6
  replace e98:B T 98=(decide (AJ g11 (I T 97)=13)):=by rw[←show gAt 0 (p9.map (Rf.eval T))=g11 from z11.symm];exact e98
  replace e103:B T 103=(decide (AJ g12 (I T 102)=13)):=by rw[←show gAt 0 (p8.map (Rf.eval T))=g12 from z12.symm];exact e103
  replace e111:B T 111=(AR g13):=by rw[←show gAt 0 (qG.map (Rf.eval T))=g13 from z13.symm];exact e111
  replace e114:B T 114=(true):=e114
  simp only[AA,AD,zN,zR,w2P] at*
  intro h
  have hl:(B T 82)=true∧I T 55=4:=by clear inv0 hc3_0 hc3_2 z10 z11 z12 z13 z14 z15 z16 z17 cr16_0 hleg h84 hph hmn h92 np0;grind
  have ho:=qN (hleg hl.1) (by rw[hph.1];exact hl.2)
  rw[hph.2] at ho
  obtain⟨B1,B2,B3,-⟩:=hBs
  have h111:(B T 111)=true:=by rw[e111,B3];exact hleg hl.1
  rcases ho with⟨w0,w1,w2⟩|⟨w0,w1,w2⟩
  ·have h97:(I T 97)=0:=by rw[e97,w2];kernel_rfl
   have h101:(I T 101)=0:=by rw[e101,w2];kernel_rfl
   have h102:(I T 102)=2:=by rw[e102 (by omega) (by omega),h101];rfl
   have h98:(B T 98)=true:=by rw[e98,B1,h97,decide_eq_true_eq];unfold AJ AS;rw[if_pos rfl];exact w0
   have h103:(B T 103)=true:=by rw[e103,B2,h102,decide_eq_true_eq];unfold AJ AS;rw[if_neg (by decide),if_neg (by decide),if_pos rfl];exact w1
   refine⟨?_,by omega,by omega⟩
   clear inv0 hc3_0 hc3_2 z10 z11 z12 z13 z14 z15 z16 z17 cr16_0 hleg h84 hph hmn h92 w0 w1 w2 h97 h101 h102 e97 e101 e98 e102 e103 e111 B1 B2 B3 np0
   grind
  ·have h97:(I T 97)=1:=by rw[e97,w2];kernel_rfl
   have h101:(I T 101)=1:=by rw[e101,w2];kernel_rfl
   have h102:(I T 102)=3:=by rw[e102 (by omega) (by omega),h101];rfl
   have h98:(B T 98)=true:=by rw[e98,B1,h97,decide_eq_true_eq];unfold AJ AS;rw[if_neg (by decide),if_pos rfl];exact w0
   have h103:(B T 103)=true:=by rw[e103,B2,h102,decide_eq_true_eq];unfold AJ AS;rw[if_neg (by decide),if_neg (by decide),if_neg (by decide)];exact w1
   refine⟨?_,by omega,by omega⟩
   clear inv0 hc3_0 hc3_2 z10 z11 z12 z13 z14 z15 z16 z17 cr16_0 hleg h84 hph hmn h92 w0 w1 w2 h97 h101 h102 e97 e101 e98 e102 e103 e111 B1 B2 B3 np0
   grind
 have h121:(B T 116)=true→B T 121=true∧B T 82=true∧B T 122=false∧0 < I T 124∧I T 124=((L T 84)).length:=by
  obtain⟨-,-,-,-,-,-,-,-,e88,-,-,-,-,-,e94,e95,-⟩:=F4
  obtain⟨-,-,-,-,e116,-,-,-,e120,e121,e122,-,e124,-⟩:=F6
  replace e120:B T 120=(AR g14):=by rw[←show gAt 0 (qF.map (Rf.eval T))=g14 from z14.symm];exact e120
  simp only[AA,AD,zN,zR,zL] at*
  intro h
  have hl:(B T 82)=true∧¬I T 55=4:=by clear inv0 hc3_0 hc3_2 z10 z11 z12 z13 z14 z15 z16 z17 cr16_0 hleg hBs h84 hph hmn h92 hov np0;grind
  have h120:(B T 120)=true:=by rw[e120,hBs.2.2.2.1];exact hleg hl.1
  have hn:=hmn hl.1
  clear inv0 hc3_0 hc3_2 z10 z11 z12 z13 z14 z15 z16 z17 cr16_0 hleg hBs h84 hph hmn h92 hov e120 np0
  grind
 have h116:(B T 121)=true→B T 116=true:=by
  obtain⟨-,-,-,-,-,-,-,-,-,e121,-⟩:=F6
  simp only[AA,AD,zR] at e121
  clear inv0 hc3_0 hc3_2 z10 z11 z12 z13 z14 z15 z16 z17 cr16_0 hleg hBs h84 hph hmn h92 hov h121 np0
  grind
 have h125:(B T 121)=true→0≤I T 125∧I T 125 < I T 124:=by
  obtain⟨e80,e81,e82,-⟩:=F4
  obtain⟨-,-,-,-,-,-,-,-,-,-,-,e123,-,e125,-⟩:=F6
  simp only[AA,AD,zR,Af,zL] at*
  intro h
  obtain⟨v1,v2,v3⟩:=inv0
  have h2:=h121 (h116 h)
  have hlt:(I T 53) < ((L T 3)).length:=by clear hc3_0 hc3_2 z10 z11 z12 z13 z14 z15 z16 z17 cr16_0 hleg hBs h84 hph hmn h92 hov h121 h116 v3 np0;grind
  have h3:=hc3_0 (I T 53).toNat (by omega)
  rw[←e123] at h3
  rw[e125,if_pos h3.1]
  exact⟨Int.emod_nonneg _ (by omega),Int.emod_lt_of_pos _ h2.2.2.2.1⟩
 have herr:(B T 121)=true→B9 g16 (I T 126) (I T 127) (B T 128) (L T 135)=0:=by
  obtain⟨-,-,-,-,-,-,-,-,-,-,-,-,-,-,e126,e127,-⟩:=F6
  obtain⟨e128,e129,e130,-,-,e133,-,e135,-⟩:=F7
  replace e133:L T 133=(nU g15 (L T 132)):=by rw[←show gAt 0 (qJ.map (Rf.eval T))=g15 from z15.symm];exact e133
  simp only[AA,AD,zR,zL] at*
  intro h
  obtain⟨-,h82,-,h0,h98⟩:=h121 (h116 h)
  obtain⟨h9a,h9b⟩:=h125 h
  have hm:=(h84 h82).1
  have hl:=hleg h82
  rw[hm] at e126 e127 e128 e129
  rw[nd] at e129
  rw[hBs.2.2.2.2.2,e126,e127,e128]
  refine np hl (by rw[←hm];omega) (fun h2=>?_) (fun h2=>?_)
  ·rw[←e126] at h2
   have h104:(B T 130)=true:=e130.2 h2
   rw[if_pos h104] at e135
   rw[e135,e133,hBs.2.2.2.2.1]
   exact⟨nj.2,nj.1⟩
  ·rw[←e126] at h2
   have h104:(B T 130)=false:=by cases hx:(B T 130) with|true=>exact absurd (e130.1 hx) h2|false=>rfl
   rw[if_neg (by rw[h104];decide)] at e135
   rw[e135,e129]
 have hN:(B T 121)=true→AR (gT T 136)=true:=by
  intro h
  have he:=herr h
  have hP:=cr16_0
  rw[j8 he] at hP
  rw[hP];exact gU he
 have h167:(B T 121)=true→B T 167=false∧B T 168=false:=by
  obtain⟨-,-,e162,e163,-,e165,e166,e167,e168,-⟩:=F9
  replace e162:I T 162=(B9 g16 (I T 126) (I T 127) (B T 128) (L T 135)):=by rw[←show gAt 0 (pi.map (Rf.eval T))=g16 from z16.symm];exact e162
  replace e165:I T 165=((if AR g17=true then 0 else 2)):=by rw[←show gAt 0 (qE.map (Rf.eval T))=g17 from z17.symm];exact e165
  simp only[AA,AD,zR] at*
  intro h
  rw[herr h] at e162
  rw[z17,if_pos (hN h)] at e165
  clear inv0 hc3_0 hc3_2 z10 z11 z12 z13 z14 z15 z16 z17 cr16_0 hleg hBs h84 hph hmn h92 hov h121 h116 h125 herr hN np0
  grind
 have h177:(B T 177)=true→B T 176=true:=by
  obtain⟨-,-,-,-,-,-,-,-,-,-,-,-,-,e93,-⟩:=F4
  obtain⟨-,-,-,-,e116,-,-,-,-,e121,e122,-⟩:=F6
  obtain⟨-,-,-,-,-,-,-,-,e168,-,-,e171,-,e173,e174,-⟩:=F9
  obtain⟨e176,e177,-⟩:=F10
  simp only[AA,AD,zN,zC,zR,zL] at*
  have a1:=h92
  have a2:(B T 116)=true→B T 122=false:=fun h=>(h121 h).2.2.1
  have a3:(B T 121)=true→B T 168=false:=fun h=>(h167 h).2
  have a4:(B T 96)=true→B T 115=true:=fun h=>(hov h).1
  clear inv0 hc3_0 hc3_2 z10 z11 z12 z13 z14 z15 z16 z17 cr16_0 hleg hBs h84 hph hmn h92 hov h121 h116 h125 herr hN h167
  grind (splits:=40)
 clear inv0 hleg0 hc3_0 hc3_2 z10 z11 z12 z13 z14 z15 z16 z17 cr16_0 hleg hBs h84 hph hmn h92 hov h121 h116 h125 herr hN h167
 ·obtain⟨-,-,e6,-⟩:=F0
  obtain⟨e179,e180,-⟩:=F11
  obtain⟨-,-,-,-,-,-,-,-,-,-,-,-,-,e208,-,e210,-⟩:=F12
  replace e6:B T 6=(true):=e6
  replace e179:B T 179=(true):=e179
  simp only[AA,AD,zC,zR,zL] at e180 e208 e210
  grind
theorem qt:JQ Try.prog 9 Try.f8.params.toList 0=some (qP,qB):=by kernel_rfl
theorem qu:∀p∈([(17,nf),(23,lz),(18,mx),(25,pq),(19,nL),(12,LU),(24,qD),(11,M8)]:List (FuncId × Bc)),CA Try.prog p.1 p.2:=by simp only[List.forall_mem_cons];exact⟨pS,mX,pF,qv,pU,ip,rG,jS,fun _ h=>absurd h (by simp)⟩
theorem qy:∀T:Tab,Ay T (EE 0 qB)→Bnd T 0 qB→Y5 1048576 T 0 qB→CJ T ((pt++((Ek pr [.i,.i,.i,.i,.i,.i,.i,.i,.i,.i,.b,.b,.b,.b,.b,.b,.b,.b,.i,.i,.b,.b,.b,.i,.i,.i,.i] pz)++(pk++(qI)))).map En.be)→Sp T qg∧B T 210=true:=by
 intro T hS hBd hBl hE
 obtain⟨⟨lo0,hi0⟩,⟨lo1,hi1⟩,⟨lo2,hi2⟩,⟨hl3,he3⟩,-⟩:=hBd
 replace lo0:0≤I T 0:=lo0
 replace hi0:I T 0≤255:=hi0
 replace lo1:0≤I T 1:=lo1
 replace hi1:I T 1≤255:=hi1
 replace lo2:0≤I T 2:=lo2
 replace hi2:I T 2≤255:=hi2
 replace hl3:(L T 3).length≤140737488355328:=hl3
 have hc3_0:∀q:Nat,q < (L T 3).length→0≤At (L T 3) q 0∧At (L T 3) q 0≤255:=fun q hq=>od he3 hq rfl
 have hc3_2:∀q:Nat,q < (L T 3).length→0≤At (L T 3) q 2∧At (L T 3) q 2≤65535:=fun q hq=>od he3 hq rfl
 obtain⟨hb3,-⟩:=hBl
 replace hb3:(L T 3).length≤1048576:=hb3
 rw[List.map_append,List.map_append,List.map_append] at hE
 have hA:=hE.left
 replace hE:=hE.right
 have hH:=hE.left
 replace hE:=hE.right
 have hB:=hE.left
 replace hE:=hE.right
 obtain⟨A0,hS1⟩:=Cp hS (by kernel_rfl) hA
 obtain⟨g1,z1⟩:∃g:Gm,g=gT T 19:=⟨_,rfl⟩
 obtain⟨hok,hleg0,h51⟩:=qr lo0 hi0 lo1 hi1 lo2 hi2 hl3 hc3_0 hc3_2 hb3 g1 z1 A0
 obtain⟨ow0,hS2,inv0,np0⟩:=qw hl3 hc3_0 hc3_2 hleg0 hS1 hB hH
 have hF2:=(Cp (hS2.append hS1) (l:=pk) (by kernel_rfl) hB)
 obtain⟨B0,hS⟩:=hF2
 clear hA hB hH hS1 hS2
 obtain⟨g10,z10⟩:∃g:Gm,g=gT T 54:=⟨_,rfl⟩
 obtain⟨g11,z11⟩:∃g:Gm,g=gT T 54:=⟨_,rfl⟩
 obtain⟨g12,z12⟩:∃g:Gm,g=gT T 54:=⟨_,rfl⟩
 obtain⟨g13,z13⟩:∃g:Gm,g=gT T 54:=⟨_,rfl⟩
 obtain⟨g14,z14⟩:∃g:Gm,g=gT T 54:=⟨_,rfl⟩
 obtain⟨g15,z15⟩:∃g:Gm,g=gT T 54:=⟨_,rfl⟩
 obtain⟨g16,z16⟩:∃g:Gm,g=gT T 54:=⟨_,rfl⟩
 obtain⟨g17,z17⟩:∃g:Gm,g=gT T 136:=⟨_,rfl⟩
 obtain⟨A1,hO⟩:=CK (tys:=[.b]) (rs:=rD) hS (by kernel_rfl) hE
 have q0:=rF lo0 hi0 lo1 hi1 lo2 hi2 hl3 hc3_0 hc3_2 hb3 g1 z1 hok hleg0 h51 inv0 np0 g10 z10 g11 z11 g12 z12 g13 z13 g14 z14 g15 z15 g16 z16 g17 z17 A0 B0 A1
 exact⟨⟨(fun _=>ow0),trivial⟩,q0⟩
end Go.Eng
end
