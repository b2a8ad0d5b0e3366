/-
  A part of the proof: K_lRulesd K_lRules.
-/
import Derived.Test.YtcinpabggaepfaaXQlRules
import Derived.Test.YtcinpabggaepfaaE3
import Derived.Test.YtcinpabggaepfaaE4
import Derived.Test.YtcinpabggaepfaaKgLaws
import Derived.Test.YtcinpabggaepfaaKrLaws
import Derived.Test.YtcinpabggaepfaaKgNew
import Derived.Test.YtcinpabggaepfaaKrNew
import Derived.Test.YtcinpabggaepfaaKgcheck
import Derived.Test.YtcinpabggaepfaaKrcheck
import Derived.Test.YtcinpabggaepfaaKgMoves
import Derived.Test.YtcinpabggaepfaaKrMoves
import Derived.Test.YtcinpabggaepfaaKrSame
import Derived.Test.YtcinpabggaepfaaKgLive
import Derived.Test.YtcinpabggaepfaaKrLive
import Derived.Test.YtcinpabggaepfaaKgscore
import Derived.Test.YtcinpabggaepfaaKrscore
import Derived.Test.YtcinpabggaepfaaKfine
set_option linter.unusedVariables false
set_option linter.unusedSimpArgs false
noncomputable section
open Go Go.Eng Go.Proofs
set_option maxHeartbeats 4000000
set_option maxRecDepth 100000
namespace Go.Eng
def rb:List Kd:=[k64,k64,k64,k64,k64,k64,k64,k64,k64,k64,k64,k64,.bool,.bool,.bool,.bool,.bool,.bool,.bool,.bool,k64,k64,.bool,.bool,.bool,k64,k64,k64,k64]
def tX:List AC:=((JQ Try.prog 9 Try.f10.params.toList 0).map (·.1)).getD []
def rM:List Rf:=[.e 3,.e 4,.e 5,.e 6,.e 7,.e 8,.e 9,.e 10,.e 11,.e 12,.e 13,.e 14,.e 15,.e 16,.e 17,.e 18,.e 19,.e 20,.e 21,.e 22,.e 23,.e 24,.e 25,.e 26,.e 27,.e 28]
def uA:List En:=[⟨29,.outI "gLaws.0" sF,[.e 0]⟩,
 ⟨30,.outI "gLaws.1" sO,[.e 0]⟩,
 ⟨31,.outI "gLaws.2" sW,[.e 0]⟩,
 ⟨32,.outB "gLaws.3" so,[.e 0]⟩,
 ⟨33,.outB "gLaws.4" sd,[.e 0]⟩,
 ⟨34,.outB "gLaws.5" ss,[.e 0]⟩,
 ⟨35,.outI "gLaws.6" sH,[.e 0]⟩,
 ⟨36,.outI "rLaws.0" sZ,[.e 0]⟩,
 ⟨37,.outI "rLaws.1" sk,[.e 0]⟩,
 ⟨38,.outI "rLaws.2" sw,[.e 0]⟩,
 ⟨39,.outB "rLaws.3" sf,[.e 0]⟩,
 ⟨40,.outB "rLaws.4" sU,[.e 0]⟩,
 ⟨41,.outB "rLaws.5" sx,[.e 0]⟩,
 ⟨42,.outI "rLaws.6" sQ,[.e 0]⟩,
 ⟨43,.outI "gNew.0" nO,[.e 0,.e 1,.e 2]⟩,
 ⟨44,.outI "gNew.1" nY,[.e 0,.e 1,.e 2]⟩]
def uH:List En:=[⟨45,.outI "gNew.2" nP,[.e 0,.e 1,.e 2]⟩,
 ⟨46,.outI "gNew.3" nR,[.e 0,.e 1,.e 2]⟩,
 ⟨47,.outI "gNew.4" nS,[.e 0,.e 1,.e 2]⟩,
 ⟨48,.outI "gNew.5" nc,[.e 0,.e 1,.e 2]⟩,
 ⟨49,.outI "gNew.6" nW,[.e 0,.e 1,.e 2]⟩,
 ⟨50,.outI "gNew.7" nX,[.e 0,.e 1,.e 2]⟩,
 ⟨51,.outI "gNew.8" nQ,[.e 0,.e 1,.e 2]⟩,
 ⟨52,.outB "gNew.9" nN,[.e 0,.e 1,.e 2]⟩,
 ⟨53,.outB "gNew.10" nJ,[.e 0,.e 1,.e 2]⟩,
 ⟨54,.outB "gNew.11" m4,[.e 0,.e 1,.e 2]⟩,
 ⟨55,.outB "gNew.12" nA,[.e 0,.e 1,.e 2]⟩,
 ⟨56,.outB "gNew.13" m5,[.e 0,.e 1,.e 2]⟩,
 ⟨57,.outB "gNew.14" m8,[.e 0,.e 1,.e 2]⟩,
 ⟨58,.outB "gNew.15" nF,[.e 0,.e 1,.e 2]⟩,
 ⟨59,.outB "gNew.16" nI,[.e 0,.e 1,.e 2]⟩,
 ⟨60,.outI "gNew.17" m7,[.e 0,.e 1,.e 2]⟩]
def uF:List En:=[⟨61,.outI "gNew.18" nE,[.e 0,.e 1,.e 2]⟩,
 ⟨62,.outB "gNew.19" my,[.e 0,.e 1,.e 2]⟩,
 ⟨63,.outB "gNew.20" m9,[.e 0,.e 1,.e 2]⟩,
 ⟨64,.outB "gNew.21" nH,[.e 0,.e 1,.e 2]⟩,
 ⟨65,.outI "gNew.22" nK,[.e 0,.e 1,.e 2]⟩,
 ⟨66,.outI "gNew.23" nG,[.e 0,.e 1,.e 2]⟩,
 ⟨67,.outI "gNew.24" nD,[.e 0,.e 1,.e 2]⟩,
 ⟨68,.outI "gNew.25" m6,[.e 0,.e 1,.e 2]⟩,
 ⟨69,.outI "gNew.26" nC,[.e 0,.e 1,.e 2]⟩,
 ⟨70,.outI "rNew.0" tJ,[.e 0,.e 1,.e 2]⟩,
 ⟨71,.outI "rNew.1" tF,[.e 0,.e 1,.e 2]⟩,
 ⟨72,.outI "rNew.2" s9,[.e 0,.e 1,.e 2]⟩,
 ⟨73,.outI "rNew.3" tE,[.e 0,.e 1,.e 2]⟩,
 ⟨74,.outI "rNew.4" tD,[.e 0,.e 1,.e 2]⟩,
 ⟨75,.outI "rNew.5" tG,[.e 0,.e 1,.e 2]⟩,
 ⟨76,.outI "rNew.6" tH,[.e 0,.e 1,.e 2]⟩]
def tf:List En:=[⟨77,.outI "rNew.7" tB,[.e 0,.e 1,.e 2]⟩,
 ⟨78,.outI "rNew.8" tI,[.e 0,.e 1,.e 2]⟩,
 ⟨79,.outB "rNew.9" tC,[.e 0,.e 1,.e 2]⟩,
 ⟨80,.outB "rNew.10" sX,[.e 0,.e 1,.e 2]⟩,
 ⟨81,.outB "rNew.11" su,[.e 0,.e 1,.e 2]⟩,
 ⟨82,.outB "rNew.12" sJ,[.e 0,.e 1,.e 2]⟩,
 ⟨83,.outB "rNew.13" sK,[.e 0,.e 1,.e 2]⟩,
 ⟨84,.outB "rNew.14" sN,[.e 0,.e 1,.e 2]⟩,
 ⟨85,.outB "rNew.15" sG,[.e 0,.e 1,.e 2]⟩,
 ⟨86,.outB "rNew.16" sg,[.e 0,.e 1,.e 2]⟩,
 ⟨87,.outI "rNew.17" sv,[.e 0,.e 1,.e 2]⟩,
 ⟨88,.outI "rNew.18" sT,[.e 0,.e 1,.e 2]⟩,
 ⟨89,.outB "rNew.19" sn,[.e 0,.e 1,.e 2]⟩,
 ⟨90,.outB "rNew.20" sa,[.e 0,.e 1,.e 2]⟩,
 ⟨91,.outB "rNew.21" si,[.e 0,.e 1,.e 2]⟩,
 ⟨92,.outI "rNew.22" se,[.e 0,.e 1,.e 2]⟩]
def tz:List En:=[⟨93,.outI "rNew.23" sm,[.e 0,.e 1,.e 2]⟩,
 ⟨94,.outI "rNew.24" sS,[.e 0,.e 1,.e 2]⟩,
 ⟨95,.outI "rNew.25" sr,[.e 0,.e 1,.e 2]⟩,
 ⟨96,.outI "rNew.26" sq,[.e 0,.e 1,.e 2]⟩,
 ⟨97,.nes [.i,.i,.i,.b,.b,.b],[.e 29,.e 36,.e 30,.e 37,.e 31,.e 38,.e 32,.e 39,.e 33,.e 40,.e 34,.e 41]⟩,
 ⟨98,.not,[.e 97]⟩,
 ⟨99,.not,[.e 97]⟩,
 ⟨100,.ne,[.e 35,.e 42]⟩,
 ⟨101,.or,[.e 97,.e 100]⟩,
 ⟨102,.not,[.e 101]⟩,
 ⟨103,.not,[.e 101]⟩,
 ⟨104,.nes [.i,.i,.i,.i,.i,.i,.i,.i,.i,.b,.b,.b,.b,.b,.b,.b,.b,.i,.i,.b,.b,.b,.i,.i,.i,.i],[.e 43,.e 70,.e 44,.e 71,.e 45,.e 72,.e 46,.e 73,.e 47,.e 74,.e 48,.e 75,.e 49,.e 76,.e 50,.e 77,.e 51,.e 78,.e 52,.e 79,.e 53,.e 80,.e 54,.e 81,.e 55,.e 82,.e 56,.e 83,.e 57,.e 84,.e 58,.e 85,.e 59,.e 86,.e 60,.e 87,.e 61,.e 88,.e 62,.e 89,.e 63,.e 90,.e 64,.e 91,.e 65,.e 92,.e 66,.e 93,.e 67,.e 94,.e 68,.e 95]⟩,
 ⟨105,.or,[.e 101,.e 104]⟩,
 ⟨106,.not,[.e 105]⟩,
 ⟨107,.not,[.e 105]⟩,
 ⟨108,.ne,[.e 69,.e 96]⟩]
def tp:List En:=[⟨109,.or,[.e 105,.e 108]⟩,
 ⟨110,.not,[.e 109]⟩,
 ⟨111,.outI "gcheck.0" ly,rM⟩,
 ⟨112,.not,[.e 109]⟩,
 ⟨113,.outI "rcheck.0" rj,rM⟩,
 ⟨114,.ne,[.e 111,.e 113]⟩,
 ⟨115,.or,[.e 109,.e 114]⟩,
 ⟨116,.not,[.e 115]⟩,
 ⟨117,.outL "gMoves.0" mv,rM⟩,
 ⟨118,.outI "gMoves.1" mw,rM⟩,
 ⟨119,.outL "rMoves.0" rc,rM⟩,
 ⟨120,.outI "rMoves.1" rv,rM⟩,
 ⟨121,.ne,[.e 118,.e 120]⟩,
 ⟨122,.and,[.e 116,.n 121]⟩,
 ⟨123,.len,[.e 117]⟩,
 ⟨124,.len,[.e 119]⟩]
def th:List En:=[⟨125,.ne,[.e 123,.e 124]⟩,
 ⟨126,.or,[.e 121,.e 125]⟩,
 ⟨127,.and,[.e 116,.e 126]⟩,
 ⟨128,.and,[.e 116,.n 126]⟩]
def td:List En:=[⟨130,.len,[.e 117]⟩,
 ⟨131,.lt,[.e 129,.e 130]⟩,
 ⟨132,.and,[.e 128,.e 131]⟩,
 ⟨133,.and,[.e 128,.n 131]⟩,
 ⟨134,.get .i 0,[.e 117,.e 129]⟩,
 ⟨135,.get .i 1,[.e 117,.e 129]⟩,
 ⟨136,.get .b 2,[.e 117,.e 129]⟩,
 ⟨137,.get .l 3,[.e 117,.e 129]⟩,
 ⟨138,.get .i 0,[.e 119,.e 129]⟩,
 ⟨139,.get .i 1,[.e 119,.e 129]⟩,
 ⟨140,.get .b 2,[.e 119,.e 129]⟩,
 ⟨141,.get .l 3,[.e 119,.e 129]⟩,
 ⟨142,.outB "rSame.0" sY,[.e 134,.e 135,.e 136,.e 137,.e 138,.e 139,.e 140,.e 141]⟩,
 ⟨143,.and,[.e 132,.e 142]⟩,
 ⟨144,.and,[.e 132,.e 142]⟩,
 ⟨145,.get .l 3,[.e 117,.e 129]⟩]
def tZ:List En:=[⟨146,.len,[.e 145]⟩,
 ⟨147,.ne,[.e 146,.c (.int 0)]⟩,
 ⟨148,.or,[.n 142,.e 147]⟩,
 ⟨149,.and,[.e 132,.e 148]⟩,
 ⟨150,.and,[.e 132,.n 148]⟩,
 ⟨151,.w2 .i64 .add,[.e 129,.c (.int 1)]⟩]
def rU:List En:=uA++(uH++(uF++(tf++(tz++(tp++(th))))))
def rP:List En:=td++(tZ)
def tN:List ObE:=[⟨some 144,.inl,[.e 129,.e 117]⟩,⟨some 132,.inl,[.e 129,.e 119]⟩,⟨some 132,.inl,[.e 129,.e 117]⟩]
def rZ:BW:=mkD 129 1 rP 150 [.e 151] tN [117,119,128]
def ru:List Rf:=[.e 117,.e 119,.e 128,.c (.int 0)]
def tl:List En:=[⟨152,.outL "gLive.0" sV,rM⟩,
 ⟨153,.outI "gLive.1" sc,rM⟩,
 ⟨154,.outL "rLive.0" sM,rM⟩,
 ⟨155,.outI "rLive.1" sP,rM⟩,
 ⟨156,.ne,[.e 153,.e 155]⟩,
 ⟨157,.and,[.e 133,.n 156]⟩,
 ⟨158,.len,[.e 152]⟩,
 ⟨159,.len,[.e 154]⟩,
 ⟨160,.ne,[.e 158,.e 159]⟩,
 ⟨161,.or,[.e 156,.e 160]⟩,
 ⟨162,.and,[.e 133,.e 161]⟩,
 ⟨163,.and,[.e 133,.n 161]⟩]
def uC:List En:=[⟨165,.len,[.e 152]⟩,
 ⟨166,.lt,[.e 164,.e 165]⟩,
 ⟨167,.and,[.e 163,.e 166]⟩,
 ⟨168,.and,[.e 163,.n 166]⟩,
 ⟨169,.get .i 0,[.e 152,.e 164]⟩,
 ⟨170,.get .i 0,[.e 154,.e 164]⟩,
 ⟨171,.ne,[.e 169,.e 170]⟩,
 ⟨172,.and,[.e 167,.e 171]⟩,
 ⟨173,.and,[.e 167,.n 171]⟩,
 ⟨174,.w2 .i64 .add,[.e 164,.c (.int 1)]⟩]
def rX:List En:=tl
def rS:List En:=uC
def tR:List ObE:=[⟨some 167,.inl,[.e 164,.e 154]⟩,⟨some 167,.inl,[.e 164,.e 152]⟩]
def rY:BW:=mkD 164 1 rS 173 [.e 174] tR [154,152,163]
def re:List Rf:=[.e 154,.e 152,.e 163,.c (.int 0)]
def uE:List En:=[⟨175,.outI "gscore.0" rk,rM⟩,
 ⟨176,.outI "gscore.1" rh,rM⟩,
 ⟨177,.outI "gscore.2" ri,rM⟩,
 ⟨178,.outI "rscore.0" rg,rM⟩,
 ⟨179,.outI "rscore.1" rm,rM⟩,
 ⟨180,.outI "rscore.2" rd,rM⟩,
 ⟨181,.eqs [.i,.i],[.e 175,.e 178,.e 176,.e 179]⟩,
 ⟨182,.and,[.e 168,.e 181]⟩,
 ⟨183,.eq,[.e 177,.e 180]⟩,
 ⟨184,.and,[.e 181,.e 183]⟩,
 ⟨185,.and,[.e 168,.e 184]⟩,
 ⟨186,.outB "fine.0" KH,[]⟩,
 ⟨187,.and,[.e 184,.e 186]⟩,
 ⟨188,.ite .i,[.e 172,.e 153,.e 177]⟩,
 ⟨189,.ite .b,[.e 172,.c (.bool false),.e 187]⟩,
 ⟨190,.ite .i,[.e 172,.e 155,.e 180]⟩]
def tY:List En:=[⟨191,.or,[.e 172,.e 168]⟩,
 ⟨192,.ite .i,[.e 162,.e 153,.e 188]⟩,
 ⟨193,.ite .b,[.e 162,.c (.bool false),.e 189]⟩,
 ⟨194,.ite .i,[.e 162,.e 155,.e 190]⟩,
 ⟨195,.or,[.e 162,.e 191]⟩,
 ⟨196,.ite .i,[.e 149,.e 118,.e 192]⟩,
 ⟨197,.ite .b,[.e 149,.c (.bool false),.e 193]⟩,
 ⟨198,.ite .i,[.e 149,.e 120,.e 194]⟩,
 ⟨199,.or,[.e 149,.e 195]⟩,
 ⟨200,.ite .i,[.e 127,.e 118,.e 196]⟩,
 ⟨201,.ite .b,[.e 127,.c (.bool false),.e 197]⟩,
 ⟨202,.ite .i,[.e 127,.e 120,.e 198]⟩,
 ⟨203,.or,[.e 127,.e 199]⟩,
 ⟨204,.ite .i,[.e 115,.e 35,.e 200]⟩,
 ⟨205,.ite .b,[.e 115,.c (.bool false),.e 201]⟩,
 ⟨206,.ite .i,[.e 115,.e 42,.e 202]⟩]
def uI:List En:=[⟨207,.or,[.e 115,.e 203]⟩]
def tA:List En:=uE++(tY++(uI))
def uB:List ObE:=[⟨some 163,.owes rY,[.e 154,.e 152,.e 163,.c (.int 0)]⟩,
 ⟨some 128,.owes rZ,[.e 117,.e 119,.e 128,.c (.int 0)]⟩]
def vV:List Rf:=[.e 205]
theorem vJ:d8 29 (ed Try.prog [(26,sy),(27,s7),(17,nf),(28,tK),(23,lz),(14,sA),(18,mx),(29,sE),(30,s6),(31,sz),(32,s8),(16,sD),(33,sC),(11,M8)] RN 3000 20 10 tX 29)=some (205,(rU++((Ek rZ [.i] ru)++(rP++(rX++((Ek rY [.i] re)++(rS++(tA))))))).map En.be,uB.map ObE.be):=by kernel_rfl
theorem uW {T:Tab}(g:Gm)(hg:g=gT T 3)(g1:Gm)(z1:g1=gT T 3)(A0:AK T rU):
  (g1=g)∧((L T 117)=L T 119)∧(∀j:Nat,EF (L T 117) j 3=[])∧(((L T 117)).length≤7):=by
 obtain⟨F0,A0⟩:=A0.cut
 obtain⟨F1,A0⟩:=A0.cut
 obtain⟨F2,A0⟩:=A0.cut
 obtain⟨F3,A0⟩:=A0.cut
 obtain⟨F4,A0⟩:=A0.cut
 obtain⟨F5,A0⟩:=A0.cut
 have F6:=A0;clear A0
 have hgA:g1=g:=by rw[z1,hg]
 have h117:(L T 117)=L T 119:=by
  obtain⟨-,-,-,-,-,-,-,-,e117,-,e119,-⟩:=F5
  replace e117:L T 117=((if AR g1=true then C2 g1 else [])):=by rw[←show gAt 0 (rM.map (Rf.eval T))=g1 from z1.symm];exact e117
  replace e119:L T 119=((if AR g1=true then C2 g1 else [])):=by rw[←show gAt 0 (rM.map (Rf.eval T))=g1 from z1.symm];exact e119
  rw[e117,e119]
 have hev:∀j:Nat,EF (L T 117) j 3=[]:=by
  obtain⟨-,-,-,-,-,-,-,-,e117,-⟩:=F5
  replace e117:L T 117=((if AR g1=true then C2 g1 else [])):=by rw[←show gAt 0 (rM.map (Rf.eval T))=g1 from z1.symm];exact e117
  intro j
  rw[e117]
  split
  ·exact nd _ j
  ·exact ut _ _
 have hlen:((L T 117)).length≤7:=by
  obtain⟨-,-,-,-,-,-,-,-,e117,-⟩:=F5
  replace e117:L T 117=((if AR g1=true then C2 g1 else [])):=by rw[←show gAt 0 (rM.map (Rf.eval T))=g1 from z1.symm];exact e117
  rw[e117]
  split
  ·exact Uo _
  ·decide
 exact⟨hgA,h117,hev,hlen⟩
theorem ul {T:Tab}(h117:(L T 117)=L T 119)(hlen:((L T 117)).length≤7)(hS:Ay T (J7 (EE 0 rb) rU))(hB:CJ T (rP.map En.be))(hH:CJ T ((Ek rZ [.i] ru).map En.be)):
  (rZ).owes (ru.map (Rf.eval T))∧Ay T (hds 129 [.i])∧(0≤I T 129∧I T 129≤((L T 117)).length)∧¬B T 150=true:=by
 refine Gx (nh:=129) (k:=1) (pcn:=150) (top:=152) (bes:=rP) (bos:=tN) (nxt:=[.e 151]) (inits:=[.c (.int 0)]) (fv:=[117,119,128]) (tys:=[.i]) (by kernel_rfl) rfl rfl rfl rfl hS (by kernel_rfl) (by kernel_rfl) hB (Ec hH) (fun s=>0≤(aI s 0)∧(aI s 0)≤((L T 117)).length) (fun s=>(((L T 117)).length - (aI s 0)).toNat) ?_ ?_
 ·show 0≤(0:Int)∧(0:Int)≤((L T 117)).length
  clear hS hB hH
  exact⟨by omega,by omega⟩
 ·intro T2 hfv hF inv
  replace inv:0≤I T2 129∧I T2 129≤((L T 117)).length:=inv
  clear hS hB hH
  replace hF:AK T2 rP:=hF
  obtain⟨F0,hF⟩:=hF.cut
  have F1:=hF;clear hF
  have fv117:L T2 117=L T 117:=fvL (hfv 117 (by decide))
  have fv119:L T2 119=L T 119:=fvL (hfv 119 (by decide))
  have fv128:B T2 128=B T 128:=fvB (hfv 128 (by decide))
  clear hfv
  suffices hz:(B T2 144=true→0≤I T2 129∧I T2 129 < ((L T2 117)).length)∧(B T2 132=true→0≤I T2 129∧I T2 129 < ((L T2 119)).length)∧(B T2 132=true→0≤I T2 129∧I T2 129 < ((L T2 117)).length)∧(B T2 150=true→(0≤I T2 151∧I T2 151≤((L T 117)).length))∧(B T2 150=true→(((L T 117)).length - (I T2 151)).toNat < (((L T 117)).length - (I T2 129)).toNat) from
   let⟨r0,r1,r2,nx,mz⟩:=hz;⟨⟨r0,r1,r2,trivial⟩,fun hp=>⟨nx hp,mz hp⟩⟩
  refine⟨?_,?_,?_,?_,?_⟩
  ·obtain⟨e130,e131,e132,-,-,-,-,-,-,-,-,-,-,-,e144,-⟩:=F0
   simp only[AA,AD,zR,zL] at*
   rw[←h117] at fv119
   grind
  ·obtain⟨e130,e131,e132,-,-,-,-,-,-,-,-,-,-,-,e144,-⟩:=F0
   simp only[AA,AD,zR,zL] at*
   rw[←h117] at fv119
   grind
  ·obtain⟨e130,e131,e132,-,-,-,-,-,-,-,-,-,-,-,e144,-⟩:=F0
   simp only[AA,AD,zR,zL] at*
   rw[←h117] at fv119
   grind
  ·obtain⟨e130,e131,e132,-⟩:=F0
   obtain⟨-,-,-,-,e150,e151,-⟩:=F1
   simp only[AA,AD,zN,zR,w2P,zL] at*
   intro hp
   have hlt:(I T2 129) < ((L T 117)).length:=by grind
   have e:(I T2 151)=I T2 129+1:=e151 (by omega) (by omega)
   omega
  ·obtain⟨e130,e131,e132,-⟩:=F0
   obtain⟨-,-,-,-,e150,e151,-⟩:=F1
   simp only[AA,AD,zN,zR,w2P,zL] at*
   intro hp
   have hlt:(I T2 129) < ((L T 117)).length:=by grind
   have e:(I T2 151)=I T2 129+1:=e151 (by omega) (by omega)
   omega
theorem uL {T:Tab}(g:Gm)(hg:g=gT T 3)(g1:Gm)(z1:g1=gT T 3)(hgA:g1=g)(h117:(L T 117)=L T 119)(hev:∀j:Nat,EF (L T 117) j 3=[])(hlen:((L T 117)).length≤7)(inv0:0≤I T 129∧I T 129≤((L T 117)).length)(np0:¬B T 150=true)(A0:AK T rU)(B0:AK T rP)(A1:AK T rX):
  ((L T 152)=L T 154)∧(((L T 152)).length≤4):=by
 obtain⟨F0,A0⟩:=A0.cut
 obtain⟨F1,A0⟩:=A0.cut
 obtain⟨F2,A0⟩:=A0.cut
 obtain⟨F3,A0⟩:=A0.cut
 obtain⟨F4,A0⟩:=A0.cut
 obtain⟨F5,A0⟩:=A0.cut
 have F6:=A0;clear A0
 obtain⟨F7,B0⟩:=B0.cut
 have F8:=B0;clear B0
 have F9:=A1;clear A1
 have h152:(L T 152)=L T 154:=by
  obtain⟨e152,-,e154,-⟩:=F9
  replace e152:L T 152=((if AR g1=true then ra g1 else [])):=by rw[←show gAt 0 (rM.map (Rf.eval T))=g1 from z1.symm];exact e152
  replace e154:L T 154=((if AR g1=true then ra g1 else [])):=by rw[←show gAt 0 (rM.map (Rf.eval T))=g1 from z1.symm];exact e154
  rw[e152,e154]
 have hlv:((L T 152)).length≤4:=by
  obtain⟨e152,-⟩:=F9
  replace e152:L T 152=((if AR g1=true then ra g1 else [])):=by rw[←show gAt 0 (rM.map (Rf.eval T))=g1 from z1.symm];exact e152
  rw[e152]
  split
  ·exact vQ _
  ·decide
 exact⟨h152,hlv⟩
theorem ur {T:Tab}(h152:(L T 152)=L T 154)(hlv:((L T 152)).length≤4)(hS:Ay T (J7 (J7 (hds 129 [.i]++J7 (EE 0 rb) rU) rP) rX))(hB:CJ T (rS.map En.be))(hH:CJ T ((Ek rY [.i] re).map En.be)):
  (rY).owes (re.map (Rf.eval T))∧Ay T (hds 164 [.i])∧(0≤I T 164∧I T 164≤((L T 152)).length)∧¬B T 173=true:=by
 refine Gx (nh:=164) (k:=1) (pcn:=173) (top:=175) (bes:=rS) (bos:=tR) (nxt:=[.e 174]) (inits:=[.c (.int 0)]) (fv:=[154,152,163]) (tys:=[.i]) (by kernel_rfl) rfl rfl rfl rfl hS (by kernel_rfl) (by kernel_rfl) hB (Ec hH) (fun s=>0≤(aI s 0)∧(aI s 0)≤((L T 152)).length) (fun s=>(((L T 152)).length - (aI s 0)).toNat) ?_ ?_
 ·show 0≤(0:Int)∧(0:Int)≤((L T 152)).length
  clear hS hB hH
  exact⟨by omega,by omega⟩
 ·intro T2 hfv hF inv
  replace inv:0≤I T2 164∧I T2 164≤((L T 152)).length:=inv
  clear hS hB hH
  replace hF:AK T2 rS:=hF
  have F0:=hF;clear hF
  have fv154:L T2 154=L T 154:=fvL (hfv 154 (by decide))
  have fv152:L T2 152=L T 152:=fvL (hfv 152 (by decide))
  have fv163:B T2 163=B T 163:=fvB (hfv 163 (by decide))
  clear hfv
  suffices hz:(B T2 167=true→0≤I T2 164∧I T2 164 < ((L T2 154)).length)∧(B T2 167=true→0≤I T2 164∧I T2 164 < ((L T2 152)).length)∧(B T2 173=true→(0≤I T2 174∧I T2 174≤((L T 152)).length))∧(B T2 173=true→(((L T 152)).length - (I T2 174)).toNat < (((L T 152)).length - (I T2 164)).toNat) from
   let⟨r0,r1,nx,mz⟩:=hz;⟨⟨r0,r1,trivial⟩,fun hp=>⟨nx hp,mz hp⟩⟩
  refine⟨?_,?_,?_,?_⟩
  ·obtain⟨e165,e166,e167,-⟩:=F0
   simp only[AA,AD,zR,zL] at e165 e166 e167
   rw[←h152] at fv154
   grind
  ·obtain⟨e165,e166,e167,-⟩:=F0
   simp only[AA,AD,zR,zL] at e165 e166 e167
   rw[←h152] at fv154
   grind
  ·obtain⟨e165,e166,e167,-,-,-,-,-,e173,e174,-⟩:=F0
   simp only[AA,AD,zN,zR,w2P,zL] at*
   intro hp
   have hlt:(I T2 164) < ((L T 152)).length:=by grind
   have e:(I T2 174)=I T2 164+1:=e174 (by omega) (by omega)
   omega
  ·obtain⟨e165,e166,e167,-,-,-,-,-,e173,e174,-⟩:=F0
   simp only[AA,AD,zN,zR,w2P,zL] at*
   intro hp
   have hlt:(I T2 164) < ((L T 152)).length:=by grind
   have e:(I T2 174)=I T2 164+1:=e174 (by omega) (by omega)
   omega
theorem vP {T:Tab}(g:Gm)(hg:g=gT T 3)(g1:Gm)(z1:g1=gT T 3)(hgA:g1=g)(h117:(L T 117)=L T 119)(hev:∀j:Nat,EF (L T 117) j 3=[])(hlen:((L T 117)).length≤7)(inv0:0≤I T 129∧I T 129≤((L T 117)).length)(np0:¬B T 150=true)(h152:(L T 152)=L T 154)(hlv:((L T 152)).length≤4)(inv1:0≤I T 164∧I T 164≤((L T 152)).length)(np1:¬B T 173=true)(A0:AK T rU)(B0:AK T rP)(A1:AK T rX)(B1:AK T rS)(A2:AK T tA):
  ((B T 205)=(true)):=by
 obtain⟨F0,A0⟩:=A0.cut
 obtain⟨F1,A0⟩:=A0.cut
 obtain⟨F2,A0⟩:=A0.cut
 obtain⟨F3,A0⟩:=A0.cut
 obtain⟨F4,A0⟩:=A0.cut
 obtain⟨F5,A0⟩:=A0.cut
 have F6:=A0;clear A0
 obtain⟨F7,B0⟩:=B0.cut
 have F8:=B0;clear B0
 have F9:=A1;clear A1
 have F10:=B1;clear B1
 obtain⟨F11,A2⟩:=A2.cut
 obtain⟨F12,A2⟩:=A2.cut
 have F13:=A2;clear A2
 have h97:(B T 97)=false:=by
  obtain⟨e29,e30,e31,e32,e33,e34,-,e36,e37,e38,e39,e40,e41,-⟩:=F0
  obtain⟨-,-,-,-,e97,-⟩:=F4
  replace e29:I T 29=((if (0≤I T 0∧I T 0≤3) then AX (I T 0) else 0)):=e29
  replace e30:I T 30=((if (0≤I T 0∧I T 0≤3) then Ac (I T 0) else 0)):=e30
  replace e31:I T 31=((if (0≤I T 0∧I T 0≤3) then Ab (I T 0) else 0)):=e31
  replace e32:B T 32=((decide (0≤I T 0∧I T 0≤3)&&Aw (I T 0))):=e32
  replace e33:B T 33=((decide (0≤I T 0∧I T 0≤3)&&Ao (I T 0))):=e33
  replace e34:B T 34=((decide (0≤I T 0∧I T 0≤3)&&BI (I T 0))):=e34
  replace e36:I T 36=((if (0≤I T 0∧I T 0≤3) then AX (I T 0) else 0)):=e36
  replace e37:I T 37=((if (0≤I T 0∧I T 0≤3) then Ac (I T 0) else 0)):=e37
  replace e38:I T 38=((if (0≤I T 0∧I T 0≤3) then Ab (I T 0) else 0)):=e38
  replace e39:B T 39=((decide (0≤I T 0∧I T 0≤3)&&Aw (I T 0))):=e39
  replace e40:B T 40=((decide (0≤I T 0∧I T 0≤3)&&Ao (I T 0))):=e40
  replace e41:B T 41=((decide (0≤I T 0∧I T 0≤3)&&BI (I T 0))):=e41
  simp only[AA,AD,zR,BL,and_true] at e97
  refine Bool.eq_false_iff.2 fun h=>?_
  rw[e97] at h
  exact h ⟨(by rw[e29,e36]),(by rw[e30,e37]),(by rw[e31,e38]),(by rw[e32,e39]),(by rw[e33,e40]),(by rw[e34,e41])⟩
 have h100:(B T 100)=false:=by
  obtain⟨-,-,-,-,-,-,e35,-,-,-,-,-,-,e42,-⟩:=F0
  obtain⟨-,-,-,-,-,-,-,e100,-⟩:=F4
  replace e35:I T 35=((if (0≤I T 0∧I T 0≤3) then 0 else 3)):=e35
  replace e42:I T 42=((if (0≤I T 0∧I T 0≤3) then 0 else 3)):=e42
  simp only[AA,zR] at e100
  clear hg
  grind
 have h104:(B T 104)=false:=by
  obtain⟨-,-,-,-,-,-,-,-,-,-,-,-,-,-,e43,e44,-⟩:=F0
  obtain⟨e45,e46,e47,e48,e49,e50,e51,e52,e53,e54,e55,e56,e57,e58,e59,e60,-⟩:=F1
  obtain⟨e61,e62,e63,e64,e65,e66,e67,e68,-,e70,e71,e72,e73,e74,e75,e76,-⟩:=F2
  obtain⟨e77,e78,e79,e80,e81,e82,e83,e84,e85,e86,e87,e88,e89,e90,e91,e92,-⟩:=F3
  obtain⟨e93,e94,e95,-,-,-,-,-,-,-,-,e104,-⟩:=F4
  replace e43:I T 43=(((mf (I T 0) (I T 1) (I T 2))).code):=e43
  replace e44:I T 44=(((mf (I T 0) (I T 1) (I T 2))).phase):=e44
  replace e45:I T 45=(((mf (I T 0) (I T 1) (I T 2))).side):=e45
  replace e46:I T 46=(((mf (I T 0) (I T 1) (I T 2))).ball):=e46
  replace e47:I T 47=(((mf (I T 0) (I T 1) (I T 2))).taken):=e47
  replace e48:I T 48=(((mf (I T 0) (I T 1) (I T 2))).p0):=e48
  replace e49:I T 49=(((mf (I T 0) (I T 1) (I T 2))).p1):=e49
  replace e50:I T 50=(((mf (I T 0) (I T 1) (I T 2))).p2):=e50
  replace e51:I T 51=(((mf (I T 0) (I T 1) (I T 2))).p3):=e51
  replace e52:B T 52=(((mf (I T 0) (I T 1) (I T 2))).n0):=e52
  replace e53:B T 53=(((mf (I T 0) (I T 1) (I T 2))).n1):=e53
  replace e54:B T 54=(((mf (I T 0) (I T 1) (I T 2))).n2):=e54
  replace e55:B T 55=(((mf (I T 0) (I T 1) (I T 2))).n3):=e55
  replace e56:B T 56=(((mf (I T 0) (I T 1) (I T 2))).d0):=e56
  replace e57:B T 57=(((mf (I T 0) (I T 1) (I T 2))).d1):=e57
  replace e58:B T 58=(((mf (I T 0) (I T 1) (I T 2))).d2):=e58
  replace e59:B T 59=(((mf (I T 0) (I T 1) (I T 2))).d3):=e59
  replace e60:I T 60=(((mf (I T 0) (I T 1) (I T 2))).h0):=e60
  replace e61:I T 61=(((mf (I T 0) (I T 1) (I T 2))).h1):=e61
  replace e62:B T 62=(((mf (I T 0) (I T 1) (I T 2))).l0):=e62
  replace e63:B T 63=(((mf (I T 0) (I T 1) (I T 2))).l1):=e63
  replace e64:B T 64=(((mf (I T 0) (I T 1) (I T 2))).half):=e64
  replace e65:I T 65=(((mf (I T 0) (I T 1) (I T 2))).turns):=e65
  replace e66:I T 66=(((mf (I T 0) (I T 1) (I T 2))).began):=e66
  replace e67:I T 67=(((mf (I T 0) (I T 1) (I T 2))).lastb):=e67
  replace e68:I T 68=(((mf (I T 0) (I T 1) (I T 2))).winner):=e68
  replace e70:I T 70=(((mf (I T 0) (I T 1) (I T 2))).code):=e70
  replace e71:I T 71=(((mf (I T 0) (I T 1) (I T 2))).phase):=e71
  replace e72:I T 72=(((mf (I T 0) (I T 1) (I T 2))).side):=e72
  replace e73:I T 73=(((mf (I T 0) (I T 1) (I T 2))).ball):=e73
  replace e74:I T 74=(((mf (I T 0) (I T 1) (I T 2))).taken):=e74
  replace e75:I T 75=(((mf (I T 0) (I T 1) (I T 2))).p0):=e75
  replace e76:I T 76=(((mf (I T 0) (I T 1) (I T 2))).p1):=e76
  replace e77:I T 77=(((mf (I T 0) (I T 1) (I T 2))).p2):=e77
  replace e78:I T 78=(((mf (I T 0) (I T 1) (I T 2))).p3):=e78
  replace e79:B T 79=(((mf (I T 0) (I T 1) (I T 2))).n0):=e79
  replace e80:B T 80=(((mf (I T 0) (I T 1) (I T 2))).n1):=e80
  replace e81:B T 81=(((mf (I T 0) (I T 1) (I T 2))).n2):=e81
  replace e82:B T 82=(((mf (I T 0) (I T 1) (I T 2))).n3):=e82
  replace e83:B T 83=(((mf (I T 0) (I T 1) (I T 2))).d0):=e83
  replace e84:B T 84=(((mf (I T 0) (I T 1) (I T 2))).d1):=e84
  replace e85:B T 85=(((mf (I T 0) (I T 1) (I T 2))).d2):=e85
  replace e86:B T 86=(((mf (I T 0) (I T 1) (I T 2))).d3):=e86
  replace e87:I T 87=(((mf (I T 0) (I T 1) (I T 2))).h0):=e87
  replace e88:I T 88=(((mf (I T 0) (I T 1) (I T 2))).h1):=e88
  replace e89:B T 89=(((mf (I T 0) (I T 1) (I T 2))).l0):=e89
  replace e90:B T 90=(((mf (I T 0) (I T 1) (I T 2))).l1):=e90
  replace e91:B T 91=(((mf (I T 0) (I T 1) (I T 2))).half):=e91
  replace e92:I T 92=(((mf (I T 0) (I T 1) (I T 2))).turns):=e92
  replace e93:I T 93=(((mf (I T 0) (I T 1) (I T 2))).began):=e93
  replace e94:I T 94=(((mf (I T 0) (I T 1) (I T 2))).lastb):=e94
  replace e95:I T 95=(((mf (I T 0) (I T 1) (I T 2))).winner):=e95
  simp only[AA,AD,zR,BL,and_true] at e104
  refine Bool.eq_false_iff.2 fun h=>?_
  rw[e104] at h
  exact h ⟨(by rw[e43,e70]),(by rw[e44,e71]),(by rw[e45,e72]),(by rw[e46,e73]),(by rw[e47,e74]),(by rw[e48,e75]),(by rw[e49,e76]),(by rw[e50,e77]),(by rw[e51,e78]),(by rw[e52,e79]),(by rw[e53,e80]),(by rw[e54,e81]),(by rw[e55,e82]),(by rw[e56,e83]),(by rw[e57,e84]),(by rw[e58,e85]),(by rw[e59,e86]),(by rw[e60,e87]),(by rw[e61,e88]),(by rw[e62,e89]),(by rw[e63,e90]),(by rw[e64,e91]),(by rw[e65,e92]),(by rw[e66,e93]),(by rw[e67,e94]),(by rw[e68,e95])⟩
 have h108:(B T 108)=false:=by
  obtain⟨-,-,-,-,-,-,-,-,e69,-⟩:=F2
  obtain⟨-,-,-,e96,-,-,-,-,-,-,-,-,-,-,-,e108,-⟩:=F4
  replace e69:I T 69=(mm (I T 0) (I T 1) (I T 2)):=e69
  replace e96:I T 96=(mm (I T 0) (I T 1) (I T 2)):=e96
  simp only[AA,zR] at e108
  clear hg
  grind
 have h114:(B T 114)=false:=by
  obtain⟨-,-,e111,-,e113,e114,-⟩:=F5
  replace e111:I T 111=((if AR g1=true then 0 else 2)):=by rw[←show gAt 0 (rM.map (Rf.eval T))=g1 from z1.symm];exact e111
  replace e113:I T 113=((if AR g1=true then 0 else 2)):=by rw[←show gAt 0 (rM.map (Rf.eval T))=g1 from z1.symm];exact e113
  simp only[AA,zR] at e114
  clear hg
  grind
 have h121:(B T 121)=false:=by
  obtain⟨-,-,-,-,-,-,-,-,-,e118,-,e120,e121,-⟩:=F5
  replace e118:I T 118=((if AR g1=true then 0 else 2)):=by rw[←show gAt 0 (rM.map (Rf.eval T))=g1 from z1.symm];exact e118
  replace e120:I T 120=((if AR g1=true then 0 else 2)):=by rw[←show gAt 0 (rM.map (Rf.eval T))=g1 from z1.symm];exact e120
  simp only[AA,zR] at e121
  clear hg
  grind
 have h149:(B T 149)=false:=by
  obtain⟨-,-,e132,-,e134,e135,e136,-,e138,e139,e140,-,e142,-,-,e145,-⟩:=F7
  obtain⟨e146,e147,e148,e149,-⟩:=F8
  replace e142:B T 142=(decide ((I T 134)=I T 138)&&decide ((I T 135)=I T 139)&&((B T 136)==B T 140)):=e142
  simp only[AA,AD,zN,zR,zL] at*
  have h7:=hev (I T 129).toNat
  rw[←h117] at e138 e139 e140
  have h142:(B T 142)=true:=by rw[e142,e134,e135,e136,e138,e139,e140];simp
  rw[h7] at e145
  clear hg hev e134 e135 e136 e138 e139 e140 e142
  grind
 have h156:(B T 156)=false:=by
  obtain⟨-,e153,-,e155,e156,-⟩:=F9
  replace e153:I T 153=((if AR g1=true then 0 else 2)):=by rw[←show gAt 0 (rM.map (Rf.eval T))=g1 from z1.symm];exact e153
  replace e155:I T 155=((if AR g1=true then 0 else 2)):=by rw[←show gAt 0 (rM.map (Rf.eval T))=g1 from z1.symm];exact e155
  simp only[AA,zR] at e156
  clear hg
  grind
 have h172:(B T 172)=false:=by
  obtain⟨-,-,e167,-,e169,e170,e171,e172,-⟩:=F10
  simp only[AA,AD,zR,zL] at*
  rw[←h152] at e170
  clear hg hev
  grind
 have h184:(B T 184)=true:=by
  obtain⟨e175,e176,e177,e178,e179,e180,e181,-,e183,e184,-⟩:=F11
  replace e175:I T 175=((if AR g1=true then rQ (AX (I T 3)) (I T 8) (I T 10) else 0)):=by rw[←show gAt 0 (rM.map (Rf.eval T))=g1 from z1.symm];exact e175
  replace e176:I T 176=((if AR g1=true then rQ (AX (I T 3)) (I T 9) (I T 11) else 0)):=by rw[←show gAt 0 (rM.map (Rf.eval T))=g1 from z1.symm];exact e176
  replace e177:I T 177=((if AR g1=true then 0 else 2)):=by rw[←show gAt 0 (rM.map (Rf.eval T))=g1 from z1.symm];exact e177
  replace e178:I T 178=((if AR g1=true then rQ (AX (I T 3)) (I T 8) (I T 10) else 0)):=by rw[←show gAt 0 (rM.map (Rf.eval T))=g1 from z1.symm];exact e178
  replace e179:I T 179=((if AR g1=true then rQ (AX (I T 3)) (I T 9) (I T 11) else 0)):=by rw[←show gAt 0 (rM.map (Rf.eval T))=g1 from z1.symm];exact e179
  replace e180:I T 180=((if AR g1=true then 0 else 2)):=by rw[←show gAt 0 (rM.map (Rf.eval T))=g1 from z1.symm];exact e180
  simp only[AA,AD,zR,BL,and_true] at e181 e183 e184
  clear hg hev
  have h1:=e175.trans e178.symm
  have h2:=e176.trans e179.symm
  have h3:=e177.trans e180.symm
  clear e175 e176 e177 e178 e179 e180
  grind
 clear hg hev
 ·obtain⟨-,-,-,-,-,-,-,-,e101,-,-,-,e105,-⟩:=F4
  obtain⟨e109,-,-,-,-,-,e115,-,-,-,-,-,-,-,e123,e124,-⟩:=F5
  obtain⟨e125,e126,e127,-⟩:=F6
  obtain⟨-,-,-,-,-,-,e158,e159,e160,e161,e162,-⟩:=F9
  obtain⟨-,-,-,-,-,-,-,-,-,-,-,e186,e187,-,e189,-⟩:=F11
  obtain⟨-,-,e193,-,-,-,e197,-,-,-,e201,-,-,-,e205,-⟩:=F12
  replace e186:B T 186=(true):=e186
  simp only[AA,AD,zC,zR,zL] at*
  grind
theorem uJ:JQ Try.prog 9 Try.f10.params.toList 0=some (tX,rb):=by kernel_rfl
theorem uo:∀p∈([(26,sy),(27,s7),(17,nf),(28,tK),(23,lz),(14,sA),(18,mx),(29,sE),(30,s6),(31,sz),(32,s8),(16,sD),(33,sC),(11,M8)]:List (FuncId × Bc)),CA Try.prog p.1 p.2:=by simp only[List.forall_mem_cons];exact⟨vG,vO,pS,vY,mX,uu,pF,uw,vW,vK,u9,uz,uy,jS,fun _ h=>absurd h (by simp)⟩
theorem uv:∀T:Tab,Ay T (EE 0 rb)→Bnd T 0 rb→Y5 1048576 T 0 rb→CJ T ((rU++((Ek rZ [.i] ru)++(rP++(rX++((Ek rY [.i] re)++(rS++(tA))))))).map En.be)→Sp T uB∧B T 205=true:=by
 intro T hS hBd hBl hE
 clear hBd
 obtain⟨g,hg⟩:∃g:Gm,g=gT T 3:=⟨_,rfl⟩
 clear hBl
 rw[List.map_append,List.map_append,List.map_append,List.map_append,List.map_append,List.map_append] at hE
 have hA:=hE.left
 replace hE:=hE.right
 have hH:=hE.left
 replace hE:=hE.right
 have hB:=hE.left
 replace hE:=hE.right
 obtain⟨A0,hS1⟩:=Cp hS (by kernel_rfl) hA
 obtain⟨g1,z1⟩:∃g:Gm,g=gT T 3:=⟨_,rfl⟩
 obtain⟨hgA,h117,hev,hlen⟩:=uW g hg g1 z1 A0
 obtain⟨ow0,hS2,inv0,np0⟩:=ul h117 hlen hS1 hB hH
 have hF2:=(Cp (hS2.append hS1) (l:=rP) (by kernel_rfl) hB)
 obtain⟨B0,hS⟩:=hF2
 clear hA hB hH hS1 hS2
 have hA:=hE.left
 replace hE:=hE.right
 have hH:=hE.left
 replace hE:=hE.right
 have hB:=hE.left
 replace hE:=hE.right
 obtain⟨A1,hS1⟩:=Cp hS (by kernel_rfl) hA
 obtain⟨h152,hlv⟩:=uL g hg g1 z1 hgA h117 hev hlen inv0 np0 A0 B0 A1
 obtain⟨ow1,hS2,inv1,np1⟩:=ur h152 hlv hS1 hB hH
 have hF2:=(Cp (hS2.append hS1) (l:=rS) (by kernel_rfl) hB)
 obtain⟨B1,hS⟩:=hF2
 clear hA hB hH hS1 hS2
 obtain⟨A2,hO⟩:=CK (tys:=[.b]) (rs:=vV) hS (by kernel_rfl) hE
 have q0:=vP g hg g1 z1 hgA h117 hev hlen inv0 np0 h152 hlv inv1 np1 A0 B0 A1 B1 A2
 exact⟨⟨(fun _=>ow1),(fun _=>ow0),trivial⟩,q0⟩
end Go.Eng
end
