/-
  A part of the proof: K_numbersd K_numbers.
-/
import Derived.Test.YtcinpabggaepfaaE3
import Derived.Test.YtcinpabggaepfaaE4
import Derived.Test.YtcinpabggaepfaaKlaws
import Derived.Test.YtcinpabggaepfaaKhalves
set_option linter.unusedVariables false
set_option linter.unusedSimpArgs false
noncomputable section
open Go Go.Eng Go.Proofs
set_option maxHeartbeats 4000000
set_option maxRecDepth 100000
namespace Go.Eng
def JG:List U→Bool:=fun us=>(BU (gAt 0 us))
def JT:Bc:={ sh:=[.agg [k64,k64,k64,k64,k64,k64,k64,k64,k64,.bool,.bool,.bool,.bool,.bool,.bool,.bool,.bool,k64,k64,.bool,.bool,.bool,k64,k64,k64,k64]],blks:=[],outs:=[(.s "numbers.0",AQ JG)],c:= .b 26,m':=[],pre:=[] }
def Vu:List En:=[⟨26,.lt,[.e 0,.c (.int 0)]⟩,
 ⟨27,.not,[.e 26]⟩,
 ⟨28,.le,[.c (.int 4),.e 0]⟩,
 ⟨29,.or,[.e 26,.e 28]⟩,
 ⟨30,.not,[.e 29]⟩,
 ⟨31,.lt,[.e 1,.c (.int 0)]⟩,
 ⟨32,.or,[.e 29,.e 31]⟩,
 ⟨33,.not,[.e 32]⟩,
 ⟨34,.lt,[.c (.int 4),.e 1]⟩,
 ⟨35,.or,[.e 32,.e 34]⟩,
 ⟨36,.not,[.e 35]⟩,
 ⟨37,.lt,[.e 2,.c (.int 0)]⟩,
 ⟨38,.or,[.e 35,.e 37]⟩,
 ⟨39,.not,[.e 38]⟩,
 ⟨40,.lt,[.c (.int 1),.e 2]⟩,
 ⟨41,.or,[.e 38,.e 40]⟩]
def Vp:List En:=[⟨42,.not,[.e 41]⟩,
 ⟨43,.lt,[.e 22,.c (.int 0)]⟩,
 ⟨44,.or,[.e 41,.e 43]⟩,
 ⟨45,.not,[.e 44]⟩,
 ⟨46,.lt,[.c (.int 1073741824),.e 22]⟩,
 ⟨47,.or,[.e 44,.e 46]⟩,
 ⟨48,.not,[.e 47]⟩,
 ⟨49,.outB "halves.0" Jb,[.e 0,.e 17,.e 18]⟩,
 ⟨50,.or,[.e 47,.n 49]⟩,
 ⟨51,.not,[.e 50]⟩,
 ⟨52,.outI "laws.0" El,[.e 0]⟩,
 ⟨53,.outI "laws.1" EV,[.e 0]⟩,
 ⟨54,.outI "laws.2" Ef,[.e 0]⟩,
 ⟨55,.outB "laws.3" EZ,[.e 0]⟩,
 ⟨56,.outB "laws.4" Ed,[.e 0]⟩,
 ⟨57,.outB "laws.5" Eb,[.e 0]⟩]
def VG:List En:=[⟨58,.lt,[.e 5,.c (.int 0)]⟩,
 ⟨59,.and,[.e 51,.n 58]⟩,
 ⟨60,.and,[.e 51,.n 58]⟩,
 ⟨61,.and,[.e 51,.n 58]⟩,
 ⟨62,.lt,[.e 52,.e 5]⟩,
 ⟨63,.or,[.e 58,.e 62]⟩,
 ⟨64,.and,[.e 51,.e 63]⟩,
 ⟨65,.and,[.e 51,.e 63]⟩,
 ⟨66,.eq,[.e 5,.c (.int 13)]⟩,
 ⟨67,.and,[.e 63,.n 66]⟩,
 ⟨68,.and,[.e 51,.e 67]⟩,
 ⟨69,.and,[.e 51,.n 67]⟩,
 ⟨70,.and,[.e 69,.n 9]⟩,
 ⟨71,.ne,[.e 5,.c (.int 0)]⟩,
 ⟨72,.and,[.n 9,.e 71]⟩,
 ⟨73,.and,[.e 69,.e 72]⟩]
def VK:List En:=[⟨74,.eq,[.e 5,.c (.int 13)]⟩,
 ⟨75,.and,[.e 72,.n 74]⟩,
 ⟨76,.and,[.e 69,.n 75]⟩,
 ⟨77,.and,[.e 76,.e 9]⟩,
 ⟨78,.eq,[.e 5,.c (.int 13)]⟩,
 ⟨79,.and,[.e 9,.e 78]⟩,
 ⟨80,.or,[.e 75,.e 79]⟩,
 ⟨81,.and,[.e 69,.n 80]⟩,
 ⟨82,.and,[.e 81,.e 13]⟩,
 ⟨83,.and,[.e 13,.n 9]⟩,
 ⟨84,.or,[.e 80,.e 83]⟩,
 ⟨85,.and,[.e 69,.e 84]⟩,
 ⟨86,.and,[.e 69,.n 84]⟩,
 ⟨87,.or,[.e 68,.e 85]⟩,
 ⟨88,.lt,[.e 6,.c (.int 0)]⟩,
 ⟨89,.and,[.e 86,.n 88]⟩]
def Vt:List En:=[⟨90,.and,[.e 86,.n 88]⟩,
 ⟨91,.and,[.e 86,.n 88]⟩,
 ⟨92,.lt,[.e 52,.e 6]⟩,
 ⟨93,.or,[.e 88,.e 92]⟩,
 ⟨94,.and,[.e 86,.e 93]⟩,
 ⟨95,.and,[.e 86,.e 93]⟩,
 ⟨96,.eq,[.e 6,.c (.int 13)]⟩,
 ⟨97,.and,[.e 93,.n 96]⟩,
 ⟨98,.and,[.e 86,.e 97]⟩,
 ⟨99,.and,[.e 86,.n 97]⟩,
 ⟨100,.and,[.e 99,.n 10]⟩,
 ⟨101,.ne,[.e 6,.c (.int 0)]⟩,
 ⟨102,.and,[.n 10,.e 101]⟩,
 ⟨103,.and,[.e 99,.e 102]⟩,
 ⟨104,.eq,[.e 6,.c (.int 13)]⟩,
 ⟨105,.and,[.e 102,.n 104]⟩]
def U3:List En:=[⟨106,.and,[.e 99,.n 105]⟩,
 ⟨107,.and,[.e 106,.e 10]⟩,
 ⟨108,.eq,[.e 6,.c (.int 13)]⟩,
 ⟨109,.and,[.e 10,.e 108]⟩,
 ⟨110,.or,[.e 105,.e 109]⟩,
 ⟨111,.and,[.e 99,.n 110]⟩,
 ⟨112,.and,[.e 111,.e 14]⟩,
 ⟨113,.and,[.e 14,.n 10]⟩,
 ⟨114,.or,[.e 110,.e 113]⟩,
 ⟨115,.and,[.e 99,.e 114]⟩,
 ⟨116,.and,[.e 99,.n 114]⟩,
 ⟨117,.ite .b,[.e 98,.e 84,.e 114]⟩,
 ⟨118,.or,[.e 98,.e 115]⟩,
 ⟨119,.lt,[.e 7,.c (.int 0)]⟩,
 ⟨120,.and,[.e 116,.n 119]⟩,
 ⟨121,.and,[.e 116,.n 119]⟩]
def VR:List En:=[⟨122,.and,[.e 116,.n 119]⟩,
 ⟨123,.lt,[.e 52,.e 7]⟩,
 ⟨124,.or,[.e 119,.e 123]⟩,
 ⟨125,.and,[.e 116,.e 124]⟩,
 ⟨126,.and,[.e 116,.e 124]⟩,
 ⟨127,.eq,[.e 7,.c (.int 13)]⟩,
 ⟨128,.and,[.e 124,.n 127]⟩,
 ⟨129,.and,[.e 116,.e 128]⟩,
 ⟨130,.and,[.e 116,.n 128]⟩,
 ⟨131,.and,[.e 130,.n 11]⟩,
 ⟨132,.ne,[.e 7,.c (.int 0)]⟩,
 ⟨133,.and,[.n 11,.e 132]⟩,
 ⟨134,.and,[.e 130,.e 133]⟩,
 ⟨135,.eq,[.e 7,.c (.int 13)]⟩,
 ⟨136,.and,[.e 133,.n 135]⟩,
 ⟨137,.and,[.e 130,.n 136]⟩]
def Vv:List En:=[⟨138,.and,[.e 137,.e 11]⟩,
 ⟨139,.eq,[.e 7,.c (.int 13)]⟩,
 ⟨140,.and,[.e 11,.e 139]⟩,
 ⟨141,.or,[.e 136,.e 140]⟩,
 ⟨142,.and,[.e 130,.n 141]⟩,
 ⟨143,.and,[.e 142,.e 15]⟩,
 ⟨144,.and,[.e 15,.n 11]⟩,
 ⟨145,.or,[.e 141,.e 144]⟩,
 ⟨146,.and,[.e 130,.e 145]⟩,
 ⟨147,.and,[.e 130,.n 145]⟩,
 ⟨148,.ite .b,[.e 129,.e 114,.e 145]⟩,
 ⟨149,.or,[.e 129,.e 146]⟩,
 ⟨150,.lt,[.e 8,.c (.int 0)]⟩,
 ⟨151,.and,[.e 147,.n 150]⟩,
 ⟨152,.and,[.e 147,.n 150]⟩,
 ⟨153,.and,[.e 147,.n 150]⟩]
def VB:List En:=[⟨154,.lt,[.e 52,.e 8]⟩,
 ⟨155,.or,[.e 150,.e 154]⟩,
 ⟨156,.and,[.e 147,.e 155]⟩,
 ⟨157,.and,[.e 147,.e 155]⟩,
 ⟨158,.eq,[.e 8,.c (.int 13)]⟩,
 ⟨159,.and,[.e 155,.n 158]⟩,
 ⟨160,.and,[.e 147,.e 159]⟩,
 ⟨161,.and,[.e 147,.n 159]⟩,
 ⟨162,.and,[.e 161,.n 12]⟩,
 ⟨163,.ne,[.e 8,.c (.int 0)]⟩,
 ⟨164,.and,[.n 12,.e 163]⟩,
 ⟨165,.and,[.e 161,.e 164]⟩,
 ⟨166,.eq,[.e 8,.c (.int 13)]⟩,
 ⟨167,.and,[.e 164,.n 166]⟩,
 ⟨168,.and,[.e 161,.n 167]⟩,
 ⟨169,.and,[.e 168,.e 12]⟩]
def VT:List En:=[⟨170,.eq,[.e 8,.c (.int 13)]⟩,
 ⟨171,.and,[.e 12,.e 170]⟩,
 ⟨172,.or,[.e 167,.e 171]⟩,
 ⟨173,.and,[.e 161,.n 172]⟩,
 ⟨174,.and,[.e 173,.e 16]⟩,
 ⟨175,.and,[.e 16,.n 12]⟩,
 ⟨176,.or,[.e 172,.e 175]⟩,
 ⟨177,.and,[.e 161,.e 176]⟩,
 ⟨178,.and,[.e 161,.n 176]⟩,
 ⟨179,.ite .b,[.e 160,.e 145,.e 176]⟩,
 ⟨180,.or,[.e 160,.e 177]⟩,
 ⟨181,.ite .b,[.e 149,.e 148,.e 179]⟩,
 ⟨182,.ite .b,[.e 149,.e 128,.e 159]⟩,
 ⟨183,.ite .i,[.e 149,.c (.int 2),.c (.int 3)]⟩,
 ⟨184,.or,[.e 149,.e 180]⟩,
 ⟨185,.ite .b,[.e 118,.e 117,.e 181]⟩]
def SU:List En:=[⟨186,.ite .b,[.e 118,.e 97,.e 182]⟩,
 ⟨187,.ite .i,[.e 118,.c (.int 1),.e 183]⟩,
 ⟨188,.or,[.e 118,.e 184]⟩,
 ⟨189,.ite .b,[.e 87,.e 67,.e 186]⟩,
 ⟨190,.ite .i,[.e 87,.c (.int 0),.e 187]⟩,
 ⟨191,.or,[.e 87,.e 188]⟩,
 ⟨192,.nes [.i,.i],[.e 53,.c (.int 0),.e 54,.c (.int 0)]⟩,
 ⟨193,.and,[.e 178,.n 192]⟩,
 ⟨194,.eqs [.b,.b],[.e 19,.c (.bool false),.e 20,.c (.bool false)]⟩,
 ⟨195,.or,[.e 192,.e 194]⟩,
 ⟨196,.ite .b,[.e 191,.c (.bool true),.c (.bool false)]⟩,
 ⟨197,.ite .b,[.e 191,.e 189,.e 159]⟩,
 ⟨198,.ite .b,[.e 191,.c (.bool false),.e 195]⟩,
 ⟨199,.ite .i,[.e 191,.e 190,.c (.int 4)]⟩,
 ⟨200,.or,[.e 191,.e 178]⟩,
 ⟨201,.ite .b,[.e 50,.c (.bool false),.e 198]⟩]
def SZ:List En:=[⟨202,.or,[.e 50,.e 200]⟩]
def Pc:List En:=Vu++(Vp++(VG++(VK++(Vt++(U3++(VR++(Vv++(VB++(VT++(SU++(SZ)))))))))))
def ek:List ObE:=[]
def TH:List Rf:=[.e 201]
theorem fh:JT.sees TH (JT.run Try.prog [(43,De),(44,J3)] Ba 3000 20 55)=some ((Pc).map En.be,ek.map ObE.be,[]):=by kernel_rfl
theorem gY {T:Tab}(g:Gm)(hg:g=gT T 0)(A0:AK T Pc):
  ((B T 201)=(BU g)):=by
 obtain⟨F0,A0⟩:=A0.cut
 obtain⟨F1,A0⟩:=A0.cut
 obtain⟨F2,A0⟩:=A0.cut
 obtain⟨F3,A0⟩:=A0.cut
 obtain⟨F4,A0⟩:=A0.cut
 obtain⟨F5,A0⟩:=A0.cut
 obtain⟨F6,A0⟩:=A0.cut
 obtain⟨F7,A0⟩:=A0.cut
 obtain⟨F8,A0⟩:=A0.cut
 obtain⟨F9,A0⟩:=A0.cut
 obtain⟨F10,A0⟩:=A0.cut
 have F11:=A0;clear A0
 ·obtain⟨e26,-,e28,e29,-,e31,e32,-,e34,e35,-,e37,e38,-,e40,e41,-⟩:=F0
  obtain⟨-,e43,e44,-,e46,e47,-,e49,e50,e51,e52,e53,e54,-⟩:=F1
  obtain⟨e58,-,-,-,e62,e63,-,-,e66,e67,e68,e69,-,e71,e72,-⟩:=F2
  obtain⟨e74,e75,-,-,e78,e79,e80,-,-,e83,e84,e85,e86,e87,e88,-⟩:=F3
  obtain⟨-,-,e92,e93,-,-,e96,e97,e98,e99,-,e101,e102,-,e104,e105,-⟩:=F4
  obtain⟨-,-,e108,e109,e110,-,-,e113,e114,e115,e116,-,e118,e119,-⟩:=F5
  obtain⟨-,e123,e124,-,-,e127,e128,e129,e130,-,e132,e133,-,e135,e136,-⟩:=F6
  obtain⟨-,e139,e140,e141,-,-,e144,e145,e146,e147,-,e149,e150,-⟩:=F7
  obtain⟨e154,e155,-,-,e158,e159,e160,e161,-,e163,e164,-,e166,e167,-⟩:=F8
  obtain⟨e170,e171,e172,-,-,e175,e176,e177,-,-,e180,-,-,-,e184,-⟩:=F9
  obtain⟨-,-,e188,-,-,e191,e192,-,e194,e195,-,-,e198,-,-,e201,-⟩:=F10
  replace e49:B T 49=(DD (I T 0) (I T 17) (I T 18)):=e49
  replace e52:I T 52=(AX (I T 0)):=e52
  replace e53:I T 53=(Ac (I T 0)):=e53
  replace e54:I T 54=(Ab (I T 0)):=e54
  simp only[AA,AD,zN,zC,zR,BL,and_true,zL] at*
  subst hg
  refine AU ?_
  (try simp only[BU,CE,zB])<;>(try constructor)<;>grind (splits:=100) [Ac,Ab]
theorem dV:CA Try.prog 55 JT:=by
 refine Bu (l:=[(43,De),(44,J3)]) C6 (by simp only[List.forall_mem_cons];exact⟨Jo,fz,fun _ h=>absurd h (by simp)⟩) fh (by kernel_rfl) fun T us hpre hT hul hS hBd hE=>?_
 change us.length=26 at hul
 clear hBd
 obtain⟨g,hg⟩:∃g:Gm,g=gT T 0:=⟨_,rfl⟩
 have hgu:gAt 0 us=g:=by rw[hg];exact DV hT hul (by decide)
 clear hpre
 skip
 obtain⟨A0,hO⟩:=CK (tys:=[.b]) (rs:=TH) hS (by kernel_rfl) hE
 have q0:=gY g hg A0
 refine⟨trivial,hO.trans ?_⟩
 exact (lc (by show U.bool (B T 201)= .bool (JG us);unfold JG;rw[hgu];exact congrArg U.bool q0) rfl)
end Go.Eng
end
