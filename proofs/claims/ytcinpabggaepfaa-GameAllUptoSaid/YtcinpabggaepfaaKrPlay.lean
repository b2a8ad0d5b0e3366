/-
  A part of the proof: K_rPlayd K_rPlay.
-/
import Derived.Test.YtcinpabggaepfaaE3
import Derived.Test.YtcinpabggaepfaaE4
import Derived.Test.YtcinpabggaepfaaKrlegal
import Derived.Test.YtcinpabggaepfaaKrmoves
import Derived.Test.YtcinpabggaepfaaKrevents
import Derived.Test.YtcinpabggaepfaaKrplay
set_option linter.unusedVariables false
set_option linter.unusedSimpArgs false
noncomputable section
open Go Go.Eng Go.Proofs
set_option maxHeartbeats 4000000
set_option maxRecDepth 100000
namespace Go.Eng
def Bi (us:List U):Gm:=D2 (gAt 0 us) (aI us 26) (aI us 27) (aB us 28) (aL us 29)
def Uq (us:List U):Int:=(Bi us).code
def UK (us:List U):Int:=(Bi us).phase
def Ts (us:List U):Int:=(Bi us).side
def Tp (us:List U):Int:=(Bi us).ball
def TI (us:List U):Int:=(Bi us).taken
def Tc (us:List U):Int:=(Bi us).p0
def UG (us:List U):Int:=(Bi us).p1
def Up (us:List U):Int:=(Bi us).p2
def TL (us:List U):Int:=(Bi us).p3
def Ui (us:List U):Bool:=(Bi us).n0
def QR (us:List U):Bool:=(Bi us).n1
def QQ (us:List U):Bool:=(Bi us).n2
def R7 (us:List U):Bool:=(Bi us).n3
def Qm (us:List U):Bool:=(Bi us).d0
def Q5 (us:List U):Bool:=(Bi us).d1
def Rb (us:List U):Bool:=(Bi us).d2
def Rp (us:List U):Bool:=(Bi us).d3
def Rd (us:List U):Int:=(Bi us).h0
def QJ (us:List U):Int:=(Bi us).h1
def R2 (us:List U):Bool:=(Bi us).l0
def QK (us:List U):Bool:=(Bi us).l1
def RB (us:List U):Bool:=(Bi us).half
def Qd (us:List U):Int:=(Bi us).turns
def QS (us:List U):Int:=(Bi us).began
def Qa (us:List U):Int:=(Bi us).lastb
def Rx (us:List U):Int:=(Bi us).winner
def Ji:List U→Int:=fun us=>(B9 (gAt 0 us) (aI us 26) (aI us 27) (aB us 28) (aL us 29))
def Jv:Bc:={ sh:=[.agg [k64,k64,k64,k64,k64,k64,k64,k64,k64,.bool,.bool,.bool,.bool,.bool,.bool,.bool,.bool,k64,k64,.bool,.bool,.bool,k64,k64,k64,k64],.agg [k64,k64,.bool,.list [k64,k64]]],blks:=[],outs:=[(.s "rPlay.0",AI Uq),(.s "rPlay.1",AI UK),(.s "rPlay.2",AI Ts),(.s "rPlay.3",AI Tp),(.s "rPlay.4",AI TI),(.s "rPlay.5",AI Tc),(.s "rPlay.6",AI UG),(.s "rPlay.7",AI Up),(.s "rPlay.8",AI TL),(.s "rPlay.9",AQ Ui),(.s "rPlay.10",AQ QR),(.s "rPlay.11",AQ QQ),(.s "rPlay.12",AQ R7),(.s "rPlay.13",AQ Qm),(.s "rPlay.14",AQ Q5),(.s "rPlay.15",AQ Rb),(.s "rPlay.16",AQ Rp),(.s "rPlay.17",AI Rd),(.s "rPlay.18",AI QJ),(.s "rPlay.19",AQ R2),(.s "rPlay.20",AQ QK),(.s "rPlay.21",AQ RB),(.s "rPlay.22",AI Qd),(.s "rPlay.23",AI QS),(.s "rPlay.24",AI Qa),(.s "rPlay.25",AI Rx),(.s "rPlay.26",AI Ji)],c:= .tup [.agg [(AG 30),(AG 31),(AG 32),(AG 33),(AG 34),(AG 35),(AG 36),(AG 37),(AG 38),.b 39,.b 40,.b 41,.b 42,.b 43,.b 44,.b 45,.b 46,(AG 47),(AG 48),.b 49,.b 50,.b 51,(AG 52),(AG 53),(AG 54),(AG 55)],(AG 56)],m':=[],pre:=[] }
def ES:List Rf:=[.e 0,.e 1,.e 2,.e 3,.e 4,.e 5,.e 6,.e 7,.e 8,.e 9,.e 10,.e 11,.e 12,.e 13,.e 14,.e 15,.e 16,.e 17,.e 18,.e 19,.e 20,.e 21,.e 22,.e 23,.e 24,.e 25]
def UD:List Rf:=[.e 0,.e 1,.e 2,.e 3,.e 4,.e 5,.e 6,.e 7,.e 8,.e 9,.e 10,.e 11,.e 12,.e 13,.e 14,.e 15,.e 16,.e 17,.e 18,.e 19,.e 20,.e 21,.e 22,.e 23,.e 24,.e 25,.e 29]
def BA:List Rf:=[.e 0,.e 1,.e 2,.e 3,.e 4,.e 5,.e 6,.e 7,.e 8,.e 9,.e 10,.e 11,.e 12,.e 13,.e 14,.e 15,.e 16,.e 17,.e 18,.e 19,.e 20,.e 21,.e 22,.e 23,.e 24,.e 25,.e 26,.e 27,.e 28,.e 29]
def LG:List (Nat × Ty):=[(181,.i),(182,.i),(183,.i),(184,.i),(185,.i),(186,.i),(187,.i),(188,.i),(189,.i),(190,.b),(191,.b),(192,.b),(193,.b),(194,.b),(195,.b),(196,.b),(197,.b),(198,.i),(199,.i),(200,.b),(201,.b),(202,.b),(203,.i),(204,.i),(205,.i),(206,.i)]
def ZN:List En:=[⟨30,.outB "rlegal.0" Ik,ES⟩,
 ⟨31,.not,[.e 30]⟩,
 ⟨32,.outL "rmoves.0" Jj,ES⟩]
def Zl:List En:=[⟨35,.len,[.e 32]⟩,
 ⟨36,.lt,[.e 33,.e 35]⟩,
 ⟨37,.and,[.e 30,.e 36]⟩,
 ⟨38,.and,[.e 30,.n 36]⟩,
 ⟨39,.and,[.e 37,.n 34]⟩,
 ⟨40,.and,[.e 37,.n 34]⟩,
 ⟨41,.get .i 0,[.e 32,.e 33]⟩,
 ⟨42,.get .i 1,[.e 32,.e 33]⟩,
 ⟨43,.get .b 2,[.e 32,.e 33]⟩,
 ⟨44,.get .l 3,[.e 32,.e 33]⟩,
 ⟨45,.and,[.e 37,.n 34]⟩,
 ⟨46,.eq,[.e 41,.e 26]⟩,
 ⟨47,.and,[.e 45,.e 46]⟩,
 ⟨48,.eq,[.e 42,.e 27]⟩,
 ⟨49,.and,[.e 46,.e 48]⟩,
 ⟨50,.and,[.e 45,.e 49]⟩]
def ap:List En:=[⟨51,.eqb,[.e 43,.e 28]⟩,
 ⟨52,.and,[.e 49,.e 51]⟩,
 ⟨53,.or,[.e 34,.e 52]⟩,
 ⟨54,.w2 .i64 .add,[.e 33,.c (.int 1)]⟩]
def Kk:List En:=ZN
def GL:List En:=Zl++(ap)
def Tz:List ObE:=[⟨some 40,.inl,[.e 33,.e 32]⟩]
def KN:BW:=mkD 33 2 GL 37 [.e 54,.e 53] Tz [28,27,26,32,30]
def NI:List Rf:=[.e 28,.e 27,.e 26,.e 32,.e 30,.c (.int 0),.c (.bool false)]
def Zp:List En:=[⟨55,.and,[.e 38,.e 34]⟩,
 ⟨56,.and,[.e 38,.n 34]⟩,
 ⟨57,.len,[.e 29]⟩,
 ⟨58,.lt,[.c (.int 24),.e 57]⟩,
 ⟨59,.and,[.e 55,.e 58]⟩,
 ⟨60,.and,[.e 55,.n 58]⟩,
 ⟨61,.ne,[.e 26,.c (.int 2)]⟩,
 ⟨62,.and,[.e 60,.e 61]⟩,
 ⟨63,.len,[.e 29]⟩,
 ⟨64,.lt,[.c (.int 0),.e 63]⟩,
 ⟨65,.and,[.e 61,.e 64]⟩,
 ⟨66,.and,[.e 60,.n 65]⟩,
 ⟨67,.outB "revents.0" I9,UD⟩,
 ⟨68,.or,[.e 65,.n 67]⟩,
 ⟨69,.and,[.e 60,.e 68]⟩,
 ⟨70,.and,[.e 60,.n 68]⟩]
def ZD:List En:=[⟨71,.outI "rplay.0" TG,BA⟩,
 ⟨72,.outI "rplay.1" Um,BA⟩,
 ⟨73,.outI "rplay.2" Tm,BA⟩,
 ⟨74,.outI "rplay.3" To,BA⟩,
 ⟨75,.outI "rplay.4" Tn,BA⟩,
 ⟨76,.outI "rplay.5" TX,BA⟩,
 ⟨77,.outI "rplay.6" Ur,BA⟩,
 ⟨78,.outI "rplay.7" Uj,BA⟩,
 ⟨79,.outI "rplay.8" UJ,BA⟩,
 ⟨80,.outB "rplay.9" Uw,BA⟩,
 ⟨81,.outB "rplay.10" QZ,BA⟩,
 ⟨82,.outB "rplay.11" RW,BA⟩,
 ⟨83,.outB "rplay.12" RR,BA⟩,
 ⟨84,.outB "rplay.13" Qw,BA⟩,
 ⟨85,.outB "rplay.14" Rk,BA⟩,
 ⟨86,.outB "rplay.15" Rz,BA⟩]
def aC:List En:=[⟨87,.outB "rplay.16" Ri,BA⟩,
 ⟨88,.outI "rplay.17" RM,BA⟩,
 ⟨89,.outI "rplay.18" Qj,BA⟩,
 ⟨90,.outB "rplay.19" RT,BA⟩,
 ⟨91,.outB "rplay.20" Q9,BA⟩,
 ⟨92,.outB "rplay.21" Ru,BA⟩,
 ⟨93,.outI "rplay.22" Qh,BA⟩,
 ⟨94,.outI "rplay.23" RL,BA⟩,
 ⟨95,.outI "rplay.24" RD,BA⟩,
 ⟨96,.outI "rplay.25" QL,BA⟩,
 ⟨97,.ite .i,[.e 69,.c (.int 0),.e 71]⟩,
 ⟨98,.ite .i,[.e 69,.c (.int 0),.e 72]⟩,
 ⟨99,.ite .i,[.e 69,.c (.int 0),.e 73]⟩,
 ⟨100,.ite .i,[.e 69,.c (.int 0),.e 74]⟩,
 ⟨101,.ite .i,[.e 69,.c (.int 0),.e 75]⟩,
 ⟨102,.ite .i,[.e 69,.c (.int 0),.e 76]⟩]
def ae:List En:=[⟨103,.ite .i,[.e 69,.c (.int 0),.e 77]⟩,
 ⟨104,.ite .i,[.e 69,.c (.int 0),.e 78]⟩,
 ⟨105,.ite .i,[.e 69,.c (.int 0),.e 79]⟩,
 ⟨106,.ite .b,[.e 69,.c (.bool false),.e 80]⟩,
 ⟨107,.ite .b,[.e 69,.c (.bool false),.e 81]⟩,
 ⟨108,.ite .b,[.e 69,.c (.bool false),.e 82]⟩,
 ⟨109,.ite .b,[.e 69,.c (.bool false),.e 83]⟩,
 ⟨110,.ite .b,[.e 69,.c (.bool false),.e 84]⟩,
 ⟨111,.ite .b,[.e 69,.c (.bool false),.e 85]⟩,
 ⟨112,.ite .b,[.e 69,.c (.bool false),.e 86]⟩,
 ⟨113,.ite .b,[.e 69,.c (.bool false),.e 87]⟩,
 ⟨114,.ite .i,[.e 69,.c (.int 0),.e 88]⟩,
 ⟨115,.ite .i,[.e 69,.c (.int 0),.e 89]⟩,
 ⟨116,.ite .b,[.e 69,.c (.bool false),.e 90]⟩,
 ⟨117,.ite .b,[.e 69,.c (.bool false),.e 91]⟩,
 ⟨118,.ite .b,[.e 69,.c (.bool false),.e 92]⟩]
def Zr:List En:=[⟨119,.ite .i,[.e 69,.c (.int 0),.e 93]⟩,
 ⟨120,.ite .i,[.e 69,.c (.int 0),.e 94]⟩,
 ⟨121,.ite .i,[.e 69,.c (.int 0),.e 95]⟩,
 ⟨122,.ite .i,[.e 69,.c (.int 0),.e 96]⟩,
 ⟨123,.ite .i,[.e 69,.c (.int 21),.c (.int 0)]⟩,
 ⟨124,.or,[.e 69,.e 70]⟩,
 ⟨125,.ite .i,[.e 59,.c (.int 0),.e 97]⟩,
 ⟨126,.ite .i,[.e 59,.c (.int 0),.e 98]⟩,
 ⟨127,.ite .i,[.e 59,.c (.int 0),.e 99]⟩,
 ⟨128,.ite .i,[.e 59,.c (.int 0),.e 100]⟩,
 ⟨129,.ite .i,[.e 59,.c (.int 0),.e 101]⟩,
 ⟨130,.ite .i,[.e 59,.c (.int 0),.e 102]⟩,
 ⟨131,.ite .i,[.e 59,.c (.int 0),.e 103]⟩,
 ⟨132,.ite .i,[.e 59,.c (.int 0),.e 104]⟩,
 ⟨133,.ite .i,[.e 59,.c (.int 0),.e 105]⟩,
 ⟨134,.ite .b,[.e 59,.c (.bool false),.e 106]⟩]
def aP:List En:=[⟨135,.ite .b,[.e 59,.c (.bool false),.e 107]⟩,
 ⟨136,.ite .b,[.e 59,.c (.bool false),.e 108]⟩,
 ⟨137,.ite .b,[.e 59,.c (.bool false),.e 109]⟩,
 ⟨138,.ite .b,[.e 59,.c (.bool false),.e 110]⟩,
 ⟨139,.ite .b,[.e 59,.c (.bool false),.e 111]⟩,
 ⟨140,.ite .b,[.e 59,.c (.bool false),.e 112]⟩,
 ⟨141,.ite .b,[.e 59,.c (.bool false),.e 113]⟩,
 ⟨142,.ite .i,[.e 59,.c (.int 0),.e 114]⟩,
 ⟨143,.ite .i,[.e 59,.c (.int 0),.e 115]⟩,
 ⟨144,.ite .b,[.e 59,.c (.bool false),.e 116]⟩,
 ⟨145,.ite .b,[.e 59,.c (.bool false),.e 117]⟩,
 ⟨146,.ite .b,[.e 59,.c (.bool false),.e 118]⟩,
 ⟨147,.ite .i,[.e 59,.c (.int 0),.e 119]⟩,
 ⟨148,.ite .i,[.e 59,.c (.int 0),.e 120]⟩,
 ⟨149,.ite .i,[.e 59,.c (.int 0),.e 121]⟩,
 ⟨150,.ite .i,[.e 59,.c (.int 0),.e 122]⟩]
def ZV:List En:=[⟨151,.ite .i,[.e 59,.c (.int 6),.e 123]⟩,
 ⟨152,.or,[.e 59,.e 124]⟩,
 ⟨153,.ite .i,[.e 56,.c (.int 0),.e 125]⟩,
 ⟨154,.ite .i,[.e 56,.c (.int 0),.e 126]⟩,
 ⟨155,.ite .i,[.e 56,.c (.int 0),.e 127]⟩,
 ⟨156,.ite .i,[.e 56,.c (.int 0),.e 128]⟩,
 ⟨157,.ite .i,[.e 56,.c (.int 0),.e 129]⟩,
 ⟨158,.ite .i,[.e 56,.c (.int 0),.e 130]⟩,
 ⟨159,.ite .i,[.e 56,.c (.int 0),.e 131]⟩,
 ⟨160,.ite .i,[.e 56,.c (.int 0),.e 132]⟩,
 ⟨161,.ite .i,[.e 56,.c (.int 0),.e 133]⟩,
 ⟨162,.ite .b,[.e 56,.c (.bool false),.e 134]⟩,
 ⟨163,.ite .b,[.e 56,.c (.bool false),.e 135]⟩,
 ⟨164,.ite .b,[.e 56,.c (.bool false),.e 136]⟩,
 ⟨165,.ite .b,[.e 56,.c (.bool false),.e 137]⟩,
 ⟨166,.ite .b,[.e 56,.c (.bool false),.e 138]⟩]
def ZI:List En:=[⟨167,.ite .b,[.e 56,.c (.bool false),.e 139]⟩,
 ⟨168,.ite .b,[.e 56,.c (.bool false),.e 140]⟩,
 ⟨169,.ite .b,[.e 56,.c (.bool false),.e 141]⟩,
 ⟨170,.ite .i,[.e 56,.c (.int 0),.e 142]⟩,
 ⟨171,.ite .i,[.e 56,.c (.int 0),.e 143]⟩,
 ⟨172,.ite .b,[.e 56,.c (.bool false),.e 144]⟩,
 ⟨173,.ite .b,[.e 56,.c (.bool false),.e 145]⟩,
 ⟨174,.ite .b,[.e 56,.c (.bool false),.e 146]⟩,
 ⟨175,.ite .i,[.e 56,.c (.int 0),.e 147]⟩,
 ⟨176,.ite .i,[.e 56,.c (.int 0),.e 148]⟩,
 ⟨177,.ite .i,[.e 56,.c (.int 0),.e 149]⟩,
 ⟨178,.ite .i,[.e 56,.c (.int 0),.e 150]⟩,
 ⟨179,.ite .i,[.e 56,.c (.int 10),.e 151]⟩,
 ⟨180,.or,[.e 56,.e 152]⟩,
 ⟨181,.ite .i,[.e 31,.c (.int 0),.e 153]⟩,
 ⟨182,.ite .i,[.e 31,.c (.int 0),.e 154]⟩]
def aR:List En:=[⟨183,.ite .i,[.e 31,.c (.int 0),.e 155]⟩,
 ⟨184,.ite .i,[.e 31,.c (.int 0),.e 156]⟩,
 ⟨185,.ite .i,[.e 31,.c (.int 0),.e 157]⟩,
 ⟨186,.ite .i,[.e 31,.c (.int 0),.e 158]⟩,
 ⟨187,.ite .i,[.e 31,.c (.int 0),.e 159]⟩,
 ⟨188,.ite .i,[.e 31,.c (.int 0),.e 160]⟩,
 ⟨189,.ite .i,[.e 31,.c (.int 0),.e 161]⟩,
 ⟨190,.ite .b,[.e 31,.c (.bool false),.e 162]⟩,
 ⟨191,.ite .b,[.e 31,.c (.bool false),.e 163]⟩,
 ⟨192,.ite .b,[.e 31,.c (.bool false),.e 164]⟩,
 ⟨193,.ite .b,[.e 31,.c (.bool false),.e 165]⟩,
 ⟨194,.ite .b,[.e 31,.c (.bool false),.e 166]⟩,
 ⟨195,.ite .b,[.e 31,.c (.bool false),.e 167]⟩,
 ⟨196,.ite .b,[.e 31,.c (.bool false),.e 168]⟩,
 ⟨197,.ite .b,[.e 31,.c (.bool false),.e 169]⟩,
 ⟨198,.ite .i,[.e 31,.c (.int 0),.e 170]⟩]
def Z6:List En:=[⟨199,.ite .i,[.e 31,.c (.int 0),.e 171]⟩,
 ⟨200,.ite .b,[.e 31,.c (.bool false),.e 172]⟩,
 ⟨201,.ite .b,[.e 31,.c (.bool false),.e 173]⟩,
 ⟨202,.ite .b,[.e 31,.c (.bool false),.e 174]⟩,
 ⟨203,.ite .i,[.e 31,.c (.int 0),.e 175]⟩,
 ⟨204,.ite .i,[.e 31,.c (.int 0),.e 176]⟩,
 ⟨205,.ite .i,[.e 31,.c (.int 0),.e 177]⟩,
 ⟨206,.ite .i,[.e 31,.c (.int 0),.e 178]⟩,
 ⟨207,.ite .i,[.e 31,.c (.int 2),.e 179]⟩,
 ⟨208,.or,[.e 31,.e 180]⟩]
def TQ:List En:=Zp++(ZD++(aC++(ae++(Zr++(aP++(ZV++(ZI++(aR++(Z6)))))))))
def ji:List ObE:=[⟨some 70,.pre "rplay.p0" Ff,BA⟩,
 ⟨some 70,.pre "rplay.p1" Fp,BA⟩,
 ⟨some 70,.pre "rplay.p2" JX,BA⟩,
 ⟨some 30,.owes KN,[.e 28,.e 27,.e 26,.e 32,.e 30,.c (.int 0),.c (.bool false)]⟩,
 ⟨some 30,.btw (0) (1),[.e 2]⟩,
 ⟨some 30,.pre "rmoves.p0" Ej,ES⟩]
def bf:List Rf:=[.e 181,.e 182,.e 183,.e 184,.e 185,.e 186,.e 187,.e 188,.e 189,.e 190,.e 191,.e 192,.e 193,.e 194,.e 195,.e 196,.e 197,.e 198,.e 199,.e 200,.e 201,.e 202,.e 203,.e 204,.e 205,.e 206,.e 207]
theorem jh:Jv.sees bf (Jv.run Try.prog [(36,Hw),(37,Is),(38,IF),(39,H7)] Ba 3000 20 13)=some ((Kk++((Ek KN [.i,.b] NI)++(GL++(TQ)))).map En.be,ji.map ObE.be,[]):=by kernel_rfl
theorem dT {T:Tab}(hl29:(L T 29).length≤140737488355328)(g:Gm)(hg:g=gT T 0)(g1:Gm)(z1:g1=gT T 0)(A0:AK T Kk):
  (g1=g)∧((L T 32)=C2 g)∧((B T 30)=true↔AR g=true)∧(((L T 32)).length≤7):=by
 have F0:=A0;clear A0
 have hgA:g1=g:=by rw[z1,hg]
 have hmv:(L T 32)=C2 g:=by
  obtain⟨-,-,e32,-⟩:=F0
  replace e32:L T 32=(C2 g1):=by rw[←show gAt 0 (ES.map (Rf.eval T))=g1 from z1.symm];exact e32
  rw[e32,hgA]
 have h30:(B T 30)=true↔AR g=true:=by
  obtain⟨e30,-⟩:=F0
  replace e30:B T 30=(AR g1):=by rw[←show gAt 0 (ES.map (Rf.eval T))=g1 from z1.symm];exact e30
  rw[e30,hgA]
 have hlen:((L T 32)).length≤7:=by rw[hmv];exact Uo g
 exact⟨hgA,hmv,h30,hlen⟩
theorem fI {T:Tab}(g:Gm)(hg:g=gT T 0)(hlen:((L T 32)).length≤7)(hS:Ay T (J7 (EE 0 Jv.ks) Kk))(hB:CJ T (GL.map En.be))(hH:CJ T ((Ek KN [.i,.b] NI).map En.be)):
  (KN).owes (NI.map (Rf.eval T))∧Ay T (hds 33 [.i,.b])∧(0≤I T 33∧I T 33≤((L T 32)).length∧((B T 34)=true↔∃j:Nat,(j:Int) < I T 33∧(At (L T 32) j 0=I T 26∧At (L T 32) j 1=I T 27∧C8 (L T 32) j 2=B T 28)))∧¬B T 37=true:=by
 refine Gx (nh:=33) (k:=2) (pcn:=37) (top:=55) (bes:=GL) (bos:=Tz) (nxt:=[.e 54,.e 53]) (inits:=[.c (.int 0),.c (.bool false)]) (fv:=[28,27,26,32,30]) (tys:=[.i,.b]) (by kernel_rfl) rfl rfl rfl rfl hS (by kernel_rfl) (by kernel_rfl) hB (Ec hH) (fun s=>0≤(aI s 0)∧(aI s 0)≤((L T 32)).length∧((aB s 1)=true↔∃j:Nat,(j:Int) < (aI s 0)∧(At (L T 32) j 0=I T 26∧At (L T 32) j 1=I T 27∧C8 (L T 32) j 2=B T 28))) (fun s=>(((L T 32)).length - (aI s 0)).toNat) ?_ ?_
 ·show 0≤(0:Int)∧(0:Int)≤((L T 32)).length∧((false:Bool)=true↔∃j:Nat,(j:Int) < (0:Int)∧(At (L T 32) j 0=I T 26∧At (L T 32) j 1=I T 27∧C8 (L T 32) j 2=B T 28))
  clear hS hB hH
  refine⟨by omega,by omega,?_⟩
  constructor
  ·intro h;cases h
  ·rintro⟨j,hj,_⟩;omega
 ·intro T2 hfv hF inv
  replace inv:0≤I T2 33∧I T2 33≤((L T 32)).length∧((B T2 34)=true↔∃j:Nat,(j:Int) < I T2 33∧(At (L T 32) j 0=I T 26∧At (L T 32) j 1=I T 27∧C8 (L T 32) j 2=B T 28)):=inv
  clear hS hB hH
  replace hF:AK T2 GL:=hF
  obtain⟨F0,hF⟩:=hF.cut
  have F1:=hF;clear hF
  have fv28:B T2 28=B T 28:=fvB (hfv 28 (by decide))
  have fv27:I T2 27=I T 27:=fvI (hfv 27 (by decide))
  have fv26:I T2 26=I T 26:=fvI (hfv 26 (by decide))
  have fv32:L T2 32=L T 32:=fvL (hfv 32 (by decide))
  have fv30:B T2 30=B T 30:=fvB (hfv 30 (by decide))
  clear hfv
  suffices hz:(B T2 40=true→0≤I T2 33∧I T2 33 < ((L T2 32)).length)∧(B T2 37=true→(0≤I T2 54∧I T2 54≤((L T 32)).length∧((B T2 53)=true↔∃j:Nat,(j:Int) < I T2 54∧(At (L T 32) j 0=I T 26∧At (L T 32) j 1=I T 27∧C8 (L T 32) j 2=B T 28))))∧(B T2 37=true→(((L T 32)).length - (I T2 54)).toNat < (((L T 32)).length - (I T2 33)).toNat) from
   let⟨r0,nx,mz⟩:=hz;⟨⟨r0,trivial⟩,fun hp=>⟨nx hp,mz hp⟩⟩
  refine⟨?_,?_,?_⟩
  ·obtain⟨e35,e36,e37,-,-,e40,-⟩:=F0
   simp only[AA,AD,zN,zR,zL] at*
   obtain⟨v1,v2,v3⟩:=inv
   clear v3
   grind
  ·obtain⟨e35,e36,e37,-,-,-,e41,e42,e43,-,-,e46,-,e48,e49,-⟩:=F0
   obtain⟨e51,e52,e53,e54,-⟩:=F1
   simp only[AA,AD,zR,w2P,zL] at*
   intro hp
   obtain⟨v1,v2,v3⟩:=inv
   have hlt:(I T2 33) < ((L T 32)).length:=by clear v3;grind
   have e:(I T2 54)=I T2 33+1:=e54 (by omega) (by omega)
   refine⟨by omega,by omega,?_⟩
   have hb:(B T2 52)=true↔(At (L T 32) (I T2 33).toNat 0=I T 26∧At (L T 32) (I T2 33).toNat 1=I T 27∧C8 (L T 32) (I T2 33).toNat 2=B T 28):=by clear v3;grind
   rw[e53,v3,hb]
   constructor
   ·rintro (⟨j,hj,h⟩|h)
    ·exact⟨j,by omega,h⟩
    ·exact⟨(I T2 33).toNat,by omega,h⟩
   ·rintro⟨j,hj,h⟩
    by_cases hj2:(j:Int) < I T2 33
    ·exact .inl ⟨j,hj2,h⟩
    ·right
     obtain rfl:j=(I T2 33).toNat:=by omega
     exact h
  ·obtain⟨e35,e36,e37,-⟩:=F0
   obtain⟨-,-,-,e54,-⟩:=F1
   simp only[AA,AD,zR,w2P,zL] at*
   intro hp
   obtain⟨v1,v2,v3⟩:=inv
   have hlt:(I T2 33) < ((L T 32)).length:=by clear v3;grind
   have e:(I T2 54)=I T2 33+1:=e54 (by omega) (by omega)
   omega
theorem kA {T:Tab}(hl29:(L T 29).length≤140737488355328)(g:Gm)(hg:g=gT T 0)(g1:Gm)(z1:g1=gT T 0)(hgA:g1=g)(hmv:(L T 32)=C2 g)(h30:(B T 30)=true↔AR g=true)(hlen:((L T 32)).length≤7)(inv0:0≤I T 33∧I T 33≤((L T 32)).length∧((B T 34)=true↔∃j:Nat,(j:Int) < I T 33∧(At (L T 32) j 0=I T 26∧At (L T 32) j 1=I T 27∧C8 (L T 32) j 2=B T 28)))(np0:¬B T 37=true)(g2:Gm)(z2:g2=gT T 0)(g3:Gm)(z3:g3=gT T 0)(A0:AK T Kk)(B0:AK T GL)(A1:AK T TQ):
  (gT T 181=D2 g (I T 26) (I T 27) (B T 28) (L T 29))∧
  ((I T 207)=(B9 g (I T 26) (I T 27) (B T 28) (L T 29)))∧
  (B T 70=true→AR g3=true)∧
  (B T 70=true→I T 26=2→Ag g3=true∧BX g3 (L T 29)=true)∧
  (B T 70=true→¬I T 26=2→¬I T 26=3→0≤I T 27∧I T 27≤3)∧
  (B T 30=true→0≤I T 2∧I T 2≤1)∧
  (B T 30=true→AR g1=true):=by
 have hFa:=A1
 have F0:=A0;clear A0
 obtain⟨F1,B0⟩:=B0.cut
 have F2:=B0;clear B0
 obtain⟨F3,A1⟩:=A1.cut
 obtain⟨F4,A1⟩:=A1.cut
 obtain⟨F5,A1⟩:=A1.cut
 obtain⟨F6,A1⟩:=A1.cut
 obtain⟨F7,A1⟩:=A1.cut
 obtain⟨F8,A1⟩:=A1.cut
 obtain⟨F9,A1⟩:=A1.cut
 obtain⟨F10,A1⟩:=A1.cut
 obtain⟨F11,A1⟩:=A1.cut
 have F12:=A1;clear A1
 obtain⟨w1,w2,w3⟩:=inv0
 have hgB:g2=g:=by rw[z2,hg]
 have hgC:g3=g:=by rw[z3,hg]
 have hal:(B T 30)=true→((B T 34)=true↔C3 g (I T 26) (I T 27) (B T 28)=true):=by
  obtain⟨e35,e36,e37,-⟩:=F1
  simp only[AA,AD,zR,zL] at e35 e36 e37
  intro h
  have hle:(I T 33)=((L T 32)).length:=by clear w3;grind
  rw[UA,w3,←hmv,hle]
  constructor
  ·rintro⟨j,hj,h⟩;exact⟨j,by omega,h⟩
  ·rintro⟨j,hj,h⟩;exact⟨j,by omega,h⟩
 have h38:(B T 38)=true↔B T 30=true:=by
  obtain⟨-,e36,e37,e38,-⟩:=F1
  simp only[AA,AD,zN,zR] at e36 e37 e38
  clear w3 hal hg
  grind
 clear w1 w2 w3 np0 hmv hlen
 have h31:(B T 31)=true↔¬AR g=true:=by
  obtain⟨-,e31,-⟩:=F0
  simp only[AA,AD,zR] at e31
  clear hg
  grind
 have h55:(B T 55)=true↔(AR g=true∧C3 g (I T 26) (I T 27) (B T 28)=true):=by
  obtain⟨e55,-⟩:=F3
  simp only[AA,AD,zR] at e55
  clear hg h31
  grind
 have h56:(B T 56)=true↔(AR g=true∧¬C3 g (I T 26) (I T 27) (B T 28)=true):=by
  obtain⟨-,e56,-⟩:=F3
  simp only[AA,AD,zN,zR] at e56
  clear hg h31 h55
  grind
 have h59:(B T 59)=true↔((B T 55)=true∧24 < ((L T 29)).length):=by
  obtain⟨-,-,e57,e58,e59,-⟩:=F3
  simp only[AA,AD,zR,zL] at e57 e58 e59
  clear hg h31 hal h55 h56
  grind
 have h60:(B T 60)=true↔((B T 55)=true∧¬24 < ((L T 29)).length):=by
  obtain⟨-,-,e57,e58,-,e60,-⟩:=F3
  simp only[AA,AD,zN,zR,zL] at e57 e58 e60
  clear hg h31 hal h55 h56 h59
  grind
 have h67:(B T 67)=BX g (L T 29):=by
  obtain⟨-,-,-,-,-,-,-,-,-,-,-,-,e67,-⟩:=F3
  replace e67:B T 67=(BX g2 (L T 29)):=by rw[←show gAt 0 (UD.map (Rf.eval T))=g2 from z2.symm];exact e67
  rw[e67,hgB]
 have h69:(B T 69)=true↔((B T 60)=true∧((¬I T 26=2∧0 < ((L T 29)).length)∨¬BX g (L T 29)=true)):=by
  obtain⟨-,-,-,-,-,-,e61,-,e63,e64,e65,-,-,e68,e69,-⟩:=F3
  simp only[AA,AD,zN,zR,zL] at*
  rw[←h67]
  clear hg h31 hal h55 h56 h59 h60
  grind
 have h70:(B T 70)=true→(AR g=true∧C3 g (I T 26) (I T 27) (B T 28)=true∧BX g (L T 29)=true):=by
  obtain⟨-,-,-,-,-,-,-,-,-,-,-,-,-,e68,-,e70,-⟩:=F3
  simp only[AA,AD,zN,zR] at e68 e70
  rw[←h67]
  clear hg h31 hal h56 h59 h69
  grind
 have herr:B9 g (I T 26) (I T 27) (B T 28) (L T 29)=I T 207:=by
  obtain⟨-,-,-,-,e123,-⟩:=F7
  obtain⟨e151,-⟩:=F9
  obtain⟨-,-,-,-,-,-,-,-,-,-,-,-,e179,-⟩:=F10
  obtain⟨-,-,-,-,-,-,-,-,e207,-⟩:=F12
  simp only[AA,AD,zR,zL] at*
  unfold B9
  clear hg hal h70 h67 h38
  cases hl:AR g with
  |false=>rw[if_pos rfl];grind
  |true=>rw[if_neg (by decide)];cases ha:C3 g (I T 26) (I T 27) (B T 28) with
   |false=>rw[if_pos rfl];grind
   |true=>rw[if_neg (by decide)];grind
 have hE:B9 g (I T 26) (I T 27) (B T 28) (L T 29)=0↔((B T 31)=false∧B T 56=false∧B T 59=false∧B T 69=false):=by
  obtain⟨-,-,-,-,e123,-⟩:=F7
  obtain⟨e151,-⟩:=F9
  obtain⟨-,-,-,-,-,-,-,-,-,-,-,-,e179,-⟩:=F10
  obtain⟨-,-,-,-,-,-,-,-,e207,-⟩:=F12
  simp only[AA,AD,zR,zL] at*
  rw[herr]
  clear hg hal h70 h67 h38 h31 h55 h56 h59 h60 h69 herr h30
  grind
 have hab:AR g=true→C3 g (I T 26) (I T 27) (B T 28)=true→1≤I T 26∧I T 26≤5∧(¬I T 26=2→¬I T 26=3→0≤I T 27∧I T 27≤3)∧((I T 26)=2→Ag g=true):=fun hl ha=>L9 hl ha
 have cr3_0:gT T 71=Bv g3 (I T 26) (I T 27) (L T 29):=by
  obtain⟨e71,e72,e73,e74,e75,e76,e77,e78,e79,e80,e81,e82,e83,e84,e85,e86,-⟩:=F4
  obtain⟨e87,e88,e89,e90,e91,e92,e93,e94,e95,e96,-⟩:=F5
  rw[←show gAt 0 (BA.map (Rf.eval T))=g3 from z3.symm]
  exact Bk e71 e72 e73 e74 e75 e76 e77 e78 e79 e80 e81 e82 e83 e84 e85 e86 e87 e88 e89 e90 e91 e92 e93 e94 e95 e96
 refine⟨?_,?_,?_,?_,?_,?_,?_⟩
 ·rcases Bool.eq_false_or_eq_true (B T 31) with k31|k31
  ·
   refine (BC (Ap (K:=[(31,.b,.c (.bool true))]) (outs:=LG) (os:=[.c (.int 0),.c (.int 0),.c (.int 0),.c (.int 0),.c (.int 0),.c (.int 0),.c (.int 0),.c (.int 0),.c (.int 0),.c (.bool false),.c (.bool false),.c (.bool false),.c (.bool false),.c (.bool false),.c (.bool false),.c (.bool false),.c (.bool false),.c (.int 0),.c (.int 0),.c (.bool false),.c (.bool false),.c (.bool false),.c (.int 0),.c (.int 0),.c (.int 0),.c (.int 0)]) ⟨k31,trivial⟩ hFa (by kernel_rfl))).trans ?_
   show Gm.mk (0) (0) (0) (0) (0) (0) (0) (0) (0) false false false false false false false false (0) (0) false false false (0) (0) (0) (0)=_
   unfold D2
   rw[if_neg (fun h=>by rw[(hE.1 h).1] at k31;cases k31)]
   rfl
  ·
   rcases Bool.eq_false_or_eq_true (B T 56) with k56|k56
   ·
    refine (BC (Ap (K:=[(31,.b,.c (.bool false)),(56,.b,.c (.bool true))]) (outs:=LG) (os:=[.c (.int 0),.c (.int 0),.c (.int 0),.c (.int 0),.c (.int 0),.c (.int 0),.c (.int 0),.c (.int 0),.c (.int 0),.c (.bool false),.c (.bool false),.c (.bool false),.c (.bool false),.c (.bool false),.c (.bool false),.c (.bool false),.c (.bool false),.c (.int 0),.c (.int 0),.c (.bool false),.c (.bool false),.c (.bool false),.c (.int 0),.c (.int 0),.c (.int 0),.c (.int 0)]) ⟨k31,k56,trivial⟩ hFa (by kernel_rfl))).trans ?_
    show Gm.mk (0) (0) (0) (0) (0) (0) (0) (0) (0) false false false false false false false false (0) (0) false false false (0) (0) (0) (0)=_
    unfold D2
    rw[if_neg (fun h=>by rw[(hE.1 h).2.1] at k56;cases k56)]
    rfl
   ·
    rcases Bool.eq_false_or_eq_true (B T 59) with k59|k59
    ·
     refine (BC (Ap (K:=[(31,.b,.c (.bool false)),(56,.b,.c (.bool false)),(59,.b,.c (.bool true))]) (outs:=LG) (os:=[.c (.int 0),.c (.int 0),.c (.int 0),.c (.int 0),.c (.int 0),.c (.int 0),.c (.int 0),.c (.int 0),.c (.int 0),.c (.bool false),.c (.bool false),.c (.bool false),.c (.bool false),.c (.bool false),.c (.bool false),.c (.bool false),.c (.bool false),.c (.int 0),.c (.int 0),.c (.bool false),.c (.bool false),.c (.bool false),.c (.int 0),.c (.int 0),.c (.int 0),.c (.int 0)]) ⟨k31,k56,k59,trivial⟩ hFa (by kernel_rfl))).trans ?_
     show Gm.mk (0) (0) (0) (0) (0) (0) (0) (0) (0) false false false false false false false false (0) (0) false false false (0) (0) (0) (0)=_
     unfold D2
     rw[if_neg (fun h=>by rw[(hE.1 h).2.2.1] at k59;cases k59)]
     rfl
    ·
     rcases Bool.eq_false_or_eq_true (B T 69) with k69|k69
     ·
      refine (BC (Ap (K:=[(31,.b,.c (.bool false)),(56,.b,.c (.bool false)),(59,.b,.c (.bool false)),(69,.b,.c (.bool true))]) (outs:=LG) (os:=[.c (.int 0),.c (.int 0),.c (.int 0),.c (.int 0),.c (.int 0),.c (.int 0),.c (.int 0),.c (.int 0),.c (.int 0),.c (.bool false),.c (.bool false),.c (.bool false),.c (.bool false),.c (.bool false),.c (.bool false),.c (.bool false),.c (.bool false),.c (.int 0),.c (.int 0),.c (.bool false),.c (.bool false),.c (.bool false),.c (.int 0),.c (.int 0),.c (.int 0),.c (.int 0)]) ⟨k31,k56,k59,k69,trivial⟩ hFa (by kernel_rfl))).trans ?_
      show Gm.mk (0) (0) (0) (0) (0) (0) (0) (0) (0) false false false false false false false false (0) (0) false false false (0) (0) (0) (0)=_
      unfold D2
      rw[if_neg (fun h=>by rw[(hE.1 h).2.2.2] at k69;cases k69)]
      rfl
     ·
      refine (BC (Ap (K:=[(31,.b,.c (.bool false)),(56,.b,.c (.bool false)),(59,.b,.c (.bool false)),(69,.b,.c (.bool false))]) (outs:=LG) (os:=[.e 71,.e 72,.e 73,.e 74,.e 75,.e 76,.e 77,.e 78,.e 79,.e 80,.e 81,.e 82,.e 83,.e 84,.e 85,.e 86,.e 87,.e 88,.e 89,.e 90,.e 91,.e 92,.e 93,.e 94,.e 95,.e 96]) ⟨k31,k56,k59,k69,trivial⟩ hFa (by kernel_rfl))).trans ?_
      show gT T 71=_
      unfold D2
      rw[if_pos (hE.2 ⟨k31,k56,k59,k69⟩),cr3_0,hgC]
 ·obtain⟨-,-,-,-,-,-,-,-,e207,-⟩:=F12
  simp only[AA,AD,zR,zL] at e207
  exact herr.symm
 ·obtain⟨-,-,-,-,-,-,-,-,-,-,-,-,-,-,-,e70,-⟩:=F3
  simp only[AA,AD,zN,zR] at e70
  intro h
  rw[hgC];exact (h70 h).1
 ·obtain⟨-,-,-,-,-,-,-,-,-,-,-,-,-,-,-,e70,-⟩:=F3
  simp only[AA,AD,zN,zR] at e70
  intro h
  rw[hgC];exact fun hk=>⟨(hab (h70 h).1 (h70 h).2.1).2.2.2 hk,(h70 h).2.2⟩
 ·obtain⟨-,-,-,-,-,-,-,-,-,-,-,-,-,-,-,e70,-⟩:=F3
  simp only[AA,AD,zN,zR] at e70
  intro h
  exact (hab (h70 h).1 (h70 h).2.1).2.2.1
 ·obtain⟨e30,-⟩:=F0
  replace e30:B T 30=(AR g1):=by rw[←show gAt 0 (ES.map (Rf.eval T))=g1 from z1.symm];exact e30
  intro h
  have h:=(CS (h30.1 h)).side
  rw[hg] at h;exact h
 ·obtain⟨e30,-⟩:=F0
  replace e30:B T 30=(AR g1):=by rw[←show gAt 0 (ES.map (Rf.eval T))=g1 from z1.symm];exact e30
  intro h
  rw[hgA];exact h30.1 h
theorem g9:CA Try.prog 13 Jv:=by
 refine Bu (l:=[(36,Hw),(37,Is),(38,IF),(39,H7)]) C6 (by simp only[List.forall_mem_cons];exact⟨Uc,ej,da,iG,fun _ h=>absurd h (by simp)⟩) jh (by kernel_rfl) fun T us hpre hT hul hS hBd hE=>?_
 change us.length=30 at hul
 obtain⟨-,-,-,-,-,-,-,-,-,-,-,-,-,-,-,-,-,⟨hl29,he29⟩,-⟩:=hBd
 replace hl29:(L T 29).length≤140737488355328:=hl29
 obtain⟨g,hg⟩:∃g:Gm,g=gT T 0:=⟨_,rfl⟩
 have hgu:gAt 0 us=g:=by rw[hg];exact DV hT hul (by decide)
 have ha26:aI us 26=I T 26:=inI hT hul (by decide)
 have ha27:aI us 27=I T 27:=inI hT hul (by decide)
 have ha28:aB us 28=B T 28:=inB hT hul (by decide)
 have ha29:aL us 29=L T 29:=inL hT hul (by decide)
 clear hpre
 rw[List.map_append,List.map_append,List.map_append] at hE
 have hA:=hE.left
 replace hE:=hE.right
 have hH:=hE.left
 replace hE:=hE.right
 have hB:=hE.left
 replace hE:=hE.right
 obtain⟨A0,hS1⟩:=Cp hS (by kernel_rfl) hA
 obtain⟨g1,z1⟩:∃g:Gm,g=gT T 0:=⟨_,rfl⟩
 obtain⟨hgA,hmv,h30,hlen⟩:=dT hl29 g hg g1 z1 A0
 obtain⟨ow0,hS2,inv0,np0⟩:=fI g hg hlen hS1 hB hH
 have hF2:=(Cp (hS2.append hS1) (l:=GL) (by kernel_rfl) hB)
 obtain⟨B0,hS⟩:=hF2
 clear hA hB hH hS1 hS2
 obtain⟨A1,hO⟩:=CK (tys:=[.i,.i,.i,.i,.i,.i,.i,.i,.i,.b,.b,.b,.b,.b,.b,.b,.b,.i,.i,.b,.b,.b,.i,.i,.i,.i,.i]) (rs:=bf) hS (by kernel_rfl) hE
 obtain⟨g2,z2⟩:∃g:Gm,g=gT T 0:=⟨_,rfl⟩
 obtain⟨g3,z3⟩:∃g:Gm,g=gT T 0:=⟨_,rfl⟩
 obtain⟨whole,q26,r0,r1,r2,r3,r4⟩:=kA hl29 g hg g1 z1 hgA hmv h30 hlen inv0 np0 g2 z2 g3 z3 A0 B0 A1
 have hog:Bi us=D2 g (I T 26) (I T 27) (B T 28) (L T 29):=by unfold Bi;rw[hgu,ha26,ha27,ha28,ha29]
 replace whole:=whole.trans hog.symm
 refine⟨⟨(fun hp=>by show Ff _;unfold Ff;rw[show gAt 0 (BA.map (Rf.eval T))=g3 from z3.symm];exact r0 hp),(fun hp=>by show Fp _;unfold Fp;rw[show gAt 0 (BA.map (Rf.eval T))=g3 from z3.symm];exact r1 hp),r2,(fun _=>ow0),r3,(fun hp=>by show Ej _;unfold Ej;rw[show gAt 0 (ES.map (Rf.eval T))=g1 from z1.symm];exact r4 hp),trivial⟩,hO.trans ?_⟩
 exact Ka whole ((lc (by show U.int (I T 207)= .int (Ji us);unfold Ji;rw[hgu,ha26,ha27,ha28,ha29];exact congrArg U.int q26) rfl))
end Go.Eng
end
