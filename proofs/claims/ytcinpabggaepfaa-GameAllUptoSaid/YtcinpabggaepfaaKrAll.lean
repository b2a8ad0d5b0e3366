/-
  A part of the proof: K_rAlld K_rAll.
-/
import Derived.Test.YtcinpabggaepfaaE3
import Derived.Test.YtcinpabggaepfaaE4
import Derived.Test.YtcinpabggaepfaaKrlegal
import Derived.Test.YtcinpabggaepfaaKrPlay
set_option linter.unusedVariables false
set_option linter.unusedSimpArgs false
noncomputable section
open Go Go.Eng Go.Proofs
set_option maxHeartbeats 4000000
set_option maxRecDepth 100000
namespace Go.Eng
def B2 (us:List U):Gm:=(Cu (gAt 0 us) (aL us 26)).1
def W7 (us:List U):Int:=(B2 us).code
def XJ (us:List U):Int:=(B2 us).phase
def WD (us:List U):Int:=(B2 us).side
def WV (us:List U):Int:=(B2 us).ball
def X3 (us:List U):Int:=(B2 us).taken
def Wa (us:List U):Int:=(B2 us).p0
def Wi (us:List U):Int:=(B2 us).p1
def XL (us:List U):Int:=(B2 us).p2
def YQ (us:List U):Int:=(B2 us).p3
def YV (us:List U):Bool:=(B2 us).n0
def TZ (us:List U):Bool:=(B2 us).n1
def Th (us:List U):Bool:=(B2 us).n2
def UT (us:List U):Bool:=(B2 us).n3
def UU (us:List U):Bool:=(B2 us).d0
def Uu (us:List U):Bool:=(B2 us).d1
def U1 (us:List U):Bool:=(B2 us).d2
def T4 (us:List U):Bool:=(B2 us).d3
def UN (us:List U):Int:=(B2 us).h0
def Ux (us:List U):Int:=(B2 us).h1
def Tv (us:List U):Bool:=(B2 us).l0
def Tu (us:List U):Bool:=(B2 us).l1
def TR (us:List U):Bool:=(B2 us).half
def Ut (us:List U):Int:=(B2 us).turns
def Uy (us:List U):Int:=(B2 us).began
def UR (us:List U):Int:=(B2 us).lastb
def TF (us:List U):Int:=(B2 us).winner
def Kb:List U→Int:=fun us=>((Cu (gAt 0 us) (aL us 26)).2.1)
def Kc:List U→Int:=fun us=>((Cu (gAt 0 us) (aL us 26)).2.2)
def LR:Bc:={ sh:=[.agg [k64,k64,k64,k64,k64,k64,k64,k64,k64,.bool,.bool,.bool,.bool,.bool,.bool,.bool,.bool,k64,k64,.bool,.bool,.bool,k64,k64,k64,k64],.one (.list [k64,k64,.bool,.list [k64,k64]])],blks:=[],outs:=[(.s "rAll.0",AI W7),(.s "rAll.1",AI XJ),(.s "rAll.2",AI WD),(.s "rAll.3",AI WV),(.s "rAll.4",AI X3),(.s "rAll.5",AI Wa),(.s "rAll.6",AI Wi),(.s "rAll.7",AI XL),(.s "rAll.8",AI YQ),(.s "rAll.9",AQ YV),(.s "rAll.10",AQ TZ),(.s "rAll.11",AQ Th),(.s "rAll.12",AQ UT),(.s "rAll.13",AQ UU),(.s "rAll.14",AQ Uu),(.s "rAll.15",AQ U1),(.s "rAll.16",AQ T4),(.s "rAll.17",AI UN),(.s "rAll.18",AI Ux),(.s "rAll.19",AQ Tv),(.s "rAll.20",AQ Tu),(.s "rAll.21",AQ TR),(.s "rAll.22",AI Ut),(.s "rAll.23",AI Uy),(.s "rAll.24",AI UR),(.s "rAll.25",AI TF),(.s "rAll.26",AI Kb),(.s "rAll.27",AI Kc)],c:= .tup [.agg [(AG 27),(AG 28),(AG 29),(AG 30),(AG 31),(AG 32),(AG 33),(AG 34),(AG 35),.b 36,.b 37,.b 38,.b 39,.b 40,.b 41,.b 42,.b 43,(AG 44),(AG 45),.b 46,.b 47,.b 48,(AG 49),(AG 50),(AG 51),(AG 52)],(AG 53),(AG 54)],m':=[],pre:=[] }
def YI:List Rf:=[.e 0,.e 1,.e 2,.e 3,.e 4,.e 5,.e 6,.e 7,.e 8,.e 9,.e 10,.e 11,.e 12,.e 13,.e 14,.e 15,.e 16,.e 17,.e 18,.e 19,.e 20,.e 21,.e 22,.e 23,.e 24,.e 25]
def BV:List Rf:=[.e 34,.e 35,.e 36,.e 37,.e 38,.e 39,.e 40,.e 41,.e 42,.e 43,.e 44,.e 45,.e 46,.e 47,.e 48,.e 49,.e 50,.e 51,.e 52,.e 53,.e 54,.e 55,.e 56,.e 57,.e 58,.e 59,.e 64,.e 65,.e 66,.e 67]
def Wy:List (Nat × Ty):=[(184,.i),(185,.i),(186,.i),(187,.i),(188,.i),(189,.i),(190,.i),(191,.i),(192,.i),(193,.b),(194,.b),(195,.b),(196,.b),(197,.b),(198,.b),(199,.b),(200,.b),(201,.i),(202,.i),(203,.b),(204,.b),(205,.b),(206,.i),(207,.i),(208,.i),(209,.i)]
def bq:List En:=[⟨27,.outB "rlegal.0" Ik,YI⟩,
 ⟨28,.not,[.e 27]⟩,
 ⟨29,.len,[.e 26]⟩,
 ⟨30,.lt,[.c (.int 1000),.e 29]⟩,
 ⟨31,.and,[.e 27,.e 30]⟩,
 ⟨32,.and,[.e 27,.n 30]⟩]
def dS:List En:=[⟨60,.len,[.e 26]⟩,
 ⟨61,.lt,[.e 33,.e 60]⟩,
 ⟨62,.and,[.e 32,.e 61]⟩,
 ⟨63,.and,[.e 32,.n 61]⟩,
 ⟨64,.get .i 0,[.e 26,.e 33]⟩,
 ⟨65,.get .i 1,[.e 26,.e 33]⟩,
 ⟨66,.get .b 2,[.e 26,.e 33]⟩,
 ⟨67,.get .l 3,[.e 26,.e 33]⟩,
 ⟨68,.outI "rPlay.0" Uq,BV⟩,
 ⟨69,.outI "rPlay.1" UK,BV⟩,
 ⟨70,.outI "rPlay.2" Ts,BV⟩,
 ⟨71,.outI "rPlay.3" Tp,BV⟩,
 ⟨72,.outI "rPlay.4" TI,BV⟩,
 ⟨73,.outI "rPlay.5" Tc,BV⟩,
 ⟨74,.outI "rPlay.6" UG,BV⟩,
 ⟨75,.outI "rPlay.7" Up,BV⟩]
def ck:List En:=[⟨76,.outI "rPlay.8" TL,BV⟩,
 ⟨77,.outB "rPlay.9" Ui,BV⟩,
 ⟨78,.outB "rPlay.10" QR,BV⟩,
 ⟨79,.outB "rPlay.11" QQ,BV⟩,
 ⟨80,.outB "rPlay.12" R7,BV⟩,
 ⟨81,.outB "rPlay.13" Qm,BV⟩,
 ⟨82,.outB "rPlay.14" Q5,BV⟩,
 ⟨83,.outB "rPlay.15" Rb,BV⟩,
 ⟨84,.outB "rPlay.16" Rp,BV⟩,
 ⟨85,.outI "rPlay.17" Rd,BV⟩,
 ⟨86,.outI "rPlay.18" QJ,BV⟩,
 ⟨87,.outB "rPlay.19" R2,BV⟩,
 ⟨88,.outB "rPlay.20" QK,BV⟩,
 ⟨89,.outB "rPlay.21" RB,BV⟩,
 ⟨90,.outI "rPlay.22" Qd,BV⟩,
 ⟨91,.outI "rPlay.23" QS,BV⟩]
def dU:List En:=[⟨92,.outI "rPlay.24" Qa,BV⟩,
 ⟨93,.outI "rPlay.25" Rx,BV⟩,
 ⟨94,.outI "rPlay.26" Ji,BV⟩,
 ⟨95,.ne,[.e 94,.c (.int 0)]⟩,
 ⟨96,.and,[.e 62,.e 95]⟩,
 ⟨97,.and,[.e 62,.n 95]⟩,
 ⟨98,.w2 .i64 .add,[.e 33,.c (.int 1)]⟩]
def Px:List En:=bq
def H3:List En:=dS++(ck++(dU))
def Yb:List ObE:=[⟨some 62,.inl,[.e 33,.e 26]⟩]
def MU:BW:=mkD 33 27 H3 97 [.e 98,.e 68,.e 69,.e 70,.e 71,.e 72,.e 73,.e 74,.e 75,.e 76,.e 77,.e 78,.e 79,.e 80,.e 81,.e 82,.e 83,.e 84,.e 85,.e 86,.e 87,.e 88,.e 89,.e 90,.e 91,.e 92,.e 93] Yb [26,32]
def P3:List Rf:=[.e 26,.e 32,.c (.int 0),.e 0,.e 1,.e 2,.e 3,.e 4,.e 5,.e 6,.e 7,.e 8,.e 9,.e 10,.e 11,.e 12,.e 13,.e 14,.e 15,.e 16,.e 17,.e 18,.e 19,.e 20,.e 21,.e 22,.e 23,.e 24,.e 25]
def dG:List En:=[⟨99,.len,[.e 26]⟩,
 ⟨100,.ite .i,[.e 96,.e 33,.e 99]⟩,
 ⟨101,.ite .i,[.e 96,.e 94,.c (.int 0)]⟩,
 ⟨102,.or,[.e 96,.e 63]⟩,
 ⟨103,.ite .i,[.e 31,.e 0,.e 34]⟩,
 ⟨104,.ite .i,[.e 31,.e 1,.e 35]⟩,
 ⟨105,.ite .i,[.e 31,.e 2,.e 36]⟩,
 ⟨106,.ite .i,[.e 31,.e 3,.e 37]⟩,
 ⟨107,.ite .i,[.e 31,.e 4,.e 38]⟩,
 ⟨108,.ite .i,[.e 31,.e 5,.e 39]⟩,
 ⟨109,.ite .i,[.e 31,.e 6,.e 40]⟩,
 ⟨110,.ite .i,[.e 31,.e 7,.e 41]⟩,
 ⟨111,.ite .i,[.e 31,.e 8,.e 42]⟩,
 ⟨112,.ite .b,[.e 31,.e 9,.e 43]⟩,
 ⟨113,.ite .b,[.e 31,.e 10,.e 44]⟩,
 ⟨114,.ite .b,[.e 31,.e 11,.e 45]⟩]
def eM:List En:=[⟨115,.ite .b,[.e 31,.e 12,.e 46]⟩,
 ⟨116,.ite .b,[.e 31,.e 13,.e 47]⟩,
 ⟨117,.ite .b,[.e 31,.e 14,.e 48]⟩,
 ⟨118,.ite .b,[.e 31,.e 15,.e 49]⟩,
 ⟨119,.ite .b,[.e 31,.e 16,.e 50]⟩,
 ⟨120,.ite .i,[.e 31,.e 17,.e 51]⟩,
 ⟨121,.ite .i,[.e 31,.e 18,.e 52]⟩,
 ⟨122,.ite .b,[.e 31,.e 19,.e 53]⟩,
 ⟨123,.ite .b,[.e 31,.e 20,.e 54]⟩,
 ⟨124,.ite .b,[.e 31,.e 21,.e 55]⟩,
 ⟨125,.ite .i,[.e 31,.e 22,.e 56]⟩,
 ⟨126,.ite .i,[.e 31,.e 23,.e 57]⟩,
 ⟨127,.ite .i,[.e 31,.e 24,.e 58]⟩,
 ⟨128,.ite .i,[.e 31,.e 25,.e 59]⟩,
 ⟨129,.ite .i,[.e 31,.c (.int 0),.e 34]⟩,
 ⟨130,.ite .i,[.e 31,.c (.int 0),.e 35]⟩]
def d7:List En:=[⟨131,.ite .i,[.e 31,.c (.int 0),.e 36]⟩,
 ⟨132,.ite .i,[.e 31,.c (.int 0),.e 37]⟩,
 ⟨133,.ite .i,[.e 31,.c (.int 0),.e 38]⟩,
 ⟨134,.ite .i,[.e 31,.c (.int 0),.e 39]⟩,
 ⟨135,.ite .i,[.e 31,.c (.int 0),.e 40]⟩,
 ⟨136,.ite .i,[.e 31,.c (.int 0),.e 41]⟩,
 ⟨137,.ite .i,[.e 31,.c (.int 0),.e 42]⟩,
 ⟨138,.ite .b,[.e 31,.c (.bool false),.e 43]⟩,
 ⟨139,.ite .b,[.e 31,.c (.bool false),.e 44]⟩,
 ⟨140,.ite .b,[.e 31,.c (.bool false),.e 45]⟩,
 ⟨141,.ite .b,[.e 31,.c (.bool false),.e 46]⟩,
 ⟨142,.ite .b,[.e 31,.c (.bool false),.e 47]⟩,
 ⟨143,.ite .b,[.e 31,.c (.bool false),.e 48]⟩,
 ⟨144,.ite .b,[.e 31,.c (.bool false),.e 49]⟩,
 ⟨145,.ite .b,[.e 31,.c (.bool false),.e 50]⟩,
 ⟨146,.ite .i,[.e 31,.c (.int 0),.e 51]⟩]
def dP:List En:=[⟨147,.ite .i,[.e 31,.c (.int 0),.e 52]⟩,
 ⟨148,.ite .b,[.e 31,.c (.bool false),.e 53]⟩,
 ⟨149,.ite .b,[.e 31,.c (.bool false),.e 54]⟩,
 ⟨150,.ite .b,[.e 31,.c (.bool false),.e 55]⟩,
 ⟨151,.ite .i,[.e 31,.c (.int 0),.e 56]⟩,
 ⟨152,.ite .i,[.e 31,.c (.int 0),.e 57]⟩,
 ⟨153,.ite .i,[.e 31,.c (.int 0),.e 58]⟩,
 ⟨154,.ite .i,[.e 31,.c (.int 0),.e 59]⟩,
 ⟨155,.ite .i,[.e 31,.c (.int 0),.e 100]⟩,
 ⟨156,.ite .i,[.e 31,.c (.int 6),.e 101]⟩,
 ⟨157,.or,[.e 31,.e 102]⟩,
 ⟨158,.ite .i,[.e 28,.e 0,.e 103]⟩,
 ⟨159,.ite .i,[.e 28,.e 1,.e 104]⟩,
 ⟨160,.ite .i,[.e 28,.e 2,.e 105]⟩,
 ⟨161,.ite .i,[.e 28,.e 3,.e 106]⟩,
 ⟨162,.ite .i,[.e 28,.e 4,.e 107]⟩]
def cy:List En:=[⟨163,.ite .i,[.e 28,.e 5,.e 108]⟩,
 ⟨164,.ite .i,[.e 28,.e 6,.e 109]⟩,
 ⟨165,.ite .i,[.e 28,.e 7,.e 110]⟩,
 ⟨166,.ite .i,[.e 28,.e 8,.e 111]⟩,
 ⟨167,.ite .b,[.e 28,.e 9,.e 112]⟩,
 ⟨168,.ite .b,[.e 28,.e 10,.e 113]⟩,
 ⟨169,.ite .b,[.e 28,.e 11,.e 114]⟩,
 ⟨170,.ite .b,[.e 28,.e 12,.e 115]⟩,
 ⟨171,.ite .b,[.e 28,.e 13,.e 116]⟩,
 ⟨172,.ite .b,[.e 28,.e 14,.e 117]⟩,
 ⟨173,.ite .b,[.e 28,.e 15,.e 118]⟩,
 ⟨174,.ite .b,[.e 28,.e 16,.e 119]⟩,
 ⟨175,.ite .i,[.e 28,.e 17,.e 120]⟩,
 ⟨176,.ite .i,[.e 28,.e 18,.e 121]⟩,
 ⟨177,.ite .b,[.e 28,.e 19,.e 122]⟩,
 ⟨178,.ite .b,[.e 28,.e 20,.e 123]⟩]
def dH:List En:=[⟨179,.ite .b,[.e 28,.e 21,.e 124]⟩,
 ⟨180,.ite .i,[.e 28,.e 22,.e 125]⟩,
 ⟨181,.ite .i,[.e 28,.e 23,.e 126]⟩,
 ⟨182,.ite .i,[.e 28,.e 24,.e 127]⟩,
 ⟨183,.ite .i,[.e 28,.e 25,.e 128]⟩,
 ⟨184,.ite .i,[.e 28,.c (.int 0),.e 129]⟩,
 ⟨185,.ite .i,[.e 28,.c (.int 0),.e 130]⟩,
 ⟨186,.ite .i,[.e 28,.c (.int 0),.e 131]⟩,
 ⟨187,.ite .i,[.e 28,.c (.int 0),.e 132]⟩,
 ⟨188,.ite .i,[.e 28,.c (.int 0),.e 133]⟩,
 ⟨189,.ite .i,[.e 28,.c (.int 0),.e 134]⟩,
 ⟨190,.ite .i,[.e 28,.c (.int 0),.e 135]⟩,
 ⟨191,.ite .i,[.e 28,.c (.int 0),.e 136]⟩,
 ⟨192,.ite .i,[.e 28,.c (.int 0),.e 137]⟩,
 ⟨193,.ite .b,[.e 28,.c (.bool false),.e 138]⟩,
 ⟨194,.ite .b,[.e 28,.c (.bool false),.e 139]⟩]
def cm:List En:=[⟨195,.ite .b,[.e 28,.c (.bool false),.e 140]⟩,
 ⟨196,.ite .b,[.e 28,.c (.bool false),.e 141]⟩,
 ⟨197,.ite .b,[.e 28,.c (.bool false),.e 142]⟩,
 ⟨198,.ite .b,[.e 28,.c (.bool false),.e 143]⟩,
 ⟨199,.ite .b,[.e 28,.c (.bool false),.e 144]⟩,
 ⟨200,.ite .b,[.e 28,.c (.bool false),.e 145]⟩,
 ⟨201,.ite .i,[.e 28,.c (.int 0),.e 146]⟩,
 ⟨202,.ite .i,[.e 28,.c (.int 0),.e 147]⟩,
 ⟨203,.ite .b,[.e 28,.c (.bool false),.e 148]⟩,
 ⟨204,.ite .b,[.e 28,.c (.bool false),.e 149]⟩,
 ⟨205,.ite .b,[.e 28,.c (.bool false),.e 150]⟩,
 ⟨206,.ite .i,[.e 28,.c (.int 0),.e 151]⟩,
 ⟨207,.ite .i,[.e 28,.c (.int 0),.e 152]⟩,
 ⟨208,.ite .i,[.e 28,.c (.int 0),.e 153]⟩,
 ⟨209,.ite .i,[.e 28,.c (.int 0),.e 154]⟩,
 ⟨210,.ite .i,[.e 28,.c (.int 0),.e 155]⟩]
def b7:List En:=[⟨211,.ite .i,[.e 28,.c (.int 2),.e 156]⟩,
 ⟨212,.or,[.e 28,.e 157]⟩]
def X8:List En:=dG++(eM++(d7++(dP++(cy++(dH++(cm++(b7)))))))
def kP:List ObE:=[⟨some 32,.owes MU,[.e 26,.e 32,.c (.int 0),.e 0,.e 1,.e 2,.e 3,.e 4,.e 5,.e 6,.e 7,.e 8,.e 9,.e 10,.e 11,.e 12,.e 13,.e 14,.e 15,.e 16,.e 17,.e 18,.e 19,.e 20,.e 21,.e 22,.e 23,.e 24,.e 25]⟩]
def fM:List Rf:=[.e 184,.e 185,.e 186,.e 187,.e 188,.e 189,.e 190,.e 191,.e 192,.e 193,.e 194,.e 195,.e 196,.e 197,.e 198,.e 199,.e 200,.e 201,.e 202,.e 203,.e 204,.e 205,.e 206,.e 207,.e 208,.e 209,.e 210,.e 211]
theorem kN:LR.sees fM (LR.run Try.prog [(36,Hw),(13,Jv)] RN 3000 20 22)=some ((Px++((Ek MU [.i,.i,.i,.i,.i,.i,.i,.i,.i,.i,.b,.b,.b,.b,.b,.b,.b,.b,.i,.i,.b,.b,.b,.i,.i,.i,.i] P3)++(H3++(X8)))).map En.be,kP.map ObE.be,[]):=by kernel_rfl
theorem ia {T:Tab}(hl26:(L T 26).length≤140737488355328)(g:Gm)(hg:g=gT T 0)(hS:Ay T (J7 (EE 0 LR.ks) Px))(hB:CJ T (H3.map En.be))(hH:CJ T ((Ek MU [.i,.i,.i,.i,.i,.i,.i,.i,.i,.i,.b,.b,.b,.b,.b,.b,.b,.b,.i,.i,.b,.b,.b,.i,.i,.i,.i] P3).map En.be)):
  (MU).owes (P3.map (Rf.eval T))∧Ay T (hds 33 [.i,.i,.i,.i,.i,.i,.i,.i,.i,.i,.b,.b,.b,.b,.b,.b,.b,.b,.i,.i,.b,.b,.b,.i,.i,.i,.i])∧(0≤I T 33∧I T 33≤((L T 26)).length∧((B T 32)=true→CB g 0 (L T 26)=CB (gT T 34) (I T 33) ((L T 26).drop (I T 33).toNat)))∧¬B T 97=true:=by
 refine Gx (nh:=33) (k:=27) (pcn:=97) (top:=99) (bes:=H3) (bos:=Yb) (nxt:=[.e 98,.e 68,.e 69,.e 70,.e 71,.e 72,.e 73,.e 74,.e 75,.e 76,.e 77,.e 78,.e 79,.e 80,.e 81,.e 82,.e 83,.e 84,.e 85,.e 86,.e 87,.e 88,.e 89,.e 90,.e 91,.e 92,.e 93]) (inits:=[.c (.int 0),.e 0,.e 1,.e 2,.e 3,.e 4,.e 5,.e 6,.e 7,.e 8,.e 9,.e 10,.e 11,.e 12,.e 13,.e 14,.e 15,.e 16,.e 17,.e 18,.e 19,.e 20,.e 21,.e 22,.e 23,.e 24,.e 25]) (fv:=[26,32]) (tys:=[.i,.i,.i,.i,.i,.i,.i,.i,.i,.i,.b,.b,.b,.b,.b,.b,.b,.b,.i,.i,.b,.b,.b,.i,.i,.i,.i]) (by kernel_rfl) rfl rfl rfl rfl hS (by kernel_rfl) (by kernel_rfl) hB (Ec hH) (fun s=>0≤(aI s 0)∧(aI s 0)≤((L T 26)).length∧((B T 32)=true→CB g 0 (L T 26)=CB (Gm.mk (aI s 1) (aI s 2) (aI s 3) (aI s 4) (aI s 5) (aI s 6) (aI s 7) (aI s 8) (aI s 9) (aB s 10) (aB s 11) (aB s 12) (aB s 13) (aB s 14) (aB s 15) (aB s 16) (aB s 17) (aI s 18) (aI s 19) (aB s 20) (aB s 21) (aB s 22) (aI s 23) (aI s 24) (aI s 25) (aI s 26)) (aI s 0) ((L T 26).drop (aI s 0).toNat))) (fun s=>(((L T 26)).length - (aI s 0)).toNat) ?_ ?_
 ·show 0≤(0:Int)∧(0:Int)≤((L T 26)).length∧((B T 32)=true→CB g 0 (L T 26)=CB (gT T 0) (0:Int) ((L T 26).drop (0:Int).toNat))
  clear hS hB hH
  refine⟨by omega,by omega,fun h=>?_⟩
  rw[←hg];rfl
 ·intro T2 hfv hF inv
  replace inv:0≤I T2 33∧I T2 33≤((L T 26)).length∧((B T 32)=true→CB g 0 (L T 26)=CB (gT T2 34) (I T2 33) ((L T 26).drop (I T2 33).toNat)):=inv
  clear hS hB hH
  replace hF:AK T2 H3:=hF
  obtain⟨F0,hF⟩:=hF.cut
  obtain⟨F1,hF⟩:=hF.cut
  have F2:=hF;clear hF
  have fv26:L T2 26=L T 26:=fvL (hfv 26 (by decide))
  have fv32:B T2 32=B T 32:=fvB (hfv 32 (by decide))
  clear hfv
  obtain⟨g2,z2⟩:∃g:Gm,g=gT T2 34:=⟨_,rfl⟩
  have cr2_0:gT T2 68=D2 g2 (I T2 64) (I T2 65) (B T2 66) (L T2 67):=by
   obtain⟨-,-,-,-,-,-,-,-,e68,e69,e70,e71,e72,e73,e74,e75,-⟩:=F0
   obtain⟨e76,e77,e78,e79,e80,e81,e82,e83,e84,e85,e86,e87,e88,e89,e90,e91,-⟩:=F1
   obtain⟨e92,e93,-⟩:=F2
   rw[←show gAt 0 (BV.map (Rf.eval T2))=g2 from z2.symm]
   exact Bk e68 e69 e70 e71 e72 e73 e74 e75 e76 e77 e78 e79 e80 e81 e82 e83 e84 e85 e86 e87 e88 e89 e90 e91 e92 e93
  suffices hz:(B T2 62=true→0≤I T2 33∧I T2 33 < ((L T2 26)).length)∧(B T2 97=true→(0≤I T2 98∧I T2 98≤((L T 26)).length∧((B T 32)=true→CB g 0 (L T 26)=CB (gT T2 68) (I T2 98) ((L T 26).drop (I T2 98).toNat))))∧(B T2 97=true→(((L T 26)).length - (I T2 98)).toNat < (((L T 26)).length - (I T2 33)).toNat) from
   let⟨r0,nx,mz⟩:=hz;⟨⟨r0,trivial⟩,fun hp=>⟨nx hp,mz hp⟩⟩
  refine⟨?_,?_,?_⟩
  ·obtain⟨e60,e61,e62,-⟩:=F0
   simp only[AA,AD,zR,zL] at e60 e61 e62
   obtain⟨v1,v2,v4⟩:=inv
   clear v4 hg z2 cr2_0
   grind
  ·obtain⟨e60,e61,e62,-,e64,e65,e66,e67,-⟩:=F0
   obtain⟨-,-,e94,e95,-,e97,e98,-⟩:=F2
   replace e94:I T2 94=(B9 g2 (I T2 64) (I T2 65) (B T2 66) (L T2 67)):=by rw[←show gAt 0 (BV.map (Rf.eval T2))=g2 from z2.symm];exact e94
   simp only[AA,AD,zN,zR,w2P,zL] at*
   intro hp
   obtain⟨v1,v2,v4⟩:=inv
   have h92:(B T2 62)=true:=by clear v4 hg z2 cr2_0;grind
   have h62b:(B T 32)=true:=by rw[←fv32];clear v4 hg z2 cr2_0;grind
   have v6:=v4 h62b
   have hlt:(I T2 33) < ((L T 26)).length:=by clear v4 hg z2 cr2_0 v6;grind
   have e:(I T2 98)=I T2 33+1:=e98 (by omega) (by omega)
   have he:B9 g2 (I T2 64) (I T2 65) (B T2 66) (L T2 67)=0:=by rw[←e94];clear v4 hg z2 cr2_0 v6;grind
   rw[j8 he] at cr2_0
   rw[←z2] at v6
   have a1:(I T2 64)=At (L T 26) (I T2 33).toNat 0:=by rw[e64,fv26]
   have a2:(I T2 65)=At (L T 26) (I T2 33).toNat 1:=by rw[e65,fv26]
   have a3:(B T2 66)=C8 (L T 26) (I T2 33).toNat 2:=by rw[e66,fv26]
   have a4:(L T2 67)=EF (L T 26) (I T2 33).toNat 3:=by rw[e67,fv26]
   refine⟨by omega,by rw[e];omega,fun _=>?_⟩
   rw[v6,cr2_0,e,show ((I T2 33)+1).toNat=(I T2 33).toNat+1 by omega,a1,a2,a4]
   rw[a1,a2,a3,a4] at he
   exact Ww (by omega) he
  ·obtain⟨e60,e61,e62,-⟩:=F0
   obtain⟨-,-,-,-,-,e97,e98,-⟩:=F2
   simp only[AA,AD,zN,zR,w2P,zL] at*
   intro hp
   obtain⟨v1,v2,v4⟩:=inv
   have hlt:(I T2 33) < ((L T 26)).length:=by clear v4 hg z2 cr2_0;grind
   have e:(I T2 98)=I T2 33+1:=e98 (by omega) (by omega)
   omega
theorem kR {T:Tab}(hl26:(L T 26).length≤140737488355328)(g:Gm)(hg:g=gT T 0)(g1:Gm)(z1:g1=gT T 0)(inv0:0≤I T 33∧I T 33≤((L T 26)).length∧((B T 32)=true→CB g 0 (L T 26)=CB (gT T 34) (I T 33) ((L T 26).drop (I T 33).toNat)))(np0:¬B T 97=true)(g3:Gm)(z3:g3=gT T 34)(A0:AK T Px)(B0:AK T H3)(A1:AK T X8):
  (gT T 184=(Cu g (L T 26)).1)∧
  ((I T 210)=((Cu g (L T 26)).2.1))∧
  ((I T 211)=((Cu g (L T 26)).2.2)):=by
 have hFa:=A1
 have F0:=A0;clear A0
 obtain⟨F1,B0⟩:=B0.cut
 obtain⟨F2,B0⟩:=B0.cut
 have F3:=B0;clear B0
 obtain⟨F4,A1⟩:=A1.cut
 obtain⟨F5,A1⟩:=A1.cut
 obtain⟨F6,A1⟩:=A1.cut
 obtain⟨F7,A1⟩:=A1.cut
 obtain⟨F8,A1⟩:=A1.cut
 obtain⟨F9,A1⟩:=A1.cut
 obtain⟨F10,A1⟩:=A1.cut
 have F11:=A1;clear A1
 obtain⟨w1,w2,w4⟩:=inv0
 have hgA:g1=g:=by rw[z1,hg]
 have h27:(B T 27)=true↔AR g=true:=by
  obtain⟨e27,-⟩:=F0
  replace e27:B T 27=(AR g1):=by rw[←show gAt 0 (YI.map (Rf.eval T))=g1 from z1.symm];exact e27
  rw[e27,hgA]
 have hA:(B T 28)=true→Cu g (L T 26)=(Jm,0,2):=by
  obtain⟨-,e28,-⟩:=F0
  simp only[AA,AD,zR] at e28
  intro h
  exact W5 (by rw[←h27];clear w4 hg z1 z3 hgA;grind)
 have hf:(B T 28)=false→AR g=true:=by
  obtain⟨-,e28,-⟩:=F0
  simp only[AA,AD,zR] at e28
  intro h
  rw[←h27];clear w4 hg z1 z3 hgA hA;grind
 have hB:(B T 28)=false→B T 31=true→Cu g (L T 26)=(Jm,0,6):=by
  obtain⟨-,-,e29,e30,e31,-⟩:=F0
  simp only[AA,AD,zR,zL] at e29 e30 e31
  intro h k
  exact TB (hf h) (by clear w4 hg z1 z3 hgA hA hf h27;grind)
 have h32:(B T 28)=false→B T 31=false→B T 32=true∧¬1000 < ((L T 26)).length:=by
  obtain⟨-,e28,e29,e30,e31,e32,-⟩:=F0
  simp only[AA,AD,zN,zR,zL] at*
  clear w4 hg z1 z3 hgA hA hf hB h27
  grind
 have hC:(B T 28)=false→B T 31=false→Cu g (L T 26)=CB (gT T 34) (I T 33) ((L T 26).drop (I T 33).toNat):=by
  intro h k
  have h2:=h32 h k
  rw[bB (hf h) h2.2]
  exact w4 h2.1
 have hD:(B T 96)=true→CB (gT T 34) (I T 33) ((L T 26).drop (I T 33).toNat)=((gT T 34),(I T 33),(I T 94)):=by
  obtain⟨e60,e61,e62,-,e64,e65,e66,e67,-⟩:=F1
  obtain⟨-,-,e94,e95,e96,-⟩:=F3
  replace e94:I T 94=(B9 g3 (I T 64) (I T 65) (B T 66) (L T 67)):=by rw[←show gAt 0 (BV.map (Rf.eval T))=g3 from z3.symm];exact e94
  simp only[AA,AD,zR,zL] at*
  intro h
  have hlt:(I T 33) < ((L T 26)).length:=by clear w4 hg z1 z3 hgA hA hf hB h27 hC h32;grind
  have hn:¬I T 94=0:=by clear w4 hg z1 z3 hgA hA hf hB h27 hC h32;grind
  rw[z3,e64,e65,e66,e67] at e94
  rw[e94] at hn⊢
  exact RQ (by omega) hn
 have hE:(B T 28)=false→B T 31=false→B T 96=false→CB (gT T 34) (I T 33) ((L T 26).drop (I T 33).toNat)=((gT T 34),(I T 33),0)∧I T 33=((L T 26)).length:=by
  obtain⟨e60,e61,e62,-⟩:=F1
  obtain⟨-,-,-,-,e96,e97,-⟩:=F3
  simp only[AA,AD,zN,zR,zL] at*
  intro h k m
  have h2:=(h32 h k).1
  have hle:(((L T 26)).length:Int)≤I T 33:=by clear w4 hg z1 z3 hgA hA hf hB h27 hC h32 hD;grind
  exact⟨TU (by omega),by omega⟩
 clear hgA w4
 have cr3_0:gT T 68=D2 g3 (I T 64) (I T 65) (B T 66) (L T 67):=by
  obtain⟨-,-,-,-,-,-,-,-,e68,e69,e70,e71,e72,e73,e74,e75,-⟩:=F1
  obtain⟨e76,e77,e78,e79,e80,e81,e82,e83,e84,e85,e86,e87,e88,e89,e90,e91,-⟩:=F2
  obtain⟨e92,e93,-⟩:=F3
  rw[←show gAt 0 (BV.map (Rf.eval T))=g3 from z3.symm]
  exact Bk e68 e69 e70 e71 e72 e73 e74 e75 e76 e77 e78 e79 e80 e81 e82 e83 e84 e85 e86 e87 e88 e89 e90 e91 e92 e93
 refine⟨?_,?_,?_⟩
 ·rcases Bool.eq_false_or_eq_true (B T 28) with k28|k28
  ·
   refine (BC (Ap (K:=[(28,.b,.c (.bool true))]) (outs:=Wy) (os:=[.c (.int 0),.c (.int 0),.c (.int 0),.c (.int 0),.c (.int 0),.c (.int 0),.c (.int 0),.c (.int 0),.c (.int 0),.c (.bool false),.c (.bool false),.c (.bool false),.c (.bool false),.c (.bool false),.c (.bool false),.c (.bool false),.c (.bool false),.c (.int 0),.c (.int 0),.c (.bool false),.c (.bool false),.c (.bool false),.c (.int 0),.c (.int 0),.c (.int 0),.c (.int 0)]) ⟨k28,trivial⟩ hFa (by kernel_rfl))).trans ?_
   show Gm.mk (0) (0) (0) (0) (0) (0) (0) (0) (0) false false false false false false false false (0) (0) false false false (0) (0) (0) (0)=_
   rw[hA k28]
   rfl
  ·
   rcases Bool.eq_false_or_eq_true (B T 31) with k31|k31
   ·
    refine (BC (Ap (K:=[(28,.b,.c (.bool false)),(31,.b,.c (.bool true))]) (outs:=Wy) (os:=[.c (.int 0),.c (.int 0),.c (.int 0),.c (.int 0),.c (.int 0),.c (.int 0),.c (.int 0),.c (.int 0),.c (.int 0),.c (.bool false),.c (.bool false),.c (.bool false),.c (.bool false),.c (.bool false),.c (.bool false),.c (.bool false),.c (.bool false),.c (.int 0),.c (.int 0),.c (.bool false),.c (.bool false),.c (.bool false),.c (.int 0),.c (.int 0),.c (.int 0),.c (.int 0)]) ⟨k28,k31,trivial⟩ hFa (by kernel_rfl))).trans ?_
    show Gm.mk (0) (0) (0) (0) (0) (0) (0) (0) (0) false false false false false false false false (0) (0) false false false (0) (0) (0) (0)=_
    rw[hB k28 k31]
    rfl
   ·
    refine (BC (Ap (K:=[(28,.b,.c (.bool false)),(31,.b,.c (.bool false))]) (outs:=Wy) (os:=[.e 34,.e 35,.e 36,.e 37,.e 38,.e 39,.e 40,.e 41,.e 42,.e 43,.e 44,.e 45,.e 46,.e 47,.e 48,.e 49,.e 50,.e 51,.e 52,.e 53,.e 54,.e 55,.e 56,.e 57,.e 58,.e 59]) ⟨k28,k31,trivial⟩ hFa (by kernel_rfl))).trans ?_
    show gT T 34=_
    rw[hC k28 k31]
    cases k96:(B T 96) with
    |true=>rw[hD k96]
    |false=>rw[(hE k28 k31 k96).1]
 ·obtain⟨e99,e100,-⟩:=F4
  obtain⟨-,-,-,-,-,-,-,-,e155,-⟩:=F7
  obtain⟨-,-,-,-,-,-,-,-,-,-,-,-,-,-,-,e210,-⟩:=F10
  simp only[AA,AD,zR,zL] at*
  clear hg z1 z3 cr3_0
  cases k28:(B T 28) with
  |true=>rw[hA k28];grind
  |false=>
   cases k31:(B T 31) with
   |true=>rw[hB k28 k31];grind
   |false=>
    rw[hC k28 k31]
    cases k96:(B T 96) with
    |true=>rw[hD k96];grind
    |false=>rw[(hE k28 k31 k96).1];have:=(hE k28 k31 k96).2;grind
 ·obtain⟨-,-,e101,-⟩:=F4
  obtain⟨-,-,-,-,-,-,-,-,-,e156,-⟩:=F7
  obtain⟨e211,-⟩:=F11
  simp only[AA,AD,zR,zL] at e101 e156 e211
  clear hg z1 z3 cr3_0
  cases k28:(B T 28) with
  |true=>rw[hA k28];grind
  |false=>
   cases k31:(B T 31) with
   |true=>rw[hB k28 k31];grind
   |false=>
    rw[hC k28 k31]
    cases k96:(B T 96) with
    |true=>rw[hD k96];grind
    |false=>rw[(hE k28 k31 k96).1];have:=(hE k28 k31 k96).2;grind
theorem jL:CA Try.prog 22 LR:=by
 refine Bu (l:=[(36,Hw),(13,Jv)]) C6 (by simp only[List.forall_mem_cons];exact⟨Uc,g9,fun _ h=>absurd h (by simp)⟩) kN (by kernel_rfl) fun T us hpre hT hul hS hBd hE=>?_
 change us.length=27 at hul
 obtain⟨-,-,-,-,-,-,-,-,-,-,-,-,-,-,-,⟨hl26,he26⟩,-⟩:=hBd
 replace hl26:(L T 26).length≤140737488355328:=hl26
 obtain⟨g,hg⟩:∃g:Gm,g=gT T 0:=⟨_,rfl⟩
 have hgu:gAt 0 us=g:=by rw[hg];exact DV hT hul (by decide)
 have ha26:aL us 26=L T 26:=inL hT hul (by decide)
 clear hpre
 rw[List.map_append,List.map_append,List.map_append] at hE
 have hA:=hE.left
 replace hE:=hE.right
 have hH:=hE.left
 replace hE:=hE.right
 have hB:=hE.left
 replace hE:=hE.right
 obtain⟨A0,hS1⟩:=Cp hS (by kernel_rfl) hA
 obtain⟨g1,z1⟩:∃g:Gm,g=gT T 0:=⟨_,rfl⟩
 obtain⟨ow0,hS2,inv0,np0⟩:=ia hl26 g hg hS1 hB hH
 have hF2:=(Cp (hS2.append hS1) (l:=H3) (by kernel_rfl) hB)
 obtain⟨B0,hS⟩:=hF2
 clear hA hB hH hS1 hS2
 obtain⟨g3,z3⟩:∃g:Gm,g=gT T 34:=⟨_,rfl⟩
 obtain⟨A1,hO⟩:=CK (tys:=[.i,.i,.i,.i,.i,.i,.i,.i,.i,.b,.b,.b,.b,.b,.b,.b,.b,.i,.i,.b,.b,.b,.i,.i,.i,.i,.i,.i]) (rs:=fM) hS (by kernel_rfl) hE
 obtain⟨whole,q26,q27⟩:=kR hl26 g hg g1 z1 inv0 np0 g3 z3 A0 B0 A1
 have hog:B2 us=(Cu g (L T 26)).1:=by unfold B2;rw[hgu,ha26]
 replace whole:=whole.trans hog.symm
 refine⟨⟨(fun _=>ow0),trivial⟩,hO.trans ?_⟩
 exact Ka whole ((lc (by show U.int (I T 210)= .int (Kb us);unfold Kb;rw[hgu,ha26];exact congrArg U.int q26) (lc (by show U.int (I T 211)= .int (Kc us);unfold Kc;rw[hgu,ha26];exact congrArg U.int q27) rfl)))
end Go.Eng
end
