/-
  A part of the proof: K_gLived K_gLive.
-/
import Derived.Test.YtcinpabggaepfaaXQlRules
import Derived.Test.YtcinpabggaepfaaE3
import Derived.Test.YtcinpabggaepfaaE4
import Derived.Test.YtcinpabggaepfaaKgposs
import Derived.Test.YtcinpabggaepfaaKglegal
set_option linter.unusedVariables false
set_option linter.unusedSimpArgs false
noncomputable section
open Go Go.Eng Go.Proofs
set_option maxHeartbeats 4000000
set_option maxRecDepth 100000
namespace Go.Eng
def sV:List U→List (List U):=fun us=>((if AR (gAt 0 us)=true then ra (gAt 0 us) else []))
def sc:List U→Int:=fun us=>((if AR (gAt 0 us)=true then 0 else 2))
def sz:Bc:={ sh:=[.agg [k64,k64,k64,k64,k64,k64,k64,k64,k64,.bool,.bool,.bool,.bool,.bool,.bool,.bool,.bool,k64,k64,.bool,.bool,.bool,k64,k64,k64,k64]],blks:=[],outs:=[(.s "gLive.0",jD sV),(.s "gLive.1",AI sc)],c:= .tup [.ro 26 [k64],(AG 27)],m':=[],pre:=[] }
def rN:List Rf:=[.e 0,.e 1,.e 2,.e 3,.e 4,.e 5,.e 6,.e 7,.e 8,.e 9,.e 10,.e 11,.e 12,.e 13,.e 14,.e 15,.e 16,.e 17,.e 18,.e 19,.e 20,.e 21,.e 22,.e 23,.e 24,.e 25,.e 37,.e 38,.e 39,.e 40,.e 41,.e 42]
def uf:List En:=[⟨26,.lt,[.e 0,.c (.int 0)]⟩,
 ⟨27,.not,[.e 26]⟩,
 ⟨28,.le,[.c (.int 4),.e 0]⟩,
 ⟨29,.or,[.e 26,.e 28]⟩,
 ⟨30,.not,[.e 29]⟩,
 ⟨31,.pick .i,[.e 0,.c (.int 12),.c (.int 12),.c (.int 6),.c (.int 12)]⟩,
 ⟨32,.pick .i,[.e 0,.c (.int 0),.c (.int 7),.c (.int 0),.c (.int 0)]⟩,
 ⟨33,.pick .i,[.e 0,.c (.int 0),.c (.int 10),.c (.int 0),.c (.int 0)]⟩,
 ⟨34,.pick .b,[.e 0,.c (.bool true),.c (.bool true),.c (.bool true),.c (.bool false)]⟩,
 ⟨35,.pick .b,[.e 0,.c (.bool true),.c (.bool false),.c (.bool true),.c (.bool false)]⟩,
 ⟨36,.pick .b,[.e 0,.c (.bool false),.c (.bool false),.c (.bool false),.c (.bool true)]⟩,
 ⟨37,.ite .i,[.e 29,.c (.int 0),.e 31]⟩,
 ⟨38,.ite .i,[.e 29,.c (.int 0),.e 32]⟩,
 ⟨39,.ite .i,[.e 29,.c (.int 0),.e 33]⟩,
 ⟨40,.ite .b,[.e 29,.c (.bool false),.e 34]⟩,
 ⟨41,.ite .b,[.e 29,.c (.bool false),.e 35]⟩]
def ub:List En:=[⟨42,.ite .b,[.e 29,.c (.bool false),.e 36]⟩,
 ⟨43,.ite .i,[.e 29,.c (.int 3),.c (.int 0)]⟩,
 ⟨44,.or,[.e 29,.e 30]⟩,
 ⟨45,.ne,[.e 43,.c (.int 0)]⟩,
 ⟨46,.not,[.e 45]⟩,
 ⟨47,.outB "gposs.0" JU,rN⟩,
 ⟨48,.or,[.e 45,.n 47]⟩,
 ⟨49,.not,[.e 48]⟩,
 ⟨50,.outB "glegal.0" IY,rN⟩,
 ⟨51,.or,[.e 48,.n 50]⟩,
 ⟨52,.not,[.e 51]⟩,
 ⟨53,.ite .i,[.e 51,.c (.int 2),.c (.int 0)]⟩,
 ⟨54,.not,[.e 51]⟩,
 ⟨55,.or,[.e 51,.e 52]⟩,
 ⟨56,.ne,[.e 53,.c (.int 0)]⟩,
 ⟨57,.not,[.e 56]⟩]
def ud:List En:=[⟨58,.eq,[.e 1,.c (.int 1)]⟩,
 ⟨59,.and,[.e 57,.n 58]⟩,
 ⟨60,.eq,[.e 1,.c (.int 3)]⟩,
 ⟨61,.or,[.e 58,.e 60]⟩,
 ⟨62,.and,[.e 57,.e 61]⟩,
 ⟨63,.and,[.e 62,.e 9]⟩,
 ⟨64,.and,[.e 9,.n 13]⟩,
 ⟨65,.and,[.e 62,.e 64]⟩,
 ⟨66,.ne,[.c (.int 0),.e 3]⟩,
 ⟨67,.and,[.e 64,.e 66]⟩,
 ⟨68,.and,[.e 62,.e 67]⟩,
 ⟨69,.row 1 1 [.i],[.c (.int 0)]⟩,
 ⟨70,.app,[.c (.list []),.e 69]⟩,
 ⟨71,.and,[.e 62,.n 67]⟩,
 ⟨72,.ite .l,[.e 67,.e 69,.c (.list [])]⟩,
 ⟨73,.ite .l,[.e 67,.e 70,.c (.list [])]⟩]
def uM:List En:=[⟨74,.and,[.e 62,.e 10]⟩,
 ⟨75,.and,[.e 10,.n 14]⟩,
 ⟨76,.and,[.e 62,.e 75]⟩,
 ⟨77,.ne,[.c (.int 1),.e 3]⟩,
 ⟨78,.and,[.e 75,.e 77]⟩,
 ⟨79,.and,[.e 62,.e 78]⟩,
 ⟨80,.row 1 1 [.i],[.c (.int 1)]⟩,
 ⟨81,.app,[.e 73,.e 80]⟩,
 ⟨82,.and,[.e 62,.n 78]⟩,
 ⟨83,.ite .l,[.e 78,.e 81,.e 73]⟩,
 ⟨84,.ite .l,[.e 78,.e 80,.c (.list [])]⟩,
 ⟨85,.and,[.e 62,.e 11]⟩,
 ⟨86,.and,[.e 11,.n 15]⟩,
 ⟨87,.and,[.e 62,.e 86]⟩,
 ⟨88,.ne,[.c (.int 2),.e 3]⟩,
 ⟨89,.and,[.e 86,.e 88]⟩]
def ue:List En:=[⟨90,.and,[.e 62,.e 89]⟩,
 ⟨91,.row 1 1 [.i],[.c (.int 2)]⟩,
 ⟨92,.app,[.e 83,.e 91]⟩,
 ⟨93,.and,[.e 62,.n 89]⟩,
 ⟨94,.ite .l,[.e 89,.e 92,.e 83]⟩,
 ⟨95,.ite .l,[.e 89,.e 91,.c (.list [])]⟩,
 ⟨96,.and,[.e 62,.e 12]⟩,
 ⟨97,.and,[.e 12,.n 16]⟩,
 ⟨98,.and,[.e 62,.e 97]⟩,
 ⟨99,.ne,[.c (.int 3),.e 3]⟩,
 ⟨100,.and,[.e 97,.e 99]⟩,
 ⟨101,.and,[.e 62,.e 100]⟩,
 ⟨102,.row 1 1 [.i],[.c (.int 3)]⟩,
 ⟨103,.app,[.e 94,.e 102]⟩,
 ⟨104,.and,[.e 62,.n 100]⟩,
 ⟨105,.ite .l,[.e 100,.e 103,.e 94]⟩]
def uQ:List En:=[⟨106,.ite .l,[.e 100,.e 102,.c (.list [])]⟩,
 ⟨107,.and,[.e 57,.n 61]⟩,
 ⟨108,.ite .l,[.e 61,.e 72,.c (.list [])]⟩,
 ⟨109,.ite .l,[.e 61,.e 105,.c (.list [])]⟩,
 ⟨110,.ite .l,[.e 61,.e 84,.c (.list [])]⟩,
 ⟨111,.ite .l,[.e 61,.e 95,.c (.list [])]⟩,
 ⟨112,.ite .l,[.e 61,.e 106,.c (.list [])]⟩,
 ⟨113,.ite .l,[.e 56,.c (.list []),.e 108]⟩,
 ⟨114,.ite .l,[.e 56,.c (.list []),.e 109]⟩,
 ⟨115,.ite .l,[.e 56,.c (.list []),.e 110]⟩,
 ⟨116,.ite .l,[.e 56,.c (.list []),.e 111]⟩,
 ⟨117,.ite .l,[.e 56,.c (.list []),.e 112]⟩,
 ⟨118,.ite .i,[.e 56,.e 53,.c (.int 0)]⟩,
 ⟨119,.or,[.e 56,.e 57]⟩]
def tV:List En:=uf++(ub++(ud++(uM++(ue++(uQ)))))
def vn:List ObE:=[⟨some 101,.fits 8,[.e 94,.e 102]⟩,
 ⟨some 98,.t,[.e 54]⟩,
 ⟨some 96,.t,[.e 54]⟩,
 ⟨some 90,.fits 8,[.e 83,.e 91]⟩,
 ⟨some 87,.t,[.e 54]⟩,
 ⟨some 85,.t,[.e 54]⟩,
 ⟨some 79,.fits 8,[.e 73,.e 80]⟩,
 ⟨some 76,.t,[.e 54]⟩,
 ⟨some 74,.t,[.e 54]⟩,
 ⟨some 68,.fits 8,[.c (.list []),.e 69]⟩,
 ⟨some 65,.t,[.e 54]⟩,
 ⟨some 63,.t,[.e 54]⟩,
 ⟨some 62,.t,[.e 54]⟩,
 ⟨some 59,.t,[.e 54]⟩,
 ⟨some 57,.t,[.e 54]⟩,
 ⟨some 49,.pre "glegal.p0" HE,rN⟩,
 ⟨some 49,.pre "glegal.p1" DP,rN⟩,
 ⟨some 46,.pre "gposs.p0" IG,rN⟩,
 ⟨some 30,.inr,[.e 0,.c (.int 4)]⟩]
def ug:List Rf:=[.e 114,.e 118]
theorem ve:sz.sees ug (sz.run Try.prog [(45,II),(46,EX)] Ba 3000 20 31)=some ((tV).map En.be,vn.map ObE.be,[]):=by kernel_rfl
theorem vp {T:Tab}(g:Gm)(hg:g=gT T 0)(g1:Gm)(z1:g1=gT T 0)(A0:AK T tV):
  ((L T 114)=((if AR g=true then ra g else [])))∧
  ((I T 118)=((if AR g=true then 0 else 2)))∧
  (B T 101=true→(((L T 94)).length+((L T 102)).length)*8≤140737488355328)∧
  (B T 98=true→B T 54=true)∧
  (B T 96=true→B T 54=true)∧
  (B T 90=true→(((L T 83)).length+((L T 91)).length)*8≤140737488355328)∧
  (B T 87=true→B T 54=true)∧
  (B T 85=true→B T 54=true)∧
  (B T 79=true→(((L T 73)).length+((L T 80)).length)*8≤140737488355328)∧
  (B T 76=true→B T 54=true)∧
  (B T 74=true→B T 54=true)∧
  (B T 68=true→((([]:List (List U))).length+((L T 69)).length)*8≤140737488355328)∧
  (B T 65=true→B T 54=true)∧
  (B T 63=true→B T 54=true)∧
  (B T 62=true→B T 54=true)∧
  (B T 59=true→B T 54=true)∧
  (B T 57=true→B T 54=true)∧
  (B T 49=true→0≤I T 0∧I T 0≤3∧I T 37=AX (I T 0)∧I T 38=Ac (I T 0)∧I T 39=Ab (I T 0)∧B T 40=Aw (I T 0)∧B T 41=Ao (I T 0)∧B T 42=BI (I T 0))∧
  (B T 49=true→BU g1=true)∧
  (B T 46=true→0≤I T 0∧I T 0≤3∧I T 37=AX (I T 0)∧I T 38=Ac (I T 0)∧I T 39=Ab (I T 0)∧B T 40=Aw (I T 0)∧B T 41=Ao (I T 0)∧B T 42=BI (I T 0))∧
  (B T 30=true→0≤I T 0∧I T 0 < 4):=by
 obtain⟨F0,A0⟩:=A0.cut
 obtain⟨F1,A0⟩:=A0.cut
 obtain⟨F2,A0⟩:=A0.cut
 obtain⟨F3,A0⟩:=A0.cut
 obtain⟨F4,A0⟩:=A0.cut
 have F5:=A0;clear A0
 have n69:(L T 69).length≤1:=by
  obtain⟨-,-,-,-,-,-,-,-,-,-,-,e69,-⟩:=F2
  simp only[AA,zR,zL,uR,Aj,zW] at e69
  rw[e69];exact Nat.le_refl _
 have n70:(L T 70).length≤1:=by
  obtain⟨-,-,-,-,-,-,-,-,-,-,-,-,e70,-⟩:=F2
  simp only[AA,zR,zL] at e70
  exact Mc e70 (Nat.le_refl 0) n69 (by decide)
 have n73:(L T 73).length≤1:=by
  obtain⟨-,-,-,-,-,-,-,-,-,-,-,-,-,-,-,e73,-⟩:=F2
  simp only[AA,AD,zR,zL] at e73
  exact Of e73 n70 (Nat.zero_le _)
 have n80:(L T 80).length≤1:=by
  obtain⟨-,-,-,-,-,-,e80,-⟩:=F3
  simp only[AA,zR,zL,uR,Aj,zW] at e80
  rw[e80];exact Nat.le_refl _
 have n81:(L T 81).length≤2:=by
  obtain⟨-,-,-,-,-,-,-,e81,-⟩:=F3
  simp only[AA,zR,zL] at e81
  exact Mc e81 n73 n80 (by decide)
 have n83:(L T 83).length≤2:=by
  obtain⟨-,-,-,-,-,-,-,-,-,e83,-⟩:=F3
  simp only[AA,AD,zR,zL] at e83
  exact Of e83 n81 (Nat.le_trans n73 (by decide))
 have n91:(L T 91).length≤1:=by
  obtain⟨-,e91,-⟩:=F4
  simp only[AA,zR,zL,uR,Aj,zW] at e91
  rw[e91];exact Nat.le_refl _
 have n92:(L T 92).length≤3:=by
  obtain⟨-,-,e92,-⟩:=F4
  simp only[AA,zR,zL] at e92
  exact Mc e92 n83 n91 (by decide)
 have n94:(L T 94).length≤3:=by
  obtain⟨-,-,-,-,e94,-⟩:=F4
  simp only[AA,AD,zR,zL] at e94
  exact Of e94 n92 (Nat.le_trans n83 (by decide))
 have n102:(L T 102).length≤1:=by
  obtain⟨-,-,-,-,-,-,-,-,-,-,-,-,e102,-⟩:=F4
  simp only[AA,zR,zL,uR,Aj,zW] at e102
  rw[e102];exact Nat.le_refl _
 have hgA:g1=g:=by rw[z1,hg]
 have hcode:g.code=I T 0:=by rw[hg]
 have h46:(B T 46)=true↔(0≤I T 0∧I T 0≤3):=by
  obtain⟨e26,-,e28,e29,-⟩:=F0
  obtain⟨-,e43,-,e45,e46,-⟩:=F1
  simp only[AA,AD,zR,zL] at*
  clear hg
  grind
 have hcd:(B T 46)=true→0≤I T 0∧I T 0≤3∧I T 37=AX (I T 0)∧I T 38=Ac (I T 0)∧I T 39=Ab (I T 0)∧B T 40=Aw (I T 0)∧B T 41=Ao (I T 0)∧B T 42=BI (I T 0):=by
  obtain⟨e26,-,e28,e29,-,e31,e32,e33,e34,e35,e36,e37,e38,e39,e40,e41,-⟩:=F0
  obtain⟨e42,e43,-,e45,e46,-⟩:=F1
  simp only[AA,AD,zC,zR,AN,AM,and_false,or_false,zL] at*
  clear hg
  intro h
  have h0:=h46.1 h
  refine⟨h0.1,h0.2,?_,?_,?_,?_,?_,?_⟩<;>first|(unfold AX;grind)|(unfold Ac;grind)|(unfold Ab;grind)|(refine AU ?_;unfold Aw;simp only[Bool.not_eq_true',decide_eq_false_iff_not];grind)|(refine AU ?_;unfold Ao;simp only[Bool.and_eq_true,Bool.not_eq_true',decide_eq_false_iff_not];grind)|(refine AU ?_;unfold BI;simp only[decide_eq_true_eq];grind)
 have h47:(B T 47)=BU g:=by
  obtain⟨-,-,-,-,-,e47,-⟩:=F1
  replace e47:B T 47=(BU g1):=by rw[←show gAt 0 (rN.map (Rf.eval T))=g1 from z1.symm];exact e47
  rw[e47,hgA]
 have h50:(B T 50)=(DR g&&CI g&&((Ag g&&Ct g)||(!Ag g&&Cm g))):=by
  obtain⟨-,-,-,-,-,-,-,-,e50,-⟩:=F1
  replace e50:B T 50=(DR g1&&CI g1&&((Ag g1&&Ct g1)||(!Ag g1&&Cm g1))):=by rw[←show gAt 0 (rN.map (Rf.eval T))=g1 from z1.symm];exact e50
  rw[e50,hgA]
 have hleg:(B T 54)=true↔AR g=true:=by
  obtain⟨-,-,-,e45,e46,-,e48,-,-,e51,-,-,e54,-⟩:=F1
  simp only[AA,AD,zN,zR] at*
  have e:AR g=(BU g&&(DR g&&CI g&&((Ag g&&Ct g)||(!Ag g&&Cm g)))):=by unfold AR;simp only[Bool.and_assoc]
  rw[e,←h47,←h50,Bool.and_eq_true]
  have hn:(B T 47)=true→B T 46=true:=by intro h;rw[h47] at h;have:=DB h;rw[hcode] at this;exact h46.2 ⟨this.1,this.2.1⟩
  clear hcd h46 hg e h47 h50
  grind
 have h56:(B T 56)=true↔¬AR g=true:=by
  obtain⟨-,-,-,-,-,-,-,-,-,e51,-,e53,e54,-,e56,-⟩:=F1
  simp only[AA,AD,zN,zR,zL] at*
  clear hg h46 hcd h47 h50
  grind
 have hpt:(B T 54)=true→(0≤I T 5∧I T 5≤13)∧(0≤I T 6∧I T 6≤13)∧(0≤I T 7∧I T 7≤13)∧(0≤I T 8∧I T 8≤13):=by
  obtain⟨-,-,-,-,-,-,-,-,-,-,-,-,e54,-⟩:=F1
  simp only[AA,AD,zR] at e54
  intro h
  have p:=Jl (hleg.1 h)
  rw[hg] at p;exact p
 have h37:(B T 54)=true→I T 37=AX (I T 0):=by
  obtain⟨-,-,-,e45,e46,-,e48,-,-,e51,-,-,e54,-⟩:=F1
  simp only[AA,AD,zN,zR] at*
  intro h
  exact (hcd (by clear hcd h56 hpt hg h46;grind)).2.2.1
 have hph:g.phase=I T 1:=by rw[hg]
 have c73:(L T 73)=rO g 0:=by
  obtain⟨-,-,-,-,-,-,e64,-,e66,e67,-,e69,e70,-,-,e73,-⟩:=F2
  simp only[AA,AD,zN,zR,zL,uR,Aj,zW] at*
  subst hg
  (try simp only[rO,inS,Dk,AY,zB])<;>grind (splits:=100)
 have c83:(L T 83)=L T 73++rO g 1:=by
  clear c73
  obtain⟨-,e75,-,e77,e78,-,e80,e81,-,e83,-⟩:=F3
  simp only[AA,AD,zN,zR,zL,uR,Aj,zW] at*
  subst hg
  (try simp only[rO,inS,Dk,AY,zB])<;>grind (splits:=100)
 have c94:(L T 94)=L T 83++rO g 2:=by
  clear c73 c83
  obtain⟨-,-,-,-,-,-,-,-,-,-,-,-,e86,-,e88,e89,-⟩:=F3
  obtain⟨-,e91,e92,-,e94,-⟩:=F4
  simp only[AA,AD,zN,zR,zL,uR,Aj,zW] at*
  subst hg
  (try simp only[rO,inS,Dk,AY,zB])<;>grind (splits:=100)
 have c105:(L T 105)=L T 94++rO g 3:=by
  clear c73 c83 c94
  obtain⟨-,-,-,-,-,-,-,e97,-,e99,e100,-,e102,e103,-,e105,-⟩:=F4
  simp only[AA,AD,zN,zR,zL,uR,Aj,zW] at*
  subst hg
  (try simp only[rO,inS,Dk,AY,zB])<;>grind (splits:=100)
 refine⟨?_,?_,?_,?_,?_,?_,?_,?_,?_,?_,?_,?_,?_,?_,?_,?_,?_,?_,?_,?_,?_⟩
 ·obtain⟨-,-,-,-,-,-,-,-,-,-,-,e53,e54,-,e56,-⟩:=F1
  obtain⟨e58,-,e60,e61,-⟩:=F2
  obtain⟨-,-,-,e109,-,-,-,-,e114,-⟩:=F5
  simp only[AA,AD,zR,zL] at*
  clear hcd h46 h47 h50 hg hpt h37
  cases hx:AR g with
  |false=>rw[if_neg (by decide)];grind
  |true=>
   rw[if_pos rfl]
   unfold ra
   rw[hph]
   have h54:=hleg.2 hx
   grind (splits:=40)
 ·obtain⟨-,-,-,-,-,-,-,-,-,-,-,e53,e54,-,e56,-⟩:=F1
  obtain⟨-,-,-,-,-,-,-,-,-,-,-,-,e118,-⟩:=F5
  simp only[AA,AD,zR,zL] at*
  clear hcd h46 h47 h50 hg hpt h37 hph c73 c83 c94 c105
  cases hx:AR g with
  |false=>rw[if_neg (by decide)];grind
  |true=>rw[if_pos rfl];grind
 ·clear c105
  obtain⟨e26,-,e28,e29,-,e31,e32,e33,e34,e35,e36,e37,e38,e39,e40,e41,-⟩:=F0
  obtain⟨e42,e43,-,e45,-,e47,e48,-,e50,e51,-,e53,-,-,e56,e57,-⟩:=F1
  obtain⟨e58,-,e60,e61,e62,-⟩:=F2
  obtain⟨-,-,-,-,-,-,-,e97,-,e99,e100,e101,e102,-⟩:=F4
  replace e47:B T 47=(BU g1):=by rw[←show gAt 0 (rN.map (Rf.eval T))=g1 from z1.symm];exact e47
  replace e50:B T 50=(DR g1&&CI g1&&((Ag g1&&Ct g1)||(!Ag g1&&Cm g1))):=by rw[←show gAt 0 (rN.map (Rf.eval T))=g1 from z1.symm];exact e50
  simp only[AA,AD,zN,zC,zR,AN,AM,and_false,or_false,zL,uR,Aj,zW] at*
  intro _
  (try simp only[List.length_nil])
  omega
 ·clear c73 c83 c94 c105
  obtain⟨-,-,-,-,-,-,-,-,-,-,-,e53,e54,-,e56,e57,-⟩:=F1
  obtain⟨e58,-,e60,e61,e62,-⟩:=F2
  obtain⟨-,-,-,-,-,-,-,e97,e98,-⟩:=F4
  simp only[AA,AD,zN,zR,zL] at*
  grind (splits:=100)
 ·clear c73 c83 c94 c105
  obtain⟨-,-,-,-,-,-,-,-,-,-,-,e53,e54,-,e56,e57,-⟩:=F1
  obtain⟨e58,-,e60,e61,e62,-⟩:=F2
  obtain⟨-,-,-,-,-,-,e96,-⟩:=F4
  simp only[AA,AD,zR,zL] at*
  grind (splits:=100)
 ·clear c94 c105
  obtain⟨e26,-,e28,e29,-,e31,e32,e33,e34,e35,e36,e37,e38,e39,e40,e41,-⟩:=F0
  obtain⟨e42,e43,-,e45,-,e47,e48,-,e50,e51,-,e53,-,-,e56,e57,-⟩:=F1
  obtain⟨e58,-,e60,e61,e62,-⟩:=F2
  obtain⟨-,-,-,-,-,-,-,-,-,-,-,-,e86,-,e88,e89,-⟩:=F3
  obtain⟨e90,e91,-⟩:=F4
  replace e47:B T 47=(BU g1):=by rw[←show gAt 0 (rN.map (Rf.eval T))=g1 from z1.symm];exact e47
  replace e50:B T 50=(DR g1&&CI g1&&((Ag g1&&Ct g1)||(!Ag g1&&Cm g1))):=by rw[←show gAt 0 (rN.map (Rf.eval T))=g1 from z1.symm];exact e50
  simp only[AA,AD,zN,zC,zR,AN,AM,and_false,or_false,zL,uR,Aj,zW] at*
  intro _
  (try simp only[List.length_nil])
  omega
 ·clear c73 c83 c94 c105
  obtain⟨-,-,-,-,-,-,-,-,-,-,-,e53,e54,-,e56,e57,-⟩:=F1
  obtain⟨e58,-,e60,e61,e62,-⟩:=F2
  obtain⟨-,-,-,-,-,-,-,-,-,-,-,-,e86,e87,-⟩:=F3
  simp only[AA,AD,zN,zR,zL] at*
  grind (splits:=100)
 ·clear c73 c83 c94 c105
  obtain⟨-,-,-,-,-,-,-,-,-,-,-,e53,e54,-,e56,e57,-⟩:=F1
  obtain⟨e58,-,e60,e61,e62,-⟩:=F2
  obtain⟨-,-,-,-,-,-,-,-,-,-,-,e85,-⟩:=F3
  simp only[AA,AD,zR,zL] at*
  grind (splits:=100)
 ·clear c83 c94 c105
  obtain⟨e26,-,e28,e29,-,e31,e32,e33,e34,e35,e36,e37,e38,e39,e40,e41,-⟩:=F0
  obtain⟨e42,e43,-,e45,-,e47,e48,-,e50,e51,-,e53,-,-,e56,e57,-⟩:=F1
  obtain⟨e58,-,e60,e61,e62,-⟩:=F2
  obtain⟨-,e75,-,e77,e78,e79,e80,-⟩:=F3
  replace e47:B T 47=(BU g1):=by rw[←show gAt 0 (rN.map (Rf.eval T))=g1 from z1.symm];exact e47
  replace e50:B T 50=(DR g1&&CI g1&&((Ag g1&&Ct g1)||(!Ag g1&&Cm g1))):=by rw[←show gAt 0 (rN.map (Rf.eval T))=g1 from z1.symm];exact e50
  simp only[AA,AD,zN,zC,zR,AN,AM,and_false,or_false,zL,uR,Aj,zW] at*
  intro _
  (try simp only[List.length_nil])
  omega
 ·clear c73 c83 c94 c105
  obtain⟨-,-,-,-,-,-,-,-,-,-,-,e53,e54,-,e56,e57,-⟩:=F1
  obtain⟨e58,-,e60,e61,e62,-⟩:=F2
  obtain⟨-,e75,e76,-⟩:=F3
  simp only[AA,AD,zN,zR,zL] at*
  grind (splits:=100)
 ·clear c73 c83 c94 c105
  obtain⟨-,-,-,-,-,-,-,-,-,-,-,e53,e54,-,e56,e57,-⟩:=F1
  obtain⟨e58,-,e60,e61,e62,-⟩:=F2
  obtain⟨e74,-⟩:=F3
  simp only[AA,AD,zR,zL] at*
  grind (splits:=100)
 ·clear c73 c83 c94 c105
  obtain⟨e26,-,e28,e29,-,e31,e32,e33,e34,e35,e36,e37,e38,e39,e40,e41,-⟩:=F0
  obtain⟨e42,e43,-,e45,-,e47,e48,-,e50,e51,-,e53,-,-,e56,e57,-⟩:=F1
  obtain⟨e58,-,e60,e61,e62,-,e64,-,e66,e67,e68,e69,-⟩:=F2
  replace e47:B T 47=(BU g1):=by rw[←show gAt 0 (rN.map (Rf.eval T))=g1 from z1.symm];exact e47
  replace e50:B T 50=(DR g1&&CI g1&&((Ag g1&&Ct g1)||(!Ag g1&&Cm g1))):=by rw[←show gAt 0 (rN.map (Rf.eval T))=g1 from z1.symm];exact e50
  simp only[AA,AD,zN,zC,zR,AN,AM,and_false,or_false,zL,uR,Aj,zW] at*
  intro _
  (try simp only[List.length_nil])
  omega
 ·clear c73 c83 c94 c105
  obtain⟨-,-,-,-,-,-,-,-,-,-,-,e53,e54,-,e56,e57,-⟩:=F1
  obtain⟨e58,-,e60,e61,e62,-,e64,e65,-⟩:=F2
  simp only[AA,AD,zN,zR,zL] at*
  grind (splits:=100)
 ·clear c73 c83 c94 c105
  obtain⟨-,-,-,-,-,-,-,-,-,-,-,e53,e54,-,e56,e57,-⟩:=F1
  obtain⟨e58,-,e60,e61,e62,e63,-⟩:=F2
  simp only[AA,AD,zR,zL] at*
  grind (splits:=100)
 ·clear c73 c83 c94 c105
  obtain⟨-,-,-,-,-,-,-,-,-,-,-,e53,e54,-,e56,e57,-⟩:=F1
  obtain⟨e58,-,e60,e61,e62,-⟩:=F2
  simp only[AA,AD,zR,zL] at*
  grind (splits:=100)
 ·clear c73 c83 c94 c105
  obtain⟨-,-,-,-,-,-,-,-,-,-,-,e53,e54,-,e56,e57,-⟩:=F1
  obtain⟨e58,e59,-⟩:=F2
  simp only[AA,AD,zN,zR,zL] at*
  grind (splits:=100)
 ·clear c73 c83 c94 c105
  obtain⟨-,-,-,-,-,-,-,-,-,-,-,e53,e54,-,e56,e57,-⟩:=F1
  simp only[AA,AD,zR,zL] at*
  grind (splits:=100)
 ·obtain⟨-,-,-,e45,e46,-,e48,e49,-⟩:=F1
  simp only[AA,AD,zN,zR] at*
  intro h
  exact hcd (by clear hcd h56 hpt hg hleg;grind)
 ·obtain⟨-,-,-,-,-,-,e48,e49,-⟩:=F1
  simp only[AA,AD,zN,zR] at e48 e49
  intro h
  rw[hgA,←h47]
  clear hcd h50 hg
  grind
 ·obtain⟨-,-,-,-,e46,-⟩:=F1
  simp only[AA,AD,zR] at e46
  exact hcd
 ·obtain⟨e26,-,e28,e29,e30,-⟩:=F0
  simp only[AA,AD,zR] at*
  clear hcd h50 hg h47
  grind
theorem vK:CA Try.prog 31 sz:=by
 refine Bu (l:=[(45,II),(46,EX)]) C6 (by simp only[List.forall_mem_cons];exact⟨Wj,TJ,fun _ h=>absurd h (by simp)⟩) ve (by kernel_rfl) fun T us hpre hT hul hS hBd hE=>?_
 change us.length=26 at hul
 clear hBd
 obtain⟨g,hg⟩:∃g:Gm,g=gT T 0:=⟨_,rfl⟩
 have hgu:gAt 0 us=g:=by rw[hg];exact DV hT hul (by decide)
 clear hpre
 skip
 obtain⟨A0,hO⟩:=CK (tys:=[.l,.i]) (rs:=ug) hS (by kernel_rfl) hE
 obtain⟨g1,z1⟩:∃g:Gm,g=gT T 0:=⟨_,rfl⟩
 obtain⟨q0,q1,r0,r1,r2,r3,r4,r5,r6,r7,r8,r9,r10,r11,r12,r13,r14,r15,r16,r17,r18⟩:=vp g hg g1 z1 A0
 refine⟨⟨r0,r1,r2,r3,r4,r5,r6,r7,r8,r9,r10,r11,r12,r13,r14,r15,(fun hp=>by show DP _;unfold DP;rw[show gAt 0 (rN.map (Rf.eval T))=g1 from z1.symm];exact r16 hp),r17,r18,trivial⟩,hO.trans ?_⟩
 exact (lc (by show U.list (L T 114)= .list (sV us);unfold sV;rw[hgu];exact congrArg U.list q0) (lc (by show U.int (I T 118)= .int (sc us);unfold sc;rw[hgu];exact congrArg U.int q1) rfl))
end Go.Eng
end
