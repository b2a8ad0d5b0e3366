/-
  A part of the proof: K_rLived K_rLive.
-/
import Derived.Test.YtcinpabggaepfaaXQlRules
import Derived.Test.YtcinpabggaepfaaE3
import Derived.Test.YtcinpabggaepfaaE4
import Derived.Test.YtcinpabggaepfaaKrlegal
set_option linter.unusedVariables false
set_option linter.unusedSimpArgs false
noncomputable section
open Go Go.Eng Go.Proofs
set_option maxHeartbeats 4000000
set_option maxRecDepth 100000
namespace Go.Eng
def sM:List U→List (List U):=fun us=>((if AR (gAt 0 us)=true then ra (gAt 0 us) else []))
def sP:List U→Int:=fun us=>((if AR (gAt 0 us)=true then 0 else 2))
def s8:Bc:={ sh:=[.agg [k64,k64,k64,k64,k64,k64,k64,k64,k64,.bool,.bool,.bool,.bool,.bool,.bool,.bool,.bool,k64,k64,.bool,.bool,.bool,k64,k64,k64,k64]],blks:=[],outs:=[(.s "rLive.0",jD sM),(.s "rLive.1",AI sP)],c:= .tup [.ro 26 [k64],(AG 27)],m':=[],pre:=[] }
def rV:List Rf:=[.e 0,.e 1,.e 2,.e 3,.e 4,.e 5,.e 6,.e 7,.e 8,.e 9,.e 10,.e 11,.e 12,.e 13,.e 14,.e 15,.e 16,.e 17,.e 18,.e 19,.e 20,.e 21,.e 22,.e 23,.e 24,.e 25]
def uS:List En:=[⟨26,.outB "rlegal.0" Ik,rV⟩,
 ⟨27,.not,[.e 26]⟩,
 ⟨28,.eq,[.e 1,.c (.int 1)]⟩,
 ⟨29,.and,[.e 26,.n 28]⟩,
 ⟨30,.eq,[.e 1,.c (.int 3)]⟩,
 ⟨31,.or,[.e 28,.e 30]⟩,
 ⟨32,.and,[.e 26,.e 31]⟩,
 ⟨33,.and,[.e 26,.n 31]⟩,
 ⟨34,.and,[.e 32,.e 9]⟩,
 ⟨35,.and,[.e 9,.n 13]⟩,
 ⟨36,.and,[.e 32,.e 35]⟩,
 ⟨37,.ne,[.c (.int 0),.e 3]⟩,
 ⟨38,.and,[.e 35,.e 37]⟩,
 ⟨39,.and,[.e 32,.e 38]⟩,
 ⟨40,.row 1 1 [.i],[.c (.int 0)]⟩,
 ⟨41,.app,[.c (.list []),.e 40]⟩]
def uZ:List En:=[⟨42,.and,[.e 32,.n 38]⟩,
 ⟨43,.ite .l,[.e 38,.e 40,.c (.list [])]⟩,
 ⟨44,.ite .l,[.e 38,.e 41,.c (.list [])]⟩,
 ⟨45,.eq,[.e 1,.c (.int 1)]⟩,
 ⟨46,.and,[.e 32,.n 45]⟩,
 ⟨47,.eq,[.e 1,.c (.int 3)]⟩,
 ⟨48,.or,[.e 45,.e 47]⟩,
 ⟨49,.and,[.e 32,.e 48]⟩,
 ⟨50,.and,[.e 32,.n 48]⟩,
 ⟨51,.and,[.e 49,.e 10]⟩,
 ⟨52,.and,[.e 10,.n 14]⟩,
 ⟨53,.and,[.e 49,.e 52]⟩,
 ⟨54,.ne,[.c (.int 1),.e 3]⟩,
 ⟨55,.and,[.e 52,.e 54]⟩,
 ⟨56,.and,[.e 49,.e 55]⟩,
 ⟨57,.row 1 1 [.i],[.c (.int 1)]⟩]
def uU:List En:=[⟨58,.app,[.e 44,.e 57]⟩,
 ⟨59,.and,[.e 49,.n 55]⟩,
 ⟨60,.ite .l,[.e 55,.e 58,.e 44]⟩,
 ⟨61,.ite .l,[.e 55,.e 57,.c (.list [])]⟩,
 ⟨62,.eq,[.e 1,.c (.int 1)]⟩,
 ⟨63,.and,[.e 49,.n 62]⟩,
 ⟨64,.eq,[.e 1,.c (.int 3)]⟩,
 ⟨65,.or,[.e 62,.e 64]⟩,
 ⟨66,.and,[.e 49,.e 65]⟩,
 ⟨67,.and,[.e 49,.n 65]⟩,
 ⟨68,.and,[.e 66,.e 11]⟩,
 ⟨69,.and,[.e 11,.n 15]⟩,
 ⟨70,.and,[.e 66,.e 69]⟩,
 ⟨71,.ne,[.c (.int 2),.e 3]⟩,
 ⟨72,.and,[.e 69,.e 71]⟩,
 ⟨73,.and,[.e 66,.e 72]⟩]
def uX:List En:=[⟨74,.row 1 1 [.i],[.c (.int 2)]⟩,
 ⟨75,.app,[.e 60,.e 74]⟩,
 ⟨76,.and,[.e 66,.n 72]⟩,
 ⟨77,.ite .l,[.e 72,.e 75,.e 60]⟩,
 ⟨78,.ite .l,[.e 72,.e 74,.c (.list [])]⟩,
 ⟨79,.eq,[.e 1,.c (.int 1)]⟩,
 ⟨80,.and,[.e 66,.n 79]⟩,
 ⟨81,.eq,[.e 1,.c (.int 3)]⟩,
 ⟨82,.or,[.e 79,.e 81]⟩,
 ⟨83,.and,[.e 66,.e 82]⟩,
 ⟨84,.and,[.e 66,.n 82]⟩,
 ⟨85,.and,[.e 83,.e 12]⟩,
 ⟨86,.and,[.e 12,.n 16]⟩,
 ⟨87,.and,[.e 83,.e 86]⟩,
 ⟨88,.ne,[.c (.int 3),.e 3]⟩,
 ⟨89,.and,[.e 86,.e 88]⟩]
def uK:List En:=[⟨90,.and,[.e 83,.e 89]⟩,
 ⟨91,.row 1 1 [.i],[.c (.int 3)]⟩,
 ⟨92,.app,[.e 77,.e 91]⟩,
 ⟨93,.and,[.e 83,.n 89]⟩,
 ⟨94,.ite .l,[.e 89,.e 92,.e 77]⟩,
 ⟨95,.ite .l,[.e 89,.e 91,.c (.list [])]⟩,
 ⟨96,.ite .l,[.e 84,.e 77,.e 94]⟩,
 ⟨97,.ite .l,[.e 84,.c (.list []),.e 95]⟩,
 ⟨98,.ite .b,[.e 84,.e 72,.e 89]⟩,
 ⟨99,.ite .i,[.e 84,.c (.int 3),.c (.int 4)]⟩,
 ⟨100,.ite .b,[.e 84,.e 82,.c (.bool false)]⟩,
 ⟨101,.or,[.e 84,.e 83]⟩,
 ⟨102,.ite .l,[.e 67,.e 60,.e 96]⟩,
 ⟨103,.ite .l,[.e 67,.c (.list []),.e 78]⟩,
 ⟨104,.ite .l,[.e 67,.c (.list []),.e 97]⟩,
 ⟨105,.ite .b,[.e 67,.e 55,.e 98]⟩]
def uT:List En:=[⟨106,.ite .i,[.e 67,.c (.int 2),.e 99]⟩,
 ⟨107,.ite .b,[.e 67,.e 65,.e 100]⟩,
 ⟨108,.or,[.e 67,.e 101]⟩,
 ⟨109,.ite .l,[.e 50,.e 44,.e 102]⟩,
 ⟨110,.ite .l,[.e 50,.c (.list []),.e 61]⟩,
 ⟨111,.ite .l,[.e 50,.c (.list []),.e 103]⟩,
 ⟨112,.ite .l,[.e 50,.c (.list []),.e 104]⟩,
 ⟨113,.ite .b,[.e 50,.e 38,.e 105]⟩,
 ⟨114,.ite .i,[.e 50,.c (.int 1),.e 106]⟩,
 ⟨115,.ite .b,[.e 50,.e 48,.e 107]⟩,
 ⟨116,.or,[.e 50,.e 108]⟩,
 ⟨117,.ite .l,[.e 33,.c (.list []),.e 43]⟩,
 ⟨118,.ite .l,[.e 33,.c (.list []),.e 109]⟩,
 ⟨119,.ite .l,[.e 33,.c (.list []),.e 110]⟩,
 ⟨120,.ite .l,[.e 33,.c (.list []),.e 111]⟩,
 ⟨121,.ite .l,[.e 33,.c (.list []),.e 112]⟩]
def ua:List En:=[⟨122,.ite .i,[.e 33,.c (.int 0),.e 114]⟩,
 ⟨123,.ite .b,[.e 33,.e 31,.e 115]⟩,
 ⟨124,.or,[.e 33,.e 116]⟩,
 ⟨125,.ite .l,[.e 27,.c (.list []),.e 117]⟩,
 ⟨126,.ite .l,[.e 27,.c (.list []),.e 118]⟩,
 ⟨127,.ite .l,[.e 27,.c (.list []),.e 119]⟩,
 ⟨128,.ite .l,[.e 27,.c (.list []),.e 120]⟩,
 ⟨129,.ite .l,[.e 27,.c (.list []),.e 121]⟩,
 ⟨130,.ite .i,[.e 27,.c (.int 2),.c (.int 0)]⟩,
 ⟨131,.or,[.e 27,.e 124]⟩]
def tU:List En:=uS++(uZ++(uU++(uX++(uK++(uT++(ua))))))
def vm:List ObE:=[⟨some 90,.fits 8,[.e 77,.e 91]⟩,
 ⟨some 73,.fits 8,[.e 60,.e 74]⟩,
 ⟨some 56,.fits 8,[.e 44,.e 57]⟩,
 ⟨some 39,.fits 8,[.c (.list []),.e 40]⟩]
def uj:List Rf:=[.e 126,.e 130]
theorem vf:s8.sees uj (s8.run Try.prog [(36,Hw)] Ba 3000 20 32)=some ((tU).map En.be,vm.map ObE.be,[]):=by kernel_rfl
theorem vg {T:Tab}(g:Gm)(hg:g=gT T 0)(g1:Gm)(z1:g1=gT T 0)(A0:AK T tU):
  ((L T 126)=((if AR g=true then ra g else [])))∧
  ((I T 130)=((if AR g=true then 0 else 2)))∧
  (B T 90=true→(((L T 77)).length+((L T 91)).length)*8≤140737488355328)∧
  (B T 73=true→(((L T 60)).length+((L T 74)).length)*8≤140737488355328)∧
  (B T 56=true→(((L T 44)).length+((L T 57)).length)*8≤140737488355328)∧
  (B T 39=true→((([]:List (List U))).length+((L T 40)).length)*8≤140737488355328):=by
 obtain⟨F0,A0⟩:=A0.cut
 obtain⟨F1,A0⟩:=A0.cut
 obtain⟨F2,A0⟩:=A0.cut
 obtain⟨F3,A0⟩:=A0.cut
 obtain⟨F4,A0⟩:=A0.cut
 obtain⟨F5,A0⟩:=A0.cut
 have F6:=A0;clear A0
 have n40:(L T 40).length≤1:=by
  obtain⟨-,-,-,-,-,-,-,-,-,-,-,-,-,-,e40,-⟩:=F0
  simp only[AA,zR,zL,uR,Aj,zW] at e40
  rw[e40];exact Nat.le_refl _
 have n41:(L T 41).length≤1:=by
  obtain⟨-,-,-,-,-,-,-,-,-,-,-,-,-,-,-,e41,-⟩:=F0
  simp only[AA,zR,zL] at e41
  exact Mc e41 (Nat.le_refl 0) n40 (by decide)
 have n44:(L T 44).length≤1:=by
  obtain⟨-,-,e44,-⟩:=F1
  simp only[AA,AD,zR,zL] at e44
  exact Of e44 n41 (Nat.zero_le _)
 have n57:(L T 57).length≤1:=by
  obtain⟨-,-,-,-,-,-,-,-,-,-,-,-,-,-,-,e57,-⟩:=F1
  simp only[AA,zR,zL,uR,Aj,zW] at e57
  rw[e57];exact Nat.le_refl _
 have n58:(L T 58).length≤2:=by
  obtain⟨e58,-⟩:=F2
  simp only[AA,zR,zL] at e58
  exact Mc e58 n44 n57 (by decide)
 have n60:(L T 60).length≤2:=by
  obtain⟨-,-,e60,-⟩:=F2
  simp only[AA,AD,zR,zL] at e60
  exact Of e60 n58 (Nat.le_trans n44 (by decide))
 have n74:(L T 74).length≤1:=by
  obtain⟨e74,-⟩:=F3
  simp only[AA,zR,zL,uR,Aj,zW] at e74
  rw[e74];exact Nat.le_refl _
 have n75:(L T 75).length≤3:=by
  obtain⟨-,e75,-⟩:=F3
  simp only[AA,zR,zL] at e75
  exact Mc e75 n60 n74 (by decide)
 have n77:(L T 77).length≤3:=by
  obtain⟨-,-,-,e77,-⟩:=F3
  simp only[AA,AD,zR,zL] at e77
  exact Of e77 n75 (Nat.le_trans n60 (by decide))
 have n91:(L T 91).length≤1:=by
  obtain⟨-,e91,-⟩:=F4
  simp only[AA,zR,zL,uR,Aj,zW] at e91
  rw[e91];exact Nat.le_refl _
 have hgA:g1=g:=by rw[z1,hg]
 have h26:(B T 26)=true↔AR g=true:=by
  obtain⟨e26,-⟩:=F0
  replace e26:B T 26=(AR g1):=by rw[←show gAt 0 (rV.map (Rf.eval T))=g1 from z1.symm];exact e26
  rw[e26,hgA]
 have hph:g.phase=I T 1:=by rw[hg]
 have c44:(L T 44)=rO g 0:=by
  obtain⟨-,-,-,-,-,-,-,-,-,e35,-,e37,e38,-,e40,e41,-⟩:=F0
  obtain⟨-,-,e44,-⟩:=F1
  simp only[AA,AD,zN,zR,zL,uR,Aj,zW] at*
  subst hg
  (try simp only[rO,inS,Dk,AY,zB])<;>grind (splits:=100)
 have c60:(L T 60)=L T 44++rO g 1:=by
  clear c44
  obtain⟨-,-,-,-,-,-,-,-,-,-,e52,-,e54,e55,-,e57,-⟩:=F1
  obtain⟨e58,-,e60,-⟩:=F2
  simp only[AA,AD,zN,zR,zL,uR,Aj,zW] at*
  subst hg
  (try simp only[rO,inS,Dk,AY,zB])<;>grind (splits:=100)
 have c77:(L T 77)=L T 60++rO g 2:=by
  clear c44 c60
  obtain⟨-,-,-,-,-,-,-,-,-,-,-,e69,-,e71,e72,-⟩:=F2
  obtain⟨e74,e75,-,e77,-⟩:=F3
  simp only[AA,AD,zN,zR,zL,uR,Aj,zW] at*
  subst hg
  (try simp only[rO,inS,Dk,AY,zB])<;>grind (splits:=100)
 have c94:(L T 94)=L T 77++rO g 3:=by
  clear c44 c60 c77
  obtain⟨-,-,-,-,-,-,-,-,-,-,-,-,e86,-,e88,e89,-⟩:=F3
  obtain⟨-,e91,e92,-,e94,-⟩:=F4
  simp only[AA,AD,zN,zR,zL,uR,Aj,zW] at*
  subst hg
  (try simp only[rO,inS,Dk,AY,zB])<;>grind (splits:=100)
 refine⟨?_,?_,?_,?_,?_,?_⟩
 ·obtain⟨e26,e27,e28,-,e30,e31,e32,e33,-⟩:=F0
  obtain⟨-,-,-,e45,-,e47,e48,e49,e50,-⟩:=F1
  obtain⟨-,-,-,-,e62,-,e64,e65,e66,e67,-⟩:=F2
  obtain⟨-,-,-,-,-,e79,-,e81,e82,e83,e84,-⟩:=F3
  obtain⟨-,-,-,-,-,-,e96,-,-,-,-,-,e102,-⟩:=F4
  obtain⟨-,-,-,e109,-,-,-,-,-,-,-,-,e118,-⟩:=F5
  obtain⟨-,-,-,-,e126,-⟩:=F6
  replace e26:B T 26=(AR g1):=by rw[←show gAt 0 (rV.map (Rf.eval T))=g1 from z1.symm];exact e26
  simp only[AA,AD,zN,zR,zL] at*
  clear hg hgA e26
  cases hx:AR g with
  |false=>rw[if_neg (by decide)];grind
  |true=>
   rw[if_pos rfl]
   unfold ra
   rw[hph]
   have h54:=h26.2 hx
   grind (splits:=40)
 ·obtain⟨-,e27,-⟩:=F0
  obtain⟨-,-,-,-,-,-,-,-,e130,-⟩:=F6
  simp only[AA,AD,zR,zL] at e27 e130
  clear hg hgA hph c44 c60 c77 c94
  cases hx:AR g with
  |false=>rw[if_neg (by decide)];grind
  |true=>rw[if_pos rfl];grind
 ·clear c94
  obtain⟨e26,-,e28,-,e30,e31,e32,-⟩:=F0
  obtain⟨-,-,-,e45,-,e47,e48,e49,-⟩:=F1
  obtain⟨-,-,-,-,e62,-,e64,e65,e66,-⟩:=F2
  obtain⟨-,-,-,-,-,e79,-,e81,e82,e83,-,-,e86,-,e88,e89,-⟩:=F3
  obtain⟨e90,e91,-⟩:=F4
  replace e26:B T 26=(AR g1):=by rw[←show gAt 0 (rV.map (Rf.eval T))=g1 from z1.symm];exact e26
  simp only[AA,AD,zN,zR,zL,uR,Aj,zW] at*
  intro _
  (try simp only[List.length_nil])
  omega
 ·clear c77 c94
  obtain⟨e26,-,e28,-,e30,e31,e32,-⟩:=F0
  obtain⟨-,-,-,e45,-,e47,e48,e49,-⟩:=F1
  obtain⟨-,-,-,-,e62,-,e64,e65,e66,-,-,e69,-,e71,e72,e73,-⟩:=F2
  obtain⟨e74,-⟩:=F3
  replace e26:B T 26=(AR g1):=by rw[←show gAt 0 (rV.map (Rf.eval T))=g1 from z1.symm];exact e26
  simp only[AA,AD,zN,zR,zL,uR,Aj,zW] at*
  intro _
  (try simp only[List.length_nil])
  omega
 ·clear c60 c77 c94
  obtain⟨e26,-,e28,-,e30,e31,e32,-⟩:=F0
  obtain⟨-,-,-,e45,-,e47,e48,e49,-,-,e52,-,e54,e55,e56,e57,-⟩:=F1
  replace e26:B T 26=(AR g1):=by rw[←show gAt 0 (rV.map (Rf.eval T))=g1 from z1.symm];exact e26
  simp only[AA,AD,zN,zR,zL,uR,Aj,zW] at*
  intro _
  (try simp only[List.length_nil])
  omega
 ·clear c44 c60 c77 c94
  obtain⟨e26,-,e28,-,e30,e31,e32,-,-,e35,-,e37,e38,e39,e40,-⟩:=F0
  replace e26:B T 26=(AR g1):=by rw[←show gAt 0 (rV.map (Rf.eval T))=g1 from z1.symm];exact e26
  simp only[AA,AD,zN,zR,zL,uR,Aj,zW] at*
  intro _
  (try simp only[List.length_nil])
  omega
theorem u9:CA Try.prog 32 s8:=by
 refine Bu (l:=[(36,Hw)]) C6 (by simp only[List.forall_mem_cons];exact⟨Uc,fun _ h=>absurd h (by simp)⟩) vf (by kernel_rfl) fun T us hpre hT hul hS hBd hE=>?_
 change us.length=26 at hul
 clear hBd
 obtain⟨g,hg⟩:∃g:Gm,g=gT T 0:=⟨_,rfl⟩
 have hgu:gAt 0 us=g:=by rw[hg];exact DV hT hul (by decide)
 clear hpre
 skip
 obtain⟨A0,hO⟩:=CK (tys:=[.l,.i]) (rs:=uj) hS (by kernel_rfl) hE
 obtain⟨g1,z1⟩:∃g:Gm,g=gT T 0:=⟨_,rfl⟩
 obtain⟨q0,q1,r0,r1,r2,r3⟩:=vg g hg g1 z1 A0
 refine⟨⟨r0,r1,r2,r3,trivial⟩,hO.trans ?_⟩
 exact (lc (by show U.list (L T 126)= .list (sM us);unfold sM;rw[hgu];exact congrArg U.list q0) (lc (by show U.int (I T 130)= .int (sP us);unfold sP;rw[hgu];exact congrArg U.int q1) rfl))
end Go.Eng
end
