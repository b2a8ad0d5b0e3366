/-
  A part of the proof: K_lAlld K_lAll.
-/
import Derived.Test.YtcinpabggaepfaaE3
import Derived.Test.YtcinpabggaepfaaE4
import Derived.Test.YtcinpabggaepfaaKlong
import Derived.Test.YtcinpabggaepfaaKgAll
import Derived.Test.YtcinpabggaepfaaKrAll
import Derived.Test.YtcinpabggaepfaaKfine
set_option linter.unusedVariables false
set_option linter.unusedSimpArgs false
noncomputable section
open Go Go.Eng Go.Proofs
set_option maxHeartbeats 4000000
set_option maxRecDepth 100000
namespace Go.Eng
def QN:List Kd:=[k64,k64,k64,k64,k64,k64,k64,k64,k64,.bool,.bool,.bool,.bool,.bool,.bool,.bool,.bool,k64,k64,.bool,.bool,.bool,k64,k64,k64,k64,.list [k64,k64,.bool,.list [k64,k64]]]
def bY:List AC:=((JQ Try.prog 9 Try.f7.params.toList 0).map (·.1)).getD []
def Ad:List Rf:=[.e 0,.e 1,.e 2,.e 3,.e 4,.e 5,.e 6,.e 7,.e 8,.e 9,.e 10,.e 11,.e 12,.e 13,.e 14,.e 15,.e 16,.e 17,.e 18,.e 19,.e 20,.e 21,.e 22,.e 23,.e 24,.e 25,.e 26]
def dN:List En:=[⟨27,.outB "long.0" LZ,[.e 26]⟩,
 ⟨28,.outB "fine.0" KH,[]⟩,
 ⟨29,.not,[.e 27]⟩,
 ⟨30,.outI "gAll.0" WX,Ad⟩,
 ⟨31,.outI "gAll.1" Yw,Ad⟩,
 ⟨32,.outI "gAll.2" Y1,Ad⟩,
 ⟨33,.outI "gAll.3" YN,Ad⟩,
 ⟨34,.outI "gAll.4" Xn,Ad⟩,
 ⟨35,.outI "gAll.5" X4,Ad⟩,
 ⟨36,.outI "gAll.6" Xq,Ad⟩,
 ⟨37,.outI "gAll.7" W8,Ad⟩,
 ⟨38,.outI "gAll.8" Xk,Ad⟩,
 ⟨39,.outB "gAll.9" W2,Ad⟩,
 ⟨40,.outB "gAll.10" TC,Ad⟩,
 ⟨41,.outB "gAll.11" UE,Ad⟩,
 ⟨42,.outB "gAll.12" Uv,Ad⟩]
def d6:List En:=[⟨43,.outB "gAll.13" Uk,Ad⟩,
 ⟨44,.outB "gAll.14" Un,Ad⟩,
 ⟨45,.outB "gAll.15" Ug,Ad⟩,
 ⟨46,.outB "gAll.16" Tq,Ad⟩,
 ⟨47,.outI "gAll.17" TA,Ad⟩,
 ⟨48,.outI "gAll.18" Ua,Ad⟩,
 ⟨49,.outB "gAll.19" TP,Ad⟩,
 ⟨50,.outB "gAll.20" Ul,Ad⟩,
 ⟨51,.outB "gAll.21" TD,Ad⟩,
 ⟨52,.outI "gAll.22" UX,Ad⟩,
 ⟨53,.outI "gAll.23" TW,Ad⟩,
 ⟨54,.outI "gAll.24" UQ,Ad⟩,
 ⟨55,.outI "gAll.25" UL,Ad⟩,
 ⟨56,.outI "gAll.26" KO,Ad⟩,
 ⟨57,.outI "gAll.27" Kg,Ad⟩,
 ⟨58,.outI "rAll.0" W7,Ad⟩]
def eA:List En:=[⟨59,.outI "rAll.1" XJ,Ad⟩,
 ⟨60,.outI "rAll.2" WD,Ad⟩,
 ⟨61,.outI "rAll.3" WV,Ad⟩,
 ⟨62,.outI "rAll.4" X3,Ad⟩,
 ⟨63,.outI "rAll.5" Wa,Ad⟩,
 ⟨64,.outI "rAll.6" Wi,Ad⟩,
 ⟨65,.outI "rAll.7" XL,Ad⟩,
 ⟨66,.outI "rAll.8" YQ,Ad⟩,
 ⟨67,.outB "rAll.9" YV,Ad⟩,
 ⟨68,.outB "rAll.10" TZ,Ad⟩,
 ⟨69,.outB "rAll.11" Th,Ad⟩,
 ⟨70,.outB "rAll.12" UT,Ad⟩,
 ⟨71,.outB "rAll.13" UU,Ad⟩,
 ⟨72,.outB "rAll.14" Uu,Ad⟩,
 ⟨73,.outB "rAll.15" U1,Ad⟩,
 ⟨74,.outB "rAll.16" T4,Ad⟩]
def dE:List En:=[⟨75,.outI "rAll.17" UN,Ad⟩,
 ⟨76,.outI "rAll.18" Ux,Ad⟩,
 ⟨77,.outB "rAll.19" Tv,Ad⟩,
 ⟨78,.outB "rAll.20" Tu,Ad⟩,
 ⟨79,.outB "rAll.21" TR,Ad⟩,
 ⟨80,.outI "rAll.22" Ut,Ad⟩,
 ⟨81,.outI "rAll.23" Uy,Ad⟩,
 ⟨82,.outI "rAll.24" UR,Ad⟩,
 ⟨83,.outI "rAll.25" TF,Ad⟩,
 ⟨84,.outI "rAll.26" Kb,Ad⟩,
 ⟨85,.outI "rAll.27" Kc,Ad⟩,
 ⟨86,.eqs [.i,.i,.i,.i,.i,.i,.i,.i,.i,.b,.b,.b,.b,.b,.b,.b,.b,.i,.i,.b,.b,.b,.i,.i,.i,.i],[.e 30,.e 58,.e 31,.e 59,.e 32,.e 60,.e 33,.e 61,.e 34,.e 62,.e 35,.e 63,.e 36,.e 64,.e 37,.e 65,.e 38,.e 66,.e 39,.e 67,.e 40,.e 68,.e 41,.e 69,.e 42,.e 70,.e 43,.e 71,.e 44,.e 72,.e 45,.e 73,.e 46,.e 74,.e 47,.e 75,.e 48,.e 76,.e 49,.e 77,.e 50,.e 78,.e 51,.e 79,.e 52,.e 80,.e 53,.e 81,.e 54,.e 82,.e 55,.e 83]⟩,
 ⟨87,.and,[.e 29,.e 86]⟩,
 ⟨88,.eq,[.e 56,.e 84]⟩,
 ⟨89,.and,[.e 86,.e 88]⟩,
 ⟨90,.and,[.e 29,.e 89]⟩]
def cK:List En:=[⟨91,.eq,[.e 57,.e 85]⟩,
 ⟨92,.and,[.e 89,.e 91]⟩,
 ⟨93,.and,[.e 29,.e 92]⟩,
 ⟨94,.outB "fine.0" KH,[]⟩,
 ⟨95,.and,[.e 92,.e 94]⟩,
 ⟨96,.ite .b,[.e 27,.e 28,.e 95]⟩,
 ⟨97,.or,[.e 27,.e 29]⟩]
def P0:List En:=dN++(d6++(eA++(dE++(cK))))
def eh:List ObE:=[]
def lE:List Rf:=[.e 96]
theorem lD:d8 27 (ed Try.prog [(20,LQ),(21,LD),(22,LR),(11,M8)] RN 3000 20 7 bY 27)=some (96,(P0).map En.be,eh.map ObE.be):=by kernel_rfl
theorem lI {T:Tab}(hl26:(L T 26).length≤140737488355328)(g:Gm)(hg:g=gT T 0)(hb26:(L T 26).length≤1048576)(g1:Gm)(z1:g1=gT T 0)(A0:AK T P0):
  ((B T 96)=(true)):=by
 obtain⟨F0,A0⟩:=A0.cut
 obtain⟨F1,A0⟩:=A0.cut
 obtain⟨F2,A0⟩:=A0.cut
 obtain⟨F3,A0⟩:=A0.cut
 have F4:=A0;clear A0
 have cr1_0:gT T 30=(Cu g1 (L T 26)).1:=by
  obtain⟨-,-,-,e30,e31,e32,e33,e34,e35,e36,e37,e38,e39,e40,e41,e42,-⟩:=F0
  obtain⟨e43,e44,e45,e46,e47,e48,e49,e50,e51,e52,e53,e54,e55,-⟩:=F1
  rw[←show gAt 0 (Ad.map (Rf.eval T))=g1 from z1.symm]
  exact Bk e30 e31 e32 e33 e34 e35 e36 e37 e38 e39 e40 e41 e42 e43 e44 e45 e46 e47 e48 e49 e50 e51 e52 e53 e54 e55
 have cr1_1:gT T 58=(Cu g1 (L T 26)).1:=by
  obtain⟨-,-,-,-,-,-,-,-,-,-,-,-,-,-,-,e58,-⟩:=F1
  obtain⟨e59,e60,e61,e62,e63,e64,e65,e66,e67,e68,e69,e70,e71,e72,e73,e74,-⟩:=F2
  obtain⟨e75,e76,e77,e78,e79,e80,e81,e82,e83,-⟩:=F3
  rw[←show gAt 0 (Ad.map (Rf.eval T))=g1 from z1.symm]
  exact Bk e58 e59 e60 e61 e62 e63 e64 e65 e66 e67 e68 e69 e70 e71 e72 e73 e74 e75 e76 e77 e78 e79 e80 e81 e82 e83
 ·obtain⟨-,e28,-⟩:=F0
  obtain⟨-,-,-,-,-,-,-,-,-,-,-,-,-,e56,e57,-⟩:=F1
  obtain⟨-,-,-,-,-,-,-,-,-,e84,e85,e86,-,e88,e89,-⟩:=F3
  obtain⟨e91,e92,-,e94,e95,e96,-⟩:=F4
  replace e28:B T 28=(true):=e28
  replace e56:I T 56=((Cu g1 (L T 26)).2.1):=by rw[←show gAt 0 (Ad.map (Rf.eval T))=g1 from z1.symm];exact e56
  replace e57:I T 57=((Cu g1 (L T 26)).2.2):=by rw[←show gAt 0 (Ad.map (Rf.eval T))=g1 from z1.symm];exact e57
  replace e84:I T 84=((Cu g1 (L T 26)).2.1):=by rw[←show gAt 0 (Ad.map (Rf.eval T))=g1 from z1.symm];exact e84
  replace e85:I T 85=((Cu g1 (L T 26)).2.2):=by rw[←show gAt 0 (Ad.map (Rf.eval T))=g1 from z1.symm];exact e85
  replace e94:B T 94=(true):=e94
  simp only[AA,AD,zR,BL,and_true,zL] at*
  have h:=cr1_0.trans cr1_1.symm
  clear cr1_0 cr1_1
  simp only[Gm.mk.injEq] at h
  have h86:(B T 86)=true:=e86.2 (by simp only[h,iff_self,and_self])
  clear e86 h hg
  grind
theorem gV:JQ Try.prog 9 Try.f7.params.toList 0=some (bY,QN):=by kernel_rfl
theorem gh:∀p∈([(20,LQ),(21,LD),(22,LR),(11,M8)]:List (FuncId × Bc)),CA Try.prog p.1 p.2:=by simp only[List.forall_mem_cons];exact⟨ju,j7,jL,jS,fun _ h=>absurd h (by simp)⟩
theorem jn:∀T:Tab,Ay T (EE 0 QN)→Bnd T 0 QN→Y5 1048576 T 0 QN→CJ T ((P0).map En.be)→Sp T eh∧B T 96=true:=by
 intro T hS hBd hBl hE
 obtain⟨-,-,-,-,-,-,-,-,-,-,-,-,-,-,-,⟨hl26,he26⟩,-⟩:=hBd
 replace hl26:(L T 26).length≤140737488355328:=hl26
 obtain⟨g,hg⟩:∃g:Gm,g=gT T 0:=⟨_,rfl⟩
 obtain⟨hb26,-⟩:=hBl
 replace hb26:(L T 26).length≤1048576:=hb26
 skip
 obtain⟨A0,hO⟩:=CK (tys:=[.b]) (rs:=lE) hS (by kernel_rfl) hE
 obtain⟨g1,z1⟩:∃g:Gm,g=gT T 0:=⟨_,rfl⟩
 have q0:=lI hl26 g hg hb26 g1 z1 A0
 exact⟨trivial,q0⟩
end Go.Eng
end
