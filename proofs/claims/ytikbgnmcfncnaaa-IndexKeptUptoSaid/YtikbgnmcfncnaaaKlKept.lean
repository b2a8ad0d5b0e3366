/-
  A part of the proof: K_lKeptd K_lKept.
-/
import Derived.Test.YtikbgnmcfncnaaaXQlKept
import Derived.Test.YtikbgnmcfncnaaaE4
import Derived.Test.YtikbgnmcfncnaaaE5
import Derived.Test.YtikbgnmcfncnaaaKCount
import Derived.Test.YtikbgnmcfncnaaaKGain
import Derived.Test.YtikbgnmcfncnaaaKworks
set_option linter.unusedVariables false
set_option linter.unusedSimpArgs false
noncomputable section
open Go Go.Eng Go.Proofs
set_option maxHeartbeats 4000000
set_option maxRecDepth 100000
namespace Go.Eng
def N5:List Kd:=[.str,k64,k64,.str,k64,k64,.bool,.int .u16 (0) (65535)]
def Ub:List AC:=((Fd Try.prog 9 Try.f3.params.toList 0).map (·.1)).getD []
def V5:List En:=[⟨8,.slen,[.e 0]⟩,
 ⟨9,.lt,[.c (.int 100),.e 8]⟩,
 ⟨10,.not,[.e 9]⟩,
 ⟨11,.slen,[.e 3]⟩,
 ⟨12,.lt,[.c (.int 100),.e 11]⟩,
 ⟨13,.or,[.e 9,.e 12]⟩,
 ⟨14,.outB "works.0" Db,[]⟩,
 ⟨15,.not,[.e 13]⟩,
 ⟨16,.outS "Count.0" GZ,[.e 0,.e 1,.e 2,.e 3,.e 4,.e 5,.e 6]⟩,
 ⟨17,.outI "Count.1" GW,[.e 0,.e 1,.e 2,.e 3,.e 4,.e 5,.e 6]⟩,
 ⟨18,.outI "Count.2" GL,[.e 0,.e 1,.e 2,.e 3,.e 4,.e 5,.e 6]⟩,
 ⟨19,.outS "Count.3" GM,[.e 0,.e 1,.e 2,.e 3,.e 4,.e 5,.e 6]⟩,
 ⟨20,.outI "Count.4" GK,[.e 0,.e 1,.e 2,.e 3,.e 4,.e 5,.e 6]⟩,
 ⟨21,.outI "Count.5" GQ,[.e 0,.e 1,.e 2,.e 3,.e 4,.e 5,.e 6]⟩,
 ⟨22,.outI "Count.6" GS,[.e 0,.e 1,.e 2,.e 3,.e 4,.e 5,.e 6]⟩,
 ⟨23,.ne,[.e 22,.c (.int 0)]⟩]
def WA:List En:=[⟨24,.and,[.e 15,.e 23]⟩,
 ⟨25,.eqs [.s,.i,.i],[.e 16,.c (.str ⟨#[]⟩),.e 17,.c (.int 0),.e 18,.c (.int 0)]⟩,
 ⟨26,.and,[.e 24,.e 25]⟩,
 ⟨27,.eqs [.s,.i,.i],[.e 19,.c (.str ⟨#[]⟩),.e 20,.c (.int 0),.e 21,.c (.int 0)]⟩,
 ⟨28,.and,[.e 25,.e 27]⟩,
 ⟨29,.and,[.e 24,.e 28]⟩,
 ⟨30,.outB "works.0" Db,[]⟩,
 ⟨31,.and,[.e 28,.e 30]⟩,
 ⟨32,.and,[.e 15,.n 23]⟩,
 ⟨33,.outI "Gain.0" G9,[.e 1,.e 4,.e 6]⟩,
 ⟨34,.outI "Gain.1" HR,[.e 1,.e 4,.e 6]⟩,
 ⟨35,.outI "Gain.0" G9,[.e 4,.e 1,.e 6]⟩,
 ⟨36,.outI "Gain.1" HR,[.e 4,.e 1,.e 6]⟩,
 ⟨37,.ne,[.e 34,.c (.int 0)]⟩,
 ⟨38,.and,[.e 32,.n 37]⟩,
 ⟨39,.ne,[.e 36,.c (.int 0)]⟩]
def V8:List En:=[⟨40,.or,[.e 37,.e 39]⟩,
 ⟨41,.and,[.e 32,.n 40]⟩,
 ⟨42,.w2 .i64 .add,[.e 33,.e 35]⟩,
 ⟨43,.ne,[.e 42,.c (.int 20)]⟩,
 ⟨44,.or,[.e 40,.e 43]⟩,
 ⟨45,.and,[.e 32,.n 44]⟩,
 ⟨46,.lt,[.e 33,.c (.int 1)]⟩,
 ⟨47,.or,[.e 44,.e 46]⟩,
 ⟨48,.and,[.e 32,.n 47]⟩,
 ⟨49,.lt,[.c (.int 19),.e 33]⟩,
 ⟨50,.or,[.e 47,.e 49]⟩,
 ⟨51,.and,[.e 32,.n 50]⟩,
 ⟨52,.nes [.s],[.e 16,.e 0]⟩,
 ⟨53,.or,[.e 50,.e 52]⟩,
 ⟨54,.and,[.e 32,.n 53]⟩,
 ⟨55,.nes [.s],[.e 19,.e 3]⟩]
def WB:List En:=[⟨56,.or,[.e 53,.e 55]⟩,
 ⟨57,.and,[.e 32,.n 56]⟩,
 ⟨58,.lt,[.e 17,.e 1]⟩,
 ⟨59,.or,[.e 56,.e 58]⟩,
 ⟨60,.and,[.e 32,.n 59]⟩,
 ⟨61,.lt,[.e 4,.e 20]⟩,
 ⟨62,.or,[.e 59,.e 61]⟩,
 ⟨63,.and,[.e 32,.e 62]⟩,
 ⟨64,.and,[.e 32,.n 62]⟩,
 ⟨65,.w2 .i64 .add,[.e 1,.e 33]⟩,
 ⟨66,.le,[.e 65,.c (.int 10000)]⟩,
 ⟨67,.and,[.e 64,.e 66]⟩,
 ⟨68,.w2 .i64 .sub,[.e 4,.e 33]⟩,
 ⟨69,.le,[.c (.int (-10000)),.e 68]⟩,
 ⟨70,.and,[.e 66,.e 69]⟩,
 ⟨71,.and,[.e 64,.e 70]⟩]
def WN:List En:=[⟨72,.w2 .i64 .add,[.e 17,.e 20]⟩,
 ⟨73,.w2 .i64 .add,[.e 1,.e 4]⟩,
 ⟨74,.ne,[.e 72,.e 73]⟩,
 ⟨75,.and,[.e 71,.n 74]⟩,
 ⟨76,.w2 .i64 .add,[.e 1,.e 33]⟩,
 ⟨77,.ne,[.e 17,.e 76]⟩,
 ⟨78,.or,[.e 74,.e 77]⟩,
 ⟨79,.and,[.e 70,.e 78]⟩,
 ⟨80,.and,[.e 64,.e 79]⟩,
 ⟨81,.and,[.e 64,.n 79]⟩,
 ⟨82,.w2 .i64 .add,[.e 1,.e 7]⟩,
 ⟨83,.o2 .min,[.c (.int 10000),.e 82]⟩,
 ⟨84,.outI "Gain.0" G9,[.e 83,.e 4,.e 6]⟩,
 ⟨85,.outI "Gain.1" HR,[.e 83,.e 4,.e 6]⟩,
 ⟨86,.eq,[.e 85,.c (.int 0)]⟩,
 ⟨87,.and,[.e 81,.e 86]⟩]
def Wg:List En:=[⟨88,.le,[.e 84,.e 33]⟩,
 ⟨89,.and,[.e 86,.e 88]⟩,
 ⟨90,.and,[.e 81,.e 89]⟩,
 ⟨91,.outB "works.0" Db,[]⟩,
 ⟨92,.and,[.e 89,.e 91]⟩,
 ⟨93,.ite .i,[.e 80,.e 34,.e 85]⟩,
 ⟨94,.ite .b,[.e 80,.c (.bool false),.e 92]⟩,
 ⟨95,.or,[.e 80,.e 81]⟩,
 ⟨96,.ite .i,[.e 63,.e 34,.e 93]⟩,
 ⟨97,.ite .b,[.e 63,.c (.bool false),.e 94]⟩,
 ⟨98,.or,[.e 63,.e 95]⟩,
 ⟨99,.ite .b,[.e 24,.e 31,.e 97]⟩,
 ⟨100,.or,[.e 24,.e 98]⟩,
 ⟨101,.ite .b,[.e 13,.e 14,.e 99]⟩,
 ⟨102,.or,[.e 13,.e 100]⟩]
def MY:List En:=V5++(WA++(V8++(WB++(WN++(Wg)))))
def XB:List ObE:=[]
def fT:List Rf:=[.e 101]
theorem fa:TG 8 (UY Try.prog [(16,FC),(17,NM),(15,G6)] AW 3000 20 3 Ub 8)=some (101,(MY).map En.be,XB.map ObE.be):=by kernel_rfl
theorem fR {T:Tab}(hz0:(S T 0).size≤140737488355328)(hz3:(S T 3).size≤140737488355328)(lo7:0≤I T 7)(hi7:I T 7≤65535)(A0:AH T MY):
  ((B T 101)=(true)):=by
 obtain⟨F0,A0⟩:=A0.cut
 obtain⟨F1,A0⟩:=A0.cut
 obtain⟨F2,A0⟩:=A0.cut
 obtain⟨F3,A0⟩:=A0.cut
 obtain⟨F4,A0⟩:=A0.cut
 have F5:=A0;clear A0
 ·obtain⟨-,-,-,-,-,-,e14,e15,e16,e17,e18,e19,e20,e21,e22,e23,-⟩:=F0
  obtain⟨e24,e25,-,e27,e28,-,e30,e31,-,e33,e34,e35,e36,e37,-,e39,-⟩:=F1
  obtain⟨e40,-,e42,e43,e44,-,e46,e47,-,e49,e50,-,e52,e53,-,e55,-⟩:=F2
  obtain⟨e56,-,e58,e59,-,e61,e62,e63,-,e65,e66,-,e68,e69,e70,-⟩:=F3
  obtain⟨e72,e73,e74,-,e76,e77,e78,e79,e80,-,e82,e83,e84,e85,e86,-⟩:=F4
  obtain⟨e88,e89,-,e91,e92,-,e94,-,-,e97,-,e99,-,e101,-⟩:=F5
  replace e14:B T 14=(true):=e14
  replace e16:S T 16=(if Am (S T 0) (I T 1) (I T 2) (S T 3) (I T 4) (I T 5)=0 then (S T 0) else (⟨#[]⟩:ByteArray)):=e16
  replace e17:I T 17=(if Am (S T 0) (I T 1) (I T 2) (S T 3) (I T 4) (I T 5)=0 then Ax (I T 1) (Ar (I T 1) (I T 4) (B T 6)) else 0):=e17
  replace e18:I T 18=(if Am (S T 0) (I T 1) (I T 2) (S T 3) (I T 4) (I T 5)=0 then CT (Ax (I T 1) (Ar (I T 1) (I T 4) (B T 6))) (I T 2) else 0):=e18
  replace e19:S T 19=(if Am (S T 0) (I T 1) (I T 2) (S T 3) (I T 4) (I T 5)=0 then (S T 3) else (⟨#[]⟩:ByteArray)):=e19
  replace e20:I T 20=(if Am (S T 0) (I T 1) (I T 2) (S T 3) (I T 4) (I T 5)=0 then Ax (I T 4) (-(Ar (I T 1) (I T 4) (B T 6))) else 0):=e20
  replace e21:I T 21=(if Am (S T 0) (I T 1) (I T 2) (S T 3) (I T 4) (I T 5)=0 then CT (Ax (I T 4) (-(Ar (I T 1) (I T 4) (B T 6)))) (I T 5) else 0):=e21
  replace e22:I T 22=(Am (S T 0) (I T 1) (I T 2) (S T 3) (I T 4) (I T 5)):=e22
  replace e30:B T 30=(true):=e30
  replace e33:I T 33=(if (Ay (I T 1) (-10000) 10000&&Ay (I T 4) (-10000) 10000)=true then Ar (I T 1) (I T 4) (B T 6) else 0):=e33
  replace e34:I T 34=(if (Ay (I T 1) (-10000) 10000&&Ay (I T 4) (-10000) 10000)=true then 0 else 3):=e34
  replace e35:I T 35=(if (Ay (I T 4) (-10000) 10000&&Ay (I T 1) (-10000) 10000)=true then Ar (I T 4) (I T 1) (B T 6) else 0):=e35
  replace e36:I T 36=(if (Ay (I T 4) (-10000) 10000&&Ay (I T 1) (-10000) 10000)=true then 0 else 3):=e36
  replace e84:I T 84=(if (Ay (I T 83) (-10000) 10000&&Ay (I T 4) (-10000) 10000)=true then Ar (I T 83) (I T 4) (B T 6) else 0):=e84
  replace e85:I T 85=(if (Ay (I T 83) (-10000) 10000&&Ay (I T 4) (-10000) 10000)=true then 0 else 3):=e85
  replace e91:B T 91=(true):=e91
  simp only[AI,AP,zC,zR,EN,and_true,LW,w2P,zL,zS] at e15 e23 e24 e25 e27 e28 e31 e37 e39 e40 e42 e43 e44 e46 e47 e49 e50 e52 e53 e55 e56 e58 e59 e61 e62 e63 e65 e66 e68 e69 e70 e72 e73 e74 e76 e77 e78 e79 e80 e82 e83 e86 e88 e89 e92 e94 e97 e99 e101
  by_cases hp:Am ((S T 0)) (I T 1) (I T 2) ((S T 3)) (I T 4) (I T 5)=0
  ·rw[if_pos hp] at e16 e17 e18 e19 e20 e21
   obtain⟨p1,p2,p3⟩:=JA hp
   rw[Ea] at p1 p2
   have hb:(Ay (I T 1) (-10000) 10000&&Ay (I T 4) (-10000) 10000)=true:=by rw[Bool.and_eq_true,Bk,Bk];exact⟨p1.2.1,p2.2.1⟩
   have hb2:(Ay (I T 4) (-10000) 10000&&Ay (I T 1) (-10000) 10000)=true:=by rw[Bool.and_eq_true,Bk,Bk];exact⟨p2.2.1,p1.2.1⟩
   rw[if_pos hb] at e33 e34
   rw[if_pos hb2] at e35 e36
   have g0:=HF (I T 1) (I T 4) ((B T 6))
   have g1:=dO (I T 1) (I T 4) ((B T 6))
   obtain⟨-,k1,-,-⟩:=p1
   obtain⟨-,k4,-,-⟩:=p2
   obtain⟨m1,m2⟩:=dM k1 g0 k4
   have c1:=Tk (I T 1) (Ar (I T 1) (I T 4) ((B T 6)))
   have c2:=Tk (I T 4) (-Ar (I T 1) (I T 4) ((B T 6)))
   have g2:=fun h:(I T 1)≤I T 83=>ZZ (b:=I T 4) (l:=B T 6) h
   have ks:=eJ k1 g0 k4
   rw[←e17] at m1 c1 ks
   rw[←e20] at m2 c2 ks
   rw[←e33] at g0 g1 g2 ks
   rw[←e35] at g1
   have x42:(I T 42)=20:=(e42 (by rw[g1];decide) (by rw[g1];decide)).trans g1
   have x82:=e82 (by clear ks g2 e84 e85 e42 e83;omega) (by clear ks g2 e84 e85 e42 e83;omega)
   have y83:(I T 1)≤I T 83∧I T 83≤10000:=by rw[e83,x82];clear ks g2 e84 e85 e42 e82 e83 x82;omega
   have hb3:(Ay (I T 83) (-10000) 10000&&Ay (I T 4) (-10000) 10000)=true:=by rw[Bool.and_eq_true,Bk,Bk];exact⟨⟨Int.le_trans k1.1 y83.1,y83.2⟩,k4⟩
   rw[if_pos hb3] at e84 e85
   have g3:=g2 y83.1
   rw[←e84] at g3
   have n62:¬B T 62=true:=by
    rw[e62,e59,e56,e53,e50,e47,e44,e40,e37,e39,e43,e46,e49,e52,e55,e58,e61]
    rintro (((((((((h|h)|h)|h)|h)|h)|h)|h)|h))
    ·exact h e34
    ·exact h e36
    ·exact h x42
    ·exact absurd g0.1 (Int.not_le.2 h)
    ·exact absurd g0.2 (Int.not_le.2 h)
    ·exact h e16
    ·exact h e19
    ·exact absurd m1 (Int.not_le.2 h)
    ·exact absurd m2 (Int.not_le.2 h)
   have z0:(-9223372036854775808≤I T 1+I T 33∧I T 1+I T 33≤9223372036854775807)∧(-9223372036854775808≤I T 4 - (I T 33)∧I T 4 - (I T 33)≤9223372036854775807)∧(-9223372036854775808≤I T 1+I T 4∧I T 1+I T 4≤9223372036854775807)∧ -9223372036854775808≤I T 17+I T 20∧I T 17+I T 20≤9223372036854775807:=by clear ks g2 g3 m1 m2 y83 x82 x42 g1 hi7 lo7;omega
   have x65:=e65 z0.1.1 z0.1.2
   have x68:=e68 z0.2.1.1 z0.2.1.2
   have x73:=e73 z0.2.2.1.1 z0.2.2.1.2
   have x76:=e76 z0.1.1 z0.1.2
   have x72:=e72 z0.2.2.2.1 z0.2.2.2.2
   have n79:¬B T 79=true:=by
    rw[e79,e70,e66,e69,e78,e74,e77]
    rintro⟨⟨q1,q2⟩,h2⟩
    rw[x65] at q1
    rw[x68] at q2
    obtain⟨q3,q4⟩:=ks q1 q2
    rw[x72,x73,x76,q3,q4] at h2
    clear ks g2 g3 m1 m2 y83 x82 x42 g1 hi7 lo7 x72 x73 x76 x65 x68 z0 q1 q2 q3 q4 c1 c2 g0 k1 k4
    omega
   have h92:(B T 92)=true:=e92.2 ⟨e89.2 ⟨e86.2 e85,e88.2 g3⟩,e91⟩
   have n23:¬B T 23=true:=fun h=>e23.1 h (e22.trans hp)
   have h80:(B T 80)=false:=by simpa using fun h=>n79 (e80.1 h).2
   have h63:(B T 63)=false:=by simpa using fun h=>n62 (e63.1 h).2
   have h24:(B T 24)=false:=by simpa using fun h=>n23 (e24.1 h).2
   have h94:(B T 94)=true:=e94.2 ⟨by simpa using h80,h92⟩
   have h97:(B T 97)=true:=e97.2 ⟨by simpa using h63,h94⟩
   have h99:=e99.2 (.inr ⟨by simpa using h24,h97⟩)
   rw[e101]
   cases h13:(B T 13)
   ·exact .inr ⟨by simp,h99⟩
   ·exact .inl ⟨rfl,e14⟩
  ·rw[if_neg hp] at e16 e17 e18 e19 e20 e21
   rw[e101]
   by_cases h13:(B T 13)=true
   ·exact .inl ⟨h13,e14⟩
   ·have h13:(B T 13)=false:=by simpa using h13
    have h24:=e24.2 ⟨e15.2 (by simpa using h13),e23.2 (fun h=>hp (e22.symm.trans h))⟩
    exact .inr ⟨by simpa using h13,e99.2 (.inl ⟨h24,e31.2 ⟨e28.2 ⟨e25.2 ⟨e16,e17,e18⟩,e27.2 ⟨e19,e20,e21⟩⟩,e30⟩⟩)⟩
theorem X4:Fd Try.prog 9 Try.f3.params.toList 0=some (Ub,N5):=by kernel_rfl
theorem bw:∀p∈([(16,FC),(17,NM),(15,G6)]:List (FuncId × AV)),Ae Try.prog p.1 p.2:=by simp only[List.forall_mem_cons];exact⟨PF,gA,U9,fun _ h=>absurd h (by simp)⟩
theorem eU:∀T:Tab,AK T (BK 0 N5)→Bnd T 0 N5→RE 1048576 T 0 N5→Ac T ((MY).map En.be)→G5 T XB∧B T 101=true:=by
 intro T hS hBd hBl hE
 obtain⟨hz0,-,-,hz3,-,-,⟨lo7,hi7⟩,-⟩:=hBd
 replace hz0:(S T 0).size≤140737488355328:=hz0
 replace hz3:(S T 3).size≤140737488355328:=hz3
 replace lo7:0≤I T 7:=lo7
 replace hi7:I T 7≤65535:=hi7
 clear hBl
 skip
 obtain⟨A0,hO⟩:=BG (tys:=[.b]) (rs:=fT) hS (by kernel_rfl) hE
 have q0:=fR hz0 hz3 lo7 hi7 A0
 exact⟨trivial,q0⟩
end Go.Eng
end
