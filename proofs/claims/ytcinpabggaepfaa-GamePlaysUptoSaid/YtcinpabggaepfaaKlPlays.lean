/-
  A part of the proof: K_lPlaysd K_lPlays.
-/
import Derived.Test.YtcinpabggaepfaaE3
import Derived.Test.YtcinpabggaepfaaE4
import Derived.Test.YtcinpabggaepfaaKgPlay
import Derived.Test.YtcinpabggaepfaaKrPlay
import Derived.Test.YtcinpabggaepfaaKfine
set_option linter.unusedVariables false
set_option linter.unusedSimpArgs false
section
open Go Go.Eng Go.Proofs
set_option maxHeartbeats 4000000
set_option maxRecDepth 100000
namespace Go.Eng
def k_lPlays:List Kd:=[k64,k64,k64,k64,k64,k64,k64,k64,k64,.bool,.bool,.bool,.bool,.bool,.bool,.bool,.bool,k64,k64,.bool,.bool,.bool,k64,k64,k64,k64,k64,k64,.bool,.list [k64,k64]]
noncomputable def as_lPlays:List AC:=((argsAC Try.prog 9 Try.f3.params.toList 0).map (·.1)).getD []
def v_lPlays_0:List Rf:=[.e 0,.e 1,.e 2,.e 3,.e 4,.e 5,.e 6,.e 7,.e 8,.e 9,.e 10,.e 11,.e 12,.e 13,.e 14,.e 15,.e 16,.e 17,.e 18,.e 19,.e 20,.e 21,.e 22,.e 23,.e 24,.e 25,.e 26,.e 27,.e 28,.e 29]
noncomputable def a_lPlays_0_0:List En:=[⟨30,.len,[.e 29]⟩,
 ⟨31,.lt,[.c (.int 40),.e 30]⟩,
 ⟨32,.outB "fine.0" o_fine_0,[]⟩,
 ⟨33,.not,[.e 31]⟩,
 ⟨34,.outI "gPlay.0" o_gPlay_0,v_lPlays_0⟩,
 ⟨35,.outI "gPlay.1" o_gPlay_1,v_lPlays_0⟩,
 ⟨36,.outI "gPlay.2" o_gPlay_2,v_lPlays_0⟩,
 ⟨37,.outI "gPlay.3" o_gPlay_3,v_lPlays_0⟩,
 ⟨38,.outI "gPlay.4" o_gPlay_4,v_lPlays_0⟩,
 ⟨39,.outI "gPlay.5" o_gPlay_5,v_lPlays_0⟩,
 ⟨40,.outI "gPlay.6" o_gPlay_6,v_lPlays_0⟩,
 ⟨41,.outI "gPlay.7" o_gPlay_7,v_lPlays_0⟩,
 ⟨42,.outI "gPlay.8" o_gPlay_8,v_lPlays_0⟩,
 ⟨43,.outB "gPlay.9" o_gPlay_9,v_lPlays_0⟩,
 ⟨44,.outB "gPlay.10" o_gPlay_10,v_lPlays_0⟩,
 ⟨45,.outB "gPlay.11" o_gPlay_11,v_lPlays_0⟩]
noncomputable def a_lPlays_0_1:List En:=[⟨46,.outB "gPlay.12" o_gPlay_12,v_lPlays_0⟩,
 ⟨47,.outB "gPlay.13" o_gPlay_13,v_lPlays_0⟩,
 ⟨48,.outB "gPlay.14" o_gPlay_14,v_lPlays_0⟩,
 ⟨49,.outB "gPlay.15" o_gPlay_15,v_lPlays_0⟩,
 ⟨50,.outB "gPlay.16" o_gPlay_16,v_lPlays_0⟩,
 ⟨51,.outI "gPlay.17" o_gPlay_17,v_lPlays_0⟩,
 ⟨52,.outI "gPlay.18" o_gPlay_18,v_lPlays_0⟩,
 ⟨53,.outB "gPlay.19" o_gPlay_19,v_lPlays_0⟩,
 ⟨54,.outB "gPlay.20" o_gPlay_20,v_lPlays_0⟩,
 ⟨55,.outB "gPlay.21" o_gPlay_21,v_lPlays_0⟩,
 ⟨56,.outI "gPlay.22" o_gPlay_22,v_lPlays_0⟩,
 ⟨57,.outI "gPlay.23" o_gPlay_23,v_lPlays_0⟩,
 ⟨58,.outI "gPlay.24" o_gPlay_24,v_lPlays_0⟩,
 ⟨59,.outI "gPlay.25" o_gPlay_25,v_lPlays_0⟩,
 ⟨60,.outI "gPlay.26" o_gPlay_26,v_lPlays_0⟩,
 ⟨61,.outI "rPlay.0" o_rPlay_0,v_lPlays_0⟩]
noncomputable def a_lPlays_0_2:List En:=[⟨62,.outI "rPlay.1" o_rPlay_1,v_lPlays_0⟩,
 ⟨63,.outI "rPlay.2" o_rPlay_2,v_lPlays_0⟩,
 ⟨64,.outI "rPlay.3" o_rPlay_3,v_lPlays_0⟩,
 ⟨65,.outI "rPlay.4" o_rPlay_4,v_lPlays_0⟩,
 ⟨66,.outI "rPlay.5" o_rPlay_5,v_lPlays_0⟩,
 ⟨67,.outI "rPlay.6" o_rPlay_6,v_lPlays_0⟩,
 ⟨68,.outI "rPlay.7" o_rPlay_7,v_lPlays_0⟩,
 ⟨69,.outI "rPlay.8" o_rPlay_8,v_lPlays_0⟩,
 ⟨70,.outB "rPlay.9" o_rPlay_9,v_lPlays_0⟩,
 ⟨71,.outB "rPlay.10" o_rPlay_10,v_lPlays_0⟩,
 ⟨72,.outB "rPlay.11" o_rPlay_11,v_lPlays_0⟩,
 ⟨73,.outB "rPlay.12" o_rPlay_12,v_lPlays_0⟩,
 ⟨74,.outB "rPlay.13" o_rPlay_13,v_lPlays_0⟩,
 ⟨75,.outB "rPlay.14" o_rPlay_14,v_lPlays_0⟩,
 ⟨76,.outB "rPlay.15" o_rPlay_15,v_lPlays_0⟩,
 ⟨77,.outB "rPlay.16" o_rPlay_16,v_lPlays_0⟩]
noncomputable def a_lPlays_0_3:List En:=[⟨78,.outI "rPlay.17" o_rPlay_17,v_lPlays_0⟩,
 ⟨79,.outI "rPlay.18" o_rPlay_18,v_lPlays_0⟩,
 ⟨80,.outB "rPlay.19" o_rPlay_19,v_lPlays_0⟩,
 ⟨81,.outB "rPlay.20" o_rPlay_20,v_lPlays_0⟩,
 ⟨82,.outB "rPlay.21" o_rPlay_21,v_lPlays_0⟩,
 ⟨83,.outI "rPlay.22" o_rPlay_22,v_lPlays_0⟩,
 ⟨84,.outI "rPlay.23" o_rPlay_23,v_lPlays_0⟩,
 ⟨85,.outI "rPlay.24" o_rPlay_24,v_lPlays_0⟩,
 ⟨86,.outI "rPlay.25" o_rPlay_25,v_lPlays_0⟩,
 ⟨87,.outI "rPlay.26" o_rPlay_26,v_lPlays_0⟩,
 ⟨88,.eqs [.i,.i,.i,.i,.i,.i,.i,.i,.i,.b,.b,.b,.b,.b,.b,.b,.b,.i,.i,.b,.b,.b,.i,.i,.i,.i],[.e 34,.e 61,.e 35,.e 62,.e 36,.e 63,.e 37,.e 64,.e 38,.e 65,.e 39,.e 66,.e 40,.e 67,.e 41,.e 68,.e 42,.e 69,.e 43,.e 70,.e 44,.e 71,.e 45,.e 72,.e 46,.e 73,.e 47,.e 74,.e 48,.e 75,.e 49,.e 76,.e 50,.e 77,.e 51,.e 78,.e 52,.e 79,.e 53,.e 80,.e 54,.e 81,.e 55,.e 82,.e 56,.e 83,.e 57,.e 84,.e 58,.e 85,.e 59,.e 86]⟩,
 ⟨89,.and,[.e 33,.e 88]⟩,
 ⟨90,.eq,[.e 60,.e 87]⟩,
 ⟨91,.and,[.e 88,.e 90]⟩,
 ⟨92,.and,[.e 33,.e 91]⟩,
 ⟨93,.outB "fine.0" o_fine_0,[]⟩]
noncomputable def a_lPlays_0_4:List En:=[⟨94,.and,[.e 91,.e 93]⟩,
 ⟨95,.ite .b,[.e 31,.e 32,.e 94]⟩,
 ⟨96,.or,[.e 31,.e 33]⟩]
noncomputable def a_lPlays_0:List En:=a_lPlays_0_0++(a_lPlays_0_1++(a_lPlays_0_2++(a_lPlays_0_3++(a_lPlays_0_4))))
noncomputable def q_lPlays:List ObE:=[]
def r_lPlays:List Rf:=[.e 95]
end Go.Eng
end
section
open Go Go.Eng Go.Proofs
set_option maxHeartbeats 4000000
set_option maxRecDepth 100000
namespace Go.Eng
theorem s_lPlays:seesL 30 (lawRun Try.prog [(12,t_gPlay),(13,t_rPlay),(11,t_fine)] hints 3000 20 3 as_lPlays 30)=some (95,(a_lPlays_0).map En.be,q_lPlays.map ObE.be):=by kernel_rfl
theorem m_lPlays {T:Tab}(hl29:(L T 29).length≤140737488355328)(g:Gm)(hg:g=Gm.mk (I T 0) (I T 1) (I T 2) (I T 3) (I T 4) (I T 5) (I T 6) (I T 7) (I T 8) (B T 9) (B T 10) (B T 11) (B T 12) (B T 13) (B T 14) (B T 15) (B T 16) (I T 17) (I T 18) (B T 19) (B T 20) (B T 21) (I T 22) (I T 23) (I T 24) (I T 25))(hb29:(L T 29).length≤1048576)(g1:Gm)(z1:g1=Gm.mk (I T 0) (I T 1) (I T 2) (I T 3) (I T 4) (I T 5) (I T 6) (I T 7) (I T 8) (B T 9) (B T 10) (B T 11) (B T 12) (B T 13) (B T 14) (B T 15) (B T 16) (I T 17) (I T 18) (B T 19) (B T 20) (B T 21) (I T 22) (I T 23) (I T 24) (I T 25))(A0:Facts T a_lPlays_0):
  ((B T 95)=(true)):=by
 obtain⟨F0,A0⟩:=A0.cut
 obtain⟨F1,A0⟩:=A0.cut
 obtain⟨F2,A0⟩:=A0.cut
 obtain⟨F3,A0⟩:=A0.cut
 have F4:=A0;clear A0
 have cr1_0:Gm.mk (I T 34) (I T 35) (I T 36) (I T 37) (I T 38) (I T 39) (I T 40) (I T 41) (I T 42) (B T 43) (B T 44) (B T 45) (B T 46) (B T 47) (B T 48) (B T 49) (B T 50) (I T 51) (I T 52) (B T 53) (B T 54) (B T 55) (I T 56) (I T 57) (I T 58) (I T 59)=resS g1 (I T 26) (I T 27) (B T 28) (L T 29):=by
  obtain⟨-,-,-,-,e34,e35,e36,e37,e38,e39,e40,e41,e42,e43,e44,e45,-⟩:=F0
  obtain⟨e46,e47,e48,e49,e50,e51,e52,e53,e54,e55,e56,e57,e58,e59,-⟩:=F1
  rw[←show gAt 0 (v_lPlays_0.map (Rf.eval T))=g1 from z1.symm]
  exact gm_congr e34 e35 e36 e37 e38 e39 e40 e41 e42 e43 e44 e45 e46 e47 e48 e49 e50 e51 e52 e53 e54 e55 e56 e57 e58 e59
 have cr1_1:Gm.mk (I T 61) (I T 62) (I T 63) (I T 64) (I T 65) (I T 66) (I T 67) (I T 68) (I T 69) (B T 70) (B T 71) (B T 72) (B T 73) (B T 74) (B T 75) (B T 76) (B T 77) (I T 78) (I T 79) (B T 80) (B T 81) (B T 82) (I T 83) (I T 84) (I T 85) (I T 86)=resS g1 (I T 26) (I T 27) (B T 28) (L T 29):=by
  obtain⟨-,-,-,-,-,-,-,-,-,-,-,-,-,-,-,e61,-⟩:=F1
  obtain⟨e62,e63,e64,e65,e66,e67,e68,e69,e70,e71,e72,e73,e74,e75,e76,e77,-⟩:=F2
  obtain⟨e78,e79,e80,e81,e82,e83,e84,e85,e86,-⟩:=F3
  rw[←show gAt 0 (v_lPlays_0.map (Rf.eval T))=g1 from z1.symm]
  exact gm_congr e61 e62 e63 e64 e65 e66 e67 e68 e69 e70 e71 e72 e73 e74 e75 e76 e77 e78 e79 e80 e81 e82 e83 e84 e85 e86
 ·obtain⟨-,-,e32,-⟩:=F0
  obtain⟨-,-,-,-,-,-,-,-,-,-,-,-,-,-,e60,-⟩:=F1
  obtain⟨-,-,-,-,-,-,-,-,-,e87,e88,-,e90,e91,-,e93,-⟩:=F3
  obtain⟨e94,e95,-⟩:=F4
  replace e32:B T 32=(true):=e32
  replace e60:I T 60=(errS g1 (I T 26) (I T 27) (B T 28) (L T 29)):=by rw[←show gAt 0 (v_lPlays_0.map (Rf.eval T))=g1 from z1.symm];exact e60
  replace e87:I T 87=(errS g1 (I T 26) (I T 27) (B T 28) (L T 29)):=by rw[←show gAt 0 (v_lPlays_0.map (Rf.eval T))=g1 from z1.symm];exact e87
  replace e93:B T 93=(true):=e93
  simp only[fact,bR_e,zR,eqsP,and_true,zL] at e88 e90 e91 e94 e95
  have h:=cr1_0.trans cr1_1.symm
  clear cr1_0 cr1_1
  simp only[Gm.mk.injEq] at h
  have h88:(B T 88)=true:=e88.2 (by simp only[h,iff_self,and_self])
  clear e88 h
  grind
theorem args_lPlays:argsAC Try.prog 9 Try.f3.params.toList 0=some (as_lPlays,k_lPlays):=by kernel_rfl
theorem ctx_lPlays:∀p∈([(12,t_gPlay),(13,t_rPlay),(11,t_fine)]:List (FuncId × Tmpl)),TmplOK Try.prog p.1 p.2:=by simp only[List.forall_mem_cons];exact⟨ok_gPlay,ok_rPlay,ok_fine,fun _ h=>absurd h (by simp)⟩
theorem ok_lPlays:∀T:Tab,Strong T (envOf 0 k_lPlays)→Bnd T 0 k_lPlays→BndL 1048576 T 0 k_lPlays→AllB T ((a_lPlays_0).map En.be)→AllG T q_lPlays∧B T 95=true:=by
 intro T hS hBd hBl hE
 obtain⟨⟨lo0,hi0⟩,⟨lo1,hi1⟩,⟨lo2,hi2⟩,⟨lo3,hi3⟩,⟨lo4,hi4⟩,⟨lo5,hi5⟩,⟨lo6,hi6⟩,⟨lo7,hi7⟩,⟨lo8,hi8⟩,⟨lo17,hi17⟩,⟨lo18,hi18⟩,⟨lo22,hi22⟩,⟨lo23,hi23⟩,⟨lo24,hi24⟩,⟨lo25,hi25⟩,⟨lo26,hi26⟩,⟨lo27,hi27⟩,⟨hl29,he29⟩,-⟩:=hBd
 clear lo0 hi0
 clear lo1 hi1
 clear lo2 hi2
 clear lo3 hi3
 clear lo4 hi4
 clear lo5 hi5
 clear lo6 hi6
 clear lo7 hi7
 clear lo8 hi8
 clear lo17 hi17
 clear lo18 hi18
 clear lo22 hi22
 clear lo23 hi23
 clear lo24 hi24
 clear lo25 hi25
 clear lo26 hi26
 clear lo27 hi27
 replace hl29:(L T 29).length≤140737488355328:=hl29
 obtain⟨g,hg⟩:∃g:Gm,g=Gm.mk (I T 0) (I T 1) (I T 2) (I T 3) (I T 4) (I T 5) (I T 6) (I T 7) (I T 8) (B T 9) (B T 10) (B T 11) (B T 12) (B T 13) (B T 14) (B T 15) (B T 16) (I T 17) (I T 18) (B T 19) (B T 20) (B T 21) (I T 22) (I T 23) (I T 24) (I T 25):=⟨_,rfl⟩
 obtain⟨hb29,-⟩:=hBl
 replace hb29:(L T 29).length≤1048576:=hb29
 skip
 obtain⟨A0,hO⟩:=chkO_ok (tys:=[.b]) (rs:=r_lPlays) hS (by kernel_rfl) hE
 obtain⟨g1,z1⟩:∃g:Gm,g=Gm.mk (I T 0) (I T 1) (I T 2) (I T 3) (I T 4) (I T 5) (I T 6) (I T 7) (I T 8) (B T 9) (B T 10) (B T 11) (B T 12) (B T 13) (B T 14) (B T 15) (B T 16) (I T 17) (I T 18) (B T 19) (B T 20) (B T 21) (I T 22) (I T 23) (I T 24) (I T 25):=⟨_,rfl⟩
 have q0:=m_lPlays hl29 g hg hb29 g1 z1 A0
 exact⟨trivial,q0⟩
end Go.Eng
end
