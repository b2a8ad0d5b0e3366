/-
  A part of the proof: K_fined K_fine.
-/
import Derived.Test.YtcinpabggaepfaaE3
import Derived.Test.YtcinpabggaepfaaE4
import Derived.Test.YtcinpabggaepfaaKgPlay
set_option linter.unusedVariables false
set_option linter.unusedSimpArgs false
section
open Go Go.Eng Go.Proofs
set_option maxHeartbeats 4000000
set_option maxRecDepth 100000
namespace Go.Eng
def o_fine_0:List U→Bool:=fun us=>(true)
def t_fine:Tmpl:={ sh:=[],blks:=[],outs:=[(.s "fine.0",outUB o_fine_0)],c:= .b 0,m':=[],pre:=[] }
def v_fine_0:List Rf:=[.c (.int 0),.c (.int 0),.c (.int 0),.c (.int (-1)),.c (.int (-1)),.c (.int 0),.c (.int 0),.c (.int 0),.c (.int 0),.c (.bool false),.c (.bool false),.c (.bool false),.c (.bool false),.c (.bool false),.c (.bool false),.c (.bool false),.c (.bool false),.c (.int 3),.c (.int 0),.c (.bool false),.c (.bool false),.c (.bool false),.c (.int 0),.c (.int 0),.c (.int (-1)),.c (.int (-1)),.c (.int 1),.c (.int 2),.c (.bool false),.c (.list [])]
def v_fine_1:List Rf:=[.e 0,.e 1,.e 2,.e 3,.e 4,.e 5,.e 6,.e 7,.e 8,.e 9,.e 10,.e 11,.e 12,.e 13,.e 14,.e 15,.e 16,.e 17,.e 18,.e 19,.e 20,.e 21,.e 22,.e 23,.e 24,.e 25,.c (.int 2),.c (.int 0),.c (.bool false),.e 27]
noncomputable def a_fine_0_0:List En:=[⟨0,.outI "gPlay.0" o_gPlay_0,v_fine_0⟩,
 ⟨1,.outI "gPlay.1" o_gPlay_1,v_fine_0⟩,
 ⟨2,.outI "gPlay.2" o_gPlay_2,v_fine_0⟩,
 ⟨3,.outI "gPlay.3" o_gPlay_3,v_fine_0⟩,
 ⟨4,.outI "gPlay.4" o_gPlay_4,v_fine_0⟩,
 ⟨5,.outI "gPlay.5" o_gPlay_5,v_fine_0⟩,
 ⟨6,.outI "gPlay.6" o_gPlay_6,v_fine_0⟩,
 ⟨7,.outI "gPlay.7" o_gPlay_7,v_fine_0⟩,
 ⟨8,.outI "gPlay.8" o_gPlay_8,v_fine_0⟩,
 ⟨9,.outB "gPlay.9" o_gPlay_9,v_fine_0⟩,
 ⟨10,.outB "gPlay.10" o_gPlay_10,v_fine_0⟩,
 ⟨11,.outB "gPlay.11" o_gPlay_11,v_fine_0⟩,
 ⟨12,.outB "gPlay.12" o_gPlay_12,v_fine_0⟩,
 ⟨13,.outB "gPlay.13" o_gPlay_13,v_fine_0⟩,
 ⟨14,.outB "gPlay.14" o_gPlay_14,v_fine_0⟩,
 ⟨15,.outB "gPlay.15" o_gPlay_15,v_fine_0⟩]
noncomputable def a_fine_0_1:List En:=[⟨16,.outB "gPlay.16" o_gPlay_16,v_fine_0⟩,
 ⟨17,.outI "gPlay.17" o_gPlay_17,v_fine_0⟩,
 ⟨18,.outI "gPlay.18" o_gPlay_18,v_fine_0⟩,
 ⟨19,.outB "gPlay.19" o_gPlay_19,v_fine_0⟩,
 ⟨20,.outB "gPlay.20" o_gPlay_20,v_fine_0⟩,
 ⟨21,.outB "gPlay.21" o_gPlay_21,v_fine_0⟩,
 ⟨22,.outI "gPlay.22" o_gPlay_22,v_fine_0⟩,
 ⟨23,.outI "gPlay.23" o_gPlay_23,v_fine_0⟩,
 ⟨24,.outI "gPlay.24" o_gPlay_24,v_fine_0⟩,
 ⟨25,.outI "gPlay.25" o_gPlay_25,v_fine_0⟩,
 ⟨26,.outI "gPlay.26" o_gPlay_26,v_fine_0⟩,
 ⟨27,.row 1 2 [.i,.i],[.c (.int 2),.c (.int 2)]⟩,
 ⟨28,.outI "gPlay.0" o_gPlay_0,v_fine_1⟩,
 ⟨29,.outI "gPlay.1" o_gPlay_1,v_fine_1⟩,
 ⟨30,.outI "gPlay.2" o_gPlay_2,v_fine_1⟩,
 ⟨31,.outI "gPlay.3" o_gPlay_3,v_fine_1⟩]
noncomputable def a_fine_0_2:List En:=[⟨32,.outI "gPlay.4" o_gPlay_4,v_fine_1⟩,
 ⟨33,.outI "gPlay.5" o_gPlay_5,v_fine_1⟩,
 ⟨34,.outI "gPlay.6" o_gPlay_6,v_fine_1⟩,
 ⟨35,.outI "gPlay.7" o_gPlay_7,v_fine_1⟩,
 ⟨36,.outI "gPlay.8" o_gPlay_8,v_fine_1⟩,
 ⟨37,.outB "gPlay.9" o_gPlay_9,v_fine_1⟩,
 ⟨38,.outB "gPlay.10" o_gPlay_10,v_fine_1⟩,
 ⟨39,.outB "gPlay.11" o_gPlay_11,v_fine_1⟩,
 ⟨40,.outB "gPlay.12" o_gPlay_12,v_fine_1⟩,
 ⟨41,.outB "gPlay.13" o_gPlay_13,v_fine_1⟩,
 ⟨42,.outB "gPlay.14" o_gPlay_14,v_fine_1⟩,
 ⟨43,.outB "gPlay.15" o_gPlay_15,v_fine_1⟩,
 ⟨44,.outB "gPlay.16" o_gPlay_16,v_fine_1⟩,
 ⟨45,.outI "gPlay.17" o_gPlay_17,v_fine_1⟩,
 ⟨46,.outI "gPlay.18" o_gPlay_18,v_fine_1⟩,
 ⟨47,.outB "gPlay.19" o_gPlay_19,v_fine_1⟩]
noncomputable def a_fine_0_3:List En:=[⟨48,.outB "gPlay.20" o_gPlay_20,v_fine_1⟩,
 ⟨49,.outB "gPlay.21" o_gPlay_21,v_fine_1⟩,
 ⟨50,.outI "gPlay.22" o_gPlay_22,v_fine_1⟩,
 ⟨51,.outI "gPlay.23" o_gPlay_23,v_fine_1⟩,
 ⟨52,.outI "gPlay.24" o_gPlay_24,v_fine_1⟩,
 ⟨53,.outI "gPlay.25" o_gPlay_25,v_fine_1⟩,
 ⟨54,.outI "gPlay.26" o_gPlay_26,v_fine_1⟩,
 ⟨55,.w2 .i64 .add,[.e 26,.e 54]⟩,
 ⟨56,.eq,[.e 55,.c (.int 0)]⟩,
 ⟨57,.id .b,[.e 56]⟩,
 ⟨58,.eq,[.e 1,.c (.int 1)]⟩,
 ⟨59,.and,[.e 56,.e 58]⟩,
 ⟨60,.id .b,[.e 59]⟩,
 ⟨61,.eq,[.e 3,.c (.int 2)]⟩,
 ⟨62,.and,[.e 59,.e 61]⟩,
 ⟨63,.id .b,[.e 62]⟩]
noncomputable def a_fine_0_4:List En:=[⟨64,.eq,[.e 22,.c (.int 1)]⟩,
 ⟨65,.and,[.e 62,.e 64]⟩,
 ⟨66,.id .b,[.e 65]⟩,
 ⟨67,.eq,[.e 29,.c (.int 3)]⟩,
 ⟨68,.and,[.e 65,.e 67]⟩,
 ⟨69,.id .b,[.e 68]⟩,
 ⟨70,.eqs [.i,.i,.i,.i],[.e 33,.c (.int 0),.e 34,.c (.int 0),.e 35,.c (.int 1),.e 36,.c (.int 0)]⟩,
 ⟨71,.and,[.e 68,.e 70]⟩]
noncomputable def a_fine_0:List En:=a_fine_0_0++(a_fine_0_1++(a_fine_0_2++(a_fine_0_3++(a_fine_0_4))))
noncomputable def q_fine:List ObE:=[]
def r_fine:List Rf:=[.e 71]
end Go.Eng
end
section
open Go Go.Eng Go.Proofs
set_option maxHeartbeats 4000000
set_option maxRecDepth 100000
namespace Go.Eng
theorem s_fine:t_fine.sees r_fine (t_fine.run Try.prog [(12,t_gPlay)] hints 3000 20 11)=some ((a_fine_0).map En.be,q_fine.map ObE.be,[]):=by kernel_rfl
theorem m_fine {T:Tab}(g1:Gm)(z1:g1=Gm.mk 0 0 0 (-1) (-1) 0 0 0 0 false false false false false false false false 3 0 false false false 0 0 (-1) (-1))(g2:Gm)(z2:g2=Gm.mk (I T 0) (I T 1) (I T 2) (I T 3) (I T 4) (I T 5) (I T 6) (I T 7) (I T 8) (B T 9) (B T 10) (B T 11) (B T 12) (B T 13) (B T 14) (B T 15) (B T 16) (I T 17) (I T 18) (B T 19) (B T 20) (B T 21) (I T 22) (I T 23) (I T 24) (I T 25))(A0:Facts T a_fine_0):
  ((B T 71)=(true)):=by
 obtain⟨F0,A0⟩:=A0.cut
 obtain⟨F1,A0⟩:=A0.cut
 obtain⟨F2,A0⟩:=A0.cut
 obtain⟨F3,A0⟩:=A0.cut
 have F4:=A0;clear A0
 have cr1_0:Gm.mk (I T 0) (I T 1) (I T 2) (I T 3) (I T 4) (I T 5) (I T 6) (I T 7) (I T 8) (B T 9) (B T 10) (B T 11) (B T 12) (B T 13) (B T 14) (B T 15) (B T 16) (I T 17) (I T 18) (B T 19) (B T 20) (B T 21) (I T 22) (I T 23) (I T 24) (I T 25)=resS g1 1 2 false ([]:List (List U)):=by
  obtain⟨e0,e1,e2,e3,e4,e5,e6,e7,e8,e9,e10,e11,e12,e13,e14,e15,-⟩:=F0
  obtain⟨e16,e17,e18,e19,e20,e21,e22,e23,e24,e25,-⟩:=F1
  rw[←show gAt 0 (v_fine_0.map (Rf.eval T))=g1 from z1.symm]
  exact gm_congr e0 e1 e2 e3 e4 e5 e6 e7 e8 e9 e10 e11 e12 e13 e14 e15 e16 e17 e18 e19 e20 e21 e22 e23 e24 e25
 have cr2_0:Gm.mk (I T 28) (I T 29) (I T 30) (I T 31) (I T 32) (I T 33) (I T 34) (I T 35) (I T 36) (B T 37) (B T 38) (B T 39) (B T 40) (B T 41) (B T 42) (B T 43) (B T 44) (I T 45) (I T 46) (B T 47) (B T 48) (B T 49) (I T 50) (I T 51) (I T 52) (I T 53)=resS g2 2 0 false (L T 27):=by
  obtain⟨-,-,-,-,-,-,-,-,-,-,-,-,e28,e29,e30,e31,-⟩:=F1
  obtain⟨e32,e33,e34,e35,e36,e37,e38,e39,e40,e41,e42,e43,e44,e45,e46,e47,-⟩:=F2
  obtain⟨e48,e49,e50,e51,e52,e53,-⟩:=F3
  rw[←show gAt 0 (v_fine_1.map (Rf.eval T))=g2 from z2.symm]
  exact gm_congr e28 e29 e30 e31 e32 e33 e34 e35 e36 e37 e38 e39 e40 e41 e42 e43 e44 e45 e46 e47 e48 e49 e50 e51 e52 e53
 ·obtain⟨-,-,-,-,-,-,-,-,-,-,e26,e27,-⟩:=F1
  obtain⟨-,-,-,-,-,-,e54,e55,e56,-,e58,e59,-,e61,e62,-⟩:=F3
  obtain⟨e64,e65,-,e67,e68,-,e70,e71,-⟩:=F4
  replace e26:I T 26=(errS g1 1 2 false ([]:List (List U))):=by rw[←show gAt 0 (v_fine_0.map (Rf.eval T))=g1 from z1.symm];exact e26
  replace e54:I T 54=(errS g2 2 0 false (L T 27)):=by rw[←show gAt 0 (v_fine_1.map (Rf.eval T))=g2 from z2.symm];exact e54
  simp only[fact,bR_e,zR,eqsP,and_true,w2P,zL,uR,chunk,zW] at e27 e55 e56 e58 e59 e61 e62 e64 e65 e67 e68 e70 e71
  have r1:resS g1 1 2 false ([]:List (List U))=Gm.mk 0 1 0 2 (-1) 0 0 0 0 false false true false false false false false 3 0 false false false 1 0 (-1) (-1):=by rw[z1];kernel_rfl
  have x1:errS g1 1 2 false ([]:List (List U))=0:=by rw[z1];kernel_rfl
  have s2:g2=Gm.mk 0 1 0 2 (-1) 0 0 0 0 false false true false false false false false 3 0 false false false 1 0 (-1) (-1):=by rw[z2,cr1_0,r1]
  have hl:(L T 27)=[[U.int 2,U.int 2]]:=e27
  have r2:resS g2 2 0 false (L T 27)=Gm.mk 0 3 0 2 (-1) 0 0 1 0 false false true false false false false false 3 0 false false false 1 0 (-1) (-1):=by rw[s2,hl];kernel_rfl
  have x2:errS g2 2 0 false (L T 27)=0:=by rw[s2,hl];kernel_rfl
  rw[r2] at cr2_0
  rw[r1] at cr1_0
  rw[x1] at e26
  rw[x2] at e54
  simp only[Gm.mk.injEq] at cr1_0 cr2_0
  clear s2 z1 z2 r1 r2 x1 x2 hl e27
  grind
theorem ok_fine:TmplOK Try.prog 11 t_fine:=by
 refine tmpl_sees (l:=[(12,t_gPlay)]) mixed (by simp only[List.forall_mem_cons];exact⟨ok_gPlay,fun _ h=>absurd h (by simp)⟩) s_fine (by kernel_rfl) fun T us hpre hT hul hS hBd hE=>?_
 change us.length=0 at hul
 clear hBd
 clear hpre
 skip
 obtain⟨A0,hO⟩:=chkO_ok (tys:=[.b]) (rs:=r_fine) hS (by kernel_rfl) hE
 obtain⟨g1,z1⟩:∃g:Gm,g=Gm.mk 0 0 0 (-1) (-1) 0 0 0 0 false false false false false false false false 3 0 false false false 0 0 (-1) (-1):=⟨_,rfl⟩
 obtain⟨g2,z2⟩:∃g:Gm,g=Gm.mk (I T 0) (I T 1) (I T 2) (I T 3) (I T 4) (I T 5) (I T 6) (I T 7) (I T 8) (B T 9) (B T 10) (B T 11) (B T 12) (B T 13) (B T 14) (B T 15) (B T 16) (I T 17) (I T 18) (B T 19) (B T 20) (B T 21) (I T 22) (I T 23) (I T 24) (I T 25):=⟨_,rfl⟩
 have q0:=m_fine g1 z1 g2 z2 A0
 refine⟨trivial,hO.trans ?_⟩
 exact (lc (by show U.bool (B T 71)= .bool (o_fine_0 us);unfold o_fine_0;exact congrArg U.bool q0) rfl)
end Go.Eng
end
