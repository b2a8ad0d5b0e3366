/-
  A part of the proof: K_lTurnsd K_lTurns.
-/
import Derived.Test.YtcinpabggaepfaaXQlTurns
import Derived.Test.YtcinpabggaepfaaE3
import Derived.Test.YtcinpabggaepfaaE4
import Derived.Test.YtcinpabggaepfaaKgPlay
import Derived.Test.YtcinpabggaepfaaKrcheck
import Derived.Test.YtcinpabggaepfaaKrfollow
import Derived.Test.YtcinpabggaepfaaKfine
set_option linter.unusedVariables false
set_option linter.unusedSimpArgs false
section
open Go Go.Eng Go.Proofs
set_option maxHeartbeats 4000000
set_option maxRecDepth 100000
namespace Go.Eng
def k_lTurns:List Kd:=[k64,k64,k64,k64,k64,k64,k64,k64,k64,.bool,.bool,.bool,.bool,.bool,.bool,.bool,.bool,k64,k64,.bool,.bool,.bool,k64,k64,k64,k64,k64,k64,.bool,.list [k64,k64]]
noncomputable def as_lTurns:List AC:=((argsAC Try.prog 9 Try.f4.params.toList 0).map (·.1)).getD []
def v_lTurns_0:List Rf:=[.e 0,.e 1,.e 2,.e 3,.e 4,.e 5,.e 6,.e 7,.e 8,.e 9,.e 10,.e 11,.e 12,.e 13,.e 14,.e 15,.e 16,.e 17,.e 18,.e 19,.e 20,.e 21,.e 22,.e 23,.e 24,.e 25]
def v_lTurns_1:List Rf:=[.e 0,.e 1,.e 2,.e 3,.e 4,.e 5,.e 6,.e 7,.e 8,.e 9,.e 10,.e 11,.e 12,.e 13,.e 14,.e 15,.e 16,.e 17,.e 18,.e 19,.e 20,.e 21,.e 22,.e 23,.e 24,.e 25,.e 26,.e 27,.e 28,.e 29]
noncomputable def a_lTurns_0_0:List En:=[⟨30,.len,[.e 29]⟩,
 ⟨31,.lt,[.c (.int 40),.e 30]⟩,
 ⟨32,.not,[.e 31]⟩,
 ⟨33,.outI "rcheck.0" o_rcheck_0,v_lTurns_0⟩,
 ⟨34,.ne,[.e 33,.c (.int 0)]⟩,
 ⟨35,.or,[.e 31,.e 34]⟩,
 ⟨36,.outB "fine.0" o_fine_0,[]⟩,
 ⟨37,.not,[.e 35]⟩,
 ⟨38,.outI "gPlay.0" o_gPlay_0,v_lTurns_1⟩,
 ⟨39,.outI "gPlay.1" o_gPlay_1,v_lTurns_1⟩,
 ⟨40,.outI "gPlay.2" o_gPlay_2,v_lTurns_1⟩,
 ⟨41,.outI "gPlay.3" o_gPlay_3,v_lTurns_1⟩,
 ⟨42,.outI "gPlay.4" o_gPlay_4,v_lTurns_1⟩,
 ⟨43,.outI "gPlay.5" o_gPlay_5,v_lTurns_1⟩,
 ⟨44,.outI "gPlay.6" o_gPlay_6,v_lTurns_1⟩,
 ⟨45,.outI "gPlay.7" o_gPlay_7,v_lTurns_1⟩]
noncomputable def a_lTurns_0_1:List En:=[⟨46,.outI "gPlay.8" o_gPlay_8,v_lTurns_1⟩,
 ⟨47,.outB "gPlay.9" o_gPlay_9,v_lTurns_1⟩,
 ⟨48,.outB "gPlay.10" o_gPlay_10,v_lTurns_1⟩,
 ⟨49,.outB "gPlay.11" o_gPlay_11,v_lTurns_1⟩,
 ⟨50,.outB "gPlay.12" o_gPlay_12,v_lTurns_1⟩,
 ⟨51,.outB "gPlay.13" o_gPlay_13,v_lTurns_1⟩,
 ⟨52,.outB "gPlay.14" o_gPlay_14,v_lTurns_1⟩,
 ⟨53,.outB "gPlay.15" o_gPlay_15,v_lTurns_1⟩,
 ⟨54,.outB "gPlay.16" o_gPlay_16,v_lTurns_1⟩,
 ⟨55,.outI "gPlay.17" o_gPlay_17,v_lTurns_1⟩,
 ⟨56,.outI "gPlay.18" o_gPlay_18,v_lTurns_1⟩,
 ⟨57,.outB "gPlay.19" o_gPlay_19,v_lTurns_1⟩,
 ⟨58,.outB "gPlay.20" o_gPlay_20,v_lTurns_1⟩,
 ⟨59,.outB "gPlay.21" o_gPlay_21,v_lTurns_1⟩,
 ⟨60,.outI "gPlay.22" o_gPlay_22,v_lTurns_1⟩,
 ⟨61,.outI "gPlay.23" o_gPlay_23,v_lTurns_1⟩]
noncomputable def a_lTurns_0_2:List En:=[⟨62,.outI "gPlay.24" o_gPlay_24,v_lTurns_1⟩,
 ⟨63,.outI "gPlay.25" o_gPlay_25,v_lTurns_1⟩,
 ⟨64,.outI "gPlay.26" o_gPlay_26,v_lTurns_1⟩,
 ⟨65,.ne,[.e 64,.c (.int 0)]⟩,
 ⟨66,.and,[.e 37,.e 65]⟩,
 ⟨67,.outB "fine.0" o_fine_0,[]⟩,
 ⟨68,.and,[.e 37,.n 65]⟩,
 ⟨69,.eq,[.e 26,.c (.int 1)]⟩,
 ⟨70,.and,[.e 68,.n 69]⟩,
 ⟨71,.eq,[.e 26,.c (.int 4)]⟩,
 ⟨72,.or,[.e 69,.e 71]⟩,
 ⟨73,.and,[.e 68,.n 72]⟩,
 ⟨74,.eq,[.e 26,.c (.int 5)]⟩,
 ⟨75,.or,[.e 72,.e 74]⟩,
 ⟨76,.and,[.e 68,.n 75]⟩,
 ⟨77,.eq,[.e 26,.c (.int 3)]⟩]
noncomputable def a_lTurns_0_3:List En:=[⟨78,.and,[.e 76,.e 77]⟩,
 ⟨79,.eq,[.e 1,.c (.int 0)]⟩,
 ⟨80,.and,[.e 77,.e 79]⟩,
 ⟨81,.or,[.e 75,.e 80]⟩,
 ⟨82,.and,[.e 68,.e 81]⟩,
 ⟨83,.outI "rfollow.0" o_rfollow_0,[.e 22]⟩,
 ⟨84,.and,[.e 68,.n 81]⟩,
 ⟨85,.ite .i,[.e 81,.e 83,.e 22]⟩,
 ⟨86,.ne,[.e 60,.e 85]⟩,
 ⟨87,.and,[.e 68,.n 86]⟩,
 ⟨88,.and,[.e 87,.e 75]⟩,
 ⟨89,.ne,[.e 39,.c (.int 1)]⟩,
 ⟨90,.and,[.e 88,.n 89]⟩,
 ⟨91,.ne,[.e 41,.e 27]⟩,
 ⟨92,.or,[.e 89,.e 91]⟩,
 ⟨93,.and,[.e 88,.n 92]⟩]
noncomputable def a_lTurns_0_4:List En:=[⟨94,.o2 .tmod,[.e 27,.c (.int 2)]⟩,
 ⟨95,.ne,[.e 40,.e 94]⟩,
 ⟨96,.or,[.e 92,.e 95]⟩,
 ⟨97,.and,[.e 75,.e 96]⟩,
 ⟨98,.or,[.e 86,.e 97]⟩,
 ⟨99,.and,[.e 68,.e 98]⟩,
 ⟨100,.and,[.e 68,.n 98]⟩,
 ⟨101,.eq,[.e 39,.c (.int 0)]⟩,
 ⟨102,.and,[.e 100,.e 101]⟩,
 ⟨103,.w2 .i64 .sub,[.c (.int 1),.e 2]⟩,
 ⟨104,.ne,[.e 40,.e 103]⟩,
 ⟨105,.and,[.e 101,.e 104]⟩,
 ⟨106,.and,[.e 100,.e 105]⟩,
 ⟨107,.and,[.e 100,.n 105]⟩,
 ⟨108,.w2 .i64 .add,[.e 17,.e 18]⟩,
 ⟨109,.w2 .i64 .sub,[.e 108,.e 55]⟩]
noncomputable def a_lTurns_0_5:List En:=[⟨110,.w2 .i64 .sub,[.e 109,.e 56]⟩,
 ⟨111,.eq,[.e 26,.c (.int 4)]⟩,
 ⟨112,.and,[.e 107,.e 111]⟩,
 ⟨113,.and,[.e 107,.n 111]⟩,
 ⟨114,.ite .i,[.e 111,.c (.int 2),.c (.int 0)]⟩,
 ⟨115,.eq,[.e 26,.c (.int 5)]⟩,
 ⟨116,.and,[.e 107,.e 115]⟩,
 ⟨117,.and,[.e 107,.n 115]⟩,
 ⟨118,.ite .i,[.e 115,.c (.int 1),.e 114]⟩,
 ⟨119,.eq,[.e 110,.e 118]⟩,
 ⟨120,.and,[.e 107,.e 119]⟩,
 ⟨121,.eq,[.e 26,.c (.int 5)]⟩,
 ⟨122,.and,[.e 120,.n 121]⟩,
 ⟨123,.and,[.e 122,.e 21]⟩,
 ⟨124,.eq,[.e 26,.c (.int 2)]⟩,
 ⟨125,.and,[.e 21,.e 124]⟩]
noncomputable def a_lTurns_0_6:List En:=[⟨126,.and,[.e 122,.e 125]⟩,
 ⟨127,.ne,[.e 39,.c (.int 0)]⟩,
 ⟨128,.and,[.e 125,.e 127]⟩,
 ⟨129,.and,[.e 122,.e 128]⟩,
 ⟨130,.ne,[.e 39,.c (.int 4)]⟩,
 ⟨131,.and,[.e 128,.e 130]⟩,
 ⟨132,.or,[.e 121,.e 131]⟩,
 ⟨133,.eqb,[.e 59,.e 132]⟩,
 ⟨134,.and,[.e 119,.e 133]⟩,
 ⟨135,.and,[.e 107,.e 134]⟩,
 ⟨136,.outB "fine.0" o_fine_0,[]⟩,
 ⟨137,.and,[.e 134,.e 136]⟩,
 ⟨138,.ite .b,[.e 106,.c (.bool false),.e 137]⟩,
 ⟨139,.or,[.e 106,.e 107]⟩,
 ⟨140,.ite .b,[.e 99,.c (.bool false),.e 138]⟩,
 ⟨141,.or,[.e 99,.e 139]⟩]
noncomputable def a_lTurns_0_7:List En:=[⟨142,.ite .b,[.e 66,.e 67,.e 140]⟩,
 ⟨143,.or,[.e 66,.e 141]⟩,
 ⟨144,.ite .b,[.e 35,.e 36,.e 142]⟩,
 ⟨145,.or,[.e 35,.e 143]⟩]
noncomputable def a_lTurns_0:List En:=a_lTurns_0_0++(a_lTurns_0_1++(a_lTurns_0_2++(a_lTurns_0_3++(a_lTurns_0_4++(a_lTurns_0_5++(a_lTurns_0_6++(a_lTurns_0_7)))))))
noncomputable def q_lTurns:List ObE:=[⟨some 82,.pre "rfollow.p0" p_rfollow_0,[.e 22]⟩]
def r_lTurns:List Rf:=[.e 144]
end Go.Eng
end
section
open Go Go.Eng Go.Proofs
set_option maxHeartbeats 4000000
set_option maxRecDepth 100000
namespace Go.Eng
theorem s_lTurns:seesL 30 (lawRun Try.prog [(12,t_gPlay),(14,t_rcheck),(15,t_rfollow),(11,t_fine)] hints 3000 20 4 as_lTurns 30)=some (144,(a_lTurns_0).map En.be,q_lTurns.map ObE.be):=by kernel_rfl
theorem m_lTurns {T:Tab}(hl29:(L T 29).length≤140737488355328)(g:Gm)(hg:g=Gm.mk (I T 0) (I T 1) (I T 2) (I T 3) (I T 4) (I T 5) (I T 6) (I T 7) (I T 8) (B T 9) (B T 10) (B T 11) (B T 12) (B T 13) (B T 14) (B T 15) (B T 16) (I T 17) (I T 18) (B T 19) (B T 20) (B T 21) (I T 22) (I T 23) (I T 24) (I T 25))(hb29:(L T 29).length≤1048576)(g1:Gm)(z1:g1=Gm.mk (I T 0) (I T 1) (I T 2) (I T 3) (I T 4) (I T 5) (I T 6) (I T 7) (I T 8) (B T 9) (B T 10) (B T 11) (B T 12) (B T 13) (B T 14) (B T 15) (B T 16) (I T 17) (I T 18) (B T 19) (B T 20) (B T 21) (I T 22) (I T 23) (I T 24) (I T 25))(g2:Gm)(z2:g2=Gm.mk (I T 0) (I T 1) (I T 2) (I T 3) (I T 4) (I T 5) (I T 6) (I T 7) (I T 8) (B T 9) (B T 10) (B T 11) (B T 12) (B T 13) (B T 14) (B T 15) (B T 16) (I T 17) (I T 18) (B T 19) (B T 20) (B T 21) (I T 22) (I T 23) (I T 24) (I T 25))(A0:Facts T a_lTurns_0):
  ((B T 144)=(true))∧
  (B T 82=true→0≤I T 22∧I T 22≤1073741824):=by
 obtain⟨F0,A0⟩:=A0.cut
 obtain⟨F1,A0⟩:=A0.cut
 obtain⟨F2,A0⟩:=A0.cut
 obtain⟨F3,A0⟩:=A0.cut
 obtain⟨F4,A0⟩:=A0.cut
 obtain⟨F5,A0⟩:=A0.cut
 obtain⟨F6,A0⟩:=A0.cut
 have F7:=A0;clear A0
 have hgA:g1=g:=by rw[z1,hg]
 have hgB:g2=g:=by rw[z2,hg]
 have hleg:(I T 33)=0→legalS g=true:=by
  obtain⟨-,-,-,e33,-⟩:=F0
  replace e33:I T 33=((if legalS g1=true then 0 else 2)):=by rw[←show gAt 0 (v_lTurns_0.map (Rf.eval T))=g1 from z1.symm];exact e33
  rw[e33,hgA]
  intro h
  split at h
  ·assumption
  ·omega
 have h64:(I T 64)=errS g (I T 26) (I T 27) (B T 28) (L T 29):=by
  obtain⟨-,-,e64,-⟩:=F2
  replace e64:I T 64=(errS g2 (I T 26) (I T 27) (B T 28) (L T 29)):=by rw[←show gAt 0 (v_lTurns_1.map (Rf.eval T))=g2 from z2.symm];exact e64
  rw[e64,hgB]
 have cr2_0:Gm.mk (I T 38) (I T 39) (I T 40) (I T 41) (I T 42) (I T 43) (I T 44) (I T 45) (I T 46) (B T 47) (B T 48) (B T 49) (B T 50) (B T 51) (B T 52) (B T 53) (B T 54) (I T 55) (I T 56) (B T 57) (B T 58) (B T 59) (I T 60) (I T 61) (I T 62) (I T 63)=resS g2 (I T 26) (I T 27) (B T 28) (L T 29):=by
  obtain⟨-,-,-,-,-,-,-,-,e38,e39,e40,e41,e42,e43,e44,e45,-⟩:=F0
  obtain⟨e46,e47,e48,e49,e50,e51,e52,e53,e54,e55,e56,e57,e58,e59,e60,e61,-⟩:=F1
  obtain⟨e62,e63,-⟩:=F2
  rw[←show gAt 0 (v_lTurns_1.map (Rf.eval T))=g2 from z2.symm]
  exact gm_congr e38 e39 e40 e41 e42 e43 e44 e45 e46 e47 e48 e49 e50 e51 e52 e53 e54 e55 e56 e57 e58 e59 e60 e61 e62 e63
 have hpl:(I T 64)=0→((1≤I T 26∧I T 26≤5)∧I T 60=(if ((I T 26)=1∨I T 26=4∨I T 26=5)∨((I T 26)=3∧I T 1=0) then followS (I T 22) else (I T 22))∧((I T 26)=1∨I T 26=4∨I T 26=5→I T 39=1∧I T 41=I T 27∧I T 40=(I T 27) % 2∧0≤I T 27∧I T 27≤3)∧((I T 39)=0→I T 40=1 - (I T 2))∧((I T 17)+I T 18 - (I T 55) - (I T 56)=if (I T 26)=4 then 2 else if (I T 26)=5 then 1 else 0)∧((B T 59)=true↔I T 26=5∨((B T 21)=true∧I T 26=2∧¬I T 39=0∧¬I T 39=4))):=by
  obtain⟨-,-,e64,-⟩:=F2
  replace e64:I T 64=(errS g2 (I T 26) (I T 27) (B T 28) (L T 29)):=by rw[←show gAt 0 (v_lTurns_1.map (Rf.eval T))=g2 from z2.symm];exact e64
  intro h
  have he:errS g (I T 26) (I T 27) (B T 28) (L T 29)=0:=by rw[←h64];exact h
  rw[hgB] at cr2_0
  unfold resS at cr2_0
  rw[if_pos he] at cr2_0
  have p:=play_turns he cr2_0
  rw[hg] at p
  exact p
 have hhv:(I T 64)=0→(0≤I T 55∧I T 55≤40)∧(0≤I T 56∧I T 56≤40):=by
  obtain⟨-,-,e64,-⟩:=F2
  replace e64:I T 64=(errS g2 (I T 26) (I T 27) (B T 28) (L T 29)):=by rw[←show gAt 0 (v_lTurns_1.map (Rf.eval T))=g2 from z2.symm];exact e64
  intro h
  have he:errS g (I T 26) (I T 27) (B T 28) (L T 29)=0:=by rw[←h64];exact h
  rw[hgB] at cr2_0
  unfold resS at cr2_0
  rw[if_pos he] at cr2_0
  have p:=legal_halves (legal_res he)
  rw[←cr2_0] at p
  exact p
 have hhw:(I T 33)=0→(0≤I T 17∧I T 17≤40)∧(0≤I T 18∧I T 18≤40)∧(0≤I T 2∧I T 2≤1)∧(0≤I T 22∧I T 22≤1073741824):=by
  obtain⟨-,-,-,e33,-⟩:=F0
  replace e33:I T 33=((if legalS g1=true then 0 else 2)):=by rw[←show gAt 0 (v_lTurns_0.map (Rf.eval T))=g1 from z1.symm];exact e33
  intro h
  have x:=legal_halves (hleg h)
  have y:=legal_base (hleg h)
  have z:=y.side
  have w:=y.turns
  rw[hg] at x z w
  exact⟨x.1,x.2,z,w⟩
 clear hgA hgB hg h64 hleg cr2_0
 refine⟨?_,?_⟩
 ·obtain⟨-,e31,-,-,e34,e35,e36,e37,-⟩:=F0
  obtain⟨-,-,-,e65,e66,e67,e68,e69,-,e71,e72,-,e74,e75,-,e77,-⟩:=F2
  obtain⟨-,e79,e80,e81,-,e83,-,e85,e86,-,-,e89,-,e91,e92,-⟩:=F3
  obtain⟨e94,e95,e96,e97,e98,e99,e100,e101,-,e103,e104,e105,e106,-,e108,e109,-⟩:=F4
  obtain⟨e110,e111,-,-,e114,e115,-,-,e118,e119,-,e121,-,-,e124,e125,-⟩:=F5
  obtain⟨-,e127,e128,-,e130,e131,e132,e133,e134,-,e136,e137,e138,-,e140,-⟩:=F6
  obtain⟨e142,-,e144,-⟩:=F7
  replace e36:B T 36=(true):=e36
  replace e67:B T 67=(true):=e67
  replace e83:I T 83=(followS (I T 22)):=e83
  replace e136:B T 136=(true):=e136
  simp only[fact,bR_e,zN,zC,zR,op2P,w2P,zL] at e31 e34 e35 e37 e65 e66 e68 e69 e71 e72 e74 e75 e77 e79 e80 e81 e85 e86 e89 e91 e92 e94 e95 e96 e97 e98 e99 e100 e101 e103 e104 e105 e106 e108 e109 e110 e111 e114 e115 e118 e119 e121 e124 e125 e127 e128 e130 e131 e132 e133 e134 e137 e138 e140 e142 e144
  cases h35:(B T 35) with
  |true=>grind
  |false=>
   have h33:(I T 33)=0:=by grind
   obtain⟨m1,m2,m3,m4⟩:=hhw h33
   cases h65:(B T 65) with
   |true=>grind
   |false=>
    have h64:(I T 64)=0:=by grind
    obtain⟨m5,m6⟩:=hhv h64
    obtain⟨p1,p2,p3,p4,p5,p6⟩:=hpl h64
    clear hhw hhv hpl
    grind (splits:=100)
 ·obtain⟨-,-,-,-,e34,e35,-,e37,-⟩:=F0
  obtain⟨-,-,-,-,-,-,e68,-⟩:=F2
  obtain⟨-,-,-,-,e82,-⟩:=F3
  simp only[fact,bR_e,zN,zR] at e34 e35 e37 e68 e82
  intro h
  exact (hhw (by clear hpl hhv hhw;grind)).2.2.2
theorem args_lTurns:argsAC Try.prog 9 Try.f4.params.toList 0=some (as_lTurns,k_lTurns):=by kernel_rfl
theorem ctx_lTurns:∀p∈([(12,t_gPlay),(14,t_rcheck),(15,t_rfollow),(11,t_fine)]:List (FuncId × Tmpl)),TmplOK Try.prog p.1 p.2:=by simp only[List.forall_mem_cons];exact⟨ok_gPlay,ok_rcheck,ok_rfollow,ok_fine,fun _ h=>absurd h (by simp)⟩
theorem ok_lTurns:∀T:Tab,Strong T (envOf 0 k_lTurns)→Bnd T 0 k_lTurns→BndL 1048576 T 0 k_lTurns→AllB T ((a_lTurns_0).map En.be)→AllG T q_lTurns∧B T 144=true:=by
 intro T hS hBd hBl hE
 obtain⟨⟨lo0,hi0⟩,⟨lo1,hi1⟩,⟨lo2,hi2⟩,⟨lo3,hi3⟩,⟨lo4,hi4⟩,⟨lo5,hi5⟩,⟨lo6,hi6⟩,⟨lo7,hi7⟩,⟨lo8,hi8⟩,⟨lo17,hi17⟩,⟨lo18,hi18⟩,⟨lo22,hi22⟩,⟨lo23,hi23⟩,⟨lo24,hi24⟩,⟨lo25,hi25⟩,⟨lo26,hi26⟩,⟨lo27,hi27⟩,⟨hl29,he29⟩,-⟩:=hBd
 clear lo0 hi0
 clear lo1 hi1
 clear lo2 hi2
 clear lo3 hi3
 clear lo4 hi4
 clear lo5 hi5
 clear lo6 hi6
 clear lo7 hi7
 clear lo8 hi8
 clear lo17 hi17
 clear lo18 hi18
 clear lo22 hi22
 clear lo23 hi23
 clear lo24 hi24
 clear lo25 hi25
 clear lo26 hi26
 clear lo27 hi27
 replace hl29:(L T 29).length≤140737488355328:=hl29
 obtain⟨g,hg⟩:∃g:Gm,g=Gm.mk (I T 0) (I T 1) (I T 2) (I T 3) (I T 4) (I T 5) (I T 6) (I T 7) (I T 8) (B T 9) (B T 10) (B T 11) (B T 12) (B T 13) (B T 14) (B T 15) (B T 16) (I T 17) (I T 18) (B T 19) (B T 20) (B T 21) (I T 22) (I T 23) (I T 24) (I T 25):=⟨_,rfl⟩
 obtain⟨hb29,-⟩:=hBl
 replace hb29:(L T 29).length≤1048576:=hb29
 skip
 obtain⟨A0,hO⟩:=chkO_ok (tys:=[.b]) (rs:=r_lTurns) hS (by kernel_rfl) hE
 obtain⟨g1,z1⟩:∃g:Gm,g=Gm.mk (I T 0) (I T 1) (I T 2) (I T 3) (I T 4) (I T 5) (I T 6) (I T 7) (I T 8) (B T 9) (B T 10) (B T 11) (B T 12) (B T 13) (B T 14) (B T 15) (B T 16) (I T 17) (I T 18) (B T 19) (B T 20) (B T 21) (I T 22) (I T 23) (I T 24) (I T 25):=⟨_,rfl⟩
 obtain⟨g2,z2⟩:∃g:Gm,g=Gm.mk (I T 0) (I T 1) (I T 2) (I T 3) (I T 4) (I T 5) (I T 6) (I T 7) (I T 8) (B T 9) (B T 10) (B T 11) (B T 12) (B T 13) (B T 14) (B T 15) (B T 16) (I T 17) (I T 18) (B T 19) (B T 20) (B T 21) (I T 22) (I T 23) (I T 24) (I T 25):=⟨_,rfl⟩
 obtain⟨q0,r0⟩:=m_lTurns hl29 g hg hb29 g1 z1 g2 z2 A0
 exact⟨⟨r0,trivial⟩,q0⟩
end Go.Eng
end
