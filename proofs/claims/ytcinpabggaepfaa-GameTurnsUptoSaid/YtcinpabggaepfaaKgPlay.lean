/-
  A part of the proof: K_gPlayd K_gPlay.
-/
import Derived.Test.YtcinpabggaepfaaE3
import Derived.Test.YtcinpabggaepfaaE4
import Derived.Test.YtcinpabggaepfaaKgposs
import Derived.Test.YtcinpabggaepfaaKglegal
import Derived.Test.YtcinpabggaepfaaKgmove
set_option linter.unusedVariables false
set_option linter.unusedSimpArgs false
section
open Go Go.Eng Go.Proofs
set_option maxHeartbeats 4000000
set_option maxRecDepth 100000
namespace Go.Eng
def og_gPlay (us:List U):Gm:=resS (gAt 0 us) (aI us 26) (aI us 27) (aB us 28) (aL us 29)
def o_gPlay_0 (us:List U):Int:=(og_gPlay us).code
def o_gPlay_1 (us:List U):Int:=(og_gPlay us).phase
def o_gPlay_2 (us:List U):Int:=(og_gPlay us).side
def o_gPlay_3 (us:List U):Int:=(og_gPlay us).ball
def o_gPlay_4 (us:List U):Int:=(og_gPlay us).taken
def o_gPlay_5 (us:List U):Int:=(og_gPlay us).p0
def o_gPlay_6 (us:List U):Int:=(og_gPlay us).p1
def o_gPlay_7 (us:List U):Int:=(og_gPlay us).p2
def o_gPlay_8 (us:List U):Int:=(og_gPlay us).p3
def o_gPlay_9 (us:List U):Bool:=(og_gPlay us).n0
def o_gPlay_10 (us:List U):Bool:=(og_gPlay us).n1
def o_gPlay_11 (us:List U):Bool:=(og_gPlay us).n2
def o_gPlay_12 (us:List U):Bool:=(og_gPlay us).n3
def o_gPlay_13 (us:List U):Bool:=(og_gPlay us).d0
def o_gPlay_14 (us:List U):Bool:=(og_gPlay us).d1
def o_gPlay_15 (us:List U):Bool:=(og_gPlay us).d2
def o_gPlay_16 (us:List U):Bool:=(og_gPlay us).d3
def o_gPlay_17 (us:List U):Int:=(og_gPlay us).h0
def o_gPlay_18 (us:List U):Int:=(og_gPlay us).h1
def o_gPlay_19 (us:List U):Bool:=(og_gPlay us).l0
def o_gPlay_20 (us:List U):Bool:=(og_gPlay us).l1
def o_gPlay_21 (us:List U):Bool:=(og_gPlay us).half
def o_gPlay_22 (us:List U):Int:=(og_gPlay us).turns
def o_gPlay_23 (us:List U):Int:=(og_gPlay us).began
def o_gPlay_24 (us:List U):Int:=(og_gPlay us).lastb
def o_gPlay_25 (us:List U):Int:=(og_gPlay us).winner
def o_gPlay_26:List U→Int:=fun us=>(errS (gAt 0 us) (aI us 26) (aI us 27) (aB us 28) (aL us 29))
def t_gPlay:Tmpl:={ sh:=[.agg [k64,k64,k64,k64,k64,k64,k64,k64,k64,.bool,.bool,.bool,.bool,.bool,.bool,.bool,.bool,k64,k64,.bool,.bool,.bool,k64,k64,k64,k64],.agg [k64,k64,.bool,.list [k64,k64]]],blks:=[],outs:=[(.s "gPlay.0",outUI o_gPlay_0),(.s "gPlay.1",outUI o_gPlay_1),(.s "gPlay.2",outUI o_gPlay_2),(.s "gPlay.3",outUI o_gPlay_3),(.s "gPlay.4",outUI o_gPlay_4),(.s "gPlay.5",outUI o_gPlay_5),(.s "gPlay.6",outUI o_gPlay_6),(.s "gPlay.7",outUI o_gPlay_7),(.s "gPlay.8",outUI o_gPlay_8),(.s "gPlay.9",outUB o_gPlay_9),(.s "gPlay.10",outUB o_gPlay_10),(.s "gPlay.11",outUB o_gPlay_11),(.s "gPlay.12",outUB o_gPlay_12),(.s "gPlay.13",outUB o_gPlay_13),(.s "gPlay.14",outUB o_gPlay_14),(.s "gPlay.15",outUB o_gPlay_15),(.s "gPlay.16",outUB o_gPlay_16),(.s "gPlay.17",outUI o_gPlay_17),(.s "gPlay.18",outUI o_gPlay_18),(.s "gPlay.19",outUB o_gPlay_19),(.s "gPlay.20",outUB o_gPlay_20),(.s "gPlay.21",outUB o_gPlay_21),(.s "gPlay.22",outUI o_gPlay_22),(.s "gPlay.23",outUI o_gPlay_23),(.s "gPlay.24",outUI o_gPlay_24),(.s "gPlay.25",outUI o_gPlay_25),(.s "gPlay.26",outUI o_gPlay_26)],c:= .tup [.agg [(aI64 30),(aI64 31),(aI64 32),(aI64 33),(aI64 34),(aI64 35),(aI64 36),(aI64 37),(aI64 38),.b 39,.b 40,.b 41,.b 42,.b 43,.b 44,.b 45,.b 46,(aI64 47),(aI64 48),.b 49,.b 50,.b 51,(aI64 52),(aI64 53),(aI64 54),(aI64 55)],(aI64 56)],m':=[],pre:=[] }
def v_gPlay_0:List Rf:=[.e 0,.e 1,.e 2,.e 3,.e 4,.e 5,.e 6,.e 7,.e 8,.e 9,.e 10,.e 11,.e 12,.e 13,.e 14,.e 15,.e 16,.e 17,.e 18,.e 19,.e 20,.e 21,.e 22,.e 23,.e 24,.e 25,.e 41,.e 42,.e 43,.e 44,.e 45,.e 46]
def v_gPlay_1:List Rf:=[.e 26,.e 27,.e 28,.e 29,.e 0,.e 1,.e 2,.e 3,.e 4,.e 5,.e 6,.e 7,.e 8,.e 9,.e 10,.e 11,.e 12,.e 13,.e 14,.e 15,.e 16,.e 17,.e 18,.e 19,.e 20,.e 21,.e 22,.e 23,.e 24,.e 25,.e 41,.e 42,.e 43,.e 44,.e 45,.e 46]
def w_gPlay:List (Nat × Ty):=[(120,.i),(121,.i),(122,.i),(123,.i),(124,.i),(125,.i),(126,.i),(127,.i),(128,.i),(129,.b),(130,.b),(131,.b),(132,.b),(133,.b),(134,.b),(135,.b),(136,.b),(137,.i),(138,.i),(139,.b),(140,.b),(141,.b),(142,.i),(143,.i),(144,.i),(145,.i)]
noncomputable def a_gPlay_0_0:List En:=[⟨30,.lt,[.e 0,.c (.int 0)]⟩,
 ⟨31,.not,[.e 30]⟩,
 ⟨32,.le,[.c (.int 4),.e 0]⟩,
 ⟨33,.or,[.e 30,.e 32]⟩,
 ⟨34,.not,[.e 33]⟩,
 ⟨35,.pick .i,[.e 0,.c (.int 12),.c (.int 12),.c (.int 6),.c (.int 12)]⟩,
 ⟨36,.pick .i,[.e 0,.c (.int 0),.c (.int 7),.c (.int 0),.c (.int 0)]⟩,
 ⟨37,.pick .i,[.e 0,.c (.int 0),.c (.int 10),.c (.int 0),.c (.int 0)]⟩,
 ⟨38,.pick .b,[.e 0,.c (.bool true),.c (.bool true),.c (.bool true),.c (.bool false)]⟩,
 ⟨39,.pick .b,[.e 0,.c (.bool true),.c (.bool false),.c (.bool true),.c (.bool false)]⟩,
 ⟨40,.pick .b,[.e 0,.c (.bool false),.c (.bool false),.c (.bool false),.c (.bool true)]⟩,
 ⟨41,.ite .i,[.e 33,.c (.int 0),.e 35]⟩,
 ⟨42,.ite .i,[.e 33,.c (.int 0),.e 36]⟩,
 ⟨43,.ite .i,[.e 33,.c (.int 0),.e 37]⟩,
 ⟨44,.ite .b,[.e 33,.c (.bool false),.e 38]⟩,
 ⟨45,.ite .b,[.e 33,.c (.bool false),.e 39]⟩]
noncomputable def a_gPlay_0_1:List En:=[⟨46,.ite .b,[.e 33,.c (.bool false),.e 40]⟩,
 ⟨47,.ite .i,[.e 33,.c (.int 3),.c (.int 0)]⟩,
 ⟨48,.or,[.e 33,.e 34]⟩,
 ⟨49,.ne,[.e 47,.c (.int 0)]⟩,
 ⟨50,.not,[.e 49]⟩,
 ⟨51,.outB "gposs.0" o_gposs_0,v_gPlay_0⟩,
 ⟨52,.or,[.e 49,.n 51]⟩,
 ⟨53,.not,[.e 52]⟩,
 ⟨54,.outB "glegal.0" o_glegal_0,v_gPlay_0⟩,
 ⟨55,.or,[.e 52,.n 54]⟩,
 ⟨56,.not,[.e 55]⟩,
 ⟨57,.ite .i,[.e 55,.c (.int 2),.c (.int 0)]⟩,
 ⟨58,.not,[.e 55]⟩,
 ⟨59,.or,[.e 55,.e 56]⟩,
 ⟨60,.ne,[.e 57,.c (.int 0)]⟩,
 ⟨61,.not,[.e 60]⟩]
noncomputable def a_gPlay_0_2:List En:=[⟨62,.outI "gmove.0" o_gmove_0,v_gPlay_1⟩,
 ⟨63,.outI "gmove.1" o_gmove_1,v_gPlay_1⟩,
 ⟨64,.outI "gmove.2" o_gmove_2,v_gPlay_1⟩,
 ⟨65,.outI "gmove.3" o_gmove_3,v_gPlay_1⟩,
 ⟨66,.outI "gmove.4" o_gmove_4,v_gPlay_1⟩,
 ⟨67,.outI "gmove.5" o_gmove_5,v_gPlay_1⟩,
 ⟨68,.outI "gmove.6" o_gmove_6,v_gPlay_1⟩,
 ⟨69,.outI "gmove.7" o_gmove_7,v_gPlay_1⟩,
 ⟨70,.outI "gmove.8" o_gmove_8,v_gPlay_1⟩,
 ⟨71,.outB "gmove.9" o_gmove_9,v_gPlay_1⟩,
 ⟨72,.outB "gmove.10" o_gmove_10,v_gPlay_1⟩,
 ⟨73,.outB "gmove.11" o_gmove_11,v_gPlay_1⟩,
 ⟨74,.outB "gmove.12" o_gmove_12,v_gPlay_1⟩,
 ⟨75,.outB "gmove.13" o_gmove_13,v_gPlay_1⟩,
 ⟨76,.outB "gmove.14" o_gmove_14,v_gPlay_1⟩,
 ⟨77,.outB "gmove.15" o_gmove_15,v_gPlay_1⟩]
noncomputable def a_gPlay_0_3:List En:=[⟨78,.outB "gmove.16" o_gmove_16,v_gPlay_1⟩,
 ⟨79,.outI "gmove.17" o_gmove_17,v_gPlay_1⟩,
 ⟨80,.outI "gmove.18" o_gmove_18,v_gPlay_1⟩,
 ⟨81,.outB "gmove.19" o_gmove_19,v_gPlay_1⟩,
 ⟨82,.outB "gmove.20" o_gmove_20,v_gPlay_1⟩,
 ⟨83,.outB "gmove.21" o_gmove_21,v_gPlay_1⟩,
 ⟨84,.outI "gmove.22" o_gmove_22,v_gPlay_1⟩,
 ⟨85,.outI "gmove.23" o_gmove_23,v_gPlay_1⟩,
 ⟨86,.outI "gmove.24" o_gmove_24,v_gPlay_1⟩,
 ⟨87,.outI "gmove.25" o_gmove_25,v_gPlay_1⟩,
 ⟨88,.outI "gmove.26" o_gmove_26,v_gPlay_1⟩,
 ⟨89,.ne,[.e 88,.c (.int 0)]⟩,
 ⟨90,.and,[.e 61,.e 89]⟩,
 ⟨91,.and,[.e 61,.n 89]⟩,
 ⟨92,.ite .i,[.e 90,.c (.int 0),.e 62]⟩,
 ⟨93,.ite .i,[.e 90,.c (.int 0),.e 63]⟩]
noncomputable def a_gPlay_0_4:List En:=[⟨94,.ite .i,[.e 90,.c (.int 0),.e 64]⟩,
 ⟨95,.ite .i,[.e 90,.c (.int 0),.e 65]⟩,
 ⟨96,.ite .i,[.e 90,.c (.int 0),.e 66]⟩,
 ⟨97,.ite .i,[.e 90,.c (.int 0),.e 67]⟩,
 ⟨98,.ite .i,[.e 90,.c (.int 0),.e 68]⟩,
 ⟨99,.ite .i,[.e 90,.c (.int 0),.e 69]⟩,
 ⟨100,.ite .i,[.e 90,.c (.int 0),.e 70]⟩,
 ⟨101,.ite .b,[.e 90,.c (.bool false),.e 71]⟩,
 ⟨102,.ite .b,[.e 90,.c (.bool false),.e 72]⟩,
 ⟨103,.ite .b,[.e 90,.c (.bool false),.e 73]⟩,
 ⟨104,.ite .b,[.e 90,.c (.bool false),.e 74]⟩,
 ⟨105,.ite .b,[.e 90,.c (.bool false),.e 75]⟩,
 ⟨106,.ite .b,[.e 90,.c (.bool false),.e 76]⟩,
 ⟨107,.ite .b,[.e 90,.c (.bool false),.e 77]⟩,
 ⟨108,.ite .b,[.e 90,.c (.bool false),.e 78]⟩,
 ⟨109,.ite .i,[.e 90,.c (.int 0),.e 79]⟩]
noncomputable def a_gPlay_0_5:List En:=[⟨110,.ite .i,[.e 90,.c (.int 0),.e 80]⟩,
 ⟨111,.ite .b,[.e 90,.c (.bool false),.e 81]⟩,
 ⟨112,.ite .b,[.e 90,.c (.bool false),.e 82]⟩,
 ⟨113,.ite .b,[.e 90,.c (.bool false),.e 83]⟩,
 ⟨114,.ite .i,[.e 90,.c (.int 0),.e 84]⟩,
 ⟨115,.ite .i,[.e 90,.c (.int 0),.e 85]⟩,
 ⟨116,.ite .i,[.e 90,.c (.int 0),.e 86]⟩,
 ⟨117,.ite .i,[.e 90,.c (.int 0),.e 87]⟩,
 ⟨118,.ite .i,[.e 90,.e 88,.c (.int 0)]⟩,
 ⟨119,.or,[.e 90,.e 91]⟩,
 ⟨120,.ite .i,[.e 60,.c (.int 0),.e 92]⟩,
 ⟨121,.ite .i,[.e 60,.c (.int 0),.e 93]⟩,
 ⟨122,.ite .i,[.e 60,.c (.int 0),.e 94]⟩,
 ⟨123,.ite .i,[.e 60,.c (.int 0),.e 95]⟩,
 ⟨124,.ite .i,[.e 60,.c (.int 0),.e 96]⟩,
 ⟨125,.ite .i,[.e 60,.c (.int 0),.e 97]⟩]
noncomputable def a_gPlay_0_6:List En:=[⟨126,.ite .i,[.e 60,.c (.int 0),.e 98]⟩,
 ⟨127,.ite .i,[.e 60,.c (.int 0),.e 99]⟩,
 ⟨128,.ite .i,[.e 60,.c (.int 0),.e 100]⟩,
 ⟨129,.ite .b,[.e 60,.c (.bool false),.e 101]⟩,
 ⟨130,.ite .b,[.e 60,.c (.bool false),.e 102]⟩,
 ⟨131,.ite .b,[.e 60,.c (.bool false),.e 103]⟩,
 ⟨132,.ite .b,[.e 60,.c (.bool false),.e 104]⟩,
 ⟨133,.ite .b,[.e 60,.c (.bool false),.e 105]⟩,
 ⟨134,.ite .b,[.e 60,.c (.bool false),.e 106]⟩,
 ⟨135,.ite .b,[.e 60,.c (.bool false),.e 107]⟩,
 ⟨136,.ite .b,[.e 60,.c (.bool false),.e 108]⟩,
 ⟨137,.ite .i,[.e 60,.c (.int 0),.e 109]⟩,
 ⟨138,.ite .i,[.e 60,.c (.int 0),.e 110]⟩,
 ⟨139,.ite .b,[.e 60,.c (.bool false),.e 111]⟩,
 ⟨140,.ite .b,[.e 60,.c (.bool false),.e 112]⟩,
 ⟨141,.ite .b,[.e 60,.c (.bool false),.e 113]⟩]
noncomputable def a_gPlay_0_7:List En:=[⟨142,.ite .i,[.e 60,.c (.int 0),.e 114]⟩,
 ⟨143,.ite .i,[.e 60,.c (.int 0),.e 115]⟩,
 ⟨144,.ite .i,[.e 60,.c (.int 0),.e 116]⟩,
 ⟨145,.ite .i,[.e 60,.c (.int 0),.e 117]⟩,
 ⟨146,.ite .i,[.e 60,.e 0,.e 62]⟩,
 ⟨147,.ite .i,[.e 60,.e 1,.e 63]⟩,
 ⟨148,.ite .i,[.e 60,.e 2,.e 64]⟩,
 ⟨149,.ite .i,[.e 60,.e 3,.e 65]⟩,
 ⟨150,.ite .i,[.e 60,.e 4,.e 66]⟩,
 ⟨151,.ite .i,[.e 60,.e 5,.e 67]⟩,
 ⟨152,.ite .i,[.e 60,.e 6,.e 68]⟩,
 ⟨153,.ite .i,[.e 60,.e 7,.e 69]⟩,
 ⟨154,.ite .i,[.e 60,.e 8,.e 70]⟩,
 ⟨155,.ite .b,[.e 60,.e 9,.e 71]⟩,
 ⟨156,.ite .b,[.e 60,.e 10,.e 72]⟩,
 ⟨157,.ite .b,[.e 60,.e 11,.e 73]⟩]
noncomputable def a_gPlay_0_8:List En:=[⟨158,.ite .b,[.e 60,.e 12,.e 74]⟩,
 ⟨159,.ite .b,[.e 60,.e 13,.e 75]⟩,
 ⟨160,.ite .b,[.e 60,.e 14,.e 76]⟩,
 ⟨161,.ite .b,[.e 60,.e 15,.e 77]⟩,
 ⟨162,.ite .b,[.e 60,.e 16,.e 78]⟩,
 ⟨163,.ite .i,[.e 60,.e 17,.e 79]⟩,
 ⟨164,.ite .i,[.e 60,.e 18,.e 80]⟩,
 ⟨165,.ite .b,[.e 60,.e 19,.e 81]⟩,
 ⟨166,.ite .b,[.e 60,.e 20,.e 82]⟩,
 ⟨167,.ite .b,[.e 60,.e 21,.e 83]⟩,
 ⟨168,.ite .i,[.e 60,.e 22,.e 84]⟩,
 ⟨169,.ite .i,[.e 60,.e 23,.e 85]⟩,
 ⟨170,.ite .i,[.e 60,.e 24,.e 86]⟩,
 ⟨171,.ite .i,[.e 60,.e 25,.e 87]⟩,
 ⟨172,.ite .i,[.e 60,.e 57,.e 118]⟩,
 ⟨173,.or,[.e 60,.e 119]⟩]
noncomputable def a_gPlay_0:List En:=a_gPlay_0_0++(a_gPlay_0_1++(a_gPlay_0_2++(a_gPlay_0_3++(a_gPlay_0_4++(a_gPlay_0_5++(a_gPlay_0_6++(a_gPlay_0_7++(a_gPlay_0_8))))))))
noncomputable def q_gPlay:List ObE:=[⟨some 91,.t,[.e 58]⟩,
 ⟨some 61,.btw (0) (1),[.e 2]⟩,
 ⟨some 61,.pre "gmove.p0" p_gmove_0,v_gPlay_1⟩,
 ⟨some 61,.pre "gmove.p1" p_gmove_1,v_gPlay_1⟩,
 ⟨some 61,.t,[.e 58]⟩,
 ⟨some 53,.pre "glegal.p0" p_glegal_0,v_gPlay_0⟩,
 ⟨some 53,.pre "glegal.p1" p_glegal_1,v_gPlay_0⟩,
 ⟨some 50,.pre "gposs.p0" p_gposs_0,v_gPlay_0⟩,
 ⟨some 34,.inr,[.e 0,.c (.int 4)]⟩]
def r_gPlay:List Rf:=[.e 120,.e 121,.e 122,.e 123,.e 124,.e 125,.e 126,.e 127,.e 128,.e 129,.e 130,.e 131,.e 132,.e 133,.e 134,.e 135,.e 136,.e 137,.e 138,.e 139,.e 140,.e 141,.e 142,.e 143,.e 144,.e 145,.e 172]
end Go.Eng
end
section
open Go Go.Eng Go.Proofs
set_option maxHeartbeats 4000000
set_option maxRecDepth 100000
namespace Go.Eng
theorem s_gPlay:t_gPlay.sees r_gPlay (t_gPlay.run Try.prog [(45,t_gposs),(46,t_glegal),(35,t_gmove)] hints 3000 20 12)=some ((a_gPlay_0).map En.be,q_gPlay.map ObE.be,[]):=by kernel_rfl
theorem m_gPlay {T:Tab}(hl29:(L T 29).length≤140737488355328)(g:Gm)(hg:g=Gm.mk (I T 0) (I T 1) (I T 2) (I T 3) (I T 4) (I T 5) (I T 6) (I T 7) (I T 8) (B T 9) (B T 10) (B T 11) (B T 12) (B T 13) (B T 14) (B T 15) (B T 16) (I T 17) (I T 18) (B T 19) (B T 20) (B T 21) (I T 22) (I T 23) (I T 24) (I T 25))(g1:Gm)(z1:g1=Gm.mk (I T 0) (I T 1) (I T 2) (I T 3) (I T 4) (I T 5) (I T 6) (I T 7) (I T 8) (B T 9) (B T 10) (B T 11) (B T 12) (B T 13) (B T 14) (B T 15) (B T 16) (I T 17) (I T 18) (B T 19) (B T 20) (B T 21) (I T 22) (I T 23) (I T 24) (I T 25))(g2:Gm)(z2:g2=Gm.mk (I T 0) (I T 1) (I T 2) (I T 3) (I T 4) (I T 5) (I T 6) (I T 7) (I T 8) (B T 9) (B T 10) (B T 11) (B T 12) (B T 13) (B T 14) (B T 15) (B T 16) (I T 17) (I T 18) (B T 19) (B T 20) (B T 21) (I T 22) (I T 23) (I T 24) (I T 25))(A0:Facts T a_gPlay_0):
  (Gm.mk (I T 120) (I T 121) (I T 122) (I T 123) (I T 124) (I T 125) (I T 126) (I T 127) (I T 128) (B T 129) (B T 130) (B T 131) (B T 132) (B T 133) (B T 134) (B T 135) (B T 136) (I T 137) (I T 138) (B T 139) (B T 140) (B T 141) (I T 142) (I T 143) (I T 144) (I T 145)=resS g (I T 26) (I T 27) (B T 28) (L T 29))∧
  ((I T 172)=(errS g (I T 26) (I T 27) (B T 28) (L T 29)))∧
  (B T 91=true→B T 58=true)∧
  (B T 61=true→0≤I T 2∧I T 2≤1)∧
  (B T 61=true→0≤I T 0∧I T 0≤3∧I T 41=hoopsS (I T 0)∧I T 42=liftaS (I T 0)∧I T 43=liftbS (I T 0)∧B T 44=peelsS (I T 0)∧B T 45=bisqS (I T 0)∧B T 46=partS (I T 0))∧
  (B T 61=true→legalS g2=true)∧
  (B T 61=true→B T 58=true)∧
  (B T 53=true→0≤I T 0∧I T 0≤3∧I T 41=hoopsS (I T 0)∧I T 42=liftaS (I T 0)∧I T 43=liftbS (I T 0)∧B T 44=peelsS (I T 0)∧B T 45=bisqS (I T 0)∧B T 46=partS (I T 0))∧
  (B T 53=true→numbersS g1=true)∧
  (B T 50=true→0≤I T 0∧I T 0≤3∧I T 41=hoopsS (I T 0)∧I T 42=liftaS (I T 0)∧I T 43=liftbS (I T 0)∧B T 44=peelsS (I T 0)∧B T 45=bisqS (I T 0)∧B T 46=partS (I T 0))∧
  (B T 34=true→0≤I T 0∧I T 0 < 4):=by
 have hFa:=A0
 obtain⟨F0,A0⟩:=A0.cut
 obtain⟨F1,A0⟩:=A0.cut
 obtain⟨F2,A0⟩:=A0.cut
 obtain⟨F3,A0⟩:=A0.cut
 obtain⟨F4,A0⟩:=A0.cut
 obtain⟨F5,A0⟩:=A0.cut
 obtain⟨F6,A0⟩:=A0.cut
 obtain⟨F7,A0⟩:=A0.cut
 have F8:=A0;clear A0
 have hgA:g1=g:=by rw[z1,hg]
 have hgB:g2=g:=by rw[z2,hg]
 have hcode:g.code=I T 0:=by rw[hg]
 have h50:(B T 50)=true↔(0≤I T 0∧I T 0≤3):=by
  obtain⟨e30,-,e32,e33,-⟩:=F0
  obtain⟨-,e47,-,e49,e50,-⟩:=F1
  simp only[fact,bR_e,zR,zL] at e30 e32 e33 e47 e49 e50
  clear hg
  grind
 have hcd:(B T 50)=true→0≤I T 0∧I T 0≤3∧I T 41=hoopsS (I T 0)∧I T 42=liftaS (I T 0)∧I T 43=liftbS (I T 0)∧B T 44=peelsS (I T 0)∧B T 45=bisqS (I T 0)∧B T 46=partS (I T 0):=by
  obtain⟨e30,-,e32,e33,-,e35,e36,e37,e38,e39,e40,e41,e42,e43,e44,e45,-⟩:=F0
  obtain⟨e46,e47,-,e49,e50,-⟩:=F1
  simp only[fact,bR_e,zC,zR,pickI,pickB,and_false,or_false,zL] at e30 e32 e33 e35 e36 e37 e38 e39 e40 e41 e42 e43 e44 e45 e46 e47 e49 e50
  clear hg
  intro h
  have h0:=h50.1 h
  refine⟨h0.1,h0.2,?_,?_,?_,?_,?_,?_⟩<;>first|(unfold hoopsS;grind)|(unfold liftaS;grind)|(unfold liftbS;grind)|(refine iff_eq ?_;unfold peelsS;simp only[Bool.not_eq_true',decide_eq_false_iff_not];grind)|(refine iff_eq ?_;unfold bisqS;simp only[Bool.and_eq_true,Bool.not_eq_true',decide_eq_false_iff_not];grind)|(refine iff_eq ?_;unfold partS;simp only[decide_eq_true_eq];grind)
 have h51:(B T 51)=numbersS g:=by
  obtain⟨-,-,-,-,-,e51,-⟩:=F1
  replace e51:B T 51=(numbersS g1):=by rw[←show gAt 0 (v_gPlay_0.map (Rf.eval T))=g1 from z1.symm];exact e51
  rw[e51,hgA]
 have h54:(B T 54)=(casesS g&&sidesS g&&((turnS g&&turnsS g)||(!turnS g&&restsS g))):=by
  obtain⟨-,-,-,-,-,-,-,-,e54,-⟩:=F1
  replace e54:B T 54=(casesS g1&&sidesS g1&&((turnS g1&&turnsS g1)||(!turnS g1&&restsS g1))):=by rw[←show gAt 0 (v_gPlay_0.map (Rf.eval T))=g1 from z1.symm];exact e54
  rw[e54,hgA]
 have hleg:(B T 58)=true↔legalS g=true:=by
  obtain⟨-,-,-,e49,e50,-,e52,-,-,e55,-,-,e58,-⟩:=F1
  simp only[fact,bR_e,zN,zR] at e49 e50 e52 e55 e58
  have e:legalS g=(numbersS g&&(casesS g&&sidesS g&&((turnS g&&turnsS g)||(!turnS g&&restsS g)))):=by unfold legalS;simp only[Bool.and_assoc]
  rw[e,←h51,←h54,Bool.and_eq_true]
  have hn:(B T 51)=true→B T 50=true:=by intro h;rw[h51] at h;have:=numbersS_le h;rw[hcode] at this;exact h50.2 ⟨this.1,this.2.1⟩
  clear hcd h50 hg e h51 h54
  grind
 have h60:(B T 60)=true↔¬B T 58=true:=by
  obtain⟨-,-,-,-,-,-,-,-,-,e55,-,e57,e58,-,e60,-⟩:=F1
  simp only[fact,bR_e,zN,zR,zL] at e55 e57 e58 e60
  clear hg h50 hcd h51 h54 hleg
  grind
 have h61:(B T 61)=true↔B T 58=true:=by
  obtain⟨-,-,-,-,-,-,-,-,-,-,-,-,-,-,-,e61,-⟩:=F1
  simp only[fact,bR_e,zR] at e61
  clear hg h50 hcd h51 h54 hleg
  grind
 have h88:(I T 88)=errS g (I T 26) (I T 27) (B T 28) (L T 29):=by
  obtain⟨-,-,-,-,-,-,-,-,-,-,e88,-⟩:=F3
  replace e88:I T 88=(errS g2 (I T 26) (I T 27) (B T 28) (L T 29)):=by rw[←show gAt 4 (v_gPlay_1.map (Rf.eval T))=g2 from z2.symm];exact e88
  rw[e88,hgB]
 have h90:(B T 90)=true↔((B T 61)=true∧¬errS g (I T 26) (I T 27) (B T 28) (L T 29)=0):=by
  obtain⟨-,-,-,-,-,-,-,-,-,-,-,e89,e90,-⟩:=F3
  simp only[fact,bR_e,zR] at e89 e90
  rw[←h88]
  clear hg h50 hcd h51 h54 hleg h88
  grind
 have h2:(B T 60)=true→errS g (I T 26) (I T 27) (B T 28) (L T 29)=2:=by
  obtain⟨-,-,-,-,-,-,-,-,-,-,-,-,-,-,e60,-⟩:=F1
  simp only[fact,zR] at e60
  intro h
  have hl:legalS g=false:=by cases hx:legalS g with|false=>rfl|true=>exact absurd (hleg.2 hx) (h60.1 h)
  unfold errS
  rw[if_pos hl]
 have h0:(B T 60)=false→B T 90=false→errS g (I T 26) (I T 27) (B T 28) (L T 29)=0:=by
  obtain⟨-,-,-,-,-,-,-,-,-,-,-,-,-,-,e60,-⟩:=F1
  simp only[fact,zR] at e60
  intro a b
  refine Classical.byContradiction fun h=>?_
  have h58:(B T 58)=true:=by cases hx:(B T 58) with|true=>rfl|false=>rw[h60.2 (by rw[hx];decide)] at a;cases a
  rw[h90.2 ⟨h61.2 h58,h⟩] at b;cases b
 have herr:errS g (I T 26) (I T 27) (B T 28) (L T 29)=I T 172:=by
  obtain⟨-,-,-,-,-,-,-,-,-,e55,-,e57,e58,-,e60,-⟩:=F1
  obtain⟨-,-,-,-,-,-,-,-,-,-,-,e89,e90,-⟩:=F3
  obtain⟨-,-,-,-,-,-,-,-,e118,-⟩:=F5
  obtain⟨-,-,-,-,-,-,-,-,-,-,-,-,-,-,e172,-⟩:=F8
  simp only[fact,bR_e,zN,zR,zL] at e55 e57 e58 e60 e89 e90 e118 e172
  rw[←h88] at*
  clear hg hcd h51 h54 hleg h50
  grind
 have cr2_0:Gm.mk (I T 62) (I T 63) (I T 64) (I T 65) (I T 66) (I T 67) (I T 68) (I T 69) (I T 70) (B T 71) (B T 72) (B T 73) (B T 74) (B T 75) (B T 76) (B T 77) (B T 78) (I T 79) (I T 80) (B T 81) (B T 82) (B T 83) (I T 84) (I T 85) (I T 86) (I T 87)=(if errS g2 (I T 26) (I T 27) (B T 28) (L T 29)=0 then playS g2 (I T 26) (I T 27) (L T 29) else g2):=by
  obtain⟨e62,e63,e64,e65,e66,e67,e68,e69,e70,e71,e72,e73,e74,e75,e76,e77,-⟩:=F2
  obtain⟨e78,e79,e80,e81,e82,e83,e84,e85,e86,e87,-⟩:=F3
  rw[←show gAt 4 (v_gPlay_1.map (Rf.eval T))=g2 from z2.symm]
  exact gm_congr e62 e63 e64 e65 e66 e67 e68 e69 e70 e71 e72 e73 e74 e75 e76 e77 e78 e79 e80 e81 e82 e83 e84 e85 e86 e87
 refine⟨?_,?_,?_,?_,?_,?_,?_,?_,?_,?_,?_⟩
 ·rcases Bool.eq_false_or_eq_true (B T 60) with k60|k60
  ·
   refine (gm_outs (redo_outs (K:=[(60,.b,.c (.bool true))]) (outs:=w_gPlay) (os:=[.c (.int 0),.c (.int 0),.c (.int 0),.c (.int 0),.c (.int 0),.c (.int 0),.c (.int 0),.c (.int 0),.c (.int 0),.c (.bool false),.c (.bool false),.c (.bool false),.c (.bool false),.c (.bool false),.c (.bool false),.c (.bool false),.c (.bool false),.c (.int 0),.c (.int 0),.c (.bool false),.c (.bool false),.c (.bool false),.c (.int 0),.c (.int 0),.c (.int 0),.c (.int 0)]) ⟨k60,trivial⟩ hFa (by kernel_rfl))).trans ?_
   show Gm.mk (0) (0) (0) (0) (0) (0) (0) (0) (0) false false false false false false false false (0) (0) false false false (0) (0) (0) (0)=_
   unfold resS
   rw[if_neg (by rw[h2 k60];decide)]
   rfl
  ·
   rcases Bool.eq_false_or_eq_true (B T 90) with k90|k90
   ·
    refine (gm_outs (redo_outs (K:=[(60,.b,.c (.bool false)),(90,.b,.c (.bool true))]) (outs:=w_gPlay) (os:=[.c (.int 0),.c (.int 0),.c (.int 0),.c (.int 0),.c (.int 0),.c (.int 0),.c (.int 0),.c (.int 0),.c (.int 0),.c (.bool false),.c (.bool false),.c (.bool false),.c (.bool false),.c (.bool false),.c (.bool false),.c (.bool false),.c (.bool false),.c (.int 0),.c (.int 0),.c (.bool false),.c (.bool false),.c (.bool false),.c (.int 0),.c (.int 0),.c (.int 0),.c (.int 0)]) ⟨k60,k90,trivial⟩ hFa (by kernel_rfl))).trans ?_
    show Gm.mk (0) (0) (0) (0) (0) (0) (0) (0) (0) false false false false false false false false (0) (0) false false false (0) (0) (0) (0)=_
    unfold resS
    rw[if_neg (h90.1 k90).2]
    rfl
   ·
    refine (gm_outs (redo_outs (K:=[(60,.b,.c (.bool false)),(90,.b,.c (.bool false))]) (outs:=w_gPlay) (os:=[.e 62,.e 63,.e 64,.e 65,.e 66,.e 67,.e 68,.e 69,.e 70,.e 71,.e 72,.e 73,.e 74,.e 75,.e 76,.e 77,.e 78,.e 79,.e 80,.e 81,.e 82,.e 83,.e 84,.e 85,.e 86,.e 87]) ⟨k60,k90,trivial⟩ hFa (by kernel_rfl))).trans ?_
    show Gm.mk (I T 62) (I T 63) (I T 64) (I T 65) (I T 66) (I T 67) (I T 68) (I T 69) (I T 70) (B T 71) (B T 72) (B T 73) (B T 74) (B T 75) (B T 76) (B T 77) (B T 78) (I T 79) (I T 80) (B T 81) (B T 82) (B T 83) (I T 84) (I T 85) (I T 86) (I T 87)=_
    unfold resS
    rw[if_pos (h0 k60 k90),cr2_0,hgB,if_pos (h0 k60 k90)]
 ·obtain⟨-,-,-,-,-,-,-,-,-,-,-,-,-,-,e172,-⟩:=F8
  simp only[fact,bR_e,zR,zL] at e172
  exact herr.symm
 ·obtain⟨-,-,-,-,-,-,-,-,-,-,-,-,-,-,-,e61,-⟩:=F1
  obtain⟨-,-,-,-,-,-,-,-,-,-,-,-,-,e91,-⟩:=F3
  simp only[fact,bR_e,zN,zR] at e61 e91
  intro h
  exact h61.1 (by clear hcd h54 herr h2 h0 h90;grind)
 ·obtain⟨-,-,-,-,-,-,-,-,-,-,-,-,-,-,-,e61,-⟩:=F1
  simp only[fact,bR_e,zR] at e61
  intro h
  have h:=(legal_base (hleg.1 (h61.1 h))).side
  rw[hg] at h;exact h
 ·obtain⟨-,-,-,-,e50,-,e52,-,-,e55,-,-,e58,-⟩:=F1
  simp only[fact,bR_e,zN,zR] at e50 e52 e55 e58
  intro h
  have h58:=h61.1 h
  exact hcd (by clear hcd h54 herr h2 h0 h90 hg h51;grind)
 ·obtain⟨-,-,-,-,-,-,-,-,-,-,-,-,-,-,-,e61,-⟩:=F1
  simp only[fact,bR_e,zR] at e61
  intro h
  rw[hgB];exact hleg.1 (h61.1 h)
 ·obtain⟨-,-,-,-,-,-,-,-,-,-,-,-,-,-,-,e61,-⟩:=F1
  simp only[fact,bR_e,zR] at e61
  intro h
  exact h61.1 h
 ·obtain⟨-,-,-,-,e50,-,e52,e53,-⟩:=F1
  simp only[fact,bR_e,zN,zR] at e50 e52 e53
  intro h
  exact hcd (by clear hcd h54 herr h2 h0 h90 hg h51;grind)
 ·obtain⟨-,-,-,-,-,-,e52,e53,-⟩:=F1
  simp only[fact,bR_e,zN,zR] at e52 e53
  intro h
  rw[hgA,←h51]
  clear hcd h54 herr h2 h0 h90 hg
  grind
 ·obtain⟨-,-,-,-,e50,-⟩:=F1
  simp only[fact,bR_e,zR] at e50
  exact hcd
 ·obtain⟨e30,-,e32,e33,e34,-⟩:=F0
  simp only[fact,bR_e,zR] at e30 e32 e33 e34
  clear hcd h54 herr h2 h0 h90 hg h51
  grind
theorem ok_gPlay:TmplOK Try.prog 12 t_gPlay:=by
 refine tmpl_sees (l:=[(45,t_gposs),(46,t_glegal),(35,t_gmove)]) mixed (by simp only[List.forall_mem_cons];exact⟨ok_gposs,ok_glegal,ok_gmove,fun _ h=>absurd h (by simp)⟩) s_gPlay (by kernel_rfl) fun T us hpre hT hul hS hBd hE=>?_
 change us.length=30 at hul
 obtain⟨⟨lo0,hi0⟩,⟨lo1,hi1⟩,⟨lo2,hi2⟩,⟨lo3,hi3⟩,⟨lo4,hi4⟩,⟨lo5,hi5⟩,⟨lo6,hi6⟩,⟨lo7,hi7⟩,⟨lo8,hi8⟩,⟨lo17,hi17⟩,⟨lo18,hi18⟩,⟨lo22,hi22⟩,⟨lo23,hi23⟩,⟨lo24,hi24⟩,⟨lo25,hi25⟩,⟨lo26,hi26⟩,⟨lo27,hi27⟩,⟨hl29,he29⟩,-⟩:=hBd
 clear lo0 hi0
 clear lo1 hi1
 clear lo2 hi2
 clear lo3 hi3
 clear lo4 hi4
 clear lo5 hi5
 clear lo6 hi6
 clear lo7 hi7
 clear lo8 hi8
 clear lo17 hi17
 clear lo18 hi18
 clear lo22 hi22
 clear lo23 hi23
 clear lo24 hi24
 clear lo25 hi25
 clear lo26 hi26
 clear lo27 hi27
 replace hl29:(L T 29).length≤140737488355328:=hl29
 obtain⟨g,hg⟩:∃g:Gm,g=Gm.mk (I T 0) (I T 1) (I T 2) (I T 3) (I T 4) (I T 5) (I T 6) (I T 7) (I T 8) (B T 9) (B T 10) (B T 11) (B T 12) (B T 13) (B T 14) (B T 15) (B T 16) (I T 17) (I T 18) (B T 19) (B T 20) (B T 21) (I T 22) (I T 23) (I T 24) (I T 25):=⟨_,rfl⟩
 have hgu:gAt 0 us=g:=by rw[hg];exact gAt_in hT hul (by decide)
 have ha26:aI us 26=I T 26:=inI hT hul (by decide)
 have ha27:aI us 27=I T 27:=inI hT hul (by decide)
 have ha28:aB us 28=B T 28:=inB hT hul (by decide)
 have ha29:aL us 29=L T 29:=inL hT hul (by decide)
 clear hpre
 skip
 obtain⟨A0,hO⟩:=chkO_ok (tys:=[.i,.i,.i,.i,.i,.i,.i,.i,.i,.b,.b,.b,.b,.b,.b,.b,.b,.i,.i,.b,.b,.b,.i,.i,.i,.i,.i]) (rs:=r_gPlay) hS (by kernel_rfl) hE
 obtain⟨g1,z1⟩:∃g:Gm,g=Gm.mk (I T 0) (I T 1) (I T 2) (I T 3) (I T 4) (I T 5) (I T 6) (I T 7) (I T 8) (B T 9) (B T 10) (B T 11) (B T 12) (B T 13) (B T 14) (B T 15) (B T 16) (I T 17) (I T 18) (B T 19) (B T 20) (B T 21) (I T 22) (I T 23) (I T 24) (I T 25):=⟨_,rfl⟩
 obtain⟨g2,z2⟩:∃g:Gm,g=Gm.mk (I T 0) (I T 1) (I T 2) (I T 3) (I T 4) (I T 5) (I T 6) (I T 7) (I T 8) (B T 9) (B T 10) (B T 11) (B T 12) (B T 13) (B T 14) (B T 15) (B T 16) (I T 17) (I T 18) (B T 19) (B T 20) (B T 21) (I T 22) (I T 23) (I T 24) (I T 25):=⟨_,rfl⟩
 obtain⟨whole,q26,r0,r1,r2,r3,r4,r5,r6,r7,r8⟩:=m_gPlay hl29 g hg g1 z1 g2 z2 A0
 have hog:og_gPlay us=resS g (I T 26) (I T 27) (B T 28) (L T 29):=by unfold og_gPlay;rw[hgu,ha26,ha27,ha28,ha29]
 replace whole:=whole.trans hog.symm
 refine⟨⟨r0,r1,r2,(fun hp=>by show p_gmove_1 _;unfold p_gmove_1;rw[show gAt 4 (v_gPlay_1.map (Rf.eval T))=g2 from z2.symm];exact r3 hp),r4,r5,(fun hp=>by show p_glegal_1 _;unfold p_glegal_1;rw[show gAt 0 (v_gPlay_0.map (Rf.eval T))=g1 from z1.symm];exact r6 hp),r7,r8,trivial⟩,hO.trans ?_⟩
 exact gm_lc whole ((lc (by show U.int (I T 172)= .int (o_gPlay_26 us);unfold o_gPlay_26;rw[hgu,ha26,ha27,ha28,ha29];exact congrArg U.int q26) rfl))
end Go.Eng
end
