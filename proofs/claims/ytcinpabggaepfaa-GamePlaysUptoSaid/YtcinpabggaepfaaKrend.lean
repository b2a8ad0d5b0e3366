/-
  A part of the proof: K_rendd K_rend.
-/
import Derived.Test.YtcinpabggaepfaaE3
import Derived.Test.YtcinpabggaepfaaE4
import Derived.Test.YtcinpabggaepfaaKlaws
set_option linter.unusedVariables false
set_option linter.unusedSimpArgs false
section
open Go Go.Eng Go.Proofs
set_option maxHeartbeats 4000000
set_option maxRecDepth 100000
namespace Go.Eng
def og_rend (us:List U):Gm:=endS (gAt 0 us)
def o_rend_0 (us:List U):Int:=(og_rend us).code
def o_rend_1 (us:List U):Int:=(og_rend us).phase
def o_rend_2 (us:List U):Int:=(og_rend us).side
def o_rend_3 (us:List U):Int:=(og_rend us).ball
def o_rend_4 (us:List U):Int:=(og_rend us).taken
def o_rend_5 (us:List U):Int:=(og_rend us).p0
def o_rend_6 (us:List U):Int:=(og_rend us).p1
def o_rend_7 (us:List U):Int:=(og_rend us).p2
def o_rend_8 (us:List U):Int:=(og_rend us).p3
def o_rend_9 (us:List U):Bool:=(og_rend us).n0
def o_rend_10 (us:List U):Bool:=(og_rend us).n1
def o_rend_11 (us:List U):Bool:=(og_rend us).n2
def o_rend_12 (us:List U):Bool:=(og_rend us).n3
def o_rend_13 (us:List U):Bool:=(og_rend us).d0
def o_rend_14 (us:List U):Bool:=(og_rend us).d1
def o_rend_15 (us:List U):Bool:=(og_rend us).d2
def o_rend_16 (us:List U):Bool:=(og_rend us).d3
def o_rend_17 (us:List U):Int:=(og_rend us).h0
def o_rend_18 (us:List U):Int:=(og_rend us).h1
def o_rend_19 (us:List U):Bool:=(og_rend us).l0
def o_rend_20 (us:List U):Bool:=(og_rend us).l1
def o_rend_21 (us:List U):Bool:=(og_rend us).half
def o_rend_22 (us:List U):Int:=(og_rend us).turns
def o_rend_23 (us:List U):Int:=(og_rend us).began
def o_rend_24 (us:List U):Int:=(og_rend us).lastb
def o_rend_25 (us:List U):Int:=(og_rend us).winner
def p_rend_0:List U→Prop:=fun us=>((aI us 3)= -1∨(0≤(aI us 3)∧(aI us 3)≤3))∧0≤(aI us 2)∧(aI us 2)≤1∧0≤(aI us 23)
def t_rend:Tmpl:={ sh:=[.agg [k64,k64,k64,k64,k64,k64,k64,k64,k64,.bool,.bool,.bool,.bool,.bool,.bool,.bool,.bool,k64,k64,.bool,.bool,.bool,k64,k64,k64,k64]],blks:=[],outs:=[(.s "rend.0",outUI o_rend_0),(.s "rend.1",outUI o_rend_1),(.s "rend.2",outUI o_rend_2),(.s "rend.3",outUI o_rend_3),(.s "rend.4",outUI o_rend_4),(.s "rend.5",outUI o_rend_5),(.s "rend.6",outUI o_rend_6),(.s "rend.7",outUI o_rend_7),(.s "rend.8",outUI o_rend_8),(.s "rend.9",outUB o_rend_9),(.s "rend.10",outUB o_rend_10),(.s "rend.11",outUB o_rend_11),(.s "rend.12",outUB o_rend_12),(.s "rend.13",outUB o_rend_13),(.s "rend.14",outUB o_rend_14),(.s "rend.15",outUB o_rend_15),(.s "rend.16",outUB o_rend_16),(.s "rend.17",outUI o_rend_17),(.s "rend.18",outUI o_rend_18),(.s "rend.19",outUB o_rend_19),(.s "rend.20",outUB o_rend_20),(.s "rend.21",outUB o_rend_21),(.s "rend.22",outUI o_rend_22),(.s "rend.23",outUI o_rend_23),(.s "rend.24",outUI o_rend_24),(.s "rend.25",outUI o_rend_25)],c:= .agg [(aI64 26),(aI64 27),(aI64 28),(aI64 29),(aI64 30),(aI64 31),(aI64 32),(aI64 33),(aI64 34),.b 35,.b 36,.b 37,.b 38,.b 39,.b 40,.b 41,.b 42,(aI64 43),(aI64 44),.b 45,.b 46,.b 47,(aI64 48),(aI64 49),(aI64 50),(aI64 51)],m':=[],pre:=[(.s "rend.p0",p_rend_0)] }
noncomputable def a_rend_0_0:List En:=[⟨26,.outI "laws.0" o_laws_0,[.e 0]⟩,
 ⟨27,.outI "laws.1" o_laws_1,[.e 0]⟩,
 ⟨28,.outI "laws.2" o_laws_2,[.e 0]⟩,
 ⟨29,.outB "laws.3" o_laws_3,[.e 0]⟩,
 ⟨30,.outB "laws.4" o_laws_4,[.e 0]⟩,
 ⟨31,.outB "laws.5" o_laws_5,[.e 0]⟩,
 ⟨32,.ne,[.e 3,.c (.int (-1))]⟩,
 ⟨33,.lt,[.c (.int 0),.e 27]⟩,
 ⟨34,.and,[.e 32,.e 33]⟩,
 ⟨35,.and,[.e 32,.e 33]⟩,
 ⟨36,.and,[.e 32,.e 33]⟩,
 ⟨37,.lt,[.e 23,.e 27]⟩,
 ⟨38,.and,[.e 33,.e 37]⟩,
 ⟨39,.and,[.e 32,.e 38]⟩,
 ⟨40,.and,[.e 32,.e 38]⟩,
 ⟨41,.pick .i,[.e 3,.e 5,.e 6,.e 7,.e 8]⟩]
noncomputable def a_rend_0_1:List En:=[⟨42,.and,[.e 32,.e 38]⟩,
 ⟨43,.and,[.e 32,.e 38]⟩,
 ⟨44,.le,[.e 27,.e 41]⟩,
 ⟨45,.and,[.e 38,.e 44]⟩,
 ⟨46,.and,[.e 32,.e 45]⟩,
 ⟨47,.w2 .i64 .sub,[.c (.int 1),.e 2]⟩,
 ⟨48,.eq,[.e 47,.c (.int 0)]⟩,
 ⟨49,.ite .b,[.e 48,.c (.bool true),.e 19]⟩,
 ⟨50,.eq,[.e 47,.c (.int 1)]⟩,
 ⟨51,.ite .b,[.e 50,.c (.bool true),.e 20]⟩,
 ⟨52,.and,[.e 32,.n 45]⟩,
 ⟨53,.ite .b,[.e 45,.e 49,.e 19]⟩,
 ⟨54,.ite .b,[.e 45,.e 51,.e 20]⟩,
 ⟨55,.lt,[.c (.int 0),.e 28]⟩,
 ⟨56,.and,[.e 32,.e 55]⟩,
 ⟨57,.and,[.e 32,.e 55]⟩]
noncomputable def a_rend_0_2:List En:=[⟨58,.and,[.e 32,.e 55]⟩,
 ⟨59,.lt,[.e 23,.e 28]⟩,
 ⟨60,.and,[.e 55,.e 59]⟩,
 ⟨61,.and,[.e 32,.e 60]⟩,
 ⟨62,.and,[.e 32,.e 60]⟩,
 ⟨63,.pick .i,[.e 3,.e 5,.e 6,.e 7,.e 8]⟩,
 ⟨64,.and,[.e 32,.e 60]⟩,
 ⟨65,.and,[.e 32,.e 60]⟩,
 ⟨66,.le,[.e 28,.e 63]⟩,
 ⟨67,.and,[.e 60,.e 66]⟩,
 ⟨68,.and,[.e 32,.e 67]⟩,
 ⟨69,.w2 .i64 .sub,[.c (.int 1),.e 2]⟩,
 ⟨70,.eq,[.e 69,.c (.int 0)]⟩,
 ⟨71,.ite .b,[.e 70,.c (.bool true),.e 53]⟩,
 ⟨72,.eq,[.e 69,.c (.int 1)]⟩,
 ⟨73,.ite .b,[.e 72,.c (.bool true),.e 54]⟩]
noncomputable def a_rend_0_3:List En:=[⟨74,.and,[.e 32,.n 67]⟩,
 ⟨75,.ite .b,[.e 67,.e 71,.e 53]⟩,
 ⟨76,.ite .b,[.e 67,.e 73,.e 54]⟩,
 ⟨77,.and,[.e 32,.e 30]⟩,
 ⟨78,.pick .b,[.e 3,.e 9,.e 10,.e 11,.e 12]⟩,
 ⟨79,.and,[.e 30,.e 78]⟩,
 ⟨80,.and,[.e 32,.e 79]⟩,
 ⟨81,.le,[.c (.int 4),.e 22]⟩,
 ⟨82,.and,[.e 79,.e 81]⟩,
 ⟨83,.and,[.e 32,.e 82]⟩,
 ⟨84,.and,[.e 32,.n 82]⟩,
 ⟨85,.ite .i,[.e 82,.e 3,.c (.int (-1))]⟩,
 ⟨86,.not,[.e 32]⟩,
 ⟨87,.ite .b,[.e 32,.e 75,.e 19]⟩,
 ⟨88,.ite .b,[.e 32,.e 76,.e 20]⟩,
 ⟨89,.ite .i,[.e 32,.e 85,.c (.int (-1))]⟩]
noncomputable def a_rend_0_4:List En:=[⟨90,.w2 .i64 .sub,[.c (.int 1),.e 2]⟩]
noncomputable def a_rend_0:List En:=a_rend_0_0++(a_rend_0_1++(a_rend_0_2++(a_rend_0_3++(a_rend_0_4))))
noncomputable def q_rend:List ObE:=[⟨some 77,.inr,[.e 3,.c (.int 4)]⟩,
 ⟨some 68,.inr,[.e 69,.c (.int 2)]⟩,
 ⟨some 62,.inr,[.e 3,.c (.int 4)]⟩,
 ⟨some 46,.inr,[.e 47,.c (.int 2)]⟩,
 ⟨some 40,.inr,[.e 3,.c (.int 4)]⟩]
def r_rend:List Rf:=[.e 0,.c (.int 0),.e 90,.c (.int (-1)),.c (.int (-1)),.e 5,.e 6,.e 7,.e 8,.e 9,.e 10,.e 11,.e 12,.c (.bool false),.c (.bool false),.c (.bool false),.c (.bool false),.e 17,.e 18,.e 87,.e 88,.c (.bool false),.e 22,.c (.int 0),.e 89,.e 25]
end Go.Eng
end
section
open Go Go.Eng Go.Proofs
set_option maxHeartbeats 4000000
set_option maxRecDepth 100000
namespace Go.Eng
theorem s_rend:t_rend.sees r_rend (t_rend.run Try.prog [(43,t_laws)] hints 3000 20 62)=some ((a_rend_0).map En.be,q_rend.map ObE.be,[]):=by kernel_rfl
theorem m_rend {T:Tab}(g:Gm)(hg:g=Gm.mk (I T 0) (I T 1) (I T 2) (I T 3) (I T 4) (I T 5) (I T 6) (I T 7) (I T 8) (B T 9) (B T 10) (B T 11) (B T 12) (B T 13) (B T 14) (B T 15) (B T 16) (I T 17) (I T 18) (B T 19) (B T 20) (B T 21) (I T 22) (I T 23) (I T 24) (I T 25))(pre0:((I T 3)= -1∨(0≤I T 3∧I T 3≤3))∧0≤I T 2∧I T 2≤1∧0≤I T 23)(A0:Facts T a_rend_0):
  ((I T 0)=((endS g).code))∧
  (0=((endS g).phase))∧
  ((I T 90)=((endS g).side))∧
  ((-1)=((endS g).ball))∧
  ((-1)=((endS g).taken))∧
  ((I T 5)=((endS g).p0))∧
  ((I T 6)=((endS g).p1))∧
  ((I T 7)=((endS g).p2))∧
  ((I T 8)=((endS g).p3))∧
  ((B T 9)=((endS g).n0))∧
  ((B T 10)=((endS g).n1))∧
  ((B T 11)=((endS g).n2))∧
  ((B T 12)=((endS g).n3))∧
  (false=((endS g).d0))∧
  (false=((endS g).d1))∧
  (false=((endS g).d2))∧
  (false=((endS g).d3))∧
  ((I T 17)=((endS g).h0))∧
  ((I T 18)=((endS g).h1))∧
  ((B T 87)=((endS g).l0))∧
  ((B T 88)=((endS g).l1))∧
  (false=((endS g).half))∧
  ((I T 22)=((endS g).turns))∧
  (0=((endS g).began))∧
  ((I T 89)=((endS g).lastb))∧
  ((I T 25)=((endS g).winner))∧
  (B T 77=true→0≤I T 3∧I T 3 < 4)∧
  (B T 68=true→0≤I T 69∧I T 69 < 2)∧
  (B T 62=true→0≤I T 3∧I T 3 < 4)∧
  (B T 46=true→0≤I T 47∧I T 47 < 2)∧
  (B T 40=true→0≤I T 3∧I T 3 < 4):=by
 obtain⟨F0,A0⟩:=A0.cut
 obtain⟨F1,A0⟩:=A0.cut
 obtain⟨F2,A0⟩:=A0.cut
 obtain⟨F3,A0⟩:=A0.cut
 have F4:=A0;clear A0
 refine⟨?_,?_,?_,?_,?_,?_,?_,?_,?_,?_,?_,?_,?_,?_,?_,?_,?_,?_,?_,?_,?_,?_,?_,?_,?_,?_,?_,?_,?_,?_,?_⟩
 ·first|(subst hg;rfl)|(subst hg;(try simp only[endS,gainS,lastS,pointsS,inS,oneI,oneB,zB])<;>grind (splits:=100))
 ·first|(subst hg;rfl)|(subst hg;(try simp only[endS,gainS,lastS,pointsS,inS,oneI,oneB,zB])<;>grind (splits:=100))
 ·obtain⟨e90,-⟩:=F4
  simp only[fact,zR,w2P] at e90
  subst hg
  (try simp only[endS,gainS,lastS,pointsS,inS,oneI,oneB,zB])<;>grind (splits:=100)
 ·first|(subst hg;rfl)|(subst hg;(try simp only[endS,gainS,lastS,pointsS,inS,oneI,oneB,zB])<;>grind (splits:=100))
 ·first|(subst hg;rfl)|(subst hg;(try simp only[endS,gainS,lastS,pointsS,inS,oneI,oneB,zB])<;>grind (splits:=100))
 ·first|(subst hg;rfl)|(subst hg;(try simp only[endS,gainS,lastS,pointsS,inS,oneI,oneB,zB])<;>grind (splits:=100))
 ·first|(subst hg;rfl)|(subst hg;(try simp only[endS,gainS,lastS,pointsS,inS,oneI,oneB,zB])<;>grind (splits:=100))
 ·first|(subst hg;rfl)|(subst hg;(try simp only[endS,gainS,lastS,pointsS,inS,oneI,oneB,zB])<;>grind (splits:=100))
 ·first|(subst hg;rfl)|(subst hg;(try simp only[endS,gainS,lastS,pointsS,inS,oneI,oneB,zB])<;>grind (splits:=100))
 ·first|(subst hg;rfl)|(subst hg;refine iff_eq ?_;(try simp only[endS,gainS,lastS,pointsS,inS,oneI,oneB,zB])<;>grind (splits:=100))
 ·first|(subst hg;rfl)|(subst hg;refine iff_eq ?_;(try simp only[endS,gainS,lastS,pointsS,inS,oneI,oneB,zB])<;>grind (splits:=100))
 ·first|(subst hg;rfl)|(subst hg;refine iff_eq ?_;(try simp only[endS,gainS,lastS,pointsS,inS,oneI,oneB,zB])<;>grind (splits:=100))
 ·first|(subst hg;rfl)|(subst hg;refine iff_eq ?_;(try simp only[endS,gainS,lastS,pointsS,inS,oneI,oneB,zB])<;>grind (splits:=100))
 ·first|(subst hg;rfl)|(subst hg;refine iff_eq ?_;(try simp only[endS,gainS,lastS,pointsS,inS,oneI,oneB,zB])<;>grind (splits:=100))
 ·first|(subst hg;rfl)|(subst hg;refine iff_eq ?_;(try simp only[endS,gainS,lastS,pointsS,inS,oneI,oneB,zB])<;>grind (splits:=100))
 ·first|(subst hg;rfl)|(subst hg;refine iff_eq ?_;(try simp only[endS,gainS,lastS,pointsS,inS,oneI,oneB,zB])<;>grind (splits:=100))
 ·first|(subst hg;rfl)|(subst hg;refine iff_eq ?_;(try simp only[endS,gainS,lastS,pointsS,inS,oneI,oneB,zB])<;>grind (splits:=100))
 ·first|(subst hg;rfl)|(subst hg;(try simp only[endS,gainS,lastS,pointsS,inS,oneI,oneB,zB])<;>grind (splits:=100))
 ·first|(subst hg;rfl)|(subst hg;(try simp only[endS,gainS,lastS,pointsS,inS,oneI,oneB,zB])<;>grind (splits:=100))
 ·obtain⟨-,e27,e28,-,-,-,e32,e33,-,-,-,e37,e38,-,-,e41,-⟩:=F0
  obtain⟨-,-,e44,e45,-,e47,e48,e49,-,-,-,e53,-,e55,-⟩:=F1
  obtain⟨-,e59,e60,-,-,e63,-,-,e66,e67,-,e69,e70,e71,-⟩:=F2
  obtain⟨-,e75,-,-,-,-,-,-,-,-,-,-,-,e87,-⟩:=F3
  replace e27:I T 27=(liftaS (I T 0)):=e27
  replace e28:I T 28=(liftbS (I T 0)):=e28
  simp only[fact,bR_e,zC,zR,pickI,pickB,and_false,or_false,w2P,zL] at e32 e33 e37 e38 e41 e44 e45 e47 e48 e49 e53 e55 e59 e60 e63 e66 e67 e69 e70 e71 e75 e87
  subst hg
  refine iff_eq ?_
  (try simp only[endS,gainS,lastS,pointsS,inS,oneI,oneB,zB])<;>(try constructor)<;>grind (splits:=100)
 ·obtain⟨-,e27,e28,-,-,-,e32,e33,-,-,-,e37,e38,-,-,e41,-⟩:=F0
  obtain⟨-,-,e44,e45,-,e47,-,-,e50,e51,-,-,e54,e55,-⟩:=F1
  obtain⟨-,e59,e60,-,-,e63,-,-,e66,e67,-,e69,-,-,e72,e73,-⟩:=F2
  obtain⟨-,-,e76,-,-,-,-,-,-,-,-,-,-,-,e88,-⟩:=F3
  replace e27:I T 27=(liftaS (I T 0)):=e27
  replace e28:I T 28=(liftbS (I T 0)):=e28
  simp only[fact,bR_e,zC,zR,pickI,pickB,and_false,or_false,w2P,zL] at e32 e33 e37 e38 e41 e44 e45 e47 e50 e51 e54 e55 e59 e60 e63 e66 e67 e69 e72 e73 e76 e88
  subst hg
  refine iff_eq ?_
  (try simp only[endS,gainS,lastS,pointsS,inS,oneI,oneB,zB])<;>(try constructor)<;>grind (splits:=100)
 ·first|(subst hg;rfl)|(subst hg;refine iff_eq ?_;(try simp only[endS,gainS,lastS,pointsS,inS,oneI,oneB,zB])<;>grind (splits:=100))
 ·first|(subst hg;rfl)|(subst hg;(try simp only[endS,gainS,lastS,pointsS,inS,oneI,oneB,zB])<;>grind (splits:=100))
 ·first|(subst hg;rfl)|(subst hg;(try simp only[endS,gainS,lastS,pointsS,inS,oneI,oneB,zB])<;>grind (splits:=100))
 ·obtain⟨-,-,-,-,e30,-,e32,-⟩:=F0
  obtain⟨-,-,-,-,e78,e79,-,e81,e82,-,-,e85,-,-,-,e89,-⟩:=F3
  replace e30:B T 30=(bisqS (I T 0)):=e30
  simp only[fact,bR_e,zR,pickI,pickB,and_false,or_false,zL] at e32 e78 e79 e81 e82 e85 e89
  subst hg
  (try simp only[endS,gainS,lastS,pointsS,inS,oneI,oneB,zB])<;>grind (splits:=100)
 ·first|(subst hg;rfl)|(subst hg;(try simp only[endS,gainS,lastS,pointsS,inS,oneI,oneB,zB])<;>grind (splits:=100))
 ·obtain⟨-,-,-,-,e30,-,e32,-⟩:=F0
  obtain⟨-,-,-,e77,-⟩:=F3
  replace e30:B T 30=(bisqS (I T 0)):=e30
  simp only[fact,bR_e,zR] at e32 e77
  grind (splits:=100)
 ·obtain⟨-,-,e28,-,-,-,e32,-⟩:=F0
  obtain⟨-,-,-,-,-,-,-,-,-,-,-,-,-,e55,-⟩:=F1
  obtain⟨-,e59,e60,-,-,e63,-,-,e66,e67,e68,e69,-⟩:=F2
  replace e28:I T 28=(liftbS (I T 0)):=e28
  simp only[fact,bR_e,zR,pickI,pickB,and_false,or_false,w2P] at e32 e55 e59 e60 e63 e66 e67 e68 e69
  grind (splits:=100)
 ·obtain⟨-,-,e28,-,-,-,e32,-⟩:=F0
  obtain⟨-,-,-,-,-,-,-,-,-,-,-,-,-,e55,-⟩:=F1
  obtain⟨-,e59,e60,-,e62,-⟩:=F2
  replace e28:I T 28=(liftbS (I T 0)):=e28
  simp only[fact,bR_e,zR] at e32 e55 e59 e60 e62
  grind (splits:=100)
 ·obtain⟨-,e27,-,-,-,-,e32,e33,-,-,-,e37,e38,-,-,e41,-⟩:=F0
  obtain⟨-,-,e44,e45,e46,e47,-⟩:=F1
  replace e27:I T 27=(liftaS (I T 0)):=e27
  simp only[fact,bR_e,zR,pickI,pickB,and_false,or_false,w2P] at e32 e33 e37 e38 e41 e44 e45 e46 e47
  grind (splits:=100)
 ·obtain⟨-,e27,-,-,-,-,e32,e33,-,-,-,e37,e38,-,e40,-⟩:=F0
  replace e27:I T 27=(liftaS (I T 0)):=e27
  simp only[fact,bR_e,zR] at e32 e33 e37 e38 e40
  grind (splits:=100)
theorem ok_rend:TmplOK Try.prog 62 t_rend:=by
 refine tmpl_sees (l:=[(43,t_laws)]) mixed (by simp only[List.forall_mem_cons];exact⟨ok_laws,fun _ h=>absurd h (by simp)⟩) s_rend (by kernel_rfl) fun T us hpre hT hul hS hBd hE=>?_
 change us.length=26 at hul
 obtain⟨⟨lo0,hi0⟩,⟨lo1,hi1⟩,⟨lo2,hi2⟩,⟨lo3,hi3⟩,⟨lo4,hi4⟩,⟨lo5,hi5⟩,⟨lo6,hi6⟩,⟨lo7,hi7⟩,⟨lo8,hi8⟩,⟨lo17,hi17⟩,⟨lo18,hi18⟩,⟨lo22,hi22⟩,⟨lo23,hi23⟩,⟨lo24,hi24⟩,⟨lo25,hi25⟩,-⟩:=hBd
 clear lo0 hi0
 clear lo1 hi1
 clear lo2 hi2
 clear lo3 hi3
 clear lo4 hi4
 clear lo5 hi5
 clear lo6 hi6
 clear lo7 hi7
 clear lo8 hi8
 clear lo17 hi17
 clear lo18 hi18
 clear lo22 hi22
 clear lo23 hi23
 clear lo24 hi24
 clear lo25 hi25
 obtain⟨g,hg⟩:∃g:Gm,g=Gm.mk (I T 0) (I T 1) (I T 2) (I T 3) (I T 4) (I T 5) (I T 6) (I T 7) (I T 8) (B T 9) (B T 10) (B T 11) (B T 12) (B T 13) (B T 14) (B T 15) (B T 16) (I T 17) (I T 18) (B T 19) (B T 20) (B T 21) (I T 22) (I T 23) (I T 24) (I T 25):=⟨_,rfl⟩
 have hgu:gAt 0 us=g:=by rw[hg];exact gAt_in hT hul (by decide)
 have ha2:aI us 2=I T 2:=inI hT hul (by decide)
 have ha3:aI us 3=I T 3:=inI hT hul (by decide)
 have ha23:aI us 23=I T 23:=inI hT hul (by decide)
 have pre0:((I T 3)= -1∨(0≤I T 3∧I T 3≤3))∧0≤I T 2∧I T 2≤1∧0≤I T 23:=by
  have h:=hpre (.s "rend.p0",p_rend_0) (by simp[t_rend])
  change p_rend_0 us at h
  unfold p_rend_0 at h
  simp only[ha2,ha23,ha3] at h
  exact h
 clear hpre
 skip
 obtain⟨A0,hO⟩:=chkO_ok (tys:=[.i,.i,.i,.i,.i,.i,.i,.i,.i,.b,.b,.b,.b,.b,.b,.b,.b,.i,.i,.b,.b,.b,.i,.i,.i,.i]) (rs:=r_rend) hS (by kernel_rfl) hE
 obtain⟨q0,q1,q2,q3,q4,q5,q6,q7,q8,q9,q10,q11,q12,q13,q14,q15,q16,q17,q18,q19,q20,q21,q22,q23,q24,q25,r0,r1,r2,r3,r4⟩:=m_rend g hg pre0 A0
 refine⟨⟨r0,r1,r2,r3,r4,trivial⟩,hO.trans ?_⟩
 exact (lc (by show U.int (I T 0)= .int (o_rend_0 us);unfold o_rend_0 og_rend;rw[hgu];exact congrArg U.int q0) (lc (by show U.int 0= .int (o_rend_1 us);unfold o_rend_1 og_rend;rw[hgu];exact congrArg U.int q1) (lc (by show U.int (I T 90)= .int (o_rend_2 us);unfold o_rend_2 og_rend;rw[hgu];exact congrArg U.int q2) (lc (by show U.int (-1)= .int (o_rend_3 us);unfold o_rend_3 og_rend;rw[hgu];exact congrArg U.int q3) (lc (by show U.int (-1)= .int (o_rend_4 us);unfold o_rend_4 og_rend;rw[hgu];exact congrArg U.int q4) (lc (by show U.int (I T 5)= .int (o_rend_5 us);unfold o_rend_5 og_rend;rw[hgu];exact congrArg U.int q5) (lc (by show U.int (I T 6)= .int (o_rend_6 us);unfold o_rend_6 og_rend;rw[hgu];exact congrArg U.int q6) (lc (by show U.int (I T 7)= .int (o_rend_7 us);unfold o_rend_7 og_rend;rw[hgu];exact congrArg U.int q7) (lc (by show U.int (I T 8)= .int (o_rend_8 us);unfold o_rend_8 og_rend;rw[hgu];exact congrArg U.int q8) (lc (by show U.bool (B T 9)= .bool (o_rend_9 us);unfold o_rend_9 og_rend;rw[hgu];exact congrArg U.bool q9) (lc (by show U.bool (B T 10)= .bool (o_rend_10 us);unfold o_rend_10 og_rend;rw[hgu];exact congrArg U.bool q10) (lc (by show U.bool (B T 11)= .bool (o_rend_11 us);unfold o_rend_11 og_rend;rw[hgu];exact congrArg U.bool q11) (lc (by show U.bool (B T 12)= .bool (o_rend_12 us);unfold o_rend_12 og_rend;rw[hgu];exact congrArg U.bool q12) (lc (by show U.bool false= .bool (o_rend_13 us);unfold o_rend_13 og_rend;rw[hgu];exact congrArg U.bool q13) (lc (by show U.bool false= .bool (o_rend_14 us);unfold o_rend_14 og_rend;rw[hgu];exact congrArg U.bool q14) (lc (by show U.bool false= .bool (o_rend_15 us);unfold o_rend_15 og_rend;rw[hgu];exact congrArg U.bool q15) (lc (by show U.bool false= .bool (o_rend_16 us);unfold o_rend_16 og_rend;rw[hgu];exact congrArg U.bool q16) (lc (by show U.int (I T 17)= .int (o_rend_17 us);unfold o_rend_17 og_rend;rw[hgu];exact congrArg U.int q17) (lc (by show U.int (I T 18)= .int (o_rend_18 us);unfold o_rend_18 og_rend;rw[hgu];exact congrArg U.int q18) (lc (by show U.bool (B T 87)= .bool (o_rend_19 us);unfold o_rend_19 og_rend;rw[hgu];exact congrArg U.bool q19) (lc (by show U.bool (B T 88)= .bool (o_rend_20 us);unfold o_rend_20 og_rend;rw[hgu];exact congrArg U.bool q20) (lc (by show U.bool false= .bool (o_rend_21 us);unfold o_rend_21 og_rend;rw[hgu];exact congrArg U.bool q21) (lc (by show U.int (I T 22)= .int (o_rend_22 us);unfold o_rend_22 og_rend;rw[hgu];exact congrArg U.int q22) (lc (by show U.int 0= .int (o_rend_23 us);unfold o_rend_23 og_rend;rw[hgu];exact congrArg U.int q23) (lc (by show U.int (I T 89)= .int (o_rend_24 us);unfold o_rend_24 og_rend;rw[hgu];exact congrArg U.int q24) (lc (by show U.int (I T 25)= .int (o_rend_25 us);unfold o_rend_25 og_rend;rw[hgu];exact congrArg U.int q25) rfl))))))))))))))))))))))))))
end Go.Eng
end
