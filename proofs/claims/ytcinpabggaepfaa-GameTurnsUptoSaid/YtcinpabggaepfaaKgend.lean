/-
  A part of the proof: K_gendd K_gend.
-/
import Derived.Test.YtcinpabggaepfaaE3
import Derived.Test.YtcinpabggaepfaaE4
set_option linter.unusedVariables false
set_option linter.unusedSimpArgs false
section
open Go Go.Eng Go.Proofs
set_option maxHeartbeats 4000000
set_option maxRecDepth 100000
namespace Go.Eng
def og_gend (us:List U):Gm:=endS (gAt 0 us)
def o_gend_0 (us:List U):Int:=(og_gend us).code
def o_gend_1 (us:List U):Int:=(og_gend us).phase
def o_gend_2 (us:List U):Int:=(og_gend us).side
def o_gend_3 (us:List U):Int:=(og_gend us).ball
def o_gend_4 (us:List U):Int:=(og_gend us).taken
def o_gend_5 (us:List U):Int:=(og_gend us).p0
def o_gend_6 (us:List U):Int:=(og_gend us).p1
def o_gend_7 (us:List U):Int:=(og_gend us).p2
def o_gend_8 (us:List U):Int:=(og_gend us).p3
def o_gend_9 (us:List U):Bool:=(og_gend us).n0
def o_gend_10 (us:List U):Bool:=(og_gend us).n1
def o_gend_11 (us:List U):Bool:=(og_gend us).n2
def o_gend_12 (us:List U):Bool:=(og_gend us).n3
def o_gend_13 (us:List U):Bool:=(og_gend us).d0
def o_gend_14 (us:List U):Bool:=(og_gend us).d1
def o_gend_15 (us:List U):Bool:=(og_gend us).d2
def o_gend_16 (us:List U):Bool:=(og_gend us).d3
def o_gend_17 (us:List U):Int:=(og_gend us).h0
def o_gend_18 (us:List U):Int:=(og_gend us).h1
def o_gend_19 (us:List U):Bool:=(og_gend us).l0
def o_gend_20 (us:List U):Bool:=(og_gend us).l1
def o_gend_21 (us:List U):Bool:=(og_gend us).half
def o_gend_22 (us:List U):Int:=(og_gend us).turns
def o_gend_23 (us:List U):Int:=(og_gend us).began
def o_gend_24 (us:List U):Int:=(og_gend us).lastb
def o_gend_25 (us:List U):Int:=(og_gend us).winner
def p_gend_0:List U→Prop:=fun us=>0≤(aI us 0)∧(aI us 0)≤3∧(aI us 26)=hoopsS (aI us 0)∧(aI us 27)=liftaS (aI us 0)∧(aI us 28)=liftbS (aI us 0)∧(aB us 29)=peelsS (aI us 0)∧(aB us 30)=bisqS (aI us 0)∧(aB us 31)=partS (aI us 0)
def p_gend_1:List U→Prop:=fun us=>((aI us 3)= -1∨(0≤(aI us 3)∧(aI us 3)≤3))∧0≤(aI us 2)∧(aI us 2)≤1∧0≤(aI us 23)
def t_gend:Tmpl:={ sh:=[.ptr 0 0],blks:=[([k64,k64,k64,k64,k64,k64,k64,k64,k64,.bool,.bool,.bool,.bool,.bool,.bool,.bool,.bool,k64,k64,.bool,.bool,.bool,k64,k64,k64,k64,k64,k64,k64,.bool,.bool,.bool],73)],outs:=[(.s "gend.0",outUI o_gend_0),(.s "gend.1",outUI o_gend_1),(.s "gend.2",outUI o_gend_2),(.s "gend.3",outUI o_gend_3),(.s "gend.4",outUI o_gend_4),(.s "gend.5",outUI o_gend_5),(.s "gend.6",outUI o_gend_6),(.s "gend.7",outUI o_gend_7),(.s "gend.8",outUI o_gend_8),(.s "gend.9",outUB o_gend_9),(.s "gend.10",outUB o_gend_10),(.s "gend.11",outUB o_gend_11),(.s "gend.12",outUB o_gend_12),(.s "gend.13",outUB o_gend_13),(.s "gend.14",outUB o_gend_14),(.s "gend.15",outUB o_gend_15),(.s "gend.16",outUB o_gend_16),(.s "gend.17",outUI o_gend_17),(.s "gend.18",outUI o_gend_18),(.s "gend.19",outUB o_gend_19),(.s "gend.20",outUB o_gend_20),(.s "gend.21",outUB o_gend_21),(.s "gend.22",outUI o_gend_22),(.s "gend.23",outUI o_gend_23),(.s "gend.24",outUI o_gend_24),(.s "gend.25",outUI o_gend_25)],c:= .tup [],m':=[.cells [(aI64 32),(aI64 33),(aI64 34),(aI64 35),(aI64 36),(aI64 37),(aI64 38),(aI64 39),(aI64 40),.b 41,.b 42,.b 43,.b 44,.b 45,.b 46,.b 47,.b 48,(aI64 49),(aI64 50),.b 51,.b 52,.b 53,(aI64 54),(aI64 55),(aI64 56),(aI64 57),(aI64 26),(aI64 27),(aI64 28),.b 29,.b 30,.b 31] 73],pre:=[(.s "gend.p0",p_gend_0),(.s "gend.p1",p_gend_1)] }
noncomputable def a_gend_0_0:List En:=[⟨32,.ne,[.e 3,.c (.int (-1))]⟩,
 ⟨33,.lt,[.e 23,.e 27]⟩,
 ⟨34,.and,[.e 32,.e 33]⟩,
 ⟨35,.pick .i,[.e 3,.e 5,.e 6,.e 7,.e 8]⟩,
 ⟨36,.le,[.e 27,.e 35]⟩,
 ⟨37,.and,[.e 33,.e 36]⟩,
 ⟨38,.and,[.e 32,.e 37]⟩,
 ⟨39,.w2 .i64 .sub,[.c (.int 1),.e 2]⟩,
 ⟨40,.eq,[.e 39,.c (.int 0)]⟩,
 ⟨41,.ite .b,[.e 40,.c (.bool true),.e 19]⟩,
 ⟨42,.eq,[.e 39,.c (.int 1)]⟩,
 ⟨43,.ite .b,[.e 42,.c (.bool true),.e 20]⟩,
 ⟨44,.and,[.e 32,.n 37]⟩,
 ⟨45,.ite .b,[.e 37,.e 41,.e 19]⟩,
 ⟨46,.ite .b,[.e 37,.e 43,.e 20]⟩,
 ⟨47,.lt,[.e 23,.e 28]⟩]
noncomputable def a_gend_0_1:List En:=[⟨48,.and,[.e 32,.e 47]⟩,
 ⟨49,.pick .i,[.e 3,.e 5,.e 6,.e 7,.e 8]⟩,
 ⟨50,.le,[.e 28,.e 49]⟩,
 ⟨51,.and,[.e 47,.e 50]⟩,
 ⟨52,.and,[.e 32,.e 51]⟩,
 ⟨53,.w2 .i64 .sub,[.c (.int 1),.e 2]⟩,
 ⟨54,.eq,[.e 53,.c (.int 0)]⟩,
 ⟨55,.ite .b,[.e 54,.c (.bool true),.e 45]⟩,
 ⟨56,.eq,[.e 53,.c (.int 1)]⟩,
 ⟨57,.ite .b,[.e 56,.c (.bool true),.e 46]⟩,
 ⟨58,.and,[.e 32,.n 51]⟩,
 ⟨59,.ite .b,[.e 51,.e 55,.e 45]⟩,
 ⟨60,.ite .b,[.e 51,.e 57,.e 46]⟩,
 ⟨61,.and,[.e 32,.e 30]⟩,
 ⟨62,.pick .b,[.e 3,.e 9,.e 10,.e 11,.e 12]⟩,
 ⟨63,.and,[.e 30,.e 62]⟩]
noncomputable def a_gend_0_2:List En:=[⟨64,.and,[.e 32,.e 63]⟩,
 ⟨65,.le,[.c (.int 4),.e 22]⟩,
 ⟨66,.and,[.e 63,.e 65]⟩,
 ⟨67,.and,[.e 32,.e 66]⟩,
 ⟨68,.and,[.e 32,.n 66]⟩,
 ⟨69,.ite .i,[.e 66,.e 3,.c (.int (-1))]⟩,
 ⟨70,.not,[.e 32]⟩,
 ⟨71,.ite .b,[.e 32,.e 59,.e 19]⟩,
 ⟨72,.ite .b,[.e 32,.e 60,.e 20]⟩,
 ⟨73,.ite .i,[.e 32,.e 69,.c (.int (-1))]⟩,
 ⟨74,.w2 .i64 .sub,[.c (.int 1),.e 2]⟩]
noncomputable def a_gend_0:List En:=a_gend_0_0++(a_gend_0_1++(a_gend_0_2))
noncomputable def q_gend:List ObE:=[⟨some 61,.inr,[.e 3,.c (.int 4)]⟩,
 ⟨some 52,.inr,[.e 53,.c (.int 2)]⟩,
 ⟨some 48,.inr,[.e 3,.c (.int 4)]⟩,
 ⟨some 38,.inr,[.e 39,.c (.int 2)]⟩,
 ⟨some 34,.inr,[.e 3,.c (.int 4)]⟩]
def r_gend:List Rf:=[.e 0,.c (.int 0),.e 74,.c (.int (-1)),.c (.int (-1)),.e 5,.e 6,.e 7,.e 8,.e 9,.e 10,.e 11,.e 12,.c (.bool false),.c (.bool false),.c (.bool false),.c (.bool false),.e 17,.e 18,.e 71,.e 72,.c (.bool false),.e 22,.c (.int 0),.e 73,.e 25]
end Go.Eng
end
section
open Go Go.Eng Go.Proofs
set_option maxHeartbeats 4000000
set_option maxRecDepth 100000
namespace Go.Eng
theorem s_gend:t_gend.sees r_gend (t_gend.run Try.prog [] hints 3000 20 54)=some ((a_gend_0).map En.be,q_gend.map ObE.be,[]):=by kernel_rfl
theorem m_gend {T:Tab}(g:Gm)(hg:g=Gm.mk (I T 0) (I T 1) (I T 2) (I T 3) (I T 4) (I T 5) (I T 6) (I T 7) (I T 8) (B T 9) (B T 10) (B T 11) (B T 12) (B T 13) (B T 14) (B T 15) (B T 16) (I T 17) (I T 18) (B T 19) (B T 20) (B T 21) (I T 22) (I T 23) (I T 24) (I T 25))(pre0:0≤I T 0∧I T 0≤3∧I T 26=hoopsS (I T 0)∧I T 27=liftaS (I T 0)∧I T 28=liftbS (I T 0)∧B T 29=peelsS (I T 0)∧B T 30=bisqS (I T 0)∧B T 31=partS (I T 0))(pre1:((I T 3)= -1∨(0≤I T 3∧I T 3≤3))∧0≤I T 2∧I T 2≤1∧0≤I T 23)(A0:Facts T a_gend_0):
  ((I T 0)=((endS g).code))∧
  (0=((endS g).phase))∧
  ((I T 74)=((endS g).side))∧
  ((-1)=((endS g).ball))∧
  ((-1)=((endS g).taken))∧
  ((I T 5)=((endS g).p0))∧
  ((I T 6)=((endS g).p1))∧
  ((I T 7)=((endS g).p2))∧
  ((I T 8)=((endS g).p3))∧
  ((B T 9)=((endS g).n0))∧
  ((B T 10)=((endS g).n1))∧
  ((B T 11)=((endS g).n2))∧
  ((B T 12)=((endS g).n3))∧
  (false=((endS g).d0))∧
  (false=((endS g).d1))∧
  (false=((endS g).d2))∧
  (false=((endS g).d3))∧
  ((I T 17)=((endS g).h0))∧
  ((I T 18)=((endS g).h1))∧
  ((B T 71)=((endS g).l0))∧
  ((B T 72)=((endS g).l1))∧
  (false=((endS g).half))∧
  ((I T 22)=((endS g).turns))∧
  (0=((endS g).began))∧
  ((I T 73)=((endS g).lastb))∧
  ((I T 25)=((endS g).winner))∧
  (B T 61=true→0≤I T 3∧I T 3 < 4)∧
  (B T 52=true→0≤I T 53∧I T 53 < 2)∧
  (B T 48=true→0≤I T 3∧I T 3 < 4)∧
  (B T 38=true→0≤I T 39∧I T 39 < 2)∧
  (B T 34=true→0≤I T 3∧I T 3 < 4):=by
 obtain⟨F0,A0⟩:=A0.cut
 obtain⟨F1,A0⟩:=A0.cut
 have F2:=A0;clear A0
 obtain⟨z0,z1,z2,z3,z4,z5,z6,z7⟩:=pre0
 refine⟨?_,?_,?_,?_,?_,?_,?_,?_,?_,?_,?_,?_,?_,?_,?_,?_,?_,?_,?_,?_,?_,?_,?_,?_,?_,?_,?_,?_,?_,?_,?_⟩
 ·first|(subst hg;rfl)|(subst hg;(try simp only[endS,gainS,lastS,pointsS,inS,oneI,oneB,zB])<;>grind (splits:=100) [liftaS,liftbS])
 ·first|(subst hg;rfl)|(subst hg;(try simp only[endS,gainS,lastS,pointsS,inS,oneI,oneB,zB])<;>grind (splits:=100) [liftaS,liftbS])
 ·obtain⟨-,-,-,-,-,-,-,-,-,-,e74,-⟩:=F2
  simp only[fact,zR,w2P] at e74
  subst hg
  (try simp only[endS,gainS,lastS,pointsS,inS,oneI,oneB,zB])<;>grind (splits:=100) [liftaS,liftbS]
 ·first|(subst hg;rfl)|(subst hg;(try simp only[endS,gainS,lastS,pointsS,inS,oneI,oneB,zB])<;>grind (splits:=100) [liftaS,liftbS])
 ·first|(subst hg;rfl)|(subst hg;(try simp only[endS,gainS,lastS,pointsS,inS,oneI,oneB,zB])<;>grind (splits:=100) [liftaS,liftbS])
 ·first|(subst hg;rfl)|(subst hg;(try simp only[endS,gainS,lastS,pointsS,inS,oneI,oneB,zB])<;>grind (splits:=100) [liftaS,liftbS])
 ·first|(subst hg;rfl)|(subst hg;(try simp only[endS,gainS,lastS,pointsS,inS,oneI,oneB,zB])<;>grind (splits:=100) [liftaS,liftbS])
 ·first|(subst hg;rfl)|(subst hg;(try simp only[endS,gainS,lastS,pointsS,inS,oneI,oneB,zB])<;>grind (splits:=100) [liftaS,liftbS])
 ·first|(subst hg;rfl)|(subst hg;(try simp only[endS,gainS,lastS,pointsS,inS,oneI,oneB,zB])<;>grind (splits:=100) [liftaS,liftbS])
 ·first|(subst hg;rfl)|(subst hg;refine iff_eq ?_;(try simp only[endS,gainS,lastS,pointsS,inS,oneI,oneB,zB])<;>grind (splits:=100) [liftaS,liftbS])
 ·first|(subst hg;rfl)|(subst hg;refine iff_eq ?_;(try simp only[endS,gainS,lastS,pointsS,inS,oneI,oneB,zB])<;>grind (splits:=100) [liftaS,liftbS])
 ·first|(subst hg;rfl)|(subst hg;refine iff_eq ?_;(try simp only[endS,gainS,lastS,pointsS,inS,oneI,oneB,zB])<;>grind (splits:=100) [liftaS,liftbS])
 ·first|(subst hg;rfl)|(subst hg;refine iff_eq ?_;(try simp only[endS,gainS,lastS,pointsS,inS,oneI,oneB,zB])<;>grind (splits:=100) [liftaS,liftbS])
 ·first|(subst hg;rfl)|(subst hg;refine iff_eq ?_;(try simp only[endS,gainS,lastS,pointsS,inS,oneI,oneB,zB])<;>grind (splits:=100) [liftaS,liftbS])
 ·first|(subst hg;rfl)|(subst hg;refine iff_eq ?_;(try simp only[endS,gainS,lastS,pointsS,inS,oneI,oneB,zB])<;>grind (splits:=100) [liftaS,liftbS])
 ·first|(subst hg;rfl)|(subst hg;refine iff_eq ?_;(try simp only[endS,gainS,lastS,pointsS,inS,oneI,oneB,zB])<;>grind (splits:=100) [liftaS,liftbS])
 ·first|(subst hg;rfl)|(subst hg;refine iff_eq ?_;(try simp only[endS,gainS,lastS,pointsS,inS,oneI,oneB,zB])<;>grind (splits:=100) [liftaS,liftbS])
 ·first|(subst hg;rfl)|(subst hg;(try simp only[endS,gainS,lastS,pointsS,inS,oneI,oneB,zB])<;>grind (splits:=100) [liftaS,liftbS])
 ·first|(subst hg;rfl)|(subst hg;(try simp only[endS,gainS,lastS,pointsS,inS,oneI,oneB,zB])<;>grind (splits:=100) [liftaS,liftbS])
 ·obtain⟨e32,e33,-,e35,e36,e37,-,e39,e40,e41,-,-,-,e45,-,e47,-⟩:=F0
  obtain⟨-,e49,e50,e51,-,e53,e54,e55,-,-,-,e59,-⟩:=F1
  obtain⟨-,-,-,-,-,-,-,e71,-⟩:=F2
  simp only[fact,bR_e,zC,zR,pickI,pickB,and_false,or_false,w2P,zL] at e32 e33 e35 e36 e37 e39 e40 e41 e45 e47 e49 e50 e51 e53 e54 e55 e59 e71
  subst hg
  refine iff_eq ?_
  (try simp only[endS,gainS,lastS,pointsS,inS,oneI,oneB,zB])<;>(try constructor)<;>grind (splits:=100) [liftaS,liftbS]
 ·obtain⟨e32,e33,-,e35,e36,e37,-,e39,-,-,e42,e43,-,-,e46,e47,-⟩:=F0
  obtain⟨-,e49,e50,e51,-,e53,-,-,e56,e57,-,-,e60,-⟩:=F1
  obtain⟨-,-,-,-,-,-,-,-,e72,-⟩:=F2
  simp only[fact,bR_e,zC,zR,pickI,pickB,and_false,or_false,w2P,zL] at e32 e33 e35 e36 e37 e39 e42 e43 e46 e47 e49 e50 e51 e53 e56 e57 e60 e72
  subst hg
  refine iff_eq ?_
  (try simp only[endS,gainS,lastS,pointsS,inS,oneI,oneB,zB])<;>(try constructor)<;>grind (splits:=100) [liftaS,liftbS]
 ·first|(subst hg;rfl)|(subst hg;refine iff_eq ?_;(try simp only[endS,gainS,lastS,pointsS,inS,oneI,oneB,zB])<;>grind (splits:=100) [liftaS,liftbS])
 ·first|(subst hg;rfl)|(subst hg;(try simp only[endS,gainS,lastS,pointsS,inS,oneI,oneB,zB])<;>grind (splits:=100) [liftaS,liftbS])
 ·first|(subst hg;rfl)|(subst hg;(try simp only[endS,gainS,lastS,pointsS,inS,oneI,oneB,zB])<;>grind (splits:=100) [liftaS,liftbS])
 ·obtain⟨e32,-⟩:=F0
  obtain⟨-,-,-,-,-,-,-,-,-,-,-,-,-,-,e62,e63,-⟩:=F1
  obtain⟨-,e65,e66,-,-,e69,-,-,-,e73,-⟩:=F2
  simp only[fact,bR_e,zR,pickI,pickB,and_false,or_false,zL] at e32 e62 e63 e65 e66 e69 e73
  subst hg
  (try simp only[endS,gainS,lastS,pointsS,inS,oneI,oneB,zB])<;>grind (splits:=100) [liftaS,liftbS]
 ·first|(subst hg;rfl)|(subst hg;(try simp only[endS,gainS,lastS,pointsS,inS,oneI,oneB,zB])<;>grind (splits:=100) [liftaS,liftbS])
 ·obtain⟨e32,-⟩:=F0
  obtain⟨-,-,-,-,-,-,-,-,-,-,-,-,-,e61,-⟩:=F1
  simp only[fact,bR_e,zR] at e32 e61
  subst hg
  grind (splits:=100) [liftaS,liftbS]
 ·obtain⟨e32,-,-,-,-,-,-,-,-,-,-,-,-,-,-,e47,-⟩:=F0
  obtain⟨-,e49,e50,e51,e52,e53,-⟩:=F1
  simp only[fact,bR_e,zR,pickI,pickB,and_false,or_false,w2P] at e32 e47 e49 e50 e51 e52 e53
  subst hg
  grind (splits:=100) [liftaS,liftbS]
 ·obtain⟨e32,-,-,-,-,-,-,-,-,-,-,-,-,-,-,e47,-⟩:=F0
  obtain⟨e48,-⟩:=F1
  simp only[fact,bR_e,zR] at e32 e47 e48
  subst hg
  grind (splits:=100) [liftaS,liftbS]
 ·obtain⟨e32,e33,-,e35,e36,e37,e38,e39,-⟩:=F0
  simp only[fact,bR_e,zR,pickI,pickB,and_false,or_false,w2P] at e32 e33 e35 e36 e37 e38 e39
  subst hg
  grind (splits:=100) [liftaS,liftbS]
 ·obtain⟨e32,e33,e34,-⟩:=F0
  simp only[fact,bR_e,zR] at e32 e33 e34
  subst hg
  grind (splits:=100) [liftaS,liftbS]
theorem ok_gend:TmplOK Try.prog 54 t_gend:=by
 refine tmpl_sees (l:=[]) mixed (by intro p h;exact absurd h (by simp)) s_gend (by kernel_rfl) fun T us hpre hT hul hS hBd hE=>?_
 change us.length=32 at hul
 obtain⟨⟨lo0,hi0⟩,⟨lo1,hi1⟩,⟨lo2,hi2⟩,⟨lo3,hi3⟩,⟨lo4,hi4⟩,⟨lo5,hi5⟩,⟨lo6,hi6⟩,⟨lo7,hi7⟩,⟨lo8,hi8⟩,⟨lo17,hi17⟩,⟨lo18,hi18⟩,⟨lo22,hi22⟩,⟨lo23,hi23⟩,⟨lo24,hi24⟩,⟨lo25,hi25⟩,⟨lo26,hi26⟩,⟨lo27,hi27⟩,⟨lo28,hi28⟩,-⟩:=hBd
 clear lo0 hi0
 clear lo1 hi1
 clear lo2 hi2
 clear lo3 hi3
 clear lo4 hi4
 clear lo5 hi5
 clear lo6 hi6
 clear lo7 hi7
 clear lo8 hi8
 clear lo17 hi17
 clear lo18 hi18
 clear lo22 hi22
 clear lo23 hi23
 clear lo24 hi24
 clear lo25 hi25
 clear lo26 hi26
 clear lo27 hi27
 clear lo28 hi28
 obtain⟨g,hg⟩:∃g:Gm,g=Gm.mk (I T 0) (I T 1) (I T 2) (I T 3) (I T 4) (I T 5) (I T 6) (I T 7) (I T 8) (B T 9) (B T 10) (B T 11) (B T 12) (B T 13) (B T 14) (B T 15) (B T 16) (I T 17) (I T 18) (B T 19) (B T 20) (B T 21) (I T 22) (I T 23) (I T 24) (I T 25):=⟨_,rfl⟩
 have hgu:gAt 0 us=g:=by rw[hg];exact gAt_in hT hul (by decide)
 have ha0:aI us 0=I T 0:=inI hT hul (by decide)
 have ha2:aI us 2=I T 2:=inI hT hul (by decide)
 have ha3:aI us 3=I T 3:=inI hT hul (by decide)
 have ha23:aI us 23=I T 23:=inI hT hul (by decide)
 have ha26:aI us 26=I T 26:=inI hT hul (by decide)
 have ha27:aI us 27=I T 27:=inI hT hul (by decide)
 have ha28:aI us 28=I T 28:=inI hT hul (by decide)
 have ha29:aB us 29=B T 29:=inB hT hul (by decide)
 have ha30:aB us 30=B T 30:=inB hT hul (by decide)
 have ha31:aB us 31=B T 31:=inB hT hul (by decide)
 have pre0:0≤I T 0∧I T 0≤3∧I T 26=hoopsS (I T 0)∧I T 27=liftaS (I T 0)∧I T 28=liftbS (I T 0)∧B T 29=peelsS (I T 0)∧B T 30=bisqS (I T 0)∧B T 31=partS (I T 0):=by
  have h:=hpre (.s "gend.p0",p_gend_0) (by simp[t_gend])
  change p_gend_0 us at h
  unfold p_gend_0 at h
  simp only[ha0,ha26,ha27,ha28,ha29,ha30,ha31] at h
  exact h
 have pre1:((I T 3)= -1∨(0≤I T 3∧I T 3≤3))∧0≤I T 2∧I T 2≤1∧0≤I T 23:=by
  have h:=hpre (.s "gend.p1",p_gend_1) (by simp[t_gend])
  change p_gend_1 us at h
  unfold p_gend_1 at h
  simp only[ha2,ha23,ha3] at h
  exact h
 clear hpre
 skip
 obtain⟨A0,hO⟩:=chkO_ok (tys:=[.i,.i,.i,.i,.i,.i,.i,.i,.i,.b,.b,.b,.b,.b,.b,.b,.b,.i,.i,.b,.b,.b,.i,.i,.i,.i]) (rs:=r_gend) hS (by kernel_rfl) hE
 obtain⟨q0,q1,q2,q3,q4,q5,q6,q7,q8,q9,q10,q11,q12,q13,q14,q15,q16,q17,q18,q19,q20,q21,q22,q23,q24,q25,r0,r1,r2,r3,r4⟩:=m_gend g hg pre0 pre1 A0
 refine⟨⟨r0,r1,r2,r3,r4,trivial⟩,hO.trans ?_⟩
 exact (lc (by show U.int (I T 0)= .int (o_gend_0 us);unfold o_gend_0 og_gend;rw[hgu];exact congrArg U.int q0) (lc (by show U.int 0= .int (o_gend_1 us);unfold o_gend_1 og_gend;rw[hgu];exact congrArg U.int q1) (lc (by show U.int (I T 74)= .int (o_gend_2 us);unfold o_gend_2 og_gend;rw[hgu];exact congrArg U.int q2) (lc (by show U.int (-1)= .int (o_gend_3 us);unfold o_gend_3 og_gend;rw[hgu];exact congrArg U.int q3) (lc (by show U.int (-1)= .int (o_gend_4 us);unfold o_gend_4 og_gend;rw[hgu];exact congrArg U.int q4) (lc (by show U.int (I T 5)= .int (o_gend_5 us);unfold o_gend_5 og_gend;rw[hgu];exact congrArg U.int q5) (lc (by show U.int (I T 6)= .int (o_gend_6 us);unfold o_gend_6 og_gend;rw[hgu];exact congrArg U.int q6) (lc (by show U.int (I T 7)= .int (o_gend_7 us);unfold o_gend_7 og_gend;rw[hgu];exact congrArg U.int q7) (lc (by show U.int (I T 8)= .int (o_gend_8 us);unfold o_gend_8 og_gend;rw[hgu];exact congrArg U.int q8) (lc (by show U.bool (B T 9)= .bool (o_gend_9 us);unfold o_gend_9 og_gend;rw[hgu];exact congrArg U.bool q9) (lc (by show U.bool (B T 10)= .bool (o_gend_10 us);unfold o_gend_10 og_gend;rw[hgu];exact congrArg U.bool q10) (lc (by show U.bool (B T 11)= .bool (o_gend_11 us);unfold o_gend_11 og_gend;rw[hgu];exact congrArg U.bool q11) (lc (by show U.bool (B T 12)= .bool (o_gend_12 us);unfold o_gend_12 og_gend;rw[hgu];exact congrArg U.bool q12) (lc (by show U.bool false= .bool (o_gend_13 us);unfold o_gend_13 og_gend;rw[hgu];exact congrArg U.bool q13) (lc (by show U.bool false= .bool (o_gend_14 us);unfold o_gend_14 og_gend;rw[hgu];exact congrArg U.bool q14) (lc (by show U.bool false= .bool (o_gend_15 us);unfold o_gend_15 og_gend;rw[hgu];exact congrArg U.bool q15) (lc (by show U.bool false= .bool (o_gend_16 us);unfold o_gend_16 og_gend;rw[hgu];exact congrArg U.bool q16) (lc (by show U.int (I T 17)= .int (o_gend_17 us);unfold o_gend_17 og_gend;rw[hgu];exact congrArg U.int q17) (lc (by show U.int (I T 18)= .int (o_gend_18 us);unfold o_gend_18 og_gend;rw[hgu];exact congrArg U.int q18) (lc (by show U.bool (B T 71)= .bool (o_gend_19 us);unfold o_gend_19 og_gend;rw[hgu];exact congrArg U.bool q19) (lc (by show U.bool (B T 72)= .bool (o_gend_20 us);unfold o_gend_20 og_gend;rw[hgu];exact congrArg U.bool q20) (lc (by show U.bool false= .bool (o_gend_21 us);unfold o_gend_21 og_gend;rw[hgu];exact congrArg U.bool q21) (lc (by show U.int (I T 22)= .int (o_gend_22 us);unfold o_gend_22 og_gend;rw[hgu];exact congrArg U.int q22) (lc (by show U.int 0= .int (o_gend_23 us);unfold o_gend_23 og_gend;rw[hgu];exact congrArg U.int q23) (lc (by show U.int (I T 73)= .int (o_gend_24 us);unfold o_gend_24 og_gend;rw[hgu];exact congrArg U.int q24) (lc (by show U.int (I T 25)= .int (o_gend_25 us);unfold o_gend_25 og_gend;rw[hgu];exact congrArg U.int q25) rfl))))))))))))))))))))))))))
end Go.Eng
end
