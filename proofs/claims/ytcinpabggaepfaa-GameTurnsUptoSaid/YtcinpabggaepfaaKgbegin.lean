/-
  A part of the proof: K_gbegind K_gbegin.
-/
import Derived.Test.YtcinpabggaepfaaE3
import Derived.Test.YtcinpabggaepfaaE4
set_option linter.unusedVariables false
set_option linter.unusedSimpArgs false
section
open Go Go.Eng Go.Proofs
set_option maxHeartbeats 4000000
set_option maxRecDepth 100000
namespace Go.Eng
def og_gbegin (us:List U):Gm:=beginS (gAt 1 us) (aI us 0)
def o_gbegin_0 (us:List U):Int:=(og_gbegin us).code
def o_gbegin_1 (us:List U):Int:=(og_gbegin us).phase
def o_gbegin_2 (us:List U):Int:=(og_gbegin us).side
def o_gbegin_3 (us:List U):Int:=(og_gbegin us).ball
def o_gbegin_4 (us:List U):Int:=(og_gbegin us).taken
def o_gbegin_5 (us:List U):Int:=(og_gbegin us).p0
def o_gbegin_6 (us:List U):Int:=(og_gbegin us).p1
def o_gbegin_7 (us:List U):Int:=(og_gbegin us).p2
def o_gbegin_8 (us:List U):Int:=(og_gbegin us).p3
def o_gbegin_9 (us:List U):Bool:=(og_gbegin us).n0
def o_gbegin_10 (us:List U):Bool:=(og_gbegin us).n1
def o_gbegin_11 (us:List U):Bool:=(og_gbegin us).n2
def o_gbegin_12 (us:List U):Bool:=(og_gbegin us).n3
def o_gbegin_13 (us:List U):Bool:=(og_gbegin us).d0
def o_gbegin_14 (us:List U):Bool:=(og_gbegin us).d1
def o_gbegin_15 (us:List U):Bool:=(og_gbegin us).d2
def o_gbegin_16 (us:List U):Bool:=(og_gbegin us).d3
def o_gbegin_17 (us:List U):Int:=(og_gbegin us).h0
def o_gbegin_18 (us:List U):Int:=(og_gbegin us).h1
def o_gbegin_19 (us:List U):Bool:=(og_gbegin us).l0
def o_gbegin_20 (us:List U):Bool:=(og_gbegin us).l1
def o_gbegin_21 (us:List U):Bool:=(og_gbegin us).half
def o_gbegin_22 (us:List U):Int:=(og_gbegin us).turns
def o_gbegin_23 (us:List U):Int:=(og_gbegin us).began
def o_gbegin_24 (us:List U):Int:=(og_gbegin us).lastb
def o_gbegin_25 (us:List U):Int:=(og_gbegin us).winner
def p_gbegin_0:List U→Prop:=fun us=>0≤(aI us 0)∧(aI us 0)≤3∧0≤(aI us 23)∧(aI us 23)≤1073741824
def t_gbegin:Tmpl:={ sh:=[.ptr 0 0,.one (k64)],blks:=[([k64,k64,k64,k64,k64,k64,k64,k64,k64,.bool,.bool,.bool,.bool,.bool,.bool,.bool,.bool,k64,k64,.bool,.bool,.bool,k64,k64,k64,k64,k64,k64,k64,.bool,.bool,.bool],73)],outs:=[(.s "gbegin.0",outUI o_gbegin_0),(.s "gbegin.1",outUI o_gbegin_1),(.s "gbegin.2",outUI o_gbegin_2),(.s "gbegin.3",outUI o_gbegin_3),(.s "gbegin.4",outUI o_gbegin_4),(.s "gbegin.5",outUI o_gbegin_5),(.s "gbegin.6",outUI o_gbegin_6),(.s "gbegin.7",outUI o_gbegin_7),(.s "gbegin.8",outUI o_gbegin_8),(.s "gbegin.9",outUB o_gbegin_9),(.s "gbegin.10",outUB o_gbegin_10),(.s "gbegin.11",outUB o_gbegin_11),(.s "gbegin.12",outUB o_gbegin_12),(.s "gbegin.13",outUB o_gbegin_13),(.s "gbegin.14",outUB o_gbegin_14),(.s "gbegin.15",outUB o_gbegin_15),(.s "gbegin.16",outUB o_gbegin_16),(.s "gbegin.17",outUI o_gbegin_17),(.s "gbegin.18",outUI o_gbegin_18),(.s "gbegin.19",outUB o_gbegin_19),(.s "gbegin.20",outUB o_gbegin_20),(.s "gbegin.21",outUB o_gbegin_21),(.s "gbegin.22",outUI o_gbegin_22),(.s "gbegin.23",outUI o_gbegin_23),(.s "gbegin.24",outUI o_gbegin_24),(.s "gbegin.25",outUI o_gbegin_25)],c:= .tup [],m':=[.cells [(aI64 33),(aI64 34),(aI64 35),(aI64 36),(aI64 37),(aI64 38),(aI64 39),(aI64 40),(aI64 41),.b 42,.b 43,.b 44,.b 45,.b 46,.b 47,.b 48,.b 49,(aI64 50),(aI64 51),.b 52,.b 53,.b 54,(aI64 55),(aI64 56),(aI64 57),(aI64 58),(aI64 27),(aI64 28),(aI64 29),.b 30,.b 31,.b 32] 73],pre:=[(.s "gbegin.p0",p_gbegin_0)] }
noncomputable def a_gbegin_0_0:List En:=[⟨33,.w2 .i64 .add,[.e 23,.c (.int 1)]⟩,
 ⟨34,.lt,[.c (.int 1073741824),.e 33]⟩,
 ⟨35,.w2 .i64 .sub,[.e 33,.c (.int 2)]⟩,
 ⟨36,.not,[.e 34]⟩,
 ⟨37,.ite .i,[.e 34,.e 35,.e 33]⟩,
 ⟨38,.eq,[.e 0,.c (.int 0)]⟩,
 ⟨39,.ite .b,[.e 38,.c (.bool true),.e 10]⟩,
 ⟨40,.eq,[.e 0,.c (.int 1)]⟩,
 ⟨41,.ite .b,[.e 40,.c (.bool true),.e 11]⟩,
 ⟨42,.eq,[.e 0,.c (.int 2)]⟩,
 ⟨43,.ite .b,[.e 42,.c (.bool true),.e 12]⟩,
 ⟨44,.eq,[.e 0,.c (.int 3)]⟩,
 ⟨45,.ite .b,[.e 44,.c (.bool true),.e 13]⟩,
 ⟨46,.o2 .tmod,[.e 0,.c (.int 2)]⟩,
 ⟨47,.pick .i,[.e 0,.e 6,.e 7,.e 8,.e 9]⟩]
noncomputable def a_gbegin_0:List En:=a_gbegin_0_0
noncomputable def q_gbegin:List ObE:=[⟨none,.inr,[.e 0,.c (.int 4)]⟩,
 ⟨none,.inr,[.e 0,.c (.int 4)]⟩]
def r_gbegin:List Rf:=[.e 1,.c (.int 1),.e 46,.e 0,.c (.int (-1)),.e 6,.e 7,.e 8,.e 9,.e 39,.e 41,.e 43,.e 45,.c (.bool false),.c (.bool false),.c (.bool false),.c (.bool false),.e 18,.e 19,.e 20,.e 21,.c (.bool false),.e 37,.e 47,.c (.int (-1)),.e 26]
end Go.Eng
end
section
open Go Go.Eng Go.Proofs
set_option maxHeartbeats 4000000
set_option maxRecDepth 100000
namespace Go.Eng
theorem s_gbegin:t_gbegin.sees r_gbegin (t_gbegin.run Try.prog [] hints 3000 20 51)=some ((a_gbegin_0).map En.be,q_gbegin.map ObE.be,[]):=by kernel_rfl
theorem m_gbegin {T:Tab}(g:Gm)(hg:g=Gm.mk (I T 1) (I T 2) (I T 3) (I T 4) (I T 5) (I T 6) (I T 7) (I T 8) (I T 9) (B T 10) (B T 11) (B T 12) (B T 13) (B T 14) (B T 15) (B T 16) (B T 17) (I T 18) (I T 19) (B T 20) (B T 21) (B T 22) (I T 23) (I T 24) (I T 25) (I T 26))(pre0:0≤I T 0∧I T 0≤3∧0≤I T 23∧I T 23≤1073741824)(A0:Facts T a_gbegin_0):
  ((I T 1)=((beginS g (I T 0)).code))∧
  (1=((beginS g (I T 0)).phase))∧
  ((I T 46)=((beginS g (I T 0)).side))∧
  ((I T 0)=((beginS g (I T 0)).ball))∧
  ((-1)=((beginS g (I T 0)).taken))∧
  ((I T 6)=((beginS g (I T 0)).p0))∧
  ((I T 7)=((beginS g (I T 0)).p1))∧
  ((I T 8)=((beginS g (I T 0)).p2))∧
  ((I T 9)=((beginS g (I T 0)).p3))∧
  ((B T 39)=((beginS g (I T 0)).n0))∧
  ((B T 41)=((beginS g (I T 0)).n1))∧
  ((B T 43)=((beginS g (I T 0)).n2))∧
  ((B T 45)=((beginS g (I T 0)).n3))∧
  (false=((beginS g (I T 0)).d0))∧
  (false=((beginS g (I T 0)).d1))∧
  (false=((beginS g (I T 0)).d2))∧
  (false=((beginS g (I T 0)).d3))∧
  ((I T 18)=((beginS g (I T 0)).h0))∧
  ((I T 19)=((beginS g (I T 0)).h1))∧
  ((B T 20)=((beginS g (I T 0)).l0))∧
  ((B T 21)=((beginS g (I T 0)).l1))∧
  (false=((beginS g (I T 0)).half))∧
  ((I T 37)=((beginS g (I T 0)).turns))∧
  ((I T 47)=((beginS g (I T 0)).began))∧
  ((-1)=((beginS g (I T 0)).lastb))∧
  ((I T 26)=((beginS g (I T 0)).winner))∧
  (0≤I T 0∧I T 0 < 4)∧
  (0≤I T 0∧I T 0 < 4):=by
 have F0:=A0;clear A0
 refine⟨?_,?_,?_,?_,?_,?_,?_,?_,?_,?_,?_,?_,?_,?_,?_,?_,?_,?_,?_,?_,?_,?_,?_,?_,?_,?_,?_,?_⟩
 ·first|(subst hg;rfl)|(subst hg;(try simp only[beginS,pointsS,oneI,followS,zB])<;>grind (splits:=100))
 ·first|(subst hg;rfl)|(subst hg;(try simp only[beginS,pointsS,oneI,followS,zB])<;>grind (splits:=100))
 ·obtain⟨-,-,-,-,-,-,-,-,-,-,-,-,-,e46,-⟩:=F0
  simp only[fact,zR,op2P] at e46
  subst hg
  (try simp only[beginS,pointsS,oneI,followS,zB])<;>grind (splits:=100)
 ·first|(subst hg;rfl)|(subst hg;(try simp only[beginS,pointsS,oneI,followS,zB])<;>grind (splits:=100))
 ·first|(subst hg;rfl)|(subst hg;(try simp only[beginS,pointsS,oneI,followS,zB])<;>grind (splits:=100))
 ·first|(subst hg;rfl)|(subst hg;(try simp only[beginS,pointsS,oneI,followS,zB])<;>grind (splits:=100))
 ·first|(subst hg;rfl)|(subst hg;(try simp only[beginS,pointsS,oneI,followS,zB])<;>grind (splits:=100))
 ·first|(subst hg;rfl)|(subst hg;(try simp only[beginS,pointsS,oneI,followS,zB])<;>grind (splits:=100))
 ·first|(subst hg;rfl)|(subst hg;(try simp only[beginS,pointsS,oneI,followS,zB])<;>grind (splits:=100))
 ·obtain⟨-,-,-,-,-,e38,e39,-⟩:=F0
  simp only[fact,bR_e,zC,zR,zL] at e38 e39
  subst hg
  refine iff_eq ?_
  (try simp only[beginS,pointsS,oneI,followS,zB])<;>(try constructor)<;>grind (splits:=100)
 ·obtain⟨-,-,-,-,-,-,-,e40,e41,-⟩:=F0
  simp only[fact,bR_e,zC,zR,zL] at e40 e41
  subst hg
  refine iff_eq ?_
  (try simp only[beginS,pointsS,oneI,followS,zB])<;>(try constructor)<;>grind (splits:=100)
 ·obtain⟨-,-,-,-,-,-,-,-,-,e42,e43,-⟩:=F0
  simp only[fact,bR_e,zC,zR,zL] at e42 e43
  subst hg
  refine iff_eq ?_
  (try simp only[beginS,pointsS,oneI,followS,zB])<;>(try constructor)<;>grind (splits:=100)
 ·obtain⟨-,-,-,-,-,-,-,-,-,-,-,e44,e45,-⟩:=F0
  simp only[fact,bR_e,zC,zR,zL] at e44 e45
  subst hg
  refine iff_eq ?_
  (try simp only[beginS,pointsS,oneI,followS,zB])<;>(try constructor)<;>grind (splits:=100)
 ·first|(subst hg;rfl)|(subst hg;refine iff_eq ?_;(try simp only[beginS,pointsS,oneI,followS,zB])<;>grind (splits:=100))
 ·first|(subst hg;rfl)|(subst hg;refine iff_eq ?_;(try simp only[beginS,pointsS,oneI,followS,zB])<;>grind (splits:=100))
 ·first|(subst hg;rfl)|(subst hg;refine iff_eq ?_;(try simp only[beginS,pointsS,oneI,followS,zB])<;>grind (splits:=100))
 ·first|(subst hg;rfl)|(subst hg;refine iff_eq ?_;(try simp only[beginS,pointsS,oneI,followS,zB])<;>grind (splits:=100))
 ·first|(subst hg;rfl)|(subst hg;(try simp only[beginS,pointsS,oneI,followS,zB])<;>grind (splits:=100))
 ·first|(subst hg;rfl)|(subst hg;(try simp only[beginS,pointsS,oneI,followS,zB])<;>grind (splits:=100))
 ·first|(subst hg;rfl)|(subst hg;refine iff_eq ?_;(try simp only[beginS,pointsS,oneI,followS,zB])<;>grind (splits:=100))
 ·first|(subst hg;rfl)|(subst hg;refine iff_eq ?_;(try simp only[beginS,pointsS,oneI,followS,zB])<;>grind (splits:=100))
 ·first|(subst hg;rfl)|(subst hg;refine iff_eq ?_;(try simp only[beginS,pointsS,oneI,followS,zB])<;>grind (splits:=100))
 ·obtain⟨e33,e34,e35,-,e37,-⟩:=F0
  simp only[fact,bR_e,zR,w2P,zL] at e33 e34 e35 e37
  subst hg
  (try simp only[beginS,pointsS,oneI,followS,zB])<;>grind (splits:=100)
 ·obtain⟨-,-,-,-,-,-,-,-,-,-,-,-,-,-,e47,-⟩:=F0
  simp only[fact,bR_e,zR,pickI,pickB,and_false,or_false] at e47
  subst hg
  (try simp only[beginS,pointsS,oneI,followS,zB])<;>grind (splits:=100)
 ·first|(subst hg;rfl)|(subst hg;(try simp only[beginS,pointsS,oneI,followS,zB])<;>grind (splits:=100))
 ·first|(subst hg;rfl)|(subst hg;(try simp only[beginS,pointsS,oneI,followS,zB])<;>grind (splits:=100))
 ·first|(subst hg;rfl)|(subst hg;grind (splits:=100))
 ·first|(subst hg;rfl)|(subst hg;grind (splits:=100))
theorem ok_gbegin:TmplOK Try.prog 51 t_gbegin:=by
 refine tmpl_sees (l:=[]) mixed (by intro p h;exact absurd h (by simp)) s_gbegin (by kernel_rfl) fun T us hpre hT hul hS hBd hE=>?_
 change us.length=33 at hul
 obtain⟨⟨lo0,hi0⟩,⟨lo1,hi1⟩,⟨lo2,hi2⟩,⟨lo3,hi3⟩,⟨lo4,hi4⟩,⟨lo5,hi5⟩,⟨lo6,hi6⟩,⟨lo7,hi7⟩,⟨lo8,hi8⟩,⟨lo9,hi9⟩,⟨lo18,hi18⟩,⟨lo19,hi19⟩,⟨lo23,hi23⟩,⟨lo24,hi24⟩,⟨lo25,hi25⟩,⟨lo26,hi26⟩,⟨lo27,hi27⟩,⟨lo28,hi28⟩,⟨lo29,hi29⟩,-⟩:=hBd
 clear lo0 hi0
 clear lo1 hi1
 clear lo2 hi2
 clear lo3 hi3
 clear lo4 hi4
 clear lo5 hi5
 clear lo6 hi6
 clear lo7 hi7
 clear lo8 hi8
 clear lo9 hi9
 clear lo18 hi18
 clear lo19 hi19
 clear lo23 hi23
 clear lo24 hi24
 clear lo25 hi25
 clear lo26 hi26
 clear lo27 hi27
 clear lo28 hi28
 clear lo29 hi29
 obtain⟨g,hg⟩:∃g:Gm,g=Gm.mk (I T 1) (I T 2) (I T 3) (I T 4) (I T 5) (I T 6) (I T 7) (I T 8) (I T 9) (B T 10) (B T 11) (B T 12) (B T 13) (B T 14) (B T 15) (B T 16) (B T 17) (I T 18) (I T 19) (B T 20) (B T 21) (B T 22) (I T 23) (I T 24) (I T 25) (I T 26):=⟨_,rfl⟩
 have hgu:gAt 1 us=g:=by rw[hg];exact gAt_in hT hul (by decide)
 have ha0:aI us 0=I T 0:=inI hT hul (by decide)
 have ha23:aI us 23=I T 23:=inI hT hul (by decide)
 have pre0:0≤I T 0∧I T 0≤3∧0≤I T 23∧I T 23≤1073741824:=by
  have h:=hpre (.s "gbegin.p0",p_gbegin_0) (by simp[t_gbegin])
  change p_gbegin_0 us at h
  unfold p_gbegin_0 at h
  simp only[ha0,ha23] at h
  exact h
 clear hpre
 skip
 obtain⟨A0,hO⟩:=chkO_ok (tys:=[.i,.i,.i,.i,.i,.i,.i,.i,.i,.b,.b,.b,.b,.b,.b,.b,.b,.i,.i,.b,.b,.b,.i,.i,.i,.i]) (rs:=r_gbegin) hS (by kernel_rfl) hE
 obtain⟨q0,q1,q2,q3,q4,q5,q6,q7,q8,q9,q10,q11,q12,q13,q14,q15,q16,q17,q18,q19,q20,q21,q22,q23,q24,q25,r0,r1⟩:=m_gbegin g hg pre0 A0
 refine⟨⟨(fun _=>r0),(fun _=>r1),trivial⟩,hO.trans ?_⟩
 exact (lc (by show U.int (I T 1)= .int (o_gbegin_0 us);unfold o_gbegin_0 og_gbegin;rw[hgu,ha0];exact congrArg U.int q0) (lc (by show U.int 1= .int (o_gbegin_1 us);unfold o_gbegin_1 og_gbegin;rw[hgu,ha0];exact congrArg U.int q1) (lc (by show U.int (I T 46)= .int (o_gbegin_2 us);unfold o_gbegin_2 og_gbegin;rw[hgu,ha0];exact congrArg U.int q2) (lc (by show U.int (I T 0)= .int (o_gbegin_3 us);unfold o_gbegin_3 og_gbegin;rw[hgu,ha0];exact congrArg U.int q3) (lc (by show U.int (-1)= .int (o_gbegin_4 us);unfold o_gbegin_4 og_gbegin;rw[hgu,ha0];exact congrArg U.int q4) (lc (by show U.int (I T 6)= .int (o_gbegin_5 us);unfold o_gbegin_5 og_gbegin;rw[hgu,ha0];exact congrArg U.int q5) (lc (by show U.int (I T 7)= .int (o_gbegin_6 us);unfold o_gbegin_6 og_gbegin;rw[hgu,ha0];exact congrArg U.int q6) (lc (by show U.int (I T 8)= .int (o_gbegin_7 us);unfold o_gbegin_7 og_gbegin;rw[hgu,ha0];exact congrArg U.int q7) (lc (by show U.int (I T 9)= .int (o_gbegin_8 us);unfold o_gbegin_8 og_gbegin;rw[hgu,ha0];exact congrArg U.int q8) (lc (by show U.bool (B T 39)= .bool (o_gbegin_9 us);unfold o_gbegin_9 og_gbegin;rw[hgu,ha0];exact congrArg U.bool q9) (lc (by show U.bool (B T 41)= .bool (o_gbegin_10 us);unfold o_gbegin_10 og_gbegin;rw[hgu,ha0];exact congrArg U.bool q10) (lc (by show U.bool (B T 43)= .bool (o_gbegin_11 us);unfold o_gbegin_11 og_gbegin;rw[hgu,ha0];exact congrArg U.bool q11) (lc (by show U.bool (B T 45)= .bool (o_gbegin_12 us);unfold o_gbegin_12 og_gbegin;rw[hgu,ha0];exact congrArg U.bool q12) (lc (by show U.bool false= .bool (o_gbegin_13 us);unfold o_gbegin_13 og_gbegin;rw[hgu,ha0];exact congrArg U.bool q13) (lc (by show U.bool false= .bool (o_gbegin_14 us);unfold o_gbegin_14 og_gbegin;rw[hgu,ha0];exact congrArg U.bool q14) (lc (by show U.bool false= .bool (o_gbegin_15 us);unfold o_gbegin_15 og_gbegin;rw[hgu,ha0];exact congrArg U.bool q15) (lc (by show U.bool false= .bool (o_gbegin_16 us);unfold o_gbegin_16 og_gbegin;rw[hgu,ha0];exact congrArg U.bool q16) (lc (by show U.int (I T 18)= .int (o_gbegin_17 us);unfold o_gbegin_17 og_gbegin;rw[hgu,ha0];exact congrArg U.int q17) (lc (by show U.int (I T 19)= .int (o_gbegin_18 us);unfold o_gbegin_18 og_gbegin;rw[hgu,ha0];exact congrArg U.int q18) (lc (by show U.bool (B T 20)= .bool (o_gbegin_19 us);unfold o_gbegin_19 og_gbegin;rw[hgu,ha0];exact congrArg U.bool q19) (lc (by show U.bool (B T 21)= .bool (o_gbegin_20 us);unfold o_gbegin_20 og_gbegin;rw[hgu,ha0];exact congrArg U.bool q20) (lc (by show U.bool false= .bool (o_gbegin_21 us);unfold o_gbegin_21 og_gbegin;rw[hgu,ha0];exact congrArg U.bool q21) (lc (by show U.int (I T 37)= .int (o_gbegin_22 us);unfold o_gbegin_22 og_gbegin;rw[hgu,ha0];exact congrArg U.int q22) (lc (by show U.int (I T 47)= .int (o_gbegin_23 us);unfold o_gbegin_23 og_gbegin;rw[hgu,ha0];exact congrArg U.int q23) (lc (by show U.int (-1)= .int (o_gbegin_24 us);unfold o_gbegin_24 og_gbegin;rw[hgu,ha0];exact congrArg U.int q24) (lc (by show U.int (I T 26)= .int (o_gbegin_25 us);unfold o_gbegin_25 og_gbegin;rw[hgu,ha0];exact congrArg U.int q25) rfl))))))))))))))))))))))))))
end Go.Eng
end
