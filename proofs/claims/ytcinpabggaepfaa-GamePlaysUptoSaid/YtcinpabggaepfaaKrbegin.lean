/-
  A part of the proof: K_rbegind K_rbegin.
-/
import Derived.Test.YtcinpabggaepfaaE3
import Derived.Test.YtcinpabggaepfaaE4
set_option linter.unusedVariables false
set_option linter.unusedSimpArgs false
section
open Go Go.Eng Go.Proofs
set_option maxHeartbeats 4000000
set_option maxRecDepth 100000
namespace Go.Eng
def og_rbegin (us:List U):Gm:=beginS (gAt 0 us) (aI us 26)
def o_rbegin_0 (us:List U):Int:=(og_rbegin us).code
def o_rbegin_1 (us:List U):Int:=(og_rbegin us).phase
def o_rbegin_2 (us:List U):Int:=(og_rbegin us).side
def o_rbegin_3 (us:List U):Int:=(og_rbegin us).ball
def o_rbegin_4 (us:List U):Int:=(og_rbegin us).taken
def o_rbegin_5 (us:List U):Int:=(og_rbegin us).p0
def o_rbegin_6 (us:List U):Int:=(og_rbegin us).p1
def o_rbegin_7 (us:List U):Int:=(og_rbegin us).p2
def o_rbegin_8 (us:List U):Int:=(og_rbegin us).p3
def o_rbegin_9 (us:List U):Bool:=(og_rbegin us).n0
def o_rbegin_10 (us:List U):Bool:=(og_rbegin us).n1
def o_rbegin_11 (us:List U):Bool:=(og_rbegin us).n2
def o_rbegin_12 (us:List U):Bool:=(og_rbegin us).n3
def o_rbegin_13 (us:List U):Bool:=(og_rbegin us).d0
def o_rbegin_14 (us:List U):Bool:=(og_rbegin us).d1
def o_rbegin_15 (us:List U):Bool:=(og_rbegin us).d2
def o_rbegin_16 (us:List U):Bool:=(og_rbegin us).d3
def o_rbegin_17 (us:List U):Int:=(og_rbegin us).h0
def o_rbegin_18 (us:List U):Int:=(og_rbegin us).h1
def o_rbegin_19 (us:List U):Bool:=(og_rbegin us).l0
def o_rbegin_20 (us:List U):Bool:=(og_rbegin us).l1
def o_rbegin_21 (us:List U):Bool:=(og_rbegin us).half
def o_rbegin_22 (us:List U):Int:=(og_rbegin us).turns
def o_rbegin_23 (us:List U):Int:=(og_rbegin us).began
def o_rbegin_24 (us:List U):Int:=(og_rbegin us).lastb
def o_rbegin_25 (us:List U):Int:=(og_rbegin us).winner
def p_rbegin_0:List U→Prop:=fun us=>0≤(aI us 26)∧(aI us 26)≤3∧0≤(aI us 22)∧(aI us 22)≤1073741824
def t_rbegin:Tmpl:={ sh:=[.agg [k64,k64,k64,k64,k64,k64,k64,k64,k64,.bool,.bool,.bool,.bool,.bool,.bool,.bool,.bool,k64,k64,.bool,.bool,.bool,k64,k64,k64,k64],.one (k64)],blks:=[],outs:=[(.s "rbegin.0",outUI o_rbegin_0),(.s "rbegin.1",outUI o_rbegin_1),(.s "rbegin.2",outUI o_rbegin_2),(.s "rbegin.3",outUI o_rbegin_3),(.s "rbegin.4",outUI o_rbegin_4),(.s "rbegin.5",outUI o_rbegin_5),(.s "rbegin.6",outUI o_rbegin_6),(.s "rbegin.7",outUI o_rbegin_7),(.s "rbegin.8",outUI o_rbegin_8),(.s "rbegin.9",outUB o_rbegin_9),(.s "rbegin.10",outUB o_rbegin_10),(.s "rbegin.11",outUB o_rbegin_11),(.s "rbegin.12",outUB o_rbegin_12),(.s "rbegin.13",outUB o_rbegin_13),(.s "rbegin.14",outUB o_rbegin_14),(.s "rbegin.15",outUB o_rbegin_15),(.s "rbegin.16",outUB o_rbegin_16),(.s "rbegin.17",outUI o_rbegin_17),(.s "rbegin.18",outUI o_rbegin_18),(.s "rbegin.19",outUB o_rbegin_19),(.s "rbegin.20",outUB o_rbegin_20),(.s "rbegin.21",outUB o_rbegin_21),(.s "rbegin.22",outUI o_rbegin_22),(.s "rbegin.23",outUI o_rbegin_23),(.s "rbegin.24",outUI o_rbegin_24),(.s "rbegin.25",outUI o_rbegin_25)],c:= .agg [(aI64 27),(aI64 28),(aI64 29),(aI64 30),(aI64 31),(aI64 32),(aI64 33),(aI64 34),(aI64 35),.b 36,.b 37,.b 38,.b 39,.b 40,.b 41,.b 42,.b 43,(aI64 44),(aI64 45),.b 46,.b 47,.b 48,(aI64 49),(aI64 50),(aI64 51),(aI64 52)],m':=[],pre:=[(.s "rbegin.p0",p_rbegin_0)] }
noncomputable def a_rbegin_0_0:List En:=[⟨27,.eq,[.e 22,.c (.int 1073741824)]⟩,
 ⟨28,.not,[.e 27]⟩,
 ⟨29,.w2 .i64 .add,[.e 22,.c (.int 1)]⟩,
 ⟨30,.ite .i,[.e 27,.c (.int 1073741823),.e 29]⟩,
 ⟨31,.or,[.e 27,.e 28]⟩,
 ⟨32,.eq,[.e 26,.c (.int 0)]⟩,
 ⟨33,.ite .b,[.e 32,.c (.bool true),.e 9]⟩,
 ⟨34,.eq,[.e 26,.c (.int 1)]⟩,
 ⟨35,.ite .b,[.e 34,.c (.bool true),.e 10]⟩,
 ⟨36,.eq,[.e 26,.c (.int 2)]⟩,
 ⟨37,.ite .b,[.e 36,.c (.bool true),.e 11]⟩,
 ⟨38,.eq,[.e 26,.c (.int 3)]⟩,
 ⟨39,.ite .b,[.e 38,.c (.bool true),.e 12]⟩,
 ⟨40,.o2 .tmod,[.e 26,.c (.int 2)]⟩,
 ⟨41,.pick .i,[.e 26,.e 5,.e 6,.e 7,.e 8]⟩]
noncomputable def a_rbegin_0:List En:=a_rbegin_0_0
noncomputable def q_rbegin:List ObE:=[⟨none,.inr,[.e 26,.c (.int 4)]⟩,
 ⟨none,.inr,[.e 26,.c (.int 4)]⟩]
def r_rbegin:List Rf:=[.e 0,.c (.int 1),.e 40,.e 26,.c (.int (-1)),.e 5,.e 6,.e 7,.e 8,.e 33,.e 35,.e 37,.e 39,.c (.bool false),.c (.bool false),.c (.bool false),.c (.bool false),.e 17,.e 18,.e 19,.e 20,.c (.bool false),.e 30,.e 41,.c (.int (-1)),.e 25]
end Go.Eng
end
section
open Go Go.Eng Go.Proofs
set_option maxHeartbeats 4000000
set_option maxRecDepth 100000
namespace Go.Eng
theorem s_rbegin:t_rbegin.sees r_rbegin (t_rbegin.run Try.prog [] hints 3000 20 60)=some ((a_rbegin_0).map En.be,q_rbegin.map ObE.be,[]):=by kernel_rfl
theorem m_rbegin {T:Tab}(g:Gm)(hg:g=Gm.mk (I T 0) (I T 1) (I T 2) (I T 3) (I T 4) (I T 5) (I T 6) (I T 7) (I T 8) (B T 9) (B T 10) (B T 11) (B T 12) (B T 13) (B T 14) (B T 15) (B T 16) (I T 17) (I T 18) (B T 19) (B T 20) (B T 21) (I T 22) (I T 23) (I T 24) (I T 25))(pre0:0≤I T 26∧I T 26≤3∧0≤I T 22∧I T 22≤1073741824)(A0:Facts T a_rbegin_0):
  ((I T 0)=((beginS g (I T 26)).code))∧
  (1=((beginS g (I T 26)).phase))∧
  ((I T 40)=((beginS g (I T 26)).side))∧
  ((I T 26)=((beginS g (I T 26)).ball))∧
  ((-1)=((beginS g (I T 26)).taken))∧
  ((I T 5)=((beginS g (I T 26)).p0))∧
  ((I T 6)=((beginS g (I T 26)).p1))∧
  ((I T 7)=((beginS g (I T 26)).p2))∧
  ((I T 8)=((beginS g (I T 26)).p3))∧
  ((B T 33)=((beginS g (I T 26)).n0))∧
  ((B T 35)=((beginS g (I T 26)).n1))∧
  ((B T 37)=((beginS g (I T 26)).n2))∧
  ((B T 39)=((beginS g (I T 26)).n3))∧
  (false=((beginS g (I T 26)).d0))∧
  (false=((beginS g (I T 26)).d1))∧
  (false=((beginS g (I T 26)).d2))∧
  (false=((beginS g (I T 26)).d3))∧
  ((I T 17)=((beginS g (I T 26)).h0))∧
  ((I T 18)=((beginS g (I T 26)).h1))∧
  ((B T 19)=((beginS g (I T 26)).l0))∧
  ((B T 20)=((beginS g (I T 26)).l1))∧
  (false=((beginS g (I T 26)).half))∧
  ((I T 30)=((beginS g (I T 26)).turns))∧
  ((I T 41)=((beginS g (I T 26)).began))∧
  ((-1)=((beginS g (I T 26)).lastb))∧
  ((I T 25)=((beginS g (I T 26)).winner))∧
  (0≤I T 26∧I T 26 < 4)∧
  (0≤I T 26∧I T 26 < 4):=by
 have F0:=A0;clear A0
 refine⟨?_,?_,?_,?_,?_,?_,?_,?_,?_,?_,?_,?_,?_,?_,?_,?_,?_,?_,?_,?_,?_,?_,?_,?_,?_,?_,?_,?_⟩
 ·first|(subst hg;rfl)|(subst hg;(try simp only[beginS,pointsS,oneI,followS,zB])<;>grind (splits:=100))
 ·first|(subst hg;rfl)|(subst hg;(try simp only[beginS,pointsS,oneI,followS,zB])<;>grind (splits:=100))
 ·obtain⟨-,-,-,-,-,-,-,-,-,-,-,-,-,e40,-⟩:=F0
  simp only[fact,zR,op2P] at e40
  subst hg
  (try simp only[beginS,pointsS,oneI,followS,zB])<;>grind (splits:=100)
 ·first|(subst hg;rfl)|(subst hg;(try simp only[beginS,pointsS,oneI,followS,zB])<;>grind (splits:=100))
 ·first|(subst hg;rfl)|(subst hg;(try simp only[beginS,pointsS,oneI,followS,zB])<;>grind (splits:=100))
 ·first|(subst hg;rfl)|(subst hg;(try simp only[beginS,pointsS,oneI,followS,zB])<;>grind (splits:=100))
 ·first|(subst hg;rfl)|(subst hg;(try simp only[beginS,pointsS,oneI,followS,zB])<;>grind (splits:=100))
 ·first|(subst hg;rfl)|(subst hg;(try simp only[beginS,pointsS,oneI,followS,zB])<;>grind (splits:=100))
 ·first|(subst hg;rfl)|(subst hg;(try simp only[beginS,pointsS,oneI,followS,zB])<;>grind (splits:=100))
 ·obtain⟨-,-,-,-,-,e32,e33,-⟩:=F0
  simp only[fact,bR_e,zC,zR,zL] at e32 e33
  subst hg
  refine iff_eq ?_
  (try simp only[beginS,pointsS,oneI,followS,zB])<;>(try constructor)<;>grind (splits:=100)
 ·obtain⟨-,-,-,-,-,-,-,e34,e35,-⟩:=F0
  simp only[fact,bR_e,zC,zR,zL] at e34 e35
  subst hg
  refine iff_eq ?_
  (try simp only[beginS,pointsS,oneI,followS,zB])<;>(try constructor)<;>grind (splits:=100)
 ·obtain⟨-,-,-,-,-,-,-,-,-,e36,e37,-⟩:=F0
  simp only[fact,bR_e,zC,zR,zL] at e36 e37
  subst hg
  refine iff_eq ?_
  (try simp only[beginS,pointsS,oneI,followS,zB])<;>(try constructor)<;>grind (splits:=100)
 ·obtain⟨-,-,-,-,-,-,-,-,-,-,-,e38,e39,-⟩:=F0
  simp only[fact,bR_e,zC,zR,zL] at e38 e39
  subst hg
  refine iff_eq ?_
  (try simp only[beginS,pointsS,oneI,followS,zB])<;>(try constructor)<;>grind (splits:=100)
 ·first|(subst hg;rfl)|(subst hg;refine iff_eq ?_;(try simp only[beginS,pointsS,oneI,followS,zB])<;>grind (splits:=100))
 ·first|(subst hg;rfl)|(subst hg;refine iff_eq ?_;(try simp only[beginS,pointsS,oneI,followS,zB])<;>grind (splits:=100))
 ·first|(subst hg;rfl)|(subst hg;refine iff_eq ?_;(try simp only[beginS,pointsS,oneI,followS,zB])<;>grind (splits:=100))
 ·first|(subst hg;rfl)|(subst hg;refine iff_eq ?_;(try simp only[beginS,pointsS,oneI,followS,zB])<;>grind (splits:=100))
 ·first|(subst hg;rfl)|(subst hg;(try simp only[beginS,pointsS,oneI,followS,zB])<;>grind (splits:=100))
 ·first|(subst hg;rfl)|(subst hg;(try simp only[beginS,pointsS,oneI,followS,zB])<;>grind (splits:=100))
 ·first|(subst hg;rfl)|(subst hg;refine iff_eq ?_;(try simp only[beginS,pointsS,oneI,followS,zB])<;>grind (splits:=100))
 ·first|(subst hg;rfl)|(subst hg;refine iff_eq ?_;(try simp only[beginS,pointsS,oneI,followS,zB])<;>grind (splits:=100))
 ·first|(subst hg;rfl)|(subst hg;refine iff_eq ?_;(try simp only[beginS,pointsS,oneI,followS,zB])<;>grind (splits:=100))
 ·obtain⟨e27,-,e29,e30,-⟩:=F0
  simp only[fact,bR_e,zR,w2P,zL] at e27 e29 e30
  subst hg
  (try simp only[beginS,pointsS,oneI,followS,zB])<;>grind (splits:=100)
 ·obtain⟨-,-,-,-,-,-,-,-,-,-,-,-,-,-,e41,-⟩:=F0
  simp only[fact,bR_e,zR,pickI,pickB,and_false,or_false] at e41
  subst hg
  (try simp only[beginS,pointsS,oneI,followS,zB])<;>grind (splits:=100)
 ·first|(subst hg;rfl)|(subst hg;(try simp only[beginS,pointsS,oneI,followS,zB])<;>grind (splits:=100))
 ·first|(subst hg;rfl)|(subst hg;(try simp only[beginS,pointsS,oneI,followS,zB])<;>grind (splits:=100))
 ·first|(subst hg;rfl)|(subst hg;grind (splits:=100))
 ·first|(subst hg;rfl)|(subst hg;grind (splits:=100))
theorem ok_rbegin:TmplOK Try.prog 60 t_rbegin:=by
 refine tmpl_sees (l:=[]) mixed (by intro p h;exact absurd h (by simp)) s_rbegin (by kernel_rfl) fun T us hpre hT hul hS hBd hE=>?_
 change us.length=27 at hul
 obtain⟨⟨lo0,hi0⟩,⟨lo1,hi1⟩,⟨lo2,hi2⟩,⟨lo3,hi3⟩,⟨lo4,hi4⟩,⟨lo5,hi5⟩,⟨lo6,hi6⟩,⟨lo7,hi7⟩,⟨lo8,hi8⟩,⟨lo17,hi17⟩,⟨lo18,hi18⟩,⟨lo22,hi22⟩,⟨lo23,hi23⟩,⟨lo24,hi24⟩,⟨lo25,hi25⟩,⟨lo26,hi26⟩,-⟩:=hBd
 clear lo0 hi0
 clear lo1 hi1
 clear lo2 hi2
 clear lo3 hi3
 clear lo4 hi4
 clear lo5 hi5
 clear lo6 hi6
 clear lo7 hi7
 clear lo8 hi8
 clear lo17 hi17
 clear lo18 hi18
 clear lo22 hi22
 clear lo23 hi23
 clear lo24 hi24
 clear lo25 hi25
 clear lo26 hi26
 obtain⟨g,hg⟩:∃g:Gm,g=Gm.mk (I T 0) (I T 1) (I T 2) (I T 3) (I T 4) (I T 5) (I T 6) (I T 7) (I T 8) (B T 9) (B T 10) (B T 11) (B T 12) (B T 13) (B T 14) (B T 15) (B T 16) (I T 17) (I T 18) (B T 19) (B T 20) (B T 21) (I T 22) (I T 23) (I T 24) (I T 25):=⟨_,rfl⟩
 have hgu:gAt 0 us=g:=by rw[hg];exact gAt_in hT hul (by decide)
 have ha22:aI us 22=I T 22:=inI hT hul (by decide)
 have ha26:aI us 26=I T 26:=inI hT hul (by decide)
 have pre0:0≤I T 26∧I T 26≤3∧0≤I T 22∧I T 22≤1073741824:=by
  have h:=hpre (.s "rbegin.p0",p_rbegin_0) (by simp[t_rbegin])
  change p_rbegin_0 us at h
  unfold p_rbegin_0 at h
  simp only[ha22,ha26] at h
  exact h
 clear hpre
 skip
 obtain⟨A0,hO⟩:=chkO_ok (tys:=[.i,.i,.i,.i,.i,.i,.i,.i,.i,.b,.b,.b,.b,.b,.b,.b,.b,.i,.i,.b,.b,.b,.i,.i,.i,.i]) (rs:=r_rbegin) hS (by kernel_rfl) hE
 obtain⟨q0,q1,q2,q3,q4,q5,q6,q7,q8,q9,q10,q11,q12,q13,q14,q15,q16,q17,q18,q19,q20,q21,q22,q23,q24,q25,r0,r1⟩:=m_rbegin g hg pre0 A0
 refine⟨⟨(fun _=>r0),(fun _=>r1),trivial⟩,hO.trans ?_⟩
 exact (lc (by show U.int (I T 0)= .int (o_rbegin_0 us);unfold o_rbegin_0 og_rbegin;rw[hgu,ha26];exact congrArg U.int q0) (lc (by show U.int 1= .int (o_rbegin_1 us);unfold o_rbegin_1 og_rbegin;rw[hgu,ha26];exact congrArg U.int q1) (lc (by show U.int (I T 40)= .int (o_rbegin_2 us);unfold o_rbegin_2 og_rbegin;rw[hgu,ha26];exact congrArg U.int q2) (lc (by show U.int (I T 26)= .int (o_rbegin_3 us);unfold o_rbegin_3 og_rbegin;rw[hgu,ha26];exact congrArg U.int q3) (lc (by show U.int (-1)= .int (o_rbegin_4 us);unfold o_rbegin_4 og_rbegin;rw[hgu,ha26];exact congrArg U.int q4) (lc (by show U.int (I T 5)= .int (o_rbegin_5 us);unfold o_rbegin_5 og_rbegin;rw[hgu,ha26];exact congrArg U.int q5) (lc (by show U.int (I T 6)= .int (o_rbegin_6 us);unfold o_rbegin_6 og_rbegin;rw[hgu,ha26];exact congrArg U.int q6) (lc (by show U.int (I T 7)= .int (o_rbegin_7 us);unfold o_rbegin_7 og_rbegin;rw[hgu,ha26];exact congrArg U.int q7) (lc (by show U.int (I T 8)= .int (o_rbegin_8 us);unfold o_rbegin_8 og_rbegin;rw[hgu,ha26];exact congrArg U.int q8) (lc (by show U.bool (B T 33)= .bool (o_rbegin_9 us);unfold o_rbegin_9 og_rbegin;rw[hgu,ha26];exact congrArg U.bool q9) (lc (by show U.bool (B T 35)= .bool (o_rbegin_10 us);unfold o_rbegin_10 og_rbegin;rw[hgu,ha26];exact congrArg U.bool q10) (lc (by show U.bool (B T 37)= .bool (o_rbegin_11 us);unfold o_rbegin_11 og_rbegin;rw[hgu,ha26];exact congrArg U.bool q11) (lc (by show U.bool (B T 39)= .bool (o_rbegin_12 us);unfold o_rbegin_12 og_rbegin;rw[hgu,ha26];exact congrArg U.bool q12) (lc (by show U.bool false= .bool (o_rbegin_13 us);unfold o_rbegin_13 og_rbegin;rw[hgu,ha26];exact congrArg U.bool q13) (lc (by show U.bool false= .bool (o_rbegin_14 us);unfold o_rbegin_14 og_rbegin;rw[hgu,ha26];exact congrArg U.bool q14) (lc (by show U.bool false= .bool (o_rbegin_15 us);unfold o_rbegin_15 og_rbegin;rw[hgu,ha26];exact congrArg U.bool q15) (lc (by show U.bool false= .bool (o_rbegin_16 us);unfold o_rbegin_16 og_rbegin;rw[hgu,ha26];exact congrArg U.bool q16) (lc (by show U.int (I T 17)= .int (o_rbegin_17 us);unfold o_rbegin_17 og_rbegin;rw[hgu,ha26];exact congrArg U.int q17) (lc (by show U.int (I T 18)= .int (o_rbegin_18 us);unfold o_rbegin_18 og_rbegin;rw[hgu,ha26];exact congrArg U.int q18) (lc (by show U.bool (B T 19)= .bool (o_rbegin_19 us);unfold o_rbegin_19 og_rbegin;rw[hgu,ha26];exact congrArg U.bool q19) (lc (by show U.bool (B T 20)= .bool (o_rbegin_20 us);unfold o_rbegin_20 og_rbegin;rw[hgu,ha26];exact congrArg U.bool q20) (lc (by show U.bool false= .bool (o_rbegin_21 us);unfold o_rbegin_21 og_rbegin;rw[hgu,ha26];exact congrArg U.bool q21) (lc (by show U.int (I T 30)= .int (o_rbegin_22 us);unfold o_rbegin_22 og_rbegin;rw[hgu,ha26];exact congrArg U.int q22) (lc (by show U.int (I T 41)= .int (o_rbegin_23 us);unfold o_rbegin_23 og_rbegin;rw[hgu,ha26];exact congrArg U.int q23) (lc (by show U.int (-1)= .int (o_rbegin_24 us);unfold o_rbegin_24 og_rbegin;rw[hgu,ha26];exact congrArg U.int q24) (lc (by show U.int (I T 25)= .int (o_rbegin_25 us);unfold o_rbegin_25 og_rbegin;rw[hgu,ha26];exact congrArg U.int q25) rfl))))))))))))))))))))))))))
end Go.Eng
end
