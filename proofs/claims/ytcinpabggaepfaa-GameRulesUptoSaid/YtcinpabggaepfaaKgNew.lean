/-
  A part of the proof: K_gNewd K_gNew.
-/
import Derived.Test.YtcinpabggaepfaaXQlRules
import Derived.Test.YtcinpabggaepfaaE3
import Derived.Test.YtcinpabggaepfaaE4
set_option linter.unusedVariables false
set_option linter.unusedSimpArgs false
noncomputable section
open Go Go.Eng Go.Proofs
set_option maxHeartbeats 4000000
set_option maxRecDepth 100000
namespace Go.Eng
def me (us:List U):Gm:=mf (aI us 0) (aI us 1) (aI us 2)
def nO (us:List U):Int:=(me us).code
def nY (us:List U):Int:=(me us).phase
def nP (us:List U):Int:=(me us).side
def nR (us:List U):Int:=(me us).ball
def nS (us:List U):Int:=(me us).taken
def nc (us:List U):Int:=(me us).p0
def nW (us:List U):Int:=(me us).p1
def nX (us:List U):Int:=(me us).p2
def nQ (us:List U):Int:=(me us).p3
def nN (us:List U):Bool:=(me us).n0
def nJ (us:List U):Bool:=(me us).n1
def m4 (us:List U):Bool:=(me us).n2
def nA (us:List U):Bool:=(me us).n3
def m5 (us:List U):Bool:=(me us).d0
def m8 (us:List U):Bool:=(me us).d1
def nF (us:List U):Bool:=(me us).d2
def nI (us:List U):Bool:=(me us).d3
def m7 (us:List U):Int:=(me us).h0
def nE (us:List U):Int:=(me us).h1
def my (us:List U):Bool:=(me us).l0
def m9 (us:List U):Bool:=(me us).l1
def nH (us:List U):Bool:=(me us).half
def nK (us:List U):Int:=(me us).turns
def nG (us:List U):Int:=(me us).began
def nD (us:List U):Int:=(me us).lastb
def m6 (us:List U):Int:=(me us).winner
def nC:List U→Int:=fun us=>(mm (aI us 0) (aI us 1) (aI us 2))
def nf:Bc:={ sh:=[.one (k64),.agg [k64,k64]],blks:=[],outs:=[(.s "gNew.0",AI nO),(.s "gNew.1",AI nY),(.s "gNew.2",AI nP),(.s "gNew.3",AI nR),(.s "gNew.4",AI nS),(.s "gNew.5",AI nc),(.s "gNew.6",AI nW),(.s "gNew.7",AI nX),(.s "gNew.8",AI nQ),(.s "gNew.9",AQ nN),(.s "gNew.10",AQ nJ),(.s "gNew.11",AQ m4),(.s "gNew.12",AQ nA),(.s "gNew.13",AQ m5),(.s "gNew.14",AQ m8),(.s "gNew.15",AQ nF),(.s "gNew.16",AQ nI),(.s "gNew.17",AI m7),(.s "gNew.18",AI nE),(.s "gNew.19",AQ my),(.s "gNew.20",AQ m9),(.s "gNew.21",AQ nH),(.s "gNew.22",AI nK),(.s "gNew.23",AI nG),(.s "gNew.24",AI nD),(.s "gNew.25",AI m6),(.s "gNew.26",AI nC)],c:= .tup [.agg [(AG 3),(AG 4),(AG 5),(AG 6),(AG 7),(AG 8),(AG 9),(AG 10),(AG 11),.b 12,.b 13,.b 14,.b 15,.b 16,.b 17,.b 18,.b 19,(AG 20),(AG 21),.b 22,.b 23,.b 24,(AG 25),(AG 26),(AG 27),(AG 28)],(AG 29)],m':=[],pre:=[] }
def o7:List En:=[⟨3,.lt,[.e 0,.c (.int 0)]⟩,
 ⟨4,.not,[.e 3]⟩,
 ⟨5,.le,[.c (.int 4),.e 0]⟩,
 ⟨6,.or,[.e 3,.e 5]⟩,
 ⟨7,.not,[.e 6]⟩,
 ⟨8,.pick .i,[.e 0,.c (.int 12),.c (.int 12),.c (.int 6),.c (.int 12)]⟩,
 ⟨9,.pick .i,[.e 0,.c (.int 0),.c (.int 7),.c (.int 0),.c (.int 0)]⟩,
 ⟨10,.pick .i,[.e 0,.c (.int 0),.c (.int 10),.c (.int 0),.c (.int 0)]⟩,
 ⟨11,.pick .b,[.e 0,.c (.bool true),.c (.bool true),.c (.bool true),.c (.bool false)]⟩,
 ⟨12,.pick .b,[.e 0,.c (.bool true),.c (.bool false),.c (.bool true),.c (.bool false)]⟩,
 ⟨13,.pick .b,[.e 0,.c (.bool false),.c (.bool false),.c (.bool false),.c (.bool true)]⟩,
 ⟨14,.ite .i,[.e 6,.c (.int 0),.e 8]⟩,
 ⟨15,.ite .i,[.e 6,.c (.int 0),.e 9]⟩,
 ⟨16,.ite .i,[.e 6,.c (.int 0),.e 10]⟩,
 ⟨17,.ite .b,[.e 6,.c (.bool false),.e 11]⟩,
 ⟨18,.ite .b,[.e 6,.c (.bool false),.e 12]⟩]
def ot:List En:=[⟨19,.ite .b,[.e 6,.c (.bool false),.e 13]⟩,
 ⟨20,.ite .i,[.e 6,.c (.int 3),.c (.int 0)]⟩,
 ⟨21,.or,[.e 6,.e 7]⟩,
 ⟨22,.ne,[.e 20,.c (.int 0)]⟩,
 ⟨23,.not,[.e 22]⟩,
 ⟨24,.and,[.e 23,.e 18]⟩,
 ⟨25,.and,[.e 23,.n 18]⟩,
 ⟨26,.ite .i,[.e 18,.c (.int 40),.c (.int 0)]⟩,
 ⟨27,.o2 .min,[.e 1,.e 2]⟩,
 ⟨28,.le,[.c (.int 0),.e 27]⟩,
 ⟨29,.and,[.e 23,.e 28]⟩,
 ⟨30,.o2 .max,[.e 1,.e 2]⟩,
 ⟨31,.le,[.e 30,.e 26]⟩,
 ⟨32,.and,[.e 28,.e 31]⟩,
 ⟨33,.and,[.e 23,.e 32]⟩,
 ⟨34,.and,[.e 23,.n 32]⟩]
def og:List En:=[⟨35,.ite .i,[.e 34,.c (.int 0),.e 0]⟩,
 ⟨36,.ite .i,[.e 34,.c (.int 0),.c (.int (-1))]⟩,
 ⟨37,.ite .i,[.e 34,.c (.int 0),.c (.int (-1))]⟩,
 ⟨38,.ite .i,[.e 34,.c (.int 0),.e 1]⟩,
 ⟨39,.ite .i,[.e 34,.c (.int 0),.e 2]⟩,
 ⟨40,.ite .i,[.e 34,.c (.int 0),.c (.int (-1))]⟩,
 ⟨41,.ite .i,[.e 34,.c (.int 0),.c (.int (-1))]⟩,
 ⟨42,.ite .i,[.e 34,.c (.int 2),.c (.int 0)]⟩,
 ⟨43,.or,[.e 34,.e 33]⟩,
 ⟨44,.ite .i,[.e 22,.c (.int 0),.e 35]⟩,
 ⟨45,.ite .i,[.e 22,.c (.int 0),.e 36]⟩,
 ⟨46,.ite .i,[.e 22,.c (.int 0),.e 37]⟩,
 ⟨47,.ite .i,[.e 22,.c (.int 0),.e 38]⟩,
 ⟨48,.ite .i,[.e 22,.c (.int 0),.e 39]⟩,
 ⟨49,.ite .i,[.e 22,.c (.int 0),.e 40]⟩,
 ⟨50,.ite .i,[.e 22,.c (.int 0),.e 41]⟩]
def oy:List En:=[⟨51,.ite .i,[.e 22,.e 20,.e 42]⟩,
 ⟨52,.or,[.e 22,.e 43]⟩]
def oD:List En:=o7++(ot++(og++(oy)))
def pg:List ObE:=[⟨some 7,.inr,[.e 0,.c (.int 4)]⟩]
def pC:List Rf:=[.e 44,.c (.int 0),.c (.int 0),.e 45,.e 46,.c (.int 0),.c (.int 0),.c (.int 0),.c (.int 0),.c (.bool false),.c (.bool false),.c (.bool false),.c (.bool false),.c (.bool false),.c (.bool false),.c (.bool false),.c (.bool false),.e 47,.e 48,.c (.bool false),.c (.bool false),.c (.bool false),.c (.int 0),.c (.int 0),.e 49,.e 50,.e 51]
theorem ph:nf.sees pC (nf.run Try.prog [] Ba 3000 20 17)=some ((oD).map En.be,pg.map ObE.be,[]):=by kernel_rfl
theorem pZ {T:Tab}(A0:AK T oD):
  ((I T 44)=(((mf (I T 0) (I T 1) (I T 2))).code))∧
  (0=(((mf (I T 0) (I T 1) (I T 2))).phase))∧
  (0=(((mf (I T 0) (I T 1) (I T 2))).side))∧
  ((I T 45)=(((mf (I T 0) (I T 1) (I T 2))).ball))∧
  ((I T 46)=(((mf (I T 0) (I T 1) (I T 2))).taken))∧
  (0=(((mf (I T 0) (I T 1) (I T 2))).p0))∧
  (0=(((mf (I T 0) (I T 1) (I T 2))).p1))∧
  (0=(((mf (I T 0) (I T 1) (I T 2))).p2))∧
  (0=(((mf (I T 0) (I T 1) (I T 2))).p3))∧
  (false=(((mf (I T 0) (I T 1) (I T 2))).n0))∧
  (false=(((mf (I T 0) (I T 1) (I T 2))).n1))∧
  (false=(((mf (I T 0) (I T 1) (I T 2))).n2))∧
  (false=(((mf (I T 0) (I T 1) (I T 2))).n3))∧
  (false=(((mf (I T 0) (I T 1) (I T 2))).d0))∧
  (false=(((mf (I T 0) (I T 1) (I T 2))).d1))∧
  (false=(((mf (I T 0) (I T 1) (I T 2))).d2))∧
  (false=(((mf (I T 0) (I T 1) (I T 2))).d3))∧
  ((I T 47)=(((mf (I T 0) (I T 1) (I T 2))).h0))∧
  ((I T 48)=(((mf (I T 0) (I T 1) (I T 2))).h1))∧
  (false=(((mf (I T 0) (I T 1) (I T 2))).l0))∧
  (false=(((mf (I T 0) (I T 1) (I T 2))).l1))∧
  (false=(((mf (I T 0) (I T 1) (I T 2))).half))∧
  (0=(((mf (I T 0) (I T 1) (I T 2))).turns))∧
  (0=(((mf (I T 0) (I T 1) (I T 2))).began))∧
  ((I T 49)=(((mf (I T 0) (I T 1) (I T 2))).lastb))∧
  ((I T 50)=(((mf (I T 0) (I T 1) (I T 2))).winner))∧
  ((I T 51)=(mm (I T 0) (I T 1) (I T 2)))∧
  (B T 7=true→0≤I T 0∧I T 0 < 4):=by
 obtain⟨F0,A0⟩:=A0.cut
 obtain⟨F1,A0⟩:=A0.cut
 obtain⟨F2,A0⟩:=A0.cut
 have F3:=A0;clear A0
 refine⟨?_,?_,?_,?_,?_,?_,?_,?_,?_,?_,?_,?_,?_,?_,?_,?_,?_,?_,?_,?_,?_,?_,?_,?_,?_,?_,?_,?_⟩
 ·obtain⟨e3,-,e5,e6,-,-,-,-,-,e12,-,-,-,-,-,e18,-⟩:=F0
  obtain⟨-,e20,-,e22,e23,-,-,e26,e27,e28,-,e30,e31,e32,-,e34,-⟩:=F1
  obtain⟨e35,-,-,-,-,-,-,-,-,e44,-⟩:=F2
  simp only[AA,AD,zN,zC,zR,AN,AM,and_false,or_false,Af,zL] at*
  (try simp only[mf,mm,Jm,mj,DD,Ao,zB])<;>grind (splits:=100)
 ·first|(rfl)|((try simp only[mf,mm,Jm,mj,DD,Ao,zB])<;>grind (splits:=100))
 ·first|(rfl)|((try simp only[mf,mm,Jm,mj,DD,Ao,zB])<;>grind (splits:=100))
 ·obtain⟨e3,-,e5,e6,-,-,-,-,-,e12,-,-,-,-,-,e18,-⟩:=F0
  obtain⟨-,e20,-,e22,e23,-,-,e26,e27,e28,-,e30,e31,e32,-,e34,-⟩:=F1
  obtain⟨-,e36,-,-,-,-,-,-,-,-,e45,-⟩:=F2
  simp only[AA,AD,zN,zC,zR,AN,AM,and_false,or_false,Af,zL] at*
  (try simp only[mf,mm,Jm,mj,DD,Ao,zB])<;>grind (splits:=100)
 ·obtain⟨e3,-,e5,e6,-,-,-,-,-,e12,-,-,-,-,-,e18,-⟩:=F0
  obtain⟨-,e20,-,e22,e23,-,-,e26,e27,e28,-,e30,e31,e32,-,e34,-⟩:=F1
  obtain⟨-,-,e37,-,-,-,-,-,-,-,-,e46,-⟩:=F2
  simp only[AA,AD,zN,zC,zR,AN,AM,and_false,or_false,Af,zL] at*
  (try simp only[mf,mm,Jm,mj,DD,Ao,zB])<;>grind (splits:=100)
 ·first|(rfl)|((try simp only[mf,mm,Jm,mj,DD,Ao,zB])<;>grind (splits:=100))
 ·first|(rfl)|((try simp only[mf,mm,Jm,mj,DD,Ao,zB])<;>grind (splits:=100))
 ·first|(rfl)|((try simp only[mf,mm,Jm,mj,DD,Ao,zB])<;>grind (splits:=100))
 ·first|(rfl)|((try simp only[mf,mm,Jm,mj,DD,Ao,zB])<;>grind (splits:=100))
 ·first|(rfl)|(refine AU ?_;(try simp only[mf,mm,Jm,mj,DD,Ao,zB])<;>grind (splits:=100))
 ·first|(rfl)|(refine AU ?_;(try simp only[mf,mm,Jm,mj,DD,Ao,zB])<;>grind (splits:=100))
 ·first|(rfl)|(refine AU ?_;(try simp only[mf,mm,Jm,mj,DD,Ao,zB])<;>grind (splits:=100))
 ·first|(rfl)|(refine AU ?_;(try simp only[mf,mm,Jm,mj,DD,Ao,zB])<;>grind (splits:=100))
 ·first|(rfl)|(refine AU ?_;(try simp only[mf,mm,Jm,mj,DD,Ao,zB])<;>grind (splits:=100))
 ·first|(rfl)|(refine AU ?_;(try simp only[mf,mm,Jm,mj,DD,Ao,zB])<;>grind (splits:=100))
 ·first|(rfl)|(refine AU ?_;(try simp only[mf,mm,Jm,mj,DD,Ao,zB])<;>grind (splits:=100))
 ·first|(rfl)|(refine AU ?_;(try simp only[mf,mm,Jm,mj,DD,Ao,zB])<;>grind (splits:=100))
 ·obtain⟨e3,-,e5,e6,-,-,-,-,-,e12,-,-,-,-,-,e18,-⟩:=F0
  obtain⟨-,e20,-,e22,e23,-,-,e26,e27,e28,-,e30,e31,e32,-,e34,-⟩:=F1
  obtain⟨-,-,-,e38,-,-,-,-,-,-,-,-,e47,-⟩:=F2
  simp only[AA,AD,zN,zC,zR,AN,AM,and_false,or_false,Af,zL] at*
  (try simp only[mf,mm,Jm,mj,DD,Ao,zB])<;>grind (splits:=100)
 ·obtain⟨e3,-,e5,e6,-,-,-,-,-,e12,-,-,-,-,-,e18,-⟩:=F0
  obtain⟨-,e20,-,e22,e23,-,-,e26,e27,e28,-,e30,e31,e32,-,e34,-⟩:=F1
  obtain⟨-,-,-,-,e39,-,-,-,-,-,-,-,-,e48,-⟩:=F2
  simp only[AA,AD,zN,zC,zR,AN,AM,and_false,or_false,Af,zL] at*
  (try simp only[mf,mm,Jm,mj,DD,Ao,zB])<;>grind (splits:=100)
 ·first|(rfl)|(refine AU ?_;(try simp only[mf,mm,Jm,mj,DD,Ao,zB])<;>grind (splits:=100))
 ·first|(rfl)|(refine AU ?_;(try simp only[mf,mm,Jm,mj,DD,Ao,zB])<;>grind (splits:=100))
 ·first|(rfl)|(refine AU ?_;(try simp only[mf,mm,Jm,mj,DD,Ao,zB])<;>grind (splits:=100))
 ·first|(rfl)|((try simp only[mf,mm,Jm,mj,DD,Ao,zB])<;>grind (splits:=100))
 ·first|(rfl)|((try simp only[mf,mm,Jm,mj,DD,Ao,zB])<;>grind (splits:=100))
 ·obtain⟨e3,-,e5,e6,-,-,-,-,-,e12,-,-,-,-,-,e18,-⟩:=F0
  obtain⟨-,e20,-,e22,e23,-,-,e26,e27,e28,-,e30,e31,e32,-,e34,-⟩:=F1
  obtain⟨-,-,-,-,-,e40,-,-,-,-,-,-,-,-,e49,-⟩:=F2
  simp only[AA,AD,zN,zC,zR,AN,AM,and_false,or_false,Af,zL] at*
  (try simp only[mf,mm,Jm,mj,DD,Ao,zB])<;>grind (splits:=100)
 ·obtain⟨e3,-,e5,e6,-,-,-,-,-,e12,-,-,-,-,-,e18,-⟩:=F0
  obtain⟨-,e20,-,e22,e23,-,-,e26,e27,e28,-,e30,e31,e32,-,e34,-⟩:=F1
  obtain⟨-,-,-,-,-,-,e41,-,-,-,-,-,-,-,-,e50,-⟩:=F2
  simp only[AA,AD,zN,zC,zR,AN,AM,and_false,or_false,Af,zL] at*
  (try simp only[mf,mm,Jm,mj,DD,Ao,zB])<;>grind (splits:=100)
 ·obtain⟨e3,-,e5,e6,-,-,-,-,-,e12,-,-,-,-,-,e18,-⟩:=F0
  obtain⟨-,e20,-,e22,e23,-,-,e26,e27,e28,-,e30,e31,e32,-,e34,-⟩:=F1
  obtain⟨-,-,-,-,-,-,-,e42,-⟩:=F2
  obtain⟨e51,-⟩:=F3
  simp only[AA,AD,zN,zC,zR,AN,AM,and_false,or_false,Af,zL] at*
  (try simp only[mf,mm,Jm,mj,DD,Ao,zB])<;>grind (splits:=100)
 ·obtain⟨e3,-,e5,e6,e7,-⟩:=F0
  simp only[AA,AD,zR] at*
  grind (splits:=100)
theorem pS:CA Try.prog 17 nf:=by
 refine Bu (l:=[]) C6 (by intro p h;exact absurd h (by simp)) ph (by kernel_rfl) fun T us hpre hT hul hS hBd hE=>?_
 change us.length=3 at hul
 clear hBd
 have ha0:aI us 0=I T 0:=inI hT hul (by decide)
 have ha1:aI us 1=I T 1:=inI hT hul (by decide)
 have ha2:aI us 2=I T 2:=inI hT hul (by decide)
 clear hpre
 skip
 obtain⟨A0,hO⟩:=CK (tys:=[.i,.i,.i,.i,.i,.i,.i,.i,.i,.b,.b,.b,.b,.b,.b,.b,.b,.i,.i,.b,.b,.b,.i,.i,.i,.i,.i]) (rs:=pC) hS (by kernel_rfl) hE
 obtain⟨q0,q1,q2,q3,q4,q5,q6,q7,q8,q9,q10,q11,q12,q13,q14,q15,q16,q17,q18,q19,q20,q21,q22,q23,q24,q25,q26,r0⟩:=pZ A0
 refine⟨⟨r0,trivial⟩,hO.trans ?_⟩
 exact (lc (by show U.int (I T 44)= .int (nO us);unfold nO me;rw[ha0,ha1,ha2];exact congrArg U.int q0) (lc (by show U.int 0= .int (nY us);unfold nY me;rw[ha0,ha1,ha2];exact congrArg U.int q1) (lc (by show U.int 0= .int (nP us);unfold nP me;rw[ha0,ha1,ha2];exact congrArg U.int q2) (lc (by show U.int (I T 45)= .int (nR us);unfold nR me;rw[ha0,ha1,ha2];exact congrArg U.int q3) (lc (by show U.int (I T 46)= .int (nS us);unfold nS me;rw[ha0,ha1,ha2];exact congrArg U.int q4) (lc (by show U.int 0= .int (nc us);unfold nc me;rw[ha0,ha1,ha2];exact congrArg U.int q5) (lc (by show U.int 0= .int (nW us);unfold nW me;rw[ha0,ha1,ha2];exact congrArg U.int q6) (lc (by show U.int 0= .int (nX us);unfold nX me;rw[ha0,ha1,ha2];exact congrArg U.int q7) (lc (by show U.int 0= .int (nQ us);unfold nQ me;rw[ha0,ha1,ha2];exact congrArg U.int q8) (lc (by show U.bool false= .bool (nN us);unfold nN me;rw[ha0,ha1,ha2];exact congrArg U.bool q9) (lc (by show U.bool false= .bool (nJ us);unfold nJ me;rw[ha0,ha1,ha2];exact congrArg U.bool q10) (lc (by show U.bool false= .bool (m4 us);unfold m4 me;rw[ha0,ha1,ha2];exact congrArg U.bool q11) (lc (by show U.bool false= .bool (nA us);unfold nA me;rw[ha0,ha1,ha2];exact congrArg U.bool q12) (lc (by show U.bool false= .bool (m5 us);unfold m5 me;rw[ha0,ha1,ha2];exact congrArg U.bool q13) (lc (by show U.bool false= .bool (m8 us);unfold m8 me;rw[ha0,ha1,ha2];exact congrArg U.bool q14) (lc (by show U.bool false= .bool (nF us);unfold nF me;rw[ha0,ha1,ha2];exact congrArg U.bool q15) (lc (by show U.bool false= .bool (nI us);unfold nI me;rw[ha0,ha1,ha2];exact congrArg U.bool q16) (lc (by show U.int (I T 47)= .int (m7 us);unfold m7 me;rw[ha0,ha1,ha2];exact congrArg U.int q17) (lc (by show U.int (I T 48)= .int (nE us);unfold nE me;rw[ha0,ha1,ha2];exact congrArg U.int q18) (lc (by show U.bool false= .bool (my us);unfold my me;rw[ha0,ha1,ha2];exact congrArg U.bool q19) (lc (by show U.bool false= .bool (m9 us);unfold m9 me;rw[ha0,ha1,ha2];exact congrArg U.bool q20) (lc (by show U.bool false= .bool (nH us);unfold nH me;rw[ha0,ha1,ha2];exact congrArg U.bool q21) (lc (by show U.int 0= .int (nK us);unfold nK me;rw[ha0,ha1,ha2];exact congrArg U.int q22) (lc (by show U.int 0= .int (nG us);unfold nG me;rw[ha0,ha1,ha2];exact congrArg U.int q23) (lc (by show U.int (I T 49)= .int (nD us);unfold nD me;rw[ha0,ha1,ha2];exact congrArg U.int q24) (lc (by show U.int (I T 50)= .int (m6 us);unfold m6 me;rw[ha0,ha1,ha2];exact congrArg U.int q25) (lc (by show U.int (I T 51)= .int (nC us);unfold nC;rw[ha0,ha1,ha2];exact congrArg U.int q26) rfl)))))))))))))))))))))))))))
end Go.Eng
end
