/-
  A part of the proof: K_rbegind K_rbegin.
-/
import Derived.Test.YtcinpabggaepfaaE3
import Derived.Test.YtcinpabggaepfaaE4
set_option linter.unusedVariables false
set_option linter.unusedSimpArgs false
noncomputable section
open Go Go.Eng Go.Proofs
set_option maxHeartbeats 4000000
set_option maxRecDepth 100000
namespace Go.Eng
def Ai (us:List U):Gm:=AH (gAt 0 us) (aI us 26)
def Gq (us:List U):Int:=(Ai us).code
def HJ (us:List U):Int:=(Ai us).phase
def HG (us:List U):Int:=(Ai us).side
def G6 (us:List U):Int:=(Ai us).ball
def HN (us:List U):Int:=(Ai us).taken
def Gu (us:List U):Int:=(Ai us).p0
def G2 (us:List U):Int:=(Ai us).p1
def G0 (us:List U):Int:=(Ai us).p2
def HH (us:List U):Int:=(Ai us).p3
def Gs (us:List U):Bool:=(Ai us).n0
def E5 (us:List U):Bool:=(Ai us).n1
def Ey (us:List U):Bool:=(Ai us).n2
def E8 (us:List U):Bool:=(Ai us).n3
def FP (us:List U):Bool:=(Ai us).d0
def FI (us:List U):Bool:=(Ai us).d1
def FG (us:List U):Bool:=(Ai us).d2
def E2 (us:List U):Bool:=(Ai us).d3
def E0 (us:List U):Int:=(Ai us).h0
def Ew (us:List U):Int:=(Ai us).h1
def FU (us:List U):Bool:=(Ai us).l0
def FD (us:List U):Bool:=(Ai us).l1
def FO (us:List U):Bool:=(Ai us).half
def E6 (us:List U):Int:=(Ai us).turns
def E7 (us:List U):Int:=(Ai us).began
def FT (us:List U):Int:=(Ai us).lastb
def E1 (us:List U):Int:=(Ai us).winner
def Ee:List U→Prop:=fun us=>0≤(aI us 26)∧(aI us 26)≤3∧0≤(aI us 22)∧(aI us 22)≤1073741824
def Iz:Bc:={ sh:=[.agg [k64,k64,k64,k64,k64,k64,k64,k64,k64,.bool,.bool,.bool,.bool,.bool,.bool,.bool,.bool,k64,k64,.bool,.bool,.bool,k64,k64,k64,k64],.one (k64)],blks:=[],outs:=[(.s "rbegin.0",AI Gq),(.s "rbegin.1",AI HJ),(.s "rbegin.2",AI HG),(.s "rbegin.3",AI G6),(.s "rbegin.4",AI HN),(.s "rbegin.5",AI Gu),(.s "rbegin.6",AI G2),(.s "rbegin.7",AI G0),(.s "rbegin.8",AI HH),(.s "rbegin.9",AQ Gs),(.s "rbegin.10",AQ E5),(.s "rbegin.11",AQ Ey),(.s "rbegin.12",AQ E8),(.s "rbegin.13",AQ FP),(.s "rbegin.14",AQ FI),(.s "rbegin.15",AQ FG),(.s "rbegin.16",AQ E2),(.s "rbegin.17",AI E0),(.s "rbegin.18",AI Ew),(.s "rbegin.19",AQ FU),(.s "rbegin.20",AQ FD),(.s "rbegin.21",AQ FO),(.s "rbegin.22",AI E6),(.s "rbegin.23",AI E7),(.s "rbegin.24",AI FT),(.s "rbegin.25",AI E1)],c:= .agg [(AG 27),(AG 28),(AG 29),(AG 30),(AG 31),(AG 32),(AG 33),(AG 34),(AG 35),.b 36,.b 37,.b 38,.b 39,.b 40,.b 41,.b 42,.b 43,(AG 44),(AG 45),.b 46,.b 47,.b 48,(AG 49),(AG 50),(AG 51),(AG 52)],m':=[],pre:=[(.s "rbegin.p0",Ee)] }
def Yf:List En:=[⟨27,.eq,[.e 22,.c (.int 1073741824)]⟩,
 ⟨28,.not,[.e 27]⟩,
 ⟨29,.w2 .i64 .add,[.e 22,.c (.int 1)]⟩,
 ⟨30,.ite .i,[.e 27,.c (.int 1073741823),.e 29]⟩,
 ⟨31,.or,[.e 27,.e 28]⟩,
 ⟨32,.eq,[.e 26,.c (.int 0)]⟩,
 ⟨33,.ite .b,[.e 32,.c (.bool true),.e 9]⟩,
 ⟨34,.eq,[.e 26,.c (.int 1)]⟩,
 ⟨35,.ite .b,[.e 34,.c (.bool true),.e 10]⟩,
 ⟨36,.eq,[.e 26,.c (.int 2)]⟩,
 ⟨37,.ite .b,[.e 36,.c (.bool true),.e 11]⟩,
 ⟨38,.eq,[.e 26,.c (.int 3)]⟩,
 ⟨39,.ite .b,[.e 38,.c (.bool true),.e 12]⟩,
 ⟨40,.o2 .tmod,[.e 26,.c (.int 2)]⟩,
 ⟨41,.pick .i,[.e 26,.e 5,.e 6,.e 7,.e 8]⟩]
def Rt:List En:=Yf
def gi:List ObE:=[⟨none,.inr,[.e 26,.c (.int 4)]⟩,
 ⟨none,.inr,[.e 26,.c (.int 4)]⟩]
def WJ:List Rf:=[.e 0,.c (.int 1),.e 40,.e 26,.c (.int (-1)),.e 5,.e 6,.e 7,.e 8,.e 33,.e 35,.e 37,.e 39,.c (.bool false),.c (.bool false),.c (.bool false),.c (.bool false),.e 17,.e 18,.e 19,.e 20,.c (.bool false),.e 30,.e 41,.c (.int (-1)),.e 25]
theorem ge:Iz.sees WJ (Iz.run Try.prog [] Ba 3000 20 60)=some ((Rt).map En.be,gi.map ObE.be,[]):=by kernel_rfl
theorem iA {T:Tab}(g:Gm)(hg:g=gT T 0)(pre0:0≤I T 26∧I T 26≤3∧0≤I T 22∧I T 22≤1073741824)(A0:AK T Rt):
  ((I T 0)=((AH g (I T 26)).code))∧
  (1=((AH g (I T 26)).phase))∧
  ((I T 40)=((AH g (I T 26)).side))∧
  ((I T 26)=((AH g (I T 26)).ball))∧
  ((-1)=((AH g (I T 26)).taken))∧
  ((I T 5)=((AH g (I T 26)).p0))∧
  ((I T 6)=((AH g (I T 26)).p1))∧
  ((I T 7)=((AH g (I T 26)).p2))∧
  ((I T 8)=((AH g (I T 26)).p3))∧
  ((B T 33)=((AH g (I T 26)).n0))∧
  ((B T 35)=((AH g (I T 26)).n1))∧
  ((B T 37)=((AH g (I T 26)).n2))∧
  ((B T 39)=((AH g (I T 26)).n3))∧
  (false=((AH g (I T 26)).d0))∧
  (false=((AH g (I T 26)).d1))∧
  (false=((AH g (I T 26)).d2))∧
  (false=((AH g (I T 26)).d3))∧
  ((I T 17)=((AH g (I T 26)).h0))∧
  ((I T 18)=((AH g (I T 26)).h1))∧
  ((B T 19)=((AH g (I T 26)).l0))∧
  ((B T 20)=((AH g (I T 26)).l1))∧
  (false=((AH g (I T 26)).half))∧
  ((I T 30)=((AH g (I T 26)).turns))∧
  ((I T 41)=((AH g (I T 26)).began))∧
  ((-1)=((AH g (I T 26)).lastb))∧
  ((I T 25)=((AH g (I T 26)).winner))∧
  (0≤I T 26∧I T 26 < 4)∧
  (0≤I T 26∧I T 26 < 4):=by
 have F0:=A0;clear A0
 refine⟨?_,?_,?_,?_,?_,?_,?_,?_,?_,?_,?_,?_,?_,?_,?_,?_,?_,?_,?_,?_,?_,?_,?_,?_,?_,?_,?_,?_⟩
 ·first|(subst hg;rfl)|(subst hg;(try simp only[AH,AJ,AS,Ae,zB])<;>grind (splits:=100))
 ·first|(subst hg;rfl)|(subst hg;(try simp only[AH,AJ,AS,Ae,zB])<;>grind (splits:=100))
 ·obtain⟨-,-,-,-,-,-,-,-,-,-,-,-,-,e40,-⟩:=F0
  simp only[AA,zR,Af] at e40
  subst hg
  (try simp only[AH,AJ,AS,Ae,zB])<;>grind (splits:=100)
 ·first|(subst hg;rfl)|(subst hg;(try simp only[AH,AJ,AS,Ae,zB])<;>grind (splits:=100))
 ·first|(subst hg;rfl)|(subst hg;(try simp only[AH,AJ,AS,Ae,zB])<;>grind (splits:=100))
 ·first|(subst hg;rfl)|(subst hg;(try simp only[AH,AJ,AS,Ae,zB])<;>grind (splits:=100))
 ·first|(subst hg;rfl)|(subst hg;(try simp only[AH,AJ,AS,Ae,zB])<;>grind (splits:=100))
 ·first|(subst hg;rfl)|(subst hg;(try simp only[AH,AJ,AS,Ae,zB])<;>grind (splits:=100))
 ·first|(subst hg;rfl)|(subst hg;(try simp only[AH,AJ,AS,Ae,zB])<;>grind (splits:=100))
 ·obtain⟨-,-,-,-,-,e32,e33,-⟩:=F0
  simp only[AA,AD,zC,zR,zL] at e32 e33
  subst hg
  refine AU ?_
  (try simp only[AH,AJ,AS,Ae,zB])<;>(try constructor)<;>grind (splits:=100)
 ·obtain⟨-,-,-,-,-,-,-,e34,e35,-⟩:=F0
  simp only[AA,AD,zC,zR,zL] at e34 e35
  subst hg
  refine AU ?_
  (try simp only[AH,AJ,AS,Ae,zB])<;>(try constructor)<;>grind (splits:=100)
 ·obtain⟨-,-,-,-,-,-,-,-,-,e36,e37,-⟩:=F0
  simp only[AA,AD,zC,zR,zL] at e36 e37
  subst hg
  refine AU ?_
  (try simp only[AH,AJ,AS,Ae,zB])<;>(try constructor)<;>grind (splits:=100)
 ·obtain⟨-,-,-,-,-,-,-,-,-,-,-,e38,e39,-⟩:=F0
  simp only[AA,AD,zC,zR,zL] at e38 e39
  subst hg
  refine AU ?_
  (try simp only[AH,AJ,AS,Ae,zB])<;>(try constructor)<;>grind (splits:=100)
 ·first|(subst hg;rfl)|(subst hg;refine AU ?_;(try simp only[AH,AJ,AS,Ae,zB])<;>grind (splits:=100))
 ·first|(subst hg;rfl)|(subst hg;refine AU ?_;(try simp only[AH,AJ,AS,Ae,zB])<;>grind (splits:=100))
 ·first|(subst hg;rfl)|(subst hg;refine AU ?_;(try simp only[AH,AJ,AS,Ae,zB])<;>grind (splits:=100))
 ·first|(subst hg;rfl)|(subst hg;refine AU ?_;(try simp only[AH,AJ,AS,Ae,zB])<;>grind (splits:=100))
 ·first|(subst hg;rfl)|(subst hg;(try simp only[AH,AJ,AS,Ae,zB])<;>grind (splits:=100))
 ·first|(subst hg;rfl)|(subst hg;(try simp only[AH,AJ,AS,Ae,zB])<;>grind (splits:=100))
 ·first|(subst hg;rfl)|(subst hg;refine AU ?_;(try simp only[AH,AJ,AS,Ae,zB])<;>grind (splits:=100))
 ·first|(subst hg;rfl)|(subst hg;refine AU ?_;(try simp only[AH,AJ,AS,Ae,zB])<;>grind (splits:=100))
 ·first|(subst hg;rfl)|(subst hg;refine AU ?_;(try simp only[AH,AJ,AS,Ae,zB])<;>grind (splits:=100))
 ·obtain⟨e27,-,e29,e30,-⟩:=F0
  simp only[AA,AD,zR,w2P,zL] at e27 e29 e30
  subst hg
  (try simp only[AH,AJ,AS,Ae,zB])<;>grind (splits:=100)
 ·obtain⟨-,-,-,-,-,-,-,-,-,-,-,-,-,-,e41,-⟩:=F0
  simp only[AA,AD,zR,AN,AM,and_false,or_false] at e41
  subst hg
  (try simp only[AH,AJ,AS,Ae,zB])<;>grind (splits:=100)
 ·first|(subst hg;rfl)|(subst hg;(try simp only[AH,AJ,AS,Ae,zB])<;>grind (splits:=100))
 ·first|(subst hg;rfl)|(subst hg;(try simp only[AH,AJ,AS,Ae,zB])<;>grind (splits:=100))
 ·first|(subst hg;rfl)|(subst hg;grind (splits:=100))
 ·first|(subst hg;rfl)|(subst hg;grind (splits:=100))
theorem fW:CA Try.prog 60 Iz:=by
 refine Bu (l:=[]) C6 (by intro p h;exact absurd h (by simp)) ge (by kernel_rfl) fun T us hpre hT hul hS hBd hE=>?_
 change us.length=27 at hul
 clear hBd
 obtain⟨g,hg⟩:∃g:Gm,g=gT T 0:=⟨_,rfl⟩
 have hgu:gAt 0 us=g:=by rw[hg];exact DV hT hul (by decide)
 have ha22:aI us 22=I T 22:=inI hT hul (by decide)
 have ha26:aI us 26=I T 26:=inI hT hul (by decide)
 have pre0:0≤I T 26∧I T 26≤3∧0≤I T 22∧I T 22≤1073741824:=by
  have h:=hpre (.s "rbegin.p0",Ee) (by simp[Iz])
  change Ee us at h
  unfold Ee at h
  simp only[ha22,ha26] at h
  exact h
 clear hpre
 skip
 obtain⟨A0,hO⟩:=CK (tys:=[.i,.i,.i,.i,.i,.i,.i,.i,.i,.b,.b,.b,.b,.b,.b,.b,.b,.i,.i,.b,.b,.b,.i,.i,.i,.i]) (rs:=WJ) hS (by kernel_rfl) hE
 obtain⟨q0,q1,q2,q3,q4,q5,q6,q7,q8,q9,q10,q11,q12,q13,q14,q15,q16,q17,q18,q19,q20,q21,q22,q23,q24,q25,r0,r1⟩:=iA g hg pre0 A0
 refine⟨⟨(fun _=>r0),(fun _=>r1),trivial⟩,hO.trans ?_⟩
 exact (lc (by show U.int (I T 0)= .int (Gq us);unfold Gq Ai;rw[hgu,ha26];exact congrArg U.int q0) (lc (by show U.int 1= .int (HJ us);unfold HJ Ai;rw[hgu,ha26];exact congrArg U.int q1) (lc (by show U.int (I T 40)= .int (HG us);unfold HG Ai;rw[hgu,ha26];exact congrArg U.int q2) (lc (by show U.int (I T 26)= .int (G6 us);unfold G6 Ai;rw[hgu,ha26];exact congrArg U.int q3) (lc (by show U.int (-1)= .int (HN us);unfold HN Ai;rw[hgu,ha26];exact congrArg U.int q4) (lc (by show U.int (I T 5)= .int (Gu us);unfold Gu Ai;rw[hgu,ha26];exact congrArg U.int q5) (lc (by show U.int (I T 6)= .int (G2 us);unfold G2 Ai;rw[hgu,ha26];exact congrArg U.int q6) (lc (by show U.int (I T 7)= .int (G0 us);unfold G0 Ai;rw[hgu,ha26];exact congrArg U.int q7) (lc (by show U.int (I T 8)= .int (HH us);unfold HH Ai;rw[hgu,ha26];exact congrArg U.int q8) (lc (by show U.bool (B T 33)= .bool (Gs us);unfold Gs Ai;rw[hgu,ha26];exact congrArg U.bool q9) (lc (by show U.bool (B T 35)= .bool (E5 us);unfold E5 Ai;rw[hgu,ha26];exact congrArg U.bool q10) (lc (by show U.bool (B T 37)= .bool (Ey us);unfold Ey Ai;rw[hgu,ha26];exact congrArg U.bool q11) (lc (by show U.bool (B T 39)= .bool (E8 us);unfold E8 Ai;rw[hgu,ha26];exact congrArg U.bool q12) (lc (by show U.bool false= .bool (FP us);unfold FP Ai;rw[hgu,ha26];exact congrArg U.bool q13) (lc (by show U.bool false= .bool (FI us);unfold FI Ai;rw[hgu,ha26];exact congrArg U.bool q14) (lc (by show U.bool false= .bool (FG us);unfold FG Ai;rw[hgu,ha26];exact congrArg U.bool q15) (lc (by show U.bool false= .bool (E2 us);unfold E2 Ai;rw[hgu,ha26];exact congrArg U.bool q16) (lc (by show U.int (I T 17)= .int (E0 us);unfold E0 Ai;rw[hgu,ha26];exact congrArg U.int q17) (lc (by show U.int (I T 18)= .int (Ew us);unfold Ew Ai;rw[hgu,ha26];exact congrArg U.int q18) (lc (by show U.bool (B T 19)= .bool (FU us);unfold FU Ai;rw[hgu,ha26];exact congrArg U.bool q19) (lc (by show U.bool (B T 20)= .bool (FD us);unfold FD Ai;rw[hgu,ha26];exact congrArg U.bool q20) (lc (by show U.bool false= .bool (FO us);unfold FO Ai;rw[hgu,ha26];exact congrArg U.bool q21) (lc (by show U.int (I T 30)= .int (E6 us);unfold E6 Ai;rw[hgu,ha26];exact congrArg U.int q22) (lc (by show U.int (I T 41)= .int (E7 us);unfold E7 Ai;rw[hgu,ha26];exact congrArg U.int q23) (lc (by show U.int (-1)= .int (FT us);unfold FT Ai;rw[hgu,ha26];exact congrArg U.int q24) (lc (by show U.int (I T 25)= .int (E1 us);unfold E1 Ai;rw[hgu,ha26];exact congrArg U.int q25) rfl))))))))))))))))))))))))))
end Go.Eng
end
