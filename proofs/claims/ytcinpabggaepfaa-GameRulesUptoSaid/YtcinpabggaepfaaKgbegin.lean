/-
  A part of the proof: K_gbegind K_gbegin.
-/
import Derived.Test.YtcinpabggaepfaaE3
import Derived.Test.YtcinpabggaepfaaE4
set_option linter.unusedVariables false
set_option linter.unusedSimpArgs false
noncomputable section
open Go Go.Eng Go.Proofs
set_option maxHeartbeats 4000000
set_option maxRecDepth 100000
namespace Go.Eng
def Ah (us:List U):Gm:=AH (gAt 1 us) (aI us 0)
def HP (us:List U):Int:=(Ah us).code
def HF (us:List U):Int:=(Ah us).phase
def HI (us:List U):Int:=(Ah us).side
def HL (us:List U):Int:=(Ah us).ball
def G7 (us:List U):Int:=(Ah us).taken
def Gr (us:List U):Int:=(Ah us).p0
def Gp (us:List U):Int:=(Ah us).p1
def HK (us:List U):Int:=(Ah us).p2
def Gv (us:List U):Int:=(Ah us).p3
def G3 (us:List U):Bool:=(Ah us).n0
def Ez (us:List U):Bool:=(Ah us).n1
def FB (us:List U):Bool:=(Ah us).n2
def FE (us:List U):Bool:=(Ah us).n3
def E4 (us:List U):Bool:=(Ah us).d0
def FC (us:List U):Bool:=(Ah us).d1
def FS (us:List U):Bool:=(Ah us).d2
def Et (us:List U):Bool:=(Ah us).d3
def FM (us:List U):Int:=(Ah us).h0
def Eu (us:List U):Int:=(Ah us).h1
def FF (us:List U):Bool:=(Ah us).l0
def FQ (us:List U):Bool:=(Ah us).l1
def FH (us:List U):Bool:=(Ah us).half
def FV (us:List U):Int:=(Ah us).turns
def FL (us:List U):Int:=(Ah us).began
def FK (us:List U):Int:=(Ah us).lastb
def FN (us:List U):Int:=(Ah us).winner
def Ep:List U→Prop:=fun us=>0≤(aI us 0)∧(aI us 0)≤3∧0≤(aI us 23)∧(aI us 23)≤1073741824
def Iq:Bc:={ sh:=[.ptr 0 0,.one (k64)],blks:=[([k64,k64,k64,k64,k64,k64,k64,k64,k64,.bool,.bool,.bool,.bool,.bool,.bool,.bool,.bool,k64,k64,.bool,.bool,.bool,k64,k64,k64,k64,k64,k64,k64,.bool,.bool,.bool],73)],outs:=[(.s "gbegin.0",AI HP),(.s "gbegin.1",AI HF),(.s "gbegin.2",AI HI),(.s "gbegin.3",AI HL),(.s "gbegin.4",AI G7),(.s "gbegin.5",AI Gr),(.s "gbegin.6",AI Gp),(.s "gbegin.7",AI HK),(.s "gbegin.8",AI Gv),(.s "gbegin.9",AQ G3),(.s "gbegin.10",AQ Ez),(.s "gbegin.11",AQ FB),(.s "gbegin.12",AQ FE),(.s "gbegin.13",AQ E4),(.s "gbegin.14",AQ FC),(.s "gbegin.15",AQ FS),(.s "gbegin.16",AQ Et),(.s "gbegin.17",AI FM),(.s "gbegin.18",AI Eu),(.s "gbegin.19",AQ FF),(.s "gbegin.20",AQ FQ),(.s "gbegin.21",AQ FH),(.s "gbegin.22",AI FV),(.s "gbegin.23",AI FL),(.s "gbegin.24",AI FK),(.s "gbegin.25",AI FN)],c:= .tup [],m':=[.cells [(AG 33),(AG 34),(AG 35),(AG 36),(AG 37),(AG 38),(AG 39),(AG 40),(AG 41),.b 42,.b 43,.b 44,.b 45,.b 46,.b 47,.b 48,.b 49,(AG 50),(AG 51),.b 52,.b 53,.b 54,(AG 55),(AG 56),(AG 57),(AG 58),(AG 27),(AG 28),(AG 29),.b 30,.b 31,.b 32] 73],pre:=[(.s "gbegin.p0",Ep)] }
def Wr:List En:=[⟨33,.w2 .i64 .add,[.e 23,.c (.int 1)]⟩,
 ⟨34,.lt,[.c (.int 1073741824),.e 33]⟩,
 ⟨35,.w2 .i64 .sub,[.e 33,.c (.int 2)]⟩,
 ⟨36,.not,[.e 34]⟩,
 ⟨37,.ite .i,[.e 34,.e 35,.e 33]⟩,
 ⟨38,.eq,[.e 0,.c (.int 0)]⟩,
 ⟨39,.ite .b,[.e 38,.c (.bool true),.e 10]⟩,
 ⟨40,.eq,[.e 0,.c (.int 1)]⟩,
 ⟨41,.ite .b,[.e 40,.c (.bool true),.e 11]⟩,
 ⟨42,.eq,[.e 0,.c (.int 2)]⟩,
 ⟨43,.ite .b,[.e 42,.c (.bool true),.e 12]⟩,
 ⟨44,.eq,[.e 0,.c (.int 3)]⟩,
 ⟨45,.ite .b,[.e 44,.c (.bool true),.e 13]⟩,
 ⟨46,.o2 .tmod,[.e 0,.c (.int 2)]⟩,
 ⟨47,.pick .i,[.e 0,.e 6,.e 7,.e 8,.e 9]⟩]
def Qb:List En:=Wr
def iQ:List ObE:=[⟨none,.inr,[.e 0,.c (.int 4)]⟩,
 ⟨none,.inr,[.e 0,.c (.int 4)]⟩]
def Ym:List Rf:=[.e 1,.c (.int 1),.e 46,.e 0,.c (.int (-1)),.e 6,.e 7,.e 8,.e 9,.e 39,.e 41,.e 43,.e 45,.c (.bool false),.c (.bool false),.c (.bool false),.c (.bool false),.e 18,.e 19,.e 20,.e 21,.c (.bool false),.e 37,.e 47,.c (.int (-1)),.e 26]
theorem g6:Iq.sees Ym (Iq.run Try.prog [] Ba 3000 20 51)=some ((Qb).map En.be,iQ.map ObE.be,[]):=by kernel_rfl
theorem gx {T:Tab}(g:Gm)(hg:g=gT T 1)(pre0:0≤I T 0∧I T 0≤3∧0≤I T 23∧I T 23≤1073741824)(A0:AK T Qb):
  ((I T 1)=((AH g (I T 0)).code))∧
  (1=((AH g (I T 0)).phase))∧
  ((I T 46)=((AH g (I T 0)).side))∧
  ((I T 0)=((AH g (I T 0)).ball))∧
  ((-1)=((AH g (I T 0)).taken))∧
  ((I T 6)=((AH g (I T 0)).p0))∧
  ((I T 7)=((AH g (I T 0)).p1))∧
  ((I T 8)=((AH g (I T 0)).p2))∧
  ((I T 9)=((AH g (I T 0)).p3))∧
  ((B T 39)=((AH g (I T 0)).n0))∧
  ((B T 41)=((AH g (I T 0)).n1))∧
  ((B T 43)=((AH g (I T 0)).n2))∧
  ((B T 45)=((AH g (I T 0)).n3))∧
  (false=((AH g (I T 0)).d0))∧
  (false=((AH g (I T 0)).d1))∧
  (false=((AH g (I T 0)).d2))∧
  (false=((AH g (I T 0)).d3))∧
  ((I T 18)=((AH g (I T 0)).h0))∧
  ((I T 19)=((AH g (I T 0)).h1))∧
  ((B T 20)=((AH g (I T 0)).l0))∧
  ((B T 21)=((AH g (I T 0)).l1))∧
  (false=((AH g (I T 0)).half))∧
  ((I T 37)=((AH g (I T 0)).turns))∧
  ((I T 47)=((AH g (I T 0)).began))∧
  ((-1)=((AH g (I T 0)).lastb))∧
  ((I T 26)=((AH g (I T 0)).winner))∧
  (0≤I T 0∧I T 0 < 4)∧
  (0≤I T 0∧I T 0 < 4):=by
 have F0:=A0;clear A0
 refine⟨?_,?_,?_,?_,?_,?_,?_,?_,?_,?_,?_,?_,?_,?_,?_,?_,?_,?_,?_,?_,?_,?_,?_,?_,?_,?_,?_,?_⟩
 ·first|(subst hg;rfl)|(subst hg;(try simp only[AH,AJ,AS,Ae,zB])<;>grind (splits:=100))
 ·first|(subst hg;rfl)|(subst hg;(try simp only[AH,AJ,AS,Ae,zB])<;>grind (splits:=100))
 ·obtain⟨-,-,-,-,-,-,-,-,-,-,-,-,-,e46,-⟩:=F0
  simp only[AA,zR,Af] at e46
  subst hg
  (try simp only[AH,AJ,AS,Ae,zB])<;>grind (splits:=100)
 ·first|(subst hg;rfl)|(subst hg;(try simp only[AH,AJ,AS,Ae,zB])<;>grind (splits:=100))
 ·first|(subst hg;rfl)|(subst hg;(try simp only[AH,AJ,AS,Ae,zB])<;>grind (splits:=100))
 ·first|(subst hg;rfl)|(subst hg;(try simp only[AH,AJ,AS,Ae,zB])<;>grind (splits:=100))
 ·first|(subst hg;rfl)|(subst hg;(try simp only[AH,AJ,AS,Ae,zB])<;>grind (splits:=100))
 ·first|(subst hg;rfl)|(subst hg;(try simp only[AH,AJ,AS,Ae,zB])<;>grind (splits:=100))
 ·first|(subst hg;rfl)|(subst hg;(try simp only[AH,AJ,AS,Ae,zB])<;>grind (splits:=100))
 ·obtain⟨-,-,-,-,-,e38,e39,-⟩:=F0
  simp only[AA,AD,zC,zR,zL] at e38 e39
  subst hg
  refine AU ?_
  (try simp only[AH,AJ,AS,Ae,zB])<;>(try constructor)<;>grind (splits:=100)
 ·obtain⟨-,-,-,-,-,-,-,e40,e41,-⟩:=F0
  simp only[AA,AD,zC,zR,zL] at e40 e41
  subst hg
  refine AU ?_
  (try simp only[AH,AJ,AS,Ae,zB])<;>(try constructor)<;>grind (splits:=100)
 ·obtain⟨-,-,-,-,-,-,-,-,-,e42,e43,-⟩:=F0
  simp only[AA,AD,zC,zR,zL] at e42 e43
  subst hg
  refine AU ?_
  (try simp only[AH,AJ,AS,Ae,zB])<;>(try constructor)<;>grind (splits:=100)
 ·obtain⟨-,-,-,-,-,-,-,-,-,-,-,e44,e45,-⟩:=F0
  simp only[AA,AD,zC,zR,zL] at e44 e45
  subst hg
  refine AU ?_
  (try simp only[AH,AJ,AS,Ae,zB])<;>(try constructor)<;>grind (splits:=100)
 ·first|(subst hg;rfl)|(subst hg;refine AU ?_;(try simp only[AH,AJ,AS,Ae,zB])<;>grind (splits:=100))
 ·first|(subst hg;rfl)|(subst hg;refine AU ?_;(try simp only[AH,AJ,AS,Ae,zB])<;>grind (splits:=100))
 ·first|(subst hg;rfl)|(subst hg;refine AU ?_;(try simp only[AH,AJ,AS,Ae,zB])<;>grind (splits:=100))
 ·first|(subst hg;rfl)|(subst hg;refine AU ?_;(try simp only[AH,AJ,AS,Ae,zB])<;>grind (splits:=100))
 ·first|(subst hg;rfl)|(subst hg;(try simp only[AH,AJ,AS,Ae,zB])<;>grind (splits:=100))
 ·first|(subst hg;rfl)|(subst hg;(try simp only[AH,AJ,AS,Ae,zB])<;>grind (splits:=100))
 ·first|(subst hg;rfl)|(subst hg;refine AU ?_;(try simp only[AH,AJ,AS,Ae,zB])<;>grind (splits:=100))
 ·first|(subst hg;rfl)|(subst hg;refine AU ?_;(try simp only[AH,AJ,AS,Ae,zB])<;>grind (splits:=100))
 ·first|(subst hg;rfl)|(subst hg;refine AU ?_;(try simp only[AH,AJ,AS,Ae,zB])<;>grind (splits:=100))
 ·obtain⟨e33,e34,e35,-,e37,-⟩:=F0
  simp only[AA,AD,zR,w2P,zL] at*
  subst hg
  (try simp only[AH,AJ,AS,Ae,zB])<;>grind (splits:=100)
 ·obtain⟨-,-,-,-,-,-,-,-,-,-,-,-,-,-,e47,-⟩:=F0
  simp only[AA,AD,zR,AN,AM,and_false,or_false] at e47
  subst hg
  (try simp only[AH,AJ,AS,Ae,zB])<;>grind (splits:=100)
 ·first|(subst hg;rfl)|(subst hg;(try simp only[AH,AJ,AS,Ae,zB])<;>grind (splits:=100))
 ·first|(subst hg;rfl)|(subst hg;(try simp only[AH,AJ,AS,Ae,zB])<;>grind (splits:=100))
 ·first|(subst hg;rfl)|(subst hg;grind (splits:=100))
 ·first|(subst hg;rfl)|(subst hg;grind (splits:=100))
theorem fe:CA Try.prog 51 Iq:=by
 refine Bu (l:=[]) C6 (by intro p h;exact absurd h (by simp)) g6 (by kernel_rfl) fun T us hpre hT hul hS hBd hE=>?_
 change us.length=33 at hul
 clear hBd
 obtain⟨g,hg⟩:∃g:Gm,g=gT T 1:=⟨_,rfl⟩
 have hgu:gAt 1 us=g:=by rw[hg];exact DV hT hul (by decide)
 have ha0:aI us 0=I T 0:=inI hT hul (by decide)
 have ha23:aI us 23=I T 23:=inI hT hul (by decide)
 have pre0:0≤I T 0∧I T 0≤3∧0≤I T 23∧I T 23≤1073741824:=by
  have h:=hpre (.s "gbegin.p0",Ep) (by simp[Iq])
  change Ep us at h
  unfold Ep at h
  simp only[ha0,ha23] at h
  exact h
 clear hpre
 skip
 obtain⟨A0,hO⟩:=CK (tys:=[.i,.i,.i,.i,.i,.i,.i,.i,.i,.b,.b,.b,.b,.b,.b,.b,.b,.i,.i,.b,.b,.b,.i,.i,.i,.i]) (rs:=Ym) hS (by kernel_rfl) hE
 obtain⟨q0,q1,q2,q3,q4,q5,q6,q7,q8,q9,q10,q11,q12,q13,q14,q15,q16,q17,q18,q19,q20,q21,q22,q23,q24,q25,r0,r1⟩:=gx g hg pre0 A0
 refine⟨⟨(fun _=>r0),(fun _=>r1),trivial⟩,hO.trans ?_⟩
 exact (lc (by show U.int (I T 1)= .int (HP us);unfold HP Ah;rw[hgu,ha0];exact congrArg U.int q0) (lc (by show U.int 1= .int (HF us);unfold HF Ah;rw[hgu,ha0];exact congrArg U.int q1) (lc (by show U.int (I T 46)= .int (HI us);unfold HI Ah;rw[hgu,ha0];exact congrArg U.int q2) (lc (by show U.int (I T 0)= .int (HL us);unfold HL Ah;rw[hgu,ha0];exact congrArg U.int q3) (lc (by show U.int (-1)= .int (G7 us);unfold G7 Ah;rw[hgu,ha0];exact congrArg U.int q4) (lc (by show U.int (I T 6)= .int (Gr us);unfold Gr Ah;rw[hgu,ha0];exact congrArg U.int q5) (lc (by show U.int (I T 7)= .int (Gp us);unfold Gp Ah;rw[hgu,ha0];exact congrArg U.int q6) (lc (by show U.int (I T 8)= .int (HK us);unfold HK Ah;rw[hgu,ha0];exact congrArg U.int q7) (lc (by show U.int (I T 9)= .int (Gv us);unfold Gv Ah;rw[hgu,ha0];exact congrArg U.int q8) (lc (by show U.bool (B T 39)= .bool (G3 us);unfold G3 Ah;rw[hgu,ha0];exact congrArg U.bool q9) (lc (by show U.bool (B T 41)= .bool (Ez us);unfold Ez Ah;rw[hgu,ha0];exact congrArg U.bool q10) (lc (by show U.bool (B T 43)= .bool (FB us);unfold FB Ah;rw[hgu,ha0];exact congrArg U.bool q11) (lc (by show U.bool (B T 45)= .bool (FE us);unfold FE Ah;rw[hgu,ha0];exact congrArg U.bool q12) (lc (by show U.bool false= .bool (E4 us);unfold E4 Ah;rw[hgu,ha0];exact congrArg U.bool q13) (lc (by show U.bool false= .bool (FC us);unfold FC Ah;rw[hgu,ha0];exact congrArg U.bool q14) (lc (by show U.bool false= .bool (FS us);unfold FS Ah;rw[hgu,ha0];exact congrArg U.bool q15) (lc (by show U.bool false= .bool (Et us);unfold Et Ah;rw[hgu,ha0];exact congrArg U.bool q16) (lc (by show U.int (I T 18)= .int (FM us);unfold FM Ah;rw[hgu,ha0];exact congrArg U.int q17) (lc (by show U.int (I T 19)= .int (Eu us);unfold Eu Ah;rw[hgu,ha0];exact congrArg U.int q18) (lc (by show U.bool (B T 20)= .bool (FF us);unfold FF Ah;rw[hgu,ha0];exact congrArg U.bool q19) (lc (by show U.bool (B T 21)= .bool (FQ us);unfold FQ Ah;rw[hgu,ha0];exact congrArg U.bool q20) (lc (by show U.bool false= .bool (FH us);unfold FH Ah;rw[hgu,ha0];exact congrArg U.bool q21) (lc (by show U.int (I T 37)= .int (FV us);unfold FV Ah;rw[hgu,ha0];exact congrArg U.int q22) (lc (by show U.int (I T 47)= .int (FL us);unfold FL Ah;rw[hgu,ha0];exact congrArg U.int q23) (lc (by show U.int (-1)= .int (FK us);unfold FK Ah;rw[hgu,ha0];exact congrArg U.int q24) (lc (by show U.int (I T 26)= .int (FN us);unfold FN Ah;rw[hgu,ha0];exact congrArg U.int q25) rfl))))))))))))))))))))))))))
end Go.Eng
end
