/-
  A part of the proof: K_gendd K_gend.
-/
import Derived.Test.YtcinpabggaepfaaE3
import Derived.Test.YtcinpabggaepfaaE4
set_option linter.unusedVariables false
set_option linter.unusedSimpArgs false
noncomputable section
open Go Go.Eng Go.Proofs
set_option maxHeartbeats 4000000
set_option maxRecDepth 100000
namespace Go.Eng
def Ar (us:List U):Gm:=AW (gAt 0 us)
def Hm (us:List U):Int:=(Ar us).code
def Hy (us:List U):Int:=(Ar us).phase
def Hj (us:List U):Int:=(Ar us).side
def Hr (us:List U):Int:=(Ar us).ball
def Hq (us:List U):Int:=(Ar us).taken
def Hx (us:List U):Int:=(Ar us).p0
def Hc (us:List U):Int:=(Ar us).p1
def H4 (us:List U):Int:=(Ar us).p2
def Hz (us:List U):Int:=(Ar us).p3
def Hn (us:List U):Bool:=(Ar us).n0
def GV (us:List U):Bool:=(Ar us).n1
def GF (us:List U):Bool:=(Ar us).n2
def GD (us:List U):Bool:=(Ar us).n3
def GI (us:List U):Bool:=(Ar us).d0
def GR (us:List U):Bool:=(Ar us).d1
def Fo (us:List U):Bool:=(Ar us).d2
def GQ (us:List U):Bool:=(Ar us).d3
def Gb (us:List U):Int:=(Ar us).h0
def GP (us:List U):Int:=(Ar us).h1
def Fl (us:List U):Bool:=(Ar us).l0
def GT (us:List U):Bool:=(Ar us).l1
def Fe (us:List U):Bool:=(Ar us).half
def Fz (us:List U):Int:=(Ar us).turns
def GC (us:List U):Int:=(Ar us).began
def Gd (us:List U):Int:=(Ar us).lastb
def Fy (us:List U):Int:=(Ar us).winner
def Gg:List U→Prop:=fun us=>0≤(aI us 0)∧(aI us 0)≤3∧(aI us 26)=AX (aI us 0)∧(aI us 27)=Ac (aI us 0)∧(aI us 28)=Ab (aI us 0)∧(aB us 29)=Aw (aI us 0)∧(aB us 30)=Ao (aI us 0)∧(aB us 31)=BI (aI us 0)
def Fh:List U→Prop:=fun us=>((aI us 3)= -1∨(0≤(aI us 3)∧(aI us 3)≤3))∧0≤(aI us 2)∧(aI us 2)≤1∧0≤(aI us 23)
def Ib:Bc:={ sh:=[.ptr 0 0],blks:=[([k64,k64,k64,k64,k64,k64,k64,k64,k64,.bool,.bool,.bool,.bool,.bool,.bool,.bool,.bool,k64,k64,.bool,.bool,.bool,k64,k64,k64,k64,k64,k64,k64,.bool,.bool,.bool],73)],outs:=[(.s "gend.0",AI Hm),(.s "gend.1",AI Hy),(.s "gend.2",AI Hj),(.s "gend.3",AI Hr),(.s "gend.4",AI Hq),(.s "gend.5",AI Hx),(.s "gend.6",AI Hc),(.s "gend.7",AI H4),(.s "gend.8",AI Hz),(.s "gend.9",AQ Hn),(.s "gend.10",AQ GV),(.s "gend.11",AQ GF),(.s "gend.12",AQ GD),(.s "gend.13",AQ GI),(.s "gend.14",AQ GR),(.s "gend.15",AQ Fo),(.s "gend.16",AQ GQ),(.s "gend.17",AI Gb),(.s "gend.18",AI GP),(.s "gend.19",AQ Fl),(.s "gend.20",AQ GT),(.s "gend.21",AQ Fe),(.s "gend.22",AI Fz),(.s "gend.23",AI GC),(.s "gend.24",AI Gd),(.s "gend.25",AI Fy)],c:= .tup [],m':=[.cells [(AG 32),(AG 33),(AG 34),(AG 35),(AG 36),(AG 37),(AG 38),(AG 39),(AG 40),.b 41,.b 42,.b 43,.b 44,.b 45,.b 46,.b 47,.b 48,(AG 49),(AG 50),.b 51,.b 52,.b 53,(AG 54),(AG 55),(AG 56),(AG 57),(AG 26),(AG 27),(AG 28),.b 29,.b 30,.b 31] 73],pre:=[(.s "gend.p0",Gg),(.s "gend.p1",Fh)] }
def cL:List En:=[⟨32,.ne,[.e 3,.c (.int (-1))]⟩,
 ⟨33,.lt,[.e 23,.e 27]⟩,
 ⟨34,.and,[.e 32,.e 33]⟩,
 ⟨35,.pick .i,[.e 3,.e 5,.e 6,.e 7,.e 8]⟩,
 ⟨36,.le,[.e 27,.e 35]⟩,
 ⟨37,.and,[.e 33,.e 36]⟩,
 ⟨38,.and,[.e 32,.e 37]⟩,
 ⟨39,.w2 .i64 .sub,[.c (.int 1),.e 2]⟩,
 ⟨40,.eq,[.e 39,.c (.int 0)]⟩,
 ⟨41,.ite .b,[.e 40,.c (.bool true),.e 19]⟩,
 ⟨42,.eq,[.e 39,.c (.int 1)]⟩,
 ⟨43,.ite .b,[.e 42,.c (.bool true),.e 20]⟩,
 ⟨44,.and,[.e 32,.n 37]⟩,
 ⟨45,.ite .b,[.e 37,.e 41,.e 19]⟩,
 ⟨46,.ite .b,[.e 37,.e 43,.e 20]⟩,
 ⟨47,.lt,[.e 23,.e 28]⟩]
def dh:List En:=[⟨48,.and,[.e 32,.e 47]⟩,
 ⟨49,.pick .i,[.e 3,.e 5,.e 6,.e 7,.e 8]⟩,
 ⟨50,.le,[.e 28,.e 49]⟩,
 ⟨51,.and,[.e 47,.e 50]⟩,
 ⟨52,.and,[.e 32,.e 51]⟩,
 ⟨53,.w2 .i64 .sub,[.c (.int 1),.e 2]⟩,
 ⟨54,.eq,[.e 53,.c (.int 0)]⟩,
 ⟨55,.ite .b,[.e 54,.c (.bool true),.e 45]⟩,
 ⟨56,.eq,[.e 53,.c (.int 1)]⟩,
 ⟨57,.ite .b,[.e 56,.c (.bool true),.e 46]⟩,
 ⟨58,.and,[.e 32,.n 51]⟩,
 ⟨59,.ite .b,[.e 51,.e 55,.e 45]⟩,
 ⟨60,.ite .b,[.e 51,.e 57,.e 46]⟩,
 ⟨61,.and,[.e 32,.e 30]⟩,
 ⟨62,.pick .b,[.e 3,.e 9,.e 10,.e 11,.e 12]⟩,
 ⟨63,.and,[.e 30,.e 62]⟩]
def cH:List En:=[⟨64,.and,[.e 32,.e 63]⟩,
 ⟨65,.le,[.c (.int 4),.e 22]⟩,
 ⟨66,.and,[.e 63,.e 65]⟩,
 ⟨67,.and,[.e 32,.e 66]⟩,
 ⟨68,.and,[.e 32,.n 66]⟩,
 ⟨69,.ite .i,[.e 66,.e 3,.c (.int (-1))]⟩,
 ⟨70,.not,[.e 32]⟩,
 ⟨71,.ite .b,[.e 32,.e 59,.e 19]⟩,
 ⟨72,.ite .b,[.e 32,.e 60,.e 20]⟩,
 ⟨73,.ite .i,[.e 32,.e 69,.c (.int (-1))]⟩,
 ⟨74,.w2 .i64 .sub,[.c (.int 1),.e 2]⟩]
def Xb:List En:=cL++(dh++(cH))
def ki:List ObE:=[⟨some 61,.inr,[.e 3,.c (.int 4)]⟩,
 ⟨some 52,.inr,[.e 53,.c (.int 2)]⟩,
 ⟨some 48,.inr,[.e 3,.c (.int 4)]⟩,
 ⟨some 38,.inr,[.e 39,.c (.int 2)]⟩,
 ⟨some 34,.inr,[.e 3,.c (.int 4)]⟩]
def gM:List Rf:=[.e 0,.c (.int 0),.e 74,.c (.int (-1)),.c (.int (-1)),.e 5,.e 6,.e 7,.e 8,.e 9,.e 10,.e 11,.e 12,.c (.bool false),.c (.bool false),.c (.bool false),.c (.bool false),.e 17,.e 18,.e 71,.e 72,.c (.bool false),.e 22,.c (.int 0),.e 73,.e 25]
theorem lC:Ib.sees gM (Ib.run Try.prog [] Ba 3000 20 54)=some ((Xb).map En.be,ki.map ObE.be,[]):=by kernel_rfl
theorem ku {T:Tab}(g:Gm)(hg:g=gT T 0)(pre0:0≤I T 0∧I T 0≤3∧I T 26=AX (I T 0)∧I T 27=Ac (I T 0)∧I T 28=Ab (I T 0)∧B T 29=Aw (I T 0)∧B T 30=Ao (I T 0)∧B T 31=BI (I T 0))(pre1:((I T 3)= -1∨(0≤I T 3∧I T 3≤3))∧0≤I T 2∧I T 2≤1∧0≤I T 23)(A0:AK T Xb):
  ((I T 0)=((AW g).code))∧
  (0=((AW g).phase))∧
  ((I T 74)=((AW g).side))∧
  ((-1)=((AW g).ball))∧
  ((-1)=((AW g).taken))∧
  ((I T 5)=((AW g).p0))∧
  ((I T 6)=((AW g).p1))∧
  ((I T 7)=((AW g).p2))∧
  ((I T 8)=((AW g).p3))∧
  ((B T 9)=((AW g).n0))∧
  ((B T 10)=((AW g).n1))∧
  ((B T 11)=((AW g).n2))∧
  ((B T 12)=((AW g).n3))∧
  (false=((AW g).d0))∧
  (false=((AW g).d1))∧
  (false=((AW g).d2))∧
  (false=((AW g).d3))∧
  ((I T 17)=((AW g).h0))∧
  ((I T 18)=((AW g).h1))∧
  ((B T 71)=((AW g).l0))∧
  ((B T 72)=((AW g).l1))∧
  (false=((AW g).half))∧
  ((I T 22)=((AW g).turns))∧
  (0=((AW g).began))∧
  ((I T 73)=((AW g).lastb))∧
  ((I T 25)=((AW g).winner))∧
  (B T 61=true→0≤I T 3∧I T 3 < 4)∧
  (B T 52=true→0≤I T 53∧I T 53 < 2)∧
  (B T 48=true→0≤I T 3∧I T 3 < 4)∧
  (B T 38=true→0≤I T 39∧I T 39 < 2)∧
  (B T 34=true→0≤I T 3∧I T 3 < 4):=by
 obtain⟨F0,A0⟩:=A0.cut
 obtain⟨F1,A0⟩:=A0.cut
 have F2:=A0;clear A0
 obtain⟨z0,z1,z2,z3,z4,z5,z6,z7⟩:=pre0
 refine⟨?_,?_,?_,?_,?_,?_,?_,?_,?_,?_,?_,?_,?_,?_,?_,?_,?_,?_,?_,?_,?_,?_,?_,?_,?_,?_,?_,?_,?_,?_,?_⟩
 ·first|(subst hg;rfl)|(subst hg;(try simp only[AW,BJ,A9,AJ,inS,AS,AY,zB])<;>grind (splits:=100) [Ac,Ab])
 ·first|(subst hg;rfl)|(subst hg;(try simp only[AW,BJ,A9,AJ,inS,AS,AY,zB])<;>grind (splits:=100) [Ac,Ab])
 ·obtain⟨-,-,-,-,-,-,-,-,-,-,e74,-⟩:=F2
  simp only[AA,zR,w2P] at e74
  subst hg
  (try simp only[AW,BJ,A9,AJ,inS,AS,AY,zB])<;>grind (splits:=100) [Ac,Ab]
 ·first|(subst hg;rfl)|(subst hg;(try simp only[AW,BJ,A9,AJ,inS,AS,AY,zB])<;>grind (splits:=100) [Ac,Ab])
 ·first|(subst hg;rfl)|(subst hg;(try simp only[AW,BJ,A9,AJ,inS,AS,AY,zB])<;>grind (splits:=100) [Ac,Ab])
 ·first|(subst hg;rfl)|(subst hg;(try simp only[AW,BJ,A9,AJ,inS,AS,AY,zB])<;>grind (splits:=100) [Ac,Ab])
 ·first|(subst hg;rfl)|(subst hg;(try simp only[AW,BJ,A9,AJ,inS,AS,AY,zB])<;>grind (splits:=100) [Ac,Ab])
 ·first|(subst hg;rfl)|(subst hg;(try simp only[AW,BJ,A9,AJ,inS,AS,AY,zB])<;>grind (splits:=100) [Ac,Ab])
 ·first|(subst hg;rfl)|(subst hg;(try simp only[AW,BJ,A9,AJ,inS,AS,AY,zB])<;>grind (splits:=100) [Ac,Ab])
 ·first|(subst hg;rfl)|(subst hg;refine AU ?_;(try simp only[AW,BJ,A9,AJ,inS,AS,AY,zB])<;>grind (splits:=100) [Ac,Ab])
 ·first|(subst hg;rfl)|(subst hg;refine AU ?_;(try simp only[AW,BJ,A9,AJ,inS,AS,AY,zB])<;>grind (splits:=100) [Ac,Ab])
 ·first|(subst hg;rfl)|(subst hg;refine AU ?_;(try simp only[AW,BJ,A9,AJ,inS,AS,AY,zB])<;>grind (splits:=100) [Ac,Ab])
 ·first|(subst hg;rfl)|(subst hg;refine AU ?_;(try simp only[AW,BJ,A9,AJ,inS,AS,AY,zB])<;>grind (splits:=100) [Ac,Ab])
 ·first|(subst hg;rfl)|(subst hg;refine AU ?_;(try simp only[AW,BJ,A9,AJ,inS,AS,AY,zB])<;>grind (splits:=100) [Ac,Ab])
 ·first|(subst hg;rfl)|(subst hg;refine AU ?_;(try simp only[AW,BJ,A9,AJ,inS,AS,AY,zB])<;>grind (splits:=100) [Ac,Ab])
 ·first|(subst hg;rfl)|(subst hg;refine AU ?_;(try simp only[AW,BJ,A9,AJ,inS,AS,AY,zB])<;>grind (splits:=100) [Ac,Ab])
 ·first|(subst hg;rfl)|(subst hg;refine AU ?_;(try simp only[AW,BJ,A9,AJ,inS,AS,AY,zB])<;>grind (splits:=100) [Ac,Ab])
 ·first|(subst hg;rfl)|(subst hg;(try simp only[AW,BJ,A9,AJ,inS,AS,AY,zB])<;>grind (splits:=100) [Ac,Ab])
 ·first|(subst hg;rfl)|(subst hg;(try simp only[AW,BJ,A9,AJ,inS,AS,AY,zB])<;>grind (splits:=100) [Ac,Ab])
 ·obtain⟨e32,e33,-,e35,e36,e37,-,e39,e40,e41,-,-,-,e45,-,e47,-⟩:=F0
  obtain⟨-,e49,e50,e51,-,e53,e54,e55,-,-,-,e59,-⟩:=F1
  obtain⟨-,-,-,-,-,-,-,e71,-⟩:=F2
  simp only[AA,AD,zC,zR,AN,AM,and_false,or_false,w2P,zL] at*
  subst hg
  refine AU ?_
  (try simp only[AW,BJ,A9,AJ,inS,AS,AY,zB])<;>(try constructor)<;>grind (splits:=100) [Ac,Ab]
 ·obtain⟨e32,e33,-,e35,e36,e37,-,e39,-,-,e42,e43,-,-,e46,e47,-⟩:=F0
  obtain⟨-,e49,e50,e51,-,e53,-,-,e56,e57,-,-,e60,-⟩:=F1
  obtain⟨-,-,-,-,-,-,-,-,e72,-⟩:=F2
  simp only[AA,AD,zC,zR,AN,AM,and_false,or_false,w2P,zL] at*
  subst hg
  refine AU ?_
  (try simp only[AW,BJ,A9,AJ,inS,AS,AY,zB])<;>(try constructor)<;>grind (splits:=100) [Ac,Ab]
 ·first|(subst hg;rfl)|(subst hg;refine AU ?_;(try simp only[AW,BJ,A9,AJ,inS,AS,AY,zB])<;>grind (splits:=100) [Ac,Ab])
 ·first|(subst hg;rfl)|(subst hg;(try simp only[AW,BJ,A9,AJ,inS,AS,AY,zB])<;>grind (splits:=100) [Ac,Ab])
 ·first|(subst hg;rfl)|(subst hg;(try simp only[AW,BJ,A9,AJ,inS,AS,AY,zB])<;>grind (splits:=100) [Ac,Ab])
 ·obtain⟨e32,-⟩:=F0
  obtain⟨-,-,-,-,-,-,-,-,-,-,-,-,-,-,e62,e63,-⟩:=F1
  obtain⟨-,e65,e66,-,-,e69,-,-,-,e73,-⟩:=F2
  simp only[AA,AD,zR,AN,AM,and_false,or_false,zL] at*
  subst hg
  (try simp only[AW,BJ,A9,AJ,inS,AS,AY,zB])<;>grind (splits:=100) [Ac,Ab]
 ·first|(subst hg;rfl)|(subst hg;(try simp only[AW,BJ,A9,AJ,inS,AS,AY,zB])<;>grind (splits:=100) [Ac,Ab])
 ·obtain⟨e32,-⟩:=F0
  obtain⟨-,-,-,-,-,-,-,-,-,-,-,-,-,e61,-⟩:=F1
  simp only[AA,AD,zR] at e32 e61
  subst hg
  grind (splits:=100) [Ac,Ab]
 ·obtain⟨e32,-,-,-,-,-,-,-,-,-,-,-,-,-,-,e47,-⟩:=F0
  obtain⟨-,e49,e50,e51,e52,e53,-⟩:=F1
  simp only[AA,AD,zR,AN,AM,and_false,or_false,w2P] at*
  subst hg
  grind (splits:=100) [Ac,Ab]
 ·obtain⟨e32,-,-,-,-,-,-,-,-,-,-,-,-,-,-,e47,-⟩:=F0
  obtain⟨e48,-⟩:=F1
  simp only[AA,AD,zR] at e32 e47 e48
  subst hg
  grind (splits:=100) [Ac,Ab]
 ·obtain⟨e32,e33,-,e35,e36,e37,e38,e39,-⟩:=F0
  simp only[AA,AD,zR,AN,AM,and_false,or_false,w2P] at*
  subst hg
  grind (splits:=100) [Ac,Ab]
 ·obtain⟨e32,e33,e34,-⟩:=F0
  simp only[AA,AD,zR] at e32 e33 e34
  subst hg
  grind (splits:=100) [Ac,Ab]
theorem bo:CA Try.prog 54 Ib:=by
 refine Bu (l:=[]) C6 (by intro p h;exact absurd h (by simp)) lC (by kernel_rfl) fun T us hpre hT hul hS hBd hE=>?_
 change us.length=32 at hul
 clear hBd
 obtain⟨g,hg⟩:∃g:Gm,g=gT T 0:=⟨_,rfl⟩
 have hgu:gAt 0 us=g:=by rw[hg];exact DV hT hul (by decide)
 have ha0:aI us 0=I T 0:=inI hT hul (by decide)
 have ha2:aI us 2=I T 2:=inI hT hul (by decide)
 have ha3:aI us 3=I T 3:=inI hT hul (by decide)
 have ha23:aI us 23=I T 23:=inI hT hul (by decide)
 have ha26:aI us 26=I T 26:=inI hT hul (by decide)
 have ha27:aI us 27=I T 27:=inI hT hul (by decide)
 have ha28:aI us 28=I T 28:=inI hT hul (by decide)
 have ha29:aB us 29=B T 29:=inB hT hul (by decide)
 have ha30:aB us 30=B T 30:=inB hT hul (by decide)
 have ha31:aB us 31=B T 31:=inB hT hul (by decide)
 have pre0:0≤I T 0∧I T 0≤3∧I T 26=AX (I T 0)∧I T 27=Ac (I T 0)∧I T 28=Ab (I T 0)∧B T 29=Aw (I T 0)∧B T 30=Ao (I T 0)∧B T 31=BI (I T 0):=by
  have h:=hpre (.s "gend.p0",Gg) (by simp[Ib])
  change Gg us at h
  unfold Gg at h
  simp only[ha0,ha26,ha27,ha28,ha29,ha30,ha31] at h
  exact h
 have pre1:((I T 3)= -1∨(0≤I T 3∧I T 3≤3))∧0≤I T 2∧I T 2≤1∧0≤I T 23:=by
  have h:=hpre (.s "gend.p1",Fh) (by simp[Ib])
  change Fh us at h
  unfold Fh at h
  simp only[ha2,ha23,ha3] at h
  exact h
 clear hpre
 skip
 obtain⟨A0,hO⟩:=CK (tys:=[.i,.i,.i,.i,.i,.i,.i,.i,.i,.b,.b,.b,.b,.b,.b,.b,.b,.i,.i,.b,.b,.b,.i,.i,.i,.i]) (rs:=gM) hS (by kernel_rfl) hE
 obtain⟨q0,q1,q2,q3,q4,q5,q6,q7,q8,q9,q10,q11,q12,q13,q14,q15,q16,q17,q18,q19,q20,q21,q22,q23,q24,q25,r0,r1,r2,r3,r4⟩:=ku g hg pre0 pre1 A0
 refine⟨⟨r0,r1,r2,r3,r4,trivial⟩,hO.trans ?_⟩
 exact (lc (by show U.int (I T 0)= .int (Hm us);unfold Hm Ar;rw[hgu];exact congrArg U.int q0) (lc (by show U.int 0= .int (Hy us);unfold Hy Ar;rw[hgu];exact congrArg U.int q1) (lc (by show U.int (I T 74)= .int (Hj us);unfold Hj Ar;rw[hgu];exact congrArg U.int q2) (lc (by show U.int (-1)= .int (Hr us);unfold Hr Ar;rw[hgu];exact congrArg U.int q3) (lc (by show U.int (-1)= .int (Hq us);unfold Hq Ar;rw[hgu];exact congrArg U.int q4) (lc (by show U.int (I T 5)= .int (Hx us);unfold Hx Ar;rw[hgu];exact congrArg U.int q5) (lc (by show U.int (I T 6)= .int (Hc us);unfold Hc Ar;rw[hgu];exact congrArg U.int q6) (lc (by show U.int (I T 7)= .int (H4 us);unfold H4 Ar;rw[hgu];exact congrArg U.int q7) (lc (by show U.int (I T 8)= .int (Hz us);unfold Hz Ar;rw[hgu];exact congrArg U.int q8) (lc (by show U.bool (B T 9)= .bool (Hn us);unfold Hn Ar;rw[hgu];exact congrArg U.bool q9) (lc (by show U.bool (B T 10)= .bool (GV us);unfold GV Ar;rw[hgu];exact congrArg U.bool q10) (lc (by show U.bool (B T 11)= .bool (GF us);unfold GF Ar;rw[hgu];exact congrArg U.bool q11) (lc (by show U.bool (B T 12)= .bool (GD us);unfold GD Ar;rw[hgu];exact congrArg U.bool q12) (lc (by show U.bool false= .bool (GI us);unfold GI Ar;rw[hgu];exact congrArg U.bool q13) (lc (by show U.bool false= .bool (GR us);unfold GR Ar;rw[hgu];exact congrArg U.bool q14) (lc (by show U.bool false= .bool (Fo us);unfold Fo Ar;rw[hgu];exact congrArg U.bool q15) (lc (by show U.bool false= .bool (GQ us);unfold GQ Ar;rw[hgu];exact congrArg U.bool q16) (lc (by show U.int (I T 17)= .int (Gb us);unfold Gb Ar;rw[hgu];exact congrArg U.int q17) (lc (by show U.int (I T 18)= .int (GP us);unfold GP Ar;rw[hgu];exact congrArg U.int q18) (lc (by show U.bool (B T 71)= .bool (Fl us);unfold Fl Ar;rw[hgu];exact congrArg U.bool q19) (lc (by show U.bool (B T 72)= .bool (GT us);unfold GT Ar;rw[hgu];exact congrArg U.bool q20) (lc (by show U.bool false= .bool (Fe us);unfold Fe Ar;rw[hgu];exact congrArg U.bool q21) (lc (by show U.int (I T 22)= .int (Fz us);unfold Fz Ar;rw[hgu];exact congrArg U.int q22) (lc (by show U.int 0= .int (GC us);unfold GC Ar;rw[hgu];exact congrArg U.int q23) (lc (by show U.int (I T 73)= .int (Gd us);unfold Gd Ar;rw[hgu];exact congrArg U.int q24) (lc (by show U.int (I T 25)= .int (Fy us);unfold Fy Ar;rw[hgu];exact congrArg U.int q25) rfl))))))))))))))))))))))))))
end Go.Eng
end
