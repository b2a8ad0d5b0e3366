/-
  A part of the proof: K_rendd K_rend.
-/
import Derived.Test.YtcinpabggaepfaaE3
import Derived.Test.YtcinpabggaepfaaE4
import Derived.Test.YtcinpabggaepfaaKlaws
set_option linter.unusedVariables false
set_option linter.unusedSimpArgs false
noncomputable section
open Go Go.Eng Go.Proofs
set_option maxHeartbeats 4000000
set_option maxRecDepth 100000
namespace Go.Eng
def As (us:List U):Gm:=AW (gAt 0 us)
def HZ (us:List U):Int:=(As us).code
def Hk (us:List U):Int:=(As us).phase
def Hf (us:List U):Int:=(As us).side
def Hd (us:List U):Int:=(As us).ball
def Hl (us:List U):Int:=(As us).taken
def Hi (us:List U):Int:=(As us).p0
def Hb (us:List U):Int:=(As us).p1
def He (us:List U):Int:=(As us).p2
def Hh (us:List U):Int:=(As us).p3
def Hs (us:List U):Bool:=(As us).n0
def GU (us:List U):Bool:=(As us).n1
def GA (us:List U):Bool:=(As us).n2
def Gf (us:List U):Bool:=(As us).n3
def Fu (us:List U):Bool:=(As us).d0
def GW (us:List U):Bool:=(As us).d1
def Fw (us:List U):Bool:=(As us).d2
def Gi (us:List U):Bool:=(As us).d3
def Fk (us:List U):Int:=(As us).h0
def GB (us:List U):Int:=(As us).h1
def GM (us:List U):Bool:=(As us).l0
def Fi (us:List U):Bool:=(As us).l1
def Fm (us:List U):Bool:=(As us).half
def GX (us:List U):Int:=(As us).turns
def GY (us:List U):Int:=(As us).began
def GJ (us:List U):Int:=(As us).lastb
def Fq (us:List U):Int:=(As us).winner
def Ft:List U→Prop:=fun us=>((aI us 3)= -1∨(0≤(aI us 3)∧(aI us 3)≤3))∧0≤(aI us 2)∧(aI us 2)≤1∧0≤(aI us 23)
def JS:Bc:={ sh:=[.agg [k64,k64,k64,k64,k64,k64,k64,k64,k64,.bool,.bool,.bool,.bool,.bool,.bool,.bool,.bool,k64,k64,.bool,.bool,.bool,k64,k64,k64,k64]],blks:=[],outs:=[(.s "rend.0",AI HZ),(.s "rend.1",AI Hk),(.s "rend.2",AI Hf),(.s "rend.3",AI Hd),(.s "rend.4",AI Hl),(.s "rend.5",AI Hi),(.s "rend.6",AI Hb),(.s "rend.7",AI He),(.s "rend.8",AI Hh),(.s "rend.9",AQ Hs),(.s "rend.10",AQ GU),(.s "rend.11",AQ GA),(.s "rend.12",AQ Gf),(.s "rend.13",AQ Fu),(.s "rend.14",AQ GW),(.s "rend.15",AQ Fw),(.s "rend.16",AQ Gi),(.s "rend.17",AI Fk),(.s "rend.18",AI GB),(.s "rend.19",AQ GM),(.s "rend.20",AQ Fi),(.s "rend.21",AQ Fm),(.s "rend.22",AI GX),(.s "rend.23",AI GY),(.s "rend.24",AI GJ),(.s "rend.25",AI Fq)],c:= .agg [(AG 26),(AG 27),(AG 28),(AG 29),(AG 30),(AG 31),(AG 32),(AG 33),(AG 34),.b 35,.b 36,.b 37,.b 38,.b 39,.b 40,.b 41,.b 42,(AG 43),(AG 44),.b 45,.b 46,.b 47,(AG 48),(AG 49),(AG 50),(AG 51)],m':=[],pre:=[(.s "rend.p0",Ft)] }
def ct:List En:=[⟨26,.outI "laws.0" El,[.e 0]⟩,
 ⟨27,.outI "laws.1" EV,[.e 0]⟩,
 ⟨28,.outI "laws.2" Ef,[.e 0]⟩,
 ⟨29,.outB "laws.3" EZ,[.e 0]⟩,
 ⟨30,.outB "laws.4" Ed,[.e 0]⟩,
 ⟨31,.outB "laws.5" Eb,[.e 0]⟩,
 ⟨32,.ne,[.e 3,.c (.int (-1))]⟩,
 ⟨33,.lt,[.c (.int 0),.e 27]⟩,
 ⟨34,.and,[.e 32,.e 33]⟩,
 ⟨35,.and,[.e 32,.e 33]⟩,
 ⟨36,.and,[.e 32,.e 33]⟩,
 ⟨37,.lt,[.e 23,.e 27]⟩,
 ⟨38,.and,[.e 33,.e 37]⟩,
 ⟨39,.and,[.e 32,.e 38]⟩,
 ⟨40,.and,[.e 32,.e 38]⟩,
 ⟨41,.pick .i,[.e 3,.e 5,.e 6,.e 7,.e 8]⟩]
def cw:List En:=[⟨42,.and,[.e 32,.e 38]⟩,
 ⟨43,.and,[.e 32,.e 38]⟩,
 ⟨44,.le,[.e 27,.e 41]⟩,
 ⟨45,.and,[.e 38,.e 44]⟩,
 ⟨46,.and,[.e 32,.e 45]⟩,
 ⟨47,.w2 .i64 .sub,[.c (.int 1),.e 2]⟩,
 ⟨48,.eq,[.e 47,.c (.int 0)]⟩,
 ⟨49,.ite .b,[.e 48,.c (.bool true),.e 19]⟩,
 ⟨50,.eq,[.e 47,.c (.int 1)]⟩,
 ⟨51,.ite .b,[.e 50,.c (.bool true),.e 20]⟩,
 ⟨52,.and,[.e 32,.n 45]⟩,
 ⟨53,.ite .b,[.e 45,.e 49,.e 19]⟩,
 ⟨54,.ite .b,[.e 45,.e 51,.e 20]⟩,
 ⟨55,.lt,[.c (.int 0),.e 28]⟩,
 ⟨56,.and,[.e 32,.e 55]⟩,
 ⟨57,.and,[.e 32,.e 55]⟩]
def dW:List En:=[⟨58,.and,[.e 32,.e 55]⟩,
 ⟨59,.lt,[.e 23,.e 28]⟩,
 ⟨60,.and,[.e 55,.e 59]⟩,
 ⟨61,.and,[.e 32,.e 60]⟩,
 ⟨62,.and,[.e 32,.e 60]⟩,
 ⟨63,.pick .i,[.e 3,.e 5,.e 6,.e 7,.e 8]⟩,
 ⟨64,.and,[.e 32,.e 60]⟩,
 ⟨65,.and,[.e 32,.e 60]⟩,
 ⟨66,.le,[.e 28,.e 63]⟩,
 ⟨67,.and,[.e 60,.e 66]⟩,
 ⟨68,.and,[.e 32,.e 67]⟩,
 ⟨69,.w2 .i64 .sub,[.c (.int 1),.e 2]⟩,
 ⟨70,.eq,[.e 69,.c (.int 0)]⟩,
 ⟨71,.ite .b,[.e 70,.c (.bool true),.e 53]⟩,
 ⟨72,.eq,[.e 69,.c (.int 1)]⟩,
 ⟨73,.ite .b,[.e 72,.c (.bool true),.e 54]⟩]
def co:List En:=[⟨74,.and,[.e 32,.n 67]⟩,
 ⟨75,.ite .b,[.e 67,.e 71,.e 53]⟩,
 ⟨76,.ite .b,[.e 67,.e 73,.e 54]⟩,
 ⟨77,.and,[.e 32,.e 30]⟩,
 ⟨78,.pick .b,[.e 3,.e 9,.e 10,.e 11,.e 12]⟩,
 ⟨79,.and,[.e 30,.e 78]⟩,
 ⟨80,.and,[.e 32,.e 79]⟩,
 ⟨81,.le,[.c (.int 4),.e 22]⟩,
 ⟨82,.and,[.e 79,.e 81]⟩,
 ⟨83,.and,[.e 32,.e 82]⟩,
 ⟨84,.and,[.e 32,.n 82]⟩,
 ⟨85,.ite .i,[.e 82,.e 3,.c (.int (-1))]⟩,
 ⟨86,.not,[.e 32]⟩,
 ⟨87,.ite .b,[.e 32,.e 75,.e 19]⟩,
 ⟨88,.ite .b,[.e 32,.e 76,.e 20]⟩,
 ⟨89,.ite .i,[.e 32,.e 85,.c (.int (-1))]⟩]
def dL:List En:=[⟨90,.w2 .i64 .sub,[.c (.int 1),.e 2]⟩]
def YD:List En:=ct++(cw++(dW++(co++(dL))))
def lN:List ObE:=[⟨some 77,.inr,[.e 3,.c (.int 4)]⟩,
 ⟨some 68,.inr,[.e 69,.c (.int 2)]⟩,
 ⟨some 62,.inr,[.e 3,.c (.int 4)]⟩,
 ⟨some 46,.inr,[.e 47,.c (.int 2)]⟩,
 ⟨some 40,.inr,[.e 3,.c (.int 4)]⟩]
def fj:List Rf:=[.e 0,.c (.int 0),.e 90,.c (.int (-1)),.c (.int (-1)),.e 5,.e 6,.e 7,.e 8,.e 9,.e 10,.e 11,.e 12,.c (.bool false),.c (.bool false),.c (.bool false),.c (.bool false),.e 17,.e 18,.e 87,.e 88,.c (.bool false),.e 22,.c (.int 0),.e 89,.e 25]
theorem kh:JS.sees fj (JS.run Try.prog [(43,De)] Ba 3000 20 62)=some ((YD).map En.be,lN.map ObE.be,[]):=by kernel_rfl
theorem kl {T:Tab}(g:Gm)(hg:g=gT T 0)(pre0:((I T 3)= -1∨(0≤I T 3∧I T 3≤3))∧0≤I T 2∧I T 2≤1∧0≤I T 23)(A0:AK T YD):
  ((I T 0)=((AW g).code))∧
  (0=((AW g).phase))∧
  ((I T 90)=((AW g).side))∧
  ((-1)=((AW g).ball))∧
  ((-1)=((AW g).taken))∧
  ((I T 5)=((AW g).p0))∧
  ((I T 6)=((AW g).p1))∧
  ((I T 7)=((AW g).p2))∧
  ((I T 8)=((AW g).p3))∧
  ((B T 9)=((AW g).n0))∧
  ((B T 10)=((AW g).n1))∧
  ((B T 11)=((AW g).n2))∧
  ((B T 12)=((AW g).n3))∧
  (false=((AW g).d0))∧
  (false=((AW g).d1))∧
  (false=((AW g).d2))∧
  (false=((AW g).d3))∧
  ((I T 17)=((AW g).h0))∧
  ((I T 18)=((AW g).h1))∧
  ((B T 87)=((AW g).l0))∧
  ((B T 88)=((AW g).l1))∧
  (false=((AW g).half))∧
  ((I T 22)=((AW g).turns))∧
  (0=((AW g).began))∧
  ((I T 89)=((AW g).lastb))∧
  ((I T 25)=((AW g).winner))∧
  (B T 77=true→0≤I T 3∧I T 3 < 4)∧
  (B T 68=true→0≤I T 69∧I T 69 < 2)∧
  (B T 62=true→0≤I T 3∧I T 3 < 4)∧
  (B T 46=true→0≤I T 47∧I T 47 < 2)∧
  (B T 40=true→0≤I T 3∧I T 3 < 4):=by
 obtain⟨F0,A0⟩:=A0.cut
 obtain⟨F1,A0⟩:=A0.cut
 obtain⟨F2,A0⟩:=A0.cut
 obtain⟨F3,A0⟩:=A0.cut
 have F4:=A0;clear A0
 refine⟨?_,?_,?_,?_,?_,?_,?_,?_,?_,?_,?_,?_,?_,?_,?_,?_,?_,?_,?_,?_,?_,?_,?_,?_,?_,?_,?_,?_,?_,?_,?_⟩
 ·first|(subst hg;rfl)|(subst hg;(try simp only[AW,BJ,A9,AJ,inS,AS,AY,zB])<;>grind (splits:=100))
 ·first|(subst hg;rfl)|(subst hg;(try simp only[AW,BJ,A9,AJ,inS,AS,AY,zB])<;>grind (splits:=100))
 ·obtain⟨e90,-⟩:=F4
  simp only[AA,zR,w2P] at e90
  subst hg
  (try simp only[AW,BJ,A9,AJ,inS,AS,AY,zB])<;>grind (splits:=100)
 ·first|(subst hg;rfl)|(subst hg;(try simp only[AW,BJ,A9,AJ,inS,AS,AY,zB])<;>grind (splits:=100))
 ·first|(subst hg;rfl)|(subst hg;(try simp only[AW,BJ,A9,AJ,inS,AS,AY,zB])<;>grind (splits:=100))
 ·first|(subst hg;rfl)|(subst hg;(try simp only[AW,BJ,A9,AJ,inS,AS,AY,zB])<;>grind (splits:=100))
 ·first|(subst hg;rfl)|(subst hg;(try simp only[AW,BJ,A9,AJ,inS,AS,AY,zB])<;>grind (splits:=100))
 ·first|(subst hg;rfl)|(subst hg;(try simp only[AW,BJ,A9,AJ,inS,AS,AY,zB])<;>grind (splits:=100))
 ·first|(subst hg;rfl)|(subst hg;(try simp only[AW,BJ,A9,AJ,inS,AS,AY,zB])<;>grind (splits:=100))
 ·first|(subst hg;rfl)|(subst hg;refine AU ?_;(try simp only[AW,BJ,A9,AJ,inS,AS,AY,zB])<;>grind (splits:=100))
 ·first|(subst hg;rfl)|(subst hg;refine AU ?_;(try simp only[AW,BJ,A9,AJ,inS,AS,AY,zB])<;>grind (splits:=100))
 ·first|(subst hg;rfl)|(subst hg;refine AU ?_;(try simp only[AW,BJ,A9,AJ,inS,AS,AY,zB])<;>grind (splits:=100))
 ·first|(subst hg;rfl)|(subst hg;refine AU ?_;(try simp only[AW,BJ,A9,AJ,inS,AS,AY,zB])<;>grind (splits:=100))
 ·first|(subst hg;rfl)|(subst hg;refine AU ?_;(try simp only[AW,BJ,A9,AJ,inS,AS,AY,zB])<;>grind (splits:=100))
 ·first|(subst hg;rfl)|(subst hg;refine AU ?_;(try simp only[AW,BJ,A9,AJ,inS,AS,AY,zB])<;>grind (splits:=100))
 ·first|(subst hg;rfl)|(subst hg;refine AU ?_;(try simp only[AW,BJ,A9,AJ,inS,AS,AY,zB])<;>grind (splits:=100))
 ·first|(subst hg;rfl)|(subst hg;refine AU ?_;(try simp only[AW,BJ,A9,AJ,inS,AS,AY,zB])<;>grind (splits:=100))
 ·first|(subst hg;rfl)|(subst hg;(try simp only[AW,BJ,A9,AJ,inS,AS,AY,zB])<;>grind (splits:=100))
 ·first|(subst hg;rfl)|(subst hg;(try simp only[AW,BJ,A9,AJ,inS,AS,AY,zB])<;>grind (splits:=100))
 ·obtain⟨-,e27,e28,-,-,-,e32,e33,-,-,-,e37,e38,-,-,e41,-⟩:=F0
  obtain⟨-,-,e44,e45,-,e47,e48,e49,-,-,-,e53,-,e55,-⟩:=F1
  obtain⟨-,e59,e60,-,-,e63,-,-,e66,e67,-,e69,e70,e71,-⟩:=F2
  obtain⟨-,e75,-,-,-,-,-,-,-,-,-,-,-,e87,-⟩:=F3
  replace e27:I T 27=(Ac (I T 0)):=e27
  replace e28:I T 28=(Ab (I T 0)):=e28
  simp only[AA,AD,zC,zR,AN,AM,and_false,or_false,w2P,zL] at*
  subst hg
  refine AU ?_
  (try simp only[AW,BJ,A9,AJ,inS,AS,AY,zB])<;>(try constructor)<;>grind (splits:=100)
 ·obtain⟨-,e27,e28,-,-,-,e32,e33,-,-,-,e37,e38,-,-,e41,-⟩:=F0
  obtain⟨-,-,e44,e45,-,e47,-,-,e50,e51,-,-,e54,e55,-⟩:=F1
  obtain⟨-,e59,e60,-,-,e63,-,-,e66,e67,-,e69,-,-,e72,e73,-⟩:=F2
  obtain⟨-,-,e76,-,-,-,-,-,-,-,-,-,-,-,e88,-⟩:=F3
  replace e27:I T 27=(Ac (I T 0)):=e27
  replace e28:I T 28=(Ab (I T 0)):=e28
  simp only[AA,AD,zC,zR,AN,AM,and_false,or_false,w2P,zL] at*
  subst hg
  refine AU ?_
  (try simp only[AW,BJ,A9,AJ,inS,AS,AY,zB])<;>(try constructor)<;>grind (splits:=100)
 ·first|(subst hg;rfl)|(subst hg;refine AU ?_;(try simp only[AW,BJ,A9,AJ,inS,AS,AY,zB])<;>grind (splits:=100))
 ·first|(subst hg;rfl)|(subst hg;(try simp only[AW,BJ,A9,AJ,inS,AS,AY,zB])<;>grind (splits:=100))
 ·first|(subst hg;rfl)|(subst hg;(try simp only[AW,BJ,A9,AJ,inS,AS,AY,zB])<;>grind (splits:=100))
 ·obtain⟨-,-,-,-,e30,-,e32,-⟩:=F0
  obtain⟨-,-,-,-,e78,e79,-,e81,e82,-,-,e85,-,-,-,e89,-⟩:=F3
  replace e30:B T 30=(Ao (I T 0)):=e30
  simp only[AA,AD,zR,AN,AM,and_false,or_false,zL] at*
  subst hg
  (try simp only[AW,BJ,A9,AJ,inS,AS,AY,zB])<;>grind (splits:=100)
 ·first|(subst hg;rfl)|(subst hg;(try simp only[AW,BJ,A9,AJ,inS,AS,AY,zB])<;>grind (splits:=100))
 ·obtain⟨-,-,-,-,e30,-,e32,-⟩:=F0
  obtain⟨-,-,-,e77,-⟩:=F3
  replace e30:B T 30=(Ao (I T 0)):=e30
  simp only[AA,AD,zR] at e32 e77
  grind (splits:=100)
 ·obtain⟨-,-,e28,-,-,-,e32,-⟩:=F0
  obtain⟨-,-,-,-,-,-,-,-,-,-,-,-,-,e55,-⟩:=F1
  obtain⟨-,e59,e60,-,-,e63,-,-,e66,e67,e68,e69,-⟩:=F2
  replace e28:I T 28=(Ab (I T 0)):=e28
  simp only[AA,AD,zR,AN,AM,and_false,or_false,w2P] at*
  grind (splits:=100)
 ·obtain⟨-,-,e28,-,-,-,e32,-⟩:=F0
  obtain⟨-,-,-,-,-,-,-,-,-,-,-,-,-,e55,-⟩:=F1
  obtain⟨-,e59,e60,-,e62,-⟩:=F2
  replace e28:I T 28=(Ab (I T 0)):=e28
  simp only[AA,AD,zR] at*
  grind (splits:=100)
 ·obtain⟨-,e27,-,-,-,-,e32,e33,-,-,-,e37,e38,-,-,e41,-⟩:=F0
  obtain⟨-,-,e44,e45,e46,e47,-⟩:=F1
  replace e27:I T 27=(Ac (I T 0)):=e27
  simp only[AA,AD,zR,AN,AM,and_false,or_false,w2P] at*
  grind (splits:=100)
 ·obtain⟨-,e27,-,-,-,-,e32,e33,-,-,-,e37,e38,-,e40,-⟩:=F0
  replace e27:I T 27=(Ac (I T 0)):=e27
  simp only[AA,AD,zR] at*
  grind (splits:=100)
theorem bk:CA Try.prog 62 JS:=by
 refine Bu (l:=[(43,De)]) C6 (by simp only[List.forall_mem_cons];exact⟨Jo,fun _ h=>absurd h (by simp)⟩) kh (by kernel_rfl) fun T us hpre hT hul hS hBd hE=>?_
 change us.length=26 at hul
 clear hBd
 obtain⟨g,hg⟩:∃g:Gm,g=gT T 0:=⟨_,rfl⟩
 have hgu:gAt 0 us=g:=by rw[hg];exact DV hT hul (by decide)
 have ha2:aI us 2=I T 2:=inI hT hul (by decide)
 have ha3:aI us 3=I T 3:=inI hT hul (by decide)
 have ha23:aI us 23=I T 23:=inI hT hul (by decide)
 have pre0:((I T 3)= -1∨(0≤I T 3∧I T 3≤3))∧0≤I T 2∧I T 2≤1∧0≤I T 23:=by
  have h:=hpre (.s "rend.p0",Ft) (by simp[JS])
  change Ft us at h
  unfold Ft at h
  simp only[ha2,ha23,ha3] at h
  exact h
 clear hpre
 skip
 obtain⟨A0,hO⟩:=CK (tys:=[.i,.i,.i,.i,.i,.i,.i,.i,.i,.b,.b,.b,.b,.b,.b,.b,.b,.i,.i,.b,.b,.b,.i,.i,.i,.i]) (rs:=fj) hS (by kernel_rfl) hE
 obtain⟨q0,q1,q2,q3,q4,q5,q6,q7,q8,q9,q10,q11,q12,q13,q14,q15,q16,q17,q18,q19,q20,q21,q22,q23,q24,q25,r0,r1,r2,r3,r4⟩:=kl g hg pre0 A0
 refine⟨⟨r0,r1,r2,r3,r4,trivial⟩,hO.trans ?_⟩
 exact (lc (by show U.int (I T 0)= .int (HZ us);unfold HZ As;rw[hgu];exact congrArg U.int q0) (lc (by show U.int 0= .int (Hk us);unfold Hk As;rw[hgu];exact congrArg U.int q1) (lc (by show U.int (I T 90)= .int (Hf us);unfold Hf As;rw[hgu];exact congrArg U.int q2) (lc (by show U.int (-1)= .int (Hd us);unfold Hd As;rw[hgu];exact congrArg U.int q3) (lc (by show U.int (-1)= .int (Hl us);unfold Hl As;rw[hgu];exact congrArg U.int q4) (lc (by show U.int (I T 5)= .int (Hi us);unfold Hi As;rw[hgu];exact congrArg U.int q5) (lc (by show U.int (I T 6)= .int (Hb us);unfold Hb As;rw[hgu];exact congrArg U.int q6) (lc (by show U.int (I T 7)= .int (He us);unfold He As;rw[hgu];exact congrArg U.int q7) (lc (by show U.int (I T 8)= .int (Hh us);unfold Hh As;rw[hgu];exact congrArg U.int q8) (lc (by show U.bool (B T 9)= .bool (Hs us);unfold Hs As;rw[hgu];exact congrArg U.bool q9) (lc (by show U.bool (B T 10)= .bool (GU us);unfold GU As;rw[hgu];exact congrArg U.bool q10) (lc (by show U.bool (B T 11)= .bool (GA us);unfold GA As;rw[hgu];exact congrArg U.bool q11) (lc (by show U.bool (B T 12)= .bool (Gf us);unfold Gf As;rw[hgu];exact congrArg U.bool q12) (lc (by show U.bool false= .bool (Fu us);unfold Fu As;rw[hgu];exact congrArg U.bool q13) (lc (by show U.bool false= .bool (GW us);unfold GW As;rw[hgu];exact congrArg U.bool q14) (lc (by show U.bool false= .bool (Fw us);unfold Fw As;rw[hgu];exact congrArg U.bool q15) (lc (by show U.bool false= .bool (Gi us);unfold Gi As;rw[hgu];exact congrArg U.bool q16) (lc (by show U.int (I T 17)= .int (Fk us);unfold Fk As;rw[hgu];exact congrArg U.int q17) (lc (by show U.int (I T 18)= .int (GB us);unfold GB As;rw[hgu];exact congrArg U.int q18) (lc (by show U.bool (B T 87)= .bool (GM us);unfold GM As;rw[hgu];exact congrArg U.bool q19) (lc (by show U.bool (B T 88)= .bool (Fi us);unfold Fi As;rw[hgu];exact congrArg U.bool q20) (lc (by show U.bool false= .bool (Fm us);unfold Fm As;rw[hgu];exact congrArg U.bool q21) (lc (by show U.int (I T 22)= .int (GX us);unfold GX As;rw[hgu];exact congrArg U.int q22) (lc (by show U.int 0= .int (GY us);unfold GY As;rw[hgu];exact congrArg U.int q23) (lc (by show U.int (I T 89)= .int (GJ us);unfold GJ As;rw[hgu];exact congrArg U.int q24) (lc (by show U.int (I T 25)= .int (Fq us);unfold Fq As;rw[hgu];exact congrArg U.int q25) rfl))))))))))))))))))))))))))
end Go.Eng
end
