/-
  A part of the proof: K_rNewd K_rNew.
-/
import Derived.Test.YtcinpabggaepfaaXQlRules
import Derived.Test.YtcinpabggaepfaaE3
import Derived.Test.YtcinpabggaepfaaE4
import Derived.Test.YtcinpabggaepfaaKhalves
set_option linter.unusedVariables false
set_option linter.unusedSimpArgs false
noncomputable section
open Go Go.Eng Go.Proofs
set_option maxHeartbeats 4000000
set_option maxRecDepth 100000
namespace Go.Eng
def rL (us:List U):Gm:=mf (aI us 0) (aI us 1) (aI us 2)
def tJ (us:List U):Int:=(rL us).code
def tF (us:List U):Int:=(rL us).phase
def s9 (us:List U):Int:=(rL us).side
def tE (us:List U):Int:=(rL us).ball
def tD (us:List U):Int:=(rL us).taken
def tG (us:List U):Int:=(rL us).p0
def tH (us:List U):Int:=(rL us).p1
def tB (us:List U):Int:=(rL us).p2
def tI (us:List U):Int:=(rL us).p3
def tC (us:List U):Bool:=(rL us).n0
def sX (us:List U):Bool:=(rL us).n1
def su (us:List U):Bool:=(rL us).n2
def sJ (us:List U):Bool:=(rL us).n3
def sK (us:List U):Bool:=(rL us).d0
def sN (us:List U):Bool:=(rL us).d1
def sG (us:List U):Bool:=(rL us).d2
def sg (us:List U):Bool:=(rL us).d3
def sv (us:List U):Int:=(rL us).h0
def sT (us:List U):Int:=(rL us).h1
def sn (us:List U):Bool:=(rL us).l0
def sa (us:List U):Bool:=(rL us).l1
def si (us:List U):Bool:=(rL us).half
def se (us:List U):Int:=(rL us).turns
def sm (us:List U):Int:=(rL us).began
def sS (us:List U):Int:=(rL us).lastb
def sr (us:List U):Int:=(rL us).winner
def sq:List U→Int:=fun us=>(mm (aI us 0) (aI us 1) (aI us 2))
def tK:Bc:={ sh:=[.one (k64),.agg [k64,k64]],blks:=[],outs:=[(.s "rNew.0",AI tJ),(.s "rNew.1",AI tF),(.s "rNew.2",AI s9),(.s "rNew.3",AI tE),(.s "rNew.4",AI tD),(.s "rNew.5",AI tG),(.s "rNew.6",AI tH),(.s "rNew.7",AI tB),(.s "rNew.8",AI tI),(.s "rNew.9",AQ tC),(.s "rNew.10",AQ sX),(.s "rNew.11",AQ su),(.s "rNew.12",AQ sJ),(.s "rNew.13",AQ sK),(.s "rNew.14",AQ sN),(.s "rNew.15",AQ sG),(.s "rNew.16",AQ sg),(.s "rNew.17",AI sv),(.s "rNew.18",AI sT),(.s "rNew.19",AQ sn),(.s "rNew.20",AQ sa),(.s "rNew.21",AQ si),(.s "rNew.22",AI se),(.s "rNew.23",AI sm),(.s "rNew.24",AI sS),(.s "rNew.25",AI sr),(.s "rNew.26",AI sq)],c:= .tup [.agg [(AG 3),(AG 4),(AG 5),(AG 6),(AG 7),(AG 8),(AG 9),(AG 10),(AG 11),.b 12,.b 13,.b 14,.b 15,.b 16,.b 17,.b 18,.b 19,(AG 20),(AG 21),.b 22,.b 23,.b 24,(AG 25),(AG 26),(AG 27),(AG 28)],(AG 29)],m':=[],pre:=[] }
def um:List En:=[⟨3,.lt,[.e 0,.c (.int 0)]⟩,
 ⟨4,.not,[.e 3]⟩,
 ⟨5,.le,[.c (.int 4),.e 0]⟩,
 ⟨6,.or,[.e 3,.e 5]⟩,
 ⟨7,.not,[.e 6]⟩,
 ⟨8,.outB "halves.0" Jb,[.e 0,.e 1,.e 2]⟩,
 ⟨9,.and,[.e 7,.e 8]⟩,
 ⟨10,.and,[.e 7,.n 8]⟩,
 ⟨11,.ite .i,[.e 10,.c (.int 0),.e 0]⟩,
 ⟨12,.ite .i,[.e 10,.c (.int 0),.c (.int (-1))]⟩,
 ⟨13,.ite .i,[.e 10,.c (.int 0),.c (.int (-1))]⟩,
 ⟨14,.ite .i,[.e 10,.c (.int 0),.e 1]⟩,
 ⟨15,.ite .i,[.e 10,.c (.int 0),.e 2]⟩,
 ⟨16,.ite .i,[.e 10,.c (.int 0),.c (.int (-1))]⟩,
 ⟨17,.ite .i,[.e 10,.c (.int 0),.c (.int (-1))]⟩,
 ⟨18,.ite .i,[.e 10,.c (.int 2),.c (.int 0)]⟩]
def uq:List En:=[⟨19,.or,[.e 10,.e 9]⟩,
 ⟨20,.ite .i,[.e 6,.c (.int 0),.e 11]⟩,
 ⟨21,.ite .i,[.e 6,.c (.int 0),.e 12]⟩,
 ⟨22,.ite .i,[.e 6,.c (.int 0),.e 13]⟩,
 ⟨23,.ite .i,[.e 6,.c (.int 0),.e 14]⟩,
 ⟨24,.ite .i,[.e 6,.c (.int 0),.e 15]⟩,
 ⟨25,.ite .i,[.e 6,.c (.int 0),.e 16]⟩,
 ⟨26,.ite .i,[.e 6,.c (.int 0),.e 17]⟩,
 ⟨27,.ite .i,[.e 6,.c (.int 3),.e 18]⟩,
 ⟨28,.or,[.e 6,.e 19]⟩]
def uG:List En:=um++(uq)
def vq:List ObE:=[]
def ux:List Rf:=[.e 20,.c (.int 0),.c (.int 0),.e 21,.e 22,.c (.int 0),.c (.int 0),.c (.int 0),.c (.int 0),.c (.bool false),.c (.bool false),.c (.bool false),.c (.bool false),.c (.bool false),.c (.bool false),.c (.bool false),.c (.bool false),.e 23,.e 24,.c (.bool false),.c (.bool false),.c (.bool false),.c (.int 0),.c (.int 0),.e 25,.e 26,.e 27]
theorem vt:tK.sees ux (tK.run Try.prog [(44,J3)] Ba 3000 20 28)=some ((uG).map En.be,vq.map ObE.be,[]):=by kernel_rfl
theorem vr {T:Tab}(A0:AK T uG):
  ((I T 20)=(((mf (I T 0) (I T 1) (I T 2))).code))∧
  (0=(((mf (I T 0) (I T 1) (I T 2))).phase))∧
  (0=(((mf (I T 0) (I T 1) (I T 2))).side))∧
  ((I T 21)=(((mf (I T 0) (I T 1) (I T 2))).ball))∧
  ((I T 22)=(((mf (I T 0) (I T 1) (I T 2))).taken))∧
  (0=(((mf (I T 0) (I T 1) (I T 2))).p0))∧
  (0=(((mf (I T 0) (I T 1) (I T 2))).p1))∧
  (0=(((mf (I T 0) (I T 1) (I T 2))).p2))∧
  (0=(((mf (I T 0) (I T 1) (I T 2))).p3))∧
  (false=(((mf (I T 0) (I T 1) (I T 2))).n0))∧
  (false=(((mf (I T 0) (I T 1) (I T 2))).n1))∧
  (false=(((mf (I T 0) (I T 1) (I T 2))).n2))∧
  (false=(((mf (I T 0) (I T 1) (I T 2))).n3))∧
  (false=(((mf (I T 0) (I T 1) (I T 2))).d0))∧
  (false=(((mf (I T 0) (I T 1) (I T 2))).d1))∧
  (false=(((mf (I T 0) (I T 1) (I T 2))).d2))∧
  (false=(((mf (I T 0) (I T 1) (I T 2))).d3))∧
  ((I T 23)=(((mf (I T 0) (I T 1) (I T 2))).h0))∧
  ((I T 24)=(((mf (I T 0) (I T 1) (I T 2))).h1))∧
  (false=(((mf (I T 0) (I T 1) (I T 2))).l0))∧
  (false=(((mf (I T 0) (I T 1) (I T 2))).l1))∧
  (false=(((mf (I T 0) (I T 1) (I T 2))).half))∧
  (0=(((mf (I T 0) (I T 1) (I T 2))).turns))∧
  (0=(((mf (I T 0) (I T 1) (I T 2))).began))∧
  ((I T 25)=(((mf (I T 0) (I T 1) (I T 2))).lastb))∧
  ((I T 26)=(((mf (I T 0) (I T 1) (I T 2))).winner))∧
  ((I T 27)=(mm (I T 0) (I T 1) (I T 2))):=by
 obtain⟨F0,A0⟩:=A0.cut
 have F1:=A0;clear A0
 refine⟨?_,?_,?_,?_,?_,?_,?_,?_,?_,?_,?_,?_,?_,?_,?_,?_,?_,?_,?_,?_,?_,?_,?_,?_,?_,?_,?_⟩
 ·obtain⟨e3,-,e5,e6,e7,e8,-,e10,e11,-⟩:=F0
  obtain⟨-,e20,-⟩:=F1
  replace e8:B T 8=(DD (I T 0) (I T 1) (I T 2)):=e8
  simp only[AA,AD,zN,zR,zL] at*
  (try simp only[mf,mm,Jm,mj,zB])<;>grind (splits:=100)
 ·first|(rfl)|((try simp only[mf,mm,Jm,mj,zB])<;>grind (splits:=100))
 ·first|(rfl)|((try simp only[mf,mm,Jm,mj,zB])<;>grind (splits:=100))
 ·obtain⟨e3,-,e5,e6,e7,e8,-,e10,-,e12,-⟩:=F0
  obtain⟨-,-,e21,-⟩:=F1
  replace e8:B T 8=(DD (I T 0) (I T 1) (I T 2)):=e8
  simp only[AA,AD,zN,zR,zL] at*
  (try simp only[mf,mm,Jm,mj,zB])<;>grind (splits:=100)
 ·obtain⟨e3,-,e5,e6,e7,e8,-,e10,-,-,e13,-⟩:=F0
  obtain⟨-,-,-,e22,-⟩:=F1
  replace e8:B T 8=(DD (I T 0) (I T 1) (I T 2)):=e8
  simp only[AA,AD,zN,zR,zL] at*
  (try simp only[mf,mm,Jm,mj,zB])<;>grind (splits:=100)
 ·first|(rfl)|((try simp only[mf,mm,Jm,mj,zB])<;>grind (splits:=100))
 ·first|(rfl)|((try simp only[mf,mm,Jm,mj,zB])<;>grind (splits:=100))
 ·first|(rfl)|((try simp only[mf,mm,Jm,mj,zB])<;>grind (splits:=100))
 ·first|(rfl)|((try simp only[mf,mm,Jm,mj,zB])<;>grind (splits:=100))
 ·first|(rfl)|(refine AU ?_;(try simp only[mf,mm,Jm,mj,zB])<;>grind (splits:=100))
 ·first|(rfl)|(refine AU ?_;(try simp only[mf,mm,Jm,mj,zB])<;>grind (splits:=100))
 ·first|(rfl)|(refine AU ?_;(try simp only[mf,mm,Jm,mj,zB])<;>grind (splits:=100))
 ·first|(rfl)|(refine AU ?_;(try simp only[mf,mm,Jm,mj,zB])<;>grind (splits:=100))
 ·first|(rfl)|(refine AU ?_;(try simp only[mf,mm,Jm,mj,zB])<;>grind (splits:=100))
 ·first|(rfl)|(refine AU ?_;(try simp only[mf,mm,Jm,mj,zB])<;>grind (splits:=100))
 ·first|(rfl)|(refine AU ?_;(try simp only[mf,mm,Jm,mj,zB])<;>grind (splits:=100))
 ·first|(rfl)|(refine AU ?_;(try simp only[mf,mm,Jm,mj,zB])<;>grind (splits:=100))
 ·obtain⟨e3,-,e5,e6,e7,e8,-,e10,-,-,-,e14,-⟩:=F0
  obtain⟨-,-,-,-,e23,-⟩:=F1
  replace e8:B T 8=(DD (I T 0) (I T 1) (I T 2)):=e8
  simp only[AA,AD,zN,zR,zL] at*
  (try simp only[mf,mm,Jm,mj,zB])<;>grind (splits:=100)
 ·obtain⟨e3,-,e5,e6,e7,e8,-,e10,-,-,-,-,e15,-⟩:=F0
  obtain⟨-,-,-,-,-,e24,-⟩:=F1
  replace e8:B T 8=(DD (I T 0) (I T 1) (I T 2)):=e8
  simp only[AA,AD,zN,zR,zL] at*
  (try simp only[mf,mm,Jm,mj,zB])<;>grind (splits:=100)
 ·first|(rfl)|(refine AU ?_;(try simp only[mf,mm,Jm,mj,zB])<;>grind (splits:=100))
 ·first|(rfl)|(refine AU ?_;(try simp only[mf,mm,Jm,mj,zB])<;>grind (splits:=100))
 ·first|(rfl)|(refine AU ?_;(try simp only[mf,mm,Jm,mj,zB])<;>grind (splits:=100))
 ·first|(rfl)|((try simp only[mf,mm,Jm,mj,zB])<;>grind (splits:=100))
 ·first|(rfl)|((try simp only[mf,mm,Jm,mj,zB])<;>grind (splits:=100))
 ·obtain⟨e3,-,e5,e6,e7,e8,-,e10,-,-,-,-,-,e16,-⟩:=F0
  obtain⟨-,-,-,-,-,-,e25,-⟩:=F1
  replace e8:B T 8=(DD (I T 0) (I T 1) (I T 2)):=e8
  simp only[AA,AD,zN,zR,zL] at*
  (try simp only[mf,mm,Jm,mj,zB])<;>grind (splits:=100)
 ·obtain⟨e3,-,e5,e6,e7,e8,-,e10,-,-,-,-,-,-,e17,-⟩:=F0
  obtain⟨-,-,-,-,-,-,-,e26,-⟩:=F1
  replace e8:B T 8=(DD (I T 0) (I T 1) (I T 2)):=e8
  simp only[AA,AD,zN,zR,zL] at*
  (try simp only[mf,mm,Jm,mj,zB])<;>grind (splits:=100)
 ·obtain⟨e3,-,e5,e6,e7,e8,-,e10,-,-,-,-,-,-,-,e18,-⟩:=F0
  obtain⟨-,-,-,-,-,-,-,-,e27,-⟩:=F1
  replace e8:B T 8=(DD (I T 0) (I T 1) (I T 2)):=e8
  simp only[AA,AD,zN,zR,zL] at*
  (try simp only[mf,mm,Jm,mj,zB])<;>grind (splits:=100)
theorem vY:CA Try.prog 28 tK:=by
 refine Bu (l:=[(44,J3)]) C6 (by simp only[List.forall_mem_cons];exact⟨fz,fun _ h=>absurd h (by simp)⟩) vt (by kernel_rfl) fun T us hpre hT hul hS hBd hE=>?_
 change us.length=3 at hul
 clear hBd
 have ha0:aI us 0=I T 0:=inI hT hul (by decide)
 have ha1:aI us 1=I T 1:=inI hT hul (by decide)
 have ha2:aI us 2=I T 2:=inI hT hul (by decide)
 clear hpre
 skip
 obtain⟨A0,hO⟩:=CK (tys:=[.i,.i,.i,.i,.i,.i,.i,.i,.i,.b,.b,.b,.b,.b,.b,.b,.b,.i,.i,.b,.b,.b,.i,.i,.i,.i,.i]) (rs:=ux) hS (by kernel_rfl) hE
 obtain⟨q0,q1,q2,q3,q4,q5,q6,q7,q8,q9,q10,q11,q12,q13,q14,q15,q16,q17,q18,q19,q20,q21,q22,q23,q24,q25,q26⟩:=vr A0
 refine⟨trivial,hO.trans ?_⟩
 exact (lc (by show U.int (I T 20)= .int (tJ us);unfold tJ rL;rw[ha0,ha1,ha2];exact congrArg U.int q0) (lc (by show U.int 0= .int (tF us);unfold tF rL;rw[ha0,ha1,ha2];exact congrArg U.int q1) (lc (by show U.int 0= .int (s9 us);unfold s9 rL;rw[ha0,ha1,ha2];exact congrArg U.int q2) (lc (by show U.int (I T 21)= .int (tE us);unfold tE rL;rw[ha0,ha1,ha2];exact congrArg U.int q3) (lc (by show U.int (I T 22)= .int (tD us);unfold tD rL;rw[ha0,ha1,ha2];exact congrArg U.int q4) (lc (by show U.int 0= .int (tG us);unfold tG rL;rw[ha0,ha1,ha2];exact congrArg U.int q5) (lc (by show U.int 0= .int (tH us);unfold tH rL;rw[ha0,ha1,ha2];exact congrArg U.int q6) (lc (by show U.int 0= .int (tB us);unfold tB rL;rw[ha0,ha1,ha2];exact congrArg U.int q7) (lc (by show U.int 0= .int (tI us);unfold tI rL;rw[ha0,ha1,ha2];exact congrArg U.int q8) (lc (by show U.bool false= .bool (tC us);unfold tC rL;rw[ha0,ha1,ha2];exact congrArg U.bool q9) (lc (by show U.bool false= .bool (sX us);unfold sX rL;rw[ha0,ha1,ha2];exact congrArg U.bool q10) (lc (by show U.bool false= .bool (su us);unfold su rL;rw[ha0,ha1,ha2];exact congrArg U.bool q11) (lc (by show U.bool false= .bool (sJ us);unfold sJ rL;rw[ha0,ha1,ha2];exact congrArg U.bool q12) (lc (by show U.bool false= .bool (sK us);unfold sK rL;rw[ha0,ha1,ha2];exact congrArg U.bool q13) (lc (by show U.bool false= .bool (sN us);unfold sN rL;rw[ha0,ha1,ha2];exact congrArg U.bool q14) (lc (by show U.bool false= .bool (sG us);unfold sG rL;rw[ha0,ha1,ha2];exact congrArg U.bool q15) (lc (by show U.bool false= .bool (sg us);unfold sg rL;rw[ha0,ha1,ha2];exact congrArg U.bool q16) (lc (by show U.int (I T 23)= .int (sv us);unfold sv rL;rw[ha0,ha1,ha2];exact congrArg U.int q17) (lc (by show U.int (I T 24)= .int (sT us);unfold sT rL;rw[ha0,ha1,ha2];exact congrArg U.int q18) (lc (by show U.bool false= .bool (sn us);unfold sn rL;rw[ha0,ha1,ha2];exact congrArg U.bool q19) (lc (by show U.bool false= .bool (sa us);unfold sa rL;rw[ha0,ha1,ha2];exact congrArg U.bool q20) (lc (by show U.bool false= .bool (si us);unfold si rL;rw[ha0,ha1,ha2];exact congrArg U.bool q21) (lc (by show U.int 0= .int (se us);unfold se rL;rw[ha0,ha1,ha2];exact congrArg U.int q22) (lc (by show U.int 0= .int (sm us);unfold sm rL;rw[ha0,ha1,ha2];exact congrArg U.int q23) (lc (by show U.int (I T 25)= .int (sS us);unfold sS rL;rw[ha0,ha1,ha2];exact congrArg U.int q24) (lc (by show U.int (I T 26)= .int (sr us);unfold sr rL;rw[ha0,ha1,ha2];exact congrArg U.int q25) (lc (by show U.int (I T 27)= .int (sq us);unfold sq;rw[ha0,ha1,ha2];exact congrArg U.int q26) rfl)))))))))))))))))))))))))))
end Go.Eng
end
