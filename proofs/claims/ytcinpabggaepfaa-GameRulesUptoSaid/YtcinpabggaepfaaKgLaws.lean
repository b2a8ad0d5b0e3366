/-
  A part of the proof: K_gLawsd K_gLaws.
-/
import Derived.Test.YtcinpabggaepfaaXQlRules
import Derived.Test.YtcinpabggaepfaaE3
import Derived.Test.YtcinpabggaepfaaE4
set_option linter.unusedVariables false
set_option linter.unusedSimpArgs false
noncomputable section
open Go Go.Eng Go.Proofs
set_option maxHeartbeats 4000000
set_option maxRecDepth 100000
namespace Go.Eng
def sF:List U→Int:=fun us=>((if (0≤(aI us 0)∧(aI us 0)≤3) then AX (aI us 0) else 0))
def sO:List U→Int:=fun us=>((if (0≤(aI us 0)∧(aI us 0)≤3) then Ac (aI us 0) else 0))
def sW:List U→Int:=fun us=>((if (0≤(aI us 0)∧(aI us 0)≤3) then Ab (aI us 0) else 0))
def so:List U→Bool:=fun us=>((decide (0≤(aI us 0)∧(aI us 0)≤3)&&Aw (aI us 0)))
def sd:List U→Bool:=fun us=>((decide (0≤(aI us 0)∧(aI us 0)≤3)&&Ao (aI us 0)))
def ss:List U→Bool:=fun us=>((decide (0≤(aI us 0)∧(aI us 0)≤3)&&BI (aI us 0)))
def sH:List U→Int:=fun us=>((if (0≤(aI us 0)∧(aI us 0)≤3) then 0 else 3))
def sy:Bc:={ sh:=[.one (k64)],blks:=[],outs:=[(.s "gLaws.0",AI sF),(.s "gLaws.1",AI sO),(.s "gLaws.2",AI sW),(.s "gLaws.3",AQ so),(.s "gLaws.4",AQ sd),(.s "gLaws.5",AQ ss),(.s "gLaws.6",AI sH)],c:= .tup [.agg [(AG 1),(AG 2),(AG 3),.b 4,.b 5,.b 6],(AG 7)],m':=[],pre:=[] }
def uY:List En:=[⟨1,.lt,[.e 0,.c (.int 0)]⟩,
 ⟨2,.not,[.e 1]⟩,
 ⟨3,.le,[.c (.int 4),.e 0]⟩,
 ⟨4,.or,[.e 1,.e 3]⟩,
 ⟨5,.not,[.e 4]⟩,
 ⟨6,.pick .i,[.e 0,.c (.int 12),.c (.int 12),.c (.int 6),.c (.int 12)]⟩,
 ⟨7,.pick .i,[.e 0,.c (.int 0),.c (.int 7),.c (.int 0),.c (.int 0)]⟩,
 ⟨8,.pick .i,[.e 0,.c (.int 0),.c (.int 10),.c (.int 0),.c (.int 0)]⟩,
 ⟨9,.pick .b,[.e 0,.c (.bool true),.c (.bool true),.c (.bool true),.c (.bool false)]⟩,
 ⟨10,.pick .b,[.e 0,.c (.bool true),.c (.bool false),.c (.bool true),.c (.bool false)]⟩,
 ⟨11,.pick .b,[.e 0,.c (.bool false),.c (.bool false),.c (.bool false),.c (.bool true)]⟩,
 ⟨12,.ite .i,[.e 4,.c (.int 0),.e 6]⟩,
 ⟨13,.ite .i,[.e 4,.c (.int 0),.e 7]⟩,
 ⟨14,.ite .i,[.e 4,.c (.int 0),.e 8]⟩,
 ⟨15,.ite .b,[.e 4,.c (.bool false),.e 9]⟩,
 ⟨16,.ite .b,[.e 4,.c (.bool false),.e 10]⟩]
def uP:List En:=[⟨17,.ite .b,[.e 4,.c (.bool false),.e 11]⟩,
 ⟨18,.ite .i,[.e 4,.c (.int 3),.c (.int 0)]⟩,
 ⟨19,.or,[.e 4,.e 5]⟩]
def tS:List En:=uY++(uP)
def vj:List ObE:=[⟨some 5,.inr,[.e 0,.c (.int 4)]⟩]
def uk:List Rf:=[.e 12,.e 13,.e 14,.e 15,.e 16,.e 17,.e 18]
theorem vi:sy.sees uk (sy.run Try.prog [] Ba 3000 20 26)=some ((tS).map En.be,vj.map ObE.be,[]):=by kernel_rfl
theorem vk {T:Tab}(A0:AK T tS):
  ((I T 12)=((if (0≤I T 0∧I T 0≤3) then AX (I T 0) else 0)))∧
  ((I T 13)=((if (0≤I T 0∧I T 0≤3) then Ac (I T 0) else 0)))∧
  ((I T 14)=((if (0≤I T 0∧I T 0≤3) then Ab (I T 0) else 0)))∧
  ((B T 15)=((decide (0≤I T 0∧I T 0≤3)&&Aw (I T 0))))∧
  ((B T 16)=((decide (0≤I T 0∧I T 0≤3)&&Ao (I T 0))))∧
  ((B T 17)=((decide (0≤I T 0∧I T 0≤3)&&BI (I T 0))))∧
  ((I T 18)=((if (0≤I T 0∧I T 0≤3) then 0 else 3)))∧
  (B T 5=true→0≤I T 0∧I T 0 < 4):=by
 obtain⟨F0,A0⟩:=A0.cut
 have F1:=A0;clear A0
 refine⟨?_,?_,?_,?_,?_,?_,?_,?_⟩
 ·obtain⟨e1,-,e3,e4,-,e6,-,-,-,-,-,e12,-⟩:=F0
  simp only[AA,AD,zR,AN,AM,and_false,or_false,zL] at*
  (try simp only[AX,Ac,Ab,Aw,Ao,BI,zB])<;>grind (splits:=100)
 ·obtain⟨e1,-,e3,e4,-,-,e7,-,-,-,-,-,e13,-⟩:=F0
  simp only[AA,AD,zR,AN,AM,and_false,or_false,zL] at*
  (try simp only[AX,Ac,Ab,Aw,Ao,BI,zB])<;>grind (splits:=100)
 ·obtain⟨e1,-,e3,e4,-,-,-,e8,-,-,-,-,-,e14,-⟩:=F0
  simp only[AA,AD,zR,AN,AM,and_false,or_false,zL] at*
  (try simp only[AX,Ac,Ab,Aw,Ao,BI,zB])<;>grind (splits:=100)
 ·obtain⟨e1,-,e3,e4,-,-,-,-,e9,-,-,-,-,-,e15,-⟩:=F0
  simp only[AA,AD,zC,zR,AN,AM,and_false,or_false,zL] at*
  refine AU ?_
  (try simp only[AX,Ac,Ab,Aw,Ao,BI,zB])<;>(try constructor)<;>grind (splits:=100)
 ·obtain⟨e1,-,e3,e4,-,-,-,-,-,e10,-,-,-,-,-,e16,-⟩:=F0
  simp only[AA,AD,zC,zR,AN,AM,and_false,or_false,zL] at*
  refine AU ?_
  (try simp only[AX,Ac,Ab,Aw,Ao,BI,zB])<;>(try constructor)<;>grind (splits:=100)
 ·obtain⟨e1,-,e3,e4,-,-,-,-,-,-,e11,-⟩:=F0
  obtain⟨e17,-⟩:=F1
  simp only[AA,AD,zC,zR,AN,AM,and_false,or_false,zL] at*
  refine AU ?_
  (try simp only[AX,Ac,Ab,Aw,Ao,BI,zB])<;>(try constructor)<;>grind (splits:=100)
 ·obtain⟨e1,-,e3,e4,-⟩:=F0
  obtain⟨-,e18,-⟩:=F1
  simp only[AA,AD,zR,zL] at*
  (try simp only[AX,Ac,Ab,Aw,Ao,BI,zB])<;>grind (splits:=100)
 ·obtain⟨e1,-,e3,e4,e5,-⟩:=F0
  simp only[AA,AD,zR] at*
  grind (splits:=100)
theorem vG:CA Try.prog 26 sy:=by
 refine Bu (l:=[]) C6 (by intro p h;exact absurd h (by simp)) vi (by kernel_rfl) fun T us hpre hT hul hS hBd hE=>?_
 change us.length=1 at hul
 clear hBd
 have ha0:aI us 0=I T 0:=inI hT hul (by decide)
 clear hpre
 skip
 obtain⟨A0,hO⟩:=CK (tys:=[.i,.i,.i,.b,.b,.b,.i]) (rs:=uk) hS (by kernel_rfl) hE
 obtain⟨q0,q1,q2,q3,q4,q5,q6,r0⟩:=vk A0
 refine⟨⟨r0,trivial⟩,hO.trans ?_⟩
 exact (lc (by show U.int (I T 12)= .int (sF us);unfold sF;rw[ha0];exact congrArg U.int q0) (lc (by show U.int (I T 13)= .int (sO us);unfold sO;rw[ha0];exact congrArg U.int q1) (lc (by show U.int (I T 14)= .int (sW us);unfold sW;rw[ha0];exact congrArg U.int q2) (lc (by show U.bool (B T 15)= .bool (so us);unfold so;rw[ha0];exact congrArg U.bool q3) (lc (by show U.bool (B T 16)= .bool (sd us);unfold sd;rw[ha0];exact congrArg U.bool q4) (lc (by show U.bool (B T 17)= .bool (ss us);unfold ss;rw[ha0];exact congrArg U.bool q5) (lc (by show U.int (I T 18)= .int (sH us);unfold sH;rw[ha0];exact congrArg U.int q6) rfl)))))))
end Go.Eng
end
