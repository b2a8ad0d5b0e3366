/-
  A part of the proof: K_lawsd K_laws.
-/
import Derived.Test.YtcinpabggaepfaaE3
import Derived.Test.YtcinpabggaepfaaE4
set_option linter.unusedVariables false
set_option linter.unusedSimpArgs false
noncomputable section
open Go Go.Eng Go.Proofs
set_option maxHeartbeats 4000000
set_option maxRecDepth 100000
namespace Go.Eng
def El:List U→Int:=fun us=>(AX (aI us 0))
def EV:List U→Int:=fun us=>(Ac (aI us 0))
def Ef:List U→Int:=fun us=>(Ab (aI us 0))
def EZ:List U→Bool:=fun us=>(Aw (aI us 0))
def Ed:List U→Bool:=fun us=>(Ao (aI us 0))
def Eb:List U→Bool:=fun us=>(BI (aI us 0))
def De:Bc:={ sh:=[.one (k64)],blks:=[],outs:=[(.s "laws.0",AI El),(.s "laws.1",AI EV),(.s "laws.2",AI Ef),(.s "laws.3",AQ EZ),(.s "laws.4",AQ Ed),(.s "laws.5",AQ Eb)],c:= .agg [(AG 1),(AG 2),(AG 3),.b 4,.b 5,.b 6],m':=[],pre:=[] }
def cU:List En:=[⟨1,.eq,[.e 0,.c (.int 1)]⟩,
 ⟨2,.not,[.e 1]⟩,
 ⟨3,.eq,[.e 0,.c (.int 2)]⟩,
 ⟨4,.and,[.e 2,.e 3]⟩,
 ⟨5,.and,[.e 2,.n 3]⟩,
 ⟨6,.eq,[.e 0,.c (.int 3)]⟩,
 ⟨7,.and,[.e 5,.e 6]⟩,
 ⟨8,.and,[.e 5,.n 6]⟩,
 ⟨9,.ite .i,[.e 3,.c (.int 6),.c (.int 12)]⟩,
 ⟨10,.ite .b,[.e 3,.c (.bool true),.c (.bool false)]⟩,
 ⟨11,.ite .b,[.e 3,.c (.bool true),.c (.bool false)]⟩,
 ⟨12,.ite .b,[.e 3,.c (.bool false),.c (.bool true)]⟩,
 ⟨13,.or,[.e 4,.e 7]⟩,
 ⟨14,.ite .i,[.e 1,.c (.int 12),.e 9]⟩,
 ⟨15,.ite .i,[.e 1,.c (.int 7),.c (.int 0)]⟩,
 ⟨16,.ite .i,[.e 1,.c (.int 10),.c (.int 0)]⟩]
def cF:List En:=[⟨17,.ite .b,[.e 1,.c (.bool true),.e 10]⟩,
 ⟨18,.ite .b,[.e 1,.c (.bool false),.e 11]⟩,
 ⟨19,.ite .b,[.e 1,.c (.bool false),.e 12]⟩,
 ⟨20,.or,[.e 1,.e 13]⟩,
 ⟨21,.ite .i,[.e 20,.e 14,.c (.int 12)]⟩,
 ⟨22,.ite .i,[.e 20,.e 15,.c (.int 0)]⟩,
 ⟨23,.ite .i,[.e 20,.e 16,.c (.int 0)]⟩,
 ⟨24,.ite .b,[.e 20,.e 17,.c (.bool true)]⟩,
 ⟨25,.ite .b,[.e 20,.e 18,.c (.bool true)]⟩,
 ⟨26,.ite .b,[.e 20,.e 19,.c (.bool false)]⟩,
 ⟨27,.or,[.e 20,.e 8]⟩]
def WW:List En:=cU++(cF)
def lL:List ObE:=[]
def ez:List Rf:=[.e 21,.e 22,.e 23,.e 24,.e 25,.e 26]
theorem lK:De.sees ez (De.run Try.prog [] Ba 3000 20 43)=some ((WW).map En.be,lL.map ObE.be,[]):=by kernel_rfl
theorem kD {T:Tab}(A0:AK T WW):
  ((I T 21)=(AX (I T 0)))∧
  ((I T 22)=(Ac (I T 0)))∧
  ((I T 23)=(Ab (I T 0)))∧
  ((B T 24)=(Aw (I T 0)))∧
  ((B T 25)=(Ao (I T 0)))∧
  ((B T 26)=(BI (I T 0))):=by
 obtain⟨F0,A0⟩:=A0.cut
 have F1:=A0;clear A0
 refine⟨?_,?_,?_,?_,?_,?_⟩
 ·obtain⟨e1,e2,e3,e4,e5,e6,e7,-,e9,-,-,-,e13,e14,-⟩:=F0
  obtain⟨-,-,-,e20,e21,-⟩:=F1
  simp only[AA,AD,zN,zR,zL] at*
  (try simp only[AX,Ac,Ab,Aw,Ao,BI,zB])<;>grind (splits:=100)
 ·obtain⟨e1,e2,e3,e4,e5,e6,e7,-,-,-,-,-,e13,-,e15,-⟩:=F0
  obtain⟨-,-,-,e20,-,e22,-⟩:=F1
  simp only[AA,AD,zN,zR,zL] at*
  (try simp only[AX,Ac,Ab,Aw,Ao,BI,zB])<;>grind (splits:=100)
 ·obtain⟨e1,e2,e3,e4,e5,e6,e7,-,-,-,-,-,e13,-,-,e16,-⟩:=F0
  obtain⟨-,-,-,e20,-,-,e23,-⟩:=F1
  simp only[AA,AD,zN,zR,zL] at*
  (try simp only[AX,Ac,Ab,Aw,Ao,BI,zB])<;>grind (splits:=100)
 ·obtain⟨e1,e2,e3,e4,e5,e6,e7,-,-,e10,-,-,e13,-⟩:=F0
  obtain⟨e17,-,-,e20,-,-,-,e24,-⟩:=F1
  simp only[AA,AD,zN,zC,zR,zL] at*
  refine AU ?_
  (try simp only[AX,Ac,Ab,Aw,Ao,BI,zB])<;>(try constructor)<;>grind (splits:=100)
 ·obtain⟨e1,e2,e3,e4,e5,e6,e7,-,-,-,e11,-,e13,-⟩:=F0
  obtain⟨-,e18,-,e20,-,-,-,-,e25,-⟩:=F1
  simp only[AA,AD,zN,zC,zR,zL] at*
  refine AU ?_
  (try simp only[AX,Ac,Ab,Aw,Ao,BI,zB])<;>(try constructor)<;>grind (splits:=100)
 ·obtain⟨e1,e2,e3,e4,e5,e6,e7,-,-,-,-,e12,e13,-⟩:=F0
  obtain⟨-,-,e19,e20,-,-,-,-,-,e26,-⟩:=F1
  simp only[AA,AD,zN,zC,zR,zL] at*
  refine AU ?_
  (try simp only[AX,Ac,Ab,Aw,Ao,BI,zB])<;>(try constructor)<;>grind (splits:=100)
theorem Jo:CA Try.prog 43 De:=by
 refine Bu (l:=[]) C6 (by intro p h;exact absurd h (by simp)) lK (by kernel_rfl) fun T us hpre hT hul hS hBd hE=>?_
 change us.length=1 at hul
 clear hBd
 have ha0:aI us 0=I T 0:=inI hT hul (by decide)
 clear hpre
 skip
 obtain⟨A0,hO⟩:=CK (tys:=[.i,.i,.i,.b,.b,.b]) (rs:=ez) hS (by kernel_rfl) hE
 obtain⟨q0,q1,q2,q3,q4,q5⟩:=kD A0
 refine⟨trivial,hO.trans ?_⟩
 exact (lc (by show U.int (I T 21)= .int (El us);unfold El;rw[ha0];exact congrArg U.int q0) (lc (by show U.int (I T 22)= .int (EV us);unfold EV;rw[ha0];exact congrArg U.int q1) (lc (by show U.int (I T 23)= .int (Ef us);unfold Ef;rw[ha0];exact congrArg U.int q2) (lc (by show U.bool (B T 24)= .bool (EZ us);unfold EZ;rw[ha0];exact congrArg U.bool q3) (lc (by show U.bool (B T 25)= .bool (Ed us);unfold Ed;rw[ha0];exact congrArg U.bool q4) (lc (by show U.bool (B T 26)= .bool (Eb us);unfold Eb;rw[ha0];exact congrArg U.bool q5) rfl))))))
end Go.Eng
end
