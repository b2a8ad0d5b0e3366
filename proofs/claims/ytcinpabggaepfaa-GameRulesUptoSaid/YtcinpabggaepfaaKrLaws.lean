/-
  A part of the proof: K_rLawsd K_rLaws.
-/
import Derived.Test.YtcinpabggaepfaaXQlRules
import Derived.Test.YtcinpabggaepfaaE3
import Derived.Test.YtcinpabggaepfaaE4
import Derived.Test.YtcinpabggaepfaaKlaws
set_option linter.unusedVariables false
set_option linter.unusedSimpArgs false
noncomputable section
open Go Go.Eng Go.Proofs
set_option maxHeartbeats 4000000
set_option maxRecDepth 100000
namespace Go.Eng
def sZ:List U→Int:=fun us=>((if (0≤(aI us 0)∧(aI us 0)≤3) then AX (aI us 0) else 0))
def sk:List U→Int:=fun us=>((if (0≤(aI us 0)∧(aI us 0)≤3) then Ac (aI us 0) else 0))
def sw:List U→Int:=fun us=>((if (0≤(aI us 0)∧(aI us 0)≤3) then Ab (aI us 0) else 0))
def sf:List U→Bool:=fun us=>((decide (0≤(aI us 0)∧(aI us 0)≤3)&&Aw (aI us 0)))
def sU:List U→Bool:=fun us=>((decide (0≤(aI us 0)∧(aI us 0)≤3)&&Ao (aI us 0)))
def sx:List U→Bool:=fun us=>((decide (0≤(aI us 0)∧(aI us 0)≤3)&&BI (aI us 0)))
def sQ:List U→Int:=fun us=>((if (0≤(aI us 0)∧(aI us 0)≤3) then 0 else 3))
def s7:Bc:={ sh:=[.one (k64)],blks:=[],outs:=[(.s "rLaws.0",AI sZ),(.s "rLaws.1",AI sk),(.s "rLaws.2",AI sw),(.s "rLaws.3",AQ sf),(.s "rLaws.4",AQ sU),(.s "rLaws.5",AQ sx),(.s "rLaws.6",AI sQ)],c:= .tup [.agg [(AG 1),(AG 2),(AG 3),.b 4,.b 5,.b 6],(AG 7)],m':=[],pre:=[] }
def uO:List En:=[⟨1,.lt,[.e 0,.c (.int 0)]⟩,
 ⟨2,.not,[.e 1]⟩,
 ⟨3,.le,[.c (.int 4),.e 0]⟩,
 ⟨4,.or,[.e 1,.e 3]⟩,
 ⟨5,.not,[.e 4]⟩,
 ⟨6,.outI "laws.0" El,[.e 0]⟩,
 ⟨7,.outI "laws.1" EV,[.e 0]⟩,
 ⟨8,.outI "laws.2" Ef,[.e 0]⟩,
 ⟨9,.outB "laws.3" EZ,[.e 0]⟩,
 ⟨10,.outB "laws.4" Ed,[.e 0]⟩,
 ⟨11,.outB "laws.5" Eb,[.e 0]⟩,
 ⟨12,.ite .i,[.e 4,.c (.int 0),.e 6]⟩,
 ⟨13,.ite .i,[.e 4,.c (.int 0),.e 7]⟩,
 ⟨14,.ite .i,[.e 4,.c (.int 0),.e 8]⟩,
 ⟨15,.ite .b,[.e 4,.c (.bool false),.e 9]⟩,
 ⟨16,.ite .b,[.e 4,.c (.bool false),.e 10]⟩]
def uc:List En:=[⟨17,.ite .b,[.e 4,.c (.bool false),.e 11]⟩,
 ⟨18,.ite .i,[.e 4,.c (.int 3),.c (.int 0)]⟩,
 ⟨19,.or,[.e 4,.e 5]⟩]
def tT:List En:=uO++(uc)
def vd:List ObE:=[]
def ui:List Rf:=[.e 12,.e 13,.e 14,.e 15,.e 16,.e 17,.e 18]
theorem vX:s7.sees ui (s7.run Try.prog [(43,De)] Ba 3000 20 27)=some ((tT).map En.be,vd.map ObE.be,[]):=by kernel_rfl
theorem vZ {T:Tab}(A0:AK T tT):
  ((I T 12)=((if (0≤I T 0∧I T 0≤3) then AX (I T 0) else 0)))∧
  ((I T 13)=((if (0≤I T 0∧I T 0≤3) then Ac (I T 0) else 0)))∧
  ((I T 14)=((if (0≤I T 0∧I T 0≤3) then Ab (I T 0) else 0)))∧
  ((B T 15)=((decide (0≤I T 0∧I T 0≤3)&&Aw (I T 0))))∧
  ((B T 16)=((decide (0≤I T 0∧I T 0≤3)&&Ao (I T 0))))∧
  ((B T 17)=((decide (0≤I T 0∧I T 0≤3)&&BI (I T 0))))∧
  ((I T 18)=((if (0≤I T 0∧I T 0≤3) then 0 else 3))):=by
 obtain⟨F0,A0⟩:=A0.cut
 have F1:=A0;clear A0
 refine⟨?_,?_,?_,?_,?_,?_,?_⟩
 ·obtain⟨e1,-,e3,e4,-,e6,-,-,-,-,-,e12,-⟩:=F0
  replace e6:I T 6=(AX (I T 0)):=e6
  simp only[AA,AD,zR,zL] at*
  grind (splits:=100)
 ·obtain⟨e1,-,e3,e4,-,-,e7,-,-,-,-,-,e13,-⟩:=F0
  replace e7:I T 7=(Ac (I T 0)):=e7
  simp only[AA,AD,zR,zL] at*
  grind (splits:=100)
 ·obtain⟨e1,-,e3,e4,-,-,-,e8,-,-,-,-,-,e14,-⟩:=F0
  replace e8:I T 8=(Ab (I T 0)):=e8
  simp only[AA,AD,zR,zL] at*
  grind (splits:=100)
 ·obtain⟨e1,-,e3,e4,-,-,-,-,e9,-,-,-,-,-,e15,-⟩:=F0
  replace e9:B T 9=(Aw (I T 0)):=e9
  simp only[AA,AD,zC,zR,zL] at*
  refine AU ?_
  constructor<;>grind (splits:=100)
 ·obtain⟨e1,-,e3,e4,-,-,-,-,-,e10,-,-,-,-,-,e16,-⟩:=F0
  replace e10:B T 10=(Ao (I T 0)):=e10
  simp only[AA,AD,zC,zR,zL] at*
  refine AU ?_
  constructor<;>grind (splits:=100)
 ·obtain⟨e1,-,e3,e4,-,-,-,-,-,-,e11,-⟩:=F0
  obtain⟨e17,-⟩:=F1
  replace e11:B T 11=(BI (I T 0)):=e11
  simp only[AA,AD,zC,zR,zL] at*
  refine AU ?_
  constructor<;>grind (splits:=100)
 ·obtain⟨e1,-,e3,e4,-⟩:=F0
  obtain⟨-,e18,-⟩:=F1
  simp only[AA,AD,zR,zL] at*
  grind (splits:=100)
theorem vO:CA Try.prog 27 s7:=by
 refine Bu (l:=[(43,De)]) C6 (by simp only[List.forall_mem_cons];exact⟨Jo,fun _ h=>absurd h (by simp)⟩) vX (by kernel_rfl) fun T us hpre hT hul hS hBd hE=>?_
 change us.length=1 at hul
 clear hBd
 have ha0:aI us 0=I T 0:=inI hT hul (by decide)
 clear hpre
 skip
 obtain⟨A0,hO⟩:=CK (tys:=[.i,.i,.i,.b,.b,.b,.i]) (rs:=ui) hS (by kernel_rfl) hE
 obtain⟨q0,q1,q2,q3,q4,q5,q6⟩:=vZ A0
 refine⟨trivial,hO.trans ?_⟩
 exact (lc (by show U.int (I T 12)= .int (sZ us);unfold sZ;rw[ha0];exact congrArg U.int q0) (lc (by show U.int (I T 13)= .int (sk us);unfold sk;rw[ha0];exact congrArg U.int q1) (lc (by show U.int (I T 14)= .int (sw us);unfold sw;rw[ha0];exact congrArg U.int q2) (lc (by show U.bool (B T 15)= .bool (sf us);unfold sf;rw[ha0];exact congrArg U.bool q3) (lc (by show U.bool (B T 16)= .bool (sU us);unfold sU;rw[ha0];exact congrArg U.bool q4) (lc (by show U.bool (B T 17)= .bool (sx us);unfold sx;rw[ha0];exact congrArg U.bool q5) (lc (by show U.int (I T 18)= .int (sQ us);unfold sQ;rw[ha0];exact congrArg U.int q6) rfl)))))))
end Go.Eng
end
