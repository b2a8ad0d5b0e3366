/-
  A part of the proof: K_cmpTabd K_cmpTab.
-/
import Derived.Test.YtikbgnmcfncnaaaE4
import Derived.Test.YtikbgnmcfncnaaaE5
import Derived.Test.YtikbgnmcfncnaaaKcompare
set_option linter.unusedVariables false
set_option linter.unusedSimpArgs false
noncomputable section
namespace Go.Eng
section
open Go Go.Eng Go.Proofs
set_option maxHeartbeats 4000000
set_option maxRecDepth 100000
def IP:List U->Int:=fun us=>(plN (aI us 1) (aI us 3) (aI us 4) (aI us 5) (aS us 0) (aI us 7) (aI us 9) (aI us 10) (aI us 11) (aS us 6))
def Jm:AV:={ sh:=[.agg [.str,k64,k64,k64,k64,k64],.agg [.str,k64,k64,k64,k64,k64]],blks:=[],outs:=[(.s "cmpTab.0",Bl IP)],c:=(C4 12),m':=[],pre:=[] }
def Qk:List Rf:=[.e 0,.e 1,.e 2,.e 3,.e 4,.e 5,.e 6,.e 7,.e 8,.e 9,.e 10,.e 11]
def UK:List En:=[⟨12,.outI "compare.0" HZ,Qk⟩,
 ⟨13,.outI "compare.1" HY,Qk⟩]
def QW:List En:=UK
def dB:List ObE:=[]
def UE:List Rf:=[.e 12]
theorem cN:Jm.sees UE (Jm.run Try.prog [(73,H3)] AW 3000 20 72)=some ((QW).map En.be,dB.map ObE.be,[]):=by kernel_rfl
theorem cL {T:Tab}(hz0:(S T 0).size<=140737488355328)(hz6:(S T 6).size<=140737488355328)(A0:AH T QW):
  ((I T 12)=(plN (I T 1) (I T 3) (I T 4) (I T 5) (S T 0) (I T 7) (I T 9) (I T 10) (I T 11) (S T 6))):=by
 have F0:=A0;clear A0
 .obtain⟨e12,-⟩:=F0;replace e12:I T 12=(plN (I T 1) (I T 3) (I T 4) (I T 5) (S T 0) (I T 7) (I T 9) (I T 10) (I T 11) (S T 6)):=e12;grind (splits:=100)
theorem Zk:Ae Try.prog 72 Jm:=by
 refine BH (l:=[(73,H3)]) Bh (by simp only[List.forall_mem_cons];exact⟨Xe,fun _ h=>absurd h (by simp)⟩) cN (by kernel_rfl) fun T us hpre hT hul hS hBd hE=>?_;change us.length=12 at hul;obtain⟨hz0,-,-,-,-,-,hz6,-⟩:=hBd;replace hz0:(S T 0).size<=140737488355328:=hz0;replace hz6:(S T 6).size<=140737488355328:=hz6;have ha0:aS us 0=S T 0:=inS hT hul (by decide);have ha1:aI us 1=I T 1:=inI hT hul (by decide);have ha3:aI us 3=I T 3:=inI hT hul (by decide);have ha4:aI us 4=I T 4:=inI hT hul (by decide);have ha5:aI us 5=I T 5:=inI hT hul (by decide);have ha6:aS us 6=S T 6:=inS hT hul (by decide);have ha7:aI us 7=I T 7:=inI hT hul (by decide);have ha9:aI us 9=I T 9:=inI hT hul (by decide);have ha10:aI us 10=I T 10:=inI hT hul (by decide);have ha11:aI us 11=I T 11:=inI hT hul (by decide);clear hpre
 skip
 obtain⟨A0,hO⟩:=BG (tys:=[.i]) (rs:=UE) hS (by kernel_rfl) hE;have q0:=cL hz0 hz6 A0;refine⟨trivial,hO.trans ?_⟩;exact (lc (by show U.int (I T 12)= .int (IP us);unfold IP;rw[ha0,ha1,ha10,ha11,ha3,ha4,ha5,ha6,ha7,ha9];exact congrArg U.int q0) rfl)
end
end Go.Eng
end
