/-
  A part of the proof: K_touchedd K_touched.
-/
import Derived.Test.YtmlmcidljiibaaaXQlWays
import Derived.Test.YtmlmcidljiibaaaE3
import Derived.Test.YtmlmcidljiibaaaE4
import Derived.Test.YtmlmcidljiibaaaKway
set_option linter.unusedVariables false
set_option linter.unusedSimpArgs false
noncomputable section
open Go Go.Eng Go.Proofs
set_option maxHeartbeats 4000000
set_option maxRecDepth 100000
namespace Go.Eng
def Hd:List U→List (List U):=fun us=>(E3 (gAt 0 us) (aI us 11) (aI us 12) (aI us 11) (aI us 12) (aI us 13) (aL us 14))
def HZ:List U→Int:=fun us=>(Cf (gAt 0 us) (aI us 11) (aI us 12) (aI us 11) (aI us 12) (aI us 13) (aL us 14))
def Hr:Ak:={ sh:=[.agg [.str,k64,k64,k64,.list [k64,k64,k64,k64,.bool],k64,k64,k64,k64,k64,.list [k64,k64,k64]],.agg [k64,k64],.one (k64),.one (.list [k64,k64,k64])],blks:=[],outs:=[(.s "touched.0",LQ Hd),(.s "touched.1",Bi HZ)],c:= .tup [.ro 15 [k64],(CP 16)],m':=[],pre:=[] }
def HW:List Rf:=[.e 0,.e 1,.e 2,.e 3,.e 4,.e 5,.e 6,.e 7,.e 8,.e 9,.e 10,.e 11,.e 12,.e 11,.e 12,.e 13,.e 14]
def Sv:List En:=[⟨15,.outL "way.0" FX,HW⟩,
 ⟨16,.outI "way.1" FO,HW⟩]
def OU:List En:=Sv
def aV:List ObE:=[]
def SG:List Rf:=[.e 15,.e 16]
theorem Z9:Hr.sees SG (Hr.run Try.prog [(17,Hj)] Ag 3000 20 20)=some ((OU).map En.be,aV.map ObE.be,[]):=by kernel_rfl
theorem b6 {T:Tab}(hz0:(S T 0).size≤140737488355328)(hl4:(L T 4).length≤140737488355328)(hl10:(L T 10).length≤140737488355328)(hl14:(L T 14).length≤140737488355328)(g:Ln)(hg:g=Ln.mk (S T 0) (I T 1) (I T 2) (I T 3) (L T 4) (I T 5) (I T 6) (I T 7) (I T 8) (I T 9) (L T 10))(g1:Ln)(z1:g1=Ln.mk (S T 0) (I T 1) (I T 2) (I T 3) (L T 4) (I T 5) (I T 6) (I T 7) (I T 8) (I T 9) (L T 10))(A0:AI T OU):
  ((L T 15)=(E3 g (I T 11) (I T 12) (I T 11) (I T 12) (I T 13) (L T 14)))∧
  ((I T 16)=(Cf g (I T 11) (I T 12) (I T 11) (I T 12) (I T 13) (L T 14))):=by
 have F0:=A0;clear A0
 have hgg:g1=g:=by
  rw[z1,hg]
 refine⟨?_,?_⟩
 ·obtain⟨e15,-⟩:=F0
  replace e15:L T 15=(E3 g1 (I T 11) (I T 12) (I T 11) (I T 12) (I T 13) (L T 14)):=by rw[←show gAt 0 (HW.map (Rf.eval T))=g1 from z1.symm];exact e15
  rw[e15,hgg]
 ·obtain⟨-,e16,-⟩:=F0
  replace e16:I T 16=(Cf g1 (I T 11) (I T 12) (I T 11) (I T 12) (I T 13) (L T 14)):=by rw[←show gAt 0 (HW.map (Rf.eval T))=g1 from z1.symm];exact e16
  rw[e16,hgg]
theorem Yb:Ao Try.prog 20 Hr:=by
 refine AZ (l:=[(17,Hj)]) BH (by simp only[List.forall_mem_cons];exact⟨Tu,fun _ h=>absurd h (by simp)⟩) Z9 (by kernel_rfl) fun T us hpre hT hul hS hBd hE=>?_
 change us.length=15 at hul
 obtain⟨hz0,-,-,-,⟨hl4,he4⟩,-,-,-,-,-,⟨hl10,he10⟩,-,-,-,⟨hl14,he14⟩,-⟩:=hBd
 replace hz0:(S T 0).size≤140737488355328:=hz0
 replace hl4:(L T 4).length≤140737488355328:=hl4
 replace hl10:(L T 10).length≤140737488355328:=hl10
 replace hl14:(L T 14).length≤140737488355328:=hl14
 obtain⟨g,hg⟩:∃g:Ln,g=Ln.mk (S T 0) (I T 1) (I T 2) (I T 3) (L T 4) (I T 5) (I T 6) (I T 7) (I T 8) (I T 9) (L T 10):=⟨_,rfl⟩
 have hgu:gAt 0 us=g:=by rw[hg];exact Cu hT hul (by decide)
 have ha11:aI us 11=I T 11:=inI hT hul (by decide)
 have ha12:aI us 12=I T 12:=inI hT hul (by decide)
 have ha13:aI us 13=I T 13:=inI hT hul (by decide)
 have ha14:aL us 14=L T 14:=inL hT hul (by decide)
 clear hpre
 skip
 obtain⟨A0,hO⟩:=Ap (tys:=[.l,.i]) (rs:=SG) hS (by kernel_rfl) hE
 obtain⟨g1,z1⟩:∃g:Ln,g=Ln.mk (S T 0) (I T 1) (I T 2) (I T 3) (L T 4) (I T 5) (I T 6) (I T 7) (I T 8) (I T 9) (L T 10):=⟨_,rfl⟩
 obtain⟨q0,q1⟩:=b6 hz0 hl4 hl10 hl14 g hg g1 z1 A0
 refine⟨trivial,hO.trans ?_⟩
 exact (lc (by show U.list (L T 15)= .list (Hd us);unfold Hd;rw[hgu,ha11,ha12,ha13,ha14];exact congrArg U.list q0) (lc (by show U.int (I T 16)= .int (HZ us);unfold HZ;rw[hgu,ha11,ha12,ha13,ha14];exact congrArg U.int q1) rfl))
end Go.Eng
end
