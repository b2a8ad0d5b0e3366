/-
  A part of the proof: K_rcheckd K_rcheck.
-/
import Derived.Test.YtcinpabggaepfaaXQlRules
import Derived.Test.YtcinpabggaepfaaE3
import Derived.Test.YtcinpabggaepfaaE4
import Derived.Test.YtcinpabggaepfaaKrlegal
set_option linter.unusedVariables false
set_option linter.unusedSimpArgs false
noncomputable section
open Go Go.Eng Go.Proofs
set_option maxHeartbeats 4000000
set_option maxRecDepth 100000
namespace Go.Eng
def rj:List U→Int:=fun us=>((if AR (gAt 0 us)=true then 0 else 2))
def sA:Bc:={ sh:=[.agg [k64,k64,k64,k64,k64,k64,k64,k64,k64,.bool,.bool,.bool,.bool,.bool,.bool,.bool,.bool,k64,k64,.bool,.bool,.bool,k64,k64,k64,k64]],blks:=[],outs:=[(.s "rcheck.0",AI rj)],c:=(AG 26),m':=[],pre:=[] }
def tQ:List Rf:=[.e 0,.e 1,.e 2,.e 3,.e 4,.e 5,.e 6,.e 7,.e 8,.e 9,.e 10,.e 11,.e 12,.e 13,.e 14,.e 15,.e 16,.e 17,.e 18,.e 19,.e 20,.e 21,.e 22,.e 23,.e 24,.e 25]
def ti:List En:=[⟨26,.outB "rlegal.0" Ik,tQ⟩,
 ⟨27,.not,[.e 26]⟩,
 ⟨28,.ite .i,[.e 27,.c (.int 2),.c (.int 0)]⟩,
 ⟨29,.or,[.e 27,.e 26]⟩]
def tP:List En:=ti
def vC:List ObE:=[]
def te:List Rf:=[.e 28]
theorem vA:sA.sees te (sA.run Try.prog [(36,Hw)] Ba 3000 20 14)=some ((tP).map En.be,vC.map ObE.be,[]):=by kernel_rfl
theorem vU {T:Tab}(g:Gm)(hg:g=Gm.mk (I T 0) (I T 1) (I T 2) (I T 3) (I T 4) (I T 5) (I T 6) (I T 7) (I T 8) (B T 9) (B T 10) (B T 11) (B T 12) (B T 13) (B T 14) (B T 15) (B T 16) (I T 17) (I T 18) (B T 19) (B T 20) (B T 21) (I T 22) (I T 23) (I T 24) (I T 25))(g1:Gm)(z1:g1=Gm.mk (I T 0) (I T 1) (I T 2) (I T 3) (I T 4) (I T 5) (I T 6) (I T 7) (I T 8) (B T 9) (B T 10) (B T 11) (B T 12) (B T 13) (B T 14) (B T 15) (B T 16) (I T 17) (I T 18) (B T 19) (B T 20) (B T 21) (I T 22) (I T 23) (I T 24) (I T 25))(A0:AK T tP):
  ((I T 28)=((if AR g=true then 0 else 2))):=by
 have F0:=A0;clear A0
 ·obtain⟨e26,e27,e28,-⟩:=F0
  replace e26:B T 26=(AR g1):=by rw[←show gAt 0 (tQ.map (Rf.eval T))=g1 from z1.symm];exact e26
  simp only[AA,AD,zR,zL] at e27 e28
  grind (splits:=100)
theorem uu:CA Try.prog 14 sA:=by
 refine Bu (l:=[(36,Hw)]) C6 (by simp only[List.forall_mem_cons];exact⟨Uc,fun _ h=>absurd h (by simp)⟩) vA (by kernel_rfl) fun T us hpre hT hul hS hBd hE=>?_
 change us.length=26 at hul
 obtain⟨⟨lo0,hi0⟩,⟨lo1,hi1⟩,⟨lo2,hi2⟩,⟨lo3,hi3⟩,⟨lo4,hi4⟩,⟨lo5,hi5⟩,⟨lo6,hi6⟩,⟨lo7,hi7⟩,⟨lo8,hi8⟩,⟨lo17,hi17⟩,⟨lo18,hi18⟩,⟨lo22,hi22⟩,⟨lo23,hi23⟩,⟨lo24,hi24⟩,⟨lo25,hi25⟩,-⟩:=hBd
 clear lo0 hi0
 clear lo1 hi1
 clear lo2 hi2
 clear lo3 hi3
 clear lo4 hi4
 clear lo5 hi5
 clear lo6 hi6
 clear lo7 hi7
 clear lo8 hi8
 clear lo17 hi17
 clear lo18 hi18
 clear lo22 hi22
 clear lo23 hi23
 clear lo24 hi24
 clear lo25 hi25
 obtain⟨g,hg⟩:∃g:Gm,g=Gm.mk (I T 0) (I T 1) (I T 2) (I T 3) (I T 4) (I T 5) (I T 6) (I T 7) (I T 8) (B T 9) (B T 10) (B T 11) (B T 12) (B T 13) (B T 14) (B T 15) (B T 16) (I T 17) (I T 18) (B T 19) (B T 20) (B T 21) (I T 22) (I T 23) (I T 24) (I T 25):=⟨_,rfl⟩
 have hgu:gAt 0 us=g:=by rw[hg];exact DV hT hul (by decide)
 clear hpre
 skip
 obtain⟨A0,hO⟩:=CK (tys:=[.i]) (rs:=te) hS (by kernel_rfl) hE
 obtain⟨g1,z1⟩:∃g:Gm,g=Gm.mk (I T 0) (I T 1) (I T 2) (I T 3) (I T 4) (I T 5) (I T 6) (I T 7) (I T 8) (B T 9) (B T 10) (B T 11) (B T 12) (B T 13) (B T 14) (B T 15) (B T 16) (I T 17) (I T 18) (B T 19) (B T 20) (B T 21) (I T 22) (I T 23) (I T 24) (I T 25):=⟨_,rfl⟩
 have q0:=vU g hg g1 z1 A0
 refine⟨trivial,hO.trans ?_⟩
 exact (lc (by show U.int (I T 28)= .int (rj us);unfold rj;rw[hgu];exact congrArg U.int q0) rfl)
end Go.Eng
end
