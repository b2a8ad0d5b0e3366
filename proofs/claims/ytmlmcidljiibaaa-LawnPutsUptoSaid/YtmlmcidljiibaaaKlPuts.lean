/-
  A part of the proof: K_lPutsd K_lPuts.
-/
import Derived.Test.YtmlmcidljiibaaaE3
import Derived.Test.YtmlmcidljiibaaaE4
import Derived.Test.YtmlmcidljiibaaaKgreat
import Derived.Test.YtmlmcidljiibaaaKworks
import Derived.Test.YtmlmcidljiibaaaKput
import Derived.Test.YtmlmcidljiibaaaKrput
set_option linter.unusedVariables false
set_option linter.unusedSimpArgs false
noncomputable section
open Go Go.Eng Go.Proofs
set_option maxHeartbeats 4000000
set_option maxRecDepth 100000
namespace Go.Eng
def Mv:List Kd:=[.str,k64,k64,k64,.list [k64,k64,k64,k64,.bool],k64,k64,k64,k64,k64,.list [k64,k64,k64],k64,k64,k64,.list [k64,k64,k64]]
def TF:List AC:=((HI Try.prog 9 Try.f3.params.toList 0).map (·.1)).getD []
def Q4:List Rf:=[.e 0,.e 1,.e 2,.e 3,.e 4,.e 5,.e 6,.e 7,.e 8,.e 9,.e 10]
def CO:List Rf:=[.e 0,.e 1,.e 2,.e 3,.e 4,.e 5,.e 6,.e 7,.e 8,.e 9,.e 10,.e 11,.e 12,.e 13,.e 14]
def U9:List En:=[⟨15,.outB "great.0" JV,Q4⟩,
 ⟨16,.not,[.e 15]⟩,
 ⟨17,.len,[.e 14]⟩,
 ⟨18,.lt,[.c (.int 20),.e 17]⟩,
 ⟨19,.or,[.e 15,.e 18]⟩,
 ⟨20,.outB "works.0" HN,[]⟩,
 ⟨21,.not,[.e 19]⟩,
 ⟨22,.outI "put.0" Jw,CO⟩,
 ⟨23,.outI "put.1" KF,CO⟩,
 ⟨24,.outI "put.2" KP,CO⟩,
 ⟨25,.outI "rput.0" KZ,CO⟩,
 ⟨26,.outI "rput.1" Kw,CO⟩,
 ⟨27,.outI "rput.2" LN,CO⟩,
 ⟨28,.eqs [.i,.i],[.e 22,.e 25,.e 23,.e 26]⟩,
 ⟨29,.and,[.e 21,.e 28]⟩,
 ⟨30,.eq,[.e 24,.e 27]⟩]
def U3:List En:=[⟨31,.and,[.e 28,.e 30]⟩,
 ⟨32,.and,[.e 21,.e 31]⟩,
 ⟨33,.outB "works.0" HN,[]⟩,
 ⟨34,.and,[.e 31,.e 33]⟩,
 ⟨35,.ite .b,[.e 19,.e 20,.e 34]⟩,
 ⟨36,.or,[.e 19,.e 21]⟩]
def MR:List En:=U9++(U3)
def VD:List ObE:=[]
def cF:List Rf:=[.e 35]
theorem bl:WP 15 (YW Try.prog [(12,J6),(13,KO),(14,FP),(15,Jz)] Ah 3000 20 3 TF 15)=some (35,(MR).map En.be,VD.map ObE.be):=by kernel_rfl
theorem cL {T:Tab}(hz0:(S T 0).size≤140737488355328)(hl4:(L T 4).length≤140737488355328)(hl10:(L T 10).length≤140737488355328)(hl14:(L T 14).length≤140737488355328)(g:Ln)(hg:g=Ln.mk (S T 0) (I T 1) (I T 2) (I T 3) (L T 4) (I T 5) (I T 6) (I T 7) (I T 8) (I T 9) (L T 10))(hb4:(L T 4).length≤1048576)(hb10:(L T 10).length≤1048576)(hb14:(L T 14).length≤1048576)(g1:Ln)(z1:g1=Ln.mk (S T 0) (I T 1) (I T 2) (I T 3) (L T 4) (I T 5) (I T 6) (I T 7) (I T 8) (I T 9) (L T 10))(g2:Ln)(z2:g2=Ln.mk (S T 0) (I T 1) (I T 2) (I T 3) (L T 4) (I T 5) (I T 6) (I T 7) (I T 8) (I T 9) (L T 10))(A0:AJ T MR):
  ((B T 35)=(true)):=by
 obtain⟨F0,A0⟩:=A0.cut
 have F1:=A0;clear A0
 ·obtain⟨e15,-,e17,e18,e19,e20,-,e22,e23,e24,e25,e26,e27,e28,-,e30,-⟩:=F0
  obtain⟨e31,-,e33,e34,e35,-⟩:=F1
  replace e15:B T 15=(Ld g1):=by rw[←show gAt 0 (Q4.map (Rf.eval T))=g1 from z1.symm];exact e15
  replace e20:B T 20=(true):=e20
  replace e22:I T 22=(GC g2 (I T 11) (I T 12) (I T 13) (L T 14)):=by rw[←show gAt 0 (CO.map (Rf.eval T))=g2 from z2.symm];exact e22
  replace e23:I T 23=(GJ g2 (I T 11) (I T 12) (I T 13) (L T 14)):=by rw[←show gAt 0 (CO.map (Rf.eval T))=g2 from z2.symm];exact e23
  replace e24:I T 24=(C7 g2 (I T 11) (I T 12) (I T 13) (L T 14)):=by rw[←show gAt 0 (CO.map (Rf.eval T))=g2 from z2.symm];exact e24
  replace e25:I T 25=(GC g2 (I T 11) (I T 12) (I T 13) (L T 14)):=by rw[←show gAt 0 (CO.map (Rf.eval T))=g2 from z2.symm];exact e25
  replace e26:I T 26=(GJ g2 (I T 11) (I T 12) (I T 13) (L T 14)):=by rw[←show gAt 0 (CO.map (Rf.eval T))=g2 from z2.symm];exact e26
  replace e27:I T 27=(C7 g2 (I T 11) (I T 12) (I T 13) (L T 14)):=by rw[←show gAt 0 (CO.map (Rf.eval T))=g2 from z2.symm];exact e27
  replace e33:B T 33=(true):=e33
  simp only[AE,AF,zR,Bb,and_true,zL] at*
  rw[e35]
  by_cases h:(B T 19)=true
  ·exact .inl ⟨h,e20⟩
  ·refine .inr ⟨h,e34.2 ⟨e31.2 ⟨?_,?_⟩,e33⟩⟩
   ·rw[e28,e22,e25,e23,e26]
    exact⟨rfl,rfl⟩
   ·rw[e30,e24,e27]
theorem XG:HI Try.prog 9 Try.f3.params.toList 0=some (TF,Mv):=by kernel_rfl
theorem Yo:∀p∈([(12,J6),(13,KO),(14,FP),(15,Jz)]:List (FuncId × Ak)),Aq Try.prog p.1 p.2:=by simp only[List.forall_mem_cons];exact⟨aa,av,Xl,dB,fun _ h=>absurd h (by simp)⟩
theorem bA:∀T:Tab,AL T (BT 0 Mv)→Bnd T 0 Mv→TW 1048576 T 0 Mv→Ag T ((MR).map En.be)→Nj T VD∧B T 35=true:=by
 intro T hS hBd hBl hE
 obtain⟨hz0,-,-,-,⟨hl4,he4⟩,-,-,-,-,-,⟨hl10,he10⟩,-,-,-,⟨hl14,he14⟩,-⟩:=hBd
 replace hz0:(S T 0).size≤140737488355328:=hz0
 replace hl4:(L T 4).length≤140737488355328:=hl4
 replace hl10:(L T 10).length≤140737488355328:=hl10
 replace hl14:(L T 14).length≤140737488355328:=hl14
 obtain⟨g,hg⟩:∃g:Ln,g=Ln.mk (S T 0) (I T 1) (I T 2) (I T 3) (L T 4) (I T 5) (I T 6) (I T 7) (I T 8) (I T 9) (L T 10):=⟨_,rfl⟩
 obtain⟨hb4,hb10,hb14,-⟩:=hBl
 replace hb4:(L T 4).length≤1048576:=hb4
 replace hb10:(L T 10).length≤1048576:=hb10
 replace hb14:(L T 14).length≤1048576:=hb14
 skip
 obtain⟨A0,hO⟩:=Ar (tys:=[.b]) (rs:=cF) hS (by kernel_rfl) hE
 obtain⟨g1,z1⟩:∃g:Ln,g=Ln.mk (S T 0) (I T 1) (I T 2) (I T 3) (L T 4) (I T 5) (I T 6) (I T 7) (I T 8) (I T 9) (L T 10):=⟨_,rfl⟩
 obtain⟨g2,z2⟩:∃g:Ln,g=Ln.mk (S T 0) (I T 1) (I T 2) (I T 3) (L T 4) (I T 5) (I T 6) (I T 7) (I T 8) (I T 9) (L T 10):=⟨_,rfl⟩
 have q0:=cL hz0 hl4 hl10 hl14 g hg hb4 hb10 hb14 g1 z1 g2 z2 A0
 exact⟨trivial,q0⟩
end Go.Eng
end
