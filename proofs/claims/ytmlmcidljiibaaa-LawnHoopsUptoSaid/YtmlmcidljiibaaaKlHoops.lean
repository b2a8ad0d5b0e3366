/-
  A part of the proof: K_lHoopsd K_lHoops.
-/
import Derived.Test.YtmlmcidljiibaaaXQlHoops
import Derived.Test.YtmlmcidljiibaaaE3
import Derived.Test.YtmlmcidljiibaaaE4
import Derived.Test.YtmlmcidljiibaaaKgreat
import Derived.Test.YtmlmcidljiibaaaKworks
import Derived.Test.YtmlmcidljiibaaaKpasses
import Derived.Test.YtmlmcidljiibaaaKrpasses
import Derived.Test.YtmlmcidljiibaaaKstand
import Derived.Test.YtmlmcidljiibaaaKrstand
set_option linter.unusedVariables false
set_option linter.unusedSimpArgs false
noncomputable section
open Go Go.Eng Go.Proofs
set_option maxHeartbeats 4000000
set_option maxRecDepth 100000
namespace Go.Eng
def fc:List Kd:=[.str,k64,k64,k64,.list [k64,k64,k64,k64,.bool],k64,k64,k64,k64,k64,.list [k64,k64,k64],k64,.bool,k64,k64,k64]
def fl:List AC:=((HI Try.prog 9 Try.f6.params.toList 0).map (·.1)).getD []
def fg:List Rf:=[.e 0,.e 1,.e 2,.e 3,.e 4,.e 5,.e 6,.e 7,.e 8,.e 9,.e 10]
def fQ:List Rf:=[.e 0,.e 1,.e 2,.e 3,.e 4,.e 5,.e 6,.e 7,.e 8,.e 9,.e 10,.e 11,.e 15]
def fO:List Rf:=[.e 0,.e 1,.e 2,.e 3,.e 4,.e 5,.e 6,.e 7,.e 8,.e 9,.e 10,.e 11,.e 12,.e 13,.e 14,.e 15]
def fu:List En:=[⟨16,.outB "great.0" JV,fg⟩,
 ⟨17,.outB "works.0" HN,[]⟩,
 ⟨18,.not,[.e 16]⟩,
 ⟨19,.outB "passes.0" fW,fQ⟩,
 ⟨20,.outI "passes.1" fY,fQ⟩,
 ⟨21,.outB "rpasses.0" fT,fQ⟩,
 ⟨22,.outI "rpasses.1" fU,fQ⟩,
 ⟨23,.outI "stand.0" JW,fO⟩,
 ⟨24,.outI "stand.1" I4,fO⟩,
 ⟨25,.outI "rstand.0" fZ,fO⟩,
 ⟨26,.outI "rstand.1" fX,fO⟩,
 ⟨27,.eqb,[.e 19,.e 21]⟩,
 ⟨28,.and,[.e 18,.e 27]⟩,
 ⟨29,.eq,[.e 23,.e 25]⟩,
 ⟨30,.and,[.e 27,.e 29]⟩,
 ⟨31,.and,[.e 18,.e 30]⟩]
def fq:List En:=[⟨32,.eq,[.e 20,.e 22]⟩,
 ⟨33,.and,[.e 30,.e 32]⟩,
 ⟨34,.and,[.e 18,.e 33]⟩,
 ⟨35,.eq,[.e 24,.e 26]⟩,
 ⟨36,.and,[.e 33,.e 35]⟩,
 ⟨37,.and,[.e 18,.e 36]⟩,
 ⟨38,.outB "works.0" HN,[]⟩,
 ⟨39,.and,[.e 36,.e 38]⟩,
 ⟨40,.ite .b,[.e 16,.e 17,.e 39]⟩,
 ⟨41,.or,[.e 16,.e 18]⟩]
def fe:List En:=fu++(fq)
def gA:List ObE:=[]
def gU:List Rf:=[.e 40]
theorem gP:WP 16 (YW Try.prog [(12,J6),(13,KO),(25,fa),(26,fV),(19,Jx),(27,fb)] Ah 3000 20 6 fl 16)=some (40,(fe).map En.be,gA.map ObE.be):=by kernel_rfl
theorem gN {T:Tab}(hz0:(S T 0).size≤140737488355328)(hl4:(L T 4).length≤140737488355328)(hl10:(L T 10).length≤140737488355328)(g:Ln)(hg:g=Ln.mk (S T 0) (I T 1) (I T 2) (I T 3) (L T 4) (I T 5) (I T 6) (I T 7) (I T 8) (I T 9) (L T 10))(hb4:(L T 4).length≤1048576)(hb10:(L T 10).length≤1048576)(g1:Ln)(z1:g1=Ln.mk (S T 0) (I T 1) (I T 2) (I T 3) (L T 4) (I T 5) (I T 6) (I T 7) (I T 8) (I T 9) (L T 10))(g2:Ln)(z2:g2=Ln.mk (S T 0) (I T 1) (I T 2) (I T 3) (L T 4) (I T 5) (I T 6) (I T 7) (I T 8) (I T 9) (L T 10))(g3:Ln)(z3:g3=Ln.mk (S T 0) (I T 1) (I T 2) (I T 3) (L T 4) (I T 5) (I T 6) (I T 7) (I T 8) (I T 9) (L T 10))(A0:AJ T fe):
  ((B T 40)=(true)):=by
 obtain⟨F0,A0⟩:=A0.cut
 have F1:=A0;clear A0
 ·obtain⟨e16,e17,-,e19,e20,e21,e22,e23,e24,e25,e26,e27,-,e29,e30,-⟩:=F0
  obtain⟨e32,e33,-,e35,e36,-,e38,e39,e40,-⟩:=F1
  replace e16:B T 16=(Ld g1):=by rw[←show gAt 0 (fg.map (Rf.eval T))=g1 from z1.symm];exact e16
  replace e17:B T 17=(true):=e17
  replace e19:B T 19=(fS g2 (I T 11) (I T 15)):=by rw[←show gAt 0 (fQ.map (Rf.eval T))=g2 from z2.symm];exact e19
  replace e20:I T 20=(fR g2 (I T 11) (I T 15)):=by rw[←show gAt 0 (fQ.map (Rf.eval T))=g2 from z2.symm];exact e20
  replace e21:B T 21=(fS g2 (I T 11) (I T 15)):=by rw[←show gAt 0 (fQ.map (Rf.eval T))=g2 from z2.symm];exact e21
  replace e22:I T 22=(fR g2 (I T 11) (I T 15)):=by rw[←show gAt 0 (fQ.map (Rf.eval T))=g2 from z2.symm];exact e22
  replace e23:I T 23=(IP g3 (I T 11) (B T 12) (I T 13) (I T 14) (I T 15)):=by rw[←show gAt 0 (fO.map (Rf.eval T))=g3 from z3.symm];exact e23
  replace e24:I T 24=(GN g3 (I T 11) (I T 13) (I T 14) (I T 15)):=by rw[←show gAt 0 (fO.map (Rf.eval T))=g3 from z3.symm];exact e24
  replace e25:I T 25=(IP g3 (I T 11) (B T 12) (I T 13) (I T 14) (I T 15)):=by rw[←show gAt 0 (fO.map (Rf.eval T))=g3 from z3.symm];exact e25
  replace e26:I T 26=(GN g3 (I T 11) (I T 13) (I T 14) (I T 15)):=by rw[←show gAt 0 (fO.map (Rf.eval T))=g3 from z3.symm];exact e26
  replace e38:B T 38=(true):=e38
  simp only[AE,AF,zR,zL] at*
  rw[e40]
  by_cases h:(B T 16)=true
  ·exact .inl ⟨h,e17⟩
  ·refine .inr ⟨h,e39.2 ⟨e36.2 ⟨e33.2 ⟨e30.2 ⟨?_,?_⟩,?_⟩,?_⟩,e38⟩⟩
   ·rw[e27,e19,e21]
   ·rw[e29,e23,e25]
   ·rw[e32,e20,e22]
   ·rw[e35,e24,e26]
theorem gD:HI Try.prog 9 Try.f6.params.toList 0=some (fl,fc):=by kernel_rfl
theorem gF:∀p∈([(12,J6),(13,KO),(25,fa),(26,fV),(19,Jx),(27,fb)]:List (FuncId × Ak)),Aq Try.prog p.1 p.2:=by simp only[List.forall_mem_cons];exact⟨aa,av,gG,gE,Zt,gJ,fun _ h=>absurd h (by simp)⟩
theorem gH:∀T:Tab,AL T (BT 0 fc)→Bnd T 0 fc→TW 1048576 T 0 fc→Ag T ((fe).map En.be)→Nj T gA∧B T 40=true:=by
 intro T hS hBd hBl hE
 obtain⟨hz0,-,-,-,⟨hl4,he4⟩,-,-,-,-,-,⟨hl10,he10⟩,-⟩:=hBd
 replace hz0:(S T 0).size≤140737488355328:=hz0
 replace hl4:(L T 4).length≤140737488355328:=hl4
 replace hl10:(L T 10).length≤140737488355328:=hl10
 obtain⟨g,hg⟩:∃g:Ln,g=Ln.mk (S T 0) (I T 1) (I T 2) (I T 3) (L T 4) (I T 5) (I T 6) (I T 7) (I T 8) (I T 9) (L T 10):=⟨_,rfl⟩
 obtain⟨hb4,hb10,-⟩:=hBl
 replace hb4:(L T 4).length≤1048576:=hb4
 replace hb10:(L T 10).length≤1048576:=hb10
 skip
 obtain⟨A0,hO⟩:=Ar (tys:=[.b]) (rs:=gU) hS (by kernel_rfl) hE
 obtain⟨g1,z1⟩:∃g:Ln,g=Ln.mk (S T 0) (I T 1) (I T 2) (I T 3) (L T 4) (I T 5) (I T 6) (I T 7) (I T 8) (I T 9) (L T 10):=⟨_,rfl⟩
 obtain⟨g2,z2⟩:∃g:Ln,g=Ln.mk (S T 0) (I T 1) (I T 2) (I T 3) (L T 4) (I T 5) (I T 6) (I T 7) (I T 8) (I T 9) (L T 10):=⟨_,rfl⟩
 obtain⟨g3,z3⟩:∃g:Ln,g=Ln.mk (S T 0) (I T 1) (I T 2) (I T 3) (L T 4) (I T 5) (I T 6) (I T 7) (I T 8) (I T 9) (L T 10):=⟨_,rfl⟩
 have q0:=gN hz0 hl4 hl10 g hg hb4 hb10 g1 z1 g2 z2 g3 z3 A0
 exact⟨trivial,q0⟩
end Go.Eng
end
