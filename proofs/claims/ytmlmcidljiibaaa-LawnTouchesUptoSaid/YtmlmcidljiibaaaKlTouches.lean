/-
  A part of the proof: K_lTouchesd K_lTouches.
-/
import Derived.Test.YtmlmcidljiibaaaXQlTouches
import Derived.Test.YtmlmcidljiibaaaE3
import Derived.Test.YtmlmcidljiibaaaE4
import Derived.Test.YtmlmcidljiibaaaKgreat
import Derived.Test.YtmlmcidljiibaaaKworks
import Derived.Test.YtmlmcidljiibaaaKway
import Derived.Test.YtmlmcidljiibaaaKrway
import Derived.Test.YtmlmcidljiibaaaKtouched
import Derived.Test.YtmlmcidljiibaaaKrtouched
import Derived.Test.YtmlmcidljiibaaaKmay
import Derived.Test.YtmlmcidljiibaaaKrmay
import Derived.Test.YtmlmcidljiibaaaKsame
set_option linter.unusedVariables false
set_option linter.unusedSimpArgs false
noncomputable section
open Go Go.Eng Go.Proofs
set_option maxHeartbeats 4000000
set_option maxRecDepth 100000
namespace Go.Eng
def hJ:List Kd:=[.str,k64,k64,k64,.list [k64,k64,k64,k64,.bool],k64,k64,k64,k64,k64,.list [k64,k64,k64],k64,k64,k64,k64,k64,.list [k64,k64,k64]]
def ii:List AC:=((HI Try.prog 9 Try.f7.params.toList 0).map (·.1)).getD []
def iW:List Rf:=[.e 0,.e 1,.e 2,.e 3,.e 4,.e 5,.e 6,.e 7,.e 8,.e 9,.e 10]
def gW:List Rf:=[.e 0,.e 1,.e 2,.e 3,.e 4,.e 5,.e 6,.e 7,.e 8,.e 9,.e 10,.e 11,.e 12,.e 13,.e 14,.e 15,.e 16]
def f6:List Rf:=[.e 0,.e 1,.e 2,.e 3,.e 4,.e 5,.e 6,.e 7,.e 8,.e 9,.e 10,.e 13,.e 14,.e 15,.e 16]
def i5:List En:=[⟨17,.outB "great.0" JV,iW⟩,
 ⟨18,.not,[.e 17]⟩,
 ⟨19,.len,[.e 16]⟩,
 ⟨20,.lt,[.c (.int 20),.e 19]⟩,
 ⟨21,.or,[.e 17,.e 20]⟩,
 ⟨22,.outB "works.0" HN,[]⟩,
 ⟨23,.not,[.e 21]⟩,
 ⟨24,.outL "way.0" M6,gW⟩,
 ⟨25,.outI "way.1" M7,gW⟩,
 ⟨26,.outL "rway.0" iD,gW⟩,
 ⟨27,.outI "rway.1" hM,gW⟩,
 ⟨28,.outL "touched.0" gj,f6⟩,
 ⟨29,.outI "touched.1" gh,f6⟩,
 ⟨30,.outL "rtouched.0" gc,f6⟩,
 ⟨31,.outI "rtouched.1" gg,f6⟩,
 ⟨32,.outB "may.0" ib,f6⟩]
def iy:List En:=[⟨33,.outI "may.1" ia,f6⟩,
 ⟨34,.outB "rmay.0" iP,f6⟩,
 ⟨35,.outI "rmay.1" iU,f6⟩,
 ⟨36,.outB "same.0" iF,[.e 24,.e 26]⟩,
 ⟨37,.and,[.e 23,.e 36]⟩,
 ⟨38,.outB "same.0" iF,[.e 28,.e 30]⟩,
 ⟨39,.and,[.e 36,.e 38]⟩,
 ⟨40,.and,[.e 23,.e 39]⟩,
 ⟨41,.eqb,[.e 32,.e 34]⟩,
 ⟨42,.and,[.e 39,.e 41]⟩,
 ⟨43,.and,[.e 23,.e 42]⟩,
 ⟨44,.eq,[.e 25,.e 27]⟩,
 ⟨45,.and,[.e 42,.e 44]⟩,
 ⟨46,.and,[.e 23,.e 45]⟩,
 ⟨47,.eq,[.e 29,.e 31]⟩,
 ⟨48,.and,[.e 45,.e 47]⟩]
def iz:List En:=[⟨49,.and,[.e 23,.e 48]⟩,
 ⟨50,.eq,[.e 33,.e 35]⟩,
 ⟨51,.and,[.e 48,.e 50]⟩,
 ⟨52,.and,[.e 23,.e 51]⟩,
 ⟨53,.outB "works.0" HN,[]⟩,
 ⟨54,.and,[.e 51,.e 53]⟩,
 ⟨55,.ite .b,[.e 21,.e 22,.e 54]⟩,
 ⟨56,.or,[.e 21,.e 23]⟩]
def iG:List En:=i5++(iy++(iz))
def iq:List ObE:=[]
def jn:List Rf:=[.e 55]
theorem jY:WP 17 (YW Try.prog [(12,J6),(13,KO),(17,M9),(28,hG),(20,gf),(29,gY),(30,it),(31,iY),(21,iK)] Ah 3000 20 7 ii 17)=some (55,(iG).map En.be,iq.map ObE.be):=by kernel_rfl
theorem jq {T:Tab}(hz0:(S T 0).size≤140737488355328)(hl4:(L T 4).length≤140737488355328)(hl10:(L T 10).length≤140737488355328)(hl16:(L T 16).length≤140737488355328)(g:Ln)(hg:g=Ln.mk (S T 0) (I T 1) (I T 2) (I T 3) (L T 4) (I T 5) (I T 6) (I T 7) (I T 8) (I T 9) (L T 10))(hb4:(L T 4).length≤1048576)(hb10:(L T 10).length≤1048576)(hb16:(L T 16).length≤1048576)(g1:Ln)(z1:g1=Ln.mk (S T 0) (I T 1) (I T 2) (I T 3) (L T 4) (I T 5) (I T 6) (I T 7) (I T 8) (I T 9) (L T 10))(g2:Ln)(z2:g2=Ln.mk (S T 0) (I T 1) (I T 2) (I T 3) (L T 4) (I T 5) (I T 6) (I T 7) (I T 8) (I T 9) (L T 10))(g3:Ln)(z3:g3=Ln.mk (S T 0) (I T 1) (I T 2) (I T 3) (L T 4) (I T 5) (I T 6) (I T 7) (I T 8) (I T 9) (L T 10))(A0:AJ T iG):
  ((B T 55)=(true)):=by
 obtain⟨F0,A0⟩:=A0.cut
 obtain⟨F1,A0⟩:=A0.cut
 have F2:=A0;clear A0
 ·obtain⟨e17,-,e19,e20,e21,e22,-,e24,e25,e26,e27,e28,e29,e30,e31,e32,-⟩:=F0
  obtain⟨e33,e34,e35,e36,-,e38,e39,-,e41,e42,-,e44,e45,-,e47,e48,-⟩:=F1
  obtain⟨-,e50,e51,-,e53,e54,e55,-⟩:=F2
  replace e17:B T 17=(Ld g1):=by rw[←show gAt 0 (iW.map (Rf.eval T))=g1 from z1.symm];exact e17
  replace e22:B T 22=(true):=e22
  replace e24:L T 24=(Nz g2 (I T 11) (I T 12) (I T 13) (I T 14) (I T 15) (L T 16)):=by rw[←show gAt 0 (gW.map (Rf.eval T))=g2 from z2.symm];exact e24
  replace e25:I T 25=(Kb g2 (I T 11) (I T 12) (I T 13) (I T 14) (I T 15) (L T 16)):=by rw[←show gAt 0 (gW.map (Rf.eval T))=g2 from z2.symm];exact e25
  replace e26:L T 26=(Nz g2 (I T 11) (I T 12) (I T 13) (I T 14) (I T 15) (L T 16)):=by rw[←show gAt 0 (gW.map (Rf.eval T))=g2 from z2.symm];exact e26
  replace e27:I T 27=(Kb g2 (I T 11) (I T 12) (I T 13) (I T 14) (I T 15) (L T 16)):=by rw[←show gAt 0 (gW.map (Rf.eval T))=g2 from z2.symm];exact e27
  replace e28:L T 28=(Nz g3 (I T 13) (I T 14) (I T 13) (I T 14) (I T 15) (L T 16)):=by rw[←show gAt 0 (f6.map (Rf.eval T))=g3 from z3.symm];exact e28
  replace e29:I T 29=(Kb g3 (I T 13) (I T 14) (I T 13) (I T 14) (I T 15) (L T 16)):=by rw[←show gAt 0 (f6.map (Rf.eval T))=g3 from z3.symm];exact e29
  replace e30:L T 30=(Nz g3 (I T 13) (I T 14) (I T 13) (I T 14) (I T 15) (L T 16)):=by rw[←show gAt 0 (f6.map (Rf.eval T))=g3 from z3.symm];exact e30
  replace e31:I T 31=(Kb g3 (I T 13) (I T 14) (I T 13) (I T 14) (I T 15) (L T 16)):=by rw[←show gAt 0 (f6.map (Rf.eval T))=g3 from z3.symm];exact e31
  replace e32:B T 32=(iJ g3 (I T 13) (I T 14) (I T 15) (L T 16)):=by rw[←show gAt 0 (f6.map (Rf.eval T))=g3 from z3.symm];exact e32
  replace e33:I T 33=(Kb g3 (I T 13) (I T 14) (I T 13) (I T 14) (I T 15) (L T 16)):=by rw[←show gAt 0 (f6.map (Rf.eval T))=g3 from z3.symm];exact e33
  replace e34:B T 34=(iJ g3 (I T 13) (I T 14) (I T 15) (L T 16)):=by rw[←show gAt 0 (f6.map (Rf.eval T))=g3 from z3.symm];exact e34
  replace e35:I T 35=(Kb g3 (I T 13) (I T 14) (I T 13) (I T 14) (I T 15) (L T 16)):=by rw[←show gAt 0 (f6.map (Rf.eval T))=g3 from z3.symm];exact e35
  replace e36:B T 36=(iI (L T 24) (L T 26)):=e36
  replace e38:B T 38=(iI (L T 28) (L T 30)):=e38
  replace e53:B T 53=(true):=e53
  simp only[AE,AF,zR,zL] at*
  rw[e55]
  by_cases h:(B T 21)=true
  ·exact .inl ⟨h,e22⟩
  ·refine .inr ⟨h,e54.2 ⟨e51.2 ⟨e48.2 ⟨e45.2 ⟨e42.2 ⟨e39.2 ⟨?_,?_⟩,?_⟩,?_⟩,?_⟩,?_⟩,e53⟩⟩
   ·rw[e36,e24,e26];exact jA _
   ·rw[e38,e28,e30];exact jA _
   ·rw[e41,e32,e34]
   ·rw[e44,e25,e27]
   ·rw[e47,e29,e31]
   ·rw[e50,e33,e35]
theorem jC:HI Try.prog 9 Try.f7.params.toList 0=some (ii,hJ):=by kernel_rfl
theorem jM:∀p∈([(12,J6),(13,KO),(17,M9),(28,hG),(20,gf),(29,gY),(30,it),(31,iY),(21,iK)]:List (FuncId × Ak)),Aq Try.prog p.1 p.2:=by simp only[List.forall_mem_cons];exact⟨aa,av,eT,jV,iv,ig,kl,kO,kN,fun _ h=>absurd h (by simp)⟩
theorem jT:∀T:Tab,AL T (BT 0 hJ)→Bnd T 0 hJ→TW 1048576 T 0 hJ→Ag T ((iG).map En.be)→Nj T iq∧B T 55=true:=by
 intro T hS hBd hBl hE
 obtain⟨hz0,-,-,-,⟨hl4,he4⟩,-,-,-,-,-,⟨hl10,he10⟩,-,-,-,-,-,⟨hl16,he16⟩,-⟩:=hBd
 replace hz0:(S T 0).size≤140737488355328:=hz0
 replace hl4:(L T 4).length≤140737488355328:=hl4
 replace hl10:(L T 10).length≤140737488355328:=hl10
 replace hl16:(L T 16).length≤140737488355328:=hl16
 obtain⟨g,hg⟩:∃g:Ln,g=Ln.mk (S T 0) (I T 1) (I T 2) (I T 3) (L T 4) (I T 5) (I T 6) (I T 7) (I T 8) (I T 9) (L T 10):=⟨_,rfl⟩
 obtain⟨hb4,hb10,hb16,-⟩:=hBl
 replace hb4:(L T 4).length≤1048576:=hb4
 replace hb10:(L T 10).length≤1048576:=hb10
 replace hb16:(L T 16).length≤1048576:=hb16
 skip
 obtain⟨A0,hO⟩:=Ar (tys:=[.b]) (rs:=jn) hS (by kernel_rfl) hE
 obtain⟨g1,z1⟩:∃g:Ln,g=Ln.mk (S T 0) (I T 1) (I T 2) (I T 3) (L T 4) (I T 5) (I T 6) (I T 7) (I T 8) (I T 9) (L T 10):=⟨_,rfl⟩
 obtain⟨g2,z2⟩:∃g:Ln,g=Ln.mk (S T 0) (I T 1) (I T 2) (I T 3) (L T 4) (I T 5) (I T 6) (I T 7) (I T 8) (I T 9) (L T 10):=⟨_,rfl⟩
 obtain⟨g3,z3⟩:∃g:Ln,g=Ln.mk (S T 0) (I T 1) (I T 2) (I T 3) (L T 4) (I T 5) (I T 6) (I T 7) (I T 8) (I T 9) (L T 10):=⟨_,rfl⟩
 have q0:=jq hz0 hl4 hl10 hl16 g hg hb4 hb10 hb16 g1 z1 g2 z2 g3 z3 A0
 exact⟨trivial,q0⟩
end Go.Eng
end
