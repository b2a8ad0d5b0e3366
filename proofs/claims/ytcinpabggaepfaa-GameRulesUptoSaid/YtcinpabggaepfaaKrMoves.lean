/-
  A part of the proof: K_rMovesd K_rMoves.
-/
import Derived.Test.YtcinpabggaepfaaXQlRules
import Derived.Test.YtcinpabggaepfaaE3
import Derived.Test.YtcinpabggaepfaaE4
import Derived.Test.YtcinpabggaepfaaKrlegal
import Derived.Test.YtcinpabggaepfaaKrmoves
set_option linter.unusedVariables false
set_option linter.unusedSimpArgs false
noncomputable section
open Go Go.Eng Go.Proofs
set_option maxHeartbeats 4000000
set_option maxRecDepth 100000
namespace Go.Eng
def rc:List U→List (List U):=fun us=>((if AR (gAt 0 us)=true then C2 (gAt 0 us) else []))
def rv:List U→Int:=fun us=>((if AR (gAt 0 us)=true then 0 else 2))
def sE:Bc:={ sh:=[.agg [k64,k64,k64,k64,k64,k64,k64,k64,k64,.bool,.bool,.bool,.bool,.bool,.bool,.bool,.bool,k64,k64,.bool,.bool,.bool,k64,k64,k64,k64]],blks:=[],outs:=[(.s "rMoves.0",jD rc),(.s "rMoves.1",AI rv)],c:= .tup [.ro 26 [k64,k64,.bool,.list [k64,k64]],(AG 27)],m':=[],pre:=[] }
def rR:List Rf:=[.e 0,.e 1,.e 2,.e 3,.e 4,.e 5,.e 6,.e 7,.e 8,.e 9,.e 10,.e 11,.e 12,.e 13,.e 14,.e 15,.e 16,.e 17,.e 18,.e 19,.e 20,.e 21,.e 22,.e 23,.e 24,.e 25]
def tj:List En:=[⟨26,.outB "rlegal.0" Ik,rR⟩,
 ⟨27,.not,[.e 26]⟩,
 ⟨28,.outL "rmoves.0" Jj,rR⟩,
 ⟨29,.ite .i,[.e 27,.c (.int 2),.c (.int 0)]⟩,
 ⟨30,.ite .l,[.e 27,.c (.list []),.e 28]⟩,
 ⟨31,.or,[.e 27,.e 26]⟩]
def tM:List En:=tj
def vN:List ObE:=[⟨some 26,.btw (0) (1),[.e 2]⟩,
 ⟨some 26,.pre "rmoves.p0" Ej,rR⟩]
def uD:List Rf:=[.e 30,.e 29]
theorem vH:sE.sees uD (sE.run Try.prog [(36,Hw),(37,Is)] Ba 3000 20 29)=some ((tM).map En.be,vN.map ObE.be,[]):=by kernel_rfl
theorem vE {T:Tab}(g:Gm)(hg:g=gT T 0)(g1:Gm)(z1:g1=gT T 0)(A0:AK T tM):
  ((L T 30)=((if AR g=true then C2 g else [])))∧
  ((I T 29)=((if AR g=true then 0 else 2)))∧
  (B T 26=true→0≤I T 2∧I T 2≤1)∧
  (B T 26=true→AR g1=true):=by
 have F0:=A0;clear A0
 have hgA:g1=g:=by rw[z1,hg]
 have h26:(B T 26)=true↔AR g=true:=by
  obtain⟨e26,-⟩:=F0
  replace e26:B T 26=(AR g1):=by rw[←show gAt 0 (rR.map (Rf.eval T))=g1 from z1.symm];exact e26
  rw[e26,hgA]
 have h28:(L T 28)=C2 g:=by
  obtain⟨-,-,e28,-⟩:=F0
  replace e28:L T 28=(C2 g1):=by rw[←show gAt 0 (rR.map (Rf.eval T))=g1 from z1.symm];exact e28
  rw[e28,hgA]
 refine⟨?_,?_,?_,?_⟩
 ·obtain⟨-,e27,-,-,e30,-⟩:=F0
  simp only[AA,AD,zR,zL] at e27 e30
  clear hg hgA
  cases hx:AR g with
  |false=>rw[if_neg (by decide)];grind
  |true=>rw[if_pos rfl];grind
 ·obtain⟨-,e27,-,e29,-⟩:=F0
  simp only[AA,AD,zR,zL] at e27 e29
  clear hg hgA h28
  cases hx:AR g with
  |false=>rw[if_neg (by decide)];grind
  |true=>rw[if_pos rfl];grind
 ·obtain⟨e26,-⟩:=F0
  replace e26:B T 26=(AR g1):=by rw[←show gAt 0 (rR.map (Rf.eval T))=g1 from z1.symm];exact e26
  intro h
  have h:=(CS (h26.1 h)).side
  rw[hg] at h;exact h
 ·obtain⟨e26,-⟩:=F0
  replace e26:B T 26=(AR g1):=by rw[←show gAt 0 (rR.map (Rf.eval T))=g1 from z1.symm];exact e26
  intro h
  rw[hgA];exact h26.1 h
theorem uw:CA Try.prog 29 sE:=by
 refine Bu (l:=[(36,Hw),(37,Is)]) C6 (by simp only[List.forall_mem_cons];exact⟨Uc,ej,fun _ h=>absurd h (by simp)⟩) vH (by kernel_rfl) fun T us hpre hT hul hS hBd hE=>?_
 change us.length=26 at hul
 clear hBd
 obtain⟨g,hg⟩:∃g:Gm,g=gT T 0:=⟨_,rfl⟩
 have hgu:gAt 0 us=g:=by rw[hg];exact DV hT hul (by decide)
 clear hpre
 skip
 obtain⟨A0,hO⟩:=CK (tys:=[.l,.i]) (rs:=uD) hS (by kernel_rfl) hE
 obtain⟨g1,z1⟩:∃g:Gm,g=gT T 0:=⟨_,rfl⟩
 obtain⟨q0,q1,r0,r1⟩:=vE g hg g1 z1 A0
 refine⟨⟨r0,(fun hp=>by show Ej _;unfold Ej;rw[show gAt 0 (rR.map (Rf.eval T))=g1 from z1.symm];exact r1 hp),trivial⟩,hO.trans ?_⟩
 exact (lc (by show U.list (L T 30)= .list (rc us);unfold rc;rw[hgu];exact congrArg U.list q0) (lc (by show U.int (I T 29)= .int (rv us);unfold rv;rw[hgu];exact congrArg U.int q1) rfl))
end Go.Eng
end
