/-
  A part of the proof: K_qrpostsd K_qrposts.
-/
import Derived.Test.YtmlmcidljiibaaaXQlPlaces
import Derived.Test.YtmlmcidljiibaaaE3
import Derived.Test.YtmlmcidljiibaaaE4
import Derived.Test.YtmlmcidljiibaaaKrcheck
import Derived.Test.YtmlmcidljiibaaaKrposts
set_option linter.unusedVariables false
set_option linter.unusedSimpArgs false
noncomputable section
open Go Go.Eng Go.Proofs
set_option maxHeartbeats 4000000
set_option maxRecDepth 100000
namespace Go.Eng
def mK:List U→List (List U):=fun us=>(lS (gAt 0 us))
def mH:List U→Int:=fun us=>(AT (gAt 0 us))
def mX:Ak:={ sh:=[.agg [.str,k64,k64,k64,.list [k64,k64,k64,k64,.bool],k64,k64,k64,k64,k64,.list [k64,k64,k64]]],blks:=[],outs:=[(.s "qrposts.0",PL mK),(.s "qrposts.1",Bj mH)],c:= .tup [.ro 11 [k64,k64,k64],(CR 12)],m':=[],pre:=[] }
def lT:List Rf:=[.e 0,.e 1,.e 2,.e 3,.e 4,.e 5,.e 6,.e 7,.e 8,.e 9,.e 10]
def oE:List En:=[⟨11,.outI "rcheck.0" GK,lT⟩,
 ⟨12,.ne,[.e 11,.c (.int 0)]⟩,
 ⟨13,.outI "rcheck.0" GK,lT⟩,
 ⟨14,.not,[.e 12]⟩,
 ⟨15,.outL "rposts.0" Hi,lT⟩,
 ⟨16,.ite .i,[.e 12,.e 13,.c (.int 0)]⟩,
 ⟨17,.ite .l,[.e 12,.c (.list []),.e 15]⟩,
 ⟨18,.or,[.e 12,.e 14]⟩]
def nQ:List En:=oE
def pY:List ObE:=[⟨some 14,.pre "rposts.p0" GW,lT⟩,
 ⟨some 14,.pre "rposts.p1" GF,lT⟩]
def nr:List Rf:=[.e 17,.e 16]
theorem pX:mX.sees nr (mX.run Try.prog [(16,C3),(69,Es)] Ah 3000 20 41)=some ((nQ).map En.be,pY.map ObE.be,[]):=by kernel_rfl
theorem pd {T:Tab}(hz0:(S T 0).size≤140737488355328)(hl4:(L T 4).length≤140737488355328)(hl10:(L T 10).length≤140737488355328)(g:Ln)(hg:g=Ln.mk (S T 0) (I T 1) (I T 2) (I T 3) (L T 4) (I T 5) (I T 6) (I T 7) (I T 8) (I T 9) (L T 10))(g1:Ln)(z1:g1=Ln.mk (S T 0) (I T 1) (I T 2) (I T 3) (L T 4) (I T 5) (I T 6) (I T 7) (I T 8) (I T 9) (L T 10))(A0:AJ T nQ):
  ((L T 17)=(lS g))∧
  ((I T 16)=(AT g))∧
  (B T 14=true→BV (L T 4)=true)∧
  (B T 14=true→((L T 4)).length≤12):=by
 have F0:=A0;clear A0
 have hgg:g1=g:=by
  rw[z1,hg]
 have hc:(B T 12)=false↔AT g=0:=by
  obtain⟨e11,e12,-⟩:=F0
  replace e11:I T 11=(AT g1):=by rw[←show gAt 0 (lT.map (Rf.eval T))=g1 from z1.symm];exact e11
  simp only[AE,zR] at e12
  have e11:(I T 11)=AT g:=by rw[e11,hgg]
  rw[←e11]
  clear hgg
  grind
 refine⟨?_,?_,?_,?_⟩
 ·obtain⟨e11,e12,-,-,e15,-,e17,-⟩:=F0
  replace e11:I T 11=(AT g1):=by rw[←show gAt 0 (lT.map (Rf.eval T))=g1 from z1.symm];exact e11
  replace e15:L T 15=(BC g1):=by rw[←show gAt 0 (lT.map (Rf.eval T))=g1 from z1.symm];exact e15
  simp only[AE,AF,zR,zL] at e12 e17
  unfold lS
  rw[e17]
  cases k:(B T 12) with
  |true=>rw[if_pos rfl,if_neg (fun h=>by have:=hc.2 h;simp[k] at this)]
  |false=>rw[if_neg (by simp),if_pos (hc.1 k),e15,hgg]
 ·obtain⟨e11,e12,e13,-,-,e16,-⟩:=F0
  replace e11:I T 11=(AT g1):=by rw[←show gAt 0 (lT.map (Rf.eval T))=g1 from z1.symm];exact e11
  replace e13:I T 13=(AT g1):=by rw[←show gAt 0 (lT.map (Rf.eval T))=g1 from z1.symm];exact e13
  simp only[AE,AF,zR,zL] at e12 e16
  rw[e16]
  cases k:(B T 12) with
  |true=>rw[if_pos rfl,e13,hgg]
  |false=>rw[if_neg (by simp),hc.1 k]
 ·obtain⟨e11,e12,-,e14,-⟩:=F0
  replace e11:I T 11=(AT g1):=by rw[←show gAt 0 (lT.map (Rf.eval T))=g1 from z1.symm];exact e11
  simp only[AE,AF,zR] at e12 e14
  intro h
  have h1:(B T 12)=false:=by grind
  have:=(CP (hc.1 h1)).2.2.2.2.2.1
  rw[hg] at this
  exact this
 ·obtain⟨e11,e12,-,e14,-⟩:=F0
  replace e11:I T 11=(AT g1):=by rw[←show gAt 0 (lT.map (Rf.eval T))=g1 from z1.symm];exact e11
  simp only[AE,AF,zR] at e12 e14
  intro h
  have h1:(B T 12)=false:=by grind
  have:=(CP (hc.1 h1)).2.2.2.1
  rw[hg] at this
  exact this
theorem o8:Aq Try.prog 41 mX:=by
 refine Ai (l:=[(16,C3),(69,Es)]) BX (by simp only[List.forall_mem_cons];exact⟨Yw,Yf,fun _ h=>absurd h (by simp)⟩) pX (by kernel_rfl) fun T us hpre hT hul hS hBd hE=>?_
 change us.length=11 at hul
 obtain⟨hz0,-,-,-,⟨hl4,he4⟩,-,-,-,-,-,⟨hl10,he10⟩,-⟩:=hBd
 replace hz0:(S T 0).size≤140737488355328:=hz0
 replace hl4:(L T 4).length≤140737488355328:=hl4
 replace hl10:(L T 10).length≤140737488355328:=hl10
 obtain⟨g,hg⟩:∃g:Ln,g=Ln.mk (S T 0) (I T 1) (I T 2) (I T 3) (L T 4) (I T 5) (I T 6) (I T 7) (I T 8) (I T 9) (L T 10):=⟨_,rfl⟩
 have hgu:gAt 0 us=g:=by rw[hg];exact DU hT hul (by decide)
 clear hpre
 skip
 obtain⟨A0,hO⟩:=Ar (tys:=[.l,.i]) (rs:=nr) hS (by kernel_rfl) hE
 obtain⟨g1,z1⟩:∃g:Ln,g=Ln.mk (S T 0) (I T 1) (I T 2) (I T 3) (L T 4) (I T 5) (I T 6) (I T 7) (I T 8) (I T 9) (L T 10):=⟨_,rfl⟩
 obtain⟨q0,q1,r0,r1⟩:=pd hz0 hl4 hl10 g hg g1 z1 A0
 refine⟨⟨r0,r1,trivial⟩,hO.trans ?_⟩
 exact (lc (by show U.list (L T 17)= .list (mK us);unfold mK;rw[hgu];exact congrArg U.list q0) (lc (by show U.int (I T 16)= .int (mH us);unfold mH;rw[hgu];exact congrArg U.int q1) rfl))
end Go.Eng
end
