/-
  A part of the proof: K_rplacesd K_rplaces.
-/
import Derived.Test.YtmlmcidljiibaaaXQlFree
import Derived.Test.YtmlmcidljiibaaaE3
import Derived.Test.YtmlmcidljiibaaaE4
set_option linter.unusedVariables false
set_option linter.unusedSimpArgs false
noncomputable section
open Go Go.Eng Go.Proofs
set_option maxHeartbeats 4000000
set_option maxRecDepth 100000
namespace Go.Eng
def sJ:List U→Int:=fun us=>(2*((((gAt 0 us)).wide - 2*((gAt 0 us)).yard)+(((gAt 0 us)).long - 2*((gAt 0 us)).yard)))
def ri:List U→Prop:=fun us=>AT (gAt 0 us)=0
def sG:Ak:={ sh:=[.agg [.str,k64,k64,k64,.list [k64,k64,k64,k64,.bool],k64,k64,k64,k64,k64,.list [k64,k64,k64]]],blks:=[],outs:=[(.s "rplaces.0",Bj sJ)],c:=(CR 11),m':=[],pre:=[(.s "rplaces.p0",ri)] }
def se:List En:=[⟨11,.w2 .i64 .mul,[.c (.int 2),.e 3]⟩,
 ⟨12,.w2 .i64 .sub,[.e 1,.e 11]⟩,
 ⟨13,.w2 .i64 .mul,[.c (.int 2),.e 3]⟩,
 ⟨14,.w2 .i64 .sub,[.e 2,.e 13]⟩,
 ⟨15,.w2 .i64 .add,[.e 12,.e 14]⟩,
 ⟨16,.w2 .i64 .mul,[.c (.int 2),.e 15]⟩]
def sV:List En:=se
def tC:List ObE:=[]
def sd:List Rf:=[.e 16]
theorem tD:sG.sees sd (sG.run Try.prog [] Ah 3000 20 36)=some ((sV).map En.be,tC.map ObE.be,[]):=by kernel_rfl
theorem tJ {T:Tab}(hz0:(S T 0).size≤140737488355328)(hl4:(L T 4).length≤140737488355328)(hl10:(L T 10).length≤140737488355328)(g:Ln)(hg:g=Ln.mk (S T 0) (I T 1) (I T 2) (I T 3) (L T 4) (I T 5) (I T 6) (I T 7) (I T 8) (I T 9) (L T 10))(pre0:AT g=0)(A0:AJ T sV):
  ((I T 16)=(2*(((g).wide - 2*(g).yard)+((g).long - 2*(g).yard)))):=by
 have F0:=A0;clear A0
 have hw:g.wide=I T 1∧g.long=I T 2∧g.yard=I T 3∧g.nx=I T 8∧g.ny=I T 9∧g.cells=((L T 10)):=by
  rw[hg];exact⟨rfl,rfl,rfl,rfl,rfl,rfl⟩
 ·obtain⟨e11,e12,e13,e14,e15,e16,-⟩:=F0
  simp only[AE,zR,w2P] at*
  have h3:=CP pre0
  rw[hw.1,hw.2.1,hw.2.2.1] at*
  obtain⟨⟨⟨d1,d2⟩,⟨d3,d4⟩,d5,d6⟩,d7,d8,-⟩:=h3
  have x11:=e11 (by omega) (by omega)
  have x12:=e12 (by omega) (by omega)
  have x13:=e13 (by omega) (by omega)
  have x14:=e14 (by omega) (by omega)
  have x15:=e15 (by omega) (by omega)
  have x16:=e16 (by omega) (by omega)
  omega
theorem s8:Aq Try.prog 36 sG:=by
 refine Ai (l:=[]) BX (by intro p h;exact absurd h (by simp)) tD (by kernel_rfl) fun T us hpre hT hul hS hBd hE=>?_
 change us.length=11 at hul
 obtain⟨hz0,-,-,-,⟨hl4,he4⟩,-,-,-,-,-,⟨hl10,he10⟩,-⟩:=hBd
 replace hz0:(S T 0).size≤140737488355328:=hz0
 replace hl4:(L T 4).length≤140737488355328:=hl4
 replace hl10:(L T 10).length≤140737488355328:=hl10
 obtain⟨g,hg⟩:∃g:Ln,g=Ln.mk (S T 0) (I T 1) (I T 2) (I T 3) (L T 4) (I T 5) (I T 6) (I T 7) (I T 8) (I T 9) (L T 10):=⟨_,rfl⟩
 have hgu:gAt 0 us=g:=by rw[hg];exact DU hT hul (by decide)
 have pre0:AT g=0:=by
  have h:=hpre (.s "rplaces.p0",ri) (by simp[sG])
  change ri us at h
  unfold ri at h
  simp only[hgu] at h
  exact h
 clear hpre
 skip
 obtain⟨A0,hO⟩:=Ar (tys:=[.i]) (rs:=sd) hS (by kernel_rfl) hE
 have q0:=tJ hz0 hl4 hl10 g hg pre0 A0
 refine⟨trivial,hO.trans ?_⟩
 exact (lc (by show U.int (I T 16)= .int (sJ us);unfold sJ;rw[hgu];exact congrArg U.int q0) rfl)
end Go.Eng
end
