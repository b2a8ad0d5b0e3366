/-
  A part of the proof: K_rfollowd K_rfollow.
-/
import Derived.Test.YtcinpabggaepfaaXQlTurns
import Derived.Test.YtcinpabggaepfaaE3
import Derived.Test.YtcinpabggaepfaaE4
set_option linter.unusedVariables false
set_option linter.unusedSimpArgs false
section
open Go Go.Eng Go.Proofs
set_option maxHeartbeats 4000000
set_option maxRecDepth 100000
namespace Go.Eng
def o_rfollow_0:List U→Int:=fun us=>(followS (aI us 0))
def p_rfollow_0:List U→Prop:=fun us=>0≤(aI us 0)∧(aI us 0)≤1073741824
def t_rfollow:Tmpl:={ sh:=[.one (k64)],blks:=[],outs:=[(.s "rfollow.0",outUI o_rfollow_0)],c:=(aI64 1),m':=[],pre:=[(.s "rfollow.p0",p_rfollow_0)] }
noncomputable def a_rfollow_0_0:List En:=[⟨1,.eq,[.e 0,.c (.int 1073741824)]⟩,
 ⟨2,.not,[.e 1]⟩,
 ⟨3,.w2 .i64 .add,[.e 0,.c (.int 1)]⟩,
 ⟨4,.ite .i,[.e 1,.c (.int 1073741823),.e 3]⟩,
 ⟨5,.or,[.e 1,.e 2]⟩]
noncomputable def a_rfollow_0:List En:=a_rfollow_0_0
noncomputable def q_rfollow:List ObE:=[]
def r_rfollow:List Rf:=[.e 4]
end Go.Eng
end
section
open Go Go.Eng Go.Proofs
set_option maxHeartbeats 4000000
set_option maxRecDepth 100000
namespace Go.Eng
theorem s_rfollow:t_rfollow.sees r_rfollow (t_rfollow.run Try.prog [] hints 3000 20 15)=some ((a_rfollow_0).map En.be,q_rfollow.map ObE.be,[]):=by kernel_rfl
theorem m_rfollow {T:Tab}(pre0:0≤I T 0∧I T 0≤1073741824)(A0:Facts T a_rfollow_0):
  ((I T 4)=(followS (I T 0))):=by
 have F0:=A0;clear A0
 ·obtain⟨e1,-,e3,e4,-⟩:=F0
  simp only[fact,bR_e,zR,w2P,zL] at e1 e3 e4
  (try simp only[followS,zB])<;>grind (splits:=100)
theorem ok_rfollow:TmplOK Try.prog 15 t_rfollow:=by
 refine tmpl_sees (l:=[]) mixed (by intro p h;exact absurd h (by simp)) s_rfollow (by kernel_rfl) fun T us hpre hT hul hS hBd hE=>?_
 change us.length=1 at hul
 obtain⟨⟨lo0,hi0⟩,-⟩:=hBd
 clear lo0 hi0
 have ha0:aI us 0=I T 0:=inI hT hul (by decide)
 have pre0:0≤I T 0∧I T 0≤1073741824:=by
  have h:=hpre (.s "rfollow.p0",p_rfollow_0) (by simp[t_rfollow])
  change p_rfollow_0 us at h
  unfold p_rfollow_0 at h
  simp only[ha0] at h
  exact h
 clear hpre
 skip
 obtain⟨A0,hO⟩:=chkO_ok (tys:=[.i]) (rs:=r_rfollow) hS (by kernel_rfl) hE
 have q0:=m_rfollow pre0 A0
 refine⟨trivial,hO.trans ?_⟩
 exact (lc (by show U.int (I T 4)= .int (o_rfollow_0 us);unfold o_rfollow_0;rw[ha0];exact congrArg U.int q0) rfl)
end Go.Eng
end
