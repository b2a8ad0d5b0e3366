/-
  A part of the proof: K_hatd K_hat.
-/
import Derived.Test.YtmlmcidljiibaaaXQlGaps
import Derived.Test.YtmlmcidljiibaaaE3
import Derived.Test.YtmlmcidljiibaaaE4
set_option linter.unusedVariables false
set_option linter.unusedSimpArgs false
noncomputable section
open Go Go.Eng Go.Proofs
set_option maxHeartbeats 4000000
set_option maxRecDepth 100000
namespace Go.Eng
def ti:List U→Int:=fun us=>(if (aB us 4)=true then (aI us 0)+(if (aB us 5)=true then (aI us 6) else -(aI us 6)) else (aI us 0)+(aI us 7))
def tf:List U→Int:=fun us=>(if (aB us 4)=true then (aI us 1)+(aI us 7) else (aI us 1)+(if (aB us 5)=true then (aI us 6) else -(aI us 6)))
def tc:List U→Prop:=fun us=>BB (aI us 0) (aI us 1) (aI us 2) (aI us 3)=true
def te:List U→Prop:=fun us=> -1000000≤(aI us 6)∧(aI us 6)≤1000000
def td:List U→Prop:=fun us=> -1000000≤(aI us 7)∧(aI us 7)≤1000000
def tp:Ak:={ sh:=[.agg [k64,k64,k64,k64,.bool],.one (.bool),.one (k64),.one (k64)],blks:=[],outs:=[(.s "hat.0",Bj ti),(.s "hat.1",Bj tf)],c:= .agg [(CR 8),(CR 9)],m':=[],pre:=[(.s "hat.p0",tc),(.s "hat.p1",te),(.s "hat.p2",td)] }
def ua:List En:=[⟨8,.not,[.e 5]⟩,
 ⟨9,.wneg .i64,[.e 6]⟩,
 ⟨10,.ite .i,[.e 5,.e 6,.e 9]⟩,
 ⟨11,.w2 .i64 .add,[.e 0,.e 10]⟩,
 ⟨12,.w2 .i64 .add,[.e 1,.e 7]⟩,
 ⟨13,.not,[.e 4]⟩,
 ⟨14,.w2 .i64 .add,[.e 0,.e 7]⟩,
 ⟨15,.w2 .i64 .add,[.e 1,.e 10]⟩,
 ⟨16,.ite .i,[.e 4,.e 11,.e 14]⟩,
 ⟨17,.ite .i,[.e 4,.e 12,.e 15]⟩,
 ⟨18,.or,[.e 4,.e 13]⟩]
def uS:List En:=ua
def uy:List ObE:=[]
def uh:List Rf:=[.e 16,.e 17]
theorem uw:tp.sees uh (tp.run Try.prog [] Ah 3000 20 32)=some ((uS).map En.be,uy.map ObE.be,[]):=by kernel_rfl
theorem uv {T:Tab}(pre0:BB (I T 0) (I T 1) (I T 2) (I T 3)=true)(pre1: -1000000≤I T 6∧I T 6≤1000000)(pre2: -1000000≤I T 7∧I T 7≤1000000)(A0:AJ T uS):
  ((I T 16)=(if (B T 4)=true then (I T 0)+(if (B T 5)=true then (I T 6) else -(I T 6)) else (I T 0)+I T 7))∧
  ((I T 17)=(if (B T 4)=true then (I T 1)+(I T 7) else (I T 1)+(if (B T 5)=true then (I T 6) else -(I T 6)))):=by
 have F0:=A0;clear A0
 refine⟨?_,?_⟩
 ·obtain⟨-,e9,e10,e11,-,-,e14,-,e16,-⟩:=F0
  simp only[AE,AF,zR,w2P,wnP,zL] at*
  obtain⟨p1,p2,p3,p4⟩:=LH.1 pre0
  have x9:=e9.1 (by omega) (by omega)
  have y10: -1000000≤I T 10∧I T 10≤1000000:=by rw[e10];split<;>omega
  have x11:=e11 (by omega) (by omega)
  have x14:=e14 (by omega) (by omega)
  rw[e16,x11,x14,e10,x9]
 ·obtain⟨-,e9,e10,-,e12,-,-,e15,-,e17,-⟩:=F0
  simp only[AE,AF,zR,w2P,wnP,zL] at*
  obtain⟨p1,p2,p3,p4⟩:=LH.1 pre0
  have x9:=e9.1 (by omega) (by omega)
  have y10: -1000000≤I T 10∧I T 10≤1000000:=by rw[e10];split<;>omega
  have x12:=e12 (by omega) (by omega)
  have x15:=e15 (by omega) (by omega)
  rw[e17,x12,x15,e10,x9]
theorem uo:Aq Try.prog 32 tp:=by
 refine Ai (l:=[]) BX (by intro p h;exact absurd h (by simp)) uw (by kernel_rfl) fun T us hpre hT hul hS hBd hE=>?_
 change us.length=8 at hul
 clear hBd
 have ha0:aI us 0=I T 0:=inI hT hul (by decide)
 have ha1:aI us 1=I T 1:=inI hT hul (by decide)
 have ha2:aI us 2=I T 2:=inI hT hul (by decide)
 have ha3:aI us 3=I T 3:=inI hT hul (by decide)
 have ha4:aB us 4=B T 4:=inB hT hul (by decide)
 have ha5:aB us 5=B T 5:=inB hT hul (by decide)
 have ha6:aI us 6=I T 6:=inI hT hul (by decide)
 have ha7:aI us 7=I T 7:=inI hT hul (by decide)
 have pre0:BB (I T 0) (I T 1) (I T 2) (I T 3)=true:=by
  have h:=hpre (.s "hat.p0",tc) (by simp[tp])
  change tc us at h
  unfold tc at h
  simp only[ha0,ha1,ha2,ha3] at h
  exact h
 have pre1: -1000000≤I T 6∧I T 6≤1000000:=by
  have h:=hpre (.s "hat.p1",te) (by simp[tp])
  change te us at h
  unfold te at h
  simp only[ha6] at h
  exact h
 have pre2: -1000000≤I T 7∧I T 7≤1000000:=by
  have h:=hpre (.s "hat.p2",td) (by simp[tp])
  change td us at h
  unfold td at h
  simp only[ha7] at h
  exact h
 clear hpre
 skip
 obtain⟨A0,hO⟩:=Ar (tys:=[.i,.i]) (rs:=uh) hS (by kernel_rfl) hE
 obtain⟨q0,q1⟩:=uv pre0 pre1 pre2 A0
 refine⟨trivial,hO.trans ?_⟩
 exact (lc (by show U.int (I T 16)= .int (ti us);unfold ti;rw[ha0,ha4,ha5,ha6,ha7];exact congrArg U.int q0) (lc (by show U.int (I T 17)= .int (tf us);unfold tf;rw[ha1,ha4,ha5,ha6,ha7];exact congrArg U.int q1) rfl))
end Go.Eng
end
