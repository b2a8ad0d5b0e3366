/-
  A part of the proof: K_trigd K_trig.
-/
import Derived.Test.YtikbgnmcfncnaaaE4
import Derived.Test.YtikbgnmcfncnaaaE5
set_option linter.unusedVariables false
set_option linter.unusedSimpArgs false
noncomputable section
namespace Go.Eng
section
open Go Go.Eng Go.Proofs
set_option maxHeartbeats 4000000
set_option maxRecDepth 100000
def HL:List U->Int:=fun us=>(BU (aI us 0))
def Ft:List U->Prop:=fun us=> -100<=(aI us 0)/\(aI us 0)<=100
def Hp:AV:={ sh:=[.one (k64)],blks:=[],outs:=[(.s "trig.0",Bl HL)],c:=(C4 1),m':=[],pre:=[(.s "trig.p0",Ft)] }
def Yc:List En:=[⟨1,.le,[.e 0,.c (.int 0)]⟩,
 ⟨2,.not,[.e 1]⟩,
 ⟨3,.ite .i,[.e 1,.c (.int 40),.c (.int 50)]⟩,
 ⟨4,.w2 .i64 .mul,[.e 3,.e 0]⟩,
 ⟨5,.w2 .i64 .sub,[.c (.int 2000),.e 4]⟩]
def VR:List En:=Yc
def iO:List ObE:=[]
def bz:List Rf:=[.e 5]
theorem gy:Hp.sees bz (Hp.run Try.prog [] AW 3000 20 69)=some ((VR).map En.be,iO.map ObE.be,[]):=by kernel_rfl
theorem gz {T:Tab}(pre0: -100<=I T 0/\I T 0<=100)(A0:AH T VR):
  ((I T 5)=(BU (I T 0))):=by
 have F0:=A0;clear A0
 .obtain⟨e1,-,e3,e4,e5,-⟩:=F0;simp only[AI,AP,zR,w2P,zL,zS] at e1 e3 e4 e5;unfold BU;have x3:=e3;by_cases h:(I T 0)<=0
  .rw[if_pos (e1.2 h)] at x3;rw[x3] at e4;have x4:=e4 (by omega) (by omega);have x5:=e5 (by omega) (by omega);rw[if_pos h];omega
  .rw[if_neg (fun a=>h (e1.1 a))] at x3;rw[x3] at e4;have x4:=e4 (by omega) (by omega);have x5:=e5 (by omega) (by omega);rw[if_neg h];omega
theorem XL:Ae Try.prog 69 Hp:=by
 refine BH (l:=[]) Bh (by intro p h;exact absurd h (by simp)) gy (by kernel_rfl) fun T us hpre hT hul hS hBd hE=>?_;change us.length=1 at hul;clear hBd;have ha0:aI us 0=I T 0:=inI hT hul (by decide);have pre0: -100<=I T 0/\I T 0<=100:=by
  have h:=hpre (.s "trig.p0",Ft) (by simp[Hp]);change Ft us at h;unfold Ft at h;simp only[ha0] at h;exact h
 clear hpre
 skip
 obtain⟨A0,hO⟩:=BG (tys:=[.i]) (rs:=bz) hS (by kernel_rfl) hE;have q0:=gz pre0 A0;refine⟨trivial,hO.trans ?_⟩;exact (lc (by show U.int (I T 5)= .int (HL us);unfold HL;rw[ha0];exact congrArg U.int q0) rfl)
end
end Go.Eng
end
