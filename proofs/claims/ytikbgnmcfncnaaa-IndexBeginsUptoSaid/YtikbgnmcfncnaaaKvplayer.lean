/-
  A part of the proof: K_vplayerd K_vplayer.
-/
import Derived.Test.YtikbgnmcfncnaaaE4
import Derived.Test.YtikbgnmcfncnaaaE5
import Derived.Test.YtikbgnmcfncnaaaKxvname
set_option linter.unusedVariables false
set_option linter.unusedSimpArgs false
noncomputable section
namespace Go.Eng
section
open Go Go.Eng Go.Proofs
set_option maxHeartbeats 4000000
set_option maxRecDepth 100000
def EX:List U->Bool:=fun us=>(DC (aS us 0) (aI us 1) (aI us 2))
def Ev:AV:={ sh:=[.agg [.str,k64,k64]],blks:=[],outs:=[(.s "vplayer.0",LP EX)],c:= .b 3,m':=[],pre:=[] }
def So:List En:=[⟨3,.outB "xvname.0" Gw,[.e 0]⟩,
 ⟨4,.id .b,[.e 3]⟩,
 ⟨5,.le,[.c (.int (-10000)),.e 1]⟩,
 ⟨6,.and,[.e 4,.e 5]⟩,
 ⟨7,.le,[.e 1,.c (.int 10000)]⟩,
 ⟨8,.and,[.e 5,.e 7]⟩,
 ⟨9,.and,[.e 3,.e 8]⟩,
 ⟨10,.id .b,[.e 9]⟩,
 ⟨11,.le,[.c (.int (-12)),.e 2]⟩,
 ⟨12,.and,[.e 9,.e 11]⟩,
 ⟨13,.id .b,[.e 12]⟩,
 ⟨14,.le,[.e 2,.c (.int 48)]⟩,
 ⟨15,.and,[.e 12,.e 14]⟩]
def OK:List En:=So
def aY:List ObE:=[]
def SW:List Rf:=[.e 15]
theorem cA:Ev.sees SW (Ev.run Try.prog [(83,I9)] AW 3000 20 82)=some ((OK).map En.be,aY.map ObE.be,[]):=by kernel_rfl
theorem aC {T:Tab}(hz0:(S T 0).size<=140737488355328)(A0:AH T OK):
  ((B T 15)=(DC (S T 0) (I T 1) (I T 2))):=by
 have F0:=A0;clear A0
 .obtain⟨e3,-,e5,-,e7,e8,e9,-,e11,e12,-,e14,e15,-⟩:=F0;replace e3:B T 3=(EC (S T 0)):=e3;simp only[AI,AP,zR] at e5 e7 e8 e9 e11 e12 e14 e15;refine Bool.eq_iff_iff.2 (Iff.trans ?_ Ea.symm);rw[<-e3,e15,e12,e9,e8,e5,e7,e11,e14];constructor
  .rintro⟨⟨⟨h1,h2⟩,h3⟩,h4⟩;exact⟨h1,h2,h3,h4⟩
  .rintro⟨h1,h2,h3,h4⟩;exact⟨⟨⟨h1,h2⟩,h3⟩,h4⟩
theorem QA:Ae Try.prog 82 Ev:=by
 refine BH (l:=[(83,I9)]) Bh (by simp only[List.forall_mem_cons];exact⟨Ra,fun _ h=>absurd h (by simp)⟩) cA (by kernel_rfl) fun T us hpre hT hul hS hBd hE=>?_;change us.length=3 at hul;obtain⟨hz0,-⟩:=hBd;replace hz0:(S T 0).size<=140737488355328:=hz0;have ha0:aS us 0=S T 0:=inS hT hul (by decide);have ha1:aI us 1=I T 1:=inI hT hul (by decide);have ha2:aI us 2=I T 2:=inI hT hul (by decide);clear hpre
 skip
 obtain⟨A0,hO⟩:=BG (tys:=[.b]) (rs:=SW) hS (by kernel_rfl) hE;have q0:=aC hz0 A0;refine⟨trivial,hO.trans ?_⟩;exact (lc (by show U.bool (B T 15)= .bool (EX us);unfold EX;rw[ha0,ha1,ha2];exact congrArg U.bool q0) rfl)
end
end Go.Eng
end
