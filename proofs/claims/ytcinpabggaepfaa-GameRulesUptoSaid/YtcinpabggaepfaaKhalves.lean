/-
  A part of the proof: K_halvesd K_halves.
-/
import Derived.Test.YtcinpabggaepfaaE3
import Derived.Test.YtcinpabggaepfaaE4
import Derived.Test.YtcinpabggaepfaaKlaws
set_option linter.unusedVariables false
set_option linter.unusedSimpArgs false
noncomputable section
open Go Go.Eng Go.Proofs
set_option maxHeartbeats 4000000
set_option maxRecDepth 100000
namespace Go.Eng
def Jb:List U→Bool:=fun us=>(DD (aI us 0) (aI us 1) (aI us 2))
def J3:Bc:={ sh:=[.one (k64),.agg [k64,k64]],blks:=[],outs:=[(.s "halves.0",AQ Jb)],c:= .b 3,m':=[],pre:=[] }
def X6:List En:=[⟨3,.lt,[.e 1,.c (.int 0)]⟩,
 ⟨4,.not,[.e 3]⟩,
 ⟨5,.lt,[.c (.int 40),.e 1]⟩,
 ⟨6,.or,[.e 3,.e 5]⟩,
 ⟨7,.not,[.e 6]⟩,
 ⟨8,.lt,[.c (.int 0),.e 1]⟩,
 ⟨9,.and,[.e 7,.e 8]⟩,
 ⟨10,.outI "laws.0" El,[.e 0]⟩,
 ⟨11,.outI "laws.1" EV,[.e 0]⟩,
 ⟨12,.outI "laws.2" Ef,[.e 0]⟩,
 ⟨13,.outB "laws.3" EZ,[.e 0]⟩,
 ⟨14,.outB "laws.4" Ed,[.e 0]⟩,
 ⟨15,.outB "laws.5" Eb,[.e 0]⟩,
 ⟨16,.and,[.e 8,.n 14]⟩,
 ⟨17,.or,[.e 6,.e 16]⟩,
 ⟨18,.not,[.e 17]⟩]
def X9:List En:=[⟨19,.lt,[.e 2,.c (.int 0)]⟩,
 ⟨20,.and,[.e 18,.n 19]⟩,
 ⟨21,.lt,[.c (.int 40),.e 2]⟩,
 ⟨22,.or,[.e 19,.e 21]⟩,
 ⟨23,.and,[.e 18,.n 22]⟩,
 ⟨24,.lt,[.c (.int 0),.e 2]⟩,
 ⟨25,.and,[.e 23,.e 24]⟩,
 ⟨26,.outI "laws.0" El,[.e 0]⟩,
 ⟨27,.outI "laws.1" EV,[.e 0]⟩,
 ⟨28,.outI "laws.2" Ef,[.e 0]⟩,
 ⟨29,.outB "laws.3" EZ,[.e 0]⟩,
 ⟨30,.outB "laws.4" Ed,[.e 0]⟩,
 ⟨31,.outB "laws.5" Eb,[.e 0]⟩,
 ⟨32,.and,[.e 24,.n 30]⟩,
 ⟨33,.or,[.e 22,.e 32]⟩,
 ⟨34,.and,[.e 18,.e 33]⟩]
def WP:List En:=[⟨35,.and,[.e 18,.n 33]⟩,
 ⟨36,.ite .b,[.e 17,.e 17,.e 33]⟩,
 ⟨37,.ite .i,[.e 17,.c (.int 0),.c (.int 1)]⟩,
 ⟨38,.or,[.e 17,.e 34]⟩,
 ⟨39,.ite .b,[.e 38,.c (.bool true),.c (.bool false)]⟩,
 ⟨40,.ite .b,[.e 38,.e 36,.e 33]⟩,
 ⟨41,.ite .i,[.e 38,.e 37,.c (.int 2)]⟩,
 ⟨42,.ite .b,[.e 38,.c (.bool false),.c (.bool true)]⟩,
 ⟨43,.or,[.e 38,.e 35]⟩]
def RV:List En:=X6++(X9++(WP))
def iT:List ObE:=[]
def Xd:List Rf:=[.e 42]
theorem iM:J3.sees Xd (J3.run Try.prog [(43,De)] Ba 3000 20 44)=some ((RV).map En.be,iT.map ObE.be,[]):=by kernel_rfl
theorem it {T:Tab}(A0:AK T RV):
  ((B T 42)=(DD (I T 0) (I T 1) (I T 2))):=by
 obtain⟨F0,A0⟩:=A0.cut
 obtain⟨F1,A0⟩:=A0.cut
 have F2:=A0;clear A0
 ·obtain⟨e3,-,e5,e6,-,e8,-,-,-,-,-,e14,-,e16,e17,e18,-⟩:=F0
  obtain⟨e19,-,e21,e22,-,e24,-,-,-,-,-,e30,-,e32,e33,e34,-⟩:=F1
  obtain⟨-,-,-,e38,-,-,-,e42,-⟩:=F2
  replace e14:B T 14=(Ao (I T 0)):=e14
  replace e30:B T 30=(Ao (I T 0)):=e30
  simp only[AA,AD,zN,zC,zR,zL] at*
  refine AU ?_
  (try simp only[DD,zB])<;>(try constructor)<;>grind (splits:=100)
theorem fz:CA Try.prog 44 J3:=by
 refine Bu (l:=[(43,De)]) C6 (by simp only[List.forall_mem_cons];exact⟨Jo,fun _ h=>absurd h (by simp)⟩) iM (by kernel_rfl) fun T us hpre hT hul hS hBd hE=>?_
 change us.length=3 at hul
 clear hBd
 have ha0:aI us 0=I T 0:=inI hT hul (by decide)
 have ha1:aI us 1=I T 1:=inI hT hul (by decide)
 have ha2:aI us 2=I T 2:=inI hT hul (by decide)
 clear hpre
 skip
 obtain⟨A0,hO⟩:=CK (tys:=[.b]) (rs:=Xd) hS (by kernel_rfl) hE
 have q0:=it A0
 refine⟨trivial,hO.trans ?_⟩
 exact (lc (by show U.bool (B T 42)= .bool (Jb us);unfold Jb;rw[ha0,ha1,ha2];exact congrArg U.bool q0) rfl)
end Go.Eng
end
