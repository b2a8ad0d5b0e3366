/-
  A part of the proof: K_tliesd K_tlies.
-/
import Derived.Test.YtmlmcidljiibaaaE4
import Derived.Test.YtmlmcidljiibaaaE5
import Derived.Test.YtmlmcidljiibaaaKfits
import Derived.Test.YtmlmcidljiibaaaKlies
set_option linter.unusedVariables false
set_option linter.unusedSimpArgs false
noncomputable section
open Go Go.Eng Go.Proofs
set_option maxHeartbeats 4000000
set_option maxRecDepth 100000
namespace Go.Eng
def Jw:List U→Int:=fun us=>(if (AF (aI us 0) (aI us 1)=true∧AF (aI us 2) (aI us 3)=true∧AF (aI us 4) (aI us 5)=true)∧0≤(aI us 6)∧(aI us 6)≤8388608 then Hi (aI us 0) (aI us 1) (aI us 2) (aI us 3) (aI us 4) (aI us 5) (aI us 6) else 0)
def Jq:List U→Int:=fun us=>(if (AF (aI us 0) (aI us 1)=true∧AF (aI us 2) (aI us 3)=true∧AF (aI us 4) (aI us 5)=true) then (if 0≤(aI us 6)∧(aI us 6)≤8388608 then 0 else 3) else 2)
def LD:Ak:={ sh:=[.agg [k64,k64],.agg [k64,k64],.agg [k64,k64],.one (k64)],blks:=[],outs:=[(.s "tlies.0",Bi Jw),(.s "tlies.1",Bi Jq)],c:= .tup [(CP 7),(CP 8)],m':=[],pre:=[] }
def WV:List En:=[⟨7,.row 3 2 [.i,.i,.i,.i,.i,.i],[.e 0,.e 1,.e 2,.e 3,.e 4,.e 5]⟩,
 ⟨8,.outB "fits.0" GH,[.e 7]⟩,
 ⟨9,.not,[.e 8]⟩,
 ⟨10,.lt,[.e 6,.c (.int 0)]⟩,
 ⟨11,.and,[.e 8,.n 10]⟩,
 ⟨12,.lt,[.c (.int 8388608),.e 6]⟩,
 ⟨13,.or,[.e 10,.e 12]⟩,
 ⟨14,.and,[.e 8,.e 13]⟩,
 ⟨15,.and,[.e 8,.n 13]⟩,
 ⟨16,.outI "lies.0" MD,[.e 0,.e 1,.e 2,.e 3,.e 4,.e 5,.e 6]⟩,
 ⟨17,.ite .i,[.e 14,.c (.int 3),.c (.int 0)]⟩,
 ⟨18,.ite .i,[.e 14,.c (.int 0),.e 16]⟩,
 ⟨19,.or,[.e 14,.e 15]⟩,
 ⟨20,.ite .i,[.e 9,.c (.int 2),.e 17]⟩,
 ⟨21,.ite .i,[.e 9,.c (.int 0),.e 18]⟩,
 ⟨22,.or,[.e 9,.e 19]⟩]
def Rh:List En:=WV
def iI:List ObE:=[⟨some 15,.pre "lies.p0" JM,[.e 0,.e 1,.e 2,.e 3,.e 4,.e 5,.e 6]⟩,
 ⟨some 15,.pre "lies.p1" JK,[.e 0,.e 1,.e 2,.e 3,.e 4,.e 5,.e 6]⟩,
 ⟨some 15,.pre "lies.p2" JP,[.e 0,.e 1,.e 2,.e 3,.e 4,.e 5,.e 6]⟩,
 ⟨some 15,.pre "lies.p3" JE,[.e 0,.e 1,.e 2,.e 3,.e 4,.e 5,.e 6]⟩]
def XA:List Rf:=[.e 21,.e 20]
theorem iU:LD.sees XA (LD.run Try.prog [(93,Fk),(95,HA)] Ag 3000 20 72)=some ((Rh).map En.be,iI.map ObE.be,[]):=by kernel_rfl
theorem fR {T:Tab}(A0:AI T Rh):
  ((I T 21)=(if (AF (I T 0) (I T 1)=true∧AF (I T 2) (I T 3)=true∧AF (I T 4) (I T 5)=true)∧0≤I T 6∧I T 6≤8388608 then Hi (I T 0) (I T 1) (I T 2) (I T 3) (I T 4) (I T 5) (I T 6) else 0))∧
  ((I T 20)=(if (AF (I T 0) (I T 1)=true∧AF (I T 2) (I T 3)=true∧AF (I T 4) (I T 5)=true) then (if 0≤I T 6∧I T 6≤8388608 then 0 else 3) else 2))∧
  (B T 15=true→AF (I T 0) (I T 1)=true)∧
  (B T 15=true→AF (I T 2) (I T 3)=true)∧
  (B T 15=true→AF (I T 4) (I T 5)=true)∧
  (B T 15=true→0≤I T 6∧I T 6≤8388608):=by
 have F0:=A0;clear A0
 have h8:(B T 8)=true↔(AF (I T 0) (I T 1)=true∧AF (I T 2) (I T 3)=true∧AF (I T 4) (I T 5)=true):=by
  obtain⟨e7,e8,-⟩:=F0
  replace e8:B T 8=(B6 (L T 7)):=e8
  simp only[AE,AG,zR,zL,zS,uR,AY,zW] at e7
  rw[e8,e7]
  exact jV _ _ _ _ _ _
 refine⟨?_,?_,?_,?_,?_,?_⟩
 ·obtain⟨e7,e8,e9,e10,-,e12,e13,e14,-,e16,-,e18,-,-,e21,-⟩:=F0
  replace e8:B T 8=(B6 (L T 7)):=e8
  replace e16:I T 16=(Hi (I T 0) (I T 1) (I T 2) (I T 3) (I T 4) (I T 5) (I T 6)):=e16
  simp only[AE,AG,zR,zL,zS,uR,AY,zW] at*
  grind (splits:=100)
 ·obtain⟨e7,e8,e9,e10,-,e12,e13,e14,-,-,e17,-,-,e20,-⟩:=F0
  replace e8:B T 8=(B6 (L T 7)):=e8
  simp only[AE,AG,zR,zL,zS,uR,AY,zW] at*
  grind (splits:=100)
 ·obtain⟨e7,e8,-,e10,-,e12,e13,-,e15,-⟩:=F0
  replace e8:B T 8=(B6 (L T 7)):=e8
  simp only[AE,AG,zN,zR,zL,zS,uR,AY,zW] at*
  grind (splits:=100)
 ·obtain⟨e7,e8,-,e10,-,e12,e13,-,e15,-⟩:=F0
  replace e8:B T 8=(B6 (L T 7)):=e8
  simp only[AE,AG,zN,zR,zL,zS,uR,AY,zW] at*
  grind (splits:=100)
 ·obtain⟨e7,e8,-,e10,-,e12,e13,-,e15,-⟩:=F0
  replace e8:B T 8=(B6 (L T 7)):=e8
  simp only[AE,AG,zN,zR,zL,zS,uR,AY,zW] at*
  grind (splits:=100)
 ·obtain⟨e7,e8,-,e10,-,e12,e13,-,e15,-⟩:=F0
  replace e8:B T 8=(B6 (L T 7)):=e8
  simp only[AE,AG,zN,zR,zL,zS,uR,AY,zW] at*
  grind (splits:=100)
theorem dS:Ao Try.prog 72 LD:=by
 refine AZ (l:=[(93,Fk),(95,HA)]) BH (by simp only[List.forall_mem_cons];exact⟨Qq,gz,fun _ h=>absurd h (by simp)⟩) iU (by kernel_rfl) fun T us hpre hT hul hS hBd hE=>?_
 change us.length=7 at hul
 clear hBd
 have ha0:aI us 0=I T 0:=inI hT hul (by decide)
 have ha1:aI us 1=I T 1:=inI hT hul (by decide)
 have ha2:aI us 2=I T 2:=inI hT hul (by decide)
 have ha3:aI us 3=I T 3:=inI hT hul (by decide)
 have ha4:aI us 4=I T 4:=inI hT hul (by decide)
 have ha5:aI us 5=I T 5:=inI hT hul (by decide)
 have ha6:aI us 6=I T 6:=inI hT hul (by decide)
 clear hpre
 skip
 obtain⟨A0,hO⟩:=Ap (tys:=[.i,.i]) (rs:=XA) hS (by kernel_rfl) hE
 obtain⟨q0,q1,r0,r1,r2,r3⟩:=fR A0
 refine⟨⟨r0,r1,r2,r3,trivial⟩,hO.trans ?_⟩
 exact (lc (by show U.int (I T 21)= .int (Jw us);unfold Jw;rw[ha0,ha1,ha2,ha3,ha4,ha5,ha6];exact congrArg U.int q0) (lc (by show U.int (I T 20)= .int (Jq us);unfold Jq;rw[ha0,ha1,ha2,ha3,ha4,ha5,ha6];exact congrArg U.int q1) rfl))
end Go.Eng
end
