/-
  A part of the proof: K_lawsd K_laws.
-/
import Derived.Test.YtcinpabggaepfaaE3
import Derived.Test.YtcinpabggaepfaaE4
set_option linter.unusedVariables false
set_option linter.unusedSimpArgs false
section
open Go Go.Eng Go.Proofs
set_option maxHeartbeats 4000000
set_option maxRecDepth 100000
namespace Go.Eng
def o_laws_0:List U→Int:=fun us=>(hoopsS (aI us 0))
def o_laws_1:List U→Int:=fun us=>(liftaS (aI us 0))
def o_laws_2:List U→Int:=fun us=>(liftbS (aI us 0))
def o_laws_3:List U→Bool:=fun us=>(peelsS (aI us 0))
def o_laws_4:List U→Bool:=fun us=>(bisqS (aI us 0))
def o_laws_5:List U→Bool:=fun us=>(partS (aI us 0))
def t_laws:Tmpl:={ sh:=[.one (k64)],blks:=[],outs:=[(.s "laws.0",outUI o_laws_0),(.s "laws.1",outUI o_laws_1),(.s "laws.2",outUI o_laws_2),(.s "laws.3",outUB o_laws_3),(.s "laws.4",outUB o_laws_4),(.s "laws.5",outUB o_laws_5)],c:= .agg [(aI64 1),(aI64 2),(aI64 3),.b 4,.b 5,.b 6],m':=[],pre:=[] }
noncomputable def a_laws_0_0:List En:=[⟨1,.eq,[.e 0,.c (.int 1)]⟩,
 ⟨2,.not,[.e 1]⟩,
 ⟨3,.eq,[.e 0,.c (.int 2)]⟩,
 ⟨4,.and,[.e 2,.e 3]⟩,
 ⟨5,.and,[.e 2,.n 3]⟩,
 ⟨6,.eq,[.e 0,.c (.int 3)]⟩,
 ⟨7,.and,[.e 5,.e 6]⟩,
 ⟨8,.and,[.e 5,.n 6]⟩,
 ⟨9,.ite .i,[.e 3,.c (.int 6),.c (.int 12)]⟩,
 ⟨10,.ite .b,[.e 3,.c (.bool true),.c (.bool false)]⟩,
 ⟨11,.ite .b,[.e 3,.c (.bool true),.c (.bool false)]⟩,
 ⟨12,.ite .b,[.e 3,.c (.bool false),.c (.bool true)]⟩,
 ⟨13,.or,[.e 4,.e 7]⟩,
 ⟨14,.ite .i,[.e 1,.c (.int 12),.e 9]⟩,
 ⟨15,.ite .i,[.e 1,.c (.int 7),.c (.int 0)]⟩,
 ⟨16,.ite .i,[.e 1,.c (.int 10),.c (.int 0)]⟩]
noncomputable def a_laws_0_1:List En:=[⟨17,.ite .b,[.e 1,.c (.bool true),.e 10]⟩,
 ⟨18,.ite .b,[.e 1,.c (.bool false),.e 11]⟩,
 ⟨19,.ite .b,[.e 1,.c (.bool false),.e 12]⟩,
 ⟨20,.or,[.e 1,.e 13]⟩,
 ⟨21,.ite .i,[.e 20,.e 14,.c (.int 12)]⟩,
 ⟨22,.ite .i,[.e 20,.e 15,.c (.int 0)]⟩,
 ⟨23,.ite .i,[.e 20,.e 16,.c (.int 0)]⟩,
 ⟨24,.ite .b,[.e 20,.e 17,.c (.bool true)]⟩,
 ⟨25,.ite .b,[.e 20,.e 18,.c (.bool true)]⟩,
 ⟨26,.ite .b,[.e 20,.e 19,.c (.bool false)]⟩,
 ⟨27,.or,[.e 20,.e 8]⟩]
noncomputable def a_laws_0:List En:=a_laws_0_0++(a_laws_0_1)
noncomputable def q_laws:List ObE:=[]
def r_laws:List Rf:=[.e 21,.e 22,.e 23,.e 24,.e 25,.e 26]
end Go.Eng
end
section
open Go Go.Eng Go.Proofs
set_option maxHeartbeats 4000000
set_option maxRecDepth 100000
namespace Go.Eng
theorem s_laws:t_laws.sees r_laws (t_laws.run Try.prog [] hints 3000 20 43)=some ((a_laws_0).map En.be,q_laws.map ObE.be,[]):=by kernel_rfl
theorem m_laws {T:Tab}(A0:Facts T a_laws_0):
  ((I T 21)=(hoopsS (I T 0)))∧
  ((I T 22)=(liftaS (I T 0)))∧
  ((I T 23)=(liftbS (I T 0)))∧
  ((B T 24)=(peelsS (I T 0)))∧
  ((B T 25)=(bisqS (I T 0)))∧
  ((B T 26)=(partS (I T 0))):=by
 obtain⟨F0,A0⟩:=A0.cut
 have F1:=A0;clear A0
 refine⟨?_,?_,?_,?_,?_,?_⟩
 ·obtain⟨e1,e2,e3,e4,e5,e6,e7,-,e9,-,-,-,e13,e14,-⟩:=F0
  obtain⟨-,-,-,e20,e21,-⟩:=F1
  simp only[fact,bR_e,zN,zR,zL] at e1 e2 e3 e4 e5 e6 e7 e9 e13 e14 e20 e21
  (try simp only[hoopsS,liftaS,liftbS,peelsS,bisqS,partS,zB])<;>grind (splits:=100)
 ·obtain⟨e1,e2,e3,e4,e5,e6,e7,-,-,-,-,-,e13,-,e15,-⟩:=F0
  obtain⟨-,-,-,e20,-,e22,-⟩:=F1
  simp only[fact,bR_e,zN,zR,zL] at e1 e2 e3 e4 e5 e6 e7 e13 e15 e20 e22
  (try simp only[hoopsS,liftaS,liftbS,peelsS,bisqS,partS,zB])<;>grind (splits:=100)
 ·obtain⟨e1,e2,e3,e4,e5,e6,e7,-,-,-,-,-,e13,-,-,e16,-⟩:=F0
  obtain⟨-,-,-,e20,-,-,e23,-⟩:=F1
  simp only[fact,bR_e,zN,zR,zL] at e1 e2 e3 e4 e5 e6 e7 e13 e16 e20 e23
  (try simp only[hoopsS,liftaS,liftbS,peelsS,bisqS,partS,zB])<;>grind (splits:=100)
 ·obtain⟨e1,e2,e3,e4,e5,e6,e7,-,-,e10,-,-,e13,-⟩:=F0
  obtain⟨e17,-,-,e20,-,-,-,e24,-⟩:=F1
  simp only[fact,bR_e,zN,zC,zR,zL] at e1 e2 e3 e4 e5 e6 e7 e10 e13 e17 e20 e24
  refine iff_eq ?_
  (try simp only[hoopsS,liftaS,liftbS,peelsS,bisqS,partS,zB])<;>(try constructor)<;>grind (splits:=100)
 ·obtain⟨e1,e2,e3,e4,e5,e6,e7,-,-,-,e11,-,e13,-⟩:=F0
  obtain⟨-,e18,-,e20,-,-,-,-,e25,-⟩:=F1
  simp only[fact,bR_e,zN,zC,zR,zL] at e1 e2 e3 e4 e5 e6 e7 e11 e13 e18 e20 e25
  refine iff_eq ?_
  (try simp only[hoopsS,liftaS,liftbS,peelsS,bisqS,partS,zB])<;>(try constructor)<;>grind (splits:=100)
 ·obtain⟨e1,e2,e3,e4,e5,e6,e7,-,-,-,-,e12,e13,-⟩:=F0
  obtain⟨-,-,e19,e20,-,-,-,-,-,e26,-⟩:=F1
  simp only[fact,bR_e,zN,zC,zR,zL] at e1 e2 e3 e4 e5 e6 e7 e12 e13 e19 e20 e26
  refine iff_eq ?_
  (try simp only[hoopsS,liftaS,liftbS,peelsS,bisqS,partS,zB])<;>(try constructor)<;>grind (splits:=100)
theorem ok_laws:TmplOK Try.prog 43 t_laws:=by
 refine tmpl_sees (l:=[]) mixed (by intro p h;exact absurd h (by simp)) s_laws (by kernel_rfl) fun T us hpre hT hul hS hBd hE=>?_
 change us.length=1 at hul
 obtain⟨⟨lo0,hi0⟩,-⟩:=hBd
 clear lo0 hi0
 have ha0:aI us 0=I T 0:=inI hT hul (by decide)
 clear hpre
 skip
 obtain⟨A0,hO⟩:=chkO_ok (tys:=[.i,.i,.i,.b,.b,.b]) (rs:=r_laws) hS (by kernel_rfl) hE
 obtain⟨q0,q1,q2,q3,q4,q5⟩:=m_laws A0
 refine⟨trivial,hO.trans ?_⟩
 exact (lc (by show U.int (I T 21)= .int (o_laws_0 us);unfold o_laws_0;rw[ha0];exact congrArg U.int q0) (lc (by show U.int (I T 22)= .int (o_laws_1 us);unfold o_laws_1;rw[ha0];exact congrArg U.int q1) (lc (by show U.int (I T 23)= .int (o_laws_2 us);unfold o_laws_2;rw[ha0];exact congrArg U.int q2) (lc (by show U.bool (B T 24)= .bool (o_laws_3 us);unfold o_laws_3;rw[ha0];exact congrArg U.bool q3) (lc (by show U.bool (B T 25)= .bool (o_laws_4 us);unfold o_laws_4;rw[ha0];exact congrArg U.bool q4) (lc (by show U.bool (B T 26)= .bool (o_laws_5 us);unfold o_laws_5;rw[ha0];exact congrArg U.bool q5) rfl))))))
end Go.Eng
end
