/-
  A part of the proof: K_touchd K_touch.
-/
import Derived.Test.YtmlmcidljiibaaaE4
import Derived.Test.YtmlmcidljiibaaaE5
import Derived.Test.YtmlmcidljiibaaaKfits
set_option linter.unusedVariables false
set_option linter.unusedSimpArgs false
noncomputable section
open Go Go.Eng Go.Proofs
set_option maxHeartbeats 4000000
set_option maxRecDepth 100000
namespace Go.Eng
def Jj:List U→Int:=fun us=>(Cv (aI us 0) (aI us 1) (aI us 2) (aI us 3) (aI us 4) (aI us 5))
def KJ:List U→Int:=fun us=>(if AF (aI us 0) (aI us 1)=true∧AF (aI us 3) (aI us 4)=true∧1≤(aI us 2)∧(aI us 2)≤65536∧1≤(aI us 5)∧(aI us 5)≤65536 then 0 else 2)
def K0:Ak:={ sh:=[.agg [k64,k64,k64],.agg [k64,k64,k64]],blks:=[],outs:=[(.s "touch.0",Bi Jj),(.s "touch.1",Bi KJ)],c:= .tup [(CP 6),(CP 7)],m':=[],pre:=[] }
def Vd:List En:=[⟨6,.row 1 2 [.i,.i],[.e 0,.e 1]⟩,
 ⟨7,.outB "fits.0" GH,[.e 6]⟩,
 ⟨8,.id .b,[.e 7]⟩,
 ⟨9,.lt,[.e 2,.c (.int 1)]⟩,
 ⟨10,.or,[.n 7,.e 9]⟩,
 ⟨11,.not,[.e 10]⟩,
 ⟨12,.lt,[.c (.int 65536),.e 2]⟩,
 ⟨13,.or,[.e 10,.e 12]⟩,
 ⟨14,.not,[.e 13]⟩,
 ⟨15,.ite .i,[.e 13,.c (.int 2),.c (.int 0)]⟩,
 ⟨16,.or,[.e 13,.e 14]⟩,
 ⟨17,.ne,[.e 15,.c (.int 0)]⟩,
 ⟨18,.not,[.e 17]⟩,
 ⟨19,.row 1 2 [.i,.i],[.e 3,.e 4]⟩,
 ⟨20,.outB "fits.0" GH,[.e 19]⟩,
 ⟨21,.and,[.e 18,.e 20]⟩]
def V0:List En:=[⟨22,.lt,[.e 5,.c (.int 1)]⟩,
 ⟨23,.or,[.n 20,.e 22]⟩,
 ⟨24,.and,[.e 18,.n 23]⟩,
 ⟨25,.lt,[.c (.int 65536),.e 5]⟩,
 ⟨26,.or,[.e 23,.e 25]⟩,
 ⟨27,.and,[.e 18,.e 26]⟩,
 ⟨28,.and,[.e 18,.n 26]⟩,
 ⟨29,.ite .i,[.e 27,.c (.int 2),.c (.int 0)]⟩,
 ⟨30,.or,[.e 27,.e 28]⟩,
 ⟨31,.ne,[.e 29,.c (.int 0)]⟩,
 ⟨32,.or,[.e 17,.e 31]⟩,
 ⟨33,.not,[.e 32]⟩,
 ⟨34,.w2 .i64 .sub,[.e 3,.e 0]⟩,
 ⟨35,.w2 .i64 .sub,[.e 4,.e 1]⟩,
 ⟨36,.w2 .i64 .mul,[.e 34,.e 34]⟩,
 ⟨37,.w2 .i64 .mul,[.e 35,.e 35]⟩]
def Vn:List En:=[⟨38,.w2 .i64 .add,[.e 36,.e 37]⟩,
 ⟨39,.w2 .i64 .add,[.e 2,.e 5]⟩,
 ⟨40,.w2 .i64 .add,[.e 2,.e 5]⟩,
 ⟨41,.w2 .i64 .mul,[.e 39,.e 40]⟩,
 ⟨42,.lt,[.e 38,.e 41]⟩,
 ⟨43,.and,[.e 33,.e 42]⟩,
 ⟨44,.and,[.e 33,.n 42]⟩,
 ⟨45,.lt,[.e 41,.e 38]⟩,
 ⟨46,.and,[.e 44,.e 45]⟩,
 ⟨47,.and,[.e 44,.n 45]⟩,
 ⟨48,.ite .i,[.e 46,.c (.int 1),.c (.int 0)]⟩,
 ⟨49,.or,[.e 46,.e 47]⟩,
 ⟨50,.ite .i,[.e 43,.c (.int (-1)),.e 48]⟩,
 ⟨51,.or,[.e 43,.e 49]⟩,
 ⟨52,.ite .i,[.e 32,.c (.int 2),.c (.int 0)]⟩,
 ⟨53,.ite .i,[.e 32,.c (.int 0),.e 50]⟩]
def Vl:List En:=[⟨54,.or,[.e 32,.e 33]⟩]
def Sf:List En:=Vd++(V0++(Vn++(Vl)))
def fb:List ObE:=[]
def XZ:List Rf:=[.e 53,.e 52]
theorem fZ:K0.sees XZ (K0.run Try.prog [(93,Fk)] Ag 3000 20 118)=some ((Sf).map En.be,fb.map ObE.be,[]):=by kernel_rfl
theorem fO {T:Tab}(A0:AI T Sf):
  ((I T 53)=(Cv (I T 0) (I T 1) (I T 2) (I T 3) (I T 4) (I T 5)))∧
  ((I T 52)=(if AF (I T 0) (I T 1)=true∧AF (I T 3) (I T 4)=true∧1≤I T 2∧I T 2≤65536∧1≤I T 5∧I T 5≤65536 then 0 else 2)):=by
 obtain⟨F0,A0⟩:=A0.cut
 obtain⟨F1,A0⟩:=A0.cut
 obtain⟨F2,A0⟩:=A0.cut
 have F3:=A0;clear A0
 have h7:(B T 7)=true↔AF (I T 0) (I T 1)=true:=by
  obtain⟨e6,e7,-⟩:=F0
  replace e7:B T 7=(B6 (L T 6)):=e7
  simp only[AE,AG,zR,zL,zS,uR,AY,zW] at e6
  rw[e7,e6,TF]
 have h20:(B T 20)=true↔AF (I T 3) (I T 4)=true:=by
  obtain⟨-,-,-,-,-,-,-,-,-,-,-,-,-,e19,e20,-⟩:=F0
  replace e20:B T 20=(B6 (L T 19)):=e20
  simp only[AE,AG,zR,zL,zS,uR,AY,zW] at e19
  rw[e20,e19,TF]
 have h32:(B T 32)=true↔¬(AF (I T 0) (I T 1)=true∧AF (I T 3) (I T 4)=true∧1≤I T 2∧I T 2≤65536∧1≤I T 5∧I T 5≤65536):=by
  obtain⟨e6,e7,-,e9,e10,-,e12,e13,-,e15,-,e17,e18,e19,e20,-⟩:=F0
  obtain⟨e22,e23,-,e25,e26,e27,-,e29,-,e31,e32,-⟩:=F1
  replace e7:B T 7=(B6 (L T 6)):=e7
  replace e20:B T 20=(B6 (L T 19)):=e20
  simp only[AE,AG,zN,zR,zL,zS,uR,AY,zW] at*
  grind (splits:=40)
 refine⟨?_,?_⟩
 ·obtain⟨e6,e7,-,e9,e10,-,e12,e13,-,e15,-,e17,e18,e19,e20,-⟩:=F0
  obtain⟨e22,e23,-,e25,e26,e27,-,e29,-,e31,e32,e33,e34,e35,e36,e37,-⟩:=F1
  obtain⟨e38,e39,e40,e41,e42,e43,e44,e45,e46,-,e48,-,e50,-,-,e53,-⟩:=F2
  replace e7:B T 7=(B6 (L T 6)):=e7
  replace e20:B T 20=(B6 (L T 19)):=e20
  simp only[AE,AG,zN,zR,w2P,zL,zS,uR,AY,zW] at*
  rw[e53]
  unfold Cv
  by_cases c:(AF (I T 0) (I T 1)=true∧AF (I T 3) (I T 4)=true∧1≤I T 2∧I T 2≤65536∧1≤I T 5∧I T 5≤65536)
  ·have c2:=c
   have n32:¬B T 32=true:=fun h=>h32.1 h c
   obtain⟨c3,c4,c5,c6,c7,c8⟩:=c2
   rw[Af] at c3 c4
   rw[if_neg n32,if_pos c]
   have d34:=e34 (by omega) (by omega)
   have d35:=e35 (by omega) (by omega)
   have d39:=e39 (by omega) (by omega)
   have d40:=e40 (by omega) (by omega)
   have m36:=sqB (a:=I T 34) (A:=8388608) (by omega)
   have d36:=e36 (by omega) (by omega)
   have m37:=sqB (a:=I T 35) (A:=8388608) (by omega)
   have d37:=e37 (by omega) (by omega)
   have d38:=e38 (by omega) (by omega)
   have m41:=Cp (a:=I T 39) (b:=I T 40) (A:=131072) (B:=131072) (by omega) (by omega)
   have d41:=e41 (by omega) (by omega)
   have hX:((I T 3) - (I T 0))*((I T 3) - (I T 0))+((I T 4) - (I T 1))*((I T 4) - (I T 1))=I T 38:=by rw[d38,d36,d37,d34,d35]
   have hY:((I T 2)+I T 5)*((I T 2)+I T 5)=I T 41:=by rw[d41,d39,d40]
   rw[hX,hY,e50,e48]
   rw[Bool.not_eq_true] at n32
   have z43:(B T 43)=true↔I T 38 < I T 41:=by rw[e43,e33,n32,e42];simp
   have z46:(B T 46)=true↔(¬I T 38 < I T 41∧I T 41 < I T 38):=by rw[e46,e44,e33,n32,e45,←e42];simp
   unfold EY
   repeat' split
   all_goals first|rfl|(exfalso;grind)
  ·rw[if_pos (h32.2 c),if_neg c]
 ·obtain⟨e6,e7,-,e9,e10,-,e12,e13,-,e15,-,e17,e18,e19,e20,-⟩:=F0
  obtain⟨e22,e23,-,e25,e26,e27,-,e29,-,e31,e32,-⟩:=F1
  obtain⟨-,-,-,-,-,-,-,-,-,-,-,-,-,-,e52,-⟩:=F2
  replace e7:B T 7=(B6 (L T 6)):=e7
  replace e20:B T 20=(B6 (L T 19)):=e20
  simp only[AE,AG,zN,zR,zL,zS,uR,AY,zW] at*
  rw[e52]
  grind
theorem dZ:Ao Try.prog 118 K0:=by
 refine AZ (l:=[(93,Fk)]) BH (by simp only[List.forall_mem_cons];exact⟨Qq,fun _ h=>absurd h (by simp)⟩) fZ (by kernel_rfl) fun T us hpre hT hul hS hBd hE=>?_
 change us.length=6 at hul
 clear hBd
 have ha0:aI us 0=I T 0:=inI hT hul (by decide)
 have ha1:aI us 1=I T 1:=inI hT hul (by decide)
 have ha2:aI us 2=I T 2:=inI hT hul (by decide)
 have ha3:aI us 3=I T 3:=inI hT hul (by decide)
 have ha4:aI us 4=I T 4:=inI hT hul (by decide)
 have ha5:aI us 5=I T 5:=inI hT hul (by decide)
 clear hpre
 skip
 obtain⟨A0,hO⟩:=Ap (tys:=[.i,.i]) (rs:=XZ) hS (by kernel_rfl) hE
 obtain⟨q0,q1⟩:=fO A0
 refine⟨trivial,hO.trans ?_⟩
 exact (lc (by show U.int (I T 53)= .int (Jj us);unfold Jj;rw[ha0,ha1,ha2,ha3,ha4,ha5];exact congrArg U.int q0) (lc (by show U.int (I T 52)= .int (KJ us);unfold KJ;rw[ha0,ha1,ha2,ha3,ha4,ha5];exact congrArg U.int q1) rfl))
end Go.Eng
end
