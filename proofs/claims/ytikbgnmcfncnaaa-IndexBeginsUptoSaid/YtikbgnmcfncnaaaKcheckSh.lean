/-
  A part of the proof: K_checkShd K_checkSh.
-/
import Derived.Test.YtikbgnmcfncnaaaE4
import Derived.Test.YtikbgnmcfncnaaaE5
import Derived.Test.YtikbgnmcfncnaaaKxvname
set_option linter.unusedVariables false
set_option linter.unusedSimpArgs false
noncomputable section
namespace Go.Eng
section
open Go Go.Eng Go.Proofs
set_option maxHeartbeats 4000000
set_option maxRecDepth 100000
def Hh:List U->Int:=fun us=>(Ks (aI us 0) (aI us 1) (aI us 2) (aS us 4) (aS us 5) (aI us 7) (aI us 8))
def Hy:AV:={ sh:=[.agg [k64,k64,k64,.bool,.str,.str,.bool,k64,k64]],blks:=[],outs:=[(.s "checkSh.0",Bl Hh)],c:=(C4 9),m':=[],pre:=[] }
def Sf:List En:=[⟨9,.le,[.c (.int 0),.e 0]⟩,
 ⟨10,.id .b,[.e 9]⟩,
 ⟨11,.le,[.e 0,.c (.int 1099511627776)]⟩,
 ⟨12,.and,[.e 9,.e 11]⟩,
 ⟨13,.id .b,[.e 12]⟩,
 ⟨14,.le,[.c (.int 0),.e 2]⟩,
 ⟨15,.and,[.e 13,.e 14]⟩,
 ⟨16,.le,[.e 2,.c (.int 1099511627776)]⟩,
 ⟨17,.and,[.e 14,.e 16]⟩,
 ⟨18,.or,[.n 12,.n 17]⟩,
 ⟨19,.not,[.e 18]⟩,
 ⟨20,.lt,[.e 1,.c (.int 0)]⟩,
 ⟨21,.or,[.e 18,.e 20]⟩,
 ⟨22,.not,[.e 21]⟩,
 ⟨23,.lt,[.c (.int 1048576),.e 1]⟩,
 ⟨24,.or,[.e 21,.e 23]⟩]
def Sm:List En:=[⟨25,.not,[.e 24]⟩,
 ⟨26,.outB "xvname.0" Gw,[.e 4]⟩,
 ⟨27,.and,[.e 25,.e 26]⟩,
 ⟨28,.outB "xvname.0" Gw,[.e 5]⟩,
 ⟨29,.or,[.n 26,.n 28]⟩,
 ⟨30,.and,[.e 25,.n 29]⟩,
 ⟨31,.eqs [.s],[.e 4,.e 5]⟩,
 ⟨32,.or,[.e 29,.e 31]⟩,
 ⟨33,.and,[.e 25,.e 32]⟩,
 ⟨34,.and,[.e 25,.n 32]⟩,
 ⟨35,.lt,[.e 8,.c (.int 0)]⟩,
 ⟨36,.and,[.e 34,.n 35]⟩,
 ⟨37,.lt,[.e 7,.e 8]⟩,
 ⟨38,.or,[.e 35,.e 37]⟩,
 ⟨39,.and,[.e 34,.n 38]⟩,
 ⟨40,.lt,[.c (.int 26),.e 7]⟩]
def Sg:List En:=[⟨41,.or,[.e 38,.e 40]⟩,
 ⟨42,.and,[.e 34,.e 41]⟩,
 ⟨43,.and,[.e 34,.n 41]⟩,
 ⟨44,.or,[.e 33,.e 42]⟩,
 ⟨45,.or,[.e 24,.e 44]⟩,
 ⟨46,.ite .i,[.e 45,.c (.int 2),.c (.int 0)]⟩,
 ⟨47,.or,[.e 45,.e 43]⟩]
def OR:List En:=Sf++(Sm++(Sg))
def ay:List ObE:=[]
def SA:List Rf:=[.e 46]
theorem aD:Hy.sees SA (Hy.run Try.prog [(83,I9)] AW 3000 20 43)=some ((OR).map En.be,ay.map ObE.be,[]):=by kernel_rfl
theorem bY {T:Tab}(hz4:(S T 4).size<=140737488355328)(hz5:(S T 5).size<=140737488355328)(A0:AH T OR):
  ((I T 46)=(Ks (I T 0) (I T 1) (I T 2) (S T 4) (S T 5) (I T 7) (I T 8))):=by
 obtain⟨F0,A0⟩:=A0.cut;obtain⟨F1,A0⟩:=A0.cut;have F2:=A0;clear A0
 .obtain⟨e9,-,e11,e12,-,e14,-,e16,e17,e18,-,e20,e21,-,e23,e24,-⟩:=F0;obtain⟨e25,e26,-,e28,e29,-,e31,e32,e33,e34,e35,-,e37,e38,-,e40,-⟩:=F1;obtain⟨e41,e42,-,e44,e45,e46,-⟩:=F2;replace e26:B T 26=(EC (S T 4)):=e26;replace e28:B T 28=(EC (S T 5)):=e28;simp only[AI,AP,zN,zR,EN,and_true,zL,zS] at e9 e11 e12 e14 e16 e17 e18 e20 e21 e23 e24 e25 e29 e31 e32 e33 e34 e35 e37 e38 e40 e41 e42 e44 e45 e46;unfold Ks;rw[e46];have hb:(B T 45)=true↔¬(Ay (I T 0) 0 1099511627776&&Ay (I T 2) 0 1099511627776&&Ay (I T 1) 0 1048576&&EC (S T 4)&&EC (S T 5)&& !decide ((S T 4)=S T 5)&&decide (0<=I T 8)&&decide ((I T 8)<=I T 7)&&decide ((I T 7)<=26))=true:=by
   rw[<-e26,<-e28];simp only[Bool.and_eq_true,Bk,Bool.not_eq_true',decide_eq_false_iff_not,decide_eq_true_eq];clear e26 e28 e46;grind
  by_cases h:(B T 45)=true
  .rw[if_pos h,if_neg (hb.1 h)]
  .rw[if_neg h,if_pos (Decidable.of_not_not fun a=>h (hb.2 a))]
theorem Ym:Ae Try.prog 43 Hy:=by
 refine BH (l:=[(83,I9)]) Bh (by simp only[List.forall_mem_cons];exact⟨Ra,fun _ h=>absurd h (by simp)⟩) aD (by kernel_rfl) fun T us hpre hT hul hS hBd hE=>?_;change us.length=9 at hul;obtain⟨-,-,-,hz4,hz5,-⟩:=hBd;replace hz4:(S T 4).size<=140737488355328:=hz4;replace hz5:(S T 5).size<=140737488355328:=hz5;have ha0:aI us 0=I T 0:=inI hT hul (by decide);have ha1:aI us 1=I T 1:=inI hT hul (by decide);have ha2:aI us 2=I T 2:=inI hT hul (by decide);have ha4:aS us 4=S T 4:=inS hT hul (by decide);have ha5:aS us 5=S T 5:=inS hT hul (by decide);have ha7:aI us 7=I T 7:=inI hT hul (by decide);have ha8:aI us 8=I T 8:=inI hT hul (by decide);clear hpre
 skip
 obtain⟨A0,hO⟩:=BG (tys:=[.i]) (rs:=SA) hS (by kernel_rfl) hE;have q0:=bY hz4 hz5 A0;refine⟨trivial,hO.trans ?_⟩;exact (lc (by show U.int (I T 46)= .int (Hh us);unfold Hh;rw[ha0,ha1,ha2,ha4,ha5,ha7,ha8];exact congrArg U.int q0) rfl)
end
end Go.Eng
end
