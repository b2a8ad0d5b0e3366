/-
  A part of the proof: K_compared K_compare.
-/
import Derived.Test.YtikbgnmcfncnaaaE4
import Derived.Test.YtikbgnmcfncnaaaE5
import Derived.Test.YtikbgnmcfncnaaaKcmpJ
import Derived.Test.YtikbgnmcfncnaaaKstrcmp
set_option linter.unusedVariables false
set_option linter.unusedSimpArgs false
noncomputable section
namespace Go.Eng
section
open Go Go.Eng Go.Proofs
set_option maxHeartbeats 4000000
set_option maxRecDepth 100000
def HZ:List U->Int:=fun us=>(plN (aI us 1) (aI us 3) (aI us 4) (aI us 5) (aS us 0) (aI us 7) (aI us 9) (aI us 10) (aI us 11) (aS us 6))
def HY:List U->Int:=fun us=>(plR (aI us 1) (aI us 3) (aI us 4) (aI us 5) (aS us 0) (aI us 7) (aI us 9) (aI us 10) (aI us 11) (aS us 6))
def H3:AV:={ sh:=[.agg [.str,k64,k64,k64,k64,k64],.agg [.str,k64,k64,k64,k64,k64]],blks:=[],outs:=[(.s "compare.0",Bl HZ),(.s "compare.1",Bl HY)],c:= .tup [(C4 12),(C4 13)],m':=[],pre:=[] }
def S6:List En:=[⟨12,.eqs [.s,.i,.i,.i,.i,.i],[.e 0,.e 6,.e 1,.e 7,.e 2,.e 8,.e 3,.e 9,.e 4,.e 10,.e 5,.e 11]⟩,
 ⟨13,.not,[.e 12]⟩,
 ⟨14,.outI "cmpJ.0" GC,[.e 7,.e 1]⟩,
 ⟨15,.ne,[.e 14,.c (.int 0)]⟩,
 ⟨16,.and,[.e 13,.e 15]⟩,
 ⟨17,.and,[.e 13,.n 15]⟩,
 ⟨18,.outI "cmpJ.0" GC,[.e 9,.e 3]⟩,
 ⟨19,.ne,[.e 18,.c (.int 0)]⟩,
 ⟨20,.and,[.e 17,.e 19]⟩,
 ⟨21,.and,[.e 17,.n 19]⟩,
 ⟨22,.outI "cmpJ.0" GC,[.e 10,.e 4]⟩,
 ⟨23,.ne,[.e 22,.c (.int 0)]⟩,
 ⟨24,.and,[.e 21,.e 23]⟩,
 ⟨25,.and,[.e 21,.n 23]⟩,
 ⟨26,.outI "cmpJ.0" GC,[.e 11,.e 5]⟩,
 ⟨27,.ne,[.e 26,.c (.int 0)]⟩]
def Sk:List En:=[⟨28,.and,[.e 25,.e 27]⟩,
 ⟨29,.and,[.e 25,.n 27]⟩,
 ⟨30,.outI "strcmp.0" MB,[.e 0,.e 6]⟩,
 ⟨31,.ne,[.e 30,.c (.int 0)]⟩,
 ⟨32,.and,[.e 29,.e 31]⟩,
 ⟨33,.and,[.e 29,.n 31]⟩,
 ⟨34,.ite .i,[.e 32,.c (.int 5),.c (.int 0)]⟩,
 ⟨35,.ite .i,[.e 32,.c (.int 4),.c (.int 5)]⟩,
 ⟨36,.ite .b,[.e 32,.c (.bool true),.c (.bool false)]⟩,
 ⟨37,.or,[.e 32,.e 33]⟩,
 ⟨38,.ite .i,[.e 28,.c (.int 4),.e 34]⟩,
 ⟨39,.ite .b,[.e 28,.e 27,.e 31]⟩,
 ⟨40,.ite .i,[.e 28,.c (.int 3),.e 35]⟩,
 ⟨41,.ite .i,[.e 28,.e 26,.e 30]⟩,
 ⟨42,.ite .b,[.e 28,.c (.bool true),.e 36]⟩,
 ⟨43,.or,[.e 28,.e 37]⟩]
def Si:List En:=[⟨44,.ite .i,[.e 24,.c (.int 3),.e 38]⟩,
 ⟨45,.ite .b,[.e 24,.e 23,.e 39]⟩,
 ⟨46,.id .b,[.e 24]⟩,
 ⟨47,.ite .i,[.e 24,.c (.int 2),.e 40]⟩,
 ⟨48,.ite .i,[.e 24,.e 22,.e 41]⟩,
 ⟨49,.ite .b,[.e 24,.c (.bool true),.e 42]⟩,
 ⟨50,.or,[.e 24,.e 43]⟩,
 ⟨51,.ite .i,[.e 20,.c (.int 2),.e 44]⟩,
 ⟨52,.ite .b,[.e 20,.e 19,.e 45]⟩,
 ⟨53,.id .b,[.e 20]⟩,
 ⟨54,.ite .i,[.e 20,.c (.int 1),.e 47]⟩,
 ⟨55,.ite .i,[.e 20,.e 18,.e 48]⟩,
 ⟨56,.ite .b,[.e 20,.c (.bool true),.e 49]⟩,
 ⟨57,.or,[.e 20,.e 50]⟩,
 ⟨58,.ite .i,[.e 16,.c (.int 1),.e 51]⟩,
 ⟨59,.ite .b,[.e 16,.e 15,.e 52]⟩]
def S7:List En:=[⟨60,.id .b,[.e 16]⟩,
 ⟨61,.ite .i,[.e 16,.c (.int 0),.e 54]⟩,
 ⟨62,.ite .i,[.e 16,.e 14,.e 55]⟩,
 ⟨63,.ite .b,[.e 16,.c (.bool true),.e 56]⟩,
 ⟨64,.or,[.e 16,.e 57]⟩,
 ⟨65,.ite .i,[.e 12,.c (.int 0),.e 58]⟩,
 ⟨66,.ite .i,[.e 12,.c (.int 0),.e 58]⟩,
 ⟨67,.ite .i,[.e 12,.c (.int 0),.e 62]⟩,
 ⟨68,.ite .i,[.e 12,.c (.int 0),.e 62]⟩,
 ⟨69,.or,[.e 12,.e 64]⟩]
def OU:List En:=S6++(Sk++(Si++(S7)))
def ae:List ObE:=[]
def Rr:List Rf:=[.e 67,.e 66]
theorem az:H3.sees Rr (H3.run Try.prog [(124,Mw),(129,Oq)] AW 3000 20 73)=some ((OU).map En.be,ae.map ObE.be,[]):=by kernel_rfl
theorem aG {T:Tab}(hz0:(S T 0).size<=140737488355328)(hz6:(S T 6).size<=140737488355328)(A0:AH T OU):
  ((I T 67)=(plN (I T 1) (I T 3) (I T 4) (I T 5) (S T 0) (I T 7) (I T 9) (I T 10) (I T 11) (S T 6)))/\
  ((I T 66)=(plR (I T 1) (I T 3) (I T 4) (I T 5) (S T 0) (I T 7) (I T 9) (I T 10) (I T 11) (S T 6))):=by
 obtain⟨F0,A0⟩:=A0.cut;obtain⟨F1,A0⟩:=A0.cut;obtain⟨F2,A0⟩:=A0.cut;have F3:=A0;clear A0;refine⟨?_,?_⟩
 .obtain⟨e12,e13,e14,e15,e16,e17,e18,e19,e20,e21,e22,e23,e24,e25,e26,e27,-⟩:=F0;obtain⟨e28,e29,e30,-,-,-,-,-,-,-,-,-,-,e41,-⟩:=F1;obtain⟨-,-,-,-,e48,-,-,-,-,-,-,e55,-⟩:=F2;obtain⟨-,-,e62,-,-,-,-,e67,-⟩:=F3;replace e14:I T 14=(Ba (I T 7) (I T 1)):=e14;replace e18:I T 18=(Ba (I T 9) (I T 3)):=e18;replace e22:I T 22=(Ba (I T 10) (I T 4)):=e22;replace e26:I T 26=(Ba (I T 11) (I T 5)):=e26;replace e30:I T 30=(Kb (S T 0) (S T 6)):=e30;simp only[AI,AP,zN,zR,EN,and_true,zL,zS] at e12 e13 e15 e16 e17 e19 e20 e21 e23 e24 e25 e27 e28 e29 e41 e48 e55 e62 e67;unfold plN;rw[e67];by_cases he:(B T 12)=true
  .obtain⟨q1,q2,q3,q4,q5,q6⟩:=e12.1 he;rw[if_pos he,if_neg (fun a=>a q2),if_neg (fun a=>a q4),if_neg (fun a=>a q5),if_neg (fun a=>a q6)];exact ((NV _ _).2 q1).symm
  .have h13:=e13.2 (by simpa using he);rw[if_neg he,e62];by_cases h14:(I T 1)=I T 7;rotate_left
   .have g:¬I T 14=0:=fun z=>h14 (Bi.1 (e14.symm.trans z)).symm;rw[if_pos (e16.2 ⟨h13,e15.2 g⟩),if_pos h14];exact e14
   have g14:(I T 14)=0:=e14.trans (Bi.2 h14.symm);have m14:¬B T 15=true:=fun z=>(e15.1 z) g14;have h17:(B T 17)=true:=e17.2 ⟨h13,by simpa using m14⟩;rw[if_neg (fun z=>m14 (e16.1 z).2),if_neg (fun z=>z h14),e55];by_cases h18:(I T 3)=I T 9;rotate_left
   .have g:¬I T 18=0:=fun z=>h18 (Bi.1 (e18.symm.trans z)).symm;rw[if_pos (e20.2 ⟨h17,e19.2 g⟩),if_pos h18];exact e18
   have g18:(I T 18)=0:=e18.trans (Bi.2 h18.symm);have m18:¬B T 19=true:=fun z=>(e19.1 z) g18;have h21:(B T 21)=true:=e21.2 ⟨h17,by simpa using m18⟩;rw[if_neg (fun z=>m18 (e20.1 z).2),if_neg (fun z=>z h18),e48];by_cases h22:(I T 4)=I T 10;rotate_left
   .have g:¬I T 22=0:=fun z=>h22 (Bi.1 (e22.symm.trans z)).symm;rw[if_pos (e24.2 ⟨h21,e23.2 g⟩),if_pos h22];exact e22
   have g22:(I T 22)=0:=e22.trans (Bi.2 h22.symm);have m22:¬B T 23=true:=fun z=>(e23.1 z) g22;have h25:(B T 25)=true:=e25.2 ⟨h21,by simpa using m22⟩;rw[if_neg (fun z=>m22 (e24.1 z).2),if_neg (fun z=>z h22),e41];by_cases h26:(I T 5)=I T 11;rotate_left
   .have g:¬I T 26=0:=fun z=>h26 (Bi.1 (e26.symm.trans z)).symm;rw[if_pos (e28.2 ⟨h25,e27.2 g⟩),if_pos h26];exact e26
   have g26:(I T 26)=0:=e26.trans (Bi.2 h26.symm);have m26:¬B T 27=true:=fun z=>(e27.1 z) g26;have h29:(B T 29)=true:=e29.2 ⟨h25,by simpa using m26⟩;rw[if_neg (fun z=>m26 (e28.1 z).2),if_neg (fun z=>z h26)];exact e30
 .obtain⟨e12,e13,e14,e15,e16,e17,e18,e19,e20,e21,e22,e23,e24,e25,e26,e27,-⟩:=F0;obtain⟨e28,e29,e30,e31,e32,-,e34,-,-,-,e38,-⟩:=F1;obtain⟨e44,-,-,-,-,-,-,e51,-,-,-,-,-,-,e58,-⟩:=F2;obtain⟨-,-,-,-,-,-,e66,-⟩:=F3;replace e14:I T 14=(Ba (I T 7) (I T 1)):=e14;replace e18:I T 18=(Ba (I T 9) (I T 3)):=e18;replace e22:I T 22=(Ba (I T 10) (I T 4)):=e22;replace e26:I T 26=(Ba (I T 11) (I T 5)):=e26;replace e30:I T 30=(Kb (S T 0) (S T 6)):=e30;simp only[AI,AP,zN,zR,EN,and_true,zL,zS] at e12 e13 e15 e16 e17 e19 e20 e21 e23 e24 e25 e27 e28 e29 e31 e32 e34 e38 e44 e51 e58 e66;unfold plR;rw[e66];by_cases he:(B T 12)=true
  .obtain⟨q1,q2,q3,q4,q5,q6⟩:=e12.1 he;rw[if_pos he,if_neg (fun a=>a q2),if_neg (fun a=>a q4),if_neg (fun a=>a q5),if_neg (fun a=>a q6),if_pos q1]
  .have h13:=e13.2 (by simpa using he);rw[if_neg he,e58];by_cases h14:(I T 1)=I T 7;rotate_left
   .have g:¬I T 14=0:=fun z=>h14 (Bi.1 (e14.symm.trans z)).symm;rw[if_pos (e16.2 ⟨h13,e15.2 g⟩),if_pos h14]
   have g14:(I T 14)=0:=e14.trans (Bi.2 h14.symm);have m14:¬B T 15=true:=fun z=>(e15.1 z) g14;have h17:(B T 17)=true:=e17.2 ⟨h13,by simpa using m14⟩;rw[if_neg (fun z=>m14 (e16.1 z).2),if_neg (fun z=>z h14),e51];by_cases h18:(I T 3)=I T 9;rotate_left
   .have g:¬I T 18=0:=fun z=>h18 (Bi.1 (e18.symm.trans z)).symm;rw[if_pos (e20.2 ⟨h17,e19.2 g⟩),if_pos h18]
   have g18:(I T 18)=0:=e18.trans (Bi.2 h18.symm);have m18:¬B T 19=true:=fun z=>(e19.1 z) g18;have h21:(B T 21)=true:=e21.2 ⟨h17,by simpa using m18⟩;rw[if_neg (fun z=>m18 (e20.1 z).2),if_neg (fun z=>z h18),e44];by_cases h22:(I T 4)=I T 10;rotate_left
   .have g:¬I T 22=0:=fun z=>h22 (Bi.1 (e22.symm.trans z)).symm;rw[if_pos (e24.2 ⟨h21,e23.2 g⟩),if_pos h22]
   have g22:(I T 22)=0:=e22.trans (Bi.2 h22.symm);have m22:¬B T 23=true:=fun z=>(e23.1 z) g22;have h25:(B T 25)=true:=e25.2 ⟨h21,by simpa using m22⟩;rw[if_neg (fun z=>m22 (e24.1 z).2),if_neg (fun z=>z h22),e38];by_cases h26:(I T 5)=I T 11;rotate_left
   .have g:¬I T 26=0:=fun z=>h26 (Bi.1 (e26.symm.trans z)).symm;rw[if_pos (e28.2 ⟨h25,e27.2 g⟩),if_pos h26]
   have g26:(I T 26)=0:=e26.trans (Bi.2 h26.symm);have m26:¬B T 27=true:=fun z=>(e27.1 z) g26;have h29:(B T 29)=true:=e29.2 ⟨h25,by simpa using m26⟩;rw[if_neg (fun z=>m26 (e28.1 z).2),if_neg (fun z=>z h26),e34];by_cases hs:(S T 0)=S T 6
   .rw[if_pos hs,if_neg (fun z=>(e31.1 (e32.1 z).2) (e30.trans ((NV _ _).2 hs)))]
   .rw[if_neg hs,if_pos (e32.2 ⟨h29,e31.2 (fun z=>hs ((NV _ _).1 (e30.symm.trans z)))⟩)]
theorem Xe:Ae Try.prog 73 H3:=by
 refine BH (l:=[(124,Mw),(129,Oq)]) Bh (by simp only[List.forall_mem_cons];exact⟨gS,Z1,fun _ h=>absurd h (by simp)⟩) az (by kernel_rfl) fun T us hpre hT hul hS hBd hE=>?_;change us.length=12 at hul;obtain⟨hz0,-,-,-,-,-,hz6,-⟩:=hBd;replace hz0:(S T 0).size<=140737488355328:=hz0;replace hz6:(S T 6).size<=140737488355328:=hz6;have ha0:aS us 0=S T 0:=inS hT hul (by decide);have ha1:aI us 1=I T 1:=inI hT hul (by decide);have ha3:aI us 3=I T 3:=inI hT hul (by decide);have ha4:aI us 4=I T 4:=inI hT hul (by decide);have ha5:aI us 5=I T 5:=inI hT hul (by decide);have ha6:aS us 6=S T 6:=inS hT hul (by decide);have ha7:aI us 7=I T 7:=inI hT hul (by decide);have ha9:aI us 9=I T 9:=inI hT hul (by decide);have ha10:aI us 10=I T 10:=inI hT hul (by decide);have ha11:aI us 11=I T 11:=inI hT hul (by decide);clear hpre
 skip
 obtain⟨A0,hO⟩:=BG (tys:=[.i,.i]) (rs:=Rr) hS (by kernel_rfl) hE;obtain⟨q0,q1⟩:=aG hz0 hz6 A0;refine⟨trivial,hO.trans ?_⟩;exact (lc (by show U.int (I T 67)= .int (HZ us);unfold HZ;rw[ha0,ha1,ha10,ha11,ha3,ha4,ha5,ha6,ha7,ha9];exact congrArg U.int q0) (lc (by show U.int (I T 66)= .int (HY us);unfold HY;rw[ha0,ha1,ha10,ha11,ha3,ha4,ha5,ha6,ha7,ha9];exact congrArg U.int q1) rfl))
end
end Go.Eng
end
