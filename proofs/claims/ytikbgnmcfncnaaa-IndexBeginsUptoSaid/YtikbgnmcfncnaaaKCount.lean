/-
  A part of the proof: K_Countd K_Count.
-/
import Derived.Test.YtikbgnmcfncnaaaE4
import Derived.Test.YtikbgnmcfncnaaaE5
import Derived.Test.YtikbgnmcfncnaaaKpair
import Derived.Test.YtikbgnmcfncnaaaKgain
import Derived.Test.YtikbgnmcfncnaaaKmove
set_option linter.unusedVariables false
set_option linter.unusedSimpArgs false
noncomputable section
namespace Go.Eng
section
open Go Go.Eng Go.Proofs
set_option maxHeartbeats 4000000
set_option maxRecDepth 100000
def GZ:List U->ByteArray:=fun us=>(if Am (aS us 0) (aI us 1) (aI us 2) (aS us 3) (aI us 4) (aI us 5)=0 then (aS us 0) else (⟨#[]⟩:ByteArray))
def GW:List U->Int:=fun us=>(if Am (aS us 0) (aI us 1) (aI us 2) (aS us 3) (aI us 4) (aI us 5)=0 then Ax (aI us 1) (Ar (aI us 1) (aI us 4) (aB us 6)) else 0)
def GL:List U->Int:=fun us=>(if Am (aS us 0) (aI us 1) (aI us 2) (aS us 3) (aI us 4) (aI us 5)=0 then CT (Ax (aI us 1) (Ar (aI us 1) (aI us 4) (aB us 6))) (aI us 2) else 0)
def GM:List U->ByteArray:=fun us=>(if Am (aS us 0) (aI us 1) (aI us 2) (aS us 3) (aI us 4) (aI us 5)=0 then (aS us 3) else (⟨#[]⟩:ByteArray))
def GK:List U->Int:=fun us=>(if Am (aS us 0) (aI us 1) (aI us 2) (aS us 3) (aI us 4) (aI us 5)=0 then Ax (aI us 4) (-(Ar (aI us 1) (aI us 4) (aB us 6))) else 0)
def GQ:List U->Int:=fun us=>(if Am (aS us 0) (aI us 1) (aI us 2) (aS us 3) (aI us 4) (aI us 5)=0 then CT (Ax (aI us 4) (-(Ar (aI us 1) (aI us 4) (aB us 6)))) (aI us 5) else 0)
def GS:List U->Int:=fun us=>(Am (aS us 0) (aI us 1) (aI us 2) (aS us 3) (aI us 4) (aI us 5))
def FC:AV:={ sh:=[.agg [.str,k64,k64],.agg [.str,k64,k64],.one (.bool)],blks:=[],outs:=[(.s "Count.0",Xn GZ),(.s "Count.1",Bl GW),(.s "Count.2",Bl GL),(.s "Count.3",Xn GM),(.s "Count.4",Bl GK),(.s "Count.5",Bl GQ),(.s "Count.6",Bl GS)],c:= .tup [.agg [.s 7,(C4 8),(C4 9)],.agg [.s 10,(C4 11),(C4 12)],(C4 13)],m':=[],pre:=[] }
def Wf:List En:=[⟨7,.outI "pair.0" L0,[.e 0,.e 1,.e 2,.e 3,.e 4,.e 5]⟩,
 ⟨8,.ne,[.e 7,.c (.int 0)]⟩,
 ⟨9,.not,[.e 8]⟩,
 ⟨10,.outI "gain.0" JJ,[.e 1,.e 4,.e 6]⟩,
 ⟨11,.outI "move.0" JM,[.e 10,.e 0,.e 1,.e 2]⟩,
 ⟨12,.outI "move.1" Jc,[.e 10,.e 0,.e 1,.e 2]⟩,
 ⟨13,.wneg .i64,[.e 10]⟩,
 ⟨14,.outI "move.0" JM,[.e 13,.e 3,.e 4,.e 5]⟩,
 ⟨15,.outI "move.1" Jc,[.e 13,.e 3,.e 4,.e 5]⟩,
 ⟨16,.ite .i,[.e 8,.e 1,.e 11]⟩,
 ⟨17,.ite .i,[.e 8,.e 2,.e 12]⟩,
 ⟨18,.ite .i,[.e 8,.e 4,.e 14]⟩,
 ⟨19,.ite .i,[.e 8,.e 5,.e 15]⟩,
 ⟨20,.ite .s,[.e 8,.c (.str ⟨#[]⟩),.e 0]⟩,
 ⟨21,.ite .i,[.e 8,.c (.int 0),.e 11]⟩,
 ⟨22,.ite .i,[.e 8,.c (.int 0),.e 12]⟩]
def Wi:List En:=[⟨23,.ite .s,[.e 8,.c (.str ⟨#[]⟩),.e 3]⟩,
 ⟨24,.ite .i,[.e 8,.c (.int 0),.e 14]⟩,
 ⟨25,.ite .i,[.e 8,.c (.int 0),.e 15]⟩,
 ⟨26,.ite .i,[.e 8,.e 7,.c (.int 0)]⟩,
 ⟨27,.or,[.e 8,.e 9]⟩]
def SM:List En:=Wf++(Wi)
def fX:List ObE:=[⟨some 9,.pre "move.p0" HE,[.e 13,.e 3,.e 4,.e 5]⟩,
 ⟨some 9,.pre "move.p0" HE,[.e 10,.e 0,.e 1,.e 2]⟩,
 ⟨some 9,.pre "gain.p0" HK,[.e 1,.e 4,.e 6]⟩]
def W8:List Rf:=[.e 20,.e 21,.e 22,.e 23,.e 24,.e 25,.e 26]
theorem fU:FC.sees W8 (FC.run Try.prog [(57,M6),(60,Hr),(98,IF)] AW 3000 20 16)=some ((SM).map En.be,fX.map ObE.be,[]):=by kernel_rfl
theorem fc {T:Tab}(hz0:(S T 0).size<=140737488355328)(hz3:(S T 3).size<=140737488355328)(A0:AH T SM):
  ((S T 20)=(if Am (S T 0) (I T 1) (I T 2) (S T 3) (I T 4) (I T 5)=0 then (S T 0) else (⟨#[]⟩:ByteArray)))/\
  ((I T 21)=(if Am (S T 0) (I T 1) (I T 2) (S T 3) (I T 4) (I T 5)=0 then Ax (I T 1) (Ar (I T 1) (I T 4) (B T 6)) else 0))/\
  ((I T 22)=(if Am (S T 0) (I T 1) (I T 2) (S T 3) (I T 4) (I T 5)=0 then CT (Ax (I T 1) (Ar (I T 1) (I T 4) (B T 6))) (I T 2) else 0))/\
  ((S T 23)=(if Am (S T 0) (I T 1) (I T 2) (S T 3) (I T 4) (I T 5)=0 then (S T 3) else (⟨#[]⟩:ByteArray)))/\
  ((I T 24)=(if Am (S T 0) (I T 1) (I T 2) (S T 3) (I T 4) (I T 5)=0 then Ax (I T 4) (-(Ar (I T 1) (I T 4) (B T 6))) else 0))/\
  ((I T 25)=(if Am (S T 0) (I T 1) (I T 2) (S T 3) (I T 4) (I T 5)=0 then CT (Ax (I T 4) (-(Ar (I T 1) (I T 4) (B T 6)))) (I T 5) else 0))/\
  ((I T 26)=(Am (S T 0) (I T 1) (I T 2) (S T 3) (I T 4) (I T 5)))/\
  (B T 9=true-> -10000<=I T 4/\I T 4<=10000/\ -12<=I T 5/\I T 5<=48/\ -100<=I T 13/\I T 13<=100)/\
  (B T 9=true-> -10000<=I T 1/\I T 1<=10000/\ -12<=I T 2/\I T 2<=48/\ -100<=I T 10/\I T 10<=100)/\
  (B T 9=true-> -10000<=I T 1/\I T 1<=10000/\ -10000<=I T 4/\I T 4<=10000):=by
 obtain⟨F0,A0⟩:=A0.cut;have F1:=A0;clear A0;refine⟨?_,?_,?_,?_,?_,?_,?_,?_,?_,?_⟩
 .obtain⟨e7,e8,-,-,-,-,-,-,-,-,-,-,-,e20,-⟩:=F0;replace e7:I T 7=(Am (S T 0) (I T 1) (I T 2) (S T 3) (I T 4) (I T 5)):=e7;simp only[AI,AP,zR,zL,zS] at e8 e20;by_cases h:(I T 7)=0
  .have h8:¬B T 8=true:=fun a=>(e8.1 a) h;rw[e20,if_neg h8,<-e7,if_pos h]
  .rw[e20,if_pos (e8.2 h),<-e7,if_neg h]
 .obtain⟨e7,e8,-,e10,e11,-,-,-,-,-,-,-,-,-,e21,-⟩:=F0;replace e7:I T 7=(Am (S T 0) (I T 1) (I T 2) (S T 3) (I T 4) (I T 5)):=e7;replace e10:I T 10=(Ar (I T 1) (I T 4) (B T 6)):=e10;replace e11:I T 11=(Ax (I T 1) (I T 10)):=e11;simp only[AI,AP,zR,zL,zS] at e8 e21;by_cases h:(I T 7)=0
  .have h8:¬B T 8=true:=fun a=>(e8.1 a) h;rw[e21,if_neg h8,<-e7,if_pos h];rw[e11,e10]
  .rw[e21,if_pos (e8.2 h),<-e7,if_neg h]
 .obtain⟨e7,e8,-,e10,-,e12,-,-,-,-,-,-,-,-,-,e22,-⟩:=F0;replace e7:I T 7=(Am (S T 0) (I T 1) (I T 2) (S T 3) (I T 4) (I T 5)):=e7;replace e10:I T 10=(Ar (I T 1) (I T 4) (B T 6)):=e10;replace e12:I T 12=(CT (Ax (I T 1) (I T 10)) (I T 2)):=e12;simp only[AI,AP,zR,zL,zS] at e8 e22;by_cases h:(I T 7)=0
  .have h8:¬B T 8=true:=fun a=>(e8.1 a) h;rw[e22,if_neg h8,<-e7,if_pos h];rw[e12,e10]
  .rw[e22,if_pos (e8.2 h),<-e7,if_neg h]
 .obtain⟨e7,e8,-⟩:=F0;obtain⟨e23,-⟩:=F1;replace e7:I T 7=(Am (S T 0) (I T 1) (I T 2) (S T 3) (I T 4) (I T 5)):=e7;simp only[AI,AP,zR,zL,zS] at e8 e23;by_cases h:(I T 7)=0
  .have h8:¬B T 8=true:=fun a=>(e8.1 a) h;rw[e23,if_neg h8,<-e7,if_pos h]
  .rw[e23,if_pos (e8.2 h),<-e7,if_neg h]
 .obtain⟨e7,e8,-,e10,-,-,e13,e14,-⟩:=F0;obtain⟨-,e24,-⟩:=F1;replace e7:I T 7=(Am (S T 0) (I T 1) (I T 2) (S T 3) (I T 4) (I T 5)):=e7;replace e10:I T 10=(Ar (I T 1) (I T 4) (B T 6)):=e10;replace e14:I T 14=(Ax (I T 4) (I T 13)):=e14;simp only[AI,AP,zR,w2P,wnP,zL,zS] at e8 e13 e24;by_cases h:(I T 7)=0
  .have h8:¬B T 8=true:=fun a=>(e8.1 a) h;rw[e24,if_neg h8,<-e7,if_pos h];have hg:=HF (I T 1) (I T 4) (B T 6);rw[<-e10] at hg;have x13:=e13.1 (by omega) (by omega);rw[e14,x13,e10]
  .rw[e24,if_pos (e8.2 h),<-e7,if_neg h]
 .obtain⟨e7,e8,-,e10,-,-,e13,-,e15,-⟩:=F0;obtain⟨-,-,e25,-⟩:=F1;replace e7:I T 7=(Am (S T 0) (I T 1) (I T 2) (S T 3) (I T 4) (I T 5)):=e7;replace e10:I T 10=(Ar (I T 1) (I T 4) (B T 6)):=e10;replace e15:I T 15=(CT (Ax (I T 4) (I T 13)) (I T 5)):=e15;simp only[AI,AP,zR,w2P,wnP,zL,zS] at e8 e13 e25;by_cases h:(I T 7)=0
  .have h8:¬B T 8=true:=fun a=>(e8.1 a) h;rw[e25,if_neg h8,<-e7,if_pos h];have hg:=HF (I T 1) (I T 4) (B T 6);rw[<-e10] at hg;have x13:=e13.1 (by omega) (by omega);rw[e15,x13,e10]
  .rw[e25,if_pos (e8.2 h),<-e7,if_neg h]
 .obtain⟨e7,e8,-⟩:=F0;obtain⟨-,-,-,e26,-⟩:=F1;replace e7:I T 7=(Am (S T 0) (I T 1) (I T 2) (S T 3) (I T 4) (I T 5)):=e7;simp only[AI,AP,zR,zL,zS] at e8 e26;rw[e26,<-e7];split
  .rfl
  .rename_i h8;by_cases h:(I T 7)=0
   .exact h.symm
   .exact absurd (e8.2 h) h8
 .obtain⟨e7,e8,e9,e10,-,-,e13,-⟩:=F0;replace e7:I T 7=(Am (S T 0) (I T 1) (I T 2) (S T 3) (I T 4) (I T 5)):=e7;replace e10:I T 10=(Ar (I T 1) (I T 4) (B T 6)):=e10;simp only[AI,AP,zR,w2P,wnP] at e8 e9 e13;intro hp;have h0:(I T 7)=0:=by
   by_cases h:(I T 7)=0
   .exact h
   .exact absurd (e8.2 h) (e9.1 hp)
  obtain⟨q1,q2,q3⟩:=JA (e7.symm.trans h0);rw[Ea] at q1 q2;have hg:=HF (I T 1) (I T 4) (B T 6);rw[<-e10] at hg;have x13:=e13.1 (by omega) (by omega);omega
 .obtain⟨e7,e8,e9,e10,-⟩:=F0;replace e7:I T 7=(Am (S T 0) (I T 1) (I T 2) (S T 3) (I T 4) (I T 5)):=e7;replace e10:I T 10=(Ar (I T 1) (I T 4) (B T 6)):=e10;simp only[AI,AP,zR] at e8 e9;intro hp;have h0:(I T 7)=0:=by
   by_cases h:(I T 7)=0
   .exact h
   .exact absurd (e8.2 h) (e9.1 hp)
  obtain⟨q1,q2,q3⟩:=JA (e7.symm.trans h0);rw[Ea] at q1 q2;have hg:=HF (I T 1) (I T 4) (B T 6);rw[<-e10] at hg;omega
 .obtain⟨e7,e8,e9,-⟩:=F0;replace e7:I T 7=(Am (S T 0) (I T 1) (I T 2) (S T 3) (I T 4) (I T 5)):=e7;simp only[AI,AP,zR] at e8 e9;intro hp;have h0:(I T 7)=0:=by
   by_cases h:(I T 7)=0
   .exact h
   .exact absurd (e8.2 h) (e9.1 hp)
  obtain⟨q1,q2,q3⟩:=JA (e7.symm.trans h0);rw[Ea] at q1 q2;omega
theorem PF:Ae Try.prog 16 FC:=by
 refine BH (l:=[(57,M6),(60,Hr),(98,IF)]) Bh (by simp only[List.forall_mem_cons];exact⟨gE,W9,gM,fun _ h=>absurd h (by simp)⟩) fU (by kernel_rfl) fun T us hpre hT hul hS hBd hE=>?_;change us.length=7 at hul;obtain⟨hz0,-,-,hz3,-⟩:=hBd;replace hz0:(S T 0).size<=140737488355328:=hz0;replace hz3:(S T 3).size<=140737488355328:=hz3;have ha0:aS us 0=S T 0:=inS hT hul (by decide);have ha1:aI us 1=I T 1:=inI hT hul (by decide);have ha2:aI us 2=I T 2:=inI hT hul (by decide);have ha3:aS us 3=S T 3:=inS hT hul (by decide);have ha4:aI us 4=I T 4:=inI hT hul (by decide);have ha5:aI us 5=I T 5:=inI hT hul (by decide);have ha6:aB us 6=B T 6:=inB hT hul (by decide);clear hpre
 skip
 obtain⟨A0,hO⟩:=BG (tys:=[.s,.i,.i,.s,.i,.i,.i]) (rs:=W8) hS (by kernel_rfl) hE;obtain⟨q0,q1,q2,q3,q4,q5,q6,r0,r1,r2⟩:=fc hz0 hz3 A0;refine⟨⟨r0,r1,r2,trivial⟩,hO.trans ?_⟩;exact (lc (by show U.str (S T 20)= .str (GZ us);unfold GZ;rw[ha0,ha1,ha2,ha3,ha4,ha5];exact congrArg U.str q0) (lc (by show U.int (I T 21)= .int (GW us);unfold GW;rw[ha0,ha1,ha2,ha3,ha4,ha5,ha6];exact congrArg U.int q1) (lc (by show U.int (I T 22)= .int (GL us);unfold GL;rw[ha0,ha1,ha2,ha3,ha4,ha5,ha6];exact congrArg U.int q2) (lc (by show U.str (S T 23)= .str (GM us);unfold GM;rw[ha0,ha1,ha2,ha3,ha4,ha5];exact congrArg U.str q3) (lc (by show U.int (I T 24)= .int (GK us);unfold GK;rw[ha0,ha1,ha2,ha3,ha4,ha5,ha6];exact congrArg U.int q4) (lc (by show U.int (I T 25)= .int (GQ us);unfold GQ;rw[ha0,ha1,ha2,ha3,ha4,ha5,ha6];exact congrArg U.int q5) (lc (by show U.int (I T 26)= .int (GS us);unfold GS;rw[ha0,ha1,ha2,ha3,ha4,ha5];exact congrArg U.int q6) rfl)))))))
end
end Go.Eng
end
