/-
  A part of the proof: K_Countd K_Count.
-/
import Derived.Test.YtikbgnmcfncnaaaE4
import Derived.Test.YtikbgnmcfncnaaaE6
import Derived.Test.YtikbgnmcfncnaaaKpair
import Derived.Test.YtikbgnmcfncnaaaKgain
import Derived.Test.YtikbgnmcfncnaaaKmove
set_option linter.unusedVariables false
set_option linter.unusedSimpArgs false
noncomputable section
open Go Go.Eng Go.Proofs
set_option maxHeartbeats 4000000
set_option maxRecDepth 100000
namespace Go.Eng
def Hy:List U→ByteArray:=fun us=>(if A8 (aS us 0) (aI us 1) (aI us 2) (aS us 3) (aI us 4) (aI us 5)=0 then (aS us 0) else (⟨#[]⟩:ByteArray))
def H6:List U→Int:=fun us=>(if A8 (aS us 0) (aI us 1) (aI us 2) (aS us 3) (aI us 4) (aI us 5)=0 then BV (aI us 1) (Bb (aI us 1) (aI us 4) (aB us 6)) else 0)
def Hx:List U→Int:=fun us=>(if A8 (aS us 0) (aI us 1) (aI us 2) (aS us 3) (aI us 4) (aI us 5)=0 then Cs (BV (aI us 1) (Bb (aI us 1) (aI us 4) (aB us 6))) (aI us 2) else 0)
def Hf:List U→ByteArray:=fun us=>(if A8 (aS us 0) (aI us 1) (aI us 2) (aS us 3) (aI us 4) (aI us 5)=0 then (aS us 3) else (⟨#[]⟩:ByteArray))
def Hw:List U→Int:=fun us=>(if A8 (aS us 0) (aI us 1) (aI us 2) (aS us 3) (aI us 4) (aI us 5)=0 then BV (aI us 4) (-(Bb (aI us 1) (aI us 4) (aB us 6))) else 0)
def Hk:List U→Int:=fun us=>(if A8 (aS us 0) (aI us 1) (aI us 2) (aS us 3) (aI us 4) (aI us 5)=0 then Cs (BV (aI us 4) (-(Bb (aI us 1) (aI us 4) (aB us 6)))) (aI us 5) else 0)
def Ht:List U→Int:=fun us=>(A8 (aS us 0) (aI us 1) (aI us 2) (aS us 3) (aI us 4) (aI us 5))
def HK:AV:={ sh:=[.agg [.str,k64,k64],.agg [.str,k64,k64],.one (.bool)],blks:=[],outs:=[(.s "Count.0",X5 Hy),(.s "Count.1",Bz H6),(.s "Count.2",Bz Hx),(.s "Count.3",X5 Hf),(.s "Count.4",Bz Hw),(.s "Count.5",Bz Hk),(.s "Count.6",Bz Ht)],c:= .tup [.agg [.s 7,(DP 8),(DP 9)],.agg [.s 10,(DP 11),(DP 12)],(DP 13)],m':=[],pre:=[] }
def WO:List En:=[⟨7,.outI "pair.0" LS,[.e 0,.e 1,.e 2,.e 3,.e 4,.e 5]⟩,
 ⟨8,.ne,[.e 7,.c (.int 0)]⟩,
 ⟨9,.not,[.e 8]⟩,
 ⟨10,.outI "gain.0" Ly,[.e 1,.e 4,.e 6]⟩,
 ⟨11,.outI "move.0" JY,[.e 10,.e 0,.e 1,.e 2]⟩,
 ⟨12,.outI "move.1" Ja,[.e 10,.e 0,.e 1,.e 2]⟩,
 ⟨13,.wneg .i64,[.e 10]⟩,
 ⟨14,.outI "move.0" JY,[.e 13,.e 3,.e 4,.e 5]⟩,
 ⟨15,.outI "move.1" Ja,[.e 13,.e 3,.e 4,.e 5]⟩,
 ⟨16,.ite .i,[.e 8,.e 1,.e 11]⟩,
 ⟨17,.ite .i,[.e 8,.e 2,.e 12]⟩,
 ⟨18,.ite .i,[.e 8,.e 4,.e 14]⟩,
 ⟨19,.ite .i,[.e 8,.e 5,.e 15]⟩,
 ⟨20,.ite .s,[.e 8,.c (.str ⟨#[]⟩),.e 0]⟩,
 ⟨21,.ite .i,[.e 8,.c (.int 0),.e 11]⟩,
 ⟨22,.ite .i,[.e 8,.c (.int 0),.e 12]⟩]
def Wj:List En:=[⟨23,.ite .s,[.e 8,.c (.str ⟨#[]⟩),.e 3]⟩,
 ⟨24,.ite .i,[.e 8,.c (.int 0),.e 14]⟩,
 ⟨25,.ite .i,[.e 8,.c (.int 0),.e 15]⟩,
 ⟨26,.ite .i,[.e 8,.e 7,.c (.int 0)]⟩,
 ⟨27,.or,[.e 8,.e 9]⟩]
def R8:List En:=WO++(Wj)
def gC:List ObE:=[⟨some 9,.pre "move.p0" Gy,[.e 13,.e 3,.e 4,.e 5]⟩,
 ⟨some 9,.pre "move.p0" Gy,[.e 10,.e 0,.e 1,.e 2]⟩,
 ⟨some 9,.pre "gain.p0" Jd,[.e 1,.e 4,.e 6]⟩]
def Xb:List Rf:=[.e 20,.e 21,.e 22,.e 23,.e 24,.e 25,.e 26]
theorem fa:HK.sees Xb (HK.run Try.prog [(57,Nd),(60,K3),(98,Hs)] AW 3000 20 16)=some ((R8).map En.be,gC.map ObE.be,[]):=by kernel_rfl
theorem gV {T:Tab}(hz0:(S T 0).size≤140737488355328)(hz3:(S T 3).size≤140737488355328)(A0:AH T R8):
  ((S T 20)=(if A8 (S T 0) (I T 1) (I T 2) (S T 3) (I T 4) (I T 5)=0 then (S T 0) else (⟨#[]⟩:ByteArray)))∧
  ((I T 21)=(if A8 (S T 0) (I T 1) (I T 2) (S T 3) (I T 4) (I T 5)=0 then BV (I T 1) (Bb (I T 1) (I T 4) (B T 6)) else 0))∧
  ((I T 22)=(if A8 (S T 0) (I T 1) (I T 2) (S T 3) (I T 4) (I T 5)=0 then Cs (BV (I T 1) (Bb (I T 1) (I T 4) (B T 6))) (I T 2) else 0))∧
  ((S T 23)=(if A8 (S T 0) (I T 1) (I T 2) (S T 3) (I T 4) (I T 5)=0 then (S T 3) else (⟨#[]⟩:ByteArray)))∧
  ((I T 24)=(if A8 (S T 0) (I T 1) (I T 2) (S T 3) (I T 4) (I T 5)=0 then BV (I T 4) (-(Bb (I T 1) (I T 4) (B T 6))) else 0))∧
  ((I T 25)=(if A8 (S T 0) (I T 1) (I T 2) (S T 3) (I T 4) (I T 5)=0 then Cs (BV (I T 4) (-(Bb (I T 1) (I T 4) (B T 6)))) (I T 5) else 0))∧
  ((I T 26)=(A8 (S T 0) (I T 1) (I T 2) (S T 3) (I T 4) (I T 5)))∧
  (B T 9=true→ -10000≤I T 4∧I T 4≤10000∧ -12≤I T 5∧I T 5≤48∧ -100≤I T 13∧I T 13≤100)∧
  (B T 9=true→ -10000≤I T 1∧I T 1≤10000∧ -12≤I T 2∧I T 2≤48∧ -100≤I T 10∧I T 10≤100)∧
  (B T 9=true→ -10000≤I T 1∧I T 1≤10000∧ -10000≤I T 4∧I T 4≤10000):=by
 obtain⟨F0,A0⟩:=A0.cut
 have F1:=A0;clear A0
 refine⟨?_,?_,?_,?_,?_,?_,?_,?_,?_,?_⟩
 ·obtain⟨e7,e8,-,-,-,-,-,-,-,-,-,-,-,e20,-⟩:=F0
  replace e7:I T 7=(A8 (S T 0) (I T 1) (I T 2) (S T 3) (I T 4) (I T 5)):=e7
  simp only[AI,AS,zR,zL,zS] at e8 e20
  by_cases h:(I T 7)=0
  ·have h8:¬B T 8=true:=fun a=>(e8.1 a) h
   rw[e20,if_neg h8,←e7,if_pos h]
  ·rw[e20,if_pos (e8.2 h),←e7,if_neg h]
 ·obtain⟨e7,e8,-,e10,e11,-,-,-,-,-,-,-,-,-,e21,-⟩:=F0
  replace e7:I T 7=(A8 (S T 0) (I T 1) (I T 2) (S T 3) (I T 4) (I T 5)):=e7
  replace e10:I T 10=(Bb (I T 1) (I T 4) (B T 6)):=e10
  replace e11:I T 11=(BV (I T 1) (I T 10)):=e11
  simp only[AI,AS,zR,zL,zS] at e8 e21
  by_cases h:(I T 7)=0
  ·have h8:¬B T 8=true:=fun a=>(e8.1 a) h
   rw[e21,if_neg h8,←e7,if_pos h]
   rw[e11,e10]
  ·rw[e21,if_pos (e8.2 h),←e7,if_neg h]
 ·obtain⟨e7,e8,-,e10,-,e12,-,-,-,-,-,-,-,-,-,e22,-⟩:=F0
  replace e7:I T 7=(A8 (S T 0) (I T 1) (I T 2) (S T 3) (I T 4) (I T 5)):=e7
  replace e10:I T 10=(Bb (I T 1) (I T 4) (B T 6)):=e10
  replace e12:I T 12=(Cs (BV (I T 1) (I T 10)) (I T 2)):=e12
  simp only[AI,AS,zR,zL,zS] at e8 e22
  by_cases h:(I T 7)=0
  ·have h8:¬B T 8=true:=fun a=>(e8.1 a) h
   rw[e22,if_neg h8,←e7,if_pos h]
   rw[e12,e10]
  ·rw[e22,if_pos (e8.2 h),←e7,if_neg h]
 ·obtain⟨e7,e8,-⟩:=F0
  obtain⟨e23,-⟩:=F1
  replace e7:I T 7=(A8 (S T 0) (I T 1) (I T 2) (S T 3) (I T 4) (I T 5)):=e7
  simp only[AI,AS,zR,zL,zS] at e8 e23
  by_cases h:(I T 7)=0
  ·have h8:¬B T 8=true:=fun a=>(e8.1 a) h
   rw[e23,if_neg h8,←e7,if_pos h]
  ·rw[e23,if_pos (e8.2 h),←e7,if_neg h]
 ·obtain⟨e7,e8,-,e10,-,-,e13,e14,-⟩:=F0
  obtain⟨-,e24,-⟩:=F1
  replace e7:I T 7=(A8 (S T 0) (I T 1) (I T 2) (S T 3) (I T 4) (I T 5)):=e7
  replace e10:I T 10=(Bb (I T 1) (I T 4) (B T 6)):=e10
  replace e14:I T 14=(BV (I T 4) (I T 13)):=e14
  simp only[AI,AS,zR,w2P,wnP,zL,zS] at e8 e13 e24
  by_cases h:(I T 7)=0
  ·have h8:¬B T 8=true:=fun a=>(e8.1 a) h
   rw[e24,if_neg h8,←e7,if_pos h]
   have hg:=JQ (I T 1) (I T 4) (B T 6)
   rw[←e10] at hg
   have x13:=e13.1 (by omega) (by omega)
   rw[e14,x13,e10]
  ·rw[e24,if_pos (e8.2 h),←e7,if_neg h]
 ·obtain⟨e7,e8,-,e10,-,-,e13,-,e15,-⟩:=F0
  obtain⟨-,-,e25,-⟩:=F1
  replace e7:I T 7=(A8 (S T 0) (I T 1) (I T 2) (S T 3) (I T 4) (I T 5)):=e7
  replace e10:I T 10=(Bb (I T 1) (I T 4) (B T 6)):=e10
  replace e15:I T 15=(Cs (BV (I T 4) (I T 13)) (I T 5)):=e15
  simp only[AI,AS,zR,w2P,wnP,zL,zS] at e8 e13 e25
  by_cases h:(I T 7)=0
  ·have h8:¬B T 8=true:=fun a=>(e8.1 a) h
   rw[e25,if_neg h8,←e7,if_pos h]
   have hg:=JQ (I T 1) (I T 4) (B T 6)
   rw[←e10] at hg
   have x13:=e13.1 (by omega) (by omega)
   rw[e15,x13,e10]
  ·rw[e25,if_pos (e8.2 h),←e7,if_neg h]
 ·obtain⟨e7,e8,-⟩:=F0
  obtain⟨-,-,-,e26,-⟩:=F1
  replace e7:I T 7=(A8 (S T 0) (I T 1) (I T 2) (S T 3) (I T 4) (I T 5)):=e7
  simp only[AI,AS,zR,zL,zS] at e8 e26
  rw[e26,←e7]
  split
  ·rfl
  ·rename_i h8
   by_cases h:(I T 7)=0
   ·exact h.symm
   ·exact absurd (e8.2 h) h8
 ·obtain⟨e7,e8,e9,e10,-,-,e13,-⟩:=F0
  replace e7:I T 7=(A8 (S T 0) (I T 1) (I T 2) (S T 3) (I T 4) (I T 5)):=e7
  replace e10:I T 10=(Bb (I T 1) (I T 4) (B T 6)):=e10
  simp only[AI,AS,zR,w2P,wnP] at e8 e9 e13
  intro hp
  have h0:(I T 7)=0:=by
   by_cases h:(I T 7)=0
   ·exact h
   ·exact absurd (e8.2 h) (e9.1 hp)
  obtain⟨q1,q2,q3⟩:=Li (e7.symm.trans h0)
  rw[Fa] at q1 q2
  have hg:=JQ (I T 1) (I T 4) (B T 6)
  rw[←e10] at hg
  have x13:=e13.1 (by omega) (by omega)
  omega
 ·obtain⟨e7,e8,e9,e10,-⟩:=F0
  replace e7:I T 7=(A8 (S T 0) (I T 1) (I T 2) (S T 3) (I T 4) (I T 5)):=e7
  replace e10:I T 10=(Bb (I T 1) (I T 4) (B T 6)):=e10
  simp only[AI,AS,zR] at e8 e9
  intro hp
  have h0:(I T 7)=0:=by
   by_cases h:(I T 7)=0
   ·exact h
   ·exact absurd (e8.2 h) (e9.1 hp)
  obtain⟨q1,q2,q3⟩:=Li (e7.symm.trans h0)
  rw[Fa] at q1 q2
  have hg:=JQ (I T 1) (I T 4) (B T 6)
  rw[←e10] at hg
  omega
 ·obtain⟨e7,e8,e9,-⟩:=F0
  replace e7:I T 7=(A8 (S T 0) (I T 1) (I T 2) (S T 3) (I T 4) (I T 5)):=e7
  simp only[AI,AS,zR] at e8 e9
  intro hp
  have h0:(I T 7)=0:=by
   by_cases h:(I T 7)=0
   ·exact h
   ·exact absurd (e8.2 h) (e9.1 hp)
  obtain⟨q1,q2,q3⟩:=Li (e7.symm.trans h0)
  rw[Fa] at q1 q2
  omega
theorem U6:Ai Try.prog 16 HK:=by
 refine BG (l:=[(57,Nd),(60,K3),(98,Hs)]) Bq (by simp only[List.forall_mem_cons];exact⟨gZ,gS,gj,fun _ h=>absurd h (by simp)⟩) fa (by kernel_rfl) fun T us hpre hT hul hS hBd hE=>?_
 change us.length=7 at hul
 obtain⟨hz0,-,-,hz3,-⟩:=hBd
 replace hz0:(S T 0).size≤140737488355328:=hz0
 replace hz3:(S T 3).size≤140737488355328:=hz3
 have ha0:aS us 0=S T 0:=inS hT hul (by decide)
 have ha1:aI us 1=I T 1:=inI hT hul (by decide)
 have ha2:aI us 2=I T 2:=inI hT hul (by decide)
 have ha3:aS us 3=S T 3:=inS hT hul (by decide)
 have ha4:aI us 4=I T 4:=inI hT hul (by decide)
 have ha5:aI us 5=I T 5:=inI hT hul (by decide)
 have ha6:aB us 6=B T 6:=inB hT hul (by decide)
 clear hpre
 skip
 obtain⟨A0,hO⟩:=BI (tys:=[.s,.i,.i,.s,.i,.i,.i]) (rs:=Xb) hS (by kernel_rfl) hE
 obtain⟨q0,q1,q2,q3,q4,q5,q6,r0,r1,r2⟩:=gV hz0 hz3 A0
 refine⟨⟨r0,r1,r2,trivial⟩,hO.trans ?_⟩
 exact (lc (by show U.str (S T 20)= .str (Hy us);unfold Hy;rw[ha0,ha1,ha2,ha3,ha4,ha5];exact congrArg U.str q0) (lc (by show U.int (I T 21)= .int (H6 us);unfold H6;rw[ha0,ha1,ha2,ha3,ha4,ha5,ha6];exact congrArg U.int q1) (lc (by show U.int (I T 22)= .int (Hx us);unfold Hx;rw[ha0,ha1,ha2,ha3,ha4,ha5,ha6];exact congrArg U.int q2) (lc (by show U.str (S T 23)= .str (Hf us);unfold Hf;rw[ha0,ha1,ha2,ha3,ha4,ha5];exact congrArg U.str q3) (lc (by show U.int (I T 24)= .int (Hw us);unfold Hw;rw[ha0,ha1,ha2,ha3,ha4,ha5,ha6];exact congrArg U.int q4) (lc (by show U.int (I T 25)= .int (Hk us);unfold Hk;rw[ha0,ha1,ha2,ha3,ha4,ha5,ha6];exact congrArg U.int q5) (lc (by show U.int (I T 26)= .int (Ht us);unfold Ht;rw[ha0,ha1,ha2,ha3,ha4,ha5];exact congrArg U.int q6) rfl)))))))
end Go.Eng
end
