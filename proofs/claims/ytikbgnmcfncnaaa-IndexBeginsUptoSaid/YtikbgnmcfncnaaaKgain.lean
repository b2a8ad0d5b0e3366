/-
  A part of the proof: K_gaind K_gain.
-/
import Derived.Test.YtikbgnmcfncnaaaE4
import Derived.Test.YtikbgnmcfncnaaaE5
set_option linter.unusedVariables false
set_option linter.unusedSimpArgs false
noncomputable section
namespace Go.Eng
section
open Go Go.Eng Go.Proofs
set_option maxHeartbeats 4000000
set_option maxRecDepth 100000
def JJ:List U->Int:=fun us=>(Ar (aI us 0) (aI us 1) (aB us 2))
def HK:List U->Prop:=fun us=> -10000<=(aI us 0)/\(aI us 0)<=10000/\ -10000<=(aI us 1)/\(aI us 1)<=10000
def Hr:AV:={ sh:=[.one (k64),.one (k64),.one (.bool)],blks:=[],outs:=[(.s "gain.0",Bl JJ)],c:=(C4 3),m':=[],pre:=[(.s "gain.p0",HK)] }
def YV:List En:=[⟨3,.not,[.e 2]⟩,
 ⟨4,.lt,[.e 0,.e 1]⟩,
 ⟨5,.and,[.e 2,.e 4]⟩,
 ⟨6,.w2 .i64 .sub,[.e 1,.e 0]⟩,
 ⟨7,.o2 .tdiv,[.e 6,.c (.int 100)]⟩,
 ⟨8,.o2 .min,[.e 7,.c (.int 19)]⟩,
 ⟨9,.pick .i,[.e 8,.c (.int 10),.c (.int 9),.c (.int 8),.c (.int 7),.c (.int 6),.c (.int 6),.c (.int 5),.c (.int 5),.c (.int 4),.c (.int 4),.c (.int 3),.c (.int 3),.c (.int 3),.c (.int 2),.c (.int 2),.c (.int 2),.c (.int 1),.c (.int 1),.c (.int 1),.c (.int 1)]⟩,
 ⟨10,.o2 .sub,[.c (.int 20),.e 9]⟩,
 ⟨11,.and,[.e 2,.n 4]⟩,
 ⟨12,.w2 .i64 .sub,[.e 0,.e 1]⟩,
 ⟨13,.o2 .tdiv,[.e 12,.c (.int 100)]⟩,
 ⟨14,.o2 .min,[.e 13,.c (.int 19)]⟩,
 ⟨15,.pick .i,[.e 14,.c (.int 10),.c (.int 9),.c (.int 8),.c (.int 7),.c (.int 6),.c (.int 6),.c (.int 5),.c (.int 5),.c (.int 4),.c (.int 4),.c (.int 3),.c (.int 3),.c (.int 3),.c (.int 2),.c (.int 2),.c (.int 2),.c (.int 1),.c (.int 1),.c (.int 1),.c (.int 1)]⟩,
 ⟨16,.ite .i,[.e 5,.e 10,.e 15]⟩,
 ⟨17,.or,[.e 5,.e 11]⟩,
 ⟨18,.ite .i,[.e 3,.c (.int 10),.e 16]⟩]
def Xs:List En:=[⟨19,.or,[.e 3,.e 17]⟩]
def Vg:List En:=YV++(Xs)
def ig:List ObE:=[⟨some 11,.inr,[.e 14,.c (.int 20)]⟩,
 ⟨some 5,.inr,[.e 8,.c (.int 20)]⟩]
def ax:List Rf:=[.e 18]
theorem gv:Hr.sees ax (Hr.run Try.prog [] AW 3000 20 60)=some ((Vg).map En.be,ig.map ObE.be,[]):=by kernel_rfl
theorem iJ {T:Tab}(pre0: -10000<=I T 0/\I T 0<=10000/\ -10000<=I T 1/\I T 1<=10000)(A0:AH T Vg):
  ((I T 18)=(Ar (I T 0) (I T 1) (B T 2)))/\
  (B T 11=true->0<=I T 14/\I T 14 < 20)/\
  (B T 5=true->0<=I T 8/\I T 8 < 20):=by
 obtain⟨F0,A0⟩:=A0.cut;have F1:=A0;clear A0;refine⟨?_,?_,?_⟩
 .obtain⟨e3,e4,e5,e6,e7,e8,e9,e10,-,e12,e13,e14,e15,e16,-,e18,-⟩:=F0;simp only[AI,AP,zR,Nk,Nw,and_false,or_false,LW,w2P,zL,zS] at e3 e4 e5 e6 e7 e8 e9 e10 e12 e13 e14 e15 e16 e18;obtain⟨p1,p2,p3,p4⟩:=pre0;unfold Ar;by_cases hl:(B T 2)=true
  .have h3:¬B T 3=true:=fun a=>(e3.1 a) hl;rw[e18,if_neg h3,if_pos hl];by_cases hlt:(I T 0) < I T 1
   .have h5:=e5.2 ⟨hl,e4.2 hlt⟩;have x6:=e6 (by omega) (by omega);have x8:(I T 8)=min (((I T 1) - (I T 0)) / 100) 19:=by
     have x7:(I T 7)=(I T 6) / 100:=by rw[e7,if_pos (by omega)]
     rw[e8];split<;>omega
    have x9:(I T 9)=D8 Da (I T 8):=by
     simp only[D8,Da];exact e9
    rw[e16,if_pos h5,e10,if_pos hlt,<-x8,x9]
   .have h5:¬B T 5=true:=fun a=>hlt (e4.1 (e5.1 a).2);have x12:=e12 (by omega) (by omega);have x14:(I T 14)=min (((I T 0) - (I T 1)) / 100) 19:=by
     have x13:(I T 13)=(I T 12) / 100:=by rw[e13,if_pos (by omega)]
     rw[e14];split<;>omega
    have x15:(I T 15)=D8 Da (I T 14):=by
     simp only[D8,Da];exact e15
    rw[e16,if_neg h5,if_neg hlt,<-x14,x15]
  .rw[e18,if_pos (e3.2 hl),if_neg hl]
 .obtain⟨-,e4,-,-,-,-,-,-,e11,e12,e13,e14,-⟩:=F0;simp only[AI,AP,zN,zR,LW,w2P] at e4 e11 e12 e13 e14;intro h;obtain⟨p1,p2,p3,p4⟩:=pre0;have h1:=e11.1 h;have hlt:¬I T 0 < I T 1:=fun a=>by
   have:=e4.2 a;simp[this] at h1
  have x12:=e12 (by omega) (by omega);have x13:(I T 13)=(I T 12) / 100:=by rw[e13,if_pos (by omega)]
  rw[e14];split<;>omega
 .obtain⟨-,e4,e5,e6,e7,e8,-⟩:=F0;simp only[AI,AP,zR,LW,w2P] at e4 e5 e6 e7 e8;intro h;obtain⟨p1,p2,p3,p4⟩:=pre0;have hlt:=e4.1 (e5.1 h).2;have x6:=e6 (by omega) (by omega);have x7:(I T 7)=(I T 6) / 100:=by rw[e7,if_pos (by omega)]
  rw[e8];split<;>omega
theorem W9:Ae Try.prog 60 Hr:=by
 refine BH (l:=[]) Bh (by intro p h;exact absurd h (by simp)) gv (by kernel_rfl) fun T us hpre hT hul hS hBd hE=>?_;change us.length=3 at hul;clear hBd;have ha0:aI us 0=I T 0:=inI hT hul (by decide);have ha1:aI us 1=I T 1:=inI hT hul (by decide);have ha2:aB us 2=B T 2:=inB hT hul (by decide);have pre0: -10000<=I T 0/\I T 0<=10000/\ -10000<=I T 1/\I T 1<=10000:=by
  have h:=hpre (.s "gain.p0",HK) (by simp[Hr]);change HK us at h;unfold HK at h;simp only[ha0,ha1] at h;exact h
 clear hpre
 skip
 obtain⟨A0,hO⟩:=BG (tys:=[.i]) (rs:=ax) hS (by kernel_rfl) hE;obtain⟨q0,r0,r1⟩:=iJ pre0 A0;refine⟨⟨r0,r1,trivial⟩,hO.trans ?_⟩;exact (lc (by show U.int (I T 18)= .int (JJ us);unfold JJ;rw[ha0,ha1,ha2];exact congrArg U.int q0) rfl)
end
end Go.Eng
end
