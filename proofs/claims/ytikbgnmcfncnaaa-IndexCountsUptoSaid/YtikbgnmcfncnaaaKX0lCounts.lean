/-
  A part of the proof: the evaluator of code and its soundness.
-/
import Derived.Test.YtikbgnmcfncnaaaXQlCounts
import Derived.Test.YtikbgnmcfncnaaaE4
import Derived.Test.YtikbgnmcfncnaaaE5
import Derived.Test.YtikbgnmcfncnaaaKB0
set_option linter.unusedVariables false
set_option linter.unusedSimpArgs false
noncomputable section
namespace Go.Eng
section
open Go Go.Eng Go.Proofs
set_option maxHeartbeats 4000000
set_option maxRecDepth 100000
def G9:List U->Int:=fun us=>(if (Ay (aI us 0) (-10000) 10000&&Ay (aI us 1) (-10000) 10000)=true then Ar (aI us 0) (aI us 1) (aB us 2) else 0)
def HR:List U->Int:=fun us=>(if (Ay (aI us 0) (-10000) 10000&&Ay (aI us 1) (-10000) 10000)=true then 0 else 3)
def NM:AV:={ sh:=[.one (k64),.one (k64),.one (.bool)],blks:=[],outs:=[(.s "Gain.0",Bl G9),(.s "Gain.1",Bl HR)],c:= .tup [(C4 3),(C4 4)],m':=[],pre:=[] }
def YM:List En:=[⟨3,.le,[.c (.int (-10000)),.e 0]⟩,
 ⟨4,.id .b,[.e 3]⟩,
 ⟨5,.le,[.e 0,.c (.int 10000)]⟩,
 ⟨6,.and,[.e 3,.e 5]⟩,
 ⟨7,.id .b,[.e 6]⟩,
 ⟨8,.le,[.c (.int (-10000)),.e 1]⟩,
 ⟨9,.and,[.e 7,.e 8]⟩,
 ⟨10,.le,[.e 1,.c (.int 10000)]⟩,
 ⟨11,.and,[.e 8,.e 10]⟩,
 ⟨12,.or,[.n 6,.n 11]⟩,
 ⟨13,.not,[.e 12]⟩,
 ⟨14,.outI "gain.0" JJ,[.e 0,.e 1,.e 2]⟩,
 ⟨15,.ite .i,[.e 12,.c (.int 3),.c (.int 0)]⟩,
 ⟨16,.ite .i,[.e 12,.c (.int 0),.e 14]⟩,
 ⟨17,.or,[.e 12,.e 13]⟩]
def Tf:List En:=YM
def iM:List ObE:=[⟨some 13,.pre "gain.p0" HK,[.e 0,.e 1,.e 2]⟩]
def Z9:List Rf:=[.e 16,.e 15]
theorem iP:NM.sees Z9 (NM.run Try.prog [(60,Hr)] AW 3000 20 17)=some ((Tf).map En.be,iM.map ObE.be,[]):=by kernel_rfl
theorem iS {T:Tab}(A0:AH T Tf):
  ((I T 16)=(if (Ay (I T 0) (-10000) 10000&&Ay (I T 1) (-10000) 10000)=true then Ar (I T 0) (I T 1) (B T 2) else 0))/\
  ((I T 15)=(if (Ay (I T 0) (-10000) 10000&&Ay (I T 1) (-10000) 10000)=true then 0 else 3))/\
  (B T 13=true-> -10000<=I T 0/\I T 0<=10000/\ -10000<=I T 1/\I T 1<=10000):=by
 have F0:=A0;clear A0;refine⟨?_,?_,?_⟩
 .obtain⟨e3,-,e5,e6,-,e8,-,e10,e11,e12,-,e14,-,e16,-⟩:=F0;replace e14:I T 14=(Ar (I T 0) (I T 1) (B T 2)):=e14;simp only[AI,AP,zN,zR,zL,zS] at e3 e5 e6 e8 e10 e11 e12 e16;have hb:(B T 12)=true↔¬(Ay (I T 0) (-10000) 10000&&Ay (I T 1) (-10000) 10000)=true:=by
   rw[vo,Bk,Bk,<-e3,<-e5,<-e8,<-e10,<-e6,<-e11,e12];cases (B T 6)<;>cases (B T 11)<;>simp
  rw[e16];by_cases h:(Ay (I T 0) (-10000) 10000&&Ay (I T 1) (-10000) 10000)=true
  .rw[if_pos h,if_neg (fun a=>hb.1 a h),e14]
  .rw[if_neg h,if_pos (hb.2 h)]
 .obtain⟨e3,-,e5,e6,-,e8,-,e10,e11,e12,-,-,e15,-⟩:=F0;simp only[AI,AP,zN,zR,zL,zS] at e3 e5 e6 e8 e10 e11 e12 e15;have hb:(B T 12)=true↔¬(Ay (I T 0) (-10000) 10000&&Ay (I T 1) (-10000) 10000)=true:=by
   rw[vo,Bk,Bk,<-e3,<-e5,<-e8,<-e10,<-e6,<-e11,e12];cases (B T 6)<;>cases (B T 11)<;>simp
  rw[e15];by_cases h:(Ay (I T 0) (-10000) 10000&&Ay (I T 1) (-10000) 10000)=true
  .rw[if_pos h,if_neg (fun a=>hb.1 a h)]
  .rw[if_neg h,if_pos (hb.2 h)]
 .obtain⟨e3,-,e5,e6,-,e8,-,e10,e11,e12,e13,-⟩:=F0;simp only[AI,AP,zN,zR] at e3 e5 e6 e8 e10 e11 e12 e13;intro hp;have h12:(B T 12)=false:=by simpa using e13.1 hp
  have h6:(B T 6)=true/\B T 11=true:=by
   rw[<-Bool.not_eq_true,e12] at h12;simpa using h12
  rw[e6,e11,e3,e5,e8,e10] at h6;omega
theorem gA:Ae Try.prog 17 NM:=by
 refine BH (l:=[(60,Hr)]) Bh (by simp only[wJ];exact⟨W9,fun _ h=>absurd h (by simp)⟩) iP (by kernel_rfl) fun T us hpre hT hul hS hBd hE=>?_;change us.length=3 at hul;clear hBd;have ha0:aI us 0=I T 0:=inI hT hul (by decide);have ha1:aI us 1=I T 1:=inI hT hul (by decide);have ha2:aB us 2=B T 2:=inB hT hul (by decide);clear hpre
 skip
 obtain⟨A0,hO⟩:=BG (tys:=[.i,.i]) (rs:=Z9) hS (by kernel_rfl) hE;obtain⟨q0,q1,r0⟩:=iS A0;refine⟨⟨r0,trivial⟩,hO.trans ?_⟩;exact (lc (by show U.int (I T 16)= .int (G9 us);unfold G9;rw[ha0,ha1,ha2];exact congrArg U.int q0) (lc (by show U.int (I T 15)= .int (HR us);unfold HR;rw[ha0,ha1];exact congrArg U.int q1) rfl))
def kJ:List U->Int:=fun us=>(Ar (aI us 0) (aI us 1) (aB us 2))
def jg:List U->Prop:=fun us=> -10000<=(aI us 0)/\(aI us 0)<=10000/\ -10000<=(aI us 1)/\(aI us 1)<=10000
def jd:AV:={ sh:=[.one (k64),.one (k64),.one (.bool)],blks:=[],outs:=[(.s "rgain.0",Bl kJ)],c:=(C4 3),m':=[],pre:=[(.s "rgain.p0",jg)] }
def oF:List En:=[⟨3,.row 20 1 [.i,.i,.i,.i,.i,.i,.i,.i,.i,.i,.i,.i,.i,.i,.i,.i,.i,.i,.i,.i],[.c (.int 10),.c (.int 9),.c (.int 8),.c (.int 7),.c (.int 6),.c (.int 6),.c (.int 5),.c (.int 5),.c (.int 4),.c (.int 4),.c (.int 3),.c (.int 3),.c (.int 3),.c (.int 2),.c (.int 2),.c (.int 2),.c (.int 1),.c (.int 1),.c (.int 1),.c (.int 1)]⟩,
 ⟨4,.w2 .i64 .sub,[.e 0,.e 1]⟩,
 ⟨5,.le,[.c (.int 0),.e 4]⟩,
 ⟨6,.and,[.e 2,.e 5]⟩,
 ⟨7,.o2 .tdiv,[.e 4,.c (.int 100)]⟩,
 ⟨8,.o2 .min,[.e 7,.c (.int 19)]⟩,
 ⟨9,.get .i 0,[.e 3,.e 8]⟩,
 ⟨10,.and,[.e 2,.n 5]⟩,
 ⟨11,.wneg .i64,[.e 4]⟩,
 ⟨12,.o2 .tdiv,[.e 11,.c (.int 100)]⟩,
 ⟨13,.o2 .min,[.e 12,.c (.int 19)]⟩,
 ⟨14,.get .i 0,[.e 3,.e 13]⟩,
 ⟨15,.o2 .sub,[.c (.int 20),.e 14]⟩,
 ⟨16,.ite .i,[.e 5,.e 9,.e 15]⟩,
 ⟨17,.or,[.e 6,.e 10]⟩,
 ⟨18,.not,[.e 2]⟩]
def ny:List En:=[⟨19,.ite .i,[.e 2,.e 16,.c (.int 10)]⟩,
 ⟨20,.or,[.e 17,.e 18]⟩]
def mw:List En:=oF++(ny)
def pW:List ObE:=[⟨some 10,.inl,[.e 13,.e 3]⟩,
 ⟨some 6,.inl,[.e 8,.e 3]⟩]
def oP:List Rf:=[.e 19]
theorem pf:jd.sees oP (jd.run Try.prog [] AW 3000 20 89)=some ((mw).map En.be,pW.map ObE.be,[]):=by kernel_rfl
theorem pj {T:Tab}(pre0: -10000<=I T 0/\I T 0<=10000/\ -10000<=I T 1/\I T 1<=10000)(A0:AH T mw):
  ((I T 19)=(Ar (I T 0) (I T 1) (B T 2)))/\
  (B T 10=true->0<=I T 13/\I T 13 < ((L T 3)).length)/\
  (B T 6=true->0<=I T 8/\I T 8 < ((L T 3)).length):=by
 obtain⟨F0,A0⟩:=A0.cut;have F1:=A0;clear A0;refine⟨?_,?_,?_⟩
 .obtain⟨e3,e4,e5,-,e7,e8,e9,-,e11,e12,e13,e14,e15,e16,-⟩:=F0;obtain⟨e19,-⟩:=F1;simp only[AI,AP,zR,LW,w2P,wnP,zL,zS,uR,DM,zW] at e3 e4 e5 e7 e8 e9 e11 e12 e13 e14 e15 e16 e19;obtain⟨p1,p2,p3,p4⟩:=pre0;have x3:(L T 3)=mK:=e3;have x4:=e4 (by omega) (by omega);unfold Ar;by_cases hl:(B T 2)=true
  .rw[e19,if_pos hl,if_pos hl,e16];by_cases h5:(B T 5)=true
   .have hge:=e5.1 h5;have x7:(I T 7)=(I T 4) / 100:=by rw[e7,if_pos (by omega)]
    have x8:(I T 8)=min (((I T 0) - (I T 1)) / 100) 19:=by
     rw[e8];split<;>omega
    rw[if_pos h5,if_neg (by omega),e9,x3,nI (by omega) (by omega),x8]
   .have hge:¬0<=I T 4:=fun a=>h5 (e5.2 a);have x11:=e11.1 (by omega) (by omega);have x12:(I T 12)=(I T 11) / 100:=by rw[e12,if_pos (by omega)]
    have x13:(I T 13)=min (((I T 1) - (I T 0)) / 100) 19:=by
     rw[e13];split<;>omega
    rw[if_neg h5,if_pos (by omega),e15,e14,x3,nI (by omega) (by omega),x13]
  .rw[e19,if_neg hl,if_neg hl]
 .obtain⟨e3,e4,e5,-,-,-,-,e10,e11,e12,e13,-⟩:=F0;simp only[AI,AP,zN,zR,LW,w2P,wnP,zL,zS,uR,DM,zW] at e3 e4 e5 e10 e11 e12 e13;intro h;obtain⟨p1,p2,p3,p4⟩:=pre0;have x3:(L T 3)=mK:=e3;have x4:=e4 (by omega) (by omega);have h5:¬B T 5=true:=fun a=>by
   have:=(e10.1 h).2;simp[a] at this
  have hge:¬0<=I T 4:=fun a=>h5 (e5.2 a);have x11:=e11.1 (by omega) (by omega);have x12:(I T 12)=(I T 11) / 100:=by rw[e12,if_pos (by omega)]
  rw[x3,e13];show 0<=_/\_ < ((20:Nat):Int);split<;>omega
 .obtain⟨e3,e4,e5,e6,e7,e8,-⟩:=F0;simp only[AI,AP,zR,LW,w2P,zL,zS,uR,DM,zW] at e3 e4 e5 e6 e7 e8;intro h;obtain⟨p1,p2,p3,p4⟩:=pre0;have x3:(L T 3)=mK:=e3;have x4:=e4 (by omega) (by omega);have hge:=e5.1 (e6.1 h).2;have x7:(I T 7)=(I T 4) / 100:=by rw[e7,if_pos (by omega)]
  rw[x3,e8];show 0<=_/\_ < ((20:Nat):Int);split<;>omega
theorem nU:Ae Try.prog 89 jd:=by
 refine BH (l:=[]) Bh (by intro p h;exact absurd h (by simp)) pf (by kernel_rfl) fun T us hpre hT hul hS hBd hE=>?_;change us.length=3 at hul;clear hBd;have ha0:aI us 0=I T 0:=inI hT hul (by decide);have ha1:aI us 1=I T 1:=inI hT hul (by decide);have ha2:aB us 2=B T 2:=inB hT hul (by decide);have pre0: -10000<=I T 0/\I T 0<=10000/\ -10000<=I T 1/\I T 1<=10000:=by
  have h:=hpre (.s "rgain.p0",jg) (by simp[jd]);change jg us at h;unfold jg at h;simp only[ha0,ha1] at h;exact h
 clear hpre
 skip
 obtain⟨A0,hO⟩:=BG (tys:=[.i]) (rs:=oP) hS (by kernel_rfl) hE;obtain⟨q0,r0,r1⟩:=pj pre0 A0;refine⟨⟨r0,r1,trivial⟩,hO.trans ?_⟩;exact (lc (by show U.int (I T 19)= .int (kJ us);unfold kJ;rw[ha0,ha1,ha2];exact congrArg U.int q0) rfl)
def lu:List U->Int:=fun us=>(if (Ay (aI us 0) (-10000) 10000&&Ay (aI us 1) (-10000) 10000)=true then Ar (aI us 0) (aI us 1) (aB us 2) else 0)
def lh:List U->Int:=fun us=>(if (Ay (aI us 0) (-10000) 10000&&Ay (aI us 1) (-10000) 10000)=true then 0 else 3)
def mD:AV:={ sh:=[.one (k64),.one (k64),.one (.bool)],blks:=[],outs:=[(.s "rGain.0",Bl lu),(.s "rGain.1",Bl lh)],c:= .tup [(C4 3),(C4 4)],m':=[],pre:=[] }
def oA:List En:=[⟨3,.le,[.c (.int (-10000)),.e 0]⟩,
 ⟨4,.id .b,[.e 3]⟩,
 ⟨5,.le,[.e 0,.c (.int 10000)]⟩,
 ⟨6,.and,[.e 3,.e 5]⟩,
 ⟨7,.id .b,[.e 6]⟩,
 ⟨8,.le,[.c (.int (-10000)),.e 1]⟩,
 ⟨9,.and,[.e 7,.e 8]⟩,
 ⟨10,.le,[.e 1,.c (.int 10000)]⟩,
 ⟨11,.and,[.e 8,.e 10]⟩,
 ⟨12,.or,[.n 6,.n 11]⟩,
 ⟨13,.not,[.e 12]⟩,
 ⟨14,.outI "rgain.0" kJ,[.e 0,.e 1,.e 2]⟩,
 ⟨15,.ite .i,[.e 12,.c (.int 3),.c (.int 0)]⟩,
 ⟨16,.ite .i,[.e 12,.c (.int 0),.e 14]⟩,
 ⟨17,.or,[.e 12,.e 13]⟩]
def mn:List En:=oA
def pS:List ObE:=[⟨some 13,.pre "rgain.p0" jg,[.e 0,.e 1,.e 2]⟩]
def oO:List Rf:=[.e 16,.e 15]
theorem pV:mD.sees oO (mD.run Try.prog [(89,jd)] AW 3000 20 48)=some ((mn).map En.be,pS.map ObE.be,[]):=by kernel_rfl
theorem pX {T:Tab}(A0:AH T mn):
  ((I T 16)=(if (Ay (I T 0) (-10000) 10000&&Ay (I T 1) (-10000) 10000)=true then Ar (I T 0) (I T 1) (B T 2) else 0))/\
  ((I T 15)=(if (Ay (I T 0) (-10000) 10000&&Ay (I T 1) (-10000) 10000)=true then 0 else 3))/\
  (B T 13=true-> -10000<=I T 0/\I T 0<=10000/\ -10000<=I T 1/\I T 1<=10000):=by
 have F0:=A0;clear A0;refine⟨?_,?_,?_⟩
 .obtain⟨e3,-,e5,e6,-,e8,-,e10,e11,e12,-,e14,-,e16,-⟩:=F0;replace e14:I T 14=(Ar (I T 0) (I T 1) (B T 2)):=e14;simp only[AI,AP,zN,zR,zL,zS] at e3 e5 e6 e8 e10 e11 e12 e16;have hb:(B T 12)=true↔¬(Ay (I T 0) (-10000) 10000&&Ay (I T 1) (-10000) 10000)=true:=by
   rw[vo,Bk,Bk,<-e3,<-e5,<-e8,<-e10,<-e6,<-e11,e12];cases (B T 6)<;>cases (B T 11)<;>simp
  rw[e16];by_cases h:(Ay (I T 0) (-10000) 10000&&Ay (I T 1) (-10000) 10000)=true
  .rw[if_pos h,if_neg (fun a=>hb.1 a h),e14]
  .rw[if_neg h,if_pos (hb.2 h)]
 .obtain⟨e3,-,e5,e6,-,e8,-,e10,e11,e12,-,-,e15,-⟩:=F0;simp only[AI,AP,zN,zR,zL,zS] at e3 e5 e6 e8 e10 e11 e12 e15;have hb:(B T 12)=true↔¬(Ay (I T 0) (-10000) 10000&&Ay (I T 1) (-10000) 10000)=true:=by
   rw[vo,Bk,Bk,<-e3,<-e5,<-e8,<-e10,<-e6,<-e11,e12];cases (B T 6)<;>cases (B T 11)<;>simp
  rw[e15];by_cases h:(Ay (I T 0) (-10000) 10000&&Ay (I T 1) (-10000) 10000)=true
  .rw[if_pos h,if_neg (fun a=>hb.1 a h)]
  .rw[if_neg h,if_pos (hb.2 h)]
 .obtain⟨e3,-,e5,e6,-,e8,-,e10,e11,e12,e13,-⟩:=F0;simp only[AI,AP,zN,zR] at e3 e5 e6 e8 e10 e11 e12 e13;intro hp;have h12:(B T 12)=false:=by simpa using e13.1 hp
  have h6:(B T 6)=true/\B T 11=true:=by
   rw[<-Bool.not_eq_true,e12] at h12;simpa using h12
  rw[e6,e11,e3,e5,e8,e10] at h6;omega
theorem pK:Ae Try.prog 48 mD:=by
 refine BH (l:=[(89,jd)]) Bh (by simp only[wJ];exact⟨nU,fun _ h=>absurd h (by simp)⟩) pV (by kernel_rfl) fun T us hpre hT hul hS hBd hE=>?_;change us.length=3 at hul;clear hBd;have ha0:aI us 0=I T 0:=inI hT hul (by decide);have ha1:aI us 1=I T 1:=inI hT hul (by decide);have ha2:aB us 2=B T 2:=inB hT hul (by decide);clear hpre
 skip
 obtain⟨A0,hO⟩:=BG (tys:=[.i,.i]) (rs:=oO) hS (by kernel_rfl) hE;obtain⟨q0,q1,r0⟩:=pX A0;refine⟨⟨r0,trivial⟩,hO.trans ?_⟩;exact (lc (by show U.int (I T 16)= .int (lu us);unfold lu;rw[ha0,ha1,ha2];exact congrArg U.int q0) (lc (by show U.int (I T 15)= .int (lh us);unfold lh;rw[ha0,ha1];exact congrArg U.int q1) rfl))
def jc:List U->Int:=fun us=>(BU (aI us 0))
def jT:List U->Prop:=fun us=> -100<=(aI us 0)/\(aI us 0)<=100
def ja:AV:={ sh:=[.one (k64)],blks:=[],outs:=[(.s "rtrig.0",Bl jc)],c:=(C4 1),m':=[],pre:=[(.s "rtrig.p0",jT)] }
def oD:List En:=[⟨1,.le,[.e 0,.c (.int 0)]⟩,
 ⟨2,.w2 .i64 .mul,[.c (.int 40),.e 0]⟩,
 ⟨3,.w2 .i64 .sub,[.c (.int 2000),.e 2]⟩,
 ⟨4,.not,[.e 1]⟩,
 ⟨5,.w2 .i64 .mul,[.c (.int 50),.e 0]⟩,
 ⟨6,.w2 .i64 .sub,[.c (.int 2000),.e 5]⟩,
 ⟨7,.ite .i,[.e 1,.e 3,.e 6]⟩,
 ⟨8,.or,[.e 1,.e 4]⟩]
def ml:List En:=oD
def pg:List ObE:=[]
def oK:List Rf:=[.e 7]
theorem pY:ja.sees oK (ja.run Try.prog [] AW 3000 20 90)=some ((ml).map En.be,pg.map ObE.be,[]):=by kernel_rfl
theorem pd {T:Tab}(pre0: -100<=I T 0/\I T 0<=100)(A0:AH T ml):
  ((I T 7)=(BU (I T 0))):=by
 have F0:=A0;clear A0
 .obtain⟨e1,e2,e3,-,e5,e6,e7,-⟩:=F0;simp only[AI,AP,zR,w2P,zL,zS] at e1 e2 e3 e5 e6 e7;unfold BU;have x2:=e2 (by omega) (by omega);have x3:=e3 (by omega) (by omega);have x5:=e5 (by omega) (by omega);have x6:=e6 (by omega) (by omega);rw[e7];by_cases h:(I T 0)<=0
  .rw[if_pos (e1.2 h),if_pos h];omega
  .rw[if_neg (fun a=>h (e1.1 a)),if_neg h];omega
theorem nY:Ae Try.prog 90 ja:=by
 refine BH (l:=[]) Bh (by intro p h;exact absurd h (by simp)) pY (by kernel_rfl) fun T us hpre hT hul hS hBd hE=>?_;change us.length=1 at hul;clear hBd;have ha0:aI us 0=I T 0:=inI hT hul (by decide);have pre0: -100<=I T 0/\I T 0<=100:=by
  have h:=hpre (.s "rtrig.p0",jT) (by simp[ja]);change jT us at h;unfold jT at h;simp only[ha0] at h;exact h
 clear hpre
 skip
 obtain⟨A0,hO⟩:=BG (tys:=[.i]) (rs:=oK) hS (by kernel_rfl) hE;have q0:=pd pre0 A0;refine⟨trivial,hO.trans ?_⟩;exact (lc (by show U.int (I T 7)= .int (jc us);unfold jc;rw[ha0];exact congrArg U.int q0) rfl)
def jm:List U->Int:=fun us=>(if Ay (aI us 0) (-12) 48=true then BU (aI us 0) else 0)
def jj:List U->Int:=fun us=>(if Ay (aI us 0) (-12) 48=true then 0 else 3)
def jn:AV:={ sh:=[.one (k64)],blks:=[],outs:=[(.s "rTrigger.0",Bl jm),(.s "rTrigger.1",Bl jj)],c:= .tup [(C4 1),(C4 2)],m':=[],pre:=[] }
def mZ:List En:=[⟨1,.lt,[.e 0,.c (.int (-12))]⟩,
 ⟨2,.not,[.e 1]⟩,
 ⟨3,.lt,[.c (.int 48),.e 0]⟩,
 ⟨4,.or,[.e 1,.e 3]⟩,
 ⟨5,.not,[.e 4]⟩,
 ⟨6,.outI "rtrig.0" jc,[.e 0]⟩,
 ⟨7,.ite .i,[.e 4,.c (.int 3),.c (.int 0)]⟩,
 ⟨8,.ite .i,[.e 4,.c (.int 0),.e 6]⟩,
 ⟨9,.or,[.e 4,.e 5]⟩]
def mM:List En:=mZ
def oZ:List ObE:=[⟨some 5,.pre "rtrig.p0" jT,[.e 0]⟩]
def mR:List Rf:=[.e 8,.e 7]
theorem oU:jn.sees mR (jn.run Try.prog [(90,ja)] AW 3000 20 49)=some ((mM).map En.be,oZ.map ObE.be,[]):=by kernel_rfl
theorem oS {T:Tab}(A0:AH T mM):
  ((I T 8)=(if Ay (I T 0) (-12) 48=true then BU (I T 0) else 0))/\
  ((I T 7)=(if Ay (I T 0) (-12) 48=true then 0 else 3))/\
  (B T 5=true-> -100<=I T 0/\I T 0<=100):=by
 have F0:=A0;clear A0;refine⟨?_,?_,?_⟩
 .obtain⟨e1,-,e3,e4,-,e6,-,e8,-⟩:=F0;replace e6:I T 6=(BU (I T 0)):=e6;simp only[AI,AP,zR,zL,zS] at e1 e3 e4 e8;have hb:(B T 4)=true↔¬Ay (I T 0) (-12) 48=true:=by
   rw[Bk,e4,e1,e3];omega
  by_cases h:Ay (I T 0) (-12) 48=true
  .have h4:¬B T 4=true:=fun a=>hb.1 a h;rw[if_pos h,e8,if_neg h4,e6]
  .rw[if_neg h,e8,if_pos (hb.2 h)]
 .obtain⟨e1,-,e3,e4,-,-,e7,-⟩:=F0;simp only[AI,AP,zR,zL,zS] at e1 e3 e4 e7;have hb:(B T 4)=true↔¬Ay (I T 0) (-12) 48=true:=by
   rw[Bk,e4,e1,e3];omega
  by_cases h:Ay (I T 0) (-12) 48=true
  .have h4:¬B T 4=true:=fun a=>hb.1 a h;rw[if_pos h,e7,if_neg h4]
  .rw[if_neg h,e7,if_pos (hb.2 h)]
 .obtain⟨e1,-,e3,e4,e5,-⟩:=F0;simp only[AI,AP,zR] at e1 e3 e4 e5;intro hp;have h4:=e5.1 hp;rw[e4,e1,e3] at h4;omega
theorem n7:Ae Try.prog 49 jn:=by
 refine BH (l:=[(90,ja)]) Bh (by simp only[wJ];exact⟨nY,fun _ h=>absurd h (by simp)⟩) oU (by kernel_rfl) fun T us hpre hT hul hS hBd hE=>?_;change us.length=1 at hul;clear hBd;have ha0:aI us 0=I T 0:=inI hT hul (by decide);clear hpre
 skip
 obtain⟨A0,hO⟩:=BG (tys:=[.i,.i]) (rs:=mR) hS (by kernel_rfl) hE;obtain⟨q0,q1,r0⟩:=oS A0;refine⟨⟨r0,trivial⟩,hO.trans ?_⟩;exact (lc (by show U.int (I T 8)= .int (jm us);unfold jm;rw[ha0];exact congrArg U.int q0) (lc (by show U.int (I T 7)= .int (jj us);unfold jj;rw[ha0];exact congrArg U.int q1) rfl))
def kT:List U->Bool:=fun us=>(EC (aS us 0))
def jo:AV:={ sh:=[.one (.str)],blks:=[],outs:=[(.s "xnamed.0",LP kT)],c:= .b 1,m':=[],pre:=[] }
def nX:List En:=[⟨1,.slen,[.e 0]⟩,
 ⟨2,.lt,[.e 1,.c (.int 1)]⟩,
 ⟨3,.not,[.e 2]⟩,
 ⟨4,.slen,[.e 0]⟩,
 ⟨5,.lt,[.c (.int 20),.e 4]⟩,
 ⟨6,.or,[.e 2,.e 5]⟩,
 ⟨7,.not,[.e 6]⟩]
def mE:List En:=nX
def nO:List En:=[⟨9,.slen,[.e 0]⟩,
 ⟨10,.lt,[.e 8,.e 9]⟩,
 ⟨11,.and,[.e 7,.e 10]⟩,
 ⟨12,.and,[.e 7,.n 10]⟩,
 ⟨13,.sat,[.e 0,.e 8]⟩,
 ⟨14,.le,[.c (.int 97),.e 13]⟩,
 ⟨15,.and,[.e 11,.e 14]⟩,
 ⟨16,.sat,[.e 0,.e 8]⟩,
 ⟨17,.le,[.e 16,.c (.int 122)]⟩,
 ⟨18,.and,[.e 14,.e 17]⟩,
 ⟨19,.and,[.e 11,.n 18]⟩,
 ⟨20,.sat,[.e 0,.e 8]⟩,
 ⟨21,.le,[.c (.int 48),.e 20]⟩,
 ⟨22,.and,[.e 19,.e 21]⟩,
 ⟨23,.sat,[.e 0,.e 8]⟩,
 ⟨24,.le,[.e 23,.c (.int 57)]⟩]
def nj:List En:=[⟨25,.and,[.e 21,.e 24]⟩,
 ⟨26,.or,[.e 18,.e 25]⟩,
 ⟨27,.and,[.e 11,.e 26]⟩,
 ⟨28,.and,[.e 11,.n 26]⟩,
 ⟨29,.w2 .i64 .add,[.e 8,.c (.int 1)]⟩]
def jR:List En:=nO++(nj)
def mQ:List ObE:=[⟨some 22,.ins,[.e 0,.e 8]⟩,⟨some 19,.ins,[.e 0,.e 8]⟩,⟨some 15,.ins,[.e 0,.e 8]⟩,⟨some 11,.ins,[.e 0,.e 8]⟩]
def lE:Ag:=mkD 8 1 jR 27 [.e 29] mQ [0,7]
def mI:List Rf:=[.e 0,.e 7,.c (.int 0)]
def nV:List En:=[⟨30,.ite .b,[.e 28,.c (.bool false),.c (.bool true)]⟩,
 ⟨31,.or,[.e 28,.e 12]⟩,
 ⟨32,.ite .b,[.e 6,.c (.bool false),.e 30]⟩,
 ⟨33,.or,[.e 6,.e 31]⟩]
def mX:List En:=nV
def pC:List ObE:=[⟨some 7,.owes lE,[.e 0,.e 7,.c (.int 0)]⟩]
def nS:List Rf:=[.e 32]
theorem pF:jo.sees nS (jo.run Try.prog [] AW 3000 20 64)=some ((mE++((BS lE [.i] mI)++(jR++(mX)))).map En.be,pC.map ObE.be,[]):=by kernel_rfl
theorem oX {T:Tab}(hz0:(S T 0).size<=140737488355328)(hS:AK T (Ab (BK 0 jo.ks) mE))(hB:Ac T (jR.map En.be))(hH:Ac T ((BS lE [.i] mI).map En.be)):
  (lE).owes (mI.map (Rf.eval T))/\AK T (hds 8 [.i])/\(0<=I T 8/\I T 8<=((S T 0)).size/\(∀j:Nat,(j:Int) < I T 8->okB (S T 0) j))/\¬B T 27=true:=by
 refine CK (nh:=8) (k:=1) (pcn:=27) (top:=30) (bes:=jR) (bos:=mQ) (nxt:=[.e 29]) (inits:=[.c (.int 0)]) (fv:=[0,7]) (tys:=[.i]) (by kernel_rfl) rfl rfl rfl rfl hS (by kernel_rfl) (by kernel_rfl) hB (BV hH) (fun s=>0<=(aI s 0)/\(aI s 0)<=((S T 0)).size/\(∀j:Nat,(j:Int) < (aI s 0)->okB (S T 0) j)) (fun s=>(((S T 0)).size - (aI s 0)).toNat) ?_ ?_
 .show 0<=(0:Int)/\(0:Int)<=((S T 0)).size/\(∀j:Nat,(j:Int) < (0:Int)->okB (S T 0) j);clear hS hB hH;exact⟨by omega,by omega,fun j hj=>absurd hj (by omega)⟩
 .intro T2 hfv hF inv;replace inv:0<=I T2 8/\I T2 8<=((S T 0)).size/\(∀j:Nat,(j:Int) < I T2 8->okB (S T 0) j):=inv;clear hS hB hH;replace hF:AH T2 jR:=hF;obtain⟨F0,hF⟩:=hF.cut;have F1:=hF;clear hF;have fv0:S T2 0=S T 0:=fvS (hfv 0 (by decide));have fv7:B T2 7=B T 7:=fvB (hfv 7 (by decide));clear hfv
  suffices hz:(B T2 22=true->0<=I T2 8/\I T2 8 < ((S T2 0)).size)/\(B T2 19=true->0<=I T2 8/\I T2 8 < ((S T2 0)).size)/\(B T2 15=true->0<=I T2 8/\I T2 8 < ((S T2 0)).size)/\(B T2 11=true->0<=I T2 8/\I T2 8 < ((S T2 0)).size)/\(B T2 27=true->(0<=I T2 29/\I T2 29<=((S T 0)).size/\(∀j:Nat,(j:Int) < I T2 29->okB (S T 0) j)))/\(B T2 27=true->(((S T 0)).size - (I T2 29)).toNat < (((S T 0)).size - (I T2 8)).toNat) from
   let⟨r0,r1,r2,r3,nx,mz⟩:=hz;⟨⟨r0,r1,r2,r3,trivial⟩,fun hp=>⟨nx hp,mz hp⟩⟩
  refine⟨?_,?_,?_,?_,?_,?_⟩
  .obtain⟨e9,e10,e11,-,e13,e14,-,e16,e17,e18,e19,e20,e21,e22,-⟩:=F0;simp only[AI,AP,zN,zR,zS] at*;obtain⟨v1,v2,v3⟩:=inv;intro hp;have h11:(B T2 11)=true:=by clear v3;grind
   have h10:=e10.1 (e11.1 h11).2;rw[e9,fv0] at h10;rw[fv0];omega
  .obtain⟨e9,e10,e11,-,e13,e14,-,e16,e17,e18,e19,-⟩:=F0;simp only[AI,AP,zN,zR,zS] at*;obtain⟨v1,v2,v3⟩:=inv;intro hp;have h11:(B T2 11)=true:=by clear v3;grind
   have h10:=e10.1 (e11.1 h11).2;rw[e9,fv0] at h10;rw[fv0];omega
  .obtain⟨e9,e10,e11,-,e13,e14,e15,-⟩:=F0;simp only[AI,AP,zR,zS] at*;obtain⟨v1,v2,v3⟩:=inv;intro hp;have h11:(B T2 11)=true:=by clear v3;grind
   have h10:=e10.1 (e11.1 h11).2;rw[e9,fv0] at h10;rw[fv0];omega
  .obtain⟨e9,e10,e11,-⟩:=F0;simp only[AI,AP,zR,zS] at e9 e10 e11;obtain⟨v1,v2,v3⟩:=inv;intro hp;have h11:(B T2 11)=true:=by clear v3;grind
   have h10:=e10.1 (e11.1 h11).2;rw[e9,fv0] at h10;rw[fv0];omega
  .obtain⟨e9,e10,e11,-,e13,e14,-,e16,e17,e18,-,e20,e21,-,e23,e24,-⟩:=F0;obtain⟨e25,e26,e27,-,e29,-⟩:=F1;simp only[AI,AP,zR,w2P,zS] at*;obtain⟨v1,v2,v3⟩:=inv;intro hp;have h27:=e27.1 hp;have h10:=e10.1 (e11.1 h27.1).2;rw[e9,fv0] at h10;have e:(I T2 29)=I T2 8+1:=e29 (by omega) (by omega);refine⟨by omega,by omega,fun j hj=>?_⟩;by_cases hj2:(j:Int) < I T2 8
   .exact v3 j hj2
   .obtain rfl:j=(I T2 8).toNat:=by omega
    unfold okB;have q13:(I T2 13)=Jj (S T 0) (I T2 8).toNat:=by rw[e13,fv0]
    have q16:(I T2 16)=Jj (S T 0) (I T2 8).toNat:=by rw[e16,fv0]
    have q20:(I T2 20)=Jj (S T 0) (I T2 8).toNat:=by rw[e20,fv0]
    have q23:(I T2 23)=Jj (S T 0) (I T2 8).toNat:=by rw[e23,fv0]
    have h26:=h27.2;clear v3;grind
  .obtain⟨e9,e10,e11,-,e13,e14,-,e16,e17,e18,-,e20,e21,-,e23,e24,-⟩:=F0;obtain⟨e25,e26,e27,-,e29,-⟩:=F1;simp only[AI,AP,zR,w2P,zS] at*;obtain⟨v1,v2,v3⟩:=inv;intro hp;have h10:=e10.1 (e11.1 (e27.1 hp).1).2;rw[e9,fv0] at h10;have e:(I T2 29)=I T2 8+1:=e29 (by omega) (by omega);omega
theorem pL {T:Tab}(hz0:(S T 0).size<=140737488355328)(inv0:0<=I T 8/\I T 8<=((S T 0)).size/\(∀j:Nat,(j:Int) < I T 8->okB (S T 0) j))(np0:¬B T 27=true)(A0:AH T mE)(B0:AH T jR)(A1:AH T mX):
  ((B T 32)=(EC (S T 0))):=by
 have F0:=A0;clear A0;obtain⟨F1,B0⟩:=B0.cut;have F2:=B0;clear B0;have F3:=A1;clear A1
 .obtain⟨e1,e2,-,e4,e5,e6,e7,-⟩:=F0;obtain⟨e9,e10,e11,-,e13,e14,-,e16,e17,e18,-,e20,e21,-,e23,e24,-⟩:=F1;obtain⟨e25,e26,e27,e28,-⟩:=F2;obtain⟨e30,-,e32,-⟩:=F3;simp only[AI,AP,zN,zC,zR,zL,zS] at*;obtain⟨w1,w2,w3⟩:=inv0;refine Bool.eq_iff_iff.2 (Iff.trans ?_ pD.symm);have q13:(I T 13)=Jj (S T 0) (I T 8).toNat:=e13;have q16:(I T 16)=Jj (S T 0) (I T 8).toNat:=e16;have q20:(I T 20)=Jj (S T 0) (I T 8).toNat:=e20;have q23:(I T 23)=Jj (S T 0) (I T 8).toNat:=e23;constructor
  .intro h;have h6:¬B T 6=true:=by clear w3;grind
   have h28:¬B T 28=true:=by clear w3;grind
   have h11:¬B T 11=true:=fun h=>by
    have h26:(B T 26)=true:=by clear w3;grind
    have z:=e27.2 ⟨h,h26⟩;simp[np0] at z
   have h10:¬B T 10=true:=by clear w3;grind
   have hn:¬I T 8 < ((S T 0)).size:=fun h=>h10 (e10.2 (by rw[e9];exact h));refine⟨by clear w3;grind,by clear w3;grind,fun j hj=>w3 j (by omega)⟩
  .rintro⟨h1,h2,h3⟩;have h6:¬B T 6=true:=by clear w3 h3;grind
   have h28:¬B T 28=true:=fun h=>by
    have h11:(B T 11)=true:=by clear w3 h3;grind
    have h10:(I T 8) < ((S T 0)).size:=by have:=e10.1 (e11.1 h11).2;rw[e9] at this;exact this
    have hk:=h3 (I T 8).toNat (by omega);unfold okB at hk;clear w3 h3;grind
   clear w3 h3;grind
theorem oe:Ae Try.prog 64 jo:=by
 refine BH (l:=[]) Bh (by intro p h;exact absurd h (by simp)) pF (by kernel_rfl) fun T us hpre hT hul hS hBd hE=>?_;change us.length=1 at hul;obtain⟨hz0,-⟩:=hBd;replace hz0:(S T 0).size<=140737488355328:=hz0;have ha0:aS us 0=S T 0:=inS hT hul (by decide);clear hpre;rw[v7,v7,v7] at hE;have hA:=hE.left;replace hE:=hE.right;have hH:=hE.left;replace hE:=hE.right;have hB:=hE.left;replace hE:=hE.right;obtain⟨A0,hS1⟩:=Ai hS (by kernel_rfl) hA;obtain⟨ow0,hS2,inv0,np0⟩:=oX hz0 hS1 hB hH;have hF2:=(Ai (hS2.append hS1) (l:=jR) (by kernel_rfl) hB);obtain⟨B0,hS⟩:=hF2;clear hA hB hH hS1 hS2;obtain⟨A1,hO⟩:=BG (tys:=[.b]) (rs:=nS) hS (by kernel_rfl) hE;have q0:=pL hz0 inv0 np0 A0 B0 A1;refine⟨⟨(fun _=>ow0),trivial⟩,hO.trans ?_⟩;exact (lc (by show U.bool (B T 32)= .bool (kT us);unfold kT;rw[ha0];exact congrArg U.bool q0) rfl)
def jX:List U->Bool:=fun us=>(DC (aS us 0) (aI us 1) (aI us 2))
def kK:AV:={ sh:=[.agg [.str,k64,k64]],blks:=[],outs:=[(.s "rplayer.0",LP jX)],c:= .b 3,m':=[],pre:=[] }
def m7:List En:=[⟨3,.outB "xnamed.0" kT,[.e 0]⟩,
 ⟨4,.id .b,[.e 3]⟩,
 ⟨5,.le,[.c (.int (-10000)),.e 1]⟩,
 ⟨6,.and,[.e 4,.e 5]⟩,
 ⟨7,.le,[.e 1,.c (.int 10000)]⟩,
 ⟨8,.and,[.e 5,.e 7]⟩,
 ⟨9,.and,[.e 3,.e 8]⟩,
 ⟨10,.id .b,[.e 9]⟩,
 ⟨11,.le,[.c (.int (-12)),.e 2]⟩,
 ⟨12,.and,[.e 9,.e 11]⟩,
 ⟨13,.id .b,[.e 12]⟩,
 ⟨14,.le,[.e 2,.c (.int 48)]⟩,
 ⟨15,.and,[.e 12,.e 14]⟩]
def mO:List En:=m7
def o9:List ObE:=[]
def mm:List Rf:=[.e 15]
theorem ol:kK.sees mm (kK.run Try.prog [(64,jo)] AW 3000 20 61)=some ((mO).map En.be,o9.map ObE.be,[]):=by kernel_rfl
theorem oy {T:Tab}(hz0:(S T 0).size<=140737488355328)(A0:AH T mO):
  ((B T 15)=(DC (S T 0) (I T 1) (I T 2))):=by
 have F0:=A0;clear A0
 .obtain⟨e3,-,e5,-,e7,e8,e9,-,e11,e12,-,e14,e15,-⟩:=F0;replace e3:B T 3=(EC (S T 0)):=e3;simp only[AI,AP,zR] at e5 e7 e8 e9 e11 e12 e14 e15;refine Bool.eq_iff_iff.2 (Iff.trans ?_ Ea.symm);rw[<-e3,e15,e12,e9,e8,e5,e7,e11,e14];constructor
  .rintro⟨⟨⟨h1,h2⟩,h3⟩,h4⟩;exact⟨h1,h2,h3,h4⟩
  .rintro⟨h1,h2,h3,h4⟩;exact⟨⟨⟨h1,h2⟩,h3⟩,h4⟩
theorem oc:Ae Try.prog 61 kK:=by
 refine BH (l:=[(64,jo)]) Bh (by simp only[wJ];exact⟨oe,fun _ h=>absurd h (by simp)⟩) ol (by kernel_rfl) fun T us hpre hT hul hS hBd hE=>?_;change us.length=3 at hul;obtain⟨hz0,-⟩:=hBd;replace hz0:(S T 0).size<=140737488355328:=hz0;have ha0:aS us 0=S T 0:=inS hT hul (by decide);have ha1:aI us 1=I T 1:=inI hT hul (by decide);have ha2:aI us 2=I T 2:=inI hT hul (by decide);clear hpre
 skip
 obtain⟨A0,hO⟩:=BG (tys:=[.b]) (rs:=mm) hS (by kernel_rfl) hE;have q0:=oy hz0 A0;refine⟨trivial,hO.trans ?_⟩;exact (lc (by show U.bool (B T 15)= .bool (jX us);unfold jX;rw[ha0,ha1,ha2];exact congrArg U.bool q0) rfl)
def jW:List U->Int:=fun us=>(Am (aS us 0) (aI us 1) (aI us 2) (aS us 3) (aI us 4) (aI us 5))
def lC:AV:={ sh:=[.agg [.str,k64,k64],.agg [.str,k64,k64]],blks:=[],outs:=[(.s "two.0",Bl jW)],c:=(C4 6),m':=[],pre:=[] }
def pA:List En:=[⟨6,.outB "rplayer.0" jX,[.e 0,.e 1,.e 2]⟩,
 ⟨7,.id .b,[.e 6]⟩,
 ⟨8,.outB "rplayer.0" jX,[.e 3,.e 4,.e 5]⟩,
 ⟨9,.or,[.n 6,.n 8]⟩,
 ⟨10,.not,[.e 9]⟩,
 ⟨11,.eqs [.s],[.e 0,.e 3]⟩,
 ⟨12,.and,[.e 10,.e 11]⟩,
 ⟨13,.and,[.e 10,.n 11]⟩,
 ⟨14,.ite .i,[.e 12,.c (.int 12),.c (.int 0)]⟩,
 ⟨15,.or,[.e 12,.e 13]⟩,
 ⟨16,.ite .i,[.e 9,.c (.int 2),.e 14]⟩,
 ⟨17,.or,[.e 9,.e 15]⟩]
def oL:List En:=pA
def pm:List ObE:=[]
def pR:List Rf:=[.e 16]
theorem pq:lC.sees pR (lC.run Try.prog [(61,kK)] AW 3000 20 91)=some ((oL).map En.be,pm.map ObE.be,[]):=by kernel_rfl
theorem pn {T:Tab}(hz0:(S T 0).size<=140737488355328)(hz3:(S T 3).size<=140737488355328)(A0:AH T oL):
  ((I T 16)=(Am (S T 0) (I T 1) (I T 2) (S T 3) (I T 4) (I T 5))):=by
 have F0:=A0;clear A0
 .obtain⟨e6,-,e8,e9,e10,e11,e12,-,e14,e15,e16,-⟩:=F0;replace e6:B T 6=(DC (S T 0) (I T 1) (I T 2)):=e6;replace e8:B T 8=(DC (S T 3) (I T 4) (I T 5)):=e8;simp only[AI,AP,zN,zR,EN,and_true,zL,zS] at e9 e10 e11 e12 e14 e15 e16;unfold Am;rw[<-e6,<-e8];clear e6 e8;grind
theorem nR:Ae Try.prog 91 lC:=by
 refine BH (l:=[(61,kK)]) Bh (by simp only[wJ];exact⟨oc,fun _ h=>absurd h (by simp)⟩) pq (by kernel_rfl) fun T us hpre hT hul hS hBd hE=>?_;change us.length=6 at hul;obtain⟨hz0,-,-,hz3,-⟩:=hBd;replace hz0:(S T 0).size<=140737488355328:=hz0;replace hz3:(S T 3).size<=140737488355328:=hz3;have ha0:aS us 0=S T 0:=inS hT hul (by decide);have ha1:aI us 1=I T 1:=inI hT hul (by decide);have ha2:aI us 2=I T 2:=inI hT hul (by decide);have ha3:aS us 3=S T 3:=inS hT hul (by decide);have ha4:aI us 4=I T 4:=inI hT hul (by decide);have ha5:aI us 5=I T 5:=inI hT hul (by decide);clear hpre
 skip
 obtain⟨A0,hO⟩:=BG (tys:=[.i]) (rs:=pR) hS (by kernel_rfl) hE;have q0:=pn hz0 hz3 A0;refine⟨trivial,hO.trans ?_⟩;exact (lc (by show U.int (I T 16)= .int (jW us);unfold jW;rw[ha0,ha1,ha2,ha3,ha4,ha5];exact congrArg U.int q0) rfl)
def kN:List U->Int:=fun us=>(Ax (aI us 1) (aI us 3))
def kO:List U->Int:=fun us=>(CT (Ax (aI us 1) (aI us 3)) (aI us 2))
def jb:List U->Prop:=fun us=> -10000<=(aI us 1)/\(aI us 1)<=10000/\ -12<=(aI us 2)/\(aI us 2)<=48/\ -100<=(aI us 3)/\(aI us 3)<=100
def jf:AV:={ sh:=[.agg [.str,k64,k64],.one (k64)],blks:=[],outs:=[(.s "rmove.0",Bl kN),(.s "rmove.1",Bl kO)],c:= .agg [.s 0,(C4 4),(C4 5)],m':=[],pre:=[(.s "rmove.p0",jb)] }
def nw:List En:=[⟨4,.w2 .i64 .add,[.e 1,.e 3]⟩,
 ⟨5,.o2 .min,[.e 4,.c (.int 10000)]⟩,
 ⟨6,.o2 .max,[.c (.int (-10000)),.e 5]⟩]
def je:List En:=nw
def oJ:List En:=[⟨8,.lt,[.c (.int (-12)),.e 7]⟩,
 ⟨9,.id .b,[.e 8]⟩,
 ⟨10,.id .b,[.e 8]⟩,
 ⟨11,.w2 .i64 .sub,[.e 7,.c (.int 1)]⟩,
 ⟨12,.outI "rtrig.0" jc,[.e 11]⟩,
 ⟨13,.le,[.e 12,.e 6]⟩,
 ⟨14,.and,[.e 8,.e 13]⟩,
 ⟨15,.not,[.e 14]⟩,
 ⟨16,.w2 .i64 .sub,[.e 7,.c (.int 1)]⟩]
def jQ:List En:=oJ
def mc:List ObE:=[⟨some 10,.pre "rtrig.p0" jT,[.e 11]⟩]
def li:Ag:=mkD 7 1 jQ 14 [.e 16] mc [6]
def mJ:List Rf:=[.e 6,.e 2]
def mi:List En:=[]
def nr:List En:=[⟨18,.lt,[.e 17,.c (.int 48)]⟩,
 ⟨19,.and,[.e 15,.e 18]⟩,
 ⟨20,.and,[.e 15,.e 18]⟩,
 ⟨21,.w2 .i64 .add,[.e 17,.c (.int 1)]⟩,
 ⟨22,.outI "rtrig.0" jc,[.e 21]⟩,
 ⟨23,.le,[.e 6,.e 22]⟩,
 ⟨24,.and,[.e 18,.e 23]⟩,
 ⟨25,.and,[.e 15,.e 24]⟩,
 ⟨26,.and,[.e 15,.n 24]⟩,
 ⟨27,.w2 .i64 .add,[.e 17,.c (.int 1)]⟩]
def jU:List En:=nr
def mf:List ObE:=[⟨some 20,.pre "rtrig.p0" jT,[.e 21]⟩]
def lg:Ag:=mkD 17 1 jU 25 [.e 27] mf [15,6]
def mL:List Rf:=[.e 15,.e 6,.e 7]
def og:List En:=[]
def pU:List ObE:=[⟨some 15,.owes lg,[.e 15,.e 6,.e 7]⟩,
 ⟨none,.owes li,[.e 6,.e 2]⟩]
def oN:List Rf:=[.e 6,.e 17]
theorem pZ:jf.sees oN (jf.run Try.prog [(90,ja)] AW 3000 20 114)=some ((je++((BS li [.i] mJ)++(jQ++(mi++((BS lg [.i] mL)++(jU++(og))))))).map En.be,pU.map ObE.be,[]):=by kernel_rfl
theorem oT {T:Tab}(hz0:(S T 0).size<=140737488355328)(pre0: -10000<=I T 1/\I T 1<=10000/\ -12<=I T 2/\I T 2<=48/\ -100<=I T 3/\I T 3<=100)(A0:AH T je):
  (-12<=I T 2/\I T 2<=48):=by
 have F0:=A0;clear A0;have hgr: -12<=I T 2/\I T 2<=48:=by
  exact⟨pre0.2.2.1,pre0.2.2.2.1⟩
 exact hgr
theorem oh {T:Tab}(hgr: -12<=I T 2/\I T 2<=48)(hS:AK T (Ab (BK 0 jf.ks) je))(hB:Ac T (jQ.map En.be))(hH:Ac T ((BS li [.i] mJ).map En.be)):
  (li).owes (mJ.map (Rf.eval T))/\AK T (hds 7 [.i])/\(-12<=I T 7/\I T 7<=48/\BX (I T 6) (I T 7)=BX (I T 6) (I T 2))/\¬B T 14=true:=by
 refine CK (nh:=7) (k:=1) (pcn:=14) (top:=17) (bes:=jQ) (bos:=mc) (nxt:=[.e 16]) (inits:=[.e 2]) (fv:=[6]) (tys:=[.i]) (by kernel_rfl) rfl rfl rfl rfl hS (by kernel_rfl) (by kernel_rfl) hB (BV hH) (fun s=> -12<=(aI s 0)/\(aI s 0)<=48/\BX (I T 6) (aI s 0)=BX (I T 6) (I T 2)) (fun s=>((aI s 0)+12).toNat) ?_ ?_
 .show -12<=I T 2/\I T 2<=48/\BX (I T 6) (I T 2)=BX (I T 6) (I T 2);clear hS hB hH;exact⟨hgr.1,hgr.2,rfl⟩
 .intro T2 hfv hF inv;replace inv: -12<=I T2 7/\I T2 7<=48/\BX (I T 6) (I T2 7)=BX (I T 6) (I T 2):=inv;clear hS hB hH;replace hF:AH T2 jQ:=hF;have F0:=hF;clear hF;have fv6:I T2 6=I T 6:=fvI (hfv 6 (by decide));clear hfv
  suffices hz:(B T2 10=true-> -100<=I T2 11/\I T2 11<=100)/\(B T2 14=true->(-12<=I T2 16/\I T2 16<=48/\BX (I T 6) (I T2 16)=BX (I T 6) (I T 2)))/\(B T2 14=true->((I T2 16)+12).toNat < ((I T2 7)+12).toNat) from
   let⟨r0,nx,mz⟩:=hz;⟨⟨r0,trivial⟩,fun hp=>⟨nx hp,mz hp⟩⟩
  refine⟨?_,?_,?_⟩
  .obtain⟨-,-,-,e11,-⟩:=F0;simp only[AI,zR,w2P] at e11;obtain⟨v1,v2,v3⟩:=inv;intro hp;have x11:=e11 (by omega) (by omega);omega
  .obtain⟨e8,-,-,e11,e12,e13,e14,-,e16,-⟩:=F0;replace e12:I T2 12=(BU (I T2 11)):=e12;simp only[AI,AP,zR,w2P] at e8 e11 e13 e14 e16;obtain⟨v1,v2,v3⟩:=inv;intro hp;have h14:=e14.1 hp;have h8:=e8.1 h14.1;have h13:=e13.1 h14.2;have x11:=e11 (by omega) (by omega);have x16:=e16 (by omega) (by omega);rw[e12,x11,fv6] at h13;refine⟨by omega,by omega,?_⟩;rw[x16,<-v3];exact (Rz h8 h13).symm
  .obtain⟨e8,-,-,-,-,-,e14,-,e16,-⟩:=F0;simp only[AI,AP,zR,w2P] at e8 e14 e16;obtain⟨v1,v2,v3⟩:=inv;intro hp;have h8:=e8.1 (e14.1 hp).1;have x16:=e16 (by omega) (by omega);omega
theorem oQ {T:Tab}(hz0:(S T 0).size<=140737488355328)(pre0: -10000<=I T 1/\I T 1<=10000/\ -12<=I T 2/\I T 2<=48/\ -100<=I T 3/\I T 3<=100)(hgr: -12<=I T 2/\I T 2<=48)(inv0: -12<=I T 7/\I T 7<=48/\BX (I T 6) (I T 7)=BX (I T 6) (I T 2))(np0:¬B T 14=true)(A0:AH T je)(B0:AH T jQ):
  (-12<=I T 7/\I T 7<=48):=by
 have F0:=A0;clear A0;have F1:=B0;clear B0;have hg1: -12<=I T 7/\I T 7<=48:=by
  exact⟨inv0.1,inv0.2.1⟩
 exact hg1
theorem od {T:Tab}(hg1: -12<=I T 7/\I T 7<=48)(hS:AK T (Ab (Ab (hds 7 [.i]++(Ab (BK 0 jf.ks) je)) jQ) mi))(hB:Ac T (jU.map En.be))(hH:Ac T ((BS lg [.i] mL).map En.be)):
  (lg).owes (mL.map (Rf.eval T))/\AK T (hds 17 [.i])/\(-12<=I T 17/\I T 17<=48/\upG (I T 6) (I T 17)=upG (I T 6) (I T 7))/\¬B T 25=true:=by
 refine CK (nh:=17) (k:=1) (pcn:=25) (top:=28) (bes:=jU) (bos:=mf) (nxt:=[.e 27]) (inits:=[.e 7]) (fv:=[15,6]) (tys:=[.i]) (by kernel_rfl) rfl rfl rfl rfl hS (by kernel_rfl) (by kernel_rfl) hB (BV hH) (fun s=> -12<=(aI s 0)/\(aI s 0)<=48/\upG (I T 6) (aI s 0)=upG (I T 6) (I T 7)) (fun s=>(48 - (aI s 0)).toNat) ?_ ?_
 .show -12<=I T 7/\I T 7<=48/\upG (I T 6) (I T 7)=upG (I T 6) (I T 7);clear hS hB hH;exact⟨hg1.1,hg1.2,rfl⟩
 .intro T2 hfv hF inv;replace inv: -12<=I T2 17/\I T2 17<=48/\upG (I T 6) (I T2 17)=upG (I T 6) (I T 7):=inv;clear hS hB hH;replace hF:AH T2 jU:=hF;have F0:=hF;clear hF;have fv15:B T2 15=B T 15:=fvB (hfv 15 (by decide));have fv6:I T2 6=I T 6:=fvI (hfv 6 (by decide));clear hfv
  suffices hz:(B T2 20=true-> -100<=I T2 21/\I T2 21<=100)/\(B T2 25=true->(-12<=I T2 27/\I T2 27<=48/\upG (I T 6) (I T2 27)=upG (I T 6) (I T 7)))/\(B T2 25=true->(48 - (I T2 27)).toNat < (48 - (I T2 17)).toNat) from
   let⟨r0,nx,mz⟩:=hz;⟨⟨r0,trivial⟩,fun hp=>⟨nx hp,mz hp⟩⟩
  refine⟨?_,?_,?_⟩
  .obtain⟨-,-,-,e21,-⟩:=F0;simp only[AI,zR,w2P] at e21;obtain⟨v1,v2,v3⟩:=inv;intro hp;have x21:=e21 (by omega) (by omega);omega
  .obtain⟨e18,-,-,e21,e22,e23,e24,e25,-,e27,-⟩:=F0;replace e22:I T2 22=(BU (I T2 21)):=e22;simp only[AI,AP,zR,w2P] at e18 e21 e23 e24 e25 e27;obtain⟨v1,v2,v3⟩:=inv;intro hp;have h24:=e24.1 (e25.1 hp).2;have h18:=e18.1 h24.1;have h23:=e23.1 h24.2;have x21:=e21 (by omega) (by omega);have x27:=e27 (by omega) (by omega);rw[e22,x21,fv6] at h23;refine⟨by omega,by omega,?_⟩;rw[x27,<-v3];exact (Q5 h18 h23).symm
  .obtain⟨e18,-,-,-,-,-,e24,e25,-,e27,-⟩:=F0;simp only[AI,AP,zR,w2P] at e18 e24 e25 e27;obtain⟨v1,v2,v3⟩:=inv;intro hp;have h18:=e18.1 (e24.1 (e25.1 hp).2).1;have x27:=e27 (by omega) (by omega);omega
theorem pe {T:Tab}(hz0:(S T 0).size<=140737488355328)(pre0: -10000<=I T 1/\I T 1<=10000/\ -12<=I T 2/\I T 2<=48/\ -100<=I T 3/\I T 3<=100)(hgr: -12<=I T 2/\I T 2<=48)(inv0: -12<=I T 7/\I T 7<=48/\BX (I T 6) (I T 7)=BX (I T 6) (I T 2))(np0:¬B T 14=true)(hg1: -12<=I T 7/\I T 7<=48)(inv1: -12<=I T 17/\I T 17<=48/\upG (I T 6) (I T 17)=upG (I T 6) (I T 7))(np1:¬B T 25=true)(A0:AH T je)(B0:AH T jQ)(B1:AH T jU):
  ((I T 6)=(Ax (I T 1) (I T 3)))/\
  ((I T 17)=(CT (Ax (I T 1) (I T 3)) (I T 2))):=by
 have F0:=A0;clear A0;have F1:=B0;clear B0;have F2:=B1;clear B1;refine⟨?_,?_⟩
 .obtain⟨e4,e5,e6,-⟩:=F0;simp only[AI,zR,LW,w2P] at e4 e5 e6;obtain⟨p1,p2,p3,p4,p5,p6⟩:=pre0;have x4:=e4 (by omega) (by omega);have hx:(I T 6)=Ax (I T 1) (I T 3):=by
   unfold Ax;rw[e6,e5,x4];omega
  exact hx
 .obtain⟨e4,e5,e6,-⟩:=F0;obtain⟨e8,-,-,e11,e12,e13,e14,e15,-⟩:=F1;obtain⟨e18,-,-,e21,e22,e23,e24,e25,-⟩:=F2;replace e12:I T 12=(BU (I T 11)):=e12;replace e22:I T 22=(BU (I T 21)):=e22;simp only[AI,AP,zR,LW,w2P] at e4 e5 e6 e8 e11 e13 e14 e15 e18 e21 e23 e24 e25;obtain⟨p1,p2,p3,p4,p5,p6⟩:=pre0;have x4:=e4 (by omega) (by omega);have hx:(I T 6)=Ax (I T 1) (I T 3):=by
   unfold Ax;rw[e6,e5,x4];omega
  obtain⟨v1,v2,v3⟩:=inv0;obtain⟨w1,w2,w3⟩:=inv1;rw[<-hx];unfold CT;have hd:BX (I T 6) (I T 2)=I T 7:=by
   rw[<-v3];refine J2 fun a=>?_;have h8:=e8.2 a.1;have x11:=e11 (by omega) (by omega);have h13:(B T 13)=true:=e13.2 (by rw[e12,x11];exact a.2);exact np0 (e14.2 ⟨h8,h13⟩)
  rw[hd,<-w3];refine (Kr fun a=>?_).symm;have h18:=e18.2 a.1;have x21:=e21 (by omega) (by omega);have h23:(B T 23)=true:=e23.2 (by rw[e22,x21];exact a.2);have h15:(B T 15)=true:=e15.2 np0;exact np1 (e25.2 ⟨h15,e24.2 ⟨h18,h23⟩⟩)
theorem pH:Ae Try.prog 114 jf:=by
 refine BH (l:=[(90,ja)]) Bh (by simp only[wJ];exact⟨nY,fun _ h=>absurd h (by simp)⟩) pZ (by kernel_rfl) fun T us hpre hT hul hS hBd hE=>?_;change us.length=4 at hul;obtain⟨hz0,-⟩:=hBd;replace hz0:(S T 0).size<=140737488355328:=hz0;have ha1:aI us 1=I T 1:=inI hT hul (by decide);have ha2:aI us 2=I T 2:=inI hT hul (by decide);have ha3:aI us 3=I T 3:=inI hT hul (by decide);have pre0: -10000<=I T 1/\I T 1<=10000/\ -12<=I T 2/\I T 2<=48/\ -100<=I T 3/\I T 3<=100:=by
  have h:=hpre (.s "rmove.p0",jb) (by simp[jf]);change jb us at h;unfold jb at h;simp only[ha1,ha2,ha3] at h;exact h
 clear hpre;rw[v7,v7,v7,v7,v7,v7] at hE;have hA:=hE.left;replace hE:=hE.right;have hH:=hE.left;replace hE:=hE.right;have hB:=hE.left;replace hE:=hE.right;obtain⟨A0,hS1⟩:=Ai hS (by kernel_rfl) hA;have hgr:=oT hz0 pre0 A0;obtain⟨ow0,hS2,inv0,np0⟩:=oh hgr hS1 hB hH;have hF2:=(Ai (hS2.append hS1) (l:=jQ) (by kernel_rfl) hB);obtain⟨B0,hS⟩:=hF2;clear hA hB hH hS1 hS2;have hA:=hE.left;replace hE:=hE.right;have hH:=hE.left;replace hE:=hE.right;have hB:=hE.left;replace hE:=hE.right;obtain⟨A1,hS1⟩:=Ai hS (by kernel_rfl) hA;have hg1:=oQ hz0 pre0 hgr inv0 np0 A0 B0;obtain⟨ow1,hS2,inv1,np1⟩:=od hg1 hS1 hB hH;have hF2:=(Ai (hS2.append hS1) (l:=jU) (by kernel_rfl) hB);obtain⟨B1,hS⟩:=hF2;clear hA hB hH hS1 hS2;obtain⟨A2,hO⟩:=BG (tys:=[.i,.i]) (rs:=oN) hS (by kernel_rfl) hE;obtain⟨q0,q1⟩:=pe hz0 pre0 hgr inv0 np0 hg1 inv1 np1 A0 B0 B1;refine⟨⟨(fun _=>ow1),(fun _=>ow0),trivial⟩,hO.trans ?_⟩;exact (lc (by show U.int (I T 6)= .int (kN us);unfold kN;rw[ha1,ha3];exact congrArg U.int q0) (lc (by show U.int (I T 17)= .int (kO us);unfold kO;rw[ha1,ha2,ha3];exact congrArg U.int q1) rfl))
def lD:List U->ByteArray:=fun us=>(if Am (aS us 0) (aI us 1) (aI us 2) (aS us 3) (aI us 4) (aI us 5)=0 then (aS us 0) else (⟨#[]⟩:ByteArray))
def lS:List U->Int:=fun us=>(if Am (aS us 0) (aI us 1) (aI us 2) (aS us 3) (aI us 4) (aI us 5)=0 then Ax (aI us 1) (Ar (aI us 1) (aI us 4) (aB us 6)) else 0)
def lP:List U->Int:=fun us=>(if Am (aS us 0) (aI us 1) (aI us 2) (aS us 3) (aI us 4) (aI us 5)=0 then CT (Ax (aI us 1) (Ar (aI us 1) (aI us 4) (aB us 6))) (aI us 2) else 0)
def lT:List U->ByteArray:=fun us=>(if Am (aS us 0) (aI us 1) (aI us 2) (aS us 3) (aI us 4) (aI us 5)=0 then (aS us 3) else (⟨#[]⟩:ByteArray))
def kw:List U->Int:=fun us=>(if Am (aS us 0) (aI us 1) (aI us 2) (aS us 3) (aI us 4) (aI us 5)=0 then Ax (aI us 4) (-(Ar (aI us 1) (aI us 4) (aB us 6))) else 0)
def lN:List U->Int:=fun us=>(if Am (aS us 0) (aI us 1) (aI us 2) (aS us 3) (aI us 4) (aI us 5)=0 then CT (Ax (aI us 4) (-(Ar (aI us 1) (aI us 4) (aB us 6)))) (aI us 5) else 0)
def kW:List U->Int:=fun us=>(Am (aS us 0) (aI us 1) (aI us 2) (aS us 3) (aI us 4) (aI us 5))
def ld:AV:={ sh:=[.agg [.str,k64,k64],.agg [.str,k64,k64],.one (.bool)],blks:=[],outs:=[(.s "rCount.0",Xn lD),(.s "rCount.1",Bl lS),(.s "rCount.2",Bl lP),(.s "rCount.3",Xn lT),(.s "rCount.4",Bl kw),(.s "rCount.5",Bl lN),(.s "rCount.6",Bl kW)],c:= .tup [.agg [.s 7,(C4 8),(C4 9)],.agg [.s 10,(C4 11),(C4 12)],(C4 13)],m':=[],pre:=[] }
def nl:List En:=[⟨7,.outI "two.0" jW,[.e 0,.e 1,.e 2,.e 3,.e 4,.e 5]⟩,
 ⟨8,.ne,[.e 7,.c (.int 0)]⟩,
 ⟨9,.outI "two.0" jW,[.e 0,.e 1,.e 2,.e 3,.e 4,.e 5]⟩,
 ⟨10,.not,[.e 8]⟩,
 ⟨11,.outI "rgain.0" kJ,[.e 1,.e 4,.e 6]⟩,
 ⟨12,.outI "rmove.0" kN,[.e 0,.e 1,.e 2,.e 11]⟩,
 ⟨13,.outI "rmove.1" kO,[.e 0,.e 1,.e 2,.e 11]⟩,
 ⟨14,.wneg .i64,[.e 11]⟩,
 ⟨15,.outI "rmove.0" kN,[.e 3,.e 4,.e 5,.e 14]⟩,
 ⟨16,.outI "rmove.1" kO,[.e 3,.e 4,.e 5,.e 14]⟩,
 ⟨17,.ite .s,[.e 8,.c (.str ⟨#[]⟩),.e 0]⟩,
 ⟨18,.ite .i,[.e 8,.c (.int 0),.e 12]⟩,
 ⟨19,.ite .i,[.e 8,.c (.int 0),.e 13]⟩,
 ⟨20,.ite .s,[.e 8,.c (.str ⟨#[]⟩),.e 3]⟩,
 ⟨21,.ite .i,[.e 8,.c (.int 0),.e 15]⟩,
 ⟨22,.ite .i,[.e 8,.c (.int 0),.e 16]⟩]
def nn:List En:=[⟨23,.ite .i,[.e 8,.e 9,.c (.int 0)]⟩,
 ⟨24,.or,[.e 8,.e 10]⟩]
def mS:List En:=nl++(nn)
def pI:List ObE:=[⟨some 10,.pre "rmove.p0" jb,[.e 3,.e 4,.e 5,.e 14]⟩,
 ⟨some 10,.pre "rmove.p0" jb,[.e 0,.e 1,.e 2,.e 11]⟩,
 ⟨some 10,.pre "rgain.p0" jg,[.e 1,.e 4,.e 6]⟩]
def nZ:List Rf:=[.e 17,.e 18,.e 19,.e 20,.e 21,.e 22,.e 23]
theorem pG:ld.sees nZ (ld.run Try.prog [(91,lC),(89,jd),(114,jf)] AW 3000 20 50)=some ((mS).map En.be,pI.map ObE.be,[]):=by kernel_rfl
theorem pO {T:Tab}(hz0:(S T 0).size<=140737488355328)(hz3:(S T 3).size<=140737488355328)(A0:AH T mS):
  ((S T 17)=(if Am (S T 0) (I T 1) (I T 2) (S T 3) (I T 4) (I T 5)=0 then (S T 0) else (⟨#[]⟩:ByteArray)))/\
  ((I T 18)=(if Am (S T 0) (I T 1) (I T 2) (S T 3) (I T 4) (I T 5)=0 then Ax (I T 1) (Ar (I T 1) (I T 4) (B T 6)) else 0))/\
  ((I T 19)=(if Am (S T 0) (I T 1) (I T 2) (S T 3) (I T 4) (I T 5)=0 then CT (Ax (I T 1) (Ar (I T 1) (I T 4) (B T 6))) (I T 2) else 0))/\
  ((S T 20)=(if Am (S T 0) (I T 1) (I T 2) (S T 3) (I T 4) (I T 5)=0 then (S T 3) else (⟨#[]⟩:ByteArray)))/\
  ((I T 21)=(if Am (S T 0) (I T 1) (I T 2) (S T 3) (I T 4) (I T 5)=0 then Ax (I T 4) (-(Ar (I T 1) (I T 4) (B T 6))) else 0))/\
  ((I T 22)=(if Am (S T 0) (I T 1) (I T 2) (S T 3) (I T 4) (I T 5)=0 then CT (Ax (I T 4) (-(Ar (I T 1) (I T 4) (B T 6)))) (I T 5) else 0))/\
  ((I T 23)=(Am (S T 0) (I T 1) (I T 2) (S T 3) (I T 4) (I T 5)))/\
  (B T 10=true-> -10000<=I T 4/\I T 4<=10000/\ -12<=I T 5/\I T 5<=48/\ -100<=I T 14/\I T 14<=100)/\
  (B T 10=true-> -10000<=I T 1/\I T 1<=10000/\ -12<=I T 2/\I T 2<=48/\ -100<=I T 11/\I T 11<=100)/\
  (B T 10=true-> -10000<=I T 1/\I T 1<=10000/\ -10000<=I T 4/\I T 4<=10000):=by
 obtain⟨F0,A0⟩:=A0.cut;have F1:=A0;clear A0;refine⟨?_,?_,?_,?_,?_,?_,?_,?_,?_,?_⟩
 .obtain⟨e7,e8,-,-,-,-,-,-,-,-,e17,-⟩:=F0;replace e7:I T 7=(Am (S T 0) (I T 1) (I T 2) (S T 3) (I T 4) (I T 5)):=e7;simp only[AI,AP,zR,zL,zS] at e8 e17;by_cases h:(I T 7)=0
  .have h8:¬B T 8=true:=fun a=>(e8.1 a) h;rw[e17,if_neg h8,<-e7,if_pos h]
  .rw[e17,if_pos (e8.2 h),<-e7,if_neg h]
 .obtain⟨e7,e8,-,-,e11,e12,-,-,-,-,-,e18,-⟩:=F0;replace e7:I T 7=(Am (S T 0) (I T 1) (I T 2) (S T 3) (I T 4) (I T 5)):=e7;replace e11:I T 11=(Ar (I T 1) (I T 4) (B T 6)):=e11;replace e12:I T 12=(Ax (I T 1) (I T 11)):=e12;simp only[AI,AP,zR,zL,zS] at e8 e18;by_cases h:(I T 7)=0
  .have h8:¬B T 8=true:=fun a=>(e8.1 a) h;rw[e18,if_neg h8,<-e7,if_pos h];rw[e12,e11]
  .rw[e18,if_pos (e8.2 h),<-e7,if_neg h]
 .obtain⟨e7,e8,-,-,e11,-,e13,-,-,-,-,-,e19,-⟩:=F0;replace e7:I T 7=(Am (S T 0) (I T 1) (I T 2) (S T 3) (I T 4) (I T 5)):=e7;replace e11:I T 11=(Ar (I T 1) (I T 4) (B T 6)):=e11;replace e13:I T 13=(CT (Ax (I T 1) (I T 11)) (I T 2)):=e13;simp only[AI,AP,zR,zL,zS] at e8 e19;by_cases h:(I T 7)=0
  .have h8:¬B T 8=true:=fun a=>(e8.1 a) h;rw[e19,if_neg h8,<-e7,if_pos h];rw[e13,e11]
  .rw[e19,if_pos (e8.2 h),<-e7,if_neg h]
 .obtain⟨e7,e8,-,-,-,-,-,-,-,-,-,-,-,e20,-⟩:=F0;replace e7:I T 7=(Am (S T 0) (I T 1) (I T 2) (S T 3) (I T 4) (I T 5)):=e7;simp only[AI,AP,zR,zL,zS] at e8 e20;by_cases h:(I T 7)=0
  .have h8:¬B T 8=true:=fun a=>(e8.1 a) h;rw[e20,if_neg h8,<-e7,if_pos h]
  .rw[e20,if_pos (e8.2 h),<-e7,if_neg h]
 .obtain⟨e7,e8,-,-,e11,-,-,e14,e15,-,-,-,-,-,e21,-⟩:=F0;replace e7:I T 7=(Am (S T 0) (I T 1) (I T 2) (S T 3) (I T 4) (I T 5)):=e7;replace e11:I T 11=(Ar (I T 1) (I T 4) (B T 6)):=e11;replace e15:I T 15=(Ax (I T 4) (I T 14)):=e15;simp only[AI,AP,zR,w2P,wnP,zL,zS] at e8 e14 e21;by_cases h:(I T 7)=0
  .have h8:¬B T 8=true:=fun a=>(e8.1 a) h;rw[e21,if_neg h8,<-e7,if_pos h];have hg:=HF (I T 1) (I T 4) (B T 6);rw[<-e11] at hg;have x13:=e14.1 (by omega) (by omega);rw[e15,x13,e11]
  .rw[e21,if_pos (e8.2 h),<-e7,if_neg h]
 .obtain⟨e7,e8,-,-,e11,-,-,e14,-,e16,-,-,-,-,-,e22,-⟩:=F0;replace e7:I T 7=(Am (S T 0) (I T 1) (I T 2) (S T 3) (I T 4) (I T 5)):=e7;replace e11:I T 11=(Ar (I T 1) (I T 4) (B T 6)):=e11;replace e16:I T 16=(CT (Ax (I T 4) (I T 14)) (I T 5)):=e16;simp only[AI,AP,zR,w2P,wnP,zL,zS] at e8 e14 e22;by_cases h:(I T 7)=0
  .have h8:¬B T 8=true:=fun a=>(e8.1 a) h;rw[e22,if_neg h8,<-e7,if_pos h];have hg:=HF (I T 1) (I T 4) (B T 6);rw[<-e11] at hg;have x13:=e14.1 (by omega) (by omega);rw[e16,x13,e11]
  .rw[e22,if_pos (e8.2 h),<-e7,if_neg h]
 .obtain⟨e7,e8,e9,-⟩:=F0;obtain⟨e23,-⟩:=F1;replace e7:I T 7=(Am (S T 0) (I T 1) (I T 2) (S T 3) (I T 4) (I T 5)):=e7;replace e9:I T 9=(Am (S T 0) (I T 1) (I T 2) (S T 3) (I T 4) (I T 5)):=e9;simp only[AI,AP,zR,zL,zS] at e8 e23;rw[e23,e9,<-e7];split
  .rfl
  .rename_i h8;by_cases h:(I T 7)=0
   .exact h.symm
   .exact absurd (e8.2 h) h8
 .obtain⟨e7,e8,-,e10,e11,-,-,e14,-⟩:=F0;replace e7:I T 7=(Am (S T 0) (I T 1) (I T 2) (S T 3) (I T 4) (I T 5)):=e7;replace e11:I T 11=(Ar (I T 1) (I T 4) (B T 6)):=e11;simp only[AI,AP,zR,w2P,wnP] at e8 e10 e14;intro hp;have h0:(I T 7)=0:=by
   by_cases h:(I T 7)=0
   .exact h
   .exact absurd (e8.2 h) (e10.1 hp)
  obtain⟨q1,q2,q3⟩:=JA (e7.symm.trans h0);rw[Ea] at q1 q2;have hg:=HF (I T 1) (I T 4) (B T 6);rw[<-e11] at hg;have x13:=e14.1 (by omega) (by omega);omega
 .obtain⟨e7,e8,-,e10,e11,-⟩:=F0;replace e7:I T 7=(Am (S T 0) (I T 1) (I T 2) (S T 3) (I T 4) (I T 5)):=e7;replace e11:I T 11=(Ar (I T 1) (I T 4) (B T 6)):=e11;simp only[AI,AP,zR] at e8 e10;intro hp;have h0:(I T 7)=0:=by
   by_cases h:(I T 7)=0
   .exact h
   .exact absurd (e8.2 h) (e10.1 hp)
  obtain⟨q1,q2,q3⟩:=JA (e7.symm.trans h0);rw[Ea] at q1 q2;have hg:=HF (I T 1) (I T 4) (B T 6);rw[<-e11] at hg;omega
 .obtain⟨e7,e8,-,e10,-⟩:=F0;replace e7:I T 7=(Am (S T 0) (I T 1) (I T 2) (S T 3) (I T 4) (I T 5)):=e7;simp only[AI,AP,zR] at e8 e10;intro hp;have h0:(I T 7)=0:=by
   by_cases h:(I T 7)=0
   .exact h
   .exact absurd (e8.2 h) (e10.1 hp)
  obtain⟨q1,q2,q3⟩:=JA (e7.symm.trans h0);rw[Ea] at q1 q2;omega
theorem ox:Ae Try.prog 50 ld:=by
 refine BH (l:=[(91,lC),(89,jd),(114,jf)]) Bh (by simp only[wJ];exact⟨nR,nU,pH,fun _ h=>absurd h (by simp)⟩) pG (by kernel_rfl) fun T us hpre hT hul hS hBd hE=>?_;change us.length=7 at hul;obtain⟨hz0,-,-,hz3,-⟩:=hBd;replace hz0:(S T 0).size<=140737488355328:=hz0;replace hz3:(S T 3).size<=140737488355328:=hz3;have ha0:aS us 0=S T 0:=inS hT hul (by decide);have ha1:aI us 1=I T 1:=inI hT hul (by decide);have ha2:aI us 2=I T 2:=inI hT hul (by decide);have ha3:aS us 3=S T 3:=inS hT hul (by decide);have ha4:aI us 4=I T 4:=inI hT hul (by decide);have ha5:aI us 5=I T 5:=inI hT hul (by decide);have ha6:aB us 6=B T 6:=inB hT hul (by decide);clear hpre
 skip
 obtain⟨A0,hO⟩:=BG (tys:=[.s,.i,.i,.s,.i,.i,.i]) (rs:=nZ) hS (by kernel_rfl) hE;obtain⟨q0,q1,q2,q3,q4,q5,q6,r0,r1,r2⟩:=pO hz0 hz3 A0;refine⟨⟨r0,r1,r2,trivial⟩,hO.trans ?_⟩;exact (lc (by show U.str (S T 17)= .str (lD us);unfold lD;rw[ha0,ha1,ha2,ha3,ha4,ha5];exact congrArg U.str q0) (lc (by show U.int (I T 18)= .int (lS us);unfold lS;rw[ha0,ha1,ha2,ha3,ha4,ha5,ha6];exact congrArg U.int q1) (lc (by show U.int (I T 19)= .int (lP us);unfold lP;rw[ha0,ha1,ha2,ha3,ha4,ha5,ha6];exact congrArg U.int q2) (lc (by show U.str (S T 20)= .str (lT us);unfold lT;rw[ha0,ha1,ha2,ha3,ha4,ha5];exact congrArg U.str q3) (lc (by show U.int (I T 21)= .int (kw us);unfold kw;rw[ha0,ha1,ha2,ha3,ha4,ha5,ha6];exact congrArg U.int q4) (lc (by show U.int (I T 22)= .int (lN us);unfold lN;rw[ha0,ha1,ha2,ha3,ha4,ha5,ha6];exact congrArg U.int q5) (lc (by show U.int (I T 23)= .int (kW us);unfold kW;rw[ha0,ha1,ha2,ha3,ha4,ha5];exact congrArg U.int q6) rfl)))))))
def jh:List U->Int:=fun us=>(if Am (aS us 0) (aI us 1) (aI us 2) (aS us 3) (aI us 4) (aI us 5)=0 then jJ (aI us 2) (aI us 5) else 0)
def jl:List U->Int:=fun us=>(if Am (aS us 0) (aI us 1) (aI us 2) (aS us 3) (aI us 4) (aI us 5)=0 then jJ (aI us 5) (aI us 2) else 0)
def ji:List U->Int:=fun us=>(Am (aS us 0) (aI us 1) (aI us 2) (aS us 3) (aI us 4) (aI us 5))
def jZ:AV:={ sh:=[.agg [.str,k64,k64],.agg [.str,k64,k64]],blks:=[],outs:=[(.s "Halves.0",Bl jh),(.s "Halves.1",Bl jl),(.s "Halves.2",Bl ji)],c:= .tup [.agg [(C4 6),(C4 7)],(C4 8)],m':=[],pre:=[] }
def nL:List En:=[⟨6,.outI "pair.0" L0,[.e 0,.e 1,.e 2,.e 3,.e 4,.e 5]⟩,
 ⟨7,.ne,[.e 6,.c (.int 0)]⟩,
 ⟨8,.not,[.e 7]⟩,
 ⟨9,.w2 .i64 .sub,[.e 2,.e 5]⟩,
 ⟨10,.o2 .max,[.e 9,.c (.int 0)]⟩,
 ⟨11,.o2 .min,[.e 10,.c (.int 40)]⟩,
 ⟨12,.wneg .i64,[.e 9]⟩,
 ⟨13,.o2 .max,[.e 12,.c (.int 0)]⟩,
 ⟨14,.o2 .min,[.e 13,.c (.int 40)]⟩,
 ⟨15,.ite .i,[.e 7,.c (.int 0),.e 11]⟩,
 ⟨16,.ite .i,[.e 7,.c (.int 0),.e 14]⟩,
 ⟨17,.ite .i,[.e 7,.e 6,.c (.int 0)]⟩,
 ⟨18,.or,[.e 7,.e 8]⟩]
def mY:List En:=nL
def pB:List ObE:=[]
def nW:List Rf:=[.e 15,.e 16,.e 17]
theorem pE:jZ.sees nW (jZ.run Try.prog [(57,M6)] AW 3000 20 28)=some ((mY).map En.be,pB.map ObE.be,[]):=by kernel_rfl
theorem pQ {T:Tab}(hz0:(S T 0).size<=140737488355328)(hz3:(S T 3).size<=140737488355328)(A0:AH T mY):
  ((I T 15)=(if Am (S T 0) (I T 1) (I T 2) (S T 3) (I T 4) (I T 5)=0 then jJ (I T 2) (I T 5) else 0))/\
  ((I T 16)=(if Am (S T 0) (I T 1) (I T 2) (S T 3) (I T 4) (I T 5)=0 then jJ (I T 5) (I T 2) else 0))/\
  ((I T 17)=(Am (S T 0) (I T 1) (I T 2) (S T 3) (I T 4) (I T 5))):=by
 have F0:=A0;clear A0;refine⟨?_,?_,?_⟩
 .obtain⟨e6,e7,-,e9,e10,e11,-,-,-,e15,-⟩:=F0;replace e6:I T 6=(Am (S T 0) (I T 1) (I T 2) (S T 3) (I T 4) (I T 5)):=e6;simp only[AI,AP,zR,LW,w2P,zL,zS] at e7 e9 e10 e11 e15;by_cases h:(I T 6)=0
  .have h8:¬B T 7=true:=fun a=>(e7.1 a) h;obtain⟨q1,q2,q3⟩:=JA (e6.symm.trans h);rw[Ea] at q1 q2;rw[e15,if_neg h8,<-e6,if_pos h];unfold jJ;have x9:=e9 (by omega) (by omega);rw[e11,e10];omega
  .rw[e15,if_pos (e7.2 h),<-e6,if_neg h]
 .obtain⟨e6,e7,-,e9,-,-,e12,e13,e14,-,e16,-⟩:=F0;replace e6:I T 6=(Am (S T 0) (I T 1) (I T 2) (S T 3) (I T 4) (I T 5)):=e6;simp only[AI,AP,zR,LW,w2P,wnP,zL,zS] at e7 e9 e12 e13 e14 e16;by_cases h:(I T 6)=0
  .have h8:¬B T 7=true:=fun a=>(e7.1 a) h;obtain⟨q1,q2,q3⟩:=JA (e6.symm.trans h);rw[Ea] at q1 q2;rw[e16,if_neg h8,<-e6,if_pos h];unfold jJ;have x9:=e9 (by omega) (by omega);have x12:=e12.1 (by omega) (by omega);rw[e14,e13];omega
  .rw[e16,if_pos (e7.2 h),<-e6,if_neg h]
 .obtain⟨e6,e7,-,-,-,-,-,-,-,-,-,e17,-⟩:=F0;replace e6:I T 6=(Am (S T 0) (I T 1) (I T 2) (S T 3) (I T 4) (I T 5)):=e6;simp only[AI,AP,zR,zL,zS] at e7 e17;rw[e17,<-e6];split
  .rfl
  .rename_i h8;by_cases h:(I T 6)=0
   .exact h.symm
   .exact absurd (e7.2 h) h8
theorem mg:Ae Try.prog 28 jZ:=by
 refine BH (l:=[(57,M6)]) Bh (by simp only[wJ];exact⟨gE,fun _ h=>absurd h (by simp)⟩) pE (by kernel_rfl) fun T us hpre hT hul hS hBd hE=>?_;change us.length=6 at hul;obtain⟨hz0,-,-,hz3,-⟩:=hBd;replace hz0:(S T 0).size<=140737488355328:=hz0;replace hz3:(S T 3).size<=140737488355328:=hz3;have ha0:aS us 0=S T 0:=inS hT hul (by decide);have ha1:aI us 1=I T 1:=inI hT hul (by decide);have ha2:aI us 2=I T 2:=inI hT hul (by decide);have ha3:aS us 3=S T 3:=inS hT hul (by decide);have ha4:aI us 4=I T 4:=inI hT hul (by decide);have ha5:aI us 5=I T 5:=inI hT hul (by decide);clear hpre
 skip
 obtain⟨A0,hO⟩:=BG (tys:=[.i,.i,.i]) (rs:=nW) hS (by kernel_rfl) hE;obtain⟨q0,q1,q2⟩:=pQ hz0 hz3 A0;refine⟨trivial,hO.trans ?_⟩;exact (lc (by show U.int (I T 15)= .int (jh us);unfold jh;rw[ha0,ha1,ha2,ha3,ha4,ha5];exact congrArg U.int q0) (lc (by show U.int (I T 16)= .int (jl us);unfold jl;rw[ha0,ha1,ha2,ha3,ha4,ha5];exact congrArg U.int q1) (lc (by show U.int (I T 17)= .int (ji us);unfold ji;rw[ha0,ha1,ha2,ha3,ha4,ha5];exact congrArg U.int q2) rfl)))
def jz:List U->Int:=fun us=>(if Am (aS us 0) (aI us 1) (aI us 2) (aS us 3) (aI us 4) (aI us 5)=0 then jJ (aI us 2) (aI us 5) else 0)
def j7:List U->Int:=fun us=>(if Am (aS us 0) (aI us 1) (aI us 2) (aS us 3) (aI us 4) (aI us 5)=0 then jJ (aI us 5) (aI us 2) else 0)
def jy:List U->Int:=fun us=>(Am (aS us 0) (aI us 1) (aI us 2) (aS us 3) (aI us 4) (aI us 5))
def kL:AV:={ sh:=[.agg [.str,k64,k64],.agg [.str,k64,k64]],blks:=[],outs:=[(.s "rHalves.0",Bl jz),(.s "rHalves.1",Bl j7),(.s "rHalves.2",Bl jy)],c:= .tup [.agg [(C4 6),(C4 7)],(C4 8)],m':=[],pre:=[] }
def nE:List En:=[⟨6,.outI "two.0" jW,[.e 0,.e 1,.e 2,.e 3,.e 4,.e 5]⟩,
 ⟨7,.ne,[.e 6,.c (.int 0)]⟩,
 ⟨8,.outI "two.0" jW,[.e 0,.e 1,.e 2,.e 3,.e 4,.e 5]⟩,
 ⟨9,.not,[.e 7]⟩,
 ⟨10,.w2 .i64 .sub,[.e 2,.e 5]⟩,
 ⟨11,.o2 .max,[.c (.int 0),.e 10]⟩,
 ⟨12,.o2 .min,[.c (.int 40),.e 11]⟩,
 ⟨13,.w2 .i64 .sub,[.e 5,.e 2]⟩,
 ⟨14,.o2 .max,[.c (.int 0),.e 13]⟩,
 ⟨15,.o2 .min,[.c (.int 40),.e 14]⟩,
 ⟨16,.ite .i,[.e 7,.c (.int 0),.e 12]⟩,
 ⟨17,.ite .i,[.e 7,.c (.int 0),.e 15]⟩,
 ⟨18,.ite .i,[.e 7,.e 8,.c (.int 0)]⟩,
 ⟨19,.or,[.e 7,.e 9]⟩]
def mP:List En:=nE
def oo:List ObE:=[]
def mj:List Rf:=[.e 16,.e 17,.e 18]
theorem ot:kL.sees mj (kL.run Try.prog [(91,lC)] AW 3000 20 51)=some ((mP).map En.be,oo.map ObE.be,[]):=by kernel_rfl
theorem oq {T:Tab}(hz0:(S T 0).size<=140737488355328)(hz3:(S T 3).size<=140737488355328)(A0:AH T mP):
  ((I T 16)=(if Am (S T 0) (I T 1) (I T 2) (S T 3) (I T 4) (I T 5)=0 then jJ (I T 2) (I T 5) else 0))/\
  ((I T 17)=(if Am (S T 0) (I T 1) (I T 2) (S T 3) (I T 4) (I T 5)=0 then jJ (I T 5) (I T 2) else 0))/\
  ((I T 18)=(Am (S T 0) (I T 1) (I T 2) (S T 3) (I T 4) (I T 5))):=by
 have F0:=A0;clear A0;refine⟨?_,?_,?_⟩
 .obtain⟨e6,e7,-,-,e10,e11,e12,-,-,-,e16,-⟩:=F0;replace e6:I T 6=(Am (S T 0) (I T 1) (I T 2) (S T 3) (I T 4) (I T 5)):=e6;simp only[AI,AP,zR,LW,w2P,zL,zS] at e7 e10 e11 e12 e16;by_cases h:(I T 6)=0
  .have h8:¬B T 7=true:=fun a=>(e7.1 a) h;obtain⟨q1,q2,q3⟩:=JA (e6.symm.trans h);rw[Ea] at q1 q2;rw[e16,if_neg h8,<-e6,if_pos h];unfold jJ;have x10:=e10 (by omega) (by omega);rw[e12,e11];omega
  .rw[e16,if_pos (e7.2 h),<-e6,if_neg h]
 .obtain⟨e6,e7,-,-,-,-,-,e13,e14,e15,-,e17,-⟩:=F0;replace e6:I T 6=(Am (S T 0) (I T 1) (I T 2) (S T 3) (I T 4) (I T 5)):=e6;simp only[AI,AP,zR,LW,w2P,zL,zS] at e7 e13 e14 e15 e17;by_cases h:(I T 6)=0
  .have h8:¬B T 7=true:=fun a=>(e7.1 a) h;obtain⟨q1,q2,q3⟩:=JA (e6.symm.trans h);rw[Ea] at q1 q2;rw[e17,if_neg h8,<-e6,if_pos h];unfold jJ;have x13:=e13 (by omega) (by omega);rw[e15,e14];omega
  .rw[e17,if_pos (e7.2 h),<-e6,if_neg h]
 .obtain⟨e6,e7,e8,-,-,-,-,-,-,-,-,-,e18,-⟩:=F0;replace e6:I T 6=(Am (S T 0) (I T 1) (I T 2) (S T 3) (I T 4) (I T 5)):=e6;replace e8:I T 8=(Am (S T 0) (I T 1) (I T 2) (S T 3) (I T 4) (I T 5)):=e8;simp only[AI,AP,zR,zL,zS] at e7 e18;rw[e18,e8,<-e6];split
  .rfl
  .rename_i h8;by_cases h:(I T 6)=0
   .exact h.symm
   .exact absurd (e7.2 h) h8
theorem oR:Ae Try.prog 51 kL:=by
 refine BH (l:=[(91,lC)]) Bh (by simp only[wJ];exact⟨nR,fun _ h=>absurd h (by simp)⟩) ot (by kernel_rfl) fun T us hpre hT hul hS hBd hE=>?_;change us.length=6 at hul;obtain⟨hz0,-,-,hz3,-⟩:=hBd;replace hz0:(S T 0).size<=140737488355328:=hz0;replace hz3:(S T 3).size<=140737488355328:=hz3;have ha0:aS us 0=S T 0:=inS hT hul (by decide);have ha1:aI us 1=I T 1:=inI hT hul (by decide);have ha2:aI us 2=I T 2:=inI hT hul (by decide);have ha3:aS us 3=S T 3:=inS hT hul (by decide);have ha4:aI us 4=I T 4:=inI hT hul (by decide);have ha5:aI us 5=I T 5:=inI hT hul (by decide);clear hpre
 skip
 obtain⟨A0,hO⟩:=BG (tys:=[.i,.i,.i]) (rs:=mj) hS (by kernel_rfl) hE;obtain⟨q0,q1,q2⟩:=oq hz0 hz3 A0;refine⟨trivial,hO.trans ?_⟩;exact (lc (by show U.int (I T 16)= .int (jz us);unfold jz;rw[ha0,ha1,ha2,ha3,ha4,ha5];exact congrArg U.int q0) (lc (by show U.int (I T 17)= .int (j7 us);unfold j7;rw[ha0,ha1,ha2,ha3,ha4,ha5];exact congrArg U.int q1) (lc (by show U.int (I T 18)= .int (jy us);unfold jy;rw[ha0,ha1,ha2,ha3,ha4,ha5];exact congrArg U.int q2) rfl)))
def lw:List U->Int:=fun us=>(if jK (aI us 0) (aS us 1) (aI us 2) (aI us 3) (aS us 4) (aI us 5) (aI us 6)=true then (aI us 0) else 0)
def lv:List U->Int:=fun us=>((0:Int))
def ln:List U->Int:=fun us=>((0:Int))
def l9:List U->Int:=fun us=>(if jK (aI us 0) (aS us 1) (aI us 2) (aI us 3) (aS us 4) (aI us 5) (aI us 6)=true then -1 else 0)
def l8:List U->Int:=fun us=>(if jK (aI us 0) (aS us 1) (aI us 2) (aI us 3) (aS us 4) (aI us 5) (aI us 6)=true then -1 else 0)
def l6:List U->Int:=fun us=>((0:Int))
def lf:List U->Int:=fun us=>((0:Int))
def ly:List U->Int:=fun us=>((0:Int))
def lz:List U->Int:=fun us=>((0:Int))
def mA:List U->Bool:=fun us=>(false)
def kX:List U->Bool:=fun us=>(false)
def lK:List U->Bool:=fun us=>(false)
def kR:List U->Bool:=fun us=>(false)
def lI:List U->Bool:=fun us=>(false)
def lA:List U->Bool:=fun us=>(false)
def kY:List U->Bool:=fun us=>(false)
def lY:List U->Bool:=fun us=>(false)
def kZ:List U->Int:=fun us=>(if jk (aI us 0) (aS us 1) (aI us 2) (aI us 3) (aS us 4) (aI us 5) (aI us 6)=true then (jJ (aI us 3) (aI us 6)) else 0)
def lO:List U->Int:=fun us=>(if jk (aI us 0) (aS us 1) (aI us 2) (aI us 3) (aS us 4) (aI us 5) (aI us 6)=true then (jJ (aI us 6) (aI us 3)) else 0)
def lJ:List U->Bool:=fun us=>(false)
def kh:List U->Bool:=fun us=>(false)
def lF:List U->Bool:=fun us=>(false)
def kU:List U->Int:=fun us=>((0:Int))
def lH:List U->Int:=fun us=>((0:Int))
def lX:List U->Int:=fun us=>(if jK (aI us 0) (aS us 1) (aI us 2) (aI us 3) (aS us 4) (aI us 5) (aI us 6)=true then -1 else 0)
def kV:List U->Int:=fun us=>(if jK (aI us 0) (aS us 1) (aI us 2) (aI us 3) (aS us 4) (aI us 5) (aI us 6)=true then -1 else 0)
def kS:List U->Int:=fun us=>(mN (aI us 0) (aS us 1) (aI us 2) (aI us 3) (aS us 4) (aI us 5) (aI us 6))
def mC:AV:={ sh:=[.one (k64),.agg [.str,k64,k64],.agg [.str,k64,k64]],blks:=[],outs:=[(.s "Begin.0",Bl lw),(.s "Begin.1",Bl lv),(.s "Begin.2",Bl ln),(.s "Begin.3",Bl l9),(.s "Begin.4",Bl l8),(.s "Begin.5",Bl l6),(.s "Begin.6",Bl lf),(.s "Begin.7",Bl ly),(.s "Begin.8",Bl lz),(.s "Begin.9",LP mA),(.s "Begin.10",LP kX),(.s "Begin.11",LP lK),(.s "Begin.12",LP kR),(.s "Begin.13",LP lI),(.s "Begin.14",LP lA),(.s "Begin.15",LP kY),(.s "Begin.16",LP lY),(.s "Begin.17",Bl kZ),(.s "Begin.18",Bl lO),(.s "Begin.19",LP lJ),(.s "Begin.20",LP kh),(.s "Begin.21",LP lF),(.s "Begin.22",Bl kU),(.s "Begin.23",Bl lH),(.s "Begin.24",Bl lX),(.s "Begin.25",Bl kV),(.s "Begin.26",Bl kS)],c:= .tup [.agg [(C4 7),(C4 8),(C4 9),(C4 10),(C4 11),(C4 12),(C4 13),(C4 14),(C4 15),.b 16,.b 17,.b 18,.b 19,.b 20,.b 21,.b 22,.b 23,(C4 24),(C4 25),.b 26,.b 27,.b 28,(C4 29),(C4 30),(C4 31),(C4 32)],(C4 33)],m':=[],pre:=[] }
def oH:List En:=[⟨7,.outI "Halves.0" jh,[.e 1,.e 2,.e 3,.e 4,.e 5,.e 6]⟩,
 ⟨8,.outI "Halves.1" jl,[.e 1,.e 2,.e 3,.e 4,.e 5,.e 6]⟩,
 ⟨9,.outI "Halves.2" ji,[.e 1,.e 2,.e 3,.e 4,.e 5,.e 6]⟩,
 ⟨10,.ne,[.e 9,.c (.int 0)]⟩,
 ⟨11,.not,[.e 10]⟩,
 ⟨12,.lt,[.e 0,.c (.int 0)]⟩,
 ⟨13,.and,[.e 11,.n 12]⟩,
 ⟨14,.le,[.c (.int 4),.e 0]⟩,
 ⟨15,.or,[.e 12,.e 14]⟩,
 ⟨16,.and,[.e 11,.e 15]⟩,
 ⟨17,.and,[.e 11,.n 15]⟩,
 ⟨18,.pick .i,[.e 0,.c (.int 12),.c (.int 12),.c (.int 6),.c (.int 12)]⟩,
 ⟨19,.pick .i,[.e 0,.c (.int 0),.c (.int 7),.c (.int 0),.c (.int 0)]⟩,
 ⟨20,.pick .i,[.e 0,.c (.int 0),.c (.int 10),.c (.int 0),.c (.int 0)]⟩,
 ⟨21,.pick .b,[.e 0,.c (.bool true),.c (.bool true),.c (.bool true),.c (.bool false)]⟩,
 ⟨22,.pick .b,[.e 0,.c (.bool true),.c (.bool false),.c (.bool true),.c (.bool false)]⟩]
def nu:List En:=[⟨23,.pick .b,[.e 0,.c (.bool false),.c (.bool false),.c (.bool false),.c (.bool true)]⟩,
 ⟨24,.ite .i,[.e 16,.c (.int 0),.e 18]⟩,
 ⟨25,.ite .i,[.e 16,.c (.int 0),.e 19]⟩,
 ⟨26,.ite .i,[.e 16,.c (.int 0),.e 20]⟩,
 ⟨27,.ite .b,[.e 16,.c (.bool false),.e 21]⟩,
 ⟨28,.ite .b,[.e 16,.c (.bool false),.e 22]⟩,
 ⟨29,.ite .b,[.e 16,.c (.bool false),.e 23]⟩,
 ⟨30,.ite .i,[.e 16,.c (.int 3),.c (.int 0)]⟩,
 ⟨31,.or,[.e 16,.e 17]⟩,
 ⟨32,.ne,[.e 30,.c (.int 0)]⟩,
 ⟨33,.and,[.e 11,.n 32]⟩,
 ⟨34,.or,[.e 32,.n 28]⟩,
 ⟨35,.and,[.e 11,.e 34]⟩,
 ⟨36,.and,[.e 11,.n 34]⟩,
 ⟨37,.ite .i,[.e 34,.c (.int 0),.e 7]⟩,
 ⟨38,.ite .i,[.e 34,.c (.int 0),.e 8]⟩]
def oI:List En:=[⟨39,.lt,[.e 0,.c (.int 0)]⟩,
 ⟨40,.and,[.e 11,.n 39]⟩,
 ⟨41,.le,[.c (.int 4),.e 0]⟩,
 ⟨42,.or,[.e 39,.e 41]⟩,
 ⟨43,.and,[.e 11,.e 42]⟩,
 ⟨44,.and,[.e 11,.n 42]⟩,
 ⟨45,.pick .i,[.e 0,.c (.int 12),.c (.int 12),.c (.int 6),.c (.int 12)]⟩,
 ⟨46,.pick .i,[.e 0,.c (.int 0),.c (.int 7),.c (.int 0),.c (.int 0)]⟩,
 ⟨47,.pick .i,[.e 0,.c (.int 0),.c (.int 10),.c (.int 0),.c (.int 0)]⟩,
 ⟨48,.pick .b,[.e 0,.c (.bool true),.c (.bool true),.c (.bool true),.c (.bool false)]⟩,
 ⟨49,.pick .b,[.e 0,.c (.bool true),.c (.bool false),.c (.bool true),.c (.bool false)]⟩,
 ⟨50,.pick .b,[.e 0,.c (.bool false),.c (.bool false),.c (.bool false),.c (.bool true)]⟩,
 ⟨51,.ite .i,[.e 43,.c (.int 0),.e 45]⟩,
 ⟨52,.ite .i,[.e 43,.c (.int 0),.e 46]⟩,
 ⟨53,.ite .i,[.e 43,.c (.int 0),.e 47]⟩,
 ⟨54,.ite .b,[.e 43,.c (.bool false),.e 48]⟩]
def oE:List En:=[⟨55,.ite .b,[.e 43,.c (.bool false),.e 49]⟩,
 ⟨56,.ite .b,[.e 43,.c (.bool false),.e 50]⟩,
 ⟨57,.ite .i,[.e 43,.c (.int 3),.c (.int 0)]⟩,
 ⟨58,.or,[.e 43,.e 44]⟩,
 ⟨59,.ne,[.e 57,.c (.int 0)]⟩,
 ⟨60,.and,[.e 11,.e 59]⟩,
 ⟨61,.and,[.e 11,.n 59]⟩,
 ⟨62,.and,[.e 61,.e 55]⟩,
 ⟨63,.and,[.e 61,.n 55]⟩,
 ⟨64,.ite .i,[.e 55,.c (.int 40),.c (.int 0)]⟩,
 ⟨65,.o2 .min,[.e 37,.e 38]⟩,
 ⟨66,.le,[.c (.int 0),.e 65]⟩,
 ⟨67,.and,[.e 61,.e 66]⟩,
 ⟨68,.o2 .max,[.e 37,.e 38]⟩,
 ⟨69,.le,[.e 68,.e 64]⟩,
 ⟨70,.and,[.e 66,.e 69]⟩]
def oC:List En:=[⟨71,.and,[.e 61,.e 70]⟩,
 ⟨72,.and,[.e 61,.n 70]⟩,
 ⟨73,.ite .i,[.e 72,.c (.int 0),.e 0]⟩,
 ⟨74,.ite .i,[.e 72,.c (.int 0),.c (.int (-1))]⟩,
 ⟨75,.ite .i,[.e 72,.c (.int 0),.c (.int (-1))]⟩,
 ⟨76,.ite .i,[.e 72,.c (.int 0),.e 37]⟩,
 ⟨77,.ite .i,[.e 72,.c (.int 0),.e 38]⟩,
 ⟨78,.ite .i,[.e 72,.c (.int 0),.c (.int (-1))]⟩,
 ⟨79,.ite .i,[.e 72,.c (.int 0),.c (.int (-1))]⟩,
 ⟨80,.ite .i,[.e 72,.c (.int 2),.c (.int 0)]⟩,
 ⟨81,.or,[.e 72,.e 71]⟩,
 ⟨82,.ite .i,[.e 60,.c (.int 0),.e 73]⟩,
 ⟨83,.ite .i,[.e 60,.c (.int 0),.e 74]⟩,
 ⟨84,.ite .i,[.e 60,.c (.int 0),.e 75]⟩,
 ⟨85,.ite .i,[.e 60,.c (.int 0),.e 76]⟩,
 ⟨86,.ite .i,[.e 60,.c (.int 0),.e 77]⟩]
def oB:List En:=[⟨87,.ite .i,[.e 60,.c (.int 0),.e 78]⟩,
 ⟨88,.ite .i,[.e 60,.c (.int 0),.e 79]⟩,
 ⟨89,.ite .i,[.e 60,.e 57,.e 80]⟩,
 ⟨90,.or,[.e 60,.e 81]⟩,
 ⟨91,.ite .i,[.e 10,.c (.int 0),.e 82]⟩,
 ⟨92,.ite .i,[.e 10,.c (.int 0),.e 83]⟩,
 ⟨93,.ite .i,[.e 10,.c (.int 0),.e 84]⟩,
 ⟨94,.ite .i,[.e 10,.c (.int 0),.e 85]⟩,
 ⟨95,.ite .i,[.e 10,.c (.int 0),.e 86]⟩,
 ⟨96,.ite .i,[.e 10,.c (.int 0),.e 87]⟩,
 ⟨97,.ite .i,[.e 10,.c (.int 0),.e 88]⟩,
 ⟨98,.ite .i,[.e 10,.e 7,.e 37]⟩,
 ⟨99,.ite .i,[.e 10,.e 8,.e 38]⟩,
 ⟨100,.ite .i,[.e 10,.e 9,.e 89]⟩,
 ⟨101,.ite .i,[.e 10,.e 9,.e 30]⟩,
 ⟨102,.or,[.e 10,.e 11]⟩]
def me:List En:=oH++(nu++(oI++(oE++(oC++(oB)))))
def ph:List ObE:=[⟨some 44,.inr,[.e 0,.c (.int 4)]⟩,
 ⟨some 17,.inr,[.e 0,.c (.int 4)]⟩]
def oM:List Rf:=[.e 91,.c (.int 0),.c (.int 0),.e 92,.e 93,.c (.int 0),.c (.int 0),.c (.int 0),.c (.int 0),.c (.bool false),.c (.bool false),.c (.bool false),.c (.bool false),.c (.bool false),.c (.bool false),.c (.bool false),.c (.bool false),.e 94,.e 95,.c (.bool false),.c (.bool false),.c (.bool false),.c (.int 0),.c (.int 0),.e 96,.e 97,.e 100]
theorem pl:mC.sees oM (mC.run Try.prog [(28,jZ)] AW 3000 20 52)=some ((me).map En.be,ph.map ObE.be,[]):=by kernel_rfl
theorem pi {T:Tab}(hz1:(S T 1).size<=140737488355328)(hz4:(S T 4).size<=140737488355328)(A0:AH T me):
  ((I T 91)=(if jK (I T 0) (S T 1) (I T 2) (I T 3) (S T 4) (I T 5) (I T 6)=true then (I T 0) else 0))/\
  (0=((0:Int)))/\
  (0=((0:Int)))/\
  ((I T 92)=(if jK (I T 0) (S T 1) (I T 2) (I T 3) (S T 4) (I T 5) (I T 6)=true then -1 else 0))/\
  ((I T 93)=(if jK (I T 0) (S T 1) (I T 2) (I T 3) (S T 4) (I T 5) (I T 6)=true then -1 else 0))/\
  (0=((0:Int)))/\
  (0=((0:Int)))/\
  (0=((0:Int)))/\
  (0=((0:Int)))/\
  (false=(false))/\
  (false=(false))/\
  (false=(false))/\
  (false=(false))/\
  (false=(false))/\
  (false=(false))/\
  (false=(false))/\
  (false=(false))/\
  ((I T 94)=(if jk (I T 0) (S T 1) (I T 2) (I T 3) (S T 4) (I T 5) (I T 6)=true then (jJ (I T 3) (I T 6)) else 0))/\
  ((I T 95)=(if jk (I T 0) (S T 1) (I T 2) (I T 3) (S T 4) (I T 5) (I T 6)=true then (jJ (I T 6) (I T 3)) else 0))/\
  (false=(false))/\
  (false=(false))/\
  (false=(false))/\
  (0=((0:Int)))/\
  (0=((0:Int)))/\
  ((I T 96)=(if jK (I T 0) (S T 1) (I T 2) (I T 3) (S T 4) (I T 5) (I T 6)=true then -1 else 0))/\
  ((I T 97)=(if jK (I T 0) (S T 1) (I T 2) (I T 3) (S T 4) (I T 5) (I T 6)=true then -1 else 0))/\
  ((I T 100)=(mN (I T 0) (S T 1) (I T 2) (I T 3) (S T 4) (I T 5) (I T 6)))/\
  (B T 44=true->0<=I T 0/\I T 0 < 4)/\
  (B T 17=true->0<=I T 0/\I T 0 < 4):=by
 obtain⟨F0,A0⟩:=A0.cut;obtain⟨F1,A0⟩:=A0.cut;obtain⟨F2,A0⟩:=A0.cut;obtain⟨F3,A0⟩:=A0.cut;obtain⟨F4,A0⟩:=A0.cut;have F5:=A0;clear A0;have bg:((B T 10)=true↔¬Am ((S T 1)) (I T 2) (I T 3) ((S T 4)) (I T 5) (I T 6)=0)/\(Am ((S T 1)) (I T 2) (I T 3) ((S T 4)) (I T 5) (I T 6)=0->(0<=I T 0/\I T 0<=3)->B T 60=false/\B T 72=false/\I T 37=(if jL (I T 0)=true then jJ (I T 3) (I T 6) else 0)/\I T 38=(if jL (I T 0)=true then jJ (I T 6) (I T 3) else 0))/\(Am ((S T 1)) (I T 2) (I T 3) ((S T 4)) (I T 5) (I T 6)=0->¬(0<=I T 0/\I T 0<=3)->B T 60=true/\I T 57=3):=by
  obtain⟨e7,e8,e9,e10,e11,e12,-,e14,e15,e16,-,-,-,-,-,e22,-⟩:=F0;obtain⟨-,-,-,-,-,e28,-,e30,-,e32,-,e34,-,-,e37,e38,-⟩:=F1;obtain⟨e39,-,e41,e42,e43,-,-,-,-,-,e49,-⟩:=F2;obtain⟨e55,-,e57,-,e59,e60,-,-,-,e64,e65,e66,-,e68,e69,e70,-⟩:=F3;obtain⟨-,e72,-⟩:=F4;replace e7:I T 7=(if Am (S T 1) (I T 2) (I T 3) (S T 4) (I T 5) (I T 6)=0 then jJ (I T 3) (I T 6) else 0):=e7;replace e8:I T 8=(if Am (S T 1) (I T 2) (I T 3) (S T 4) (I T 5) (I T 6)=0 then jJ (I T 6) (I T 3) else 0):=e8;replace e9:I T 9=(Am (S T 1) (I T 2) (I T 3) (S T 4) (I T 5) (I T 6)):=e9;simp only[AI,AP,zN,zC,zR,Nk,Nw,and_false,or_false,LW,zL,zS] at e10 e11 e12 e14 e15 e16 e22 e28 e30 e32 e34 e37 e38 e39 e41 e42 e43 e49 e55 e57 e59 e60 e64 e65 e66 e68 e69 e70 e72;have k10:(B T 10)=true↔¬Am ((S T 1)) (I T 2) (I T 3) ((S T 4)) (I T 5) (I T 6)=0:=by rw[e10,e9]
  refine⟨k10,fun hp hc=>?_,fun hp hc=>?_⟩
  .have n10:(B T 10)=false:=by simpa using fun h=>(k10.1 h) hp
   have h11:=e11.2 n10;have n15:¬B T 15=true:=by rw[e15,e12,e14];omega
   have n42:¬B T 42=true:=by rw[e42,e39,e41];omega
   have n16:(B T 16)=false:=by simpa using fun h=>n15 (e16.1 h).2
   have n43:(B T 43)=false:=by simpa using fun h=>n42 (e43.1 h).2
   have x30:(I T 30)=0:=by rw[e30,n16];rfl
   have x57:(I T 57)=0:=by rw[e57,n43];rfl
   have n32:¬B T 32=true:=fun h=>e32.1 h x30;have n59:¬B T 59=true:=fun h=>e59.1 h x57;have n60:(B T 60)=false:=by simpa using fun h=>n59 (e60.1 h).2
   have k22:(B T 22)=true↔jL (I T 0)=true:=by rw[e22,jN];omega
   have k49:(B T 49)=true↔jL (I T 0)=true:=by rw[e49,jN];omega
   have k28:(B T 28)=true↔jL (I T 0)=true:=by rw[e28,n16,k22];simp
   have k55:(B T 55)=true↔jL (I T 0)=true:=by rw[e55,n43,k49];simp
   refine⟨n60,?_⟩;by_cases hb:jL (I T 0)=true
   .have h28:=k28.2 hb;have n34:¬B T 34=true:=by
     rw[e34];rintro (h|h)
     .exact n32 h
     .rw[h28] at h;cases h
    have x37:(I T 37)=jJ (I T 3) (I T 6):=by rw[e37,if_neg n34,e7,if_pos hp]
    have x38:(I T 38)=jJ (I T 6) (I T 3):=by rw[e38,if_neg n34,e8,if_pos hp]
    have x64:(I T 64)=40:=by rw[e64,if_pos (k55.2 hb)]
    have a1:=mH (I T 3) (I T 6);have a2:=mH (I T 6) (I T 3);have h66:(B T 66)=true:=by rw[e66,e65,x37,x38];split<;>omega
    have h69:(B T 69)=true:=by rw[e69,e68,x37,x38,x64];split<;>omega
    have h70:=e70.2 ⟨h66,h69⟩;have n72:(B T 72)=false:=Bool.eq_false_iff.2 fun h=>by have:=(e72.1 h).2;rw[h70] at this;cases this
    exact⟨n72,by rw[if_pos hb];exact x37,by rw[if_pos hb];exact x38⟩
   .have n28:(B T 28)=false:=by simpa using fun h=>hb (k28.1 h)
    have h34:=e34.2 (.inr n28);have x37:(I T 37)=0:=by rw[e37,if_pos h34]
    have x38:(I T 38)=0:=by rw[e38,if_pos h34]
    have x64:(I T 64)=0:=by rw[e64,if_neg (fun h=>hb (k55.1 h))]
    have h66:(B T 66)=true:=by rw[e66,e65,x37,x38];decide
    have h69:(B T 69)=true:=by rw[e69,e68,x37,x38,x64];decide
    have h70:=e70.2 ⟨h66,h69⟩;have n72:(B T 72)=false:=Bool.eq_false_iff.2 fun h=>by have:=(e72.1 h).2;rw[h70] at this;cases this
    exact⟨n72,by rw[if_neg hb];exact x37,by rw[if_neg hb];exact x38⟩
  .have n10:(B T 10)=false:=by simpa using fun h=>(k10.1 h) hp
   have h42:(B T 42)=true:=by rw[e42,e39,e41];omega
   have h43:=e43.2 ⟨e11.2 n10,h42⟩;have x57:(I T 57)=3:=by rw[e57,if_pos h43]
   exact⟨e60.2 ⟨e11.2 n10,e59.2 (by omega)⟩,x57⟩
 obtain⟨-,-,e9,-,-,e12,-,e14,e15,-,e17,-⟩:=F0;obtain⟨e39,-,e41,e42,-,e44,-⟩:=F2;obtain⟨-,-,e73,e74,e75,e76,e77,e78,e79,e80,-,e82,e83,e84,e85,e86,-⟩:=F4;obtain⟨e87,e88,e89,-,e91,e92,e93,e94,e95,e96,e97,-,-,e100,-⟩:=F5;replace e9:I T 9=(Am (S T 1) (I T 2) (I T 3) (S T 4) (I T 5) (I T 6)):=e9;simp only[AI,AP,zN,zR,zL,zS] at e12 e14 e15 e17 e39 e41 e42 e44 e73 e74 e75 e76 e77 e78 e79 e80 e82 e83 e84 e85 e86 e87 e88 e89 e91 e92 e93 e94 e95 e96 e97 e100;refine⟨?_,?_,?_,?_,?_,?_,?_,?_,?_,?_,?_,?_,?_,?_,?_,?_,?_,?_,?_,?_,?_,?_,?_,?_,?_,?_,?_,?_,?_⟩
 .obtain⟨k10,kA,kB⟩:=bg;by_cases hp:Am ((S T 1)) (I T 2) (I T 3) ((S T 4)) (I T 5) (I T 6)=0
  .have n10:¬B T 10=true:=fun h=>k10.1 h hp;by_cases hc:(0<=I T 0/\I T 0<=3)
   .obtain⟨n60,n72,x37,x38⟩:=kA hp hc;rw[e91,if_neg n10,e82,if_neg (by simp[n60]),e73,if_neg (by simp[n72]),if_pos (jI.2 ⟨hp,hc⟩)]
   .obtain⟨h60,x57⟩:=kB hp hc;rw[e91,if_neg n10,e82,if_pos h60,if_neg (fun h=>hc (jI.1 h).2)]
  .rw[e91,if_pos (k10.2 hp),if_neg (fun h=>hp (jI.1 h).1)]
 .first|(rfl)|(grind (splits:=100))
 .first|(rfl)|(grind (splits:=100))
 .obtain⟨k10,kA,kB⟩:=bg;by_cases hp:Am ((S T 1)) (I T 2) (I T 3) ((S T 4)) (I T 5) (I T 6)=0
  .have n10:¬B T 10=true:=fun h=>k10.1 h hp;by_cases hc:(0<=I T 0/\I T 0<=3)
   .obtain⟨n60,n72,x37,x38⟩:=kA hp hc;rw[e92,if_neg n10,e83,if_neg (by simp[n60]),e74,if_neg (by simp[n72]),if_pos (jI.2 ⟨hp,hc⟩)]
   .obtain⟨h60,x57⟩:=kB hp hc;rw[e92,if_neg n10,e83,if_pos h60,if_neg (fun h=>hc (jI.1 h).2)]
  .rw[e92,if_pos (k10.2 hp),if_neg (fun h=>hp (jI.1 h).1)]
 .obtain⟨k10,kA,kB⟩:=bg;by_cases hp:Am ((S T 1)) (I T 2) (I T 3) ((S T 4)) (I T 5) (I T 6)=0
  .have n10:¬B T 10=true:=fun h=>k10.1 h hp;by_cases hc:(0<=I T 0/\I T 0<=3)
   .obtain⟨n60,n72,x37,x38⟩:=kA hp hc;rw[e93,if_neg n10,e84,if_neg (by simp[n60]),e75,if_neg (by simp[n72]),if_pos (jI.2 ⟨hp,hc⟩)]
   .obtain⟨h60,x57⟩:=kB hp hc;rw[e93,if_neg n10,e84,if_pos h60,if_neg (fun h=>hc (jI.1 h).2)]
  .rw[e93,if_pos (k10.2 hp),if_neg (fun h=>hp (jI.1 h).1)]
 .first|(rfl)|(grind (splits:=100))
 .first|(rfl)|(grind (splits:=100))
 .first|(rfl)|(grind (splits:=100))
 .first|(rfl)|(grind (splits:=100))
 .first|(rfl)|(refine jO ?_;grind (splits:=100))
 .first|(rfl)|(refine jO ?_;grind (splits:=100))
 .first|(rfl)|(refine jO ?_;grind (splits:=100))
 .first|(rfl)|(refine jO ?_;grind (splits:=100))
 .first|(rfl)|(refine jO ?_;grind (splits:=100))
 .first|(rfl)|(refine jO ?_;grind (splits:=100))
 .first|(rfl)|(refine jO ?_;grind (splits:=100))
 .first|(rfl)|(refine jO ?_;grind (splits:=100))
 .obtain⟨k10,kA,kB⟩:=bg;by_cases hp:Am ((S T 1)) (I T 2) (I T 3) ((S T 4)) (I T 5) (I T 6)=0
  .have n10:¬B T 10=true:=fun h=>k10.1 h hp;by_cases hc:(0<=I T 0/\I T 0<=3)
   .obtain⟨n60,n72,x37,x38⟩:=kA hp hc;rw[e94,if_neg n10,e85,if_neg (by simp[n60]),e76,if_neg (by simp[n72])];rw[x37];by_cases hb:jL (I T 0)=true
    .rw[if_pos hb,if_pos (jM.2 ⟨⟨hp,hc⟩,jN.1 hb⟩)]
    .rw[if_neg hb,if_neg (fun h=>hb (jN.2 (jM.1 h).2))]
   .obtain⟨h60,x57⟩:=kB hp hc;rw[e94,if_neg n10,e85,if_pos h60,if_neg (fun h=>hc (jM.1 h).1.2)]
  .rw[e94,if_pos (k10.2 hp),if_neg (fun h=>hp (jM.1 h).1.1)]
 .obtain⟨k10,kA,kB⟩:=bg;by_cases hp:Am ((S T 1)) (I T 2) (I T 3) ((S T 4)) (I T 5) (I T 6)=0
  .have n10:¬B T 10=true:=fun h=>k10.1 h hp;by_cases hc:(0<=I T 0/\I T 0<=3)
   .obtain⟨n60,n72,x37,x38⟩:=kA hp hc;rw[e95,if_neg n10,e86,if_neg (by simp[n60]),e77,if_neg (by simp[n72])];rw[x38];by_cases hb:jL (I T 0)=true
    .rw[if_pos hb,if_pos (jM.2 ⟨⟨hp,hc⟩,jN.1 hb⟩)]
    .rw[if_neg hb,if_neg (fun h=>hb (jN.2 (jM.1 h).2))]
   .obtain⟨h60,x57⟩:=kB hp hc;rw[e95,if_neg n10,e86,if_pos h60,if_neg (fun h=>hc (jM.1 h).1.2)]
  .rw[e95,if_pos (k10.2 hp),if_neg (fun h=>hp (jM.1 h).1.1)]
 .first|(rfl)|(refine jO ?_;grind (splits:=100))
 .first|(rfl)|(refine jO ?_;grind (splits:=100))
 .first|(rfl)|(refine jO ?_;grind (splits:=100))
 .first|(rfl)|(grind (splits:=100))
 .first|(rfl)|(grind (splits:=100))
 .obtain⟨k10,kA,kB⟩:=bg;by_cases hp:Am ((S T 1)) (I T 2) (I T 3) ((S T 4)) (I T 5) (I T 6)=0
  .have n10:¬B T 10=true:=fun h=>k10.1 h hp;by_cases hc:(0<=I T 0/\I T 0<=3)
   .obtain⟨n60,n72,x37,x38⟩:=kA hp hc;rw[e96,if_neg n10,e87,if_neg (by simp[n60]),e78,if_neg (by simp[n72]),if_pos (jI.2 ⟨hp,hc⟩)]
   .obtain⟨h60,x57⟩:=kB hp hc;rw[e96,if_neg n10,e87,if_pos h60,if_neg (fun h=>hc (jI.1 h).2)]
  .rw[e96,if_pos (k10.2 hp),if_neg (fun h=>hp (jI.1 h).1)]
 .obtain⟨k10,kA,kB⟩:=bg;by_cases hp:Am ((S T 1)) (I T 2) (I T 3) ((S T 4)) (I T 5) (I T 6)=0
  .have n10:¬B T 10=true:=fun h=>k10.1 h hp;by_cases hc:(0<=I T 0/\I T 0<=3)
   .obtain⟨n60,n72,x37,x38⟩:=kA hp hc;rw[e97,if_neg n10,e88,if_neg (by simp[n60]),e79,if_neg (by simp[n72]),if_pos (jI.2 ⟨hp,hc⟩)]
   .obtain⟨h60,x57⟩:=kB hp hc;rw[e97,if_neg n10,e88,if_pos h60,if_neg (fun h=>hc (jI.1 h).2)]
  .rw[e97,if_pos (k10.2 hp),if_neg (fun h=>hp (jI.1 h).1)]
 .obtain⟨k10,kA,kB⟩:=bg;unfold mN;by_cases hp:Am ((S T 1)) (I T 2) (I T 3) ((S T 4)) (I T 5) (I T 6)=0
  .have n10:¬B T 10=true:=fun h=>k10.1 h hp;rw[if_pos hp];by_cases hc:(0<=I T 0/\I T 0<=3)
   .obtain⟨n60,n72,x37,x38⟩:=kA hp hc;rw[e100,if_neg n10,e89,if_neg (by simp[n60]),e80,if_neg (by simp[n72]),if_pos (kM.2 hc)]
   .obtain⟨h60,x57⟩:=kB hp hc;rw[e100,if_neg n10,e89,if_pos h60,if_neg (fun h=>hc (kM.1 h)),x57]
  .rw[e100,if_pos (k10.2 hp),if_neg hp,e9]
 .intro h;have:=(e44.1 h).2;have n42:¬B T 42=true:=by rw[this];simp
  rw[e42,e39,e41] at n42;omega
 .intro h;have:=(e17.1 h).2;have n15:¬B T 15=true:=by rw[this];simp
  rw[e15,e12,e14] at n15;omega
theorem pN:Ae Try.prog 52 mC:=by
 refine BH (l:=[(28,jZ)]) Bh (by simp only[wJ];exact⟨mg,fun _ h=>absurd h (by simp)⟩) pl (by kernel_rfl) fun T us hpre hT hul hS hBd hE=>?_;change us.length=7 at hul;obtain⟨-,hz1,-,-,hz4,-⟩:=hBd;replace hz1:(S T 1).size<=140737488355328:=hz1;replace hz4:(S T 4).size<=140737488355328:=hz4;have ha0:aI us 0=I T 0:=inI hT hul (by decide);have ha1:aS us 1=S T 1:=inS hT hul (by decide);have ha2:aI us 2=I T 2:=inI hT hul (by decide);have ha3:aI us 3=I T 3:=inI hT hul (by decide);have ha4:aS us 4=S T 4:=inS hT hul (by decide);have ha5:aI us 5=I T 5:=inI hT hul (by decide);have ha6:aI us 6=I T 6:=inI hT hul (by decide);clear hpre
 skip
 obtain⟨A0,hO⟩:=BG (tys:=[.i,.i,.i,.i,.i,.i,.i,.i,.i,.b,.b,.b,.b,.b,.b,.b,.b,.i,.i,.b,.b,.b,.i,.i,.i,.i,.i]) (rs:=oM) hS (by kernel_rfl) hE;obtain⟨q0,q1,q2,q3,q4,q5,q6,q7,q8,q9,q10,q11,q12,q13,q14,q15,q16,q17,q18,q19,q20,q21,q22,q23,q24,q25,q26,r0,r1⟩:=pi hz1 hz4 A0;refine⟨⟨r0,r1,trivial⟩,hO.trans ?_⟩;exact (lc (by show U.int (I T 91)= .int (lw us);unfold lw;rw[ha0,ha1,ha2,ha3,ha4,ha5,ha6];exact congrArg U.int q0) (lc (by show U.int 0= .int (lv us);unfold lv;exact congrArg U.int q1) (lc (by show U.int 0= .int (ln us);unfold ln;exact congrArg U.int q2) (lc (by show U.int (I T 92)= .int (l9 us);unfold l9;rw[ha0,ha1,ha2,ha3,ha4,ha5,ha6];exact congrArg U.int q3) (lc (by show U.int (I T 93)= .int (l8 us);unfold l8;rw[ha0,ha1,ha2,ha3,ha4,ha5,ha6];exact congrArg U.int q4) (lc (by show U.int 0= .int (l6 us);unfold l6;exact congrArg U.int q5) (lc (by show U.int 0= .int (lf us);unfold lf;exact congrArg U.int q6) (lc (by show U.int 0= .int (ly us);unfold ly;exact congrArg U.int q7) (lc (by show U.int 0= .int (lz us);unfold lz;exact congrArg U.int q8) (lc (by show U.bool false= .bool (mA us);unfold mA;exact congrArg U.bool q9) (lc (by show U.bool false= .bool (kX us);unfold kX;exact congrArg U.bool q10) (lc (by show U.bool false= .bool (lK us);unfold lK;exact congrArg U.bool q11) (lc (by show U.bool false= .bool (kR us);unfold kR;exact congrArg U.bool q12) (lc (by show U.bool false= .bool (lI us);unfold lI;exact congrArg U.bool q13) (lc (by show U.bool false= .bool (lA us);unfold lA;exact congrArg U.bool q14) (lc (by show U.bool false= .bool (kY us);unfold kY;exact congrArg U.bool q15) (lc (by show U.bool false= .bool (lY us);unfold lY;exact congrArg U.bool q16) (lc (by show U.int (I T 94)= .int (kZ us);unfold kZ;rw[ha0,ha1,ha2,ha3,ha4,ha5,ha6];exact congrArg U.int q17) (lc (by show U.int (I T 95)= .int (lO us);unfold lO;rw[ha0,ha1,ha2,ha3,ha4,ha5,ha6];exact congrArg U.int q18) (lc (by show U.bool false= .bool (lJ us);unfold lJ;exact congrArg U.bool q19) (lc (by show U.bool false= .bool (kh us);unfold kh;exact congrArg U.bool q20) (lc (by show U.bool false= .bool (lF us);unfold lF;exact congrArg U.bool q21) (lc (by show U.int 0= .int (kU us);unfold kU;exact congrArg U.int q22) (lc (by show U.int 0= .int (lH us);unfold lH;exact congrArg U.int q23) (lc (by show U.int (I T 96)= .int (lX us);unfold lX;rw[ha0,ha1,ha2,ha3,ha4,ha5,ha6];exact congrArg U.int q24) (lc (by show U.int (I T 97)= .int (kV us);unfold kV;rw[ha0,ha1,ha2,ha3,ha4,ha5,ha6];exact congrArg U.int q25) (lc (by show U.int (I T 100)= .int (kS us);unfold kS;rw[ha0,ha1,ha2,ha3,ha4,ha5,ha6];exact congrArg U.int q26) rfl)))))))))))))))))))))))))))
end
end Go.Eng
end
