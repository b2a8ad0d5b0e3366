/-
  A part of the proof: the evaluator of code and its soundness.
-/
import Derived.Test.YtikbgnmcfncnaaaE5
import Derived.Test.YtikbgnmcfncnaaaE4
import Derived.WalkKit
import Derived.Shelf.GgClosure.StringsIndexFuncTop
set_option linter.unusedVariables false
set_option linter.unusedSimpArgs false
noncomputable section
namespace Go.Eng
section
open Go Go.Eng Go.Proofs Go.Shelf Go.RowKit Go.Lib
def Gw:List U->Bool:=fun us=>(EC (aS us 0))
def I9:AV:={ sh:=[.one (.str)],blks:=[],outs:=[(.s "xvname.0",LP Gw)],c:= .b 1,m':=[],pre:=[] }
def ZB:Go.Shelf.Ren:=⟨fun|17=>110|15=>130|20=>142|n=>n,fun|9=>9|23=>159|4=>4|3=>3|0=>0|21=>21|n=>n,fun|n=>n⟩
theorem YR:Go.Proofs.LaysGw.n17 Try.prog ZB:={
 mixed:=by kernel_rfl
 f15:=Try.func130.trans (congrArg some (by kernel_rfl))
 f17:=Try.func110.trans (congrArg some (by kernel_rfl))
 f20:=Try.func142.trans (congrArg some (by kernel_rfl))
 t0:=Try.underlying0
 a0:=Try.isAgg0
 z0:=Try.sizeOf0
 v0:=Try.zeroValue0
 i0:=by kernel_rfl
 t3:=Try.underlying3
 a3:=Try.isAgg3
 z3:=Try.sizeOf3
 v3:=Try.zeroValue3
 i3:=by kernel_rfl
 t4:=Try.underlying4
 a4:=Try.isAgg4
 z4:=Try.sizeOf4
 v4:=Try.zeroValue4
 i4:=by kernel_rfl
 t9:=Try.underlying9
 a9:=Try.isAgg9
 z9:=Try.sizeOf9
 v9:=Try.zeroValue9
 i9:=by kernel_rfl
 t21:=Try.underlying21
 a21:=Try.isAgg21
 z21:=Try.sizeOf21
 v21:=Try.zeroValue21
 i21:=by kernel_rfl
 t23:=Try.underlying159
 a23:=Try.isAgg159
 z23:=Try.sizeOf159
 v23:=Try.zeroValue159
 i23:=by kernel_rfl }
theorem Wd (w:World):PredAt Try.prog 111 #[] encR Ch w:=fun W r _=>by
 unfold FnGives Ch;by_cases h1:97<=r<;>by_cases h2:r<=122<;>by_cases h3:48<=r<;>by_cases h4:r<=57
 all_goals
  have z1:(r:Int) < 97↔r < 97:=by omega
  have z2:(122:Int) < (r:Int)↔122 < r:=by omega
  have z3:(r:Int) < 48↔r < 48:=by omega
  have z4:(57:Int) < (r:Int)↔57 < r:=by omega
  go_enter Try.func111,Try.ntmps111
  go_wp2
  all_goals first|(exfalso;omega)|(go_ret;exact⟨by first|(simp;done)|(simp;omega),0,rfl⟩)
set_option maxHeartbeats 1000000 in
theorem U7 (s:ByteArray)(hs:s.size<=AF)(w:World):Calls Try.prog 83 #[.string s] w fun e w'=>e= .returned (.bool (EC s))/\Below w.heap.size w w':=by
 have hC:=Any.strings_ContainsFunc YR 111 #[] (enters_of Try.func111 (by kernel_rfl) rfl) Ch s w (Wd w);change Calls Try.prog 110 _ _ _ at hC;rw[Yf];obtain⟨d,hd⟩:∃d,decide (0<=Lib.idxFunc Ch true s)=d:=⟨_,rfl⟩;rw[hd] at hC⊢;clear hd;unfold AF at hs;by_cases h1:1<=s.size<;>by_cases h2:s.size<=20
 all_goals
  go_enter Try.func83,Try.ntmps83
  go_wp2_with (go_at_call 110;refine hC.mono ?_;rintro e w' ⟨rfl,hb⟩)
  all_goals (go_ret;exact⟨by simp[h1,h2],by first|exact hb|exact Below.refl _ _⟩)
theorem Ra:Ae Try.prog 83 I9:=by
 refine PZ rfl rfl ⟨Try.f83,Try.func83,by kernel_rfl,by kernel_rfl⟩ fun T us hl hT hp ρ w vs hv=>?_;obtain⟨v,vs',rfl,⟨_,s,hs,rfl,hz⟩,rfl⟩:=hv;have hl1:us.length=1:=hl;refine (U7 s hz w).mono fun e w' ⟨h1,h2⟩=>⟨_,h1,h2,show 1 < 2 by decide,EC s,?_,rfl⟩;have h3:aS us 0=s:=by
  have:=hT 0 us[0] (by unfold AV.us;rw[wE (by omega)];exact vt (by omega));rw[hs] at this;unfold aS;rw[wL,vt (show 0 < us.length by omega),Option.getD_some,<-this];rfl
 have h4:=hT 1 (LP Gw us) (by unfold AV.us;rw[wF (by omega),hl1];rfl);rw[h4];show U.bool (EC (aS us 0))=_;rw[h3]
end
section
open Go Go.Eng Go.Proofs
set_option maxHeartbeats 4000000
set_option maxRecDepth 100000
def EX:List U->Bool:=fun us=>(DC (aS us 0) (aI us 1) (aI us 2))
def Ev:AV:={ sh:=[.agg [.str,k64,k64]],blks:=[],outs:=[(.s "vplayer.0",LP EX)],c:= .b 3,m':=[],pre:=[] }
def So:List En:=[⟨3,.outB "xvname.0" Gw,[.e 0]⟩,
 ⟨4,.id .b,[.e 3]⟩,
 ⟨5,.le,[.c (.int (-10000)),.e 1]⟩,
 ⟨6,.and,[.e 4,.e 5]⟩,
 ⟨7,.le,[.e 1,.c (.int 10000)]⟩,
 ⟨8,.and,[.e 5,.e 7]⟩,
 ⟨9,.and,[.e 3,.e 8]⟩,
 ⟨10,.id .b,[.e 9]⟩,
 ⟨11,.le,[.c (.int (-12)),.e 2]⟩,
 ⟨12,.and,[.e 9,.e 11]⟩,
 ⟨13,.id .b,[.e 12]⟩,
 ⟨14,.le,[.e 2,.c (.int 48)]⟩,
 ⟨15,.and,[.e 12,.e 14]⟩]
def OK:List En:=So
def aY:List ObE:=[]
def SW:List Rf:=[.e 15]
theorem cA:Ev.sees SW (Ev.run Try.prog [(83,I9)] AW 3000 20 82)=some ((OK).map En.be,aY.map ObE.be,[]):=by kernel_rfl
theorem aC {T:Tab}(hz0:(S T 0).size<=140737488355328)(A0:AH T OK):
  ((B T 15)=(DC (S T 0) (I T 1) (I T 2))):=by
 have F0:=A0;clear A0
 .obtain⟨e3,-,e5,-,e7,e8,e9,-,e11,e12,-,e14,e15,-⟩:=F0;replace e3:B T 3=(EC (S T 0)):=e3;simp only[AI,AP,zR] at e5 e7 e8 e9 e11 e12 e14 e15;refine Bool.eq_iff_iff.2 (Iff.trans ?_ Ea.symm);rw[<-e3,e15,e12,e9,e8,e5,e7,e11,e14];constructor
  .rintro⟨⟨⟨h1,h2⟩,h3⟩,h4⟩;exact⟨h1,h2,h3,h4⟩
  .rintro⟨h1,h2,h3,h4⟩;exact⟨⟨⟨h1,h2⟩,h3⟩,h4⟩
theorem QA:Ae Try.prog 82 Ev:=by
 refine BH (l:=[(83,I9)]) Bh (by simp only[wJ];exact⟨Ra,fun _ h=>absurd h (by simp)⟩) cA (by kernel_rfl) fun T us hpre hT hul hS hBd hE=>?_;change us.length=3 at hul;obtain⟨hz0,-⟩:=hBd;replace hz0:(S T 0).size<=140737488355328:=hz0;have ha0:aS us 0=S T 0:=inS hT hul (by decide);have ha1:aI us 1=I T 1:=inI hT hul (by decide);have ha2:aI us 2=I T 2:=inI hT hul (by decide);clear hpre
 skip
 obtain⟨A0,hO⟩:=BG (tys:=[.b]) (rs:=SW) hS (by kernel_rfl) hE;have q0:=aC hz0 A0;refine⟨trivial,hO.trans ?_⟩;exact (lc (by show U.bool (B T 15)= .bool (EX us);unfold EX;rw[ha0,ha1,ha2];exact congrArg U.bool q0) rfl)
def L0:List U->Int:=fun us=>(Am (aS us 0) (aI us 1) (aI us 2) (aS us 3) (aI us 4) (aI us 5))
def M6:AV:={ sh:=[.agg [.str,k64,k64],.agg [.str,k64,k64]],blks:=[],outs:=[(.s "pair.0",Bl L0)],c:=(C4 6),m':=[],pre:=[] }
def YI:List En:=[⟨6,.outB "vplayer.0" EX,[.e 0,.e 1,.e 2]⟩,
 ⟨7,.id .b,[.e 6]⟩,
 ⟨8,.outB "vplayer.0" EX,[.e 3,.e 4,.e 5]⟩,
 ⟨9,.or,[.n 6,.n 8]⟩,
 ⟨10,.not,[.e 9]⟩,
 ⟨11,.eqs [.s],[.e 0,.e 3]⟩,
 ⟨12,.and,[.e 10,.e 11]⟩,
 ⟨13,.and,[.e 10,.n 11]⟩,
 ⟨14,.ite .i,[.e 9,.c (.int 2),.c (.int 12)]⟩,
 ⟨15,.or,[.e 9,.e 12]⟩,
 ⟨16,.ite .i,[.e 15,.e 14,.c (.int 0)]⟩,
 ⟨17,.or,[.e 15,.e 13]⟩]
def Ue:List En:=YI
def hP:List ObE:=[]
def Zl:List Rf:=[.e 16]
theorem gt:M6.sees Zl (M6.run Try.prog [(82,Ev)] AW 3000 20 57)=some ((Ue).map En.be,hP.map ObE.be,[]):=by kernel_rfl
theorem hG {T:Tab}(hz0:(S T 0).size<=140737488355328)(hz3:(S T 3).size<=140737488355328)(A0:AH T Ue):
  ((I T 16)=(Am (S T 0) (I T 1) (I T 2) (S T 3) (I T 4) (I T 5))):=by
 have F0:=A0;clear A0
 .obtain⟨e6,-,e8,e9,e10,e11,e12,-,e14,e15,e16,-⟩:=F0;replace e6:B T 6=(DC (S T 0) (I T 1) (I T 2)):=e6;replace e8:B T 8=(DC (S T 3) (I T 4) (I T 5)):=e8;simp only[AI,AP,zN,zR,EN,and_true,zL,zS] at e9 e10 e11 e12 e14 e15 e16;unfold Am;rw[<-e6,<-e8];clear e6 e8;grind
theorem gE:Ae Try.prog 57 M6:=by
 refine BH (l:=[(82,Ev)]) Bh (by simp only[wJ];exact⟨QA,fun _ h=>absurd h (by simp)⟩) gt (by kernel_rfl) fun T us hpre hT hul hS hBd hE=>?_;change us.length=6 at hul;obtain⟨hz0,-,-,hz3,-⟩:=hBd;replace hz0:(S T 0).size<=140737488355328:=hz0;replace hz3:(S T 3).size<=140737488355328:=hz3;have ha0:aS us 0=S T 0:=inS hT hul (by decide);have ha1:aI us 1=I T 1:=inI hT hul (by decide);have ha2:aI us 2=I T 2:=inI hT hul (by decide);have ha3:aS us 3=S T 3:=inS hT hul (by decide);have ha4:aI us 4=I T 4:=inI hT hul (by decide);have ha5:aI us 5=I T 5:=inI hT hul (by decide);clear hpre
 skip
 obtain⟨A0,hO⟩:=BG (tys:=[.i]) (rs:=Zl) hS (by kernel_rfl) hE;have q0:=hG hz0 hz3 A0;refine⟨trivial,hO.trans ?_⟩;exact (lc (by show U.int (I T 16)= .int (L0 us);unfold L0;rw[ha0,ha1,ha2,ha3,ha4,ha5];exact congrArg U.int q0) rfl)
def JJ:List U->Int:=fun us=>(Ar (aI us 0) (aI us 1) (aB us 2))
def HK:List U->Prop:=fun us=> -10000<=(aI us 0)/\(aI us 0)<=10000/\ -10000<=(aI us 1)/\(aI us 1)<=10000
def Hr:AV:={ sh:=[.one (k64),.one (k64),.one (.bool)],blks:=[],outs:=[(.s "gain.0",Bl JJ)],c:=(C4 3),m':=[],pre:=[(.s "gain.p0",HK)] }
def YV:List En:=[⟨3,.not,[.e 2]⟩,
 ⟨4,.lt,[.e 0,.e 1]⟩,
 ⟨5,.and,[.e 2,.e 4]⟩,
 ⟨6,.w2 .i64 .sub,[.e 1,.e 0]⟩,
 ⟨7,.o2 .tdiv,[.e 6,.c (.int 100)]⟩,
 ⟨8,.o2 .min,[.e 7,.c (.int 19)]⟩,
 ⟨9,.pick .i,[.e 8,.c (.int 10),.c (.int 9),.c (.int 8),.c (.int 7),.c (.int 6),.c (.int 6),.c (.int 5),.c (.int 5),.c (.int 4),.c (.int 4),.c (.int 3),.c (.int 3),.c (.int 3),.c (.int 2),.c (.int 2),.c (.int 2),.c (.int 1),.c (.int 1),.c (.int 1),.c (.int 1)]⟩,
 ⟨10,.o2 .sub,[.c (.int 20),.e 9]⟩,
 ⟨11,.and,[.e 2,.n 4]⟩,
 ⟨12,.w2 .i64 .sub,[.e 0,.e 1]⟩,
 ⟨13,.o2 .tdiv,[.e 12,.c (.int 100)]⟩,
 ⟨14,.o2 .min,[.e 13,.c (.int 19)]⟩,
 ⟨15,.pick .i,[.e 14,.c (.int 10),.c (.int 9),.c (.int 8),.c (.int 7),.c (.int 6),.c (.int 6),.c (.int 5),.c (.int 5),.c (.int 4),.c (.int 4),.c (.int 3),.c (.int 3),.c (.int 3),.c (.int 2),.c (.int 2),.c (.int 2),.c (.int 1),.c (.int 1),.c (.int 1),.c (.int 1)]⟩,
 ⟨16,.ite .i,[.e 5,.e 10,.e 15]⟩,
 ⟨17,.or,[.e 5,.e 11]⟩,
 ⟨18,.ite .i,[.e 3,.c (.int 10),.e 16]⟩]
def Xs:List En:=[⟨19,.or,[.e 3,.e 17]⟩]
def Vg:List En:=YV++(Xs)
def ig:List ObE:=[⟨some 11,.inr,[.e 14,.c (.int 20)]⟩,
 ⟨some 5,.inr,[.e 8,.c (.int 20)]⟩]
def ax:List Rf:=[.e 18]
theorem gv:Hr.sees ax (Hr.run Try.prog [] AW 3000 20 60)=some ((Vg).map En.be,ig.map ObE.be,[]):=by kernel_rfl
theorem iJ {T:Tab}(pre0: -10000<=I T 0/\I T 0<=10000/\ -10000<=I T 1/\I T 1<=10000)(A0:AH T Vg):
  ((I T 18)=(Ar (I T 0) (I T 1) (B T 2)))/\
  (B T 11=true->0<=I T 14/\I T 14 < 20)/\
  (B T 5=true->0<=I T 8/\I T 8 < 20):=by
 obtain⟨F0,A0⟩:=A0.cut;have F1:=A0;clear A0;refine⟨?_,?_,?_⟩
 .obtain⟨e3,e4,e5,e6,e7,e8,e9,e10,-,e12,e13,e14,e15,e16,-,e18,-⟩:=F0;simp only[AI,AP,zR,Nk,Nw,and_false,or_false,LW,w2P,zL,zS] at e3 e4 e5 e6 e7 e8 e9 e10 e12 e13 e14 e15 e16 e18;obtain⟨p1,p2,p3,p4⟩:=pre0;unfold Ar;by_cases hl:(B T 2)=true
  .have h3:¬B T 3=true:=fun a=>(e3.1 a) hl;rw[e18,if_neg h3,if_pos hl];by_cases hlt:(I T 0) < I T 1
   .have h5:=e5.2 ⟨hl,e4.2 hlt⟩;have x6:=e6 (by omega) (by omega);have x8:(I T 8)=min (((I T 1) - (I T 0)) / 100) 19:=by
     have x7:(I T 7)=(I T 6) / 100:=by rw[e7,if_pos (by omega)]
     rw[e8];split<;>omega
    have x9:(I T 9)=D8 Da (I T 8):=by
     simp only[D8,Da];exact e9
    rw[e16,if_pos h5,e10,if_pos hlt,<-x8,x9]
   .have h5:¬B T 5=true:=fun a=>hlt (e4.1 (e5.1 a).2);have x12:=e12 (by omega) (by omega);have x14:(I T 14)=min (((I T 0) - (I T 1)) / 100) 19:=by
     have x13:(I T 13)=(I T 12) / 100:=by rw[e13,if_pos (by omega)]
     rw[e14];split<;>omega
    have x15:(I T 15)=D8 Da (I T 14):=by
     simp only[D8,Da];exact e15
    rw[e16,if_neg h5,if_neg hlt,<-x14,x15]
  .rw[e18,if_pos (e3.2 hl),if_neg hl]
 .obtain⟨-,e4,-,-,-,-,-,-,e11,e12,e13,e14,-⟩:=F0;simp only[AI,AP,zN,zR,LW,w2P] at e4 e11 e12 e13 e14;intro h;obtain⟨p1,p2,p3,p4⟩:=pre0;have h1:=e11.1 h;have hlt:¬I T 0 < I T 1:=fun a=>by
   have:=e4.2 a;simp[this] at h1
  have x12:=e12 (by omega) (by omega);have x13:(I T 13)=(I T 12) / 100:=by rw[e13,if_pos (by omega)]
  rw[e14];split<;>omega
 .obtain⟨-,e4,e5,e6,e7,e8,-⟩:=F0;simp only[AI,AP,zR,LW,w2P] at e4 e5 e6 e7 e8;intro h;obtain⟨p1,p2,p3,p4⟩:=pre0;have hlt:=e4.1 (e5.1 h).2;have x6:=e6 (by omega) (by omega);have x7:(I T 7)=(I T 6) / 100:=by rw[e7,if_pos (by omega)]
  rw[e8];split<;>omega
theorem W9:Ae Try.prog 60 Hr:=by
 refine BH (l:=[]) Bh (by intro p h;exact absurd h (by simp)) gv (by kernel_rfl) fun T us hpre hT hul hS hBd hE=>?_;change us.length=3 at hul;clear hBd;have ha0:aI us 0=I T 0:=inI hT hul (by decide);have ha1:aI us 1=I T 1:=inI hT hul (by decide);have ha2:aB us 2=B T 2:=inB hT hul (by decide);have pre0: -10000<=I T 0/\I T 0<=10000/\ -10000<=I T 1/\I T 1<=10000:=by
  have h:=hpre (.s "gain.p0",HK) (by simp[Hr]);change HK us at h;unfold HK at h;simp only[ha0,ha1] at h;exact h
 clear hpre
 skip
 obtain⟨A0,hO⟩:=BG (tys:=[.i]) (rs:=ax) hS (by kernel_rfl) hE;obtain⟨q0,r0,r1⟩:=iJ pre0 A0;refine⟨⟨r0,r1,trivial⟩,hO.trans ?_⟩;exact (lc (by show U.int (I T 18)= .int (JJ us);unfold JJ;rw[ha0,ha1,ha2];exact congrArg U.int q0) rfl)
def HL:List U->Int:=fun us=>(BU (aI us 0))
def Ft:List U->Prop:=fun us=> -100<=(aI us 0)/\(aI us 0)<=100
def Hp:AV:={ sh:=[.one (k64)],blks:=[],outs:=[(.s "trig.0",Bl HL)],c:=(C4 1),m':=[],pre:=[(.s "trig.p0",Ft)] }
def Yc:List En:=[⟨1,.le,[.e 0,.c (.int 0)]⟩,
 ⟨2,.not,[.e 1]⟩,
 ⟨3,.ite .i,[.e 1,.c (.int 40),.c (.int 50)]⟩,
 ⟨4,.w2 .i64 .mul,[.e 3,.e 0]⟩,
 ⟨5,.w2 .i64 .sub,[.c (.int 2000),.e 4]⟩]
def VR:List En:=Yc
def iO:List ObE:=[]
def bz:List Rf:=[.e 5]
theorem gy:Hp.sees bz (Hp.run Try.prog [] AW 3000 20 69)=some ((VR).map En.be,iO.map ObE.be,[]):=by kernel_rfl
theorem gz {T:Tab}(pre0: -100<=I T 0/\I T 0<=100)(A0:AH T VR):
  ((I T 5)=(BU (I T 0))):=by
 have F0:=A0;clear A0
 .obtain⟨e1,-,e3,e4,e5,-⟩:=F0;simp only[AI,AP,zR,w2P,zL,zS] at e1 e3 e4 e5;unfold BU;have x3:=e3;by_cases h:(I T 0)<=0
  .rw[if_pos (e1.2 h)] at x3;rw[x3] at e4;have x4:=e4 (by omega) (by omega);have x5:=e5 (by omega) (by omega);rw[if_pos h];omega
  .rw[if_neg (fun a=>h (e1.1 a))] at x3;rw[x3] at e4;have x4:=e4 (by omega) (by omega);have x5:=e5 (by omega) (by omega);rw[if_neg h];omega
theorem XL:Ae Try.prog 69 Hp:=by
 refine BH (l:=[]) Bh (by intro p h;exact absurd h (by simp)) gy (by kernel_rfl) fun T us hpre hT hul hS hBd hE=>?_;change us.length=1 at hul;clear hBd;have ha0:aI us 0=I T 0:=inI hT hul (by decide);have pre0: -100<=I T 0/\I T 0<=100:=by
  have h:=hpre (.s "trig.p0",Ft) (by simp[Hp]);change Ft us at h;unfold Ft at h;simp only[ha0] at h;exact h
 clear hpre
 skip
 obtain⟨A0,hO⟩:=BG (tys:=[.i]) (rs:=bz) hS (by kernel_rfl) hE;have q0:=gz pre0 A0;refine⟨trivial,hO.trans ?_⟩;exact (lc (by show U.int (I T 5)= .int (HL us);unfold HL;rw[ha0];exact congrArg U.int q0) rfl)
def JM:List U->Int:=fun us=>(Ax (aI us 2) (aI us 0))
def Jc:List U->Int:=fun us=>(CT (Ax (aI us 2) (aI us 0)) (aI us 3))
def HE:List U->Prop:=fun us=> -10000<=(aI us 2)/\(aI us 2)<=10000/\ -12<=(aI us 3)/\(aI us 3)<=48/\ -100<=(aI us 0)/\(aI us 0)<=100
def IF:AV:={ sh:=[.ptr 0 0,.one (k64)],blks:=[([.str,k64,k64],23)],outs:=[(.s "move.0",Bl JM),(.s "move.1",Bl Jc)],c:= .tup [],m':=[.cells [.s 1,(C4 4),(C4 5)] 23],pre:=[(.s "move.p0",HE)] }
def X1:List En:=[⟨4,.w2 .i64 .add,[.e 2,.e 0]⟩,
 ⟨5,.o2 .max,[.e 4,.c (.int (-10000))]⟩,
 ⟨6,.o2 .min,[.e 5,.c (.int 10000)]⟩]
def HG:List En:=X1
def Xw:List En:=[⟨8,.lt,[.c (.int (-12)),.e 7]⟩,
 ⟨9,.id .b,[.e 8]⟩,
 ⟨10,.id .b,[.e 8]⟩,
 ⟨11,.w2 .i64 .sub,[.e 7,.c (.int 1)]⟩,
 ⟨12,.outI "trig.0" HL,[.e 11]⟩,
 ⟨13,.le,[.e 12,.e 6]⟩,
 ⟨14,.and,[.e 8,.e 13]⟩,
 ⟨15,.not,[.e 14]⟩,
 ⟨16,.w2 .i64 .sub,[.e 7,.c (.int 1)]⟩]
def D9:List En:=Xw
def VP:List ObE:=[⟨some 10,.pre "trig.p0" Ft,[.e 11]⟩]
def L7:Ag:=mkD 7 1 D9 14 [.e 16] VP [6]
def Or:List Rf:=[.e 6,.e 3]
def UG:List En:=[]
def YS:List En:=[⟨18,.lt,[.e 17,.c (.int 48)]⟩,
 ⟨19,.and,[.e 15,.e 18]⟩,
 ⟨20,.and,[.e 15,.e 18]⟩,
 ⟨21,.w2 .i64 .add,[.e 17,.c (.int 1)]⟩,
 ⟨22,.outI "trig.0" HL,[.e 21]⟩,
 ⟨23,.le,[.e 6,.e 22]⟩,
 ⟨24,.and,[.e 18,.e 23]⟩,
 ⟨25,.and,[.e 15,.e 24]⟩,
 ⟨26,.and,[.e 15,.n 24]⟩,
 ⟨27,.w2 .i64 .add,[.e 17,.c (.int 1)]⟩]
def Fx:List En:=YS
def VZ:List ObE:=[⟨some 20,.pre "trig.p0" Ft,[.e 21]⟩]
def LN:Ag:=mkD 17 1 Fx 25 [.e 27] VZ [15,6]
def PL:List Rf:=[.e 15,.e 6,.e 7]
def dX:List En:=[]
def hM:List ObE:=[⟨some 15,.owes LN,[.e 15,.e 6,.e 7]⟩,
 ⟨none,.owes L7,[.e 6,.e 3]⟩]
def bK:List Rf:=[.e 6,.e 17]
theorem iZ:IF.sees bK (IF.run Try.prog [(69,Hp)] AW 3000 20 98)=some ((HG++((BS L7 [.i] Or)++(D9++(UG++((BS LN [.i] PL)++(Fx++(dX))))))).map En.be,hM.map ObE.be,[]):=by kernel_rfl
theorem bv {T:Tab}(hz1:(S T 1).size<=140737488355328)(pre0: -10000<=I T 2/\I T 2<=10000/\ -12<=I T 3/\I T 3<=48/\ -100<=I T 0/\I T 0<=100)(A0:AH T HG):
  (-12<=I T 3/\I T 3<=48):=by
 have F0:=A0;clear A0;have hgr: -12<=I T 3/\I T 3<=48:=by
  exact⟨pre0.2.2.1,pre0.2.2.2.1⟩
 exact hgr
theorem eH {T:Tab}(hgr: -12<=I T 3/\I T 3<=48)(hS:AK T (Ab (BK 0 IF.ks) HG))(hB:Ac T (D9.map En.be))(hH:Ac T ((BS L7 [.i] Or).map En.be)):
  (L7).owes (Or.map (Rf.eval T))/\AK T (hds 7 [.i])/\(-12<=I T 7/\I T 7<=48/\BX (I T 6) (I T 7)=BX (I T 6) (I T 3))/\¬B T 14=true:=by
 refine CK (nh:=7) (k:=1) (pcn:=14) (top:=17) (bes:=D9) (bos:=VP) (nxt:=[.e 16]) (inits:=[.e 3]) (fv:=[6]) (tys:=[.i]) (by kernel_rfl) rfl rfl rfl rfl hS (by kernel_rfl) (by kernel_rfl) hB (BV hH) (fun s=> -12<=(aI s 0)/\(aI s 0)<=48/\BX (I T 6) (aI s 0)=BX (I T 6) (I T 3)) (fun s=>((aI s 0)+12).toNat) ?_ ?_
 .show -12<=I T 3/\I T 3<=48/\BX (I T 6) (I T 3)=BX (I T 6) (I T 3);clear hS hB hH;exact⟨hgr.1,hgr.2,rfl⟩
 .intro T2 hfv hF inv;replace inv: -12<=I T2 7/\I T2 7<=48/\BX (I T 6) (I T2 7)=BX (I T 6) (I T 3):=inv;clear hS hB hH;replace hF:AH T2 D9:=hF;have F0:=hF;clear hF;have fv6:I T2 6=I T 6:=fvI (hfv 6 (by decide));clear hfv
  suffices hz:(B T2 10=true-> -100<=I T2 11/\I T2 11<=100)/\(B T2 14=true->(-12<=I T2 16/\I T2 16<=48/\BX (I T 6) (I T2 16)=BX (I T 6) (I T 3)))/\(B T2 14=true->((I T2 16)+12).toNat < ((I T2 7)+12).toNat) from
   let⟨r0,nx,mz⟩:=hz;⟨⟨r0,trivial⟩,fun hp=>⟨nx hp,mz hp⟩⟩
  refine⟨?_,?_,?_⟩
  .obtain⟨-,-,-,e11,-⟩:=F0;simp only[AI,zR,w2P] at e11;obtain⟨v1,v2,v3⟩:=inv;intro hp;have x11:=e11 (by omega) (by omega);omega
  .obtain⟨e8,-,-,e11,e12,e13,e14,-,e16,-⟩:=F0;replace e12:I T2 12=(BU (I T2 11)):=e12;simp only[AI,AP,zR,w2P] at e8 e11 e13 e14 e16;obtain⟨v1,v2,v3⟩:=inv;intro hp;have h14:=e14.1 hp;have h8:=e8.1 h14.1;have h13:=e13.1 h14.2;have x11:=e11 (by omega) (by omega);have x16:=e16 (by omega) (by omega);rw[e12,x11,fv6] at h13;refine⟨by omega,by omega,?_⟩;rw[x16,<-v3];exact (Rz h8 h13).symm
  .obtain⟨e8,-,-,-,-,-,e14,-,e16,-⟩:=F0;simp only[AI,AP,zR,w2P] at e8 e14 e16;obtain⟨v1,v2,v3⟩:=inv;intro hp;have h8:=e8.1 (e14.1 hp).1;have x16:=e16 (by omega) (by omega);omega
theorem ZT {T:Tab}(hz1:(S T 1).size<=140737488355328)(pre0: -10000<=I T 2/\I T 2<=10000/\ -12<=I T 3/\I T 3<=48/\ -100<=I T 0/\I T 0<=100)(hgr: -12<=I T 3/\I T 3<=48)(inv0: -12<=I T 7/\I T 7<=48/\BX (I T 6) (I T 7)=BX (I T 6) (I T 3))(np0:¬B T 14=true)(A0:AH T HG)(B0:AH T D9):
  (-12<=I T 7/\I T 7<=48):=by
 have F0:=A0;clear A0;have F1:=B0;clear B0;have hg1: -12<=I T 7/\I T 7<=48:=by
  exact⟨inv0.1,inv0.2.1⟩
 exact hg1
theorem eh {T:Tab}(hg1: -12<=I T 7/\I T 7<=48)(hS:AK T (Ab (Ab (hds 7 [.i]++(Ab (BK 0 IF.ks) HG)) D9) UG))(hB:Ac T (Fx.map En.be))(hH:Ac T ((BS LN [.i] PL).map En.be)):
  (LN).owes (PL.map (Rf.eval T))/\AK T (hds 17 [.i])/\(-12<=I T 17/\I T 17<=48/\upG (I T 6) (I T 17)=upG (I T 6) (I T 7))/\¬B T 25=true:=by
 refine CK (nh:=17) (k:=1) (pcn:=25) (top:=28) (bes:=Fx) (bos:=VZ) (nxt:=[.e 27]) (inits:=[.e 7]) (fv:=[15,6]) (tys:=[.i]) (by kernel_rfl) rfl rfl rfl rfl hS (by kernel_rfl) (by kernel_rfl) hB (BV hH) (fun s=> -12<=(aI s 0)/\(aI s 0)<=48/\upG (I T 6) (aI s 0)=upG (I T 6) (I T 7)) (fun s=>(48 - (aI s 0)).toNat) ?_ ?_
 .show -12<=I T 7/\I T 7<=48/\upG (I T 6) (I T 7)=upG (I T 6) (I T 7);clear hS hB hH;exact⟨hg1.1,hg1.2,rfl⟩
 .intro T2 hfv hF inv;replace inv: -12<=I T2 17/\I T2 17<=48/\upG (I T 6) (I T2 17)=upG (I T 6) (I T 7):=inv;clear hS hB hH;replace hF:AH T2 Fx:=hF;have F0:=hF;clear hF;have fv15:B T2 15=B T 15:=fvB (hfv 15 (by decide));have fv6:I T2 6=I T 6:=fvI (hfv 6 (by decide));clear hfv
  suffices hz:(B T2 20=true-> -100<=I T2 21/\I T2 21<=100)/\(B T2 25=true->(-12<=I T2 27/\I T2 27<=48/\upG (I T 6) (I T2 27)=upG (I T 6) (I T 7)))/\(B T2 25=true->(48 - (I T2 27)).toNat < (48 - (I T2 17)).toNat) from
   let⟨r0,nx,mz⟩:=hz;⟨⟨r0,trivial⟩,fun hp=>⟨nx hp,mz hp⟩⟩
  refine⟨?_,?_,?_⟩
  .obtain⟨-,-,-,e21,-⟩:=F0;simp only[AI,zR,w2P] at e21;obtain⟨v1,v2,v3⟩:=inv;intro hp;have x21:=e21 (by omega) (by omega);omega
  .obtain⟨e18,-,-,e21,e22,e23,e24,e25,-,e27,-⟩:=F0;replace e22:I T2 22=(BU (I T2 21)):=e22;simp only[AI,AP,zR,w2P] at e18 e21 e23 e24 e25 e27;obtain⟨v1,v2,v3⟩:=inv;intro hp;have h24:=e24.1 (e25.1 hp).2;have h18:=e18.1 h24.1;have h23:=e23.1 h24.2;have x21:=e21 (by omega) (by omega);have x27:=e27 (by omega) (by omega);rw[e22,x21,fv6] at h23;refine⟨by omega,by omega,?_⟩;rw[x27,<-v3];exact (Q5 h18 h23).symm
  .obtain⟨e18,-,-,-,-,-,e24,e25,-,e27,-⟩:=F0;simp only[AI,AP,zR,w2P] at e18 e24 e25 e27;obtain⟨v1,v2,v3⟩:=inv;intro hp;have h18:=e18.1 (e24.1 (e25.1 hp).2).1;have x27:=e27 (by omega) (by omega);omega
theorem iK {T:Tab}(hz1:(S T 1).size<=140737488355328)(pre0: -10000<=I T 2/\I T 2<=10000/\ -12<=I T 3/\I T 3<=48/\ -100<=I T 0/\I T 0<=100)(hgr: -12<=I T 3/\I T 3<=48)(inv0: -12<=I T 7/\I T 7<=48/\BX (I T 6) (I T 7)=BX (I T 6) (I T 3))(np0:¬B T 14=true)(hg1: -12<=I T 7/\I T 7<=48)(inv1: -12<=I T 17/\I T 17<=48/\upG (I T 6) (I T 17)=upG (I T 6) (I T 7))(np1:¬B T 25=true)(A0:AH T HG)(B0:AH T D9)(B1:AH T Fx):
  ((I T 6)=(Ax (I T 2) (I T 0)))/\
  ((I T 17)=(CT (Ax (I T 2) (I T 0)) (I T 3))):=by
 have F0:=A0;clear A0;have F1:=B0;clear B0;have F2:=B1;clear B1;refine⟨?_,?_⟩
 .obtain⟨e4,e5,e6,-⟩:=F0;simp only[AI,zR,LW,w2P] at e4 e5 e6;obtain⟨p1,p2,p3,p4,p5,p6⟩:=pre0;have x4:=e4 (by omega) (by omega);have hx:(I T 6)=Ax (I T 2) (I T 0):=by
   unfold Ax;rw[e6,e5,x4];omega
  exact hx
 .obtain⟨e4,e5,e6,-⟩:=F0;obtain⟨e8,-,-,e11,e12,e13,e14,e15,-⟩:=F1;obtain⟨e18,-,-,e21,e22,e23,e24,e25,-⟩:=F2;replace e12:I T 12=(BU (I T 11)):=e12;replace e22:I T 22=(BU (I T 21)):=e22;simp only[AI,AP,zR,LW,w2P] at e4 e5 e6 e8 e11 e13 e14 e15 e18 e21 e23 e24 e25;obtain⟨p1,p2,p3,p4,p5,p6⟩:=pre0;have x4:=e4 (by omega) (by omega);have hx:(I T 6)=Ax (I T 2) (I T 0):=by
   unfold Ax;rw[e6,e5,x4];omega
  obtain⟨v1,v2,v3⟩:=inv0;obtain⟨w1,w2,w3⟩:=inv1;rw[<-hx];unfold CT;have hd:BX (I T 6) (I T 3)=I T 7:=by
   rw[<-v3];refine J2 fun a=>?_;have h8:=e8.2 a.1;have x11:=e11 (by omega) (by omega);have h13:(B T 13)=true:=e13.2 (by rw[e12,x11];exact a.2);exact np0 (e14.2 ⟨h8,h13⟩)
  rw[hd,<-w3];refine (Kr fun a=>?_).symm;have h18:=e18.2 a.1;have x21:=e21 (by omega) (by omega);have h23:(B T 23)=true:=e23.2 (by rw[e22,x21];exact a.2);have h15:(B T 15)=true:=e15.2 np0;exact np1 (e25.2 ⟨h15,e24.2 ⟨h18,h23⟩⟩)
theorem gM:Ae Try.prog 98 IF:=by
 refine BH (l:=[(69,Hp)]) Bh (by simp only[wJ];exact⟨XL,fun _ h=>absurd h (by simp)⟩) iZ (by kernel_rfl) fun T us hpre hT hul hS hBd hE=>?_;change us.length=4 at hul;obtain⟨-,hz1,-⟩:=hBd;replace hz1:(S T 1).size<=140737488355328:=hz1;have ha0:aI us 0=I T 0:=inI hT hul (by decide);have ha2:aI us 2=I T 2:=inI hT hul (by decide);have ha3:aI us 3=I T 3:=inI hT hul (by decide);have pre0: -10000<=I T 2/\I T 2<=10000/\ -12<=I T 3/\I T 3<=48/\ -100<=I T 0/\I T 0<=100:=by
  have h:=hpre (.s "move.p0",HE) (by simp[IF]);change HE us at h;unfold HE at h;simp only[ha0,ha2,ha3] at h;exact h
 clear hpre;rw[v7,v7,v7,v7,v7,v7] at hE;have hA:=hE.left;replace hE:=hE.right;have hH:=hE.left;replace hE:=hE.right;have hB:=hE.left;replace hE:=hE.right;obtain⟨A0,hS1⟩:=Ai hS (by kernel_rfl) hA;have hgr:=bv hz1 pre0 A0;obtain⟨ow0,hS2,inv0,np0⟩:=eH hgr hS1 hB hH;have hF2:=(Ai (hS2.append hS1) (l:=D9) (by kernel_rfl) hB);obtain⟨B0,hS⟩:=hF2;clear hA hB hH hS1 hS2;have hA:=hE.left;replace hE:=hE.right;have hH:=hE.left;replace hE:=hE.right;have hB:=hE.left;replace hE:=hE.right;obtain⟨A1,hS1⟩:=Ai hS (by kernel_rfl) hA;have hg1:=ZT hz1 pre0 hgr inv0 np0 A0 B0;obtain⟨ow1,hS2,inv1,np1⟩:=eh hg1 hS1 hB hH;have hF2:=(Ai (hS2.append hS1) (l:=Fx) (by kernel_rfl) hB);obtain⟨B1,hS⟩:=hF2;clear hA hB hH hS1 hS2;obtain⟨A2,hO⟩:=BG (tys:=[.i,.i]) (rs:=bK) hS (by kernel_rfl) hE;obtain⟨q0,q1⟩:=iK hz1 pre0 hgr inv0 np0 hg1 inv1 np1 A0 B0 B1;refine⟨⟨(fun _=>ow1),(fun _=>ow0),trivial⟩,hO.trans ?_⟩;exact (lc (by show U.int (I T 6)= .int (JM us);unfold JM;rw[ha0,ha2];exact congrArg U.int q0) (lc (by show U.int (I T 17)= .int (Jc us);unfold Jc;rw[ha0,ha2,ha3];exact congrArg U.int q1) rfl))
def GZ:List U->ByteArray:=fun us=>(if Am (aS us 0) (aI us 1) (aI us 2) (aS us 3) (aI us 4) (aI us 5)=0 then (aS us 0) else (⟨#[]⟩:ByteArray))
def GW:List U->Int:=fun us=>(if Am (aS us 0) (aI us 1) (aI us 2) (aS us 3) (aI us 4) (aI us 5)=0 then Ax (aI us 1) (Ar (aI us 1) (aI us 4) (aB us 6)) else 0)
def GL:List U->Int:=fun us=>(if Am (aS us 0) (aI us 1) (aI us 2) (aS us 3) (aI us 4) (aI us 5)=0 then CT (Ax (aI us 1) (Ar (aI us 1) (aI us 4) (aB us 6))) (aI us 2) else 0)
def GM:List U->ByteArray:=fun us=>(if Am (aS us 0) (aI us 1) (aI us 2) (aS us 3) (aI us 4) (aI us 5)=0 then (aS us 3) else (⟨#[]⟩:ByteArray))
def GK:List U->Int:=fun us=>(if Am (aS us 0) (aI us 1) (aI us 2) (aS us 3) (aI us 4) (aI us 5)=0 then Ax (aI us 4) (-(Ar (aI us 1) (aI us 4) (aB us 6))) else 0)
def GQ:List U->Int:=fun us=>(if Am (aS us 0) (aI us 1) (aI us 2) (aS us 3) (aI us 4) (aI us 5)=0 then CT (Ax (aI us 4) (-(Ar (aI us 1) (aI us 4) (aB us 6)))) (aI us 5) else 0)
def GS:List U->Int:=fun us=>(Am (aS us 0) (aI us 1) (aI us 2) (aS us 3) (aI us 4) (aI us 5))
def FC:AV:={ sh:=[.agg [.str,k64,k64],.agg [.str,k64,k64],.one (.bool)],blks:=[],outs:=[(.s "Count.0",Xn GZ),(.s "Count.1",Bl GW),(.s "Count.2",Bl GL),(.s "Count.3",Xn GM),(.s "Count.4",Bl GK),(.s "Count.5",Bl GQ),(.s "Count.6",Bl GS)],c:= .tup [.agg [.s 7,(C4 8),(C4 9)],.agg [.s 10,(C4 11),(C4 12)],(C4 13)],m':=[],pre:=[] }
def Wf:List En:=[⟨7,.outI "pair.0" L0,[.e 0,.e 1,.e 2,.e 3,.e 4,.e 5]⟩,
 ⟨8,.ne,[.e 7,.c (.int 0)]⟩,
 ⟨9,.not,[.e 8]⟩,
 ⟨10,.outI "gain.0" JJ,[.e 1,.e 4,.e 6]⟩,
 ⟨11,.outI "move.0" JM,[.e 10,.e 0,.e 1,.e 2]⟩,
 ⟨12,.outI "move.1" Jc,[.e 10,.e 0,.e 1,.e 2]⟩,
 ⟨13,.wneg .i64,[.e 10]⟩,
 ⟨14,.outI "move.0" JM,[.e 13,.e 3,.e 4,.e 5]⟩,
 ⟨15,.outI "move.1" Jc,[.e 13,.e 3,.e 4,.e 5]⟩,
 ⟨16,.ite .i,[.e 8,.e 1,.e 11]⟩,
 ⟨17,.ite .i,[.e 8,.e 2,.e 12]⟩,
 ⟨18,.ite .i,[.e 8,.e 4,.e 14]⟩,
 ⟨19,.ite .i,[.e 8,.e 5,.e 15]⟩,
 ⟨20,.ite .s,[.e 8,.c (.str ⟨#[]⟩),.e 0]⟩,
 ⟨21,.ite .i,[.e 8,.c (.int 0),.e 11]⟩,
 ⟨22,.ite .i,[.e 8,.c (.int 0),.e 12]⟩]
def Wi:List En:=[⟨23,.ite .s,[.e 8,.c (.str ⟨#[]⟩),.e 3]⟩,
 ⟨24,.ite .i,[.e 8,.c (.int 0),.e 14]⟩,
 ⟨25,.ite .i,[.e 8,.c (.int 0),.e 15]⟩,
 ⟨26,.ite .i,[.e 8,.e 7,.c (.int 0)]⟩,
 ⟨27,.or,[.e 8,.e 9]⟩]
def SM:List En:=Wf++(Wi)
def fX:List ObE:=[⟨some 9,.pre "move.p0" HE,[.e 13,.e 3,.e 4,.e 5]⟩,
 ⟨some 9,.pre "move.p0" HE,[.e 10,.e 0,.e 1,.e 2]⟩,
 ⟨some 9,.pre "gain.p0" HK,[.e 1,.e 4,.e 6]⟩]
def W8:List Rf:=[.e 20,.e 21,.e 22,.e 23,.e 24,.e 25,.e 26]
theorem fU:FC.sees W8 (FC.run Try.prog [(57,M6),(60,Hr),(98,IF)] AW 3000 20 16)=some ((SM).map En.be,fX.map ObE.be,[]):=by kernel_rfl
theorem fc {T:Tab}(hz0:(S T 0).size<=140737488355328)(hz3:(S T 3).size<=140737488355328)(A0:AH T SM):
  ((S T 20)=(if Am (S T 0) (I T 1) (I T 2) (S T 3) (I T 4) (I T 5)=0 then (S T 0) else (⟨#[]⟩:ByteArray)))/\
  ((I T 21)=(if Am (S T 0) (I T 1) (I T 2) (S T 3) (I T 4) (I T 5)=0 then Ax (I T 1) (Ar (I T 1) (I T 4) (B T 6)) else 0))/\
  ((I T 22)=(if Am (S T 0) (I T 1) (I T 2) (S T 3) (I T 4) (I T 5)=0 then CT (Ax (I T 1) (Ar (I T 1) (I T 4) (B T 6))) (I T 2) else 0))/\
  ((S T 23)=(if Am (S T 0) (I T 1) (I T 2) (S T 3) (I T 4) (I T 5)=0 then (S T 3) else (⟨#[]⟩:ByteArray)))/\
  ((I T 24)=(if Am (S T 0) (I T 1) (I T 2) (S T 3) (I T 4) (I T 5)=0 then Ax (I T 4) (-(Ar (I T 1) (I T 4) (B T 6))) else 0))/\
  ((I T 25)=(if Am (S T 0) (I T 1) (I T 2) (S T 3) (I T 4) (I T 5)=0 then CT (Ax (I T 4) (-(Ar (I T 1) (I T 4) (B T 6)))) (I T 5) else 0))/\
  ((I T 26)=(Am (S T 0) (I T 1) (I T 2) (S T 3) (I T 4) (I T 5)))/\
  (B T 9=true-> -10000<=I T 4/\I T 4<=10000/\ -12<=I T 5/\I T 5<=48/\ -100<=I T 13/\I T 13<=100)/\
  (B T 9=true-> -10000<=I T 1/\I T 1<=10000/\ -12<=I T 2/\I T 2<=48/\ -100<=I T 10/\I T 10<=100)/\
  (B T 9=true-> -10000<=I T 1/\I T 1<=10000/\ -10000<=I T 4/\I T 4<=10000):=by
 obtain⟨F0,A0⟩:=A0.cut;have F1:=A0;clear A0;refine⟨?_,?_,?_,?_,?_,?_,?_,?_,?_,?_⟩
 .obtain⟨e7,e8,-,-,-,-,-,-,-,-,-,-,-,e20,-⟩:=F0;replace e7:I T 7=(Am (S T 0) (I T 1) (I T 2) (S T 3) (I T 4) (I T 5)):=e7;simp only[AI,AP,zR,zL,zS] at e8 e20;by_cases h:(I T 7)=0
  .have h8:¬B T 8=true:=fun a=>(e8.1 a) h;rw[e20,if_neg h8,<-e7,if_pos h]
  .rw[e20,if_pos (e8.2 h),<-e7,if_neg h]
 .obtain⟨e7,e8,-,e10,e11,-,-,-,-,-,-,-,-,-,e21,-⟩:=F0;replace e7:I T 7=(Am (S T 0) (I T 1) (I T 2) (S T 3) (I T 4) (I T 5)):=e7;replace e10:I T 10=(Ar (I T 1) (I T 4) (B T 6)):=e10;replace e11:I T 11=(Ax (I T 1) (I T 10)):=e11;simp only[AI,AP,zR,zL,zS] at e8 e21;by_cases h:(I T 7)=0
  .have h8:¬B T 8=true:=fun a=>(e8.1 a) h;rw[e21,if_neg h8,<-e7,if_pos h];rw[e11,e10]
  .rw[e21,if_pos (e8.2 h),<-e7,if_neg h]
 .obtain⟨e7,e8,-,e10,-,e12,-,-,-,-,-,-,-,-,-,e22,-⟩:=F0;replace e7:I T 7=(Am (S T 0) (I T 1) (I T 2) (S T 3) (I T 4) (I T 5)):=e7;replace e10:I T 10=(Ar (I T 1) (I T 4) (B T 6)):=e10;replace e12:I T 12=(CT (Ax (I T 1) (I T 10)) (I T 2)):=e12;simp only[AI,AP,zR,zL,zS] at e8 e22;by_cases h:(I T 7)=0
  .have h8:¬B T 8=true:=fun a=>(e8.1 a) h;rw[e22,if_neg h8,<-e7,if_pos h];rw[e12,e10]
  .rw[e22,if_pos (e8.2 h),<-e7,if_neg h]
 .obtain⟨e7,e8,-⟩:=F0;obtain⟨e23,-⟩:=F1;replace e7:I T 7=(Am (S T 0) (I T 1) (I T 2) (S T 3) (I T 4) (I T 5)):=e7;simp only[AI,AP,zR,zL,zS] at e8 e23;by_cases h:(I T 7)=0
  .have h8:¬B T 8=true:=fun a=>(e8.1 a) h;rw[e23,if_neg h8,<-e7,if_pos h]
  .rw[e23,if_pos (e8.2 h),<-e7,if_neg h]
 .obtain⟨e7,e8,-,e10,-,-,e13,e14,-⟩:=F0;obtain⟨-,e24,-⟩:=F1;replace e7:I T 7=(Am (S T 0) (I T 1) (I T 2) (S T 3) (I T 4) (I T 5)):=e7;replace e10:I T 10=(Ar (I T 1) (I T 4) (B T 6)):=e10;replace e14:I T 14=(Ax (I T 4) (I T 13)):=e14;simp only[AI,AP,zR,w2P,wnP,zL,zS] at e8 e13 e24;by_cases h:(I T 7)=0
  .have h8:¬B T 8=true:=fun a=>(e8.1 a) h;rw[e24,if_neg h8,<-e7,if_pos h];have hg:=HF (I T 1) (I T 4) (B T 6);rw[<-e10] at hg;have x13:=e13.1 (by omega) (by omega);rw[e14,x13,e10]
  .rw[e24,if_pos (e8.2 h),<-e7,if_neg h]
 .obtain⟨e7,e8,-,e10,-,-,e13,-,e15,-⟩:=F0;obtain⟨-,-,e25,-⟩:=F1;replace e7:I T 7=(Am (S T 0) (I T 1) (I T 2) (S T 3) (I T 4) (I T 5)):=e7;replace e10:I T 10=(Ar (I T 1) (I T 4) (B T 6)):=e10;replace e15:I T 15=(CT (Ax (I T 4) (I T 13)) (I T 5)):=e15;simp only[AI,AP,zR,w2P,wnP,zL,zS] at e8 e13 e25;by_cases h:(I T 7)=0
  .have h8:¬B T 8=true:=fun a=>(e8.1 a) h;rw[e25,if_neg h8,<-e7,if_pos h];have hg:=HF (I T 1) (I T 4) (B T 6);rw[<-e10] at hg;have x13:=e13.1 (by omega) (by omega);rw[e15,x13,e10]
  .rw[e25,if_pos (e8.2 h),<-e7,if_neg h]
 .obtain⟨e7,e8,-⟩:=F0;obtain⟨-,-,-,e26,-⟩:=F1;replace e7:I T 7=(Am (S T 0) (I T 1) (I T 2) (S T 3) (I T 4) (I T 5)):=e7;simp only[AI,AP,zR,zL,zS] at e8 e26;rw[e26,<-e7];split
  .rfl
  .rename_i h8;by_cases h:(I T 7)=0
   .exact h.symm
   .exact absurd (e8.2 h) h8
 .obtain⟨e7,e8,e9,e10,-,-,e13,-⟩:=F0;replace e7:I T 7=(Am (S T 0) (I T 1) (I T 2) (S T 3) (I T 4) (I T 5)):=e7;replace e10:I T 10=(Ar (I T 1) (I T 4) (B T 6)):=e10;simp only[AI,AP,zR,w2P,wnP] at e8 e9 e13;intro hp;have h0:(I T 7)=0:=by
   by_cases h:(I T 7)=0
   .exact h
   .exact absurd (e8.2 h) (e9.1 hp)
  obtain⟨q1,q2,q3⟩:=JA (e7.symm.trans h0);rw[Ea] at q1 q2;have hg:=HF (I T 1) (I T 4) (B T 6);rw[<-e10] at hg;have x13:=e13.1 (by omega) (by omega);omega
 .obtain⟨e7,e8,e9,e10,-⟩:=F0;replace e7:I T 7=(Am (S T 0) (I T 1) (I T 2) (S T 3) (I T 4) (I T 5)):=e7;replace e10:I T 10=(Ar (I T 1) (I T 4) (B T 6)):=e10;simp only[AI,AP,zR] at e8 e9;intro hp;have h0:(I T 7)=0:=by
   by_cases h:(I T 7)=0
   .exact h
   .exact absurd (e8.2 h) (e9.1 hp)
  obtain⟨q1,q2,q3⟩:=JA (e7.symm.trans h0);rw[Ea] at q1 q2;have hg:=HF (I T 1) (I T 4) (B T 6);rw[<-e10] at hg;omega
 .obtain⟨e7,e8,e9,-⟩:=F0;replace e7:I T 7=(Am (S T 0) (I T 1) (I T 2) (S T 3) (I T 4) (I T 5)):=e7;simp only[AI,AP,zR] at e8 e9;intro hp;have h0:(I T 7)=0:=by
   by_cases h:(I T 7)=0
   .exact h
   .exact absurd (e8.2 h) (e9.1 hp)
  obtain⟨q1,q2,q3⟩:=JA (e7.symm.trans h0);rw[Ea] at q1 q2;omega
theorem PF:Ae Try.prog 16 FC:=by
 refine BH (l:=[(57,M6),(60,Hr),(98,IF)]) Bh (by simp only[wJ];exact⟨gE,W9,gM,fun _ h=>absurd h (by simp)⟩) fU (by kernel_rfl) fun T us hpre hT hul hS hBd hE=>?_;change us.length=7 at hul;obtain⟨hz0,-,-,hz3,-⟩:=hBd;replace hz0:(S T 0).size<=140737488355328:=hz0;replace hz3:(S T 3).size<=140737488355328:=hz3;have ha0:aS us 0=S T 0:=inS hT hul (by decide);have ha1:aI us 1=I T 1:=inI hT hul (by decide);have ha2:aI us 2=I T 2:=inI hT hul (by decide);have ha3:aS us 3=S T 3:=inS hT hul (by decide);have ha4:aI us 4=I T 4:=inI hT hul (by decide);have ha5:aI us 5=I T 5:=inI hT hul (by decide);have ha6:aB us 6=B T 6:=inB hT hul (by decide);clear hpre
 skip
 obtain⟨A0,hO⟩:=BG (tys:=[.s,.i,.i,.s,.i,.i,.i]) (rs:=W8) hS (by kernel_rfl) hE;obtain⟨q0,q1,q2,q3,q4,q5,q6,r0,r1,r2⟩:=fc hz0 hz3 A0;refine⟨⟨r0,r1,r2,trivial⟩,hO.trans ?_⟩;exact (lc (by show U.str (S T 20)= .str (GZ us);unfold GZ;rw[ha0,ha1,ha2,ha3,ha4,ha5];exact congrArg U.str q0) (lc (by show U.int (I T 21)= .int (GW us);unfold GW;rw[ha0,ha1,ha2,ha3,ha4,ha5,ha6];exact congrArg U.int q1) (lc (by show U.int (I T 22)= .int (GL us);unfold GL;rw[ha0,ha1,ha2,ha3,ha4,ha5,ha6];exact congrArg U.int q2) (lc (by show U.str (S T 23)= .str (GM us);unfold GM;rw[ha0,ha1,ha2,ha3,ha4,ha5];exact congrArg U.str q3) (lc (by show U.int (I T 24)= .int (GK us);unfold GK;rw[ha0,ha1,ha2,ha3,ha4,ha5,ha6];exact congrArg U.int q4) (lc (by show U.int (I T 25)= .int (GQ us);unfold GQ;rw[ha0,ha1,ha2,ha3,ha4,ha5,ha6];exact congrArg U.int q5) (lc (by show U.int (I T 26)= .int (GS us);unfold GS;rw[ha0,ha1,ha2,ha3,ha4,ha5];exact congrArg U.int q6) rfl)))))))
def FS:List U->Int:=fun us=>(if Ay (aI us 0) (-12) 48=true then BU (aI us 0) else 0)
def FU:List U->Int:=fun us=>(if Ay (aI us 0) (-12) 48=true then 0 else 3)
def Hw:AV:={ sh:=[.one (k64)],blks:=[],outs:=[(.s "Trigger.0",Bl FS),(.s "Trigger.1",Bl FU)],c:= .tup [(C4 1),(C4 2)],m':=[],pre:=[] }
def Su:List En:=[⟨1,.lt,[.e 0,.c (.int (-12))]⟩,
 ⟨2,.not,[.e 1]⟩,
 ⟨3,.lt,[.c (.int 48),.e 0]⟩,
 ⟨4,.or,[.e 1,.e 3]⟩,
 ⟨5,.not,[.e 4]⟩,
 ⟨6,.outI "trig.0" HL,[.e 0]⟩,
 ⟨7,.ite .i,[.e 4,.c (.int 3),.c (.int 0)]⟩,
 ⟨8,.ite .i,[.e 4,.c (.int 0),.e 6]⟩,
 ⟨9,.or,[.e 4,.e 5]⟩]
def OQ:List En:=Su
def cB:List ObE:=[⟨some 5,.pre "trig.p0" Ft,[.e 0]⟩]
def Rn:List Rf:=[.e 8,.e 7]
theorem ai:Hw.sees Rn (Hw.run Try.prog [(69,Hp)] AW 3000 20 29)=some ((OQ).map En.be,cB.map ObE.be,[]):=by kernel_rfl
theorem ZR {T:Tab}(A0:AH T OQ):
  ((I T 8)=(if Ay (I T 0) (-12) 48=true then BU (I T 0) else 0))/\
  ((I T 7)=(if Ay (I T 0) (-12) 48=true then 0 else 3))/\
  (B T 5=true-> -100<=I T 0/\I T 0<=100):=by
 have F0:=A0;clear A0;refine⟨?_,?_,?_⟩
 .obtain⟨e1,-,e3,e4,-,e6,-,e8,-⟩:=F0;replace e6:I T 6=(BU (I T 0)):=e6;simp only[AI,AP,zR,zL,zS] at e1 e3 e4 e8;have hb:(B T 4)=true↔¬Ay (I T 0) (-12) 48=true:=by
   rw[Bk,e4,e1,e3];omega
  by_cases h:Ay (I T 0) (-12) 48=true
  .have h4:¬B T 4=true:=fun a=>hb.1 a h;rw[if_pos h,e8,if_neg h4,e6]
  .rw[if_neg h,e8,if_pos (hb.2 h)]
 .obtain⟨e1,-,e3,e4,-,-,e7,-⟩:=F0;simp only[AI,AP,zR,zL,zS] at e1 e3 e4 e7;have hb:(B T 4)=true↔¬Ay (I T 0) (-12) 48=true:=by
   rw[Bk,e4,e1,e3];omega
  by_cases h:Ay (I T 0) (-12) 48=true
  .have h4:¬B T 4=true:=fun a=>hb.1 a h;rw[if_pos h,e7,if_neg h4]
  .rw[if_neg h,e7,if_pos (hb.2 h)]
 .obtain⟨e1,-,e3,e4,e5,-⟩:=F0;simp only[AI,AP,zR] at e1 e3 e4 e5;intro hp;have h4:=e5.1 hp;rw[e4,e1,e3] at h4;omega
theorem YQ:Ae Try.prog 29 Hw:=by
 refine BH (l:=[(69,Hp)]) Bh (by simp only[wJ];exact⟨XL,fun _ h=>absurd h (by simp)⟩) ai (by kernel_rfl) fun T us hpre hT hul hS hBd hE=>?_;change us.length=1 at hul;clear hBd;have ha0:aI us 0=I T 0:=inI hT hul (by decide);clear hpre
 skip
 obtain⟨A0,hO⟩:=BG (tys:=[.i,.i]) (rs:=Rn) hS (by kernel_rfl) hE;obtain⟨q0,q1,r0⟩:=ZR A0;refine⟨⟨r0,trivial⟩,hO.trans ?_⟩;exact (lc (by show U.int (I T 8)= .int (FS us);unfold FS;rw[ha0];exact congrArg U.int q0) (lc (by show U.int (I T 7)= .int (FU us);unfold FU;rw[ha0];exact congrArg U.int q1) rfl))
def LQ:List U->Int:=fun us=>(Bj (aL us 0))
def I8:AV:={ sh:=[.one (.list [.str,k64,k64])],blks:=[],outs:=[(.s "checkP.0",Bl LQ)],c:=(C4 1),m':=[],pre:=[] }
def Uh:List En:=[⟨1,.len,[.e 0]⟩,
 ⟨2,.lt,[.c (.int 24),.e 1]⟩,
 ⟨3,.not,[.e 2]⟩,
 ⟨4,.id .l,[.c (.list [])]⟩,
 ⟨5,.len,[.e 0]⟩]
def Ig:List En:=Uh
def Ts:List En:=[⟨8,.lt,[.e 6,.e 5]⟩,
 ⟨9,.and,[.e 3,.e 8]⟩,
 ⟨10,.and,[.e 3,.n 8]⟩,
 ⟨11,.get .s 0,[.e 0,.e 6]⟩,
 ⟨12,.get .i 1,[.e 0,.e 6]⟩,
 ⟨13,.get .i 2,[.e 0,.e 6]⟩,
 ⟨14,.outB "vplayer.0" EX,[.e 11,.e 12,.e 13]⟩,
 ⟨15,.and,[.e 9,.e 14]⟩,
 ⟨16,.and,[.e 9,.n 14]⟩,
 ⟨17,.mset 1 [.s,.b],[.e 7,.e 11,.c (.bool true)]⟩,
 ⟨18,.w2 .i64 .add,[.e 6,.c (.int 1)]⟩]
def EG:List En:=Ts
def Px:List ObE:=[⟨some 15,.fits 1,[.e 7,.c (.list [[]])]⟩,⟨some 9,.inl,[.e 6,.e 0]⟩]
def IQ:Ag:=mkD 6 2 EG 15 [.e 18,.e 17] Px [0,3,5]
def Lu:List Rf:=[.e 0,.e 3,.e 5,.c (.int 0),.e 4]
def TP:List En:=[⟨19,.len,[.e 7]⟩,
 ⟨20,.len,[.e 0]⟩,
 ⟨21,.lt,[.e 19,.e 20]⟩,
 ⟨22,.and,[.e 10,.e 21]⟩,
 ⟨23,.and,[.e 10,.n 21]⟩,
 ⟨24,.ite .i,[.e 22,.c (.int 12),.c (.int 0)]⟩,
 ⟨25,.or,[.e 22,.e 23]⟩,
 ⟨26,.ite .i,[.e 16,.c (.int 2),.e 24]⟩,
 ⟨27,.or,[.e 16,.e 25]⟩,
 ⟨28,.ite .i,[.e 2,.c (.int 6),.e 26]⟩,
 ⟨29,.or,[.e 2,.e 27]⟩]
def QN:List En:=TP
def eX:List ObE:=[⟨some 3,.owes IQ,[.e 0,.e 3,.e 5,.c (.int 0),.e 4]⟩]
def U3:List Rf:=[.e 28]
theorem ef:I8.sees U3 (I8.run Try.prog [(82,Ev)] AW 3000 20 41)=some ((Ig++((BS IQ [.i,.l] Lu)++(EG++(QN)))).map En.be,eX.map ObE.be,[]):=by kernel_rfl
theorem V3 {T:Tab}(hl0:(L T 0).length<=140737488355328)(hk0:∀u∈(L T 0),AT AF KP u)(A0:AH T Ig):
  ((I T 5)=((L T 0)).length)/\((L T 4)=[]):=by
 have F0:=A0;clear A0;have h5:(I T 5)=((L T 0)).length:=by
  obtain⟨-,-,-,-,e5,-⟩:=F0;simp only[AI,zR,zL] at e5;exact e5
 have h4:(L T 4)=[]:=by
  obtain⟨-,-,-,e4,-⟩:=F0;simp only[AI,zR,zL,zS] at e4;exact e4
 exact⟨h5,h4⟩
theorem Yr {T:Tab}(hl0:(L T 0).length<=140737488355328)(h5:(I T 5)=((L T 0)).length)(h4:(L T 4)=[])(hS:AK T (Ab (BK 0 I8.ks) Ig))(hB:Ac T (EG.map En.be))(hH:Ac T ((BS IQ [.i,.l] Lu).map En.be)):
  (IQ).owes (Lu.map (Rf.eval T))/\AK T (hds 6 [.i,.l])/\(0<=I T 6/\I T 6<=((L T 0)).length/\(((L T 0)).take (I T 6).toNat).all GN=true/\L T 7=Dv (((L T 0)).take (I T 6).toNat))/\¬B T 15=true:=by
 refine CK (nh:=6) (k:=2) (pcn:=15) (top:=19) (bes:=EG) (bos:=Px) (nxt:=[.e 18,.e 17]) (inits:=[.c (.int 0),.e 4]) (fv:=[0,3,5]) (tys:=[.i,.l]) (by kernel_rfl) rfl rfl rfl rfl hS (by kernel_rfl) (by kernel_rfl) hB (BV hH) (fun s=>0<=(aI s 0)/\(aI s 0)<=((L T 0)).length/\(((L T 0)).take (aI s 0).toNat).all GN=true/\(aL s 1)=Dv (((L T 0)).take (aI s 0).toNat)) (fun s=>(((L T 0)).length - (aI s 0)).toNat) ?_ ?_
 .show 0<=(0:Int)/\(0:Int)<=((L T 0)).length/\(((L T 0)).take (0:Int).toNat).all GN=true/\L T 4=Dv (((L T 0)).take (0:Int).toNat);clear hS hB hH;exact⟨by omega,by omega,by simp,by rw[show (0:Int).toNat=0 from rfl,List.take_zero];exact h4⟩
 .intro T2 hfv hF inv;replace inv:0<=I T2 6/\I T2 6<=((L T 0)).length/\(((L T 0)).take (I T2 6).toNat).all GN=true/\L T2 7=Dv (((L T 0)).take (I T2 6).toNat):=inv;clear hS hB hH;replace hF:AH T2 EG:=hF;have F0:=hF;clear hF;have fv0:L T2 0=L T 0:=fvL (hfv 0 (by decide));have fv3:B T2 3=B T 3:=fvB (hfv 3 (by decide));have fv5:I T2 5=I T 5:=fvI (hfv 5 (by decide));clear hfv
  suffices hz:(B T2 15=true->(((L T2 7)).length+(([[]]:List (List U))).length)*1<=140737488355328)/\(B T2 9=true->0<=I T2 6/\I T2 6 < ((L T2 0)).length)/\(B T2 15=true->(0<=I T2 18/\I T2 18<=((L T 0)).length/\(((L T 0)).take (I T2 18).toNat).all GN=true/\L T2 17=Dv (((L T 0)).take (I T2 18).toNat)))/\(B T2 15=true->(((L T 0)).length - (I T2 18)).toNat < (((L T 0)).length - (I T2 6)).toNat) from
   let⟨r0,r1,nx,mz⟩:=hz;⟨⟨r0,r1,trivial⟩,fun hp=>⟨nx hp,mz hp⟩⟩
  refine⟨?_,?_,?_,?_⟩
  .obtain⟨e8,e9,-,-,-,-,-,e15,-⟩:=F0;simp only[AI,AP,zR] at e8 e9 e15;obtain⟨v1,v2,v3,v4⟩:=inv;intro hp;have h8:=e8.1 (e9.1 (e15.1 hp).1).2;rw[fv5] at h8;have h6:=Xq (l:=((L T 0)).take (I T2 6).toNat);rw[<-v4,wb] at h6;show (((L T2 7)).length+1)*1<=_;omega
  .obtain⟨e8,e9,-⟩:=F0;simp only[AI,AP,zR] at e8 e9;obtain⟨v1,v2,v3,v4⟩:=inv;intro hp;have h8:=e8.1 (e9.1 hp).2;rw[fv5] at h8;rw[fv0];omega
  .obtain⟨e8,e9,-,e11,e12,e13,e14,e15,-,e17,e18,-⟩:=F0;replace e14:B T2 14=(DC (S T2 11) (I T2 12) (I T2 13)):=e14;simp only[AI,AP,zC,zR,w2P,zL,zS,uR,zW] at e8 e9 e11 e12 e13 e15 e17 e18;obtain⟨v1,v2,v3,v4⟩:=inv;intro hp;have h15:=e15.1 hp;have h8:=e8.1 (e9.1 h15.1).2;rw[fv5] at h8;have x18:=e18 (by omega) (by omega);have hlt:(I T2 6).toNat < ((L T 0)).length:=by omega
   rw[fv0] at e11 e12 e13;refine⟨by omega,by omega,?_,?_⟩
   .rw[x18,show ((I T2 6)+1).toNat=(I T2 6).toNat+1 by omega,GR hlt,Ut];refine⟨v3,?_⟩;have h14:=h15.2;rw[e14,e11,e12,e13] at h14;exact h14
   .rw[x18,show ((I T2 6)+1).toNat=(I T2 6).toNat+1 by omega,GR hlt,WZ,<-v4,e17,e11];rfl
  .obtain⟨e8,e9,-,-,-,-,-,e15,-,-,e18,-⟩:=F0;simp only[AI,AP,zR,w2P] at e8 e9 e15 e18;obtain⟨v1,v2,v3,v4⟩:=inv;intro hp;have h8:=e8.1 (e9.1 (e15.1 hp).1).2;rw[fv5] at h8;have x18:=e18 (by omega) (by omega);omega
theorem dF {T:Tab}(hl0:(L T 0).length<=140737488355328)(hk0:∀u∈(L T 0),AT AF KP u)(h5:(I T 5)=((L T 0)).length)(h4:(L T 4)=[])(inv0:0<=I T 6/\I T 6<=((L T 0)).length/\(((L T 0)).take (I T 6).toNat).all GN=true/\L T 7=Dv (((L T 0)).take (I T 6).toNat))(np0:¬B T 15=true)(A0:AH T Ig)(B0:AH T EG)(A1:AH T QN):
  ((I T 28)=(Bj (L T 0))):=by
 have F0:=A0;clear A0;have F1:=B0;clear B0;have F2:=A1;clear A1
 .obtain⟨e1,e2,e3,-,e5,-⟩:=F0;obtain⟨e8,e9,e10,e11,e12,e13,e14,e15,e16,-⟩:=F1;obtain⟨e19,e20,e21,e22,-,e24,-,e26,-,e28,-⟩:=F2;replace e14:B T 14=(DC (S T 11) (I T 12) (I T 13)):=e14;simp only[AI,AP,zN,zR,zL,zS] at e1 e2 e3 e5 e8 e9 e10 e11 e12 e13 e15 e16 e19 e20 e21 e22 e24 e26 e28;obtain⟨v1,v2,v3,v4⟩:=inv0;unfold Bj;rw[e28];by_cases h2:24 < ((L T 0)).length
  .rw[if_pos h2,if_pos (e2.2 (by rw[e1];omega))]
  .have n2:¬B T 2=true:=fun a=>by have:=e2.1 a;rw[e1] at this;omega
   rw[if_neg h2,if_neg n2,e26];have h3:=e3.2 (by simpa using n2);by_cases h8:(I T 6) < I T 5
   .have hb8:=e8.2 h8;have h9:=e9.2 ⟨h3,hb8⟩;have n14:¬B T 14=true:=fun a=>np0 (e15.2 ⟨h9,a⟩);have hlt:(I T 6).toNat < ((L T 0)).length:=by omega
    have na:¬((L T 0)).all GN=true:=fun a=>by
     have:=wR.1 a _ (Dj hlt);rw[e14,e11,e12,e13] at n14;exact n14 this
    rw[if_pos na,if_pos (e16.2 ⟨h9,by simpa using n14⟩)]
   .have n8:¬B T 8=true:=fun a=>h8 (e8.1 a);have h10:=e10.2 ⟨h3,by simpa using n8⟩;have n16:¬B T 16=true:=fun a=>n8 (e9.1 (e16.1 a).1).2;have e6:(I T 6).toNat=((L T 0)).length:=by omega
    rw[e6,List.take_length] at v3 v4;rw[if_neg n16,if_neg (fun a=>a v3),e24];by_cases hn:(Dv ((L T 0))).length < ((L T 0)).length
    .rw[if_pos hn,if_pos (e22.2 ⟨h10,e21.2 (by rw[e19,e20,v4];omega)⟩)]
    .rw[if_neg hn,if_neg (fun a=>hn (by have:=e21.1 (e22.1 a).2;rw[e19,e20,v4] at this;omega))]
theorem aO:Ae Try.prog 41 I8:=by
 refine BH (l:=[(82,Ev)]) Bh (by simp only[wJ];exact⟨QA,fun _ h=>absurd h (by simp)⟩) ef (by kernel_rfl) fun T us hpre hT hul hS hBd hE=>?_;change us.length=1 at hul;obtain⟨⟨hl0,he0⟩,-⟩:=hBd;replace hl0:(L T 0).length<=140737488355328:=hl0;have hk0:∀u∈(L T 0),AT AF KP u:=fun u hu=>by
  obtain⟨i,hi⟩:=wP.1 hu;exact he0 i u hi
 have ha0:aL us 0=L T 0:=inL hT hul (by decide);clear hpre;rw[v7,v7,v7] at hE;have hA:=hE.left;replace hE:=hE.right;have hH:=hE.left;replace hE:=hE.right;have hB:=hE.left;replace hE:=hE.right;obtain⟨A0,hS1⟩:=Ai hS (by kernel_rfl) hA;obtain⟨h5,h4⟩:=V3 hl0 hk0 A0;obtain⟨ow0,hS2,inv0,np0⟩:=Yr hl0 h5 h4 hS1 hB hH;have hF2:=(Ai (hS2.append hS1) (l:=EG) (by kernel_rfl) hB);obtain⟨B0,hS⟩:=hF2;clear hA hB hH hS1 hS2;obtain⟨A1,hO⟩:=BG (tys:=[.i]) (rs:=U3) hS (by kernel_rfl) hE;have q0:=dF hl0 hk0 h5 h4 inv0 np0 A0 B0 A1;refine⟨⟨(fun _=>ow0),trivial⟩,hO.trans ?_⟩;exact (lc (by show U.int (I T 28)= .int (LQ us);unfold LQ;rw[ha0];exact congrArg U.int q0) rfl)
end
section
open Go Go.Eng Go.Proofs
def OO:List U->Int:=fun us=>(Bj (aL us 0))
def OG:List U->Prop:=fun us=>Bj (aL us 0)=0
def NL:AV:={ sh:=I8.sh,blks:=[],outs:=[(.s "checkPk.0",Bl OO)],c:= .ci .i64 0,m':=[],pre:=[(.s "checkPk.p0",OG)] }
theorem Xg:Ae Try.prog 41 NL:=Ru aO rfl rfl rfl rfl rfl (fun _=>rfl) rfl rfl fun us hul hp=>by
 have h0:=hp _ (wY.2 rfl);replace h0:Bj (aL us 0)=0:=h0;have hul:us.length=1:=hul
 match us,hul,h0 with
 |[u],_,h0=>exact⟨congrArg (fun z=>some (U.int z)) h0,fun q hq=>by cases hq⟩
end
section
open Go Go.Eng Go.Proofs
set_option maxHeartbeats 4000000
set_option maxRecDepth 100000
def Hh:List U->Int:=fun us=>(Ks (aI us 0) (aI us 1) (aI us 2) (aS us 4) (aS us 5) (aI us 7) (aI us 8))
def Hy:AV:={ sh:=[.agg [k64,k64,k64,.bool,.str,.str,.bool,k64,k64]],blks:=[],outs:=[(.s "checkSh.0",Bl Hh)],c:=(C4 9),m':=[],pre:=[] }
def Sf:List En:=[⟨9,.le,[.c (.int 0),.e 0]⟩,
 ⟨10,.id .b,[.e 9]⟩,
 ⟨11,.le,[.e 0,.c (.int 1099511627776)]⟩,
 ⟨12,.and,[.e 9,.e 11]⟩,
 ⟨13,.id .b,[.e 12]⟩,
 ⟨14,.le,[.c (.int 0),.e 2]⟩,
 ⟨15,.and,[.e 13,.e 14]⟩,
 ⟨16,.le,[.e 2,.c (.int 1099511627776)]⟩,
 ⟨17,.and,[.e 14,.e 16]⟩,
 ⟨18,.or,[.n 12,.n 17]⟩,
 ⟨19,.not,[.e 18]⟩,
 ⟨20,.lt,[.e 1,.c (.int 0)]⟩,
 ⟨21,.or,[.e 18,.e 20]⟩,
 ⟨22,.not,[.e 21]⟩,
 ⟨23,.lt,[.c (.int 1048576),.e 1]⟩,
 ⟨24,.or,[.e 21,.e 23]⟩]
def Sm:List En:=[⟨25,.not,[.e 24]⟩,
 ⟨26,.outB "xvname.0" Gw,[.e 4]⟩,
 ⟨27,.and,[.e 25,.e 26]⟩,
 ⟨28,.outB "xvname.0" Gw,[.e 5]⟩,
 ⟨29,.or,[.n 26,.n 28]⟩,
 ⟨30,.and,[.e 25,.n 29]⟩,
 ⟨31,.eqs [.s],[.e 4,.e 5]⟩,
 ⟨32,.or,[.e 29,.e 31]⟩,
 ⟨33,.and,[.e 25,.e 32]⟩,
 ⟨34,.and,[.e 25,.n 32]⟩,
 ⟨35,.lt,[.e 8,.c (.int 0)]⟩,
 ⟨36,.and,[.e 34,.n 35]⟩,
 ⟨37,.lt,[.e 7,.e 8]⟩,
 ⟨38,.or,[.e 35,.e 37]⟩,
 ⟨39,.and,[.e 34,.n 38]⟩,
 ⟨40,.lt,[.c (.int 26),.e 7]⟩]
def Sg:List En:=[⟨41,.or,[.e 38,.e 40]⟩,
 ⟨42,.and,[.e 34,.e 41]⟩,
 ⟨43,.and,[.e 34,.n 41]⟩,
 ⟨44,.or,[.e 33,.e 42]⟩,
 ⟨45,.or,[.e 24,.e 44]⟩,
 ⟨46,.ite .i,[.e 45,.c (.int 2),.c (.int 0)]⟩,
 ⟨47,.or,[.e 45,.e 43]⟩]
def OR:List En:=Sf++(Sm++(Sg))
def ay:List ObE:=[]
def SA:List Rf:=[.e 46]
theorem aD:Hy.sees SA (Hy.run Try.prog [(83,I9)] AW 3000 20 43)=some ((OR).map En.be,ay.map ObE.be,[]):=by kernel_rfl
theorem bY {T:Tab}(hz4:(S T 4).size<=140737488355328)(hz5:(S T 5).size<=140737488355328)(A0:AH T OR):
  ((I T 46)=(Ks (I T 0) (I T 1) (I T 2) (S T 4) (S T 5) (I T 7) (I T 8))):=by
 obtain⟨F0,A0⟩:=A0.cut;obtain⟨F1,A0⟩:=A0.cut;have F2:=A0;clear A0
 .obtain⟨e9,-,e11,e12,-,e14,-,e16,e17,e18,-,e20,e21,-,e23,e24,-⟩:=F0;obtain⟨e25,e26,-,e28,e29,-,e31,e32,e33,e34,e35,-,e37,e38,-,e40,-⟩:=F1;obtain⟨e41,e42,-,e44,e45,e46,-⟩:=F2;replace e26:B T 26=(EC (S T 4)):=e26;replace e28:B T 28=(EC (S T 5)):=e28;simp only[AI,AP,zN,zR,EN,and_true,zL,zS] at e9 e11 e12 e14 e16 e17 e18 e20 e21 e23 e24 e25 e29 e31 e32 e33 e34 e35 e37 e38 e40 e41 e42 e44 e45 e46;unfold Ks;rw[e46];have hb:(B T 45)=true↔¬(Ay (I T 0) 0 1099511627776&&Ay (I T 2) 0 1099511627776&&Ay (I T 1) 0 1048576&&EC (S T 4)&&EC (S T 5)&& !decide ((S T 4)=S T 5)&&decide (0<=I T 8)&&decide ((I T 8)<=I T 7)&&decide ((I T 7)<=26))=true:=by
   rw[<-e26,<-e28];simp only[vo,Bk,Bool.not_eq_true',decide_eq_false_iff_not,decide_eq_true_eq];clear e26 e28 e46;grind
  by_cases h:(B T 45)=true
  .rw[if_pos h,if_neg (hb.1 h)]
  .rw[if_neg h,if_pos (Decidable.of_not_not fun a=>h (hb.2 a))]
theorem Ym:Ae Try.prog 43 Hy:=by
 refine BH (l:=[(83,I9)]) Bh (by simp only[wJ];exact⟨Ra,fun _ h=>absurd h (by simp)⟩) aD (by kernel_rfl) fun T us hpre hT hul hS hBd hE=>?_;change us.length=9 at hul;obtain⟨-,-,-,hz4,hz5,-⟩:=hBd;replace hz4:(S T 4).size<=140737488355328:=hz4;replace hz5:(S T 5).size<=140737488355328:=hz5;have ha0:aI us 0=I T 0:=inI hT hul (by decide);have ha1:aI us 1=I T 1:=inI hT hul (by decide);have ha2:aI us 2=I T 2:=inI hT hul (by decide);have ha4:aS us 4=S T 4:=inS hT hul (by decide);have ha5:aS us 5=S T 5:=inS hT hul (by decide);have ha7:aI us 7=I T 7:=inI hT hul (by decide);have ha8:aI us 8=I T 8:=inI hT hul (by decide);clear hpre
 skip
 obtain⟨A0,hO⟩:=BG (tys:=[.i]) (rs:=SA) hS (by kernel_rfl) hE;have q0:=bY hz4 hz5 A0;refine⟨trivial,hO.trans ?_⟩;exact (lc (by show U.int (I T 46)= .int (Hh us);unfold Hh;rw[ha0,ha1,ha2,ha4,ha5,ha7,ha8];exact congrArg U.int q0) rfl)
def If:List U->Bool:=fun us=>(NW (aL us 0))
def HB:AV:={ sh:=[.one (.list [k64,k64,k64,.bool,.str,.str,.bool,k64,k64])],blks:=[],outs:=[(.s "soundB.0",LP If)],c:= .b 1,m':=[],pre:=[] }
def UV:List En:=[⟨1,.id .l,[.c (.list [])]⟩,
 ⟨2,.len,[.e 0]⟩]
def Ih:List En:=UV
def U2:List En:=[⟨5,.lt,[.e 3,.e 2]⟩,
 ⟨6,.not,[.e 5]⟩,
 ⟨7,.get .i 0,[.e 0,.e 3]⟩,
 ⟨8,.get .i 1,[.e 0,.e 3]⟩,
 ⟨9,.get .i 2,[.e 0,.e 3]⟩,
 ⟨10,.get .b 3,[.e 0,.e 3]⟩,
 ⟨11,.get .s 4,[.e 0,.e 3]⟩,
 ⟨12,.get .s 5,[.e 0,.e 3]⟩,
 ⟨13,.get .b 6,[.e 0,.e 3]⟩,
 ⟨14,.get .i 7,[.e 0,.e 3]⟩,
 ⟨15,.get .i 8,[.e 0,.e 3]⟩,
 ⟨16,.mget .i 2 0 [.i,.i],[.e 4,.c (.int 0),.e 7,.e 8]⟩,
 ⟨17,.mget .i 2 1 [.i,.i],[.e 4,.c (.int 0),.e 7,.e 8]⟩,
 ⟨18,.mget .i 2 2 [.i,.i],[.e 4,.c (.int 0),.e 7,.e 8]⟩,
 ⟨19,.mget .b 2 3 [.i,.i],[.e 4,.c (.bool false),.e 7,.e 8]⟩,
 ⟨20,.mget .s 2 4 [.i,.i],[.e 4,.c (.str ⟨#[]⟩),.e 7,.e 8]⟩]
def Vs:List En:=[⟨21,.mget .s 2 5 [.i,.i],[.e 4,.c (.str ⟨#[]⟩),.e 7,.e 8]⟩,
 ⟨22,.mget .b 2 6 [.i,.i],[.e 4,.c (.bool false),.e 7,.e 8]⟩,
 ⟨23,.mget .i 2 7 [.i,.i],[.e 4,.c (.int 0),.e 7,.e 8]⟩,
 ⟨24,.mget .i 2 8 [.i,.i],[.e 4,.c (.int 0),.e 7,.e 8]⟩,
 ⟨25,.mhas 2 [.i,.i],[.e 4,.e 7,.e 8]⟩,
 ⟨26,.and,[.e 5,.e 25]⟩,
 ⟨27,.nes [.i,.i,.i,.b,.s,.s,.b,.i,.i],[.e 16,.e 7,.e 17,.e 8,.e 18,.e 9,.e 19,.e 10,.e 20,.e 11,.e 21,.e 12,.e 22,.e 13,.e 23,.e 14,.e 24,.e 15]⟩,
 ⟨28,.and,[.e 25,.e 27]⟩,
 ⟨29,.and,[.e 5,.e 28]⟩,
 ⟨30,.and,[.e 5,.n 28]⟩,
 ⟨31,.mset 2 [.i,.i,.i,.i,.i,.b,.s,.s,.b,.i,.i],[.e 4,.e 7,.e 8,.e 7,.e 8,.e 9,.e 10,.e 11,.e 12,.e 13,.e 14,.e 15]⟩,
 ⟨32,.w2 .i64 .add,[.e 3,.c (.int 1)]⟩]
def EL:List En:=U2++(Vs)
def Qf:List ObE:=[⟨some 30,.fits 1,[.e 4,.c (.list [[]])]⟩,⟨some 5,.inl,[.e 3,.e 0]⟩]
def Ii:Ag:=mkD 3 2 EL 30 [.e 32,.e 31] Qf [0,2]
def LS:List Rf:=[.e 0,.e 2,.c (.int 0),.e 1]
def Ua:List En:=[⟨33,.ite .b,[.e 29,.c (.bool false),.c (.bool true)]⟩,
 ⟨34,.or,[.e 29,.e 6]⟩]
def Qj:List En:=Ua
def cK:List ObE:=[⟨none,.owes Ii,[.e 0,.e 2,.c (.int 0),.e 1]⟩]
def Vf:List Rf:=[.e 33]
theorem df:HB.sees Vf (HB.run Try.prog [] AW 3000 20 85)=some ((Ih++((BS Ii [.i,.l] LS)++(EL++(Qj)))).map En.be,cK.map ObE.be,[]):=by kernel_rfl
theorem WG {T:Tab}(hl0:(L T 0).length<=140737488355328)(hk0:∀u∈(L T 0),AT AF KB u)(A0:AH T Ih):
  ((I T 2)=((L T 0)).length)/\((L T 1)=[]):=by
 have F0:=A0;clear A0;have h2:(I T 2)=((L T 0)).length:=by
  obtain⟨-,e2,-⟩:=F0;simp only[AI,zR,zL] at e2;exact e2
 have h1:(L T 1)=[]:=by
  obtain⟨e1,-⟩:=F0;simp only[AI,zR,zL,zS] at e1;exact e1
 exact⟨h2,h1⟩
theorem Xy {T:Tab}(hl0:(L T 0).length<=140737488355328)(hk0:∀u∈(L T 0),AT AF KB u)(h2:(I T 2)=((L T 0)).length)(h1:(L T 1)=[])(hS:AK T (Ab (BK 0 HB.ks) Ih))(hB:Ac T (EL.map En.be))(hH:Ac T ((BS Ii [.i,.l] LS).map En.be)):
  (Ii).owes (LS.map (Rf.eval T))/\AK T (hds 3 [.i,.l])/\(0<=I T 3/\I T 3<=((L T 0)).length/\((L T 4)).length<=I T 3/\Cu [] ((L T 0))=Cu ((L T 4)) (((L T 0)).drop (I T 3).toNat))/\¬B T 30=true:=by
 refine CK (nh:=3) (k:=2) (pcn:=30) (top:=33) (bes:=EL) (bos:=Qf) (nxt:=[.e 32,.e 31]) (inits:=[.c (.int 0),.e 1]) (fv:=[0,2]) (tys:=[.i,.l]) (by kernel_rfl) rfl rfl rfl rfl hS (by kernel_rfl) (by kernel_rfl) hB (BV hH) (fun s=>0<=(aI s 0)/\(aI s 0)<=((L T 0)).length/\((aL s 1)).length<=(aI s 0)/\Cu [] ((L T 0))=Cu ((aL s 1)) (((L T 0)).drop (aI s 0).toNat)) (fun s=>(((L T 0)).length - (aI s 0)).toNat) ?_ ?_
 .show 0<=(0:Int)/\(0:Int)<=((L T 0)).length/\((L T 1)).length<=(0:Int)/\Cu [] ((L T 0))=Cu ((L T 1)) (((L T 0)).drop (0:Int).toNat);clear hS hB hH;exact⟨by omega,by omega,by rw[h1];exact Int.le_refl _,by rw[h1,show (0:Int).toNat=0 from rfl,List.drop_zero]⟩
 .intro T2 hfv hF inv;replace inv:0<=I T2 3/\I T2 3<=((L T 0)).length/\((L T2 4)).length<=I T2 3/\Cu [] ((L T 0))=Cu ((L T2 4)) (((L T 0)).drop (I T2 3).toNat):=inv;clear hS hB hH;replace hF:AH T2 EL:=hF;obtain⟨F0,hF⟩:=hF.cut;have F1:=hF;clear hF;have fv0:L T2 0=L T 0:=fvL (hfv 0 (by decide));have fv2:I T2 2=I T 2:=fvI (hfv 2 (by decide));clear hfv
  suffices hz:(B T2 30=true->(((L T2 4)).length+(([[]]:List (List U))).length)*1<=140737488355328)/\(B T2 5=true->0<=I T2 3/\I T2 3 < ((L T2 0)).length)/\(B T2 30=true->(0<=I T2 32/\I T2 32<=((L T 0)).length/\((L T2 31)).length<=I T2 32/\Cu [] ((L T 0))=Cu ((L T2 31)) (((L T 0)).drop (I T2 32).toNat)))/\(B T2 30=true->(((L T 0)).length - (I T2 32)).toNat < (((L T 0)).length - (I T2 3)).toNat) from
   let⟨r0,r1,nx,mz⟩:=hz;⟨⟨r0,r1,trivial⟩,fun hp=>⟨nx hp,mz hp⟩⟩
  refine⟨?_,?_,?_,?_⟩
  .obtain⟨e5,-⟩:=F0;obtain⟨-,-,-,-,-,-,-,-,-,e30,-⟩:=F1;simp only[AI,AP,zN,zR] at e5 e30;obtain⟨v1,v2,v3,v4⟩:=inv;intro hp;have h5:=e5.1 (e30.1 hp).1;rw[fv2] at h5;show (((L T2 4)).length+1)*1<=_;omega
  .obtain⟨e5,-⟩:=F0;simp only[AI,zR] at e5;obtain⟨v1,v2,v3,v4⟩:=inv;intro hp;have h5:=e5.1 hp;rw[fv2] at h5;rw[fv0];omega
  .obtain⟨e5,-,e7,e8,e9,e10,e11,e12,e13,e14,e15,e16,e17,e18,e19,e20,-⟩:=F0;obtain⟨e21,e22,e23,e24,e25,-,e27,e28,-,e30,e31,e32,-⟩:=F1;simp only[AI,AP,zN,zC,zR,EN,and_true,w2P,zL,zS,uR,zW] at e5 e7 e8 e9 e10 e11 e12 e13 e14 e15 e16 e17 e18 e19 e20 e21 e22 e23 e24 e25 e27 e28 e30 e31 e32;obtain⟨v1,v2,v3,v4⟩:=inv;intro hp;have h30:=e30.1 hp;have h5:=e5.1 h30.1;rw[fv2] at h5;have x32:=e32 (by omega) (by omega);have hlt:(I T2 3).toNat < ((L T 0)).length:=by omega
   rw[fv0] at e7 e8 e9 e10 e11 e12 e13 e14 e15;have hu:=hk0 _ (Dj hlt);have hk:[U.int (I T2 7),U.int (I T2 8)]=JL (((L T 0)).getD (I T2 3).toNat []):=by rw[e7,e8];rfl
   have h31:(L T2 31)=Bc 2 ((L T2 4)) (JL (((L T 0)).getD (I T2 3).toNat [])) (((L T 0)).getD (I T2 3).toNat []):=by
    rw[e31];show Bc 2 _ [U.int (I T2 7),U.int (I T2 8)] [U.int (I T2 7),U.int (I T2 8),U.int (I T2 9),U.bool (B T2 10),U.str (S T2 11),U.str (S T2 12),U.bool (B T2 13),U.int (I T2 14),U.int (I T2 15)]=_;rw[hk,e7,e8,e9,e10,e11,e12,e13,e14,e15];exact congrArg (Bc 2 _ _) (QT hu)
   have hc:¬N4 ((L T2 4)) (((L T 0)).getD (I T2 3).toNat [])=true:=fun hc=>by
    have h28:(B T2 28)=true:=(TO (e28.trans (and_congr e25 e27)) hk e16 e17 e18 e19 e20 e21 e22 e23 e24 e7 e8 e9 e10 e11 e12 e13 e14 e15).2 hc;simp[h28] at h30
   refine⟨by omega,by omega,?_,?_⟩
   .rw[h31];have:=Il (nk:=2) (m:=L T2 4) (k:=JL (((L T 0)).getD (I T2 3).toNat [])) (v:=((L T 0)).getD (I T2 3).toNat []);omega
   .rw[v4,Of hlt,if_neg hc,h31,x32,show ((I T2 3)+1).toNat=(I T2 3).toNat+1 by omega]
  .obtain⟨e5,-⟩:=F0;obtain⟨-,-,-,-,-,-,-,-,-,e30,-,e32,-⟩:=F1;simp only[AI,AP,zN,zR,w2P] at e5 e30 e32;obtain⟨v1,v2,v3,v4⟩:=inv;intro hp;have h5:=e5.1 (e30.1 hp).1;rw[fv2] at h5;have x32:=e32 (by omega) (by omega);omega
theorem eE {T:Tab}(hl0:(L T 0).length<=140737488355328)(hk0:∀u∈(L T 0),AT AF KB u)(h2:(I T 2)=((L T 0)).length)(h1:(L T 1)=[])(inv0:0<=I T 3/\I T 3<=((L T 0)).length/\((L T 4)).length<=I T 3/\Cu [] ((L T 0))=Cu ((L T 4)) (((L T 0)).drop (I T 3).toNat))(np0:¬B T 30=true)(A0:AH T Ih)(B0:AH T EL)(A1:AH T Qj):
  ((B T 33)=(NW (L T 0))):=by
 have F0:=A0;clear A0;obtain⟨F1,B0⟩:=B0.cut;have F2:=B0;clear B0;have F3:=A1;clear A1
 .obtain⟨-,e2,-⟩:=F0;obtain⟨e5,-,e7,e8,e9,e10,e11,e12,e13,e14,e15,e16,e17,e18,e19,e20,-⟩:=F1;obtain⟨e21,e22,e23,e24,e25,-,e27,e28,e29,e30,-⟩:=F2;obtain⟨e33,-⟩:=F3;simp only[AI,AP,zN,zC,zR,EN,and_true,zL,zS,uR,zW] at e2 e5 e7 e8 e9 e10 e11 e12 e13 e14 e15 e16 e17 e18 e19 e20 e21 e22 e23 e24 e25 e27 e28 e29 e30 e33;obtain⟨v1,v2,v3,v4⟩:=inv0;unfold NW;rw[v4];refine Bool.eq_iff_iff.2 ?_;rw[e33];by_cases h5:(I T 3) < I T 2
  .have hb5:=e5.2 h5;have hlt:(I T 3).toNat < ((L T 0)).length:=by omega
   have h28:(B T 28)=true:=by
    by_cases h:(B T 28)=true
    .exact h
    .exact absurd (e30.2 ⟨hb5,by simpa using h⟩) np0
   have hk:[U.int (I T 7),U.int (I T 8)]=JL (((L T 0)).getD (I T 3).toNat []):=by rw[e7,e8];rfl
   have hc:N4 ((L T 4)) (((L T 0)).getD (I T 3).toNat [])=true:=(TO (e28.trans (and_congr e25 e27)) hk e16 e17 e18 e19 e20 e21 e22 e23 e24 e7 e8 e9 e10 e11 e12 e13 e14 e15).1 h28;rw[Of hlt,if_pos hc];have:=e29.2 ⟨hb5,h28⟩;simp[this]
  .have n5:¬B T 5=true:=fun a=>h5 (e5.1 a);have n29:¬B T 29=true:=fun a=>n5 (e29.1 a).1;rw[show (I T 3).toNat=((L T 0)).length by omega,List.drop_length];simp[n29,Cu]
theorem bh:Ae Try.prog 85 HB:=by
 refine BH (l:=[]) Bh (by intro p h;exact absurd h (by simp)) df (by kernel_rfl) fun T us hpre hT hul hS hBd hE=>?_;change us.length=1 at hul;obtain⟨⟨hl0,he0⟩,-⟩:=hBd;replace hl0:(L T 0).length<=140737488355328:=hl0;have hk0:∀u∈(L T 0),AT AF KB u:=fun u hu=>by
  obtain⟨i,hi⟩:=wP.1 hu;exact he0 i u hi
 have ha0:aL us 0=L T 0:=inL hT hul (by decide);clear hpre;rw[v7,v7,v7] at hE;have hA:=hE.left;replace hE:=hE.right;have hH:=hE.left;replace hE:=hE.right;have hB:=hE.left;replace hE:=hE.right;obtain⟨A0,hS1⟩:=Ai hS (by kernel_rfl) hA;obtain⟨h2,h1⟩:=WG hl0 hk0 A0;obtain⟨ow0,hS2,inv0,np0⟩:=Xy hl0 hk0 h2 h1 hS1 hB hH;have hF2:=(Ai (hS2.append hS1) (l:=EL) (by kernel_rfl) hB);obtain⟨B0,hS⟩:=hF2;clear hA hB hH hS1 hS2;obtain⟨A1,hO⟩:=BG (tys:=[.b]) (rs:=Vf) hS (by kernel_rfl) hE;have q0:=eE hl0 hk0 h2 h1 inv0 np0 A0 B0 A1;refine⟨⟨(fun _=>ow0),trivial⟩,hO.trans ?_⟩;exact (lc (by show U.bool (B T 33)= .bool (If us);unfold If;rw[ha0];exact congrArg U.bool q0) rfl)
def L4:List U->Int:=fun us=>(B8 (aL us 0))
def JW:AV:={ sh:=[.one (.list [k64,k64,k64,.bool,.str,.str,.bool,k64,k64])],blks:=[],outs:=[(.s "checkL.0",Bl L4)],c:=(C4 1),m':=[],pre:=[] }
def Tw:List En:=[⟨1,.len,[.e 0]⟩,
 ⟨2,.lt,[.c (.int 200),.e 1]⟩,
 ⟨3,.not,[.e 2]⟩,
 ⟨4,.len,[.e 0]⟩]
def Im:List En:=Tw
def US:List En:=[⟨6,.lt,[.e 5,.e 4]⟩,
 ⟨7,.and,[.e 3,.e 6]⟩,
 ⟨8,.and,[.e 3,.n 6]⟩,
 ⟨9,.get .i 0,[.e 0,.e 5]⟩,
 ⟨10,.get .i 1,[.e 0,.e 5]⟩,
 ⟨11,.get .i 2,[.e 0,.e 5]⟩,
 ⟨12,.get .b 3,[.e 0,.e 5]⟩,
 ⟨13,.get .s 4,[.e 0,.e 5]⟩,
 ⟨14,.get .s 5,[.e 0,.e 5]⟩,
 ⟨15,.get .b 6,[.e 0,.e 5]⟩,
 ⟨16,.get .i 7,[.e 0,.e 5]⟩,
 ⟨17,.get .i 8,[.e 0,.e 5]⟩,
 ⟨18,.outI "checkSh.0" Hh,[.e 9,.e 10,.e 11,.e 12,.e 13,.e 14,.e 15,.e 16,.e 17]⟩,
 ⟨19,.ne,[.e 18,.c (.int 0)]⟩,
 ⟨20,.and,[.e 7,.e 19]⟩,
 ⟨21,.and,[.e 7,.n 19]⟩]
def VE:List En:=[⟨22,.w2 .i64 .add,[.e 5,.c (.int 1)]⟩]
def EA:List En:=US++(VE)
def PU:List ObE:=[⟨some 7,.inl,[.e 5,.e 0]⟩]
def IS:Ag:=mkD 5 1 EA 21 [.e 22] PU [0,3,4]
def LL:List Rf:=[.e 0,.e 3,.e 4,.c (.int 0)]
def UM:List En:=[⟨23,.ite .i,[.e 20,.e 5,.c (.int (-1))]⟩,
 ⟨24,.or,[.e 20,.e 8]⟩,
 ⟨25,.le,[.c (.int 0),.e 23]⟩,
 ⟨26,.and,[.e 3,.e 25]⟩,
 ⟨27,.and,[.e 3,.n 25]⟩,
 ⟨28,.outB "soundB.0" If,[.e 0]⟩,
 ⟨29,.and,[.e 27,.e 28]⟩,
 ⟨30,.and,[.e 27,.n 28]⟩,
 ⟨31,.ite .i,[.e 25,.c (.int 2),.c (.int 12)]⟩,
 ⟨32,.or,[.e 26,.e 30]⟩,
 ⟨33,.ite .i,[.e 2,.c (.int 6),.e 31]⟩,
 ⟨34,.or,[.e 2,.e 32]⟩,
 ⟨35,.ite .i,[.e 34,.e 33,.c (.int 0)]⟩,
 ⟨36,.or,[.e 34,.e 29]⟩]
def Ql:List En:=UM
def cT:List ObE:=[⟨some 3,.owes IS,[.e 0,.e 3,.e 4,.c (.int 0)]⟩]
def TY:List Rf:=[.e 35]
theorem cq:JW.sees TY (JW.run Try.prog [(43,Hy),(85,HB)] AW 3000 20 47)=some ((Im++((BS IS [.i] LL)++(EA++(Ql)))).map En.be,cT.map ObE.be,[]):=by kernel_rfl
theorem Wj {T:Tab}(hl0:(L T 0).length<=140737488355328)(hk0:∀u∈(L T 0),AT AF KB u)(A0:AH T Im):
  ((I T 4)=((L T 0)).length):=by
 have F0:=A0;clear A0;have h4:(I T 4)=((L T 0)).length:=by
  obtain⟨-,-,-,e4,-⟩:=F0;simp only[AI,zR,zL] at e4;exact e4
 exact h4
theorem Xr {T:Tab}(hl0:(L T 0).length<=140737488355328)(h4:(I T 4)=((L T 0)).length)(hS:AK T (Ab (BK 0 JW.ks) Im))(hB:Ac T (EA.map En.be))(hH:Ac T ((BS IS [.i] LL).map En.be)):
  (IS).owes (LL.map (Rf.eval T))/\AK T (hds 5 [.i])/\(0<=I T 5/\I T 5<=((L T 0)).length/\(((L T 0)).take (I T 5).toNat).all Gx=true)/\¬B T 21=true:=by
 refine CK (nh:=5) (k:=1) (pcn:=21) (top:=23) (bes:=EA) (bos:=PU) (nxt:=[.e 22]) (inits:=[.c (.int 0)]) (fv:=[0,3,4]) (tys:=[.i]) (by kernel_rfl) rfl rfl rfl rfl hS (by kernel_rfl) (by kernel_rfl) hB (BV hH) (fun s=>0<=(aI s 0)/\(aI s 0)<=((L T 0)).length/\(((L T 0)).take (aI s 0).toNat).all Gx=true) (fun s=>(((L T 0)).length - (aI s 0)).toNat) ?_ ?_
 .show 0<=(0:Int)/\(0:Int)<=((L T 0)).length/\(((L T 0)).take (0:Int).toNat).all Gx=true;clear hS hB hH;exact⟨by omega,by omega,by simp⟩
 .intro T2 hfv hF inv;replace inv:0<=I T2 5/\I T2 5<=((L T 0)).length/\(((L T 0)).take (I T2 5).toNat).all Gx=true:=inv;clear hS hB hH;replace hF:AH T2 EA:=hF;obtain⟨F0,hF⟩:=hF.cut;have F1:=hF;clear hF;have fv0:L T2 0=L T 0:=fvL (hfv 0 (by decide));have fv3:B T2 3=B T 3:=fvB (hfv 3 (by decide));have fv4:I T2 4=I T 4:=fvI (hfv 4 (by decide));clear hfv
  suffices hz:(B T2 7=true->0<=I T2 5/\I T2 5 < ((L T2 0)).length)/\(B T2 21=true->(0<=I T2 22/\I T2 22<=((L T 0)).length/\(((L T 0)).take (I T2 22).toNat).all Gx=true))/\(B T2 21=true->(((L T 0)).length - (I T2 22)).toNat < (((L T 0)).length - (I T2 5)).toNat) from
   let⟨r0,nx,mz⟩:=hz;⟨⟨r0,trivial⟩,fun hp=>⟨nx hp,mz hp⟩⟩
  refine⟨?_,?_,?_⟩
  .obtain⟨e6,e7,-⟩:=F0;simp only[AI,AP,zR] at e6 e7;obtain⟨v1,v2,v3⟩:=inv;intro hp;have h6:=e6.1 (e7.1 hp).2;rw[fv4] at h6;rw[fv0];omega
  .obtain⟨e6,e7,-,e9,e10,e11,-,e13,e14,-,e16,e17,e18,e19,-,e21,-⟩:=F0;obtain⟨e22,-⟩:=F1;replace e18:I T2 18=(Ks (I T2 9) (I T2 10) (I T2 11) (S T2 13) (S T2 14) (I T2 16) (I T2 17)):=e18;simp only[AI,AP,zN,zR,w2P,zL] at e6 e7 e9 e10 e11 e13 e14 e16 e17 e19 e21 e22;obtain⟨v1,v2,v3⟩:=inv;intro hp;have h21:=e21.1 hp;have h6:=e6.1 (e7.1 h21.1).2;rw[fv4] at h6;have x22:=e22 (by omega) (by omega);have hlt:(I T2 5).toNat < ((L T 0)).length:=by omega
   rw[fv0] at e9 e10 e11 e13 e14 e16 e17;refine⟨by omega,by omega,?_⟩;rw[x22,show ((I T2 5)+1).toNat=(I T2 5).toNat+1 by omega,GR hlt,Ut];refine⟨v3,?_⟩;have h19:¬ ¬I T2 18=0:=fun a=>by
    have:=e19.2 a;simp[this] at h21
   have h18:(I T2 18)=0:=Decidable.of_not_not h19;rw[e18,e9,e10,e11,e13,e14,e16,e17] at h18;exact decide_eq_true h18
  .obtain⟨e6,e7,-,-,-,-,-,-,-,-,-,-,-,-,-,e21,-⟩:=F0;obtain⟨e22,-⟩:=F1;simp only[AI,AP,zN,zR,w2P] at e6 e7 e21 e22;obtain⟨v1,v2,v3⟩:=inv;intro hp;have h6:=e6.1 (e7.1 (e21.1 hp).1).2;rw[fv4] at h6;have x22:=e22 (by omega) (by omega);omega
theorem dE {T:Tab}(hl0:(L T 0).length<=140737488355328)(hk0:∀u∈(L T 0),AT AF KB u)(h4:(I T 4)=((L T 0)).length)(inv0:0<=I T 5/\I T 5<=((L T 0)).length/\(((L T 0)).take (I T 5).toNat).all Gx=true)(np0:¬B T 21=true)(A0:AH T Im)(B0:AH T EA)(A1:AH T Ql):
  ((I T 35)=(B8 (L T 0))):=by
 have F0:=A0;clear A0;obtain⟨F1,B0⟩:=B0.cut;have F2:=B0;clear B0;have F3:=A1;clear A1
 .obtain⟨e1,e2,e3,e4,-⟩:=F0;obtain⟨e6,e7,-,e9,e10,e11,-,e13,e14,-,e16,e17,e18,e19,e20,e21,-⟩:=F1;obtain⟨e23,-,e25,e26,e27,e28,-,e30,e31,e32,e33,e34,e35,-⟩:=F3;replace e18:I T 18=(Ks (I T 9) (I T 10) (I T 11) (S T 13) (S T 14) (I T 16) (I T 17)):=e18;replace e28:B T 28=(NW (L T 0)):=e28;simp only[AI,AP,zN,zR,zL,zS] at e1 e2 e3 e4 e6 e7 e9 e10 e11 e13 e14 e16 e17 e19 e20 e21 e23 e25 e26 e27 e30 e31 e32 e33 e34 e35;obtain⟨v1,v2,v3⟩:=inv0;unfold B8;rw[e35];by_cases h2:200 < ((L T 0)).length
  .have g2:=e2.2 (by rw[e1];omega);rw[if_pos h2,if_pos (e34.2 (.inl g2)),e33,if_pos g2]
  .have n2:¬B T 2=true:=fun a=>by have:=e2.1 a;rw[e1] at this;omega
   have h3:=e3.2 (by simpa using n2);rw[if_neg h2,e33,if_neg n2,e31];by_cases h6:(I T 5) < I T 4
   .have h7:=e7.2 ⟨h3,e6.2 h6⟩;have g19:(B T 19)=true:=by
     by_cases h19:(B T 19)=true
     .exact h19
     .exact absurd (e21.2 ⟨h7,by simpa using h19⟩) np0
    have hlt:(I T 5).toNat < ((L T 0)).length:=by omega
    have na:¬((L T 0)).all Gx=true:=fun a=>by
     have h1:=of_decide_eq_true (wR.1 a _ (Dj hlt));have h18:=e19.1 g19;rw[e18,e9,e10,e11,e13,e14,e16,e17] at h18;exact h18 h1
    have g25:(B T 25)=true:=e25.2 (by rw[e23,if_pos (e20.2 ⟨h7,g19⟩)];omega);rw[if_pos na,if_pos (e34.2 (.inr (e32.2 (.inl (e26.2 ⟨h3,g25⟩))))),if_pos g25]
   .have n6:¬B T 6=true:=fun a=>h6 (e6.1 a);have n20:¬B T 20=true:=fun a=>n6 (e7.1 (e20.1 a).1).2;have n25:¬B T 25=true:=fun a=>by have:=e25.1 a;rw[e23,if_neg n20] at this;omega
    have ei:(I T 5).toNat=((L T 0)).length:=by omega
    rw[ei,List.take_length] at v3;have nv:¬ ¬((L T 0)).all Gx=true:=fun a=>a v3;rw[if_neg nv,if_neg n25,<-e28];have h27:=e27.2 ⟨h3,by simpa using n25⟩;by_cases hs:(B T 28)=true
    .rw[if_pos hs,if_neg];intro a;rcases e34.1 a with a|a
     .exact n2 a
     .rcases e32.1 a with a|a
      .exact n25 (e26.1 a).2
      .have:=(e30.1 a).2;simp[hs] at this
    .rw[if_neg hs,if_pos (e34.2 (.inr (e32.2 (.inr (e30.2 ⟨h27,by simpa using hs⟩)))))]
theorem bH:Ae Try.prog 47 JW:=by
 refine BH (l:=[(43,Hy),(85,HB)]) Bh (by simp only[wJ];exact⟨Ym,bh,fun _ h=>absurd h (by simp)⟩) cq (by kernel_rfl) fun T us hpre hT hul hS hBd hE=>?_;change us.length=1 at hul;obtain⟨⟨hl0,he0⟩,-⟩:=hBd;replace hl0:(L T 0).length<=140737488355328:=hl0;have hk0:∀u∈(L T 0),AT AF KB u:=fun u hu=>by
  obtain⟨i,hi⟩:=wP.1 hu;exact he0 i u hi
 have ha0:aL us 0=L T 0:=inL hT hul (by decide);clear hpre;rw[v7,v7,v7] at hE;have hA:=hE.left;replace hE:=hE.right;have hH:=hE.left;replace hE:=hE.right;have hB:=hE.left;replace hE:=hE.right;obtain⟨A0,hS1⟩:=Ai hS (by kernel_rfl) hA;have h4:=Wj hl0 hk0 A0;obtain⟨ow0,hS2,inv0,np0⟩:=Xr hl0 h4 hS1 hB hH;have hF2:=(Ai (hS2.append hS1) (l:=EA) (by kernel_rfl) hB);obtain⟨B0,hS⟩:=hF2;clear hA hB hH hS1 hS2;obtain⟨A1,hO⟩:=BG (tys:=[.i]) (rs:=TY) hS (by kernel_rfl) hE;have q0:=dE hl0 hk0 h4 inv0 np0 A0 B0 A1;refine⟨⟨(fun _=>ow0),trivial⟩,hO.trans ?_⟩;exact (lc (by show U.int (I T 35)= .int (L4 us);unfold L4;rw[ha0];exact congrArg U.int q0) rfl)
end
section
open Go Go.Eng Go.Proofs
def OT:List U->Int:=fun us=>(B8 (aL us 0))
def Og:List U->Prop:=fun us=>B8 (aL us 0)=0
def MZ:AV:={ sh:=JW.sh,blks:=[],outs:=[(.s "checkLk.0",Bl OT)],c:= .ci .i64 0,m':=[],pre:=[(.s "checkLk.p0",Og)] }
theorem ZL:Ae Try.prog 47 MZ:=Ru bH rfl rfl rfl rfl rfl (fun _=>rfl) rfl rfl fun us hul hp=>by
 have h0:=hp _ (wY.2 rfl);replace h0:B8 (aL us 0)=0:=h0;have hul:us.length=1:=hul
 match us,hul,h0 with
 |[u],_,h0=>exact⟨congrArg (fun z=>some (U.int z)) h0,fun q hq=>by cases hq⟩
end
section
open Go Go.Eng Go.Proofs
set_option maxHeartbeats 4000000
set_option maxRecDepth 100000
def LR:List U->List (List U):=fun us=>(Bv (aL us 0))
def Fz:AV:={ sh:=[.one (.list [k64,k64,k64,.bool,.str,.str,.bool,k64,k64])],blks:=[],outs:=[(.s "books1.0",Eg LR)],c:= .ro 1 [k64,k64,k64,k64,.bool,.str,.str,.bool,k64,k64],m':=[],pre:=[] }
def VM:List En:=[⟨1,.id .l,[.c (.list [])]⟩,
 ⟨2,.len,[.e 0]⟩]
def Gl:List En:=VM
def Tc:List En:=[⟨5,.lt,[.e 3,.e 2]⟩,
 ⟨6,.not,[.e 5]⟩,
 ⟨7,.get .i 0,[.e 0,.e 3]⟩,
 ⟨8,.get .i 1,[.e 0,.e 3]⟩,
 ⟨9,.get .i 2,[.e 0,.e 3]⟩,
 ⟨10,.get .b 3,[.e 0,.e 3]⟩,
 ⟨11,.get .s 4,[.e 0,.e 3]⟩,
 ⟨12,.get .s 5,[.e 0,.e 3]⟩,
 ⟨13,.get .b 6,[.e 0,.e 3]⟩,
 ⟨14,.get .i 7,[.e 0,.e 3]⟩,
 ⟨15,.get .i 8,[.e 0,.e 3]⟩,
 ⟨16,.mget .i 1 0 [.i],[.e 4,.c (.int 0),.e 7]⟩,
 ⟨17,.mget .i 1 1 [.i],[.e 4,.c (.int 0),.e 7]⟩,
 ⟨18,.mget .i 1 2 [.i],[.e 4,.c (.int 0),.e 7]⟩,
 ⟨19,.mget .b 1 3 [.i],[.e 4,.c (.bool false),.e 7]⟩,
 ⟨20,.mget .s 1 4 [.i],[.e 4,.c (.str ⟨#[]⟩),.e 7]⟩]
def VC:List En:=[⟨21,.mget .s 1 5 [.i],[.e 4,.c (.str ⟨#[]⟩),.e 7]⟩,
 ⟨22,.mget .b 1 6 [.i],[.e 4,.c (.bool false),.e 7]⟩,
 ⟨23,.mget .i 1 7 [.i],[.e 4,.c (.int 0),.e 7]⟩,
 ⟨24,.mget .i 1 8 [.i],[.e 4,.c (.int 0),.e 7]⟩,
 ⟨25,.mhas 1 [.i],[.e 4,.e 7]⟩,
 ⟨26,.and,[.e 5,.e 25]⟩,
 ⟨27,.lt,[.e 17,.e 8]⟩,
 ⟨28,.or,[.n 25,.e 27]⟩,
 ⟨29,.and,[.e 5,.e 28]⟩,
 ⟨30,.mset 1 [.i,.i,.i,.i,.b,.s,.s,.b,.i,.i],[.e 4,.e 7,.e 7,.e 8,.e 9,.e 10,.e 11,.e 12,.e 13,.e 14,.e 15]⟩,
 ⟨31,.and,[.e 5,.n 28]⟩,
 ⟨32,.ite .l,[.e 28,.e 30,.e 4]⟩,
 ⟨33,.w2 .i64 .add,[.e 3,.c (.int 1)]⟩]
def Dh:List En:=Tc++(VC)
def P1:List ObE:=[⟨some 29,.fits 1,[.e 4,.c (.list [[]])]⟩,⟨some 5,.inl,[.e 3,.e 0]⟩]
def Gu:Ag:=mkD 3 2 Dh 5 [.e 33,.e 32] P1 [0,2]
def Ib:List Rf:=[.e 0,.e 2,.c (.int 0),.e 1]
def PY:List En:=[]
def VQ:List ObE:=[⟨none,.owes Gu,[.e 0,.e 2,.c (.int 0),.e 1]⟩]
def VJ:List Rf:=[.e 4]
theorem WO {T:Tab}(hl0:(L T 0).length<=140737488355328)(hk0:∀u∈(L T 0),AT AF KB u)(A0:AH T Gl):
  ((I T 2)=((L T 0)).length)/\((L T 1)=[]):=by
 have F0:=A0;clear A0;have h2:(I T 2)=((L T 0)).length:=by
  obtain⟨-,e2,-⟩:=F0;simp only[AI,zR,zL] at e2;exact e2
 have h1:(L T 1)=[]:=by
  obtain⟨e1,-⟩:=F0;simp only[AI,zR,zL,zS] at e1;exact e1
 exact⟨h2,h1⟩
theorem YW {T:Tab}(hl0:(L T 0).length<=140737488355328)(hk0:∀u∈(L T 0),AT AF KB u)(h2:(I T 2)=((L T 0)).length)(h1:(L T 1)=[])(hS:AK T (Ab (BK 0 Fz.ks) Gl))(hB:Ac T (Dh.map En.be))(hH:Ac T ((BS Gu [.i,.l] Ib).map En.be)):
  (Gu).owes (Ib.map (Rf.eval T))/\AK T (hds 3 [.i,.l])/\(0<=I T 3/\I T 3<=((L T 0)).length/\L T 4=Bv (((L T 0)).take (I T 3).toNat))/\¬B T 5=true:=by
 refine CK (nh:=3) (k:=2) (pcn:=5) (top:=34) (bes:=Dh) (bos:=P1) (nxt:=[.e 33,.e 32]) (inits:=[.c (.int 0),.e 1]) (fv:=[0,2]) (tys:=[.i,.l]) (by kernel_rfl) rfl rfl rfl rfl hS (by kernel_rfl) (by kernel_rfl) hB (BV hH) (fun s=>0<=(aI s 0)/\(aI s 0)<=((L T 0)).length/\(aL s 1)=Bv (((L T 0)).take (aI s 0).toNat)) (fun s=>(((L T 0)).length - (aI s 0)).toNat) ?_ ?_
 .show 0<=(0:Int)/\(0:Int)<=((L T 0)).length/\L T 1=Bv (((L T 0)).take (0:Int).toNat);clear hS hB hH;exact⟨by omega,by omega,by rw[show (0:Int).toNat=0 from rfl,List.take_zero];exact h1⟩
 .intro T2 hfv hF inv;replace inv:0<=I T2 3/\I T2 3<=((L T 0)).length/\L T2 4=Bv (((L T 0)).take (I T2 3).toNat):=inv;clear hS hB hH;replace hF:AH T2 Dh:=hF;obtain⟨F0,hF⟩:=hF.cut;have F1:=hF;clear hF;have fv0:L T2 0=L T 0:=fvL (hfv 0 (by decide));have fv2:I T2 2=I T 2:=fvI (hfv 2 (by decide));clear hfv
  suffices hz:(B T2 29=true->(((L T2 4)).length+(([[]]:List (List U))).length)*1<=140737488355328)/\(B T2 5=true->0<=I T2 3/\I T2 3 < ((L T2 0)).length)/\(B T2 5=true->(0<=I T2 33/\I T2 33<=((L T 0)).length/\L T2 32=Bv (((L T 0)).take (I T2 33).toNat)))/\(B T2 5=true->(((L T 0)).length - (I T2 33)).toNat < (((L T 0)).length - (I T2 3)).toNat) from
   let⟨r0,r1,nx,mz⟩:=hz;⟨⟨r0,r1,trivial⟩,fun hp=>⟨nx hp,mz hp⟩⟩
  refine⟨?_,?_,?_,?_⟩
  .obtain⟨e5,-⟩:=F0;obtain⟨-,-,-,-,-,-,-,-,e29,-⟩:=F1;simp only[AI,AP,zR] at e5 e29;obtain⟨v1,v2,v3⟩:=inv;intro hp;have h5:=e5.1 (e29.1 hp).1;rw[fv2] at h5;have h6:=U0 (l:=((L T 0)).take (I T2 3).toNat);rw[<-v3,wb] at h6;show (((L T2 4)).length+1)*1<=_;omega
  .obtain⟨e5,-⟩:=F0;simp only[AI,zR] at e5;obtain⟨v1,v2,v3⟩:=inv;intro hp;have h5:=e5.1 hp;rw[fv2] at h5;rw[fv0];omega
  .obtain⟨e5,-,e7,e8,e9,e10,e11,e12,e13,e14,e15,-,e17,-⟩:=F0;obtain⟨-,-,-,-,e25,-,e27,e28,-,e30,-,e32,e33,-⟩:=F1;simp only[AI,AP,zN,zR,w2P,zL,zS,uR,zW,zC] at e5 e7 e8 e9 e10 e11 e12 e13 e14 e15 e17 e25 e27 e28 e30 e32 e33;obtain⟨v1,v2,v3⟩:=inv;intro hp;have h5:=e5.1 hp;rw[fv2] at h5;have x33:=e33 (by omega) (by omega);refine⟨by omega,by omega,?_⟩;have hlt:(I T2 3).toNat < ((L T 0)).length:=by omega
   rw[x33,show ((I T2 3)+1).toNat=(I T2 3).toNat+1 by omega,GR hlt,Y2,<-v3];have hu:=hk0 _ (Dj hlt);rw[fv0] at e7 e8 e9 e10 e11 e12 e13 e14 e15;unfold Gp;have hb:(B T2 28)=true↔(¬Mz ((L T2 4)) (uI (((L T 0)).getD (I T2 3).toNat []) 0)\/verN ((L T2 4)) (uI (((L T 0)).getD (I T2 3).toNat []) 0) < uI (((L T 0)).getD (I T2 3).toNat []) 1):=by
    rw[e28,<-Bool.not_eq_true,e25,e27,e17,e7,e8];exact Iff.rfl
   rw[e32];by_cases hc:(B T2 28)=true
   .rw[if_pos hc,if_pos (hb.1 hc),e30];show Bc 1 _ [U.int (I T2 7)] [U.int (I T2 7),U.int (I T2 8),U.int (I T2 9),U.bool (B T2 10),U.str (S T2 11),U.str (S T2 12),U.bool (B T2 13),U.int (I T2 14),U.int (I T2 15)]=_;rw[e7,e8,e9,e10,e11,e12,e13,e14,e15];exact congrArg (Bc 1 _ _) (QT hu)
   .rw[if_neg hc,if_neg (fun a=>hc (hb.2 a))]
  .obtain⟨e5,-⟩:=F0;obtain⟨-,-,-,-,-,-,-,-,-,-,-,-,e33,-⟩:=F1;simp only[AI,zR,w2P] at e5 e33;obtain⟨v1,v2,v3⟩:=inv;intro hp;have h5:=e5.1 hp;rw[fv2] at h5;have x33:=e33 (by omega) (by omega);omega
theorem fA {T:Tab}(hl0:(L T 0).length<=140737488355328)(hk0:∀u∈(L T 0),AT AF KB u)(h2:(I T 2)=((L T 0)).length)(h1:(L T 1)=[])(inv0:0<=I T 3/\I T 3<=((L T 0)).length/\L T 4=Bv (((L T 0)).take (I T 3).toNat))(np0:¬B T 5=true)(A0:AH T Gl)(B0:AH T Dh):
  ((L T 4)=(Bv (L T 0))):=by
 have F0:=A0;clear A0;obtain⟨F1,B0⟩:=B0.cut;have F2:=B0;clear B0
 .obtain⟨e5,-⟩:=F1;simp only[AI,zR] at e5;obtain⟨v1,v2,v3⟩:=inv0;have h5:¬I T 3 < I T 2:=fun a=>np0 (e5.2 a);rw[v3,show (I T 3).toNat=((L T 0)).length by omega,List.take_length]
theorem cE:∀(T:Tab) (us:List U),(∀p∈Fz.pre,p.2 us)->(∀j u,us[j]? =some u->T j=u)->us.length=Fz.n->AK T (BK 0 Fz.ks)->Bnd T 0 Fz.ks->Ac T ((Gl++((BS Gu [.i,.l] Ib)++(Dh++(PY)))).map En.be)->G5 T VQ/\VJ.map (Rf.eval T)=Fz.outs.map fun o=>o.2 us:=by
 intro T us hpre hT hul hS hBd hE;change us.length=1 at hul;obtain⟨⟨hl0,he0⟩,-⟩:=hBd;replace hl0:(L T 0).length<=140737488355328:=hl0;have hk0:∀u∈(L T 0),AT AF KB u:=fun u hu=>by
  obtain⟨i,hi⟩:=wP.1 hu;exact he0 i u hi
 have ha0:aL us 0=L T 0:=inL hT hul (by decide);clear hpre;rw[v7,v7,v7] at hE;have hA:=hE.left;replace hE:=hE.right;have hH:=hE.left;replace hE:=hE.right;have hB:=hE.left;replace hE:=hE.right;obtain⟨A0,hS1⟩:=Ai hS (by kernel_rfl) hA;obtain⟨h2,h1⟩:=WO hl0 hk0 A0;obtain⟨ow0,hS2,inv0,np0⟩:=YW hl0 hk0 h2 h1 hS1 hB hH;have hF2:=(Ai (hS2.append hS1) (l:=Dh) (by kernel_rfl) hB);obtain⟨B0,hS⟩:=hF2;clear hA hB hH hS1 hS2;obtain⟨A1,hO⟩:=BG (tys:=[.l]) (rs:=VJ) hS (by kernel_rfl) hE;have q0:=fA hl0 hk0 h2 h1 inv0 np0 A0 B0;refine⟨⟨(fun _=>ow0),trivial⟩,hO.trans ?_⟩;exact (lc (by show U.list (L T 4)= .list (LR us);unfold LR;rw[ha0];exact congrArg U.list q0) rfl)
def JC:List U->Int:=fun us=>(Ba (aI us 0) (aI us 1))
def Ma:AV:={ sh:=[.one (k64),.one (k64)],blks:=[],outs:=[(.s "cmpI.0",Bl JC)],c:=(C4 2),m':=[],pre:=[] }
def Yi:List En:=[⟨2,.lt,[.e 0,.e 1]⟩,
 ⟨3,.not,[.e 2]⟩,
 ⟨4,.lt,[.e 1,.e 0]⟩,
 ⟨5,.and,[.e 3,.e 4]⟩,
 ⟨6,.and,[.e 3,.n 4]⟩,
 ⟨7,.ite .i,[.e 5,.c (.int 1),.c (.int 0)]⟩,
 ⟨8,.or,[.e 5,.e 6]⟩,
 ⟨9,.ite .i,[.e 2,.c (.int (-1)),.e 7]⟩,
 ⟨10,.or,[.e 2,.e 8]⟩]
def VX:List En:=Yi
def hZ:List ObE:=[]
def bd:List Rf:=[.e 9]
theorem iD:Ma.sees bd (Ma.run Try.prog [] AW 3000 20 103)=some ((VX).map En.be,hZ.map ObE.be,[]):=by kernel_rfl
theorem iN {T:Tab}(A0:AH T VX):
  ((I T 9)=(Ba (I T 0) (I T 1))):=by
 have F0:=A0;clear A0
 .obtain⟨e2,e3,e4,e5,-,e7,-,e9,-⟩:=F0;simp only[AI,AP,zR,zL,zS] at e2 e3 e4 e5 e7 e9;unfold Ba;rw[e9,e7];by_cases h1:(I T 0) < I T 1
  .rw[if_pos (e2.2 h1),if_pos h1]
  .have h2:¬B T 2=true:=fun a=>h1 (e2.1 a);rw[if_neg h2,if_neg h1];by_cases h3:(I T 1) < I T 0
   .rw[if_pos (e5.2 ⟨e3.2 h2,e4.2 h3⟩),if_pos h3]
   .rw[if_neg (fun a=>h3 (e4.1 (e5.1 a).2)),if_neg h3]
theorem gZ:Ae Try.prog 103 Ma:=by
 refine BH (l:=[]) Bh (by intro p h;exact absurd h (by simp)) iD (by kernel_rfl) fun T us hpre hT hul hS hBd hE=>?_;change us.length=2 at hul;clear hBd;have ha0:aI us 0=I T 0:=inI hT hul (by decide);have ha1:aI us 1=I T 1:=inI hT hul (by decide);clear hpre
 skip
 obtain⟨A0,hO⟩:=BG (tys:=[.i]) (rs:=bd) hS (by kernel_rfl) hE;have q0:=iN A0;refine⟨trivial,hO.trans ?_⟩;exact (lc (by show U.int (I T 9)= .int (JC us);unfold JC;rw[ha0,ha1];exact congrArg U.int q0) rfl)
def Lt:List U->Int:=fun us=>(if Ba (aI us 2) (aI us 11)=0 then Ba (aI us 0) (aI us 9) else Ba (aI us 2) (aI us 11))
def My:AV:={ sh:=[.agg [k64,k64,k64,.bool,.str,.str,.bool,k64,k64],.agg [k64,k64,k64,.bool,.str,.str,.bool,k64,k64]],blks:=[],outs:=[(.s "cmpB.0",Bl Lt)],c:=(C4 18),m':=[],pre:=[] }
def YK:List En:=[⟨18,.outI "cmpI.0" JC,[.e 2,.e 11]⟩,
 ⟨19,.outI "cmpI.0" JC,[.e 0,.e 9]⟩,
 ⟨20,.ne,[.e 18,.c (.int 0)]⟩,
 ⟨21,.not,[.e 20]⟩,
 ⟨22,.ne,[.e 19,.c (.int 0)]⟩,
 ⟨23,.and,[.e 21,.e 22]⟩,
 ⟨24,.and,[.e 21,.n 22]⟩,
 ⟨25,.ite .i,[.e 20,.e 18,.e 19]⟩,
 ⟨26,.ite .i,[.e 20,.e 18,.e 19]⟩,
 ⟨27,.ite .i,[.e 20,.c (.int 0),.c (.int 1)]⟩,
 ⟨28,.ite .b,[.e 20,.e 20,.e 22]⟩,
 ⟨29,.or,[.e 20,.e 23]⟩,
 ⟨30,.ite .i,[.e 29,.e 25,.e 19]⟩,
 ⟨31,.ite .b,[.e 29,.c (.bool true),.c (.bool false)]⟩,
 ⟨32,.ite .i,[.e 29,.e 26,.c (.int 0)]⟩,
 ⟨33,.ite .i,[.e 29,.e 27,.c (.int 2)]⟩]
def Yw:List En:=[⟨34,.ite .b,[.e 29,.e 28,.e 22]⟩,
 ⟨35,.or,[.e 29,.e 24]⟩]
def VY:List En:=YK++(Yw)
def iX:List ObE:=[]
def Zr:List Rf:=[.e 32]
end
end Go.Eng
end
