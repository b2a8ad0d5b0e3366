/-
  A part of the proof: K_moved K_move.
-/
import Derived.Test.YtikbgnmcfncnaaaE4
import Derived.Test.YtikbgnmcfncnaaaE5
import Derived.Test.YtikbgnmcfncnaaaKtrig
set_option linter.unusedVariables false
set_option linter.unusedSimpArgs false
noncomputable section
namespace Go.Eng
section
open Go Go.Eng Go.Proofs
set_option maxHeartbeats 4000000
set_option maxRecDepth 100000
def JM:List U->Int:=fun us=>(Ax (aI us 2) (aI us 0))
def Jc:List U->Int:=fun us=>(CT (Ax (aI us 2) (aI us 0)) (aI us 3))
def HE:List U->Prop:=fun us=> -10000<=(aI us 2)/\(aI us 2)<=10000/\ -12<=(aI us 3)/\(aI us 3)<=48/\ -100<=(aI us 0)/\(aI us 0)<=100
def IF:AV:={ sh:=[.ptr 0 0,.one (k64)],blks:=[([.str,k64,k64],23)],outs:=[(.s "move.0",Bl JM),(.s "move.1",Bl Jc)],c:= .tup [],m':=[.cells [.s 1,(C4 4),(C4 5)] 23],pre:=[(.s "move.p0",HE)] }
def X1:List En:=[⟨4,.w2 .i64 .add,[.e 2,.e 0]⟩,
 ⟨5,.o2 .max,[.e 4,.c (.int (-10000))]⟩,
 ⟨6,.o2 .min,[.e 5,.c (.int 10000)]⟩]
def HG:List En:=X1
def Xw:List En:=[⟨8,.lt,[.c (.int (-12)),.e 7]⟩,
 ⟨9,.id .b,[.e 8]⟩,
 ⟨10,.id .b,[.e 8]⟩,
 ⟨11,.w2 .i64 .sub,[.e 7,.c (.int 1)]⟩,
 ⟨12,.outI "trig.0" HL,[.e 11]⟩,
 ⟨13,.le,[.e 12,.e 6]⟩,
 ⟨14,.and,[.e 8,.e 13]⟩,
 ⟨15,.not,[.e 14]⟩,
 ⟨16,.w2 .i64 .sub,[.e 7,.c (.int 1)]⟩]
def D9:List En:=Xw
def VP:List ObE:=[⟨some 10,.pre "trig.p0" Ft,[.e 11]⟩]
def L7:Ag:=mkD 7 1 D9 14 [.e 16] VP [6]
def Or:List Rf:=[.e 6,.e 3]
def UG:List En:=[]
def YS:List En:=[⟨18,.lt,[.e 17,.c (.int 48)]⟩,
 ⟨19,.and,[.e 15,.e 18]⟩,
 ⟨20,.and,[.e 15,.e 18]⟩,
 ⟨21,.w2 .i64 .add,[.e 17,.c (.int 1)]⟩,
 ⟨22,.outI "trig.0" HL,[.e 21]⟩,
 ⟨23,.le,[.e 6,.e 22]⟩,
 ⟨24,.and,[.e 18,.e 23]⟩,
 ⟨25,.and,[.e 15,.e 24]⟩,
 ⟨26,.and,[.e 15,.n 24]⟩,
 ⟨27,.w2 .i64 .add,[.e 17,.c (.int 1)]⟩]
def Fx:List En:=YS
def VZ:List ObE:=[⟨some 20,.pre "trig.p0" Ft,[.e 21]⟩]
def LN:Ag:=mkD 17 1 Fx 25 [.e 27] VZ [15,6]
def PL:List Rf:=[.e 15,.e 6,.e 7]
def dX:List En:=[]
def hM:List ObE:=[⟨some 15,.owes LN,[.e 15,.e 6,.e 7]⟩,
 ⟨none,.owes L7,[.e 6,.e 3]⟩]
def bK:List Rf:=[.e 6,.e 17]
theorem iZ:IF.sees bK (IF.run Try.prog [(69,Hp)] AW 3000 20 98)=some ((HG++((BS L7 [.i] Or)++(D9++(UG++((BS LN [.i] PL)++(Fx++(dX))))))).map En.be,hM.map ObE.be,[]):=by kernel_rfl
theorem bv {T:Tab}(hz1:(S T 1).size<=140737488355328)(pre0: -10000<=I T 2/\I T 2<=10000/\ -12<=I T 3/\I T 3<=48/\ -100<=I T 0/\I T 0<=100)(A0:AH T HG):
  (-12<=I T 3/\I T 3<=48):=by
 have F0:=A0;clear A0;have hgr: -12<=I T 3/\I T 3<=48:=by
  exact⟨pre0.2.2.1,pre0.2.2.2.1⟩
 exact hgr
theorem eH {T:Tab}(hgr: -12<=I T 3/\I T 3<=48)(hS:AK T (Ab (BK 0 IF.ks) HG))(hB:Ac T (D9.map En.be))(hH:Ac T ((BS L7 [.i] Or).map En.be)):
  (L7).owes (Or.map (Rf.eval T))/\AK T (hds 7 [.i])/\(-12<=I T 7/\I T 7<=48/\BX (I T 6) (I T 7)=BX (I T 6) (I T 3))/\¬B T 14=true:=by
 refine CK (nh:=7) (k:=1) (pcn:=14) (top:=17) (bes:=D9) (bos:=VP) (nxt:=[.e 16]) (inits:=[.e 3]) (fv:=[6]) (tys:=[.i]) (by kernel_rfl) rfl rfl rfl rfl hS (by kernel_rfl) (by kernel_rfl) hB (BV hH) (fun s=> -12<=(aI s 0)/\(aI s 0)<=48/\BX (I T 6) (aI s 0)=BX (I T 6) (I T 3)) (fun s=>((aI s 0)+12).toNat) ?_ ?_
 .show -12<=I T 3/\I T 3<=48/\BX (I T 6) (I T 3)=BX (I T 6) (I T 3);clear hS hB hH;exact⟨hgr.1,hgr.2,rfl⟩
 .intro T2 hfv hF inv;replace inv: -12<=I T2 7/\I T2 7<=48/\BX (I T 6) (I T2 7)=BX (I T 6) (I T 3):=inv;clear hS hB hH;replace hF:AH T2 D9:=hF;have F0:=hF;clear hF;have fv6:I T2 6=I T 6:=fvI (hfv 6 (by decide));clear hfv
  suffices hz:(B T2 10=true-> -100<=I T2 11/\I T2 11<=100)/\(B T2 14=true->(-12<=I T2 16/\I T2 16<=48/\BX (I T 6) (I T2 16)=BX (I T 6) (I T 3)))/\(B T2 14=true->((I T2 16)+12).toNat < ((I T2 7)+12).toNat) from
   let⟨r0,nx,mz⟩:=hz;⟨⟨r0,trivial⟩,fun hp=>⟨nx hp,mz hp⟩⟩
  refine⟨?_,?_,?_⟩
  .obtain⟨-,-,-,e11,-⟩:=F0;simp only[AI,zR,w2P] at e11;obtain⟨v1,v2,v3⟩:=inv;intro hp;have x11:=e11 (by omega) (by omega);omega
  .obtain⟨e8,-,-,e11,e12,e13,e14,-,e16,-⟩:=F0;replace e12:I T2 12=(BU (I T2 11)):=e12;simp only[AI,AP,zR,w2P] at e8 e11 e13 e14 e16;obtain⟨v1,v2,v3⟩:=inv;intro hp;have h14:=e14.1 hp;have h8:=e8.1 h14.1;have h13:=e13.1 h14.2;have x11:=e11 (by omega) (by omega);have x16:=e16 (by omega) (by omega);rw[e12,x11,fv6] at h13;refine⟨by omega,by omega,?_⟩;rw[x16,<-v3];exact (Rz h8 h13).symm
  .obtain⟨e8,-,-,-,-,-,e14,-,e16,-⟩:=F0;simp only[AI,AP,zR,w2P] at e8 e14 e16;obtain⟨v1,v2,v3⟩:=inv;intro hp;have h8:=e8.1 (e14.1 hp).1;have x16:=e16 (by omega) (by omega);omega
theorem ZT {T:Tab}(hz1:(S T 1).size<=140737488355328)(pre0: -10000<=I T 2/\I T 2<=10000/\ -12<=I T 3/\I T 3<=48/\ -100<=I T 0/\I T 0<=100)(hgr: -12<=I T 3/\I T 3<=48)(inv0: -12<=I T 7/\I T 7<=48/\BX (I T 6) (I T 7)=BX (I T 6) (I T 3))(np0:¬B T 14=true)(A0:AH T HG)(B0:AH T D9):
  (-12<=I T 7/\I T 7<=48):=by
 have F0:=A0;clear A0;have F1:=B0;clear B0;have hg1: -12<=I T 7/\I T 7<=48:=by
  exact⟨inv0.1,inv0.2.1⟩
 exact hg1
theorem eh {T:Tab}(hg1: -12<=I T 7/\I T 7<=48)(hS:AK T (Ab (Ab (hds 7 [.i]++(Ab (BK 0 IF.ks) HG)) D9) UG))(hB:Ac T (Fx.map En.be))(hH:Ac T ((BS LN [.i] PL).map En.be)):
  (LN).owes (PL.map (Rf.eval T))/\AK T (hds 17 [.i])/\(-12<=I T 17/\I T 17<=48/\upG (I T 6) (I T 17)=upG (I T 6) (I T 7))/\¬B T 25=true:=by
 refine CK (nh:=17) (k:=1) (pcn:=25) (top:=28) (bes:=Fx) (bos:=VZ) (nxt:=[.e 27]) (inits:=[.e 7]) (fv:=[15,6]) (tys:=[.i]) (by kernel_rfl) rfl rfl rfl rfl hS (by kernel_rfl) (by kernel_rfl) hB (BV hH) (fun s=> -12<=(aI s 0)/\(aI s 0)<=48/\upG (I T 6) (aI s 0)=upG (I T 6) (I T 7)) (fun s=>(48 - (aI s 0)).toNat) ?_ ?_
 .show -12<=I T 7/\I T 7<=48/\upG (I T 6) (I T 7)=upG (I T 6) (I T 7);clear hS hB hH;exact⟨hg1.1,hg1.2,rfl⟩
 .intro T2 hfv hF inv;replace inv: -12<=I T2 17/\I T2 17<=48/\upG (I T 6) (I T2 17)=upG (I T 6) (I T 7):=inv;clear hS hB hH;replace hF:AH T2 Fx:=hF;have F0:=hF;clear hF;have fv15:B T2 15=B T 15:=fvB (hfv 15 (by decide));have fv6:I T2 6=I T 6:=fvI (hfv 6 (by decide));clear hfv
  suffices hz:(B T2 20=true-> -100<=I T2 21/\I T2 21<=100)/\(B T2 25=true->(-12<=I T2 27/\I T2 27<=48/\upG (I T 6) (I T2 27)=upG (I T 6) (I T 7)))/\(B T2 25=true->(48 - (I T2 27)).toNat < (48 - (I T2 17)).toNat) from
   let⟨r0,nx,mz⟩:=hz;⟨⟨r0,trivial⟩,fun hp=>⟨nx hp,mz hp⟩⟩
  refine⟨?_,?_,?_⟩
  .obtain⟨-,-,-,e21,-⟩:=F0;simp only[AI,zR,w2P] at e21;obtain⟨v1,v2,v3⟩:=inv;intro hp;have x21:=e21 (by omega) (by omega);omega
  .obtain⟨e18,-,-,e21,e22,e23,e24,e25,-,e27,-⟩:=F0;replace e22:I T2 22=(BU (I T2 21)):=e22;simp only[AI,AP,zR,w2P] at e18 e21 e23 e24 e25 e27;obtain⟨v1,v2,v3⟩:=inv;intro hp;have h24:=e24.1 (e25.1 hp).2;have h18:=e18.1 h24.1;have h23:=e23.1 h24.2;have x21:=e21 (by omega) (by omega);have x27:=e27 (by omega) (by omega);rw[e22,x21,fv6] at h23;refine⟨by omega,by omega,?_⟩;rw[x27,<-v3];exact (Q5 h18 h23).symm
  .obtain⟨e18,-,-,-,-,-,e24,e25,-,e27,-⟩:=F0;simp only[AI,AP,zR,w2P] at e18 e24 e25 e27;obtain⟨v1,v2,v3⟩:=inv;intro hp;have h18:=e18.1 (e24.1 (e25.1 hp).2).1;have x27:=e27 (by omega) (by omega);omega
theorem iK {T:Tab}(hz1:(S T 1).size<=140737488355328)(pre0: -10000<=I T 2/\I T 2<=10000/\ -12<=I T 3/\I T 3<=48/\ -100<=I T 0/\I T 0<=100)(hgr: -12<=I T 3/\I T 3<=48)(inv0: -12<=I T 7/\I T 7<=48/\BX (I T 6) (I T 7)=BX (I T 6) (I T 3))(np0:¬B T 14=true)(hg1: -12<=I T 7/\I T 7<=48)(inv1: -12<=I T 17/\I T 17<=48/\upG (I T 6) (I T 17)=upG (I T 6) (I T 7))(np1:¬B T 25=true)(A0:AH T HG)(B0:AH T D9)(B1:AH T Fx):
  ((I T 6)=(Ax (I T 2) (I T 0)))/\
  ((I T 17)=(CT (Ax (I T 2) (I T 0)) (I T 3))):=by
 have F0:=A0;clear A0;have F1:=B0;clear B0;have F2:=B1;clear B1;refine⟨?_,?_⟩
 .obtain⟨e4,e5,e6,-⟩:=F0;simp only[AI,zR,LW,w2P] at e4 e5 e6;obtain⟨p1,p2,p3,p4,p5,p6⟩:=pre0;have x4:=e4 (by omega) (by omega);have hx:(I T 6)=Ax (I T 2) (I T 0):=by
   unfold Ax;rw[e6,e5,x4];omega
  exact hx
 .obtain⟨e4,e5,e6,-⟩:=F0;obtain⟨e8,-,-,e11,e12,e13,e14,e15,-⟩:=F1;obtain⟨e18,-,-,e21,e22,e23,e24,e25,-⟩:=F2;replace e12:I T 12=(BU (I T 11)):=e12;replace e22:I T 22=(BU (I T 21)):=e22;simp only[AI,AP,zR,LW,w2P] at e4 e5 e6 e8 e11 e13 e14 e15 e18 e21 e23 e24 e25;obtain⟨p1,p2,p3,p4,p5,p6⟩:=pre0;have x4:=e4 (by omega) (by omega);have hx:(I T 6)=Ax (I T 2) (I T 0):=by
   unfold Ax;rw[e6,e5,x4];omega
  obtain⟨v1,v2,v3⟩:=inv0;obtain⟨w1,w2,w3⟩:=inv1;rw[<-hx];unfold CT;have hd:BX (I T 6) (I T 3)=I T 7:=by
   rw[<-v3];refine J2 fun a=>?_;have h8:=e8.2 a.1;have x11:=e11 (by omega) (by omega);have h13:(B T 13)=true:=e13.2 (by rw[e12,x11];exact a.2);exact np0 (e14.2 ⟨h8,h13⟩)
  rw[hd,<-w3];refine (Kr fun a=>?_).symm;have h18:=e18.2 a.1;have x21:=e21 (by omega) (by omega);have h23:(B T 23)=true:=e23.2 (by rw[e22,x21];exact a.2);have h15:(B T 15)=true:=e15.2 np0;exact np1 (e25.2 ⟨h15,e24.2 ⟨h18,h23⟩⟩)
theorem gM:Ae Try.prog 98 IF:=by
 refine BH (l:=[(69,Hp)]) Bh (by simp only[List.forall_mem_cons];exact⟨XL,fun _ h=>absurd h (by simp)⟩) iZ (by kernel_rfl) fun T us hpre hT hul hS hBd hE=>?_;change us.length=4 at hul;obtain⟨-,hz1,-⟩:=hBd;replace hz1:(S T 1).size<=140737488355328:=hz1;have ha0:aI us 0=I T 0:=inI hT hul (by decide);have ha2:aI us 2=I T 2:=inI hT hul (by decide);have ha3:aI us 3=I T 3:=inI hT hul (by decide);have pre0: -10000<=I T 2/\I T 2<=10000/\ -12<=I T 3/\I T 3<=48/\ -100<=I T 0/\I T 0<=100:=by
  have h:=hpre (.s "move.p0",HE) (by simp[IF]);change HE us at h;unfold HE at h;simp only[ha0,ha2,ha3] at h;exact h
 clear hpre;rw[List.map_append,List.map_append,List.map_append,List.map_append,List.map_append,List.map_append] at hE;have hA:=hE.left;replace hE:=hE.right;have hH:=hE.left;replace hE:=hE.right;have hB:=hE.left;replace hE:=hE.right;obtain⟨A0,hS1⟩:=Ai hS (by kernel_rfl) hA;have hgr:=bv hz1 pre0 A0;obtain⟨ow0,hS2,inv0,np0⟩:=eH hgr hS1 hB hH;have hF2:=(Ai (hS2.append hS1) (l:=D9) (by kernel_rfl) hB);obtain⟨B0,hS⟩:=hF2;clear hA hB hH hS1 hS2;have hA:=hE.left;replace hE:=hE.right;have hH:=hE.left;replace hE:=hE.right;have hB:=hE.left;replace hE:=hE.right;obtain⟨A1,hS1⟩:=Ai hS (by kernel_rfl) hA;have hg1:=ZT hz1 pre0 hgr inv0 np0 A0 B0;obtain⟨ow1,hS2,inv1,np1⟩:=eh hg1 hS1 hB hH;have hF2:=(Ai (hS2.append hS1) (l:=Fx) (by kernel_rfl) hB);obtain⟨B1,hS⟩:=hF2;clear hA hB hH hS1 hS2;obtain⟨A2,hO⟩:=BG (tys:=[.i,.i]) (rs:=bK) hS (by kernel_rfl) hE;obtain⟨q0,q1⟩:=iK hz1 pre0 hgr inv0 np0 hg1 inv1 np1 A0 B0 B1;refine⟨⟨(fun _=>ow1),(fun _=>ow0),trivial⟩,hO.trans ?_⟩;exact (lc (by show U.int (I T 6)= .int (JM us);unfold JM;rw[ha0,ha2];exact congrArg U.int q0) (lc (by show U.int (I T 17)= .int (Jc us);unfold Jc;rw[ha0,ha2,ha3];exact congrArg U.int q1) rfl))
end
end Go.Eng
end
