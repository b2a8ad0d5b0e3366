/-
  A part of the proof: K_checkPd K_checkP.
-/
import Derived.Test.YtikbgnmcfncnaaaE4
import Derived.Test.YtikbgnmcfncnaaaE5
import Derived.Test.YtikbgnmcfncnaaaKvplayer
set_option linter.unusedVariables false
set_option linter.unusedSimpArgs false
noncomputable section
namespace Go.Eng
section
open Go Go.Eng Go.Proofs
set_option maxHeartbeats 4000000
set_option maxRecDepth 100000
def LQ:List U->Int:=fun us=>(Bj (aL us 0))
def I8:AV:={ sh:=[.one (.list [.str,k64,k64])],blks:=[],outs:=[(.s "checkP.0",Bl LQ)],c:=(C4 1),m':=[],pre:=[] }
def Uh:List En:=[⟨1,.len,[.e 0]⟩,
 ⟨2,.lt,[.c (.int 24),.e 1]⟩,
 ⟨3,.not,[.e 2]⟩,
 ⟨4,.id .l,[.c (.list [])]⟩,
 ⟨5,.len,[.e 0]⟩]
def Ig:List En:=Uh
def Ts:List En:=[⟨8,.lt,[.e 6,.e 5]⟩,
 ⟨9,.and,[.e 3,.e 8]⟩,
 ⟨10,.and,[.e 3,.n 8]⟩,
 ⟨11,.get .s 0,[.e 0,.e 6]⟩,
 ⟨12,.get .i 1,[.e 0,.e 6]⟩,
 ⟨13,.get .i 2,[.e 0,.e 6]⟩,
 ⟨14,.outB "vplayer.0" EX,[.e 11,.e 12,.e 13]⟩,
 ⟨15,.and,[.e 9,.e 14]⟩,
 ⟨16,.and,[.e 9,.n 14]⟩,
 ⟨17,.mset 1 [.s,.b],[.e 7,.e 11,.c (.bool true)]⟩,
 ⟨18,.w2 .i64 .add,[.e 6,.c (.int 1)]⟩]
def EG:List En:=Ts
def Px:List ObE:=[⟨some 15,.fits 1,[.e 7,.c (.list [[]])]⟩,⟨some 9,.inl,[.e 6,.e 0]⟩]
def IQ:Ag:=mkD 6 2 EG 15 [.e 18,.e 17] Px [0,3,5]
def Lu:List Rf:=[.e 0,.e 3,.e 5,.c (.int 0),.e 4]
def TP:List En:=[⟨19,.len,[.e 7]⟩,
 ⟨20,.len,[.e 0]⟩,
 ⟨21,.lt,[.e 19,.e 20]⟩,
 ⟨22,.and,[.e 10,.e 21]⟩,
 ⟨23,.and,[.e 10,.n 21]⟩,
 ⟨24,.ite .i,[.e 22,.c (.int 12),.c (.int 0)]⟩,
 ⟨25,.or,[.e 22,.e 23]⟩,
 ⟨26,.ite .i,[.e 16,.c (.int 2),.e 24]⟩,
 ⟨27,.or,[.e 16,.e 25]⟩,
 ⟨28,.ite .i,[.e 2,.c (.int 6),.e 26]⟩,
 ⟨29,.or,[.e 2,.e 27]⟩]
def QN:List En:=TP
def eX:List ObE:=[⟨some 3,.owes IQ,[.e 0,.e 3,.e 5,.c (.int 0),.e 4]⟩]
def U3:List Rf:=[.e 28]
theorem ef:I8.sees U3 (I8.run Try.prog [(82,Ev)] AW 3000 20 41)=some ((Ig++((BS IQ [.i,.l] Lu)++(EG++(QN)))).map En.be,eX.map ObE.be,[]):=by kernel_rfl
theorem V3 {T:Tab}(hl0:(L T 0).length<=140737488355328)(hk0:∀u∈(L T 0),AT AF KP u)(A0:AH T Ig):
  ((I T 5)=((L T 0)).length)/\((L T 4)=[]):=by
 have F0:=A0;clear A0;have h5:(I T 5)=((L T 0)).length:=by
  obtain⟨-,-,-,-,e5,-⟩:=F0;simp only[AI,zR,zL] at e5;exact e5
 have h4:(L T 4)=[]:=by
  obtain⟨-,-,-,e4,-⟩:=F0;simp only[AI,zR,zL,zS] at e4;exact e4
 exact⟨h5,h4⟩
theorem Yr {T:Tab}(hl0:(L T 0).length<=140737488355328)(h5:(I T 5)=((L T 0)).length)(h4:(L T 4)=[])(hS:AK T (Ab (BK 0 I8.ks) Ig))(hB:Ac T (EG.map En.be))(hH:Ac T ((BS IQ [.i,.l] Lu).map En.be)):
  (IQ).owes (Lu.map (Rf.eval T))/\AK T (hds 6 [.i,.l])/\(0<=I T 6/\I T 6<=((L T 0)).length/\(((L T 0)).take (I T 6).toNat).all GN=true/\L T 7=Dv (((L T 0)).take (I T 6).toNat))/\¬B T 15=true:=by
 refine CK (nh:=6) (k:=2) (pcn:=15) (top:=19) (bes:=EG) (bos:=Px) (nxt:=[.e 18,.e 17]) (inits:=[.c (.int 0),.e 4]) (fv:=[0,3,5]) (tys:=[.i,.l]) (by kernel_rfl) rfl rfl rfl rfl hS (by kernel_rfl) (by kernel_rfl) hB (BV hH) (fun s=>0<=(aI s 0)/\(aI s 0)<=((L T 0)).length/\(((L T 0)).take (aI s 0).toNat).all GN=true/\(aL s 1)=Dv (((L T 0)).take (aI s 0).toNat)) (fun s=>(((L T 0)).length - (aI s 0)).toNat) ?_ ?_
 .show 0<=(0:Int)/\(0:Int)<=((L T 0)).length/\(((L T 0)).take (0:Int).toNat).all GN=true/\L T 4=Dv (((L T 0)).take (0:Int).toNat);clear hS hB hH;exact⟨by omega,by omega,by simp,by rw[show (0:Int).toNat=0 from rfl,List.take_zero];exact h4⟩
 .intro T2 hfv hF inv;replace inv:0<=I T2 6/\I T2 6<=((L T 0)).length/\(((L T 0)).take (I T2 6).toNat).all GN=true/\L T2 7=Dv (((L T 0)).take (I T2 6).toNat):=inv;clear hS hB hH;replace hF:AH T2 EG:=hF;have F0:=hF;clear hF;have fv0:L T2 0=L T 0:=fvL (hfv 0 (by decide));have fv3:B T2 3=B T 3:=fvB (hfv 3 (by decide));have fv5:I T2 5=I T 5:=fvI (hfv 5 (by decide));clear hfv
  suffices hz:(B T2 15=true->(((L T2 7)).length+(([[]]:List (List U))).length)*1<=140737488355328)/\(B T2 9=true->0<=I T2 6/\I T2 6 < ((L T2 0)).length)/\(B T2 15=true->(0<=I T2 18/\I T2 18<=((L T 0)).length/\(((L T 0)).take (I T2 18).toNat).all GN=true/\L T2 17=Dv (((L T 0)).take (I T2 18).toNat)))/\(B T2 15=true->(((L T 0)).length - (I T2 18)).toNat < (((L T 0)).length - (I T2 6)).toNat) from
   let⟨r0,r1,nx,mz⟩:=hz;⟨⟨r0,r1,trivial⟩,fun hp=>⟨nx hp,mz hp⟩⟩
  refine⟨?_,?_,?_,?_⟩
  .obtain⟨e8,e9,-,-,-,-,-,e15,-⟩:=F0;simp only[AI,AP,zR] at e8 e9 e15;obtain⟨v1,v2,v3,v4⟩:=inv;intro hp;have h8:=e8.1 (e9.1 (e15.1 hp).1).2;rw[fv5] at h8;have h6:=Xq (l:=((L T 0)).take (I T2 6).toNat);rw[<-v4,List.length_take] at h6;show (((L T2 7)).length+1)*1<=_;omega
  .obtain⟨e8,e9,-⟩:=F0;simp only[AI,AP,zR] at e8 e9;obtain⟨v1,v2,v3,v4⟩:=inv;intro hp;have h8:=e8.1 (e9.1 hp).2;rw[fv5] at h8;rw[fv0];omega
  .obtain⟨e8,e9,-,e11,e12,e13,e14,e15,-,e17,e18,-⟩:=F0;replace e14:B T2 14=(DC (S T2 11) (I T2 12) (I T2 13)):=e14;simp only[AI,AP,zC,zR,w2P,zL,zS,uR,zW] at e8 e9 e11 e12 e13 e15 e17 e18;obtain⟨v1,v2,v3,v4⟩:=inv;intro hp;have h15:=e15.1 hp;have h8:=e8.1 (e9.1 h15.1).2;rw[fv5] at h8;have x18:=e18 (by omega) (by omega);have hlt:(I T2 6).toNat < ((L T 0)).length:=by omega
   rw[fv0] at e11 e12 e13;refine⟨by omega,by omega,?_,?_⟩
   .rw[x18,show ((I T2 6)+1).toNat=(I T2 6).toNat+1 by omega,GR hlt,Ut];refine⟨v3,?_⟩;have h14:=h15.2;rw[e14,e11,e12,e13] at h14;exact h14
   .rw[x18,show ((I T2 6)+1).toNat=(I T2 6).toNat+1 by omega,GR hlt,WZ,<-v4,e17,e11];rfl
  .obtain⟨e8,e9,-,-,-,-,-,e15,-,-,e18,-⟩:=F0;simp only[AI,AP,zR,w2P] at e8 e9 e15 e18;obtain⟨v1,v2,v3,v4⟩:=inv;intro hp;have h8:=e8.1 (e9.1 (e15.1 hp).1).2;rw[fv5] at h8;have x18:=e18 (by omega) (by omega);omega
theorem dF {T:Tab}(hl0:(L T 0).length<=140737488355328)(hk0:∀u∈(L T 0),AT AF KP u)(h5:(I T 5)=((L T 0)).length)(h4:(L T 4)=[])(inv0:0<=I T 6/\I T 6<=((L T 0)).length/\(((L T 0)).take (I T 6).toNat).all GN=true/\L T 7=Dv (((L T 0)).take (I T 6).toNat))(np0:¬B T 15=true)(A0:AH T Ig)(B0:AH T EG)(A1:AH T QN):
  ((I T 28)=(Bj (L T 0))):=by
 have F0:=A0;clear A0;have F1:=B0;clear B0;have F2:=A1;clear A1
 .obtain⟨e1,e2,e3,-,e5,-⟩:=F0;obtain⟨e8,e9,e10,e11,e12,e13,e14,e15,e16,-⟩:=F1;obtain⟨e19,e20,e21,e22,-,e24,-,e26,-,e28,-⟩:=F2;replace e14:B T 14=(DC (S T 11) (I T 12) (I T 13)):=e14;simp only[AI,AP,zN,zR,zL,zS] at e1 e2 e3 e5 e8 e9 e10 e11 e12 e13 e15 e16 e19 e20 e21 e22 e24 e26 e28;obtain⟨v1,v2,v3,v4⟩:=inv0;unfold Bj;rw[e28];by_cases h2:24 < ((L T 0)).length
  .rw[if_pos h2,if_pos (e2.2 (by rw[e1];omega))]
  .have n2:¬B T 2=true:=fun a=>by have:=e2.1 a;rw[e1] at this;omega
   rw[if_neg h2,if_neg n2,e26];have h3:=e3.2 (by simpa using n2);by_cases h8:(I T 6) < I T 5
   .have hb8:=e8.2 h8;have h9:=e9.2 ⟨h3,hb8⟩;have n14:¬B T 14=true:=fun a=>np0 (e15.2 ⟨h9,a⟩);have hlt:(I T 6).toNat < ((L T 0)).length:=by omega
    have na:¬((L T 0)).all GN=true:=fun a=>by
     have:=List.all_eq_true.1 a _ (Dj hlt);rw[e14,e11,e12,e13] at n14;exact n14 this
    rw[if_pos na,if_pos (e16.2 ⟨h9,by simpa using n14⟩)]
   .have n8:¬B T 8=true:=fun a=>h8 (e8.1 a);have h10:=e10.2 ⟨h3,by simpa using n8⟩;have n16:¬B T 16=true:=fun a=>n8 (e9.1 (e16.1 a).1).2;have e6:(I T 6).toNat=((L T 0)).length:=by omega
    rw[e6,List.take_length] at v3 v4;rw[if_neg n16,if_neg (fun a=>a v3),e24];by_cases hn:(Dv ((L T 0))).length < ((L T 0)).length
    .rw[if_pos hn,if_pos (e22.2 ⟨h10,e21.2 (by rw[e19,e20,v4];omega)⟩)]
    .rw[if_neg hn,if_neg (fun a=>hn (by have:=e21.1 (e22.1 a).2;rw[e19,e20,v4] at this;omega))]
theorem aO:Ae Try.prog 41 I8:=by
 refine BH (l:=[(82,Ev)]) Bh (by simp only[List.forall_mem_cons];exact⟨QA,fun _ h=>absurd h (by simp)⟩) ef (by kernel_rfl) fun T us hpre hT hul hS hBd hE=>?_;change us.length=1 at hul;obtain⟨⟨hl0,he0⟩,-⟩:=hBd;replace hl0:(L T 0).length<=140737488355328:=hl0;have hk0:∀u∈(L T 0),AT AF KP u:=fun u hu=>by
  obtain⟨i,hi⟩:=List.mem_iff_getElem?.1 hu;exact he0 i u hi
 have ha0:aL us 0=L T 0:=inL hT hul (by decide);clear hpre;rw[List.map_append,List.map_append,List.map_append] at hE;have hA:=hE.left;replace hE:=hE.right;have hH:=hE.left;replace hE:=hE.right;have hB:=hE.left;replace hE:=hE.right;obtain⟨A0,hS1⟩:=Ai hS (by kernel_rfl) hA;obtain⟨h5,h4⟩:=V3 hl0 hk0 A0;obtain⟨ow0,hS2,inv0,np0⟩:=Yr hl0 h5 h4 hS1 hB hH;have hF2:=(Ai (hS2.append hS1) (l:=EG) (by kernel_rfl) hB);obtain⟨B0,hS⟩:=hF2;clear hA hB hH hS1 hS2;obtain⟨A1,hO⟩:=BG (tys:=[.i]) (rs:=U3) hS (by kernel_rfl) hE;have q0:=dF hl0 hk0 h5 h4 inv0 np0 A0 B0 A1;refine⟨⟨(fun _=>ow0),trivial⟩,hO.trans ?_⟩;exact (lc (by show U.int (I T 28)= .int (LQ us);unfold LQ;rw[ha0];exact congrArg U.int q0) rfl)
end
end Go.Eng
end
