/-
  A part of the proof: K_checkLd K_checkL.
-/
import Derived.Test.YtikbgnmcfncnaaaE4
import Derived.Test.YtikbgnmcfncnaaaE5
import Derived.Test.YtikbgnmcfncnaaaKcheckSh
import Derived.Test.YtikbgnmcfncnaaaKsoundB
set_option linter.unusedVariables false
set_option linter.unusedSimpArgs false
noncomputable section
namespace Go.Eng
section
open Go Go.Eng Go.Proofs
set_option maxHeartbeats 4000000
set_option maxRecDepth 100000
def L4:List U->Int:=fun us=>(B8 (aL us 0))
def JW:AV:={ sh:=[.one (.list [k64,k64,k64,.bool,.str,.str,.bool,k64,k64])],blks:=[],outs:=[(.s "checkL.0",Bl L4)],c:=(C4 1),m':=[],pre:=[] }
def Tw:List En:=[⟨1,.len,[.e 0]⟩,
 ⟨2,.lt,[.c (.int 200),.e 1]⟩,
 ⟨3,.not,[.e 2]⟩,
 ⟨4,.len,[.e 0]⟩]
def Im:List En:=Tw
def US:List En:=[⟨6,.lt,[.e 5,.e 4]⟩,
 ⟨7,.and,[.e 3,.e 6]⟩,
 ⟨8,.and,[.e 3,.n 6]⟩,
 ⟨9,.get .i 0,[.e 0,.e 5]⟩,
 ⟨10,.get .i 1,[.e 0,.e 5]⟩,
 ⟨11,.get .i 2,[.e 0,.e 5]⟩,
 ⟨12,.get .b 3,[.e 0,.e 5]⟩,
 ⟨13,.get .s 4,[.e 0,.e 5]⟩,
 ⟨14,.get .s 5,[.e 0,.e 5]⟩,
 ⟨15,.get .b 6,[.e 0,.e 5]⟩,
 ⟨16,.get .i 7,[.e 0,.e 5]⟩,
 ⟨17,.get .i 8,[.e 0,.e 5]⟩,
 ⟨18,.outI "checkSh.0" Hh,[.e 9,.e 10,.e 11,.e 12,.e 13,.e 14,.e 15,.e 16,.e 17]⟩,
 ⟨19,.ne,[.e 18,.c (.int 0)]⟩,
 ⟨20,.and,[.e 7,.e 19]⟩,
 ⟨21,.and,[.e 7,.n 19]⟩]
def VE:List En:=[⟨22,.w2 .i64 .add,[.e 5,.c (.int 1)]⟩]
def EA:List En:=US++(VE)
def PU:List ObE:=[⟨some 7,.inl,[.e 5,.e 0]⟩]
def IS:Ag:=mkD 5 1 EA 21 [.e 22] PU [0,3,4]
def LL:List Rf:=[.e 0,.e 3,.e 4,.c (.int 0)]
def UM:List En:=[⟨23,.ite .i,[.e 20,.e 5,.c (.int (-1))]⟩,
 ⟨24,.or,[.e 20,.e 8]⟩,
 ⟨25,.le,[.c (.int 0),.e 23]⟩,
 ⟨26,.and,[.e 3,.e 25]⟩,
 ⟨27,.and,[.e 3,.n 25]⟩,
 ⟨28,.outB "soundB.0" If,[.e 0]⟩,
 ⟨29,.and,[.e 27,.e 28]⟩,
 ⟨30,.and,[.e 27,.n 28]⟩,
 ⟨31,.ite .i,[.e 25,.c (.int 2),.c (.int 12)]⟩,
 ⟨32,.or,[.e 26,.e 30]⟩,
 ⟨33,.ite .i,[.e 2,.c (.int 6),.e 31]⟩,
 ⟨34,.or,[.e 2,.e 32]⟩,
 ⟨35,.ite .i,[.e 34,.e 33,.c (.int 0)]⟩,
 ⟨36,.or,[.e 34,.e 29]⟩]
def Ql:List En:=UM
def cT:List ObE:=[⟨some 3,.owes IS,[.e 0,.e 3,.e 4,.c (.int 0)]⟩]
def TY:List Rf:=[.e 35]
theorem cq:JW.sees TY (JW.run Try.prog [(43,Hy),(85,HB)] AW 3000 20 47)=some ((Im++((BS IS [.i] LL)++(EA++(Ql)))).map En.be,cT.map ObE.be,[]):=by kernel_rfl
theorem Wj {T:Tab}(hl0:(L T 0).length<=140737488355328)(hk0:∀u∈(L T 0),AT AF KB u)(A0:AH T Im):
  ((I T 4)=((L T 0)).length):=by
 have F0:=A0;clear A0;have h4:(I T 4)=((L T 0)).length:=by
  obtain⟨-,-,-,e4,-⟩:=F0;simp only[AI,zR,zL] at e4;exact e4
 exact h4
theorem Xr {T:Tab}(hl0:(L T 0).length<=140737488355328)(h4:(I T 4)=((L T 0)).length)(hS:AK T (Ab (BK 0 JW.ks) Im))(hB:Ac T (EA.map En.be))(hH:Ac T ((BS IS [.i] LL).map En.be)):
  (IS).owes (LL.map (Rf.eval T))/\AK T (hds 5 [.i])/\(0<=I T 5/\I T 5<=((L T 0)).length/\(((L T 0)).take (I T 5).toNat).all Gx=true)/\¬B T 21=true:=by
 refine CK (nh:=5) (k:=1) (pcn:=21) (top:=23) (bes:=EA) (bos:=PU) (nxt:=[.e 22]) (inits:=[.c (.int 0)]) (fv:=[0,3,4]) (tys:=[.i]) (by kernel_rfl) rfl rfl rfl rfl hS (by kernel_rfl) (by kernel_rfl) hB (BV hH) (fun s=>0<=(aI s 0)/\(aI s 0)<=((L T 0)).length/\(((L T 0)).take (aI s 0).toNat).all Gx=true) (fun s=>(((L T 0)).length - (aI s 0)).toNat) ?_ ?_
 .show 0<=(0:Int)/\(0:Int)<=((L T 0)).length/\(((L T 0)).take (0:Int).toNat).all Gx=true;clear hS hB hH;exact⟨by omega,by omega,by simp⟩
 .intro T2 hfv hF inv;replace inv:0<=I T2 5/\I T2 5<=((L T 0)).length/\(((L T 0)).take (I T2 5).toNat).all Gx=true:=inv;clear hS hB hH;replace hF:AH T2 EA:=hF;obtain⟨F0,hF⟩:=hF.cut;have F1:=hF;clear hF;have fv0:L T2 0=L T 0:=fvL (hfv 0 (by decide));have fv3:B T2 3=B T 3:=fvB (hfv 3 (by decide));have fv4:I T2 4=I T 4:=fvI (hfv 4 (by decide));clear hfv
  suffices hz:(B T2 7=true->0<=I T2 5/\I T2 5 < ((L T2 0)).length)/\(B T2 21=true->(0<=I T2 22/\I T2 22<=((L T 0)).length/\(((L T 0)).take (I T2 22).toNat).all Gx=true))/\(B T2 21=true->(((L T 0)).length - (I T2 22)).toNat < (((L T 0)).length - (I T2 5)).toNat) from
   let⟨r0,nx,mz⟩:=hz;⟨⟨r0,trivial⟩,fun hp=>⟨nx hp,mz hp⟩⟩
  refine⟨?_,?_,?_⟩
  .obtain⟨e6,e7,-⟩:=F0;simp only[AI,AP,zR] at e6 e7;obtain⟨v1,v2,v3⟩:=inv;intro hp;have h6:=e6.1 (e7.1 hp).2;rw[fv4] at h6;rw[fv0];omega
  .obtain⟨e6,e7,-,e9,e10,e11,-,e13,e14,-,e16,e17,e18,e19,-,e21,-⟩:=F0;obtain⟨e22,-⟩:=F1;replace e18:I T2 18=(Ks (I T2 9) (I T2 10) (I T2 11) (S T2 13) (S T2 14) (I T2 16) (I T2 17)):=e18;simp only[AI,AP,zN,zR,w2P,zL] at e6 e7 e9 e10 e11 e13 e14 e16 e17 e19 e21 e22;obtain⟨v1,v2,v3⟩:=inv;intro hp;have h21:=e21.1 hp;have h6:=e6.1 (e7.1 h21.1).2;rw[fv4] at h6;have x22:=e22 (by omega) (by omega);have hlt:(I T2 5).toNat < ((L T 0)).length:=by omega
   rw[fv0] at e9 e10 e11 e13 e14 e16 e17;refine⟨by omega,by omega,?_⟩;rw[x22,show ((I T2 5)+1).toNat=(I T2 5).toNat+1 by omega,GR hlt,Ut];refine⟨v3,?_⟩;have h19:¬ ¬I T2 18=0:=fun a=>by
    have:=e19.2 a;simp[this] at h21
   have h18:(I T2 18)=0:=Decidable.of_not_not h19;rw[e18,e9,e10,e11,e13,e14,e16,e17] at h18;exact decide_eq_true h18
  .obtain⟨e6,e7,-,-,-,-,-,-,-,-,-,-,-,-,-,e21,-⟩:=F0;obtain⟨e22,-⟩:=F1;simp only[AI,AP,zN,zR,w2P] at e6 e7 e21 e22;obtain⟨v1,v2,v3⟩:=inv;intro hp;have h6:=e6.1 (e7.1 (e21.1 hp).1).2;rw[fv4] at h6;have x22:=e22 (by omega) (by omega);omega
theorem dE {T:Tab}(hl0:(L T 0).length<=140737488355328)(hk0:∀u∈(L T 0),AT AF KB u)(h4:(I T 4)=((L T 0)).length)(inv0:0<=I T 5/\I T 5<=((L T 0)).length/\(((L T 0)).take (I T 5).toNat).all Gx=true)(np0:¬B T 21=true)(A0:AH T Im)(B0:AH T EA)(A1:AH T Ql):
  ((I T 35)=(B8 (L T 0))):=by
 have F0:=A0;clear A0;obtain⟨F1,B0⟩:=B0.cut;have F2:=B0;clear B0;have F3:=A1;clear A1
 .obtain⟨e1,e2,e3,e4,-⟩:=F0;obtain⟨e6,e7,-,e9,e10,e11,-,e13,e14,-,e16,e17,e18,e19,e20,e21,-⟩:=F1;obtain⟨e23,-,e25,e26,e27,e28,-,e30,e31,e32,e33,e34,e35,-⟩:=F3;replace e18:I T 18=(Ks (I T 9) (I T 10) (I T 11) (S T 13) (S T 14) (I T 16) (I T 17)):=e18;replace e28:B T 28=(NW (L T 0)):=e28;simp only[AI,AP,zN,zR,zL,zS] at e1 e2 e3 e4 e6 e7 e9 e10 e11 e13 e14 e16 e17 e19 e20 e21 e23 e25 e26 e27 e30 e31 e32 e33 e34 e35;obtain⟨v1,v2,v3⟩:=inv0;unfold B8;rw[e35];by_cases h2:200 < ((L T 0)).length
  .have g2:=e2.2 (by rw[e1];omega);rw[if_pos h2,if_pos (e34.2 (.inl g2)),e33,if_pos g2]
  .have n2:¬B T 2=true:=fun a=>by have:=e2.1 a;rw[e1] at this;omega
   have h3:=e3.2 (by simpa using n2);rw[if_neg h2,e33,if_neg n2,e31];by_cases h6:(I T 5) < I T 4
   .have h7:=e7.2 ⟨h3,e6.2 h6⟩;have g19:(B T 19)=true:=by
     by_cases h19:(B T 19)=true
     .exact h19
     .exact absurd (e21.2 ⟨h7,by simpa using h19⟩) np0
    have hlt:(I T 5).toNat < ((L T 0)).length:=by omega
    have na:¬((L T 0)).all Gx=true:=fun a=>by
     have h1:=of_decide_eq_true (List.all_eq_true.1 a _ (Dj hlt));have h18:=e19.1 g19;rw[e18,e9,e10,e11,e13,e14,e16,e17] at h18;exact h18 h1
    have g25:(B T 25)=true:=e25.2 (by rw[e23,if_pos (e20.2 ⟨h7,g19⟩)];omega);rw[if_pos na,if_pos (e34.2 (.inr (e32.2 (.inl (e26.2 ⟨h3,g25⟩))))),if_pos g25]
   .have n6:¬B T 6=true:=fun a=>h6 (e6.1 a);have n20:¬B T 20=true:=fun a=>n6 (e7.1 (e20.1 a).1).2;have n25:¬B T 25=true:=fun a=>by have:=e25.1 a;rw[e23,if_neg n20] at this;omega
    have ei:(I T 5).toNat=((L T 0)).length:=by omega
    rw[ei,List.take_length] at v3;have nv:¬ ¬((L T 0)).all Gx=true:=fun a=>a v3;rw[if_neg nv,if_neg n25,<-e28];have h27:=e27.2 ⟨h3,by simpa using n25⟩;by_cases hs:(B T 28)=true
    .rw[if_pos hs,if_neg];intro a;rcases e34.1 a with a|a
     .exact n2 a
     .rcases e32.1 a with a|a
      .exact n25 (e26.1 a).2
      .have:=(e30.1 a).2;simp[hs] at this
    .rw[if_neg hs,if_pos (e34.2 (.inr (e32.2 (.inr (e30.2 ⟨h27,by simpa using hs⟩)))))]
theorem bH:Ae Try.prog 47 JW:=by
 refine BH (l:=[(43,Hy),(85,HB)]) Bh (by simp only[List.forall_mem_cons];exact⟨Ym,bh,fun _ h=>absurd h (by simp)⟩) cq (by kernel_rfl) fun T us hpre hT hul hS hBd hE=>?_;change us.length=1 at hul;obtain⟨⟨hl0,he0⟩,-⟩:=hBd;replace hl0:(L T 0).length<=140737488355328:=hl0;have hk0:∀u∈(L T 0),AT AF KB u:=fun u hu=>by
  obtain⟨i,hi⟩:=List.mem_iff_getElem?.1 hu;exact he0 i u hi
 have ha0:aL us 0=L T 0:=inL hT hul (by decide);clear hpre;rw[List.map_append,List.map_append,List.map_append] at hE;have hA:=hE.left;replace hE:=hE.right;have hH:=hE.left;replace hE:=hE.right;have hB:=hE.left;replace hE:=hE.right;obtain⟨A0,hS1⟩:=Ai hS (by kernel_rfl) hA;have h4:=Wj hl0 hk0 A0;obtain⟨ow0,hS2,inv0,np0⟩:=Xr hl0 h4 hS1 hB hH;have hF2:=(Ai (hS2.append hS1) (l:=EA) (by kernel_rfl) hB);obtain⟨B0,hS⟩:=hF2;clear hA hB hH hS1 hS2;obtain⟨A1,hO⟩:=BG (tys:=[.i]) (rs:=TY) hS (by kernel_rfl) hE;have q0:=dE hl0 hk0 h4 inv0 np0 A0 B0 A1;refine⟨⟨(fun _=>ow0),trivial⟩,hO.trans ?_⟩;exact (lc (by show U.int (I T 35)= .int (L4 us);unfold L4;rw[ha0];exact congrArg U.int q0) rfl)
end
end Go.Eng
end
