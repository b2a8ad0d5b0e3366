/-
  A part of the proof: K_books1d K_books1.
-/
import Derived.Test.YtikbgnmcfncnaaaE4
import Derived.Test.YtikbgnmcfncnaaaE5
set_option linter.unusedVariables false
set_option linter.unusedSimpArgs false
noncomputable section
namespace Go.Eng
section
open Go Go.Eng Go.Proofs
set_option maxHeartbeats 4000000
set_option maxRecDepth 100000
def LR:List U->List (List U):=fun us=>(Bv (aL us 0))
def Fz:AV:={ sh:=[.one (.list [k64,k64,k64,.bool,.str,.str,.bool,k64,k64])],blks:=[],outs:=[(.s "books1.0",Eg LR)],c:= .ro 1 [k64,k64,k64,k64,.bool,.str,.str,.bool,k64,k64],m':=[],pre:=[] }
def VM:List En:=[⟨1,.id .l,[.c (.list [])]⟩,
 ⟨2,.len,[.e 0]⟩]
def Gl:List En:=VM
def Tc:List En:=[⟨5,.lt,[.e 3,.e 2]⟩,
 ⟨6,.not,[.e 5]⟩,
 ⟨7,.get .i 0,[.e 0,.e 3]⟩,
 ⟨8,.get .i 1,[.e 0,.e 3]⟩,
 ⟨9,.get .i 2,[.e 0,.e 3]⟩,
 ⟨10,.get .b 3,[.e 0,.e 3]⟩,
 ⟨11,.get .s 4,[.e 0,.e 3]⟩,
 ⟨12,.get .s 5,[.e 0,.e 3]⟩,
 ⟨13,.get .b 6,[.e 0,.e 3]⟩,
 ⟨14,.get .i 7,[.e 0,.e 3]⟩,
 ⟨15,.get .i 8,[.e 0,.e 3]⟩,
 ⟨16,.mget .i 1 0 [.i],[.e 4,.c (.int 0),.e 7]⟩,
 ⟨17,.mget .i 1 1 [.i],[.e 4,.c (.int 0),.e 7]⟩,
 ⟨18,.mget .i 1 2 [.i],[.e 4,.c (.int 0),.e 7]⟩,
 ⟨19,.mget .b 1 3 [.i],[.e 4,.c (.bool false),.e 7]⟩,
 ⟨20,.mget .s 1 4 [.i],[.e 4,.c (.str ⟨#[]⟩),.e 7]⟩]
def VC:List En:=[⟨21,.mget .s 1 5 [.i],[.e 4,.c (.str ⟨#[]⟩),.e 7]⟩,
 ⟨22,.mget .b 1 6 [.i],[.e 4,.c (.bool false),.e 7]⟩,
 ⟨23,.mget .i 1 7 [.i],[.e 4,.c (.int 0),.e 7]⟩,
 ⟨24,.mget .i 1 8 [.i],[.e 4,.c (.int 0),.e 7]⟩,
 ⟨25,.mhas 1 [.i],[.e 4,.e 7]⟩,
 ⟨26,.and,[.e 5,.e 25]⟩,
 ⟨27,.lt,[.e 17,.e 8]⟩,
 ⟨28,.or,[.n 25,.e 27]⟩,
 ⟨29,.and,[.e 5,.e 28]⟩,
 ⟨30,.mset 1 [.i,.i,.i,.i,.b,.s,.s,.b,.i,.i],[.e 4,.e 7,.e 7,.e 8,.e 9,.e 10,.e 11,.e 12,.e 13,.e 14,.e 15]⟩,
 ⟨31,.and,[.e 5,.n 28]⟩,
 ⟨32,.ite .l,[.e 28,.e 30,.e 4]⟩,
 ⟨33,.w2 .i64 .add,[.e 3,.c (.int 1)]⟩]
def Dh:List En:=Tc++(VC)
def P1:List ObE:=[⟨some 29,.fits 1,[.e 4,.c (.list [[]])]⟩,⟨some 5,.inl,[.e 3,.e 0]⟩]
def Gu:Ag:=mkD 3 2 Dh 5 [.e 33,.e 32] P1 [0,2]
def Ib:List Rf:=[.e 0,.e 2,.c (.int 0),.e 1]
def PY:List En:=[]
def VQ:List ObE:=[⟨none,.owes Gu,[.e 0,.e 2,.c (.int 0),.e 1]⟩]
def VJ:List Rf:=[.e 4]
theorem WO {T:Tab}(hl0:(L T 0).length<=140737488355328)(hk0:∀u∈(L T 0),AT AF KB u)(A0:AH T Gl):
  ((I T 2)=((L T 0)).length)/\((L T 1)=[]):=by
 have F0:=A0;clear A0;have h2:(I T 2)=((L T 0)).length:=by
  obtain⟨-,e2,-⟩:=F0;simp only[AI,zR,zL] at e2;exact e2
 have h1:(L T 1)=[]:=by
  obtain⟨e1,-⟩:=F0;simp only[AI,zR,zL,zS] at e1;exact e1
 exact⟨h2,h1⟩
theorem YW {T:Tab}(hl0:(L T 0).length<=140737488355328)(hk0:∀u∈(L T 0),AT AF KB u)(h2:(I T 2)=((L T 0)).length)(h1:(L T 1)=[])(hS:AK T (Ab (BK 0 Fz.ks) Gl))(hB:Ac T (Dh.map En.be))(hH:Ac T ((BS Gu [.i,.l] Ib).map En.be)):
  (Gu).owes (Ib.map (Rf.eval T))/\AK T (hds 3 [.i,.l])/\(0<=I T 3/\I T 3<=((L T 0)).length/\L T 4=Bv (((L T 0)).take (I T 3).toNat))/\¬B T 5=true:=by
 refine CK (nh:=3) (k:=2) (pcn:=5) (top:=34) (bes:=Dh) (bos:=P1) (nxt:=[.e 33,.e 32]) (inits:=[.c (.int 0),.e 1]) (fv:=[0,2]) (tys:=[.i,.l]) (by kernel_rfl) rfl rfl rfl rfl hS (by kernel_rfl) (by kernel_rfl) hB (BV hH) (fun s=>0<=(aI s 0)/\(aI s 0)<=((L T 0)).length/\(aL s 1)=Bv (((L T 0)).take (aI s 0).toNat)) (fun s=>(((L T 0)).length - (aI s 0)).toNat) ?_ ?_
 .show 0<=(0:Int)/\(0:Int)<=((L T 0)).length/\L T 1=Bv (((L T 0)).take (0:Int).toNat);clear hS hB hH;exact⟨by omega,by omega,by rw[show (0:Int).toNat=0 from rfl,List.take_zero];exact h1⟩
 .intro T2 hfv hF inv;replace inv:0<=I T2 3/\I T2 3<=((L T 0)).length/\L T2 4=Bv (((L T 0)).take (I T2 3).toNat):=inv;clear hS hB hH;replace hF:AH T2 Dh:=hF;obtain⟨F0,hF⟩:=hF.cut;have F1:=hF;clear hF;have fv0:L T2 0=L T 0:=fvL (hfv 0 (by decide));have fv2:I T2 2=I T 2:=fvI (hfv 2 (by decide));clear hfv
  suffices hz:(B T2 29=true->(((L T2 4)).length+(([[]]:List (List U))).length)*1<=140737488355328)/\(B T2 5=true->0<=I T2 3/\I T2 3 < ((L T2 0)).length)/\(B T2 5=true->(0<=I T2 33/\I T2 33<=((L T 0)).length/\L T2 32=Bv (((L T 0)).take (I T2 33).toNat)))/\(B T2 5=true->(((L T 0)).length - (I T2 33)).toNat < (((L T 0)).length - (I T2 3)).toNat) from
   let⟨r0,r1,nx,mz⟩:=hz;⟨⟨r0,r1,trivial⟩,fun hp=>⟨nx hp,mz hp⟩⟩
  refine⟨?_,?_,?_,?_⟩
  .obtain⟨e5,-⟩:=F0;obtain⟨-,-,-,-,-,-,-,-,e29,-⟩:=F1;simp only[AI,AP,zR] at e5 e29;obtain⟨v1,v2,v3⟩:=inv;intro hp;have h5:=e5.1 (e29.1 hp).1;rw[fv2] at h5;have h6:=U0 (l:=((L T 0)).take (I T2 3).toNat);rw[<-v3,List.length_take] at h6;show (((L T2 4)).length+1)*1<=_;omega
  .obtain⟨e5,-⟩:=F0;simp only[AI,zR] at e5;obtain⟨v1,v2,v3⟩:=inv;intro hp;have h5:=e5.1 hp;rw[fv2] at h5;rw[fv0];omega
  .obtain⟨e5,-,e7,e8,e9,e10,e11,e12,e13,e14,e15,-,e17,-⟩:=F0;obtain⟨-,-,-,-,e25,-,e27,e28,-,e30,-,e32,e33,-⟩:=F1;simp only[AI,AP,zN,zR,w2P,zL,zS,uR,zW,zC] at e5 e7 e8 e9 e10 e11 e12 e13 e14 e15 e17 e25 e27 e28 e30 e32 e33;obtain⟨v1,v2,v3⟩:=inv;intro hp;have h5:=e5.1 hp;rw[fv2] at h5;have x33:=e33 (by omega) (by omega);refine⟨by omega,by omega,?_⟩;have hlt:(I T2 3).toNat < ((L T 0)).length:=by omega
   rw[x33,show ((I T2 3)+1).toNat=(I T2 3).toNat+1 by omega,GR hlt,Y2,<-v3];have hu:=hk0 _ (Dj hlt);rw[fv0] at e7 e8 e9 e10 e11 e12 e13 e14 e15;unfold Gp;have hb:(B T2 28)=true↔(¬Mz ((L T2 4)) (uI (((L T 0)).getD (I T2 3).toNat []) 0)\/verN ((L T2 4)) (uI (((L T 0)).getD (I T2 3).toNat []) 0) < uI (((L T 0)).getD (I T2 3).toNat []) 1):=by
    rw[e28,<-Bool.not_eq_true,e25,e27,e17,e7,e8];exact Iff.rfl
   rw[e32];by_cases hc:(B T2 28)=true
   .rw[if_pos hc,if_pos (hb.1 hc),e30];show Bc 1 _ [U.int (I T2 7)] [U.int (I T2 7),U.int (I T2 8),U.int (I T2 9),U.bool (B T2 10),U.str (S T2 11),U.str (S T2 12),U.bool (B T2 13),U.int (I T2 14),U.int (I T2 15)]=_;rw[e7,e8,e9,e10,e11,e12,e13,e14,e15];exact congrArg (Bc 1 _ _) (QT hu)
   .rw[if_neg hc,if_neg (fun a=>hc (hb.2 a))]
  .obtain⟨e5,-⟩:=F0;obtain⟨-,-,-,-,-,-,-,-,-,-,-,-,e33,-⟩:=F1;simp only[AI,zR,w2P] at e5 e33;obtain⟨v1,v2,v3⟩:=inv;intro hp;have h5:=e5.1 hp;rw[fv2] at h5;have x33:=e33 (by omega) (by omega);omega
theorem fA {T:Tab}(hl0:(L T 0).length<=140737488355328)(hk0:∀u∈(L T 0),AT AF KB u)(h2:(I T 2)=((L T 0)).length)(h1:(L T 1)=[])(inv0:0<=I T 3/\I T 3<=((L T 0)).length/\L T 4=Bv (((L T 0)).take (I T 3).toNat))(np0:¬B T 5=true)(A0:AH T Gl)(B0:AH T Dh):
  ((L T 4)=(Bv (L T 0))):=by
 have F0:=A0;clear A0;obtain⟨F1,B0⟩:=B0.cut;have F2:=B0;clear B0
 .obtain⟨e5,-⟩:=F1;simp only[AI,zR] at e5;obtain⟨v1,v2,v3⟩:=inv0;have h5:¬I T 3 < I T 2:=fun a=>np0 (e5.2 a);rw[v3,show (I T 3).toNat=((L T 0)).length by omega,List.take_length]
theorem cE:∀(T:Tab) (us:List U),(∀p∈Fz.pre,p.2 us)->(∀j u,us[j]? =some u->T j=u)->us.length=Fz.n->AK T (BK 0 Fz.ks)->Bnd T 0 Fz.ks->Ac T ((Gl++((BS Gu [.i,.l] Ib)++(Dh++(PY)))).map En.be)->G5 T VQ/\VJ.map (Rf.eval T)=Fz.outs.map fun o=>o.2 us:=by
 intro T us hpre hT hul hS hBd hE;change us.length=1 at hul;obtain⟨⟨hl0,he0⟩,-⟩:=hBd;replace hl0:(L T 0).length<=140737488355328:=hl0;have hk0:∀u∈(L T 0),AT AF KB u:=fun u hu=>by
  obtain⟨i,hi⟩:=List.mem_iff_getElem?.1 hu;exact he0 i u hi
 have ha0:aL us 0=L T 0:=inL hT hul (by decide);clear hpre;rw[List.map_append,List.map_append,List.map_append] at hE;have hA:=hE.left;replace hE:=hE.right;have hH:=hE.left;replace hE:=hE.right;have hB:=hE.left;replace hE:=hE.right;obtain⟨A0,hS1⟩:=Ai hS (by kernel_rfl) hA;obtain⟨h2,h1⟩:=WO hl0 hk0 A0;obtain⟨ow0,hS2,inv0,np0⟩:=YW hl0 hk0 h2 h1 hS1 hB hH;have hF2:=(Ai (hS2.append hS1) (l:=Dh) (by kernel_rfl) hB);obtain⟨B0,hS⟩:=hF2;clear hA hB hH hS1 hS2;obtain⟨A1,hO⟩:=BG (tys:=[.l]) (rs:=VJ) hS (by kernel_rfl) hE;have q0:=fA hl0 hk0 h2 h1 inv0 np0 A0 B0;refine⟨⟨(fun _=>ow0),trivial⟩,hO.trans ?_⟩;exact (lc (by show U.list (L T 4)= .list (LR us);unfold LR;rw[ha0];exact congrArg U.list q0) rfl)
end
end Go.Eng
end
