/-
  A part of the proof: K_soundBd K_soundB.
-/
import Derived.Test.YtikbgnmcfncnaaaE4
import Derived.Test.YtikbgnmcfncnaaaE5
set_option linter.unusedVariables false
set_option linter.unusedSimpArgs false
noncomputable section
namespace Go.Eng
section
open Go Go.Eng Go.Proofs
set_option maxHeartbeats 4000000
set_option maxRecDepth 100000
def If:List U->Bool:=fun us=>(NW (aL us 0))
def HB:AV:={ sh:=[.one (.list [k64,k64,k64,.bool,.str,.str,.bool,k64,k64])],blks:=[],outs:=[(.s "soundB.0",LP If)],c:= .b 1,m':=[],pre:=[] }
def UV:List En:=[⟨1,.id .l,[.c (.list [])]⟩,
 ⟨2,.len,[.e 0]⟩]
def Ih:List En:=UV
def U2:List En:=[⟨5,.lt,[.e 3,.e 2]⟩,
 ⟨6,.not,[.e 5]⟩,
 ⟨7,.get .i 0,[.e 0,.e 3]⟩,
 ⟨8,.get .i 1,[.e 0,.e 3]⟩,
 ⟨9,.get .i 2,[.e 0,.e 3]⟩,
 ⟨10,.get .b 3,[.e 0,.e 3]⟩,
 ⟨11,.get .s 4,[.e 0,.e 3]⟩,
 ⟨12,.get .s 5,[.e 0,.e 3]⟩,
 ⟨13,.get .b 6,[.e 0,.e 3]⟩,
 ⟨14,.get .i 7,[.e 0,.e 3]⟩,
 ⟨15,.get .i 8,[.e 0,.e 3]⟩,
 ⟨16,.mget .i 2 0 [.i,.i],[.e 4,.c (.int 0),.e 7,.e 8]⟩,
 ⟨17,.mget .i 2 1 [.i,.i],[.e 4,.c (.int 0),.e 7,.e 8]⟩,
 ⟨18,.mget .i 2 2 [.i,.i],[.e 4,.c (.int 0),.e 7,.e 8]⟩,
 ⟨19,.mget .b 2 3 [.i,.i],[.e 4,.c (.bool false),.e 7,.e 8]⟩,
 ⟨20,.mget .s 2 4 [.i,.i],[.e 4,.c (.str ⟨#[]⟩),.e 7,.e 8]⟩]
def Vs:List En:=[⟨21,.mget .s 2 5 [.i,.i],[.e 4,.c (.str ⟨#[]⟩),.e 7,.e 8]⟩,
 ⟨22,.mget .b 2 6 [.i,.i],[.e 4,.c (.bool false),.e 7,.e 8]⟩,
 ⟨23,.mget .i 2 7 [.i,.i],[.e 4,.c (.int 0),.e 7,.e 8]⟩,
 ⟨24,.mget .i 2 8 [.i,.i],[.e 4,.c (.int 0),.e 7,.e 8]⟩,
 ⟨25,.mhas 2 [.i,.i],[.e 4,.e 7,.e 8]⟩,
 ⟨26,.and,[.e 5,.e 25]⟩,
 ⟨27,.nes [.i,.i,.i,.b,.s,.s,.b,.i,.i],[.e 16,.e 7,.e 17,.e 8,.e 18,.e 9,.e 19,.e 10,.e 20,.e 11,.e 21,.e 12,.e 22,.e 13,.e 23,.e 14,.e 24,.e 15]⟩,
 ⟨28,.and,[.e 25,.e 27]⟩,
 ⟨29,.and,[.e 5,.e 28]⟩,
 ⟨30,.and,[.e 5,.n 28]⟩,
 ⟨31,.mset 2 [.i,.i,.i,.i,.i,.b,.s,.s,.b,.i,.i],[.e 4,.e 7,.e 8,.e 7,.e 8,.e 9,.e 10,.e 11,.e 12,.e 13,.e 14,.e 15]⟩,
 ⟨32,.w2 .i64 .add,[.e 3,.c (.int 1)]⟩]
def EL:List En:=U2++(Vs)
def Qf:List ObE:=[⟨some 30,.fits 1,[.e 4,.c (.list [[]])]⟩,⟨some 5,.inl,[.e 3,.e 0]⟩]
def Ii:Ag:=mkD 3 2 EL 30 [.e 32,.e 31] Qf [0,2]
def LS:List Rf:=[.e 0,.e 2,.c (.int 0),.e 1]
def Ua:List En:=[⟨33,.ite .b,[.e 29,.c (.bool false),.c (.bool true)]⟩,
 ⟨34,.or,[.e 29,.e 6]⟩]
def Qj:List En:=Ua
def cK:List ObE:=[⟨none,.owes Ii,[.e 0,.e 2,.c (.int 0),.e 1]⟩]
def Vf:List Rf:=[.e 33]
theorem df:HB.sees Vf (HB.run Try.prog [] AW 3000 20 85)=some ((Ih++((BS Ii [.i,.l] LS)++(EL++(Qj)))).map En.be,cK.map ObE.be,[]):=by kernel_rfl
theorem WG {T:Tab}(hl0:(L T 0).length<=140737488355328)(hk0:∀u∈(L T 0),AT AF KB u)(A0:AH T Ih):
  ((I T 2)=((L T 0)).length)/\((L T 1)=[]):=by
 have F0:=A0;clear A0;have h2:(I T 2)=((L T 0)).length:=by
  obtain⟨-,e2,-⟩:=F0;simp only[AI,zR,zL] at e2;exact e2
 have h1:(L T 1)=[]:=by
  obtain⟨e1,-⟩:=F0;simp only[AI,zR,zL,zS] at e1;exact e1
 exact⟨h2,h1⟩
theorem Xy {T:Tab}(hl0:(L T 0).length<=140737488355328)(hk0:∀u∈(L T 0),AT AF KB u)(h2:(I T 2)=((L T 0)).length)(h1:(L T 1)=[])(hS:AK T (Ab (BK 0 HB.ks) Ih))(hB:Ac T (EL.map En.be))(hH:Ac T ((BS Ii [.i,.l] LS).map En.be)):
  (Ii).owes (LS.map (Rf.eval T))/\AK T (hds 3 [.i,.l])/\(0<=I T 3/\I T 3<=((L T 0)).length/\((L T 4)).length<=I T 3/\Cu [] ((L T 0))=Cu ((L T 4)) (((L T 0)).drop (I T 3).toNat))/\¬B T 30=true:=by
 refine CK (nh:=3) (k:=2) (pcn:=30) (top:=33) (bes:=EL) (bos:=Qf) (nxt:=[.e 32,.e 31]) (inits:=[.c (.int 0),.e 1]) (fv:=[0,2]) (tys:=[.i,.l]) (by kernel_rfl) rfl rfl rfl rfl hS (by kernel_rfl) (by kernel_rfl) hB (BV hH) (fun s=>0<=(aI s 0)/\(aI s 0)<=((L T 0)).length/\((aL s 1)).length<=(aI s 0)/\Cu [] ((L T 0))=Cu ((aL s 1)) (((L T 0)).drop (aI s 0).toNat)) (fun s=>(((L T 0)).length - (aI s 0)).toNat) ?_ ?_
 .show 0<=(0:Int)/\(0:Int)<=((L T 0)).length/\((L T 1)).length<=(0:Int)/\Cu [] ((L T 0))=Cu ((L T 1)) (((L T 0)).drop (0:Int).toNat);clear hS hB hH;exact⟨by omega,by omega,by rw[h1];exact Int.le_refl _,by rw[h1,show (0:Int).toNat=0 from rfl,List.drop_zero]⟩
 .intro T2 hfv hF inv;replace inv:0<=I T2 3/\I T2 3<=((L T 0)).length/\((L T2 4)).length<=I T2 3/\Cu [] ((L T 0))=Cu ((L T2 4)) (((L T 0)).drop (I T2 3).toNat):=inv;clear hS hB hH;replace hF:AH T2 EL:=hF;obtain⟨F0,hF⟩:=hF.cut;have F1:=hF;clear hF;have fv0:L T2 0=L T 0:=fvL (hfv 0 (by decide));have fv2:I T2 2=I T 2:=fvI (hfv 2 (by decide));clear hfv
  suffices hz:(B T2 30=true->(((L T2 4)).length+(([[]]:List (List U))).length)*1<=140737488355328)/\(B T2 5=true->0<=I T2 3/\I T2 3 < ((L T2 0)).length)/\(B T2 30=true->(0<=I T2 32/\I T2 32<=((L T 0)).length/\((L T2 31)).length<=I T2 32/\Cu [] ((L T 0))=Cu ((L T2 31)) (((L T 0)).drop (I T2 32).toNat)))/\(B T2 30=true->(((L T 0)).length - (I T2 32)).toNat < (((L T 0)).length - (I T2 3)).toNat) from
   let⟨r0,r1,nx,mz⟩:=hz;⟨⟨r0,r1,trivial⟩,fun hp=>⟨nx hp,mz hp⟩⟩
  refine⟨?_,?_,?_,?_⟩
  .obtain⟨e5,-⟩:=F0;obtain⟨-,-,-,-,-,-,-,-,-,e30,-⟩:=F1;simp only[AI,AP,zN,zR] at e5 e30;obtain⟨v1,v2,v3,v4⟩:=inv;intro hp;have h5:=e5.1 (e30.1 hp).1;rw[fv2] at h5;show (((L T2 4)).length+1)*1<=_;omega
  .obtain⟨e5,-⟩:=F0;simp only[AI,zR] at e5;obtain⟨v1,v2,v3,v4⟩:=inv;intro hp;have h5:=e5.1 hp;rw[fv2] at h5;rw[fv0];omega
  .obtain⟨e5,-,e7,e8,e9,e10,e11,e12,e13,e14,e15,e16,e17,e18,e19,e20,-⟩:=F0;obtain⟨e21,e22,e23,e24,e25,-,e27,e28,-,e30,e31,e32,-⟩:=F1;simp only[AI,AP,zN,zC,zR,EN,and_true,w2P,zL,zS,uR,zW] at e5 e7 e8 e9 e10 e11 e12 e13 e14 e15 e16 e17 e18 e19 e20 e21 e22 e23 e24 e25 e27 e28 e30 e31 e32;obtain⟨v1,v2,v3,v4⟩:=inv;intro hp;have h30:=e30.1 hp;have h5:=e5.1 h30.1;rw[fv2] at h5;have x32:=e32 (by omega) (by omega);have hlt:(I T2 3).toNat < ((L T 0)).length:=by omega
   rw[fv0] at e7 e8 e9 e10 e11 e12 e13 e14 e15;have hu:=hk0 _ (Dj hlt);have hk:[U.int (I T2 7),U.int (I T2 8)]=JL (((L T 0)).getD (I T2 3).toNat []):=by rw[e7,e8];rfl
   have h31:(L T2 31)=Bc 2 ((L T2 4)) (JL (((L T 0)).getD (I T2 3).toNat [])) (((L T 0)).getD (I T2 3).toNat []):=by
    rw[e31];show Bc 2 _ [U.int (I T2 7),U.int (I T2 8)] [U.int (I T2 7),U.int (I T2 8),U.int (I T2 9),U.bool (B T2 10),U.str (S T2 11),U.str (S T2 12),U.bool (B T2 13),U.int (I T2 14),U.int (I T2 15)]=_;rw[hk,e7,e8,e9,e10,e11,e12,e13,e14,e15];exact congrArg (Bc 2 _ _) (QT hu)
   have hc:¬N4 ((L T2 4)) (((L T 0)).getD (I T2 3).toNat [])=true:=fun hc=>by
    have h28:(B T2 28)=true:=(TO (e28.trans (and_congr e25 e27)) hk e16 e17 e18 e19 e20 e21 e22 e23 e24 e7 e8 e9 e10 e11 e12 e13 e14 e15).2 hc;simp[h28] at h30
   refine⟨by omega,by omega,?_,?_⟩
   .rw[h31];have:=Il (nk:=2) (m:=L T2 4) (k:=JL (((L T 0)).getD (I T2 3).toNat [])) (v:=((L T 0)).getD (I T2 3).toNat []);omega
   .rw[v4,Of hlt,if_neg hc,h31,x32,show ((I T2 3)+1).toNat=(I T2 3).toNat+1 by omega]
  .obtain⟨e5,-⟩:=F0;obtain⟨-,-,-,-,-,-,-,-,-,e30,-,e32,-⟩:=F1;simp only[AI,AP,zN,zR,w2P] at e5 e30 e32;obtain⟨v1,v2,v3,v4⟩:=inv;intro hp;have h5:=e5.1 (e30.1 hp).1;rw[fv2] at h5;have x32:=e32 (by omega) (by omega);omega
theorem eE {T:Tab}(hl0:(L T 0).length<=140737488355328)(hk0:∀u∈(L T 0),AT AF KB u)(h2:(I T 2)=((L T 0)).length)(h1:(L T 1)=[])(inv0:0<=I T 3/\I T 3<=((L T 0)).length/\((L T 4)).length<=I T 3/\Cu [] ((L T 0))=Cu ((L T 4)) (((L T 0)).drop (I T 3).toNat))(np0:¬B T 30=true)(A0:AH T Ih)(B0:AH T EL)(A1:AH T Qj):
  ((B T 33)=(NW (L T 0))):=by
 have F0:=A0;clear A0;obtain⟨F1,B0⟩:=B0.cut;have F2:=B0;clear B0;have F3:=A1;clear A1
 .obtain⟨-,e2,-⟩:=F0;obtain⟨e5,-,e7,e8,e9,e10,e11,e12,e13,e14,e15,e16,e17,e18,e19,e20,-⟩:=F1;obtain⟨e21,e22,e23,e24,e25,-,e27,e28,e29,e30,-⟩:=F2;obtain⟨e33,-⟩:=F3;simp only[AI,AP,zN,zC,zR,EN,and_true,zL,zS,uR,zW] at e2 e5 e7 e8 e9 e10 e11 e12 e13 e14 e15 e16 e17 e18 e19 e20 e21 e22 e23 e24 e25 e27 e28 e29 e30 e33;obtain⟨v1,v2,v3,v4⟩:=inv0;unfold NW;rw[v4];refine Bool.eq_iff_iff.2 ?_;rw[e33];by_cases h5:(I T 3) < I T 2
  .have hb5:=e5.2 h5;have hlt:(I T 3).toNat < ((L T 0)).length:=by omega
   have h28:(B T 28)=true:=by
    by_cases h:(B T 28)=true
    .exact h
    .exact absurd (e30.2 ⟨hb5,by simpa using h⟩) np0
   have hk:[U.int (I T 7),U.int (I T 8)]=JL (((L T 0)).getD (I T 3).toNat []):=by rw[e7,e8];rfl
   have hc:N4 ((L T 4)) (((L T 0)).getD (I T 3).toNat [])=true:=(TO (e28.trans (and_congr e25 e27)) hk e16 e17 e18 e19 e20 e21 e22 e23 e24 e7 e8 e9 e10 e11 e12 e13 e14 e15).1 h28;rw[Of hlt,if_pos hc];have:=e29.2 ⟨hb5,h28⟩;simp[this]
  .have n5:¬B T 5=true:=fun a=>h5 (e5.1 a);have n29:¬B T 29=true:=fun a=>n5 (e29.1 a).1;rw[show (I T 3).toNat=((L T 0)).length by omega,List.drop_length];simp[n29,Cu]
theorem bh:Ae Try.prog 85 HB:=by
 refine BH (l:=[]) Bh (by intro p h;exact absurd h (by simp)) df (by kernel_rfl) fun T us hpre hT hul hS hBd hE=>?_;change us.length=1 at hul;obtain⟨⟨hl0,he0⟩,-⟩:=hBd;replace hl0:(L T 0).length<=140737488355328:=hl0;have hk0:∀u∈(L T 0),AT AF KB u:=fun u hu=>by
  obtain⟨i,hi⟩:=List.mem_iff_getElem?.1 hu;exact he0 i u hi
 have ha0:aL us 0=L T 0:=inL hT hul (by decide);clear hpre;rw[List.map_append,List.map_append,List.map_append] at hE;have hA:=hE.left;replace hE:=hE.right;have hH:=hE.left;replace hE:=hE.right;have hB:=hE.left;replace hE:=hE.right;obtain⟨A0,hS1⟩:=Ai hS (by kernel_rfl) hA;obtain⟨h2,h1⟩:=WG hl0 hk0 A0;obtain⟨ow0,hS2,inv0,np0⟩:=Xy hl0 hk0 h2 h1 hS1 hB hH;have hF2:=(Ai (hS2.append hS1) (l:=EL) (by kernel_rfl) hB);obtain⟨B0,hS⟩:=hF2;clear hA hB hH hS1 hS2;obtain⟨A1,hO⟩:=BG (tys:=[.b]) (rs:=Vf) hS (by kernel_rfl) hE;have q0:=eE hl0 hk0 h2 h1 inv0 np0 A0 B0 A1;refine⟨⟨(fun _=>ow0),trivial⟩,hO.trans ?_⟩;exact (lc (by show U.bool (B T 33)= .bool (If us);unfold If;rw[ha0];exact congrArg U.bool q0) rfl)
end
end Go.Eng
end
