/-
  A part of the proof: K_lHistory.
-/
import Derived.Test.YtikbgnmcfncnaaaKB4
set_option linter.unusedVariables false
set_option linter.unusedSimpArgs false
noncomputable section
namespace Go.Eng
section
open Go Go.Eng Go.Proofs
set_option maxHeartbeats 4000000
set_option maxRecDepth 100000
theorem ze:ko 3 (pQ Try.prog [(19,No),(39,Oc),(24,P6),(23,yc),(42,yp),(15,Ny)] Bp 3000 20 10 yq 3)=some (124,(r9++((B5 yS [.i,.i] yY)++(ek++(yT++((B5 yU [.i] yX)++(f9++(ye))))))).map En.be,yr.map ObE.be):=by kernel_rfl
abbrev hJ(T:Tab):Prop:=(L T 0).length<=140737488355328
abbrev io(T:Tab):Prop:=(L T 1).length<=140737488355328
variable{T:Tab}
theorem zI (ao:hJ T)(al:∀u∈(L T 0),Bb BT KP u)(aw:io T)(an:∀u∈(L T 1),Bb BT KB u)(Z:0<=I T 2)(ag:I T 2<=255)(ab:(L T 0).length<=1048576)(D:(L T 1).length<=1048576)(c:BV T r9):
  ((B T 13)=true->(0<=I T 15/\I T 15 < ((L T 0)).length))/\(((L T 21)).length<=1048576)/\((B T 36)=true->((0<=I T 15/\I T 15 < ((L T 0)).length)/\BW (L T 0)=0/\Bc (L T 1)=0)/\L T 21=CH (L T 1)/\L T 17=(hsS (L T 0) (L T 1) (Bm (L T 0) (Bq (L T 0) (I T 15).toNat 0))).2/\L T 19=FP (L T 0) (L T 1)/\((L T 1)).length<=1048576):=by
 obtain⟨l,c⟩:=c.cut;obtain⟨o,c⟩:=c.cut;have J:=c;clear c;have C:(B T 13)=true->(0<=I T 15/\I T 15 < ((L T 0)).length):=by
  obtain⟨-,-,-,-,-,-,z,p,q,-,r,s,t,-⟩:=l;simp only[BS,BZ,zR,EK,zL] at z p q r s t;intro h;have M:¬B T 11=true:=by simpa using r.1 h
  have K:¬B T 10=true:=fun a=>M (q.2 (.inr a));have A:¬I T 9=0:=fun a=>K (p.2 a);rw[t,s,BH Z];rw[z] at A;exact⟨Int.emod_nonneg _ A,Int.emod_lt_of_pos _ (by omega)⟩
 have P:((L T 21)).length<=1048576:=by
  obtain⟨-,-,b,-⟩:=o;replace b:L T 21=(if Bc (L T 1)=0 then CH (L T 1) else []):=b;rw[b];have _:=D;exact wH (AV Jg (by omega))
 have Y:(B T 36)=true->((0<=I T 15/\I T 15 < ((L T 0)).length)/\BW (L T 0)=0/\Bc (L T 1)=0)/\L T 21=CH (L T 1)/\L T 17=(hsS (L T 0) (L T 1) (Bm (L T 0) (Bq (L T 0) (I T 15).toNat 0))).2/\L T 19=FP (L T 0) (L T 1)/\((L T 1)).length<=1048576:=by
  obtain⟨-,-,-,-,-,-,-,-,-,-,-,-,-,v,e,-⟩:=l;obtain⟨g,j,b,-,-,-,w,x,-,-,y,-⟩:=o;obtain⟨-,k,-⟩:=J;replace e:L T 17=(if (if¬BW (L T 0)=0 then BW (L T 0) else Bc (L T 1))=0/\¬Bm (L T 0) (S T 16) < 0 then (hsS (L T 0) (L T 1) (Bm (L T 0) (S T 16))).2 else []):=e;replace g:L T 19=(if (if¬BW (L T 0)=0 then BW (L T 0) else Bc (L T 1))=0 then FP (L T 0) (L T 1) else []):=g;replace j:I T 20=((if¬BW (L T 0)=0 then BW (L T 0) else Bc (L T 1))):=j;replace b:L T 21=(if Bc (L T 1)=0 then CH (L T 1) else []):=b;simp only[BS,BZ,zN,zR,zL] at v w x y k;intro h;have N:=(k.1 h).1;have W:¬B T 29=true:=by rw[(k.1 h).2];exact Bool.false_ne_true
  have V:¬B T 26=true:=fun a=>W (y.2 (.inl a));have Q:¬B T 25=true:=fun a=>V (x.2 (.inr a));have d:(I T 20)=0:=At fun a=>Q (w.2 a);rw[j] at d;obtain⟨F,E⟩:=Q7 d;have X:=C N;have hf:=(yd (Nm F).2.1 (i:=(I T 15).toNat) (by omega)).1 rfl;have O:(S T 16)=Bq (L T 0) (I T 15).toNat 0:=v;have H:=e;rw[O] at H;refine⟨⟨X,F,E⟩,?_,?_,?_,by have _:=D;omega⟩
  .rw[b,BH E]
  .rw[H,BH ⟨d,by omega⟩]
  .rw[g,BH d]
 exact⟨C,P,Y⟩
abbrev iq(T:Tab):Prop:=((L T 21)).length<=1048576
abbrev iB(T:Tab):Prop:=(B T 36)=true->((0<=I T 15/\I T 15 < ((L T 0)).length)/\BW (L T 0)=0/\Bc (L T 1)=0)/\L T 21=CH (L T 1)/\L T 17=(hsS (L T 0) (L T 1) (Bm (L T 0) (Bq (L T 0) (I T 15).toNat 0))).2/\L T 19=FP (L T 0) (L T 1)/\((L T 1)).length<=1048576
theorem zQ (b3:iq T)(v:iB T)(hS:Ba T (Bh (CA 0 yV) r9))(hB:Bi T (ek.map En.be))(hH:Bi T ((B5 yS [.i,.i] yY).map En.be)):
  (yS).owes (yY.map (Rf.eval T))/\Ba T (hds 37 [.i,.i])/\(nd T (I T 37) (I T 38))/\¬B T 41=true:=by
 refine CK (nh:=37) (k:=2) (pcn:=41) (aF:=72) (b:=ek) (K:=yk) (nxt:=[.e 71,.e 70]) (H:=[.c (.int 0),.c (.int 0)]) (fv:=[0,15,21,36]) (A:=[.i,.i]) (by kernel_rfl) rfl rfl rfl rfl hS (by kernel_rfl) (by kernel_rfl) hB (B6 hH) (fun s=>nd T (aI s 0) (aI s 1)) (fun s=>(((L T 21)).length - (aI s 0)).toNat) ?_ ?_
 .show nd T (0:Int) (0:Int);clear hS hB hH;exact⟨Aw _,by omega,rfl⟩
 .intro J O u p;replace p:nd T (I J 37) (I J 38):=p;clear hS hB hH;replace u:BV J ek:=u;obtain⟨r,u⟩:=u.cut;obtain⟨Q,u⟩:=u.cut;have F2:=u;clear u;have ad:=fvL (O 0 (by decide));have ag:=fvI (O 15 (by decide));have l:=fvL (O 21 (by decide));have t:=fvB (O 36 (by decide));clear O
  suffices hz:(B J 62=true->0<=I J 15/\I J 15 < ((L J 0)).length)/\(B J 59=true->0<=I J 37/\I J 37 < ((L J 21)).length)/\(B J 55=true->0<=I J 15/\I J 15 < ((L J 0)).length)/\(B J 52=true->0<=I J 37/\I J 37 < ((L J 21)).length)/\(B J 47=true->0<=I J 37/\I J 37 < ((L J 21)).length)/\(B J 41=true->0<=I J 37/\I J 37 < ((L J 21)).length)/\(B J 41=true->(nd T (I J 71) (I J 70)))/\(B J 41=true->(((L T 21)).length - (I J 71)).toNat < (((L T 21)).length - (I J 37)).toNat) from
   let⟨r0,aB,aJ,r3,r4,r5,nx,mz⟩:=hz;⟨⟨r0,aB,aJ,r3,r4,r5,trivial⟩,fun d=>⟨nx d,mz d⟩⟩
  refine⟨?_,?_,?_,?_,?_,?_,?_,?_⟩
  .obtain⟨e,g,c,-⟩:=r;obtain⟨o,-,-,-,-,-,-,ab,-⟩:=Q;simp only[BS,BZ,zN,zR,zL] at e g c o ab;obtain⟨F,M,q⟩:=p;intro d;rw[t] at c;have i:=(c.1 (by exact (o.1 (ab.1 d).1).1)).1;have j:=g.1 (c.1 (by exact (o.1 (ab.1 d).1).1)).2;rw[e,l] at j;obtain⟨⟨⟨w,aw⟩,x,y⟩,z,C,D,E⟩:=v i;rw[ag,ad];omega
  .obtain⟨e,g,c,-⟩:=r;obtain⟨o,-,-,-,Z,-⟩:=Q;simp only[BS,BZ,zN,zR,zL] at e g c o Z;obtain⟨F,M,q⟩:=p;intro d;rw[t] at c;have i:=(c.1 (by exact (o.1 (Z.1 d).1).1)).1;have j:=g.1 (c.1 (by exact (o.1 (Z.1 d).1).1)).2;rw[e,l] at j;obtain⟨⟨⟨w,aw⟩,x,y⟩,z,C,D,E⟩:=v i;rw[l];omega
  .obtain⟨e,g,c,-⟩:=r;obtain⟨o,-⟩:=Q;simp only[BS,BZ,zR,zL] at e g c o;obtain⟨F,M,q⟩:=p;intro d;rw[t] at c;have i:=(c.1 (by exact (o.1 d).1)).1;have j:=g.1 (c.1 (by exact (o.1 d).1)).2;rw[e,l] at j;obtain⟨⟨⟨w,aw⟩,x,y⟩,z,C,D,E⟩:=v i;rw[ag,ad];omega
  .obtain⟨e,g,c,-,-,-,-,-,-,-,-,-,-,Y,-⟩:=r;simp only[BS,BZ,zR,zL] at e g c Y;obtain⟨F,M,q⟩:=p;intro d;rw[t] at c;have i:=(c.1 (by exact (Y.1 d).1)).1;have j:=g.1 (c.1 (by exact (Y.1 d).1)).2;rw[e,l] at j;obtain⟨⟨⟨w,aw⟩,x,y⟩,z,C,D,E⟩:=v i;rw[l];omega
  .obtain⟨e,g,c,-,-,-,-,-,W,-⟩:=r;simp only[BS,BZ,zR,zL] at e g c W;obtain⟨F,M,q⟩:=p;intro d;rw[t] at c;have i:=(c.1 (by exact (W.1 d).1)).1;have j:=g.1 (c.1 (by exact (W.1 d).1)).2;rw[e,l] at j;obtain⟨⟨⟨w,aw⟩,x,y⟩,z,C,D,E⟩:=v i;rw[l];omega
  .obtain⟨e,g,c,-⟩:=r;simp only[BS,BZ,zR,zL] at e g c;obtain⟨F,M,q⟩:=p;intro d;rw[t] at c;have i:=(c.1 (by exact d)).1;have j:=g.1 (c.1 (by exact d)).2;rw[e,l] at j;obtain⟨⟨⟨w,aw⟩,x,y⟩,z,C,D,E⟩:=v i;rw[l];omega
  .obtain⟨e,g,c,-,a0,V,-,-,-,a1,X,a2,-,-,a3,-⟩:=r;obtain⟨-,a4,a5,-,-,a6,-,-,a7,a8,a9,ba,-,bb,-,bc,-⟩:=Q;obtain⟨N,-⟩:=F2;replace V:B J 44=(yh (L J 0) (S J 43)):=V;replace X:B J 49=(yh (L J 0) (S J 48)):=X;simp only[BS,BZ,zR,Dw,and_true,w2P,zL,zS] at e g c a0 a1 a2 a3 a4 a5 a6 a7 a8 a9 ba bb bc N;obtain⟨F,M,q⟩:=p;intro d;rw[t] at c;have i:=(c.1 (d)).1;have j:=g.1 (c.1 (d)).2;rw[e,l] at j;obtain⟨⟨⟨w,aw⟩,x,y⟩,z,C,D,E⟩:=v i;have bl:=o2' N (by omega);have hc:=ya (P:=L T 0) (B:=L T 21) (aH:=Bq (L T 0) (I T 15).toNat 0) (I J 37).toNat;rw[<-q] at hc;refine⟨by omega,by omega,?_⟩;rw[bl,show ((I J 37)+1).toNat=(I J 37).toNat+1 by omega];show _=yW (L T 0) (Bq (L T 0) (I T 15).toNat 0) (upK (yW (L T 0) (Bq (L T 0) (I T 15).toNat 0)) (L T 21) (I J 37).toNat 0) (((L T 21)).getD (I J 37).toNat []);rw[<-q];have hg:(B J 66)=true↔yj (L T 0) (Bq (L T 0) (I T 15).toNat 0) (((L T 21)).getD (I J 37).toNat []):=by
    unfold yj;rw[ba,a2,a9,a5,a8,V,X,a0,a1,a3,a4,a6,a7,ad,ag,l];exact Iff.rfl
   unfold yW;rw[bc];by_cases h:(B J 66)=true
   .rw[BH h,BH (hg.1 h),bb (by omega) (by omega)]
   .rw[BG h,BG (fun a=>h (hg.2 a))]
  .obtain⟨e,g,c,-⟩:=r;obtain⟨N,-⟩:=F2;simp only[BS,BZ,zR,w2P,zL] at e g c N;obtain⟨F,M,q⟩:=p;intro d;rw[t] at c;have i:=(c.1 (d)).1;have j:=g.1 (c.1 (d)).2;rw[e,l] at j;obtain⟨⟨⟨w,aw⟩,x,y⟩,z,C,D,E⟩:=v i;have bl:=o2' N (by omega);omega
abbrev iP(T:Tab):Prop:=(B T 13)=true->(0<=I T 15/\I T 15 < ((L T 0)).length)
theorem zK (Y:hJ T)(W:∀u∈(L T 0),Bb BT KP u)(Z:io T)(X:∀u∈(L T 1),Bb BT KB u)(ab:0<=I T 2)(V:I T 2<=255)(P:(L T 0).length<=1048576)(x:(L T 1).length<=1048576)(O:iP T)(N:iq T)(y:iB T)(A:nd T (I T 37) (I T 38))(ad:¬B T 41=true)(b:BV T r9)(c:BV T ek)(d:BV T yT):
  (((L T 17)).length<=1048577)/\((B T 42)=true->HiK (L T 0) (I T 15).toNat ((L T 19),(L T 17)) (I T 38)/\(0<=I T 15/\I T 15 < ((L T 0)).length)):=by
 obtain⟨k,b⟩:=b.cut;obtain⟨D,b⟩:=b.cut;have E:=b;clear b;obtain⟨l,c⟩:=c.cut;obtain⟨F,c⟩:=c.cut;have H:=c;clear c;obtain⟨J,d⟩:=d.cut;have K:=d;clear d;have hd:((L T 17)).length<=1048577:=by
  obtain⟨-,-,-,-,-,-,-,-,-,-,-,-,-,-,e,-⟩:=k;replace e:L T 17=(if (if¬BW (L T 0)=0 then BW (L T 0) else Bc (L T 1))=0/\¬Bm (L T 0) (S T 16) < 0 then (hsS (L T 0) (L T 1) (Bm (L T 0) (S T 16))).2 else []):=e;rw[e];have _:=x;exact wH (AV sC (by omega))
 have z:(B T 42)=true->HiK (L T 0) (I T 15).toNat ((L T 19),(L T 17)) (I T 38)/\(0<=I T 15/\I T 15 < ((L T 0)).length):=by
  obtain⟨i,j,-,g,-⟩:=l;simp only[BS,BZ,zN,zR,zL] at i j g;intro h;have v:=(g.1 h).1;have w:¬B T 40=true:=by rw[(g.1 h).2];exact Bool.false_ne_true
  have Q:¬I T 37 < ((L T 21)).length:=fun a=>w (j.2 (by rw[i];exact a));obtain⟨⟨⟨o,aw⟩,p,q⟩,r,s,t,M⟩:=y v;obtain⟨v1,v2,C⟩:=A;refine⟨?_,o,aw⟩;rw[s,t,C,show (I T 37).toNat=((L T 21)).length by omega,r];exact zj p q (by omega)
 exact⟨hd,z⟩
abbrev jn(T:Tab):Prop:=(B T 42)=true->HiK (L T 0) (I T 15).toNat ((L T 19),(L T 17)) (I T 38)/\(0<=I T 15/\I T 15 < ((L T 0)).length)
theorem zO (hd:((L T 17)).length<=1048577)(W:jn T)(E:Ba T (Bh (Bh (hds 37 [.i,.i]++(Bh (CA 0 yV) r9)) ek) yT))(C:Bi T (f9.map En.be))(D:Bi T ((B5 yU [.i] yX).map En.be)):
  (yU).owes (yX.map (Rf.eval T))/\Ba T (hds 99 [.i])/\(1<=I T 99/\I T 99<=1048578)/\¬B T 115=true:=by
 refine CK (nh:=99) (k:=1) (pcn:=115) (aF:=117) (b:=f9) (K:=ym) (nxt:=[.e 116]) (H:=[.c (.int 1)]) (fv:=[17,98]) (A:=[.i]) (by kernel_rfl) rfl rfl rfl rfl E (by kernel_rfl) (by kernel_rfl) C (B6 D) (fun s=>1<=(aI s 0)/\(aI s 0)<=1048578) (fun s=>(((L T 17)).length - (aI s 0)).toNat) ?_ ?_
 .show 1<=(1:Int)/\(1:Int)<=1048578;clear E C D;exact⟨Aw _,by omega⟩
 .intro J F u q;replace q:1<=I J 99/\I J 99<=1048578:=q;clear E C D;replace u:BV J f9:=u;obtain⟨r,u⟩:=u.cut;have t:=u;clear u;have p:=fvL (F 17 (by decide));have V:=fvB (F 98 (by decide));clear F
  suffices M:(B J 102=true->0<=I J 99/\I J 99 < ((L J 17)).length)/\(B J 102=true->0<=I J 108/\I J 108 < ((L J 17)).length)/\(B J 102=true->0<=I J 105/\I J 105 < ((L J 17)).length)/\(B J 102=true->0<=I J 99/\I J 99 < ((L J 17)).length)/\(B J 115=true->(1<=I J 116/\I J 116<=1048578))/\(B J 115=true->(((L T 17)).length - (I J 116)).toNat < (((L T 17)).length - (I J 99)).toNat) from
   let⟨P,aB,aJ,Q,O,N⟩:=M;⟨⟨P,aB,aJ,Q,trivial⟩,fun a=>⟨O a,N a⟩⟩
  refine⟨?_,?_,?_,?_,?_,?_⟩
  .obtain⟨c,d,e,-,-,g,-,-,h,-,-,-,-,-,-,i,-⟩:=r;obtain⟨j,-⟩:=t;simp only[BS,BZ,zN,zR,w2P,zL] at c d e g h i j;obtain⟨v,w⟩:=q;intro a;have o:(B J 102)=true:=by first|exact a|exact (i.1 a).1
   have l:=d.1 (e.1 o).2;rw[c,p] at l;have x:=o2' g (by omega);have y:=o2' h (by omega);have z:=o2' j (by omega);rw[p];omega
  .obtain⟨c,d,e,-,-,g,-,-,h,-,-,-,-,-,-,i,-⟩:=r;obtain⟨j,-⟩:=t;simp only[BS,BZ,zN,zR,w2P,zL] at c d e g h i j;obtain⟨v,w⟩:=q;intro a;have o:(B J 102)=true:=by first|exact a|exact (i.1 a).1
   have l:=d.1 (e.1 o).2;rw[c,p] at l;have x:=o2' g (by omega);have y:=o2' h (by omega);have z:=o2' j (by omega);rw[p];omega
  .obtain⟨c,d,e,-,-,g,-,-,h,-,-,-,-,-,-,i,-⟩:=r;obtain⟨j,-⟩:=t;simp only[BS,BZ,zN,zR,w2P,zL] at c d e g h i j;obtain⟨v,w⟩:=q;intro a;have o:(B J 102)=true:=by first|exact a|exact (i.1 a).1
   have l:=d.1 (e.1 o).2;rw[c,p] at l;have x:=o2' g (by omega);have y:=o2' h (by omega);have z:=o2' j (by omega);rw[p];omega
  .obtain⟨c,d,e,-,-,g,-,-,h,-,-,-,-,-,-,i,-⟩:=r;obtain⟨j,-⟩:=t;simp only[BS,BZ,zN,zR,w2P,zL] at c d e g h i j;obtain⟨v,w⟩:=q;intro a;have o:(B J 102)=true:=by first|exact a|exact (i.1 a).1
   have l:=d.1 (e.1 o).2;rw[c,p] at l;have x:=o2' g (by omega);have y:=o2' h (by omega);have z:=o2' j (by omega);rw[p];omega
  .obtain⟨c,d,e,-,-,g,-,-,h,-,-,-,-,-,-,i,-⟩:=r;obtain⟨j,-⟩:=t;simp only[BS,BZ,zN,zR,w2P,zL] at c d e g h i j;obtain⟨v,w⟩:=q;intro a;have o:(B J 102)=true:=by first|exact a|exact (i.1 a).1
   have l:=d.1 (e.1 o).2;rw[c,p] at l;have x:=o2' g (by omega);have y:=o2' h (by omega);have z:=o2' j (by omega);omega
  .obtain⟨c,d,e,-,-,g,-,-,h,-,-,-,-,-,-,i,-⟩:=r;obtain⟨j,-⟩:=t;simp only[BS,BZ,zN,zR,w2P,zL] at c d e g h i j;obtain⟨v,w⟩:=q;intro a;have o:(B J 102)=true:=by first|exact a|exact (i.1 a).1
   have l:=d.1 (e.1 o).2;rw[c,p] at l;have x:=o2' g (by omega);have y:=o2' h (by omega);have z:=o2' j (by omega);omega
theorem zb (ev:hJ T)(et:∀u∈(L T 0),Bb BT KP u)(ey:io T)(eu:∀u∈(L T 1),Bb BT KB u)(e1:0<=I T 2)(es:I T 2<=255)(eo:(L T 0).length<=1048576)(eq:(L T 1).length<=1048576)(hb:iP T)(em:iq T)(hn:iB T)(s:nd T (I T 37) (I T 38))(e2:¬B T 41=true)(hd:((L T 17)).length<=1048577)(b:jn T)(dv:1<=I T 99/\I T 99<=1048578)(e3:¬B T 115=true)(q:BV T r9)(r:BV T ek)(z:BV T yT)(A:BV T f9)(Z:BV T ye):
  ((B T 124)=(true))/\
  (B T 93=true->0<=I T 15/\I T 15 < ((L T 19)).length)/\
  (B T 90=true->0<=I T 38/\I T 38 < ((L T 17)).length)/\
  (B T 85=true->0<=I T 15/\I T 15 < ((L T 0)).length)/\
  (B T 81=true->0<=(0:Int)/\(0:Int) < ((L T 17)).length)/\
  (B T 13=true->((L T 1)).length<=40\/200 < ((L T 1)).length)/\
  (B T 13=true->((L T 1)).length<=40\/200 < ((L T 1)).length)/\
  (B T 13=true->((L T 1)).length<=40\/200 < ((L T 1)).length)/\
  (B T 13=true->0<=I T 15/\I T 15 < ((L T 0)).length)/\
  (B T 13=true->¬I T 14=0):=by
 obtain⟨t,q⟩:=q.cut;obtain⟨F1,q⟩:=q.cut;have F2:=q;clear q;obtain⟨F3,r⟩:=r.cut;obtain⟨F4,r⟩:=r.cut;have F5:=r;clear r;obtain⟨F,z⟩:=z.cut;have H:=z;clear z;obtain⟨F8,A⟩:=A.cut;have F9:=A;clear A;have c3:=Z;clear Z;refine⟨?_,?_,?_,?_,?_,?_,?_,?_,?_,?_⟩
 .obtain⟨-,-,-,-,-,-,-,-,-,N,-,-,-,bb,O,Q,-⟩:=t;obtain⟨-,V,-,W,bc,-,bi,bl,-,bm,bo,X,bs,bt,-,C,-⟩:=F1;obtain⟨bx,-⟩:=F2;obtain⟨b0,b1,b2,-,b3,-,b4,b5,b6,-,b8,b9,-,-,cb,cc,-⟩:=F;obtain⟨ce,-,-,ci,-,-,cl,cs,cu,Y,cv,-⟩:=H;obtain⟨ad,ag,J,-,al,an,ao,ax,a0,a1,a2,a3,a4,a5,K,-⟩:=F8;obtain⟨M,a6,-,a7,-,a8,-,a9,-⟩:=c3;replace N:B T 12=(true):=N;replace O:L T 17=(if (if¬BW (L T 0)=0 then BW (L T 0) else Bc (L T 1))=0/\¬Bm (L T 0) (S T 16) < 0 then (hsS (L T 0) (L T 1) (Bm (L T 0) (S T 16))).2 else []):=O;replace Q:I T 18=(if (if¬BW (L T 0)=0 then BW (L T 0) else Bc (L T 1))=0 then (if Bm (L T 0) (S T 16) < 0 then 5 else 0) else (if¬BW (L T 0)=0 then BW (L T 0) else Bc (L T 1))):=Q;replace V:I T 20=((if¬BW (L T 0)=0 then BW (L T 0) else Bc (L T 1))):=V;replace W:I T 22=(Bc (L T 1)):=W;replace C:B T 34=(true):=C;replace M:B T 117=(true):=M;simp only[BS,BZ,zN,zC,zR,EK,w2P,zL,zS] at bb bc bi bl bm bo X bs bt bx b0 b1 b2 b3 b4 b5 b6 b8 b9 cb cc ce ci cl cs cu Y cv ad ag J al an ao ax a0 a1 a2 a3 a4 a5 K a6 a7 a8 a9;have f3:=N;have f6:=C;have f0:=M;have dk:(B T 30)=true->B T 35=true:=by
   intro h;have dd:=(X.1 h).1;have di:=(X.1 h).2;refine bx.2 ⟨bt.2 ?_,C⟩;rw[bs];have d5:=O;by_cases D:(if¬BW (L T 0)=0 then BW (L T 0) else Bc (L T 1))=0
   .exfalso;obtain⟨k1,E⟩:=Q7 D;have hI:=hb dd;have hf:=(yd (Nm k1).2.1 (i:=(I T 15).toNat) (by omega)).1 rfl;have de:(S T 16)=Bq (L T 0) (I T 15).toNat 0:=bb;have c1:=Q;rw[de,BH D,BG (by omega)] at c1;have d6:=V;have d7:=W;rcases bo.1 di with h|h
    .rcases bl.1 h with h|h
     .exact (bc.1 h) c1
     .exact (bi.1 h) (d6.trans D)
    .exact (bm.1 h) (d7.trans E)
   .rw[d5,BG (fun a=>D a.1)];rfl
  have d2:¬B T 97=true:=fun h=>by
   have dm:=(Y.1 h).1;obtain⟨b,v,aw⟩:=b dm;have c:=b.len;have c:(((L T 17)).length:Int)=I T 38+1:=c;have aN:=(ya (P:=L T 0) (B:=L T 21) (aH:=Bq (L T 0) (I T 15).toNat 0) (I T 37).toNat);rw[<-s.2.2] at aN;have p:((L T 19)).length=((L T 0)).length:=DG b.nm;have f1:BU (L T 17) 0 0=BU (L T 0) (I T 15).toNat 1:=b.fst;have f2:BU (L T 17) (((L T 17)).length - 1) 0=BU (L T 19) (I T 15).toNat 1:=b.lst;have f7:=b4 (by omega) (by have:=s.2.1;omega);rcases cu.1 (Y.1 h).2 with h|h
   .rcases ce.1 h with h|h
    .rcases b6.1 h with h|h
     .exact (b2.1 h) (by rw[b0,b1,p])
     .exact (b5.1 h) (by rw[b3];omega)
    .refine (cc.1 h) ?_;rw[b9,b8,cb];exact f1
   .refine (cs.1 h) ?_;rw[ci,cl,<-f2,show (I T 38).toNat=((L T 17)).length - 1 by omega]
  have d1:¬B T 114=true:=fun h=>by
   have cx:=(K.1 h).1;have ds:=(J.1 cx).1;have c9:=ag.1 (J.1 cx).2;rw[ad] at c9;obtain⟨b,v,aw⟩:=b (cv.1 ds).1;obtain⟨aS,w2⟩:=dv;have fd:=o2' an (by omega);have fr:=o2' a0 (by omega);have d:=b.dif (I T 99).toNat (by omega) (by show (I T 99).toNat < ((L T 17)).length;omega);have d:BU (L T 17) (I T 99).toNat 0 - BU (L T 17) ((I T 99).toNat - 1) 0<=19/\BU (L T 17) ((I T 99).toNat - 1) 0 - BU (L T 17) (I T 99).toNat 0<=19:=d;have y:(I T 105).toNat=(I T 99).toNat - 1:=by omega
   have y2:(I T 108).toNat=(I T 99).toNat - 1:=by omega
   rw[<-y] at d;have e4:(I T 104)=BU (L T 17) (I T 99).toNat 0:=al;have e5:(I T 106)=BU (L T 17) (I T 105).toNat 0:=ao;have e6:(I T 109)=BU (L T 17) (I T 105).toNat 0:=by rw[y,<-y2];exact a1
   have e7:(I T 110)=BU (L T 17) (I T 99).toNat 0:=a2;have el:=a5.1 (K.1 h).2;have fn:=o2' ax (by omega);have fs:=o2' a3 (by omega);have fv:=a4;omega
  have dn:(B T 97)=false:=by simpa using d2
  have db:(B T 114)=false:=by simpa using d1
  have d3:=a6;have d4:=a7;have f4:=a8;have f5:=a9;rw[dn] at d4;rw[db] at d3;by_cases o:(B T 11)=true
  .simp_all
  .by_cases dj:(B T 30)=true
   .have:=dk dj
    simp_all
   .simp_all
 .obtain⟨-,-,-,-,-,cj,-⟩:=H;simp only[BS,BZ,zN,zR] at cj;intro h;obtain⟨b,v,aw⟩:=b ((cj.1 h).1);have c:=b.len;have aN:=(ya (P:=L T 0) (B:=L T 21) (aH:=Bq (L T 0) (I T 15).toNat 0) (I T 37).toNat);rw[<-s.2.2] at aN;have p:=DG b.nm;have p:((L T 19)).length=((L T 0)).length:=p;omega
 .obtain⟨-,-,ch,-⟩:=H;simp only[BS,BZ,zN,zR] at ch;intro h;obtain⟨b,v,aw⟩:=b ((ch.1 h).1);have c:=b.len;have aN:=(ya (P:=L T 0) (B:=L T 21) (aH:=Bq (L T 0) (I T 15).toNat 0) (I T 37).toNat);rw[<-s.2.2] at aN;have p:=DG b.nm;have c:(((L T 17)).length:Int)=I T 38+1:=c;omega
 .obtain⟨-,-,-,-,-,-,-,-,-,-,-,-,-,ca,-⟩:=F;simp only[BS,BZ,zN,zR] at ca;intro h;obtain⟨b,v,aw⟩:=b ((ca.1 h).1);have c:=b.len;have aN:=(ya (P:=L T 0) (B:=L T 21) (aH:=Bq (L T 0) (I T 15).toNat 0) (I T 37).toNat);rw[<-s.2.2] at aN;have p:=DG b.nm;omega
 .obtain⟨-,-,-,-,-,-,-,-,-,b7,-⟩:=F;simp only[BS,BZ,zN,zR] at b7;intro h;obtain⟨b,v,aw⟩:=b ((b7.1 h).1);have c:=b.len;have aN:=(ya (P:=L T 0) (B:=L T 21) (aH:=Bq (L T 0) (I T 15).toNat 0) (I T 37).toNat);rw[<-s.2.2] at aN;have p:=DG b.nm;have c:(((L T 17)).length:Int)=I T 38+1:=c;omega
 .obtain⟨-,-,j,k,l,-,-,-,e,-,g,-⟩:=t;simp only[BS,BZ,zR,zL] at j k l e g;intro h;have o:¬B T 11=true:=by simpa using g.1 h
  have x:¬B T 6=true:=fun a=>o (e.2 (.inl (l.2 (.inr a))));have w:¬30 < I T 5:=fun a=>x (k.2 a);rw[j] at w;omega
 .obtain⟨-,-,j,k,l,-,-,-,e,-,g,-⟩:=t;simp only[BS,BZ,zR,zL] at j k l e g;intro h;have o:¬B T 11=true:=by simpa using g.1 h
  have x:¬B T 6=true:=fun a=>o (e.2 (.inl (l.2 (.inr a))));have w:¬30 < I T 5:=fun a=>x (k.2 a);rw[j] at w;omega
 .obtain⟨-,-,j,k,l,-,-,-,e,-,g,-⟩:=t;simp only[BS,BZ,zR,zL] at j k l e g;intro h;have o:¬B T 11=true:=by simpa using g.1 h
  have x:¬B T 6=true:=fun a=>o (e.2 (.inl (l.2 (.inr a))));have w:¬30 < I T 5:=fun a=>x (k.2 a);rw[j] at w;omega
 .exact hb
 .obtain⟨-,-,-,-,-,-,e9,ab,e,-,g,ba,-⟩:=t;simp only[BS,BZ,zR,zL] at e9 ab e g ba;intro h;have o:¬B T 11=true:=by simpa using g.1 h
  have c8:¬B T 10=true:=fun a=>o (e.2 (.inr a));have h9:¬I T 9=0:=fun a=>c8 (ab.2 a);rw[ba];rw[e9] at h9;exact h9
theorem zJ:MC Try.prog 9 Try.f10.params.toList 0=some (yq,yV):=by kernel_rfl
theorem zT:∀p∈([(19,No),(39,Oc),(24,P6),(23,yc),(42,yp),(15,Ny)]:List (FuncId × Bf)),Bl Try.prog p.1 p.2:=by simp only[AW];exact⟨ue,jt,ABE,zi,ok_one,pA,fun _ h=>absurd h (by simp)⟩
theorem zU:∀T:Tab,Ba T (CA 0 yV)->Bnd T 0 yV->cd 1048576 T 0 yV->Bi T ((r9++((B5 yS [.i,.i] yY)++(ek++(yT++((B5 yU [.i] yX)++(f9++(ye))))))).map En.be)->J6 T yr/\B T 124=true:=by
 intro T g N O a;obtain⟨⟨p,P⟩,⟨q,Q⟩,⟨r,o⟩,-⟩:=N;replace p:(L T 0).length<=140737488355328:=p;have w:∀u∈(L T 0),Bb BT KP u:=fun u z=>by
  obtain⟨i,ab⟩:=Ac.1 z;exact P i u ab
 replace q:(L T 1).length<=140737488355328:=q;have x:∀u∈(L T 1),Bb BT KB u:=fun u z=>by
  obtain⟨i,ab⟩:=Ac.1 z;exact Q i u ab
 replace r:0<=I T 2:=r;replace o:I T 2<=255:=o;obtain⟨j,k,-⟩:=O;replace j:(L T 0).length<=1048576:=j;replace k:(L T 1).length<=1048576:=k;rw[AL,AL,AL,AL,AL,AL] at a;obtain⟨d,a⟩:=cutB a;obtain⟨e,a⟩:=cutB a;obtain⟨b,a⟩:=cutB a;obtain⟨s,c⟩:=Be g (by kernel_rfl) d;obtain⟨E,t,y⟩:=zI p w q x r o j k s;obtain⟨X,h,H,J⟩:=zQ t y c b e;have v:=(Be (h.append c) (l:=ek) (by kernel_rfl) b);obtain⟨D,g⟩:=v;clear d b e c h;obtain⟨d,a⟩:=cutB a;obtain⟨e,a⟩:=cutB a;obtain⟨b,a⟩:=cutB a;obtain⟨C,c⟩:=Be g (by kernel_rfl) d;obtain⟨hd,F⟩:=zK p w q x r o j k E t y H J s D C;obtain⟨Y,h,V,W⟩:=zO hd F c b e;have v:=(Be (h.append c) (l:=f9) (by kernel_rfl) b);obtain⟨M,g⟩:=v;clear d b e c h;obtain⟨K,hO⟩:=B8 (A:=[.b]) (ag:=zd) g (by kernel_rfl) a;obtain⟨Z,r0,aB,aJ,r3,r4,r5,r6,r7,r8⟩:=zb p w q x r o j k E t y H J hd F V W s D C M K;exact⟨⟨(fun _=>Y),r0,aB,aJ,r3,(fun _=>X),r4,r5,r6,r7,r8,trivial⟩,Z⟩
end
end Go.Eng
end
