/-
  A part of the proof: the evaluator of code and its soundness.
-/
import Derived.Test.YtikbgnmcfncnaaaKB0
import Derived.Test.YtikbgnmcfncnaaaE4
import Derived.Test.YtikbgnmcfncnaaaE5
set_option linter.unusedVariables false
set_option linter.unusedSimpArgs false
noncomputable section
namespace Go.Eng
section
open Go Go.Eng Go.Proofs
set_option maxHeartbeats 4000000
set_option maxRecDepth 100000
theorem sV:K3.sees cG (K3.run Try.prog [] Bp 3000 20 85)=some ((MN++((B5 Mb [.i,.l] RO)++(Gp++(Vz)))).map En.be,tf.map ObE.be,[]):=by kernel_rfl
abbrev f9(T:Tab):Prop:=(L T 0).length<=140737488355328
variable{T:Tab}
theorem gR (g:f9 T)(e:∀u∈(L T 0),Bb BT KB u)(a:BV T MN):
  ((I T 2)=((L T 0)).length)/\((L T 1)=[]):=by
 have b:=a;clear a;have C:(I T 2)=((L T 0)).length:=by
  obtain⟨-,d,-⟩:=b;simp only[BS,zR,zL] at d;exact d
 have O:(L T 1)=[]:=by
  obtain⟨c,-⟩:=b;simp only[BS,zR,zL,zS] at c;exact c
 exact⟨C,O⟩
abbrev dR(T:Tab)(a:Int)(b:List (List U)):Prop:=0<=a/\a <=((L T 0)).length/\b.length<=a/\Dv [] ((L T 0))=Dv b (((L T 0)).drop a.toNat)
abbrev gc(T:Tab):Prop:=(I T 2)=((L T 0)).length
theorem lf (bs:f9 T)(bb:∀u∈(L T 0),Bb BT KB u)(C:gc T)(O:(L T 1)=[])(N:Ba T (Bh (CA 0 K3.ks) MN))(F:Bi T (Gp.map En.be))(M:Bi T ((B5 Mb [.i,.l] RO).map En.be)):
  (Mb).owes (RO.map (Rf.eval T))/\Ba T (hds 3 [.i,.l])/\(dR T (I T 3) (L T 4))/\¬B T 30=true:=by
 refine CK (nh:=3) (k:=2) (pcn:=30) (R:=33) (b:=Gp) (K:=Vw) (nxt:=[.e 32,.e 31]) (H:=[.c (.int 0),.e 1]) (fv:=[0,2]) (A:=[.i,.l]) (by kernel_rfl) rfl rfl rfl rfl N (by kernel_rfl) (by kernel_rfl) F (B6 M) (fun s=>dR T (aI s 0) (aL s 1)) (fun s=>(((L T 0)).length - (aI s 0)).toNat) ?_ ?_
 .show dR T (0:Int) (L T 1);clear N F M;exact⟨by omega,by omega,by rw[O];exact Aw _,by rw[O,show (0:Int).toNat=0 from rfl,List.drop_zero]⟩
 .intro J Q g h;replace h:dR T (I J 3) (L J 4):=h;clear N F M;replace g:BV J Gp:=g;obtain⟨o,g⟩:=g.cut;have E:=g;clear g;have a4:=fvL (Q 0 (by decide));have z:=fvI (Q 2 (by decide));clear Q
  suffices hz:(B J 30=true->(((L J 4)).length+(([[]]:List (List U))).length)*1<=140737488355328)/\(B J 5=true->0<=I J 3/\I J 3 < ((L J 0)).length)/\(B J 30=true->(dR T (I J 32) (L J 31)))/\(B J 30=true->(((L T 0)).length - (I J 32)).toNat < (((L T 0)).length - (I J 3)).toNat) from
   let⟨r0,aB,nx,mz⟩:=hz;⟨⟨r0,aB,trivial⟩,fun c=>⟨nx c,mz c⟩⟩
  refine⟨?_,?_,?_,?_⟩
  .obtain⟨a,-⟩:=o;obtain⟨-,-,-,-,-,-,-,-,-,d,-⟩:=E;simp only[BS,BZ,zN,zR] at a d;obtain⟨V,W,X,D⟩:=h;intro c;have e:=a.1 (d.1 c).1;rw[z] at e;show (((L J 4)).length+1)*1<=_;omega
  .obtain⟨a,-⟩:=o;simp only[BS,zR] at a;obtain⟨V,W,X,D⟩:=h;intro c;have e:=a.1 c;rw[z] at e;rw[a4];omega
  .obtain⟨a,-,j,l,y,p,q,r,t,w,x,Y,Z,ab,ad,ag,-⟩:=o;obtain⟨al,ao,aw,ax,a0,-,a1,a2,-,d,a3,i,-⟩:=E;simp only[BS,BZ,zN,zC,zR,Dw,and_true,w2P,zL,zS,uR,zW] at a j l y p q r t w x Y Z ab ad ag al ao aw ax a0 a1 a2 d a3 i;obtain⟨V,W,X,D⟩:=h;intro c;have a5:=d.1 c;have e:=a.1 a5.1;rw[z] at e;have a9:=o2' i (by omega);have a8:(I J 3).toNat < ((L T 0)).length:=by omega
   rw[a4] at j l y p q r t w x;have hu:=bb _ (Ca a8);have hk:[U.int (I J 7),U.int (I J 8)]=DT (((L T 0)).getD (I J 3).toNat []):=by rw[j,l];rfl
   have a6:(L J 31)=Cb 2 ((L J 4)) (DT (((L T 0)).getD (I J 3).toNat [])) (((L T 0)).getD (I J 3).toNat []):=by
    rw[a3];show Cb 2 _ [U.int (I J 7),U.int (I J 8)] [U.int (I J 7),U.int (I J 8),U.int (I J 9),U.bool (B J 10),U.str (S J 11),U.str (S J 12),U.bool (B J 13),U.int (I J 14),U.int (I J 15)]=_;rw[hk,j,l,y,p,q,r,t,w,x];exact BI (Cb 2 _ _) (Nd hu)
   have P:¬LU ((L J 4)) (((L T 0)).getD (I J 3).toNat [])=true:=fun P=>by
    have ba:(B J 28)=true:=(cA (a2.trans (and_congr a0 a1)) hk Y Z ab ad ag al ao aw ax j l y p q r t w x).2 P;simp[ba] at a5
   refine⟨by omega,by omega,?_,?_⟩
   .rw[a6];have:=MZ (G:=2) (m:=L J 4) (k:=DT (((L T 0)).getD (I J 3).toNat [])) (v:=((L T 0)).getD (I J 3).toNat []);omega
   .rw[D,T3 a8,BG P,a6,a9,show ((I J 3)+1).toNat=(I J 3).toNat+1 by omega]
  .obtain⟨a,-⟩:=o;obtain⟨-,-,-,-,-,-,-,-,-,d,-,i,-⟩:=E;simp only[BS,BZ,zN,zR,w2P] at a d i;obtain⟨V,W,X,D⟩:=h;intro c;have e:=a.1 (d.1 c).1;rw[z] at e;have a9:=o2' i (by omega);omega
theorem sY (a2:f9 T)(a1:∀u∈(L T 0),Bb BT KB u)(C:gc T)(O:(L T 1)=[])(al:dR T (I T 3) (L T 4))(ax:¬B T 30=true)(i:BV T MN)(b:BV T Gp)(j:BV T Vz):
  ((B T 33)=(EZ (L T 0))):=by
 have V:=i;clear i;obtain⟨W,b⟩:=b.cut;have X:=b;clear b;have Y:=j;clear j
 .obtain⟨-,Z,-⟩:=V;obtain⟨d,-,e,g,M,k,l,o,p,q,r,s,t,v,w,x,-⟩:=W;obtain⟨y,z,A,D,E,-,F,H,c,J,-⟩:=X;obtain⟨K,-⟩:=Y;simp only[BS,BZ,zN,zC,zR,Dw,and_true,zL,zS,uR,zW] at Z d e g M k l o p q r s t v w x y z A D E F H c J K;obtain⟨v1,v2,v3,v4⟩:=al;unfold EZ;rw[v4];refine Bool.eq_iff_iff.2 ?_;rw[K];by_cases P:(I T 3) < I T 2
  .have Q:=d.2 P;have ag:(I T 3).toNat < ((L T 0)).length:=by omega
   have N:(B T 28)=true:=by
    by_cases h:(B T 28)=true
    .exact h
    .exact absurd (J.2 ⟨Q,by simpa using h⟩) ax
   have hk:[U.int (I T 7),U.int (I T 8)]=DT (((L T 0)).getD (I T 3).toNat []):=by rw[e,g];rfl
   have hc:LU ((L T 4)) (((L T 0)).getD (I T 3).toNat [])=true:=(cA (H.trans (and_congr E F)) hk s t v w x y z A D e g M k l o p q r).1 N;rw[T3 ag,BH hc];have:=c.2 ⟨Q,N⟩;simp[this]
  .have n5:¬B T 5=true:=fun a=>P (d.1 a);have ao:¬B T 29=true:=fun a=>n5 (c.1 a).1;rw[show (I T 3).toNat=((L T 0)).length by omega,List.drop_length];simp[ao,Dv]
theorem pJ:Bl Try.prog 85 K3:=by
 refine B7 (l:=[]) CP (by intro p h;exact absurd h (by simp)) sV (by kernel_rfl) fun T us F z s d w a=>?_;change us.length=1 at s;obtain⟨⟨b,E⟩,-⟩:=w;replace b:(L T 0).length<=140737488355328:=b;have g:∀u∈(L T 0),Bb BT KB u:=fun u H=>by
  obtain⟨i,ab⟩:=Ac.1 H;exact E i u ab
 have D:=inL (j:=0) z s (by decide);clear F;rw[AL,AL,AL] at a;obtain⟨o,a⟩:=cutB a;obtain⟨q,a⟩:=cutB a;obtain⟨c,a⟩:=cutB a;obtain⟨k,e⟩:=Be d (by kernel_rfl) o;obtain⟨C,O⟩:=gR b g k;obtain⟨M,r,J,K⟩:=lf b g C O e c q;have x:=(Be (r.append e) (l:=Gp) (by kernel_rfl) c);obtain⟨v,d⟩:=x;clear o c q e r;obtain⟨t,y⟩:=B8 (A:=[.b]) (ah:=cG) d (by kernel_rfl) a;have N:=sY b g C O J K k v t;refine⟨⟨(fun _=>M),trivial⟩,y.trans ?_⟩;exact (lc (by show U.bool (B T 33)= .bool (Md us);unfold Md;rw[D];exact BI U.bool N) rfl)
def RL:List U->Int:=fun us=>(Bc (aL us 0))
def Nh:Bf:={ sh:=[.one (.list [k64,k64,k64,.bool,.str,.str,.bool,k64,k64])],blks:=[],outs:=[(.s "checkL.0",CW RL)],c:=(Cy 1),m':=[],pre:=[] }
def cO:List En:=[ABL 1 0,
 ⟨2,.lt,[.c (.int 200),.e 1]⟩,
 ABH 3 2,
 ABL 4 0]
def Mx:List En:=cO
def dW:List En:=[ABI 6 5 4,
 nl 7 3 6,
 ABF 8 3 6,
 ABM 9 0 5,
 ABJ 10 0 5,
 ABK 11 0 5,
 ABP 12 0 5,
 ABN 13 0 5,
 ABO 14 0 5,
 ABQ 15 0 5,
 ABR 16 0 5,
 ABS 17 0 5,
 ⟨18,.outI "checkSh.0" LV,[.e 9,.e 10,.e 11,.e 12,.e 13,.e 14,.e 15,.e 16,.e 17]⟩,
 ⟨19,.ne,[.e 18,.c (.int 0)]⟩,
 nl 20 7 19,
 ABF 21 7 19]
def cU:List En:=[⟨22,.w2 .i64 .add,[.e 5,.c (.int 1)]⟩]
def Gm:List En:=dW++(cU)
def Wb:List ObE:=[⟨some 7,.inl,[.e 5,.e 0]⟩]
def Mq:Bs:=mkD 5 1 Gm 21 [.e 22] Wb [0,3,4]
def QK:List Rf:=[.e 0,.e 3,.e 4,.c (.int 0)]
def aW:List En:=[⟨23,.ite .i,[.e 20,.e 5,.c (.int (-1))]⟩,
 ABG 24 20 8,
 ⟨25,.le,[.c (.int 0),.e 23]⟩,
 nl 26 3 25,
 ABF 27 3 25,
 ⟨28,.outB "soundB.0" Md,[.e 0]⟩,
 nl 29 27 28,
 ABF 30 27 28,
 ⟨31,.ite .i,[.e 25,.c (.int 2),.c (.int 12)]⟩,
 ABG 32 26 30,
 ⟨33,.ite .i,[.e 2,.c (.int 6),.e 31]⟩,
 ABG 34 2 32,
 ⟨35,.ite .i,[.e 34,.e 33,.c (.int 0)]⟩,
 ABG 36 34 29]
def Wq:List En:=aW
def tN:List ObE:=[⟨some 3,.owes Mq,[.e 0,.e 3,.e 4,.c (.int 0)]⟩]
def bJ:List Rf:=[.e 35]
theorem qg:Nh.sees bJ (Nh.run Try.prog [(43,Lp),(85,K3)] Bp 3000 20 47)=some ((Mx++((B5 Mq [.i] QK)++(Gm++(Wq)))).map En.be,tN.map ObE.be,[]):=by kernel_rfl
theorem fQ (g:f9 T)(e:∀u∈(L T 0),Bb BT KB u)(a:BV T Mx):
  ((I T 4)=((L T 0)).length):=by
 have c:=a;clear a;have d:(I T 4)=((L T 0)).length:=by
  obtain⟨-,-,-,b,-⟩:=c;simp only[BS,zR,zL] at b;exact b
 exact d
abbrev dV(T:Tab)(a:Int):Prop:=0<=a/\a <=((L T 0)).length/\(((L T 0)).take a.toNat).all Ed=true
theorem lS (ax:f9 T)(h4:(I T 4)=((L T 0)).length)(E:Ba T (Bh (CA 0 Nh.ks) Mx))(C:Bi T (Gm.map En.be))(D:Bi T ((B5 Mq [.i] QK).map En.be)):
  (Mq).owes (QK.map (Rf.eval T))/\Ba T (hds 5 [.i])/\(dV T (I T 5))/\¬B T 21=true:=by
 refine CK (nh:=5) (k:=1) (pcn:=21) (R:=23) (b:=Gm) (K:=Wb) (nxt:=[.e 22]) (H:=[.c (.int 0)]) (fv:=[0,3,4]) (A:=[.i]) (by kernel_rfl) rfl rfl rfl rfl E (by kernel_rfl) (by kernel_rfl) C (B6 D) (fun s=>dV T (aI s 0)) (fun s=>(((L T 0)).length - (aI s 0)).toNat) ?_ ?_
 .show dV T (0:Int);clear E C D;exact⟨by omega,by omega,by simp⟩
 .intro J o g l;replace l:dV T (I J 5):=l;clear E C D;replace g:BV J Gm:=g;obtain⟨p,g⟩:=g.cut;have M:=g;clear g;have O:=fvL (o 0 (by decide));have ao:=fvB (o 3 (by decide));have z:=fvI (o 4 (by decide));clear o
  suffices hz:(B J 7=true->0<=I J 5/\I J 5 < ((L J 0)).length)/\(B J 21=true->(dV T (I J 22)))/\(B J 21=true->(((L T 0)).length - (I J 22)).toNat < (((L T 0)).length - (I J 5)).toNat) from
   let⟨r0,nx,mz⟩:=hz;⟨⟨r0,trivial⟩,fun e=>⟨nx e,mz e⟩⟩
  refine⟨?_,?_,?_⟩
  .obtain⟨c,d,-⟩:=p;simp only[BS,BZ,zR] at c d;obtain⟨V,W,F⟩:=l;intro e;have j:=c.1 (d.1 e).2;rw[z] at j;rw[O];omega
  .obtain⟨c,d,-,y,q,r,-,t,u,-,v,w,x,N,-,h,-⟩:=p;obtain⟨i,-⟩:=M;replace x:I J 18=(Gw (I J 9) (I J 10) (I J 11) (S J 13) (S J 14) (I J 16) (I J 17)):=x;simp only[BS,BZ,zN,zR,w2P,zL] at c d y q r t u v w N h i;obtain⟨V,W,F⟩:=l;intro e;have Q:=h.1 e;have j:=c.1 (d.1 Q.1).2;rw[z] at j;have X:=o2' i (by omega);have Z:(I J 5).toNat < ((L T 0)).length:=by omega
   rw[O] at y q r t u v w;refine⟨by omega,by omega,?_⟩;rw[X,show ((I J 5)+1).toNat=(I J 5).toNat+1 by omega,D6 Z,RB];refine⟨F,?_⟩;have Y:¬ ¬I J 18=0:=fun a=>by
    have:=N.2 a;simp[this] at Q
   have P:(I J 18)=0:=At Y;rw[x,y,q,r,t,u,v,w] at P;exact decide_eq_true P
  .obtain⟨c,d,-,-,-,-,-,-,-,-,-,-,-,-,-,h,-⟩:=p;obtain⟨i,-⟩:=M;simp only[BS,BZ,zN,zR,w2P] at c d h i;obtain⟨V,W,F⟩:=l;intro e;have j:=c.1 (d.1 (h.1 e).1).2;rw[z] at j;have X:=o2' i (by omega);omega
theorem tq (bc:f9 T)(bb:∀u∈(L T 0),Bb BT KB u)(h4:(I T 4)=((L T 0)).length)(a3:dV T (I T 5))(a7:¬B T 21=true)(w:BV T Mx)(c:BV T Gm)(x:BV T Wq):
  ((I T 35)=(Bc (L T 0))):=by
 have F0:=w;clear w;obtain⟨F1,c⟩:=c.cut;have F2:=c;clear c;have F3:=x;clear x
 .obtain⟨e,h,M,e4,-⟩:=F0;obtain⟨r,s,-,Q,y,z,-,A,D,-,E,F,g,H,i,J,-⟩:=F1;obtain⟨j,-,k,l,K,o,-,p,N,d,q,b,P,-⟩:=F3;replace g:I T 18=(Gw (I T 9) (I T 10) (I T 11) (S T 13) (S T 14) (I T 16) (I T 17)):=g;replace o:B T 28=(EZ (L T 0)):=o;simp only[BS,BZ,zN,zR,zL,zS] at e h M e4 r s Q y z A D E F H i J j k l K p N d q b P;obtain⟨v1,v2,v3⟩:=a3;unfold Bc;rw[P];by_cases C:200 < ((L T 0)).length
  .have aw:=h.2 (by rw[e];omega);rw[BH C,BH (b.2 (.inl aw)),q,BH aw]
  .have aD:¬B T 2=true:=fun a=>by have:=h.1 a;rw[e] at this;omega
   have t:=M.2 (by simpa using aD);rw[BG C,q,BG aD,N];by_cases Z:(I T 5) < I T 4
   .have h7:=s.2 ⟨t,r.2 Z⟩;have V:(B T 19)=true:=by
     by_cases Y:(B T 19)=true
     .exact Y
     .exact absurd (J.2 ⟨h7,by simpa using Y⟩) a7
    have a2:(I T 5).toNat < ((L T 0)).length:=by omega
    have a6:¬((L T 0)).all Ed=true:=fun a=>by
     have O:=of_decide_eq_true (Ae.1 a _ (Ca a2));have X:=H.1 V;rw[g,Q,y,z,A,D,E,F] at X;exact X O
    have W:(B T 25)=true:=k.2 (by rw[j,BH (i.2 ⟨h7,V⟩)];omega);rw[BH a6,BH (b.2 (.inr (d.2 (.inl (l.2 ⟨t,W⟩))))),BH W]
   .have n6:¬B T 6=true:=fun a=>Z (r.1 a);have a4:¬B T 20=true:=fun a=>n6 (s.1 (i.1 a).1).2;have v:¬B T 25=true:=fun a=>by have:=k.1 a;rw[j,BG a4] at this;omega
    have ei:(I T 5).toNat=((L T 0)).length:=by omega
    rw[ei,BD] at v3;have nv:¬ ¬((L T 0)).all Ed=true:=fun a=>a v3;rw[BG nv,BG v,<-o];have a1:=K.2 ⟨t,by simpa using v⟩;by_cases aa:(B T 28)=true
    .rw[BH aa,BG];intro a;rcases b.1 a with a|a
     .exact aD a
     .rcases d.1 a with a|a
      .exact v (l.1 a).2
      .have:=(p.1 a).2;simp[aa] at this
    .rw[BG aa,BH (b.2 (.inr (d.2 (.inr (p.2 ⟨a1,by simpa using aa⟩)))))]
theorem YU:Bl Try.prog 47 Nh:=by
 refine B7 (l:=[(43,Lp),(85,K3)]) CP (by simp only[AW];exact⟨jU,pJ,fun _ h=>absurd h (by simp)⟩) qg (by kernel_rfl) fun T us E z s d w a=>?_;change us.length=1 at s;obtain⟨⟨b,D⟩,-⟩:=w;replace b:(L T 0).length<=140737488355328:=b;have r:∀u∈(L T 0),Bb BT KB u:=fun u F=>by
  obtain⟨i,ab⟩:=Ac.1 F;exact D i u ab
 have C:=inL (j:=0) z s (by decide);clear E;rw[AL,AL,AL] at a;obtain⟨o,a⟩:=cutB a;obtain⟨p,a⟩:=cutB a;obtain⟨c,a⟩:=cutB a;obtain⟨g,e⟩:=Be d (by kernel_rfl) o;have k:=fQ b r g;obtain⟨K,q,H,J⟩:=lS b k e c p;have x:=(Be (q.append e) (l:=Gm) (by kernel_rfl) c);obtain⟨v,d⟩:=x;clear o c p e q;obtain⟨t,y⟩:=B8 (A:=[.i]) (ah:=bJ) d (by kernel_rfl) a;have M:=tq b r k H J g v t;refine⟨⟨(fun _=>K),trivial⟩,y.trans ?_⟩;exact (lc (by show U.int (I T 35)= .int (RL us);unfold RL;rw[C];exact BI U.int M) rfl)
def QH:List U->List (List U):=fun us=>(CI (aL us 0))
def I8:Bf:={ sh:=[.one (.list [k64,k64,k64,.bool,.str,.str,.bool,k64,k64])],blks:=[],outs:=[(.s "books1.0",D1 QH)],c:= .ro 1 [k64,k64,k64,k64,.bool,.str,.str,.bool,k64,k64],m':=[],pre:=[] }
def bh:List En:=[⟨1,.id .l,[.c (.list [])]⟩,
 ABL 2 0]
def KC:List En:=bh
def ez:List En:=[ABI 5 3 2,
 ABH 6 5,
 ABM 7 0 3,
 ABJ 8 0 3,
 ABK 9 0 3,
 ABP 10 0 3,
 ABN 11 0 3,
 ABO 12 0 3,
 ABQ 13 0 3,
 ABR 14 0 3,
 ABS 15 0 3,
 ⟨16,.mget .i 1 0 [.i],[.e 4,.c (.int 0),.e 7]⟩,
 ⟨17,.mget .i 1 1 [.i],[.e 4,.c (.int 0),.e 7]⟩,
 ⟨18,.mget .i 1 2 [.i],[.e 4,.c (.int 0),.e 7]⟩,
 ⟨19,.mget .b 1 3 [.i],[.e 4,.c (.bool false),.e 7]⟩,
 ⟨20,.mget .s 1 4 [.i],[.e 4,.c (.str ⟨#[]⟩),.e 7]⟩]
def eg:List En:=[⟨21,.mget .s 1 5 [.i],[.e 4,.c (.str ⟨#[]⟩),.e 7]⟩,
 ⟨22,.mget .b 1 6 [.i],[.e 4,.c (.bool false),.e 7]⟩,
 ⟨23,.mget .i 1 7 [.i],[.e 4,.c (.int 0),.e 7]⟩,
 ⟨24,.mget .i 1 8 [.i],[.e 4,.c (.int 0),.e 7]⟩,
 ⟨25,.mhas 1 [.i],[.e 4,.e 7]⟩,
 nl 26 5 25,
 ABI 27 17 8,
 ⟨28,.or,[.n 25,.e 27]⟩,
 nl 29 5 28,
 ⟨30,.mset 1 [.i,.i,.i,.i,.b,.s,.s,.b,.i,.i],[.e 4,.e 7,.e 7,.e 8,.e 9,.e 10,.e 11,.e 12,.e 13,.e 14,.e 15]⟩,
 ABF 31 5 28,
 ABX 32 28 30 4,
 ⟨33,.w2 .i64 .add,[.e 3,.c (.int 1)]⟩]
def Fd:List En:=ez++(eg)
def VW:List ObE:=[⟨some 29,.fits 1,[.e 4,.c (.list [[]])]⟩,⟨some 5,.inl,[.e 3,.e 0]⟩]
def J2:Bs:=mkD 3 2 Fd 5 [.e 33,.e 32] VW [0,2]
def Mc:List Rf:=[.e 0,.e 2,.c (.int 0),.e 1]
def V2:List En:=[]
def bd:List ObE:=[⟨none,.owes J2,[.e 0,.e 2,.c (.int 0),.e 1]⟩]
def eZ:List Rf:=[.e 4]
theorem gN (g:f9 T)(e:∀u∈(L T 0),Bb BT KB u)(a:BV T KC):
  ((I T 2)=((L T 0)).length)/\((L T 1)=[]):=by
 have b:=a;clear a;have C:(I T 2)=((L T 0)).length:=by
  obtain⟨-,d,-⟩:=b;simp only[BS,zR,zL] at d;exact d
 have O:(L T 1)=[]:=by
  obtain⟨c,-⟩:=b;simp only[BS,zR,zL,zS] at c;exact c
 exact⟨C,O⟩
abbrev ea(T:Tab)(a:Int)(b:List (List U)):Prop:=0<=a/\a <=((L T 0)).length/\b=CI (((L T 0)).take a.toNat)
theorem jC (a8:f9 T)(a2:∀u∈(L T 0),Bb BT KB u)(C:gc T)(O:(L T 1)=[])(P:Ba T (Bh (CA 0 I8.ks) KC))(M:Bi T (Fd.map En.be))(N:Bi T ((B5 J2 [.i,.l] Mc).map En.be)):
  (J2).owes (Mc.map (Rf.eval T))/\Ba T (hds 3 [.i,.l])/\(ea T (I T 3) (L T 4))/\¬B T 5=true:=by
 refine CK (nh:=3) (k:=2) (pcn:=5) (R:=34) (b:=Fd) (K:=VW) (nxt:=[.e 33,.e 32]) (H:=[.c (.int 0),.e 1]) (fv:=[0,2]) (A:=[.i,.l]) (by kernel_rfl) rfl rfl rfl rfl P (by kernel_rfl) (by kernel_rfl) M (B6 N) (fun s=>ea T (aI s 0) (aL s 1)) (fun s=>(((L T 0)).length - (aI s 0)).toNat) ?_ ?_
 .show ea T (0:Int) (L T 1);clear P M N;exact⟨by omega,by omega,by rw[show (0:Int).toNat=0 from rfl,List.take_zero];exact O⟩
 .intro J Q g h;replace h:ea T (I J 3) (L J 4):=h;clear P M N;replace g:BV J Fd:=g;obtain⟨o,g⟩:=g.cut;have v:=g;clear g;have ao:=fvL (Q 0 (by decide));have r:=fvI (Q 2 (by decide));clear Q
  suffices hz:(B J 29=true->(((L J 4)).length+(([[]]:List (List U))).length)*1<=140737488355328)/\(B J 5=true->0<=I J 3/\I J 3 < ((L J 0)).length)/\(B J 5=true->(ea T (I J 33) (L J 32)))/\(B J 5=true->(((L T 0)).length - (I J 33)).toNat < (((L T 0)).length - (I J 3)).toNat) from
   let⟨r0,aB,nx,mz⟩:=hz;⟨⟨r0,aB,trivial⟩,fun d=>⟨nx d,mz d⟩⟩
  refine⟨?_,?_,?_,?_⟩
  .obtain⟨c,-⟩:=o;obtain⟨-,-,-,-,-,-,-,-,ad,-⟩:=v;simp only[BS,BZ,zR] at c ad;obtain⟨V,W,j⟩:=h;intro d;have e:=c.1 (ad.1 d).1;rw[r] at e;have h6:=bK (l:=((L T 0)).take (I J 3).toNat);rw[<-j,Ao] at h6;show (((L J 4)).length+1)*1<=_;omega
  .obtain⟨c,-⟩:=o;simp only[BS,zR] at c;obtain⟨V,W,j⟩:=h;intro d;have e:=c.1 d;rw[r] at e;rw[ao];omega
  .obtain⟨c,-,p,q,F,w,x,y,z,D,E,-,X,-⟩:=o;obtain⟨-,-,-,-,Y,-,Z,ab,-,ag,-,al,i,-⟩:=v;simp only[BS,BZ,zN,zR,w2P,zL,zS,uR,zW,zC] at c p q F w x y z D E X Y Z ab ag al i;obtain⟨V,W,j⟩:=h;intro d;have e:=c.1 d;rw[r] at e;have a0:=o2' i (by omega);refine⟨by omega,by omega,?_⟩;have ax:(I J 3).toNat < ((L T 0)).length:=by omega
   rw[a0,show ((I J 3)+1).toNat=(I J 3).toNat+1 by omega,D6 ax,WN,<-j];have hu:=a2 _ (Ca ax);rw[ao] at p q F w x y z D E;unfold I5;have hb:(B J 28)=true↔(¬O2 ((L J 4)) (uI (((L T 0)).getD (I J 3).toNat []) 0)\/Xp ((L J 4)) (uI (((L T 0)).getD (I J 3).toNat []) 0) < uI (((L T 0)).getD (I J 3).toNat []) 1):=by
    rw[ab,<-Bool.not_eq_true,Y,Z,X,p,q];exact Iff.rfl
   rw[al];by_cases t:(B J 28)=true
   .rw[BH t,BH (hb.1 t),ag];show Cb 1 _ [U.int (I J 7)] [U.int (I J 7),U.int (I J 8),U.int (I J 9),U.bool (B J 10),U.str (S J 11),U.str (S J 12),U.bool (B J 13),U.int (I J 14),U.int (I J 15)]=_;rw[p,q,F,w,x,y,z,D,E];exact BI (Cb 1 _ _) (Nd hu)
   .rw[BG t,BG (fun a=>t (hb.2 a))]
  .obtain⟨c,-⟩:=o;obtain⟨-,-,-,-,-,-,-,-,-,-,-,-,i,-⟩:=v;simp only[BS,zR,w2P] at c i;obtain⟨V,W,j⟩:=h;intro d;have e:=c.1 d;rw[r] at e;have a0:=o2' i (by omega);omega
theorem sc (p:f9 T)(o:∀u∈(L T 0),Bb BT KB u)(C:gc T)(O:(L T 1)=[])(g:ea T (I T 3) (L T 4))(h:¬B T 5=true)(c:BV T KC)(b:BV T Fd):
  ((L T 4)=(CI (L T 0))):=by
 have j:=c;clear c;obtain⟨e,b⟩:=b.cut;have k:=b;clear b
 .obtain⟨d,-⟩:=e;simp only[BS,zR] at d;obtain⟨q,r,i⟩:=g;have l:¬I T 3 < I T 2:=fun a=>h (d.2 a);rw[i,show (I T 3).toNat=((L T 0)).length by omega,BD]
theorem nE:∀(T:Tab) (us:List U),(∀p∈I8.pre,p.2 us)->(∀j u,us[j]? =some u->T j=u)->us.length=I8.n->Ba T (CA 0 I8.ks)->Bnd T 0 I8.ks->Bi T ((KC++((B5 J2 [.i,.l] Mc)++(Fd++(V2)))).map En.be)->J6 T bd/\eZ.map (Rf.eval T)=I8.outs.map fun o=>o.2 us:=by
 intro T us E y s d v a;change us.length=1 at s;obtain⟨⟨b,D⟩,-⟩:=v;replace b:(L T 0).length<=140737488355328:=b;have g:∀u∈(L T 0),Bb BT KB u:=fun u F=>by
  obtain⟨i,ab⟩:=Ac.1 F;exact D i u ab
 have z:=inL (j:=0) y s (by decide);clear E;rw[AL,AL,AL] at a;obtain⟨k,a⟩:=cutB a;obtain⟨q,a⟩:=cutB a;obtain⟨c,a⟩:=cutB a;obtain⟨h,e⟩:=Be d (by kernel_rfl) k;obtain⟨C,O⟩:=gN b g h;obtain⟨K,r,H,J⟩:=jC b g C O e c q;have w:=(Be (r.append e) (l:=Fd) (by kernel_rfl) c);obtain⟨t,d⟩:=w;clear k c q e r;obtain⟨N,x⟩:=B8 (A:=[.l]) (ah:=eZ) d (by kernel_rfl) a;have M:=sc b g C O H J h t;refine⟨⟨(fun _=>K),trivial⟩,x.trans ?_⟩;exact (lc (by show U.list (L T 4)= .list (QH us);unfold QH;rw[z];exact BI U.list M) rfl)
def NI:List U->Int:=fun us=>(DC (aI us 0) (aI us 1))
def Si:Bf:={ sh:=[.one (k64),.one (k64)],blks:=[],outs:=[(.s "cmpI.0",CW NI)],c:=(Cy 2),m':=[],pre:=[] }
def jq:List En:=[ABI 2 0 1,
 ABH 3 2,
 ABI 4 1 0,
 nl 5 3 4,
 ABF 6 3 4,
 ⟨7,.ite .i,[.e 5,.c (.int 1),.c (.int 0)]⟩,
 ABG 8 5 6,
 ⟨9,.ite .i,[.e 2,.c (.int (-1)),.e 7]⟩,
 ABG 10 2 8]
def ar:List En:=jq
def wU:List ObE:=[]
def nI:List Rf:=[.e 9]
theorem gi:Si.sees nI (Si.run Try.prog [] Bp 3000 20 103)=some ((ar).map En.be,wU.map ObE.be,[]):=by kernel_rfl
theorem xU (g:BV T ar):
  ((I T 9)=(DC (I T 0) (I T 1))):=by
 have k:=g;clear g
 .obtain⟨c,h,d,e,-,i,-,j,-⟩:=k;simp only[BS,BZ,zR,zL,zS] at c h d e i j;unfold DC;rw[j,i];by_cases O:(I T 0) < I T 1
  .rw[BH (c.2 O),BH O]
  .have C:¬B T 2=true:=fun a=>O (c.1 a);rw[BG C,BG O];by_cases b:(I T 1) < I T 0
   .rw[BH (e.2 ⟨h.2 C,d.2 b⟩),BH b]
   .rw[BG (fun a=>b (d.1 (e.1 a).2)),BG b]
theorem uj:Bl Try.prog 103 Si:=by
 refine B7 (l:=[]) CP (by intro p h;exact absurd h (by simp)) gi (by kernel_rfl) fun T us q b a i d e=>?_;change us.length=2 at a;clear d;have k:=inI (j:=0) b a (by decide);have o:=inI (j:=1) b a (by decide);clear q
 skip
 obtain⟨c,g⟩:=B8 (A:=[.i]) (ah:=nI) i (by kernel_rfl) e;have r:=xU c;refine⟨trivial,g.trans ?_⟩;exact (lc (by show U.int (I T 9)= .int (NI us);unfold NI;rw[k,o];exact BI U.int r) rfl)
def It:List U->Int:=fun us=>(if DC (aI us 2) (aI us 11)=0 then DC (aI us 0) (aI us 9) else DC (aI us 2) (aI us 11))
def NK:Bf:={ sh:=[.agg [k64,k64,k64,.bool,.str,.str,.bool,k64,k64],.agg [k64,k64,k64,.bool,.str,.str,.bool,k64,k64]],blks:=[],outs:=[(.s "cmpB.0",CW It)],c:=(Cy 18),m':=[],pre:=[] }
def jy:List En:=[⟨18,.outI "cmpI.0" NI,[.e 2,.e 11]⟩,
 ⟨19,.outI "cmpI.0" NI,[.e 0,.e 9]⟩,
 ⟨20,.ne,[.e 18,.c (.int 0)]⟩,
 ABH 21 20,
 ⟨22,.ne,[.e 19,.c (.int 0)]⟩,
 nl 23 21 22,
 ABF 24 21 22,
 ABT 25 20 18 19,
 ABT 26 20 18 19,
 ⟨27,.ite .i,[.e 20,.c (.int 0),.c (.int 1)]⟩,
 ⟨28,.ite .b,[.e 20,.e 20,.e 22]⟩,
 ABG 29 20 23,
 ABT 30 29 25 19,
 ⟨31,.ite .b,[.e 29,.c (.bool true),.c (.bool false)]⟩,
 ⟨32,.ite .i,[.e 29,.e 26,.c (.int 0)]⟩,
 ⟨33,.ite .i,[.e 29,.e 27,.c (.int 2)]⟩]
def l8:List En:=[⟨34,.ite .b,[.e 29,.e 28,.e 22]⟩,
 ABG 35 29 24]
def bP:List En:=jy++(l8)
def xR:List ObE:=[]
def pi:List Rf:=[.e 32]
theorem wu:NK.sees pi (NK.run Try.prog [(103,Si)] Bp 3000 20 101)=some ((bP).map En.be,xR.map ObE.be,[]):=by kernel_rfl
theorem wg (t:(S T 4).size<=140737488355328)(u:(S T 5).size<=140737488355328)(r:(S T 13).size<=140737488355328)(s:(S T 14).size<=140737488355328)(b:BV T bP):
  ((I T 32)=(if DC (I T 2) (I T 11)=0 then DC (I T 0) (I T 9) else DC (I T 2) (I T 11))):=by
 obtain⟨p,b⟩:=b.cut;have q:=b;clear b
 .obtain⟨d,e,c,h,i,j,-,-,k,-,-,g,-,-,l,-⟩:=p;replace d:I T 18=(DC (I T 2) (I T 11)):=d;replace e:I T 19=(DC (I T 0) (I T 9)):=e;simp only[BS,BZ,zR,zL,zS] at c h i j k g l;rw[l,k,<-d,<-e];by_cases O:(I T 18)=0
  .have C:¬B T 20=true:=fun a=>(c.1 a) O;rw[BH O,BG C];by_cases o:(I T 19)=0
   .rw[o];split<;>rfl
   .rw[BH (g.2 (.inr (j.2 ⟨h.2 C,i.2 o⟩)))]
  .rw[BG O,BH (c.2 O),BH (g.2 (.inl (c.2 O)))]
theorem gj:Bl Try.prog 101 NK:=by
 refine B7 (l:=[(103,Si)]) CP (by simp only[AW];exact⟨uj,fun _ h=>absurd h (by simp)⟩) wu (by kernel_rfl) fun T us v b a q k o=>?_;change us.length=18 at a;obtain⟨-,-,-,e,g,-,-,-,-,-,c,d,-⟩:=k;replace e:(S T 4).size<=140737488355328:=e;replace g:(S T 5).size<=140737488355328:=g;replace c:(S T 13).size<=140737488355328:=c;replace d:(S T 14).size<=140737488355328:=d;have r:=inI (j:=0) b a (by decide);have t:=inI (j:=2) b a (by decide);have u:=inI (j:=9) b a (by decide);have s:=inI (j:=11) b a (by decide);clear v
 skip
 obtain⟨i,p⟩:=B8 (A:=[.i]) (ah:=pi) q (by kernel_rfl) o;have w:=wg e g c d i;refine⟨trivial,p.trans ?_⟩;exact (lc (by show U.int (I T 32)= .int (It us);unfold It;rw[r,s,t,u];exact BI U.int w) rfl)
def NR:List U->List (List U):=fun us=>(Br ltB (aL us 0) (aI us 2).toNat (aI us 3).toNat)
def Ku:List U->Prop:=fun us=>((aL us 0)).length=(aI us 1)/\0<=(aI us 2)/\(aI us 2)<=(aI us 3)/\(aI us 3)<=(aI us 1)
def yQ:Bf:={ sh:=[.one (k64),.one (k64),.cst (.fn (.func 101) [] [])],blks:=[],outs:=[(.s "insB.0",D1 NR)],c:= .tup [],m':=[.mrow 4 1 [k64,k64,k64,.bool,.str,.str,.bool,k64,k64] 38],pre:=[(.s "insB.p0",Ku)],row:=some ([k64,k64,k64,.bool,.str,.str,.bool,k64,k64],38) }
def s9:List Rf:=[.e 15,.e 16,.e 17,.e 18,.e 19,.e 20,.e 21,.e 22,.e 23,.e 27,.e 28,.e 29,.e 30,.e 31,.e 32,.e 33,.e 34,.e 35]
def jD:List En:=[⟨4,.w2 .i64 .add,[.e 2,.c (.int 1)]⟩]
def JH:List En:=jD
def cD:List En:=[ABI 7 5 3,
 ABH 8 7]
def IG:List En:=cD
def mF:List En:=[ABI 11 2 9,
 nl 12 7 11,
 nl 13 7 11,
 nl 14 7 11,
 ABM 15 10 9,
 ABJ 16 10 9,
 ABK 17 10 9,
 ABP 18 10 9,
 ABN 19 10 9,
 ABO 20 10 9,
 ABQ 21 10 9,
 ABR 22 10 9,
 ABS 23 10 9,
 nl 24 7 11,
 nl 25 7 11,
 ⟨26,.w2 .i64 .sub,[.e 9,.c (.int 1)]⟩]
def iz:List En:=[ABM 27 10 26,
 ABJ 28 10 26,
 ABK 29 10 26,
 ABP 30 10 26,
 ABN 31 10 26,
 ABO 32 10 26,
 ABQ 33 10 26,
 ABR 34 10 26,
 ABS 35 10 26,
 ⟨36,.outI "cmpB.0" It,s9⟩,
 ⟨37,.lt,[.e 36,.c (.int 0)]⟩,
 nl 38 11 37,
 nl 39 7 38,
 ABF 40 7 38,
 ⟨41,.w2 .i64 .sub,[.e 9,.c (.int 1)]⟩,
 ⟨42,.w2 .i64 .sub,[.e 9,.c (.int 1)]⟩]
def lY:List En:=[ABM 43 10 42,
 ABJ 44 10 42,
 ABK 45 10 42,
 ABP 46 10 42,
 ABN 47 10 42,
 ABO 48 10 42,
 ABQ 49 10 42,
 ABR 50 10 42,
 ABS 51 10 42,
 ABM 52 10 9,
 ABJ 53 10 9,
 ABK 54 10 9,
 ABP 55 10 9,
 ABN 56 10 9,
 ABO 57 10 9,
 ABQ 58 10 9]
def jO:List En:=[ABR 59 10 9,
 ABS 60 10 9,
 ⟨61,.rset 0 [.i,.i,.i,.b,.s,.s,.b,.i,.i],[.e 10,.e 9,.e 43,.e 44,.e 45,.e 46,.e 47,.e 48,.e 49,.e 50,.e 51]⟩,
 ⟨62,.rset 0 [.i,.i,.i,.b,.s,.s,.b,.i,.i],[.e 61,.e 41,.e 52,.e 53,.e 54,.e 55,.e 56,.e 57,.e 58,.e 59,.e 60]⟩,
 ⟨63,.w2 .i64 .sub,[.e 9,.c (.int 1)]⟩]
def GZ:List En:=mF++(iz++(lY++(jO)))
def dH:List ObE:=[⟨some 39,.inr,[.e 41,.e 1]⟩,⟨some 39,.inr,[.e 9,.e 1]⟩,⟨some 39,.inr,[.e 9,.e 1]⟩,⟨some 39,.inr,[.e 42,.e 1]⟩,⟨some 25,.inr,[.e 26,.e 1]⟩,⟨some 14,.inr,[.e 9,.e 1]⟩]
def N0:Bs:=mkD 9 2 GZ 39 [.e 63,.e 62] dH [7,2,1]
def QG:List Rf:=[.e 7,.e 2,.e 1,.e 5,.e 6]
def ap:List En:=[⟨64,.w2 .i64 .add,[.e 5,.c (.int 1)]⟩]
def Mh:List En:=ap
def K9:List En:=IG++((B5 N0 [.i,.l] QG)++(GZ++(Mh)))
def af:List ObE:=[⟨some 7,.owes N0,[.e 7,.e 2,.e 1,.e 5,.e 6]⟩]
def RI:Bs:=mkD 5 2 K9 40 [.e 64,.e 10] af [2,1,3]
def U2:List Rf:=[.e 2,.e 1,.e 3,.e 4,.e 0]
def uC:List En:=[]
def wl:List ObE:=[⟨none,.owes RI,[.e 2,.e 1,.e 3,.e 4,.e 0]⟩]
def mn:List Rf:=[.e 6]
theorem xH:yQ.sees mn (yQ.run Try.prog [(101,NK)] Bp 3000 20 144)=some ((JH++((B5 RI [.i,.l] U2)++(K9++(uC)))).map En.be,wl.map ObE.be,[]):=by kernel_rfl
abbrev gf(T:Tab):Prop:=((L T 0)).length=I T 1/\0<=I T 2/\I T 2<=I T 3/\I T 3<=I T 1
theorem ov (h:f9 T)(g:∀u∈(L T 0),Bb BT KB u)(i:0<=I T 1)(e:I T 1<=140737488355328)(j:gf T)(a:BV T JH):
  ((I T 4)=I T 2+1):=by
 have c:=a;clear a;have d:(I T 4)=I T 2+1:=by
  obtain⟨b,-⟩:=c;simp only[BS,zR,w2P] at b;exact b (by omega) (by omega)
 have e:(I T 1)<=140737488355328:=by
  omega
 exact d
abbrev gg(T:Tab):Prop:=0<=I T 2/\I T 2<=I T 3/\I T 2+1<=I T 5/\((I T 5)<=I T 3\/I T 5=I T 2+1)/\I T 3<=I T 1/\I T 1<=140737488355328
abbrev gt(T:Tab):Prop:=((L T 6)).length=I T 1/\∀u∈(L T 6),Bb BT KB u
theorem qU (e:gg T)(aw:gt T)(a:BV T IG):
  ((B T 7)=true->I T 5 < I T 3):=by
 have c:=a;clear a;have d:(B T 7)=true->I T 5 < I T 3:=by
  obtain⟨b,-⟩:=c;simp only[BS,zR] at b;exact b.1
 exact d
abbrev ed(T:Tab)(a:Int)(b:List (List U)):Prop:=(I T 2)<=a/\a <=I T 5/\((B T 7)=true->b.length=I T 1/\(∀u∈b,Bb BT KB u)/\b=Ew (((L T 6)).take (I T 2).toNat) (((((L T 6)).take (I T 5).toNat).drop (I T 2).toNat).reverse) (((L T 6)).drop ((I T 5).toNat+1)) (((L T 6)).getD (I T 5).toNat []) ((I T 5) -a).toNat/\∀q:Nat,(q:Int) < I T 5 -a ->ltB (((L T 6)).getD (I T 5).toNat []) ((((((L T 6)).take (I T 5).toNat).drop (I T 2).toNat).reverse).getD q [])=true)
theorem uE (g1:gg T)(aw:gt T)(P:(B T 7)=true->I T 5 < I T 3)(hS:Ba T (Bh (hds 5 [.i,.l]++GC [2,1,3] (Bh (CA 0 yQ.ks) JH)) IG))(hB:Bi T (GZ.map En.be))(hH:Bi T ((B5 N0 [.i,.l] QG).map En.be)):
  (N0).owes (QG.map (Rf.eval T))/\Ba T (hds 9 [.i,.l])/\(ed T (I T 9) (L T 10))/\¬B T 39=true:=by
 refine CK (nh:=9) (k:=2) (pcn:=39) (R:=64) (b:=GZ) (K:=dH) (nxt:=[.e 63,.e 62]) (H:=[.e 5,.e 6]) (fv:=[7,2,1]) (A:=[.i,.l]) (by kernel_rfl) rfl rfl rfl rfl hS (by kernel_rfl) (by kernel_rfl) hB (B6 hH) (fun s=>ed T (aI s 0) (aL s 1)) (fun s=>((aI s 0)).toNat) ?_ ?_
 .show ed T (I T 5) (L T 6);clear hS hB hH;refine⟨by omega,Aw _,fun x=>?_⟩;have W:=P x;refine⟨aw.1,aw.2,?_,fun q hq=>absurd hq (by omega)⟩;rw[show ((I T 5) - (I T 5)).toNat=0 by omega,s7 (by omega) (by omega)]
 .intro J al D E;replace E:ed T (I J 9) (L J 10):=E;clear hS hB hH;replace D:BV J GZ:=D;obtain⟨F,D⟩:=D.cut;obtain⟨M,D⟩:=D.cut;obtain⟨F2,D⟩:=D.cut;have N:=D;clear D;have V:=fvB (al 7 (by decide));have O:=fvI (al 2 (by decide));have Z:=fvI (al 1 (by decide));clear al
  suffices hz:(B J 39=true->0<=I J 41/\I J 41 < I J 1)/\(B J 39=true->0<=I J 9/\I J 9 < I J 1)/\(B J 39=true->0<=I J 9/\I J 9 < I J 1)/\(B J 39=true->0<=I J 42/\I J 42 < I J 1)/\(B J 25=true->0<=I J 26/\I J 26 < I J 1)/\(B J 14=true->0<=I J 9/\I J 9 < I J 1)/\(B J 39=true->(ed T (I J 63) (L J 62)))/\(B J 39=true->((I J 63)).toNat < ((I J 9)).toNat) from
   let⟨r0,aB,aJ,r3,r4,r5,nx,mz⟩:=hz;⟨⟨r0,aB,aJ,r3,r4,r5,trivial⟩,fun v=>⟨nx v,mz v⟩⟩
  refine⟨?_,?_,?_,?_,?_,?_,?_,?_⟩
  .obtain⟨d,-,-,z,-,-,-,-,-,-,-,-,-,-,C,r,-⟩:=F;obtain⟨-,-,-,-,-,-,-,-,-,-,w,e,g,-,h,o,-⟩:=M;obtain⟨-,-,-,-,t,-⟩:=N;simp only[BS,BZ,zR,w2P] at d z C r w e g h o t;obtain⟨X,Y,Q⟩:=E;intro v;have p:=g.1 v;have y:=d.1 (e.1 p.2).1;rw[O] at y;have x:(B T 7)=true:=by rw[<-V];exact p.1
   have W:=P x;have ab:=o2' h (by omega);have ad:=o2' o (by omega);rw[Z];omega
  .obtain⟨d,-,-,z,-,-,-,-,-,-,-,-,-,-,C,r,-⟩:=F;obtain⟨-,-,-,-,-,-,-,-,-,-,w,e,g,-,h,o,-⟩:=M;obtain⟨-,-,-,-,t,-⟩:=N;simp only[BS,BZ,zR,w2P] at d z C r w e g h o t;obtain⟨X,Y,Q⟩:=E;intro v;have p:=g.1 v;have y:=d.1 (e.1 p.2).1;rw[O] at y;have x:(B T 7)=true:=by rw[<-V];exact p.1
   have W:=P x;have ab:=o2' h (by omega);have ad:=o2' o (by omega);rw[Z];omega
  .obtain⟨d,-,-,z,-,-,-,-,-,-,-,-,-,-,C,r,-⟩:=F;obtain⟨-,-,-,-,-,-,-,-,-,-,w,e,g,-,h,o,-⟩:=M;obtain⟨-,-,-,-,t,-⟩:=N;simp only[BS,BZ,zR,w2P] at d z C r w e g h o t;obtain⟨X,Y,Q⟩:=E;intro v;have p:=g.1 v;have y:=d.1 (e.1 p.2).1;rw[O] at y;have x:(B T 7)=true:=by rw[<-V];exact p.1
   have W:=P x;have ab:=o2' h (by omega);have ad:=o2' o (by omega);rw[Z];omega
  .obtain⟨d,-,-,z,-,-,-,-,-,-,-,-,-,-,C,r,-⟩:=F;obtain⟨-,-,-,-,-,-,-,-,-,-,w,e,g,-,h,o,-⟩:=M;obtain⟨-,-,-,-,t,-⟩:=N;simp only[BS,BZ,zR,w2P] at d z C r w e g h o t;obtain⟨X,Y,Q⟩:=E;intro v;have p:=g.1 v;have y:=d.1 (e.1 p.2).1;rw[O] at y;have x:(B T 7)=true:=by rw[<-V];exact p.1
   have W:=P x;have ab:=o2' h (by omega);have ad:=o2' o (by omega);rw[Z];omega
  .obtain⟨d,-,-,z,-,-,-,-,-,-,-,-,-,-,C,r,-⟩:=F;obtain⟨-,-,-,-,-,-,-,-,-,-,w,e,g,-,h,o,-⟩:=M;obtain⟨-,-,-,-,t,-⟩:=N;simp only[BS,BZ,zR,w2P] at d z C r w e g h o t;obtain⟨X,Y,Q⟩:=E;intro v;have p:=C.1 v;have y:=d.1 p.2;rw[O] at y;have x:(B T 7)=true:=by rw[<-V];exact p.1
   have W:=P x;have cs:=o2' r (by omega);rw[Z];omega
  .obtain⟨d,-,-,z,-,-,-,-,-,-,-,-,-,-,C,r,-⟩:=F;obtain⟨-,-,-,-,-,-,-,-,-,-,w,e,g,-,h,o,-⟩:=M;obtain⟨-,-,-,-,t,-⟩:=N;simp only[BS,BZ,zR,w2P] at d z C r w e g h o t;obtain⟨X,Y,Q⟩:=E;intro v;have p:=z.1 v;have y:=d.1 p.2;rw[O] at y;have x:(B T 7)=true:=by rw[<-V];exact p.1
   have W:=P x;rw[Z];omega
  .obtain⟨d,-,-,-,a6,-,a7,-,-,-,-,-,-,-,-,r,-⟩:=F;obtain⟨a8,-,a9,-,-,-,-,-,-,a0,w,e,g,-,h,o,-⟩:=M;obtain⟨ba,bb,bc,bi,bl,bm,bo,bs,bt,bx,b0,b1,b2,b3,b4,b5,-⟩:=F2;obtain⟨b6,b7,b8,b9,t,-⟩:=N;replace a0:I J 36=(if DC (I J 17) (I J 29)=0 then DC (I J 15) (I J 27) else DC (I J 17) (I J 29)):=a0;simp only[BS,BZ,zR,w2P,zL,zS,uR,zW,zC] at d a6 a7 r a8 a9 w e g h o ba bb bc bi bl bm bo bs bt bx b0 b1 b2 b3 b4 b5 b6 b7 b8 b9 t;obtain⟨X,Y,Q⟩:=E;intro v;have p:=g.1 v;have cb:=e.1 p.2;have y:=d.1 cb.1;rw[O] at y;have x:(B T 7)=true:=by rw[<-V];exact p.1
   have W:=P x;have cs:=o2' r (by omega);have ab:=o2' h (by omega);have ad:=o2' o (by omega);have cu:=o2' t (by omega);clear r h o t;obtain⟨z1,z2,z3,z4⟩:=Q x;obtain⟨ax,ai,m3⟩:=ZH (l:=L T 6) (c:=L J 10) (a:=(I T 2).toNat) (i:=(I T 5).toNat) (j:=(I J 9).toNat) (by omega) (by omega) (by omega) (by rw[show (I T 5).toNat - (I J 9).toNat=((I T 5) - (I J 9)).toNat by omega];exact z3);obtain⟨m4,m5⟩:=m3 (by omega);have hj:(I J 9).toNat < ((L J 10)).length:=by omega
   have ce:(I J 9).toNat - 1 < ((L J 10)).length:=by omega
   have hn:((I J 9) - 1).toNat=(I J 9).toNat - 1:=by omega
   have sj:=z2 _ (Ca hj);have cl:=z2 _ (Ca ce);have ag:(L J 61)=((L J 10)).set (I J 9).toNat (((L J 10)).getD ((I J 9).toNat - 1) []):=by
    rw[b8,ba,bb,bc,bi,bl,bm,bo,bs,bt,ad,hn];exact Sr z2 hj cl
   have ci:∀u∈(L J 61),Bb BT KB u:=by rw[ag];exact FY z2 cl
   have a1:(L J 62)=((L J 61)).set ((I J 9).toNat - 1) (((L J 10)).getD (I J 9).toNat []):=by
    rw[b9,bx,b0,b1,b2,b3,b4,b5,b6,b7,ab,hn];exact Sr ci (by rw[ag,Au];exact ce) sj
   have cx:ltB (((L T 6)).getD (I T 5).toNat []) ((((((L T 6)).take (I T 5).toNat).drop (I T 2).toNat).reverse).getD ((I T 5).toNat - (I J 9).toNat) [])=true:=by
    rw[<-m4,<-ai];refine decide_eq_true ?_;have ca:=w.1 cb.2;rw[a0,a6,a7,a8,a9,cs,hn] at ca;exact ca
   refine⟨by omega,by omega,fun _=>⟨?_,?_,?_,fun q hq=>?_⟩⟩
   .rw[a1,ag,Au,Au];exact z1
   .rw[a1];exact FY ci sj
   .rw[a1,ag,m5,cu,show ((I T 5) - ((I J 9) - 1)).toNat=(I T 5).toNat - ((I J 9).toNat - 1) by omega]
   .rcases Int.lt_or_le (q:Int) ((I T 5) - (I J 9)) with ch|ch
    .exact z4 q ch
    .obtain rfl:q=(I T 5).toNat - (I J 9).toNat:=by omega
     exact cx
  .obtain⟨d,-,-,z,-,-,-,-,-,-,-,-,-,-,C,r,-⟩:=F;obtain⟨-,-,-,-,-,-,-,-,-,-,w,e,g,-,h,o,-⟩:=M;obtain⟨-,-,-,-,t,-⟩:=N;simp only[BS,BZ,zR,w2P] at d z C r w e g h o t;obtain⟨X,Y,Q⟩:=E;intro v;have y:=d.1 (e.1 (g.1 v).2).1;rw[O] at y;have cu:=o2' t (by omega);omega
theorem aa (g:gg T)(aw:gt T)(c:Ba T (hds 5 [.i,.l]++GC [2,1,3] (Bh (CA 0 yQ.ks) JH)))(a:Bi T (K9.map En.be)):
  (BV T IG)/\((B T 7)=true->I T 5 < I T 3)/\((N0).owes (QG.map (Rf.eval T)))/\(ed T (I T 9) (L T 10))/\(¬B T 39=true)/\(BV T GZ)/\(BV T Mh)/\Ba T (Bh (Bh (hds 9 [.i,.l]++(Bh (hds 5 [.i,.l]++GC [2,1,3] (Bh (CA 0 yQ.ks) JH)) IG)) GZ) Mh):=by
 unfold K9 at a;rw[AL,AL,AL] at a;obtain⟨i,a⟩:=cutB a;obtain⟨j,a⟩:=cutB a;obtain⟨b,a⟩:=cutB a;obtain⟨e,d⟩:=Be c (by kernel_rfl) i;have h:=qU g aw e;obtain⟨u,k,s,t⟩:=uE g aw h d b j;have q:=(Be (k.append d) (l:=GZ) (by kernel_rfl) b);obtain⟨o,c⟩:=q;clear i b j d k;obtain⟨p,r⟩:=Be c (by kernel_rfl) a;exact⟨e,h,u,s,t,o,p,r⟩
abbrev ek(T:Tab)(a:Int)(b:List (List U)):Prop:=(I T 2)+1<=a/\(a <=I T 3\/a=I T 2+1)/\b.length=I T 1/\(∀u∈b,Bb BT KB u)/\b=Br ltB (L T 0) (I T 2).toNat a.toNat
theorem rW (bt:∀u∈(L T 0),Bb BT KB u)(b6:gf T)(h4:(I T 4)=I T 2+1)(ce:(I T 1)<=140737488355328)(N:Ba T (Bh (CA 0 yQ.ks) JH))(F:Bi T (K9.map En.be))(M:Bi T ((B5 RI [.i,.l] U2).map En.be)):
  (RI).owes (U2.map (Rf.eval T))/\Ba T (hds 5 [.i,.l])/\(ek T (I T 5) (L T 6))/\¬B T 40=true:=by
 refine NT (nh:=5) (k:=2) (pcn:=40) (R:=65) (b:=K9) (K:=af) (nxt:=[.e 64,.e 10]) (H:=[.e 4,.e 0]) (fv:=[2,1,3]) (A:=[.i,.l]) (by kernel_rfl) rfl rfl rfl rfl N (by kernel_rfl) F (B6 M) (fun s=>ek T (aI s 0) (aL s 1)) (fun s=>((I T 3) - (aI s 0)).toNat) ?_ ?_
 .show ek T (I T 4) (L T 0);clear N F M;rw[h4];exact⟨Aw _,.inr rfl,b6.1,bt,by rw[show ((I T 2)+1).toNat=(I T 2).toNat+1 by omega,WV (by omega)]⟩
 .intro J w a4 hE g;replace g:ek T (I J 5) (L J 6):=g;have D:=fvI (w 2 (by decide));have t:=fvI (w 1 (by decide));have E:=fvI (w 3 (by decide));clear w;clear N F M;have g1:0<=I J 2/\I J 2<=I J 3/\I J 2+1<=I J 5/\((I J 5)<=I J 3\/I J 5=I J 2+1)/\I J 3<=I J 1/\I J 1<=140737488355328:=by
   obtain⟨O,P,x,y,z⟩:=g;rw[D,t,E];omega
  have aw:((L J 6)).length=I J 1/\∀u∈(L J 6),Bb BT KB u:=by
   obtain⟨O,P,x,y,z⟩:=g;rw[t];exact⟨x,y⟩
  obtain⟨Q,v,b5,b0,ci,d,V,a5⟩:=aa g1 aw a4 hE;clear a4 hE;have hN:=DK a5 (au:=[.i,.l]) (ah:=[.e 64,.e 10]) (by kernel_rfl);clear a5;have W:=Q;clear Q;obtain⟨F1,d⟩:=d.cut;obtain⟨X,d⟩:=d.cut;obtain⟨F3,d⟩:=d.cut;have F4:=d;clear d;have Y:=V;clear V
  suffices hz:(B J 40=true->(ek T (I J 64) (L J 10)))/\(B J 40=true->((I T 3) - (I J 64)).toNat < ((I T 3) - (I J 5)).toNat) from
   let⟨nx,mz⟩:=hz;⟨hN,⟨(fun _=>b5),trivial⟩,fun e=>⟨nx e,mz e⟩⟩
  refine⟨?_,?_⟩
  .obtain⟨p,-⟩:=W;obtain⟨Z,-,-,-,ab,-,ad,-,-,-,-,-,-,-,-,ag,-⟩:=F1;obtain⟨al,-,ao,-,-,-,-,-,-,C,a0,a1,bb,h,-⟩:=X;obtain⟨o,-⟩:=Y;replace C:I J 36=(if DC (I J 17) (I J 29)=0 then DC (I J 15) (I J 27) else DC (I J 17) (I J 29)):=C;simp only[BS,BZ,zN,zR,w2P,zL] at p Z ab ad ag al ao a0 a1 bb h o;obtain⟨O,P,x,y,z⟩:=g;obtain⟨aN,w2,w3⟩:=b0;rw[D] at aN w3;intro e;have r:=h.1 e;have v:=p.1 r.1;have a8:=o2' o (by omega);obtain⟨z1,z2,z3,z4⟩:=w3 r.1;have bs:(L J 10)=eb ltB ((L J 6)) (I T 2).toNat (I J 5).toNat:=by
    rw[z3];refine td (l:=L J 6) (k:=((I J 5) - (I J 9)).toNat) (by omega) (by omega) (by omega) (fun q hq=>z4 q (by omega)) ?_;rcases Int.lt_or_le (I T 2) (I J 9) with h9|h9
    .refine .inr fun a6=>?_;obtain⟨ax,ai,m3⟩:=ZH (l:=L J 6) (c:=L J 10) (a:=(I T 2).toNat) (i:=(I J 5).toNat) (j:=(I J 9).toNat) (by omega) (by omega) (by omega) (by rw[show (I J 5).toNat - (I J 9).toNat=((I J 5) - (I J 9)).toNat by omega];exact z3);obtain⟨m4,m5⟩:=m3 (by omega);rw[show ((I J 5) - (I J 9)).toNat=(I J 5).toNat - (I J 9).toNat by omega,<-m4,<-ai] at a6;have b7:=o2' ag (by omega);have bi:(I J 36) < 0:=by
      rw[C,ab,ad,al,ao,b7,show ((I J 9) - 1).toNat=(I J 9).toNat - 1 by omega];exact of_decide_eq_true a6
     have bl:(B J 38)=true:=a1.2 ⟨Z.2 (by rw[D];exact h9),a0.2 bi⟩;have:=r.2;simp[bl] at this
    .exact .inl (by omega)
   refine⟨by omega,?_,by rw[<-t];exact z1,z2,?_⟩
   .rw[E] at v;left;omega
   .rw[bs,a8,show ((I J 5)+1).toNat=(I J 5).toNat+1 by omega,nN (by omega) (by rw[t] at*; omega),<-z]
  .obtain⟨p,-⟩:=W;obtain⟨-,-,-,-,-,-,-,-,-,-,-,-,-,h,-⟩:=X;obtain⟨o,-⟩:=Y;simp only[BS,BZ,zN,zR,w2P] at p h o;obtain⟨O,P,x,y,z⟩:=g;intro e;have r:=h.1 e;have v:=p.1 r.1;rw[E] at v;have a8:=o2' o (by omega);omega
theorem wa (J:f9 T)(H:∀u∈(L T 0),Bb BT KB u)(M:0<=I T 1)(v:gf T)(E:(I T 4)=I T 2+1)(F:(I T 1)<=140737488355328)(r:ek T (I T 5) (L T 6))(s:¬B T 40=true)(p:(B T 7)=true->I T 5 < I T 3)(K:ed T (I T 9) (L T 10))(t:¬B T 39=true)(D:gg T)(aw:gt T)(b:BV T JH)(c:BV T IG)(a:BV T GZ)(d:BV T Mh):
  ((L T 6)=(Br ltB (L T 0) (I T 2).toNat (I T 3).toNat)):=by
 have x:=b;clear b;have l:=c;clear c;obtain⟨y,a⟩:=a.cut;obtain⟨o,a⟩:=a.cut;obtain⟨z,a⟩:=a.cut;have A:=a;clear a;have C:=d;clear d
 .obtain⟨i,-⟩:=l;obtain⟨-,-,-,-,-,-,-,-,-,-,-,-,e,g,-⟩:=o;simp only[BS,BZ,zN,zR] at i e g;obtain⟨V,W,X,Y,w⟩:=r;obtain⟨N,O,P,Q⟩:=v;have p:¬I T 5 < I T 3:=fun h=>by
   have k:=i.2 h;by_cases j:(B T 38)=true
   .exact t (e.2 ⟨k,j⟩)
   .exact s (g.2 ⟨k,by simpa using j⟩)
  rw[w];by_cases q:(I T 5)=I T 3
  .rw[q]
  .have h:(I T 5)=I T 2+1:=by omega
   rw[h,show ((I T 2)+1).toNat=(I T 2).toNat+1 by omega,WV (by omega),Rv (by omega) (by omega)]
theorem vQ:Bl Try.prog 144 yQ:=by
 refine B7 (l:=[(101,NK)]) CP (by simp only[AW];exact⟨gj,fun _ h=>absurd h (by simp)⟩) xH (by kernel_rfl) fun T us N e c q Y a=>?_;change us.length=4 at c;obtain⟨⟨g,ag⟩,⟨k,b⟩,-⟩:=Y;replace g:(L T 0).length<=140737488355328:=g;have r:∀u∈(L T 0),Bb BT KB u:=fun u hu=>by
  obtain⟨i,ab⟩:=Ac.1 hu;exact ag i u ab
 replace k:0<=I T 1:=k;replace b:I T 1<=140737488355328:=b;have J:=inL (j:=0) e c (by decide);have ad:=inI (j:=1) e c (by decide);have K:=inI (j:=2) e c (by decide);have M:=inI (j:=3) e c (by decide);have v:((L T 0)).length=I T 1/\0<=I T 2/\I T 2<=I T 3/\I T 3<=I T 1:=by
  have h:=N (.s "insB.p0",Ku) (by simp[yQ]);change Ku us at h;unfold Ku at h;simp only[J,ad,K,M] at h;exact h
 clear N;rw[AL,AL,AL] at a;obtain⟨D,a⟩:=cutB a;obtain⟨E,a⟩:=cutB a;obtain⟨p,a⟩:=cutB a;obtain⟨w,d⟩:=Be q (by kernel_rfl) D;have C:=ov g r k b v w;obtain⟨a1,F,t,ax⟩:=rW r v C b d p E;have z:0<=I T 2/\I T 2<=I T 3/\I T 2+1<=I T 5/\((I T 5)<=I T 3\/I T 5=I T 2+1)/\I T 3<=I T 1/\I T 1<=140737488355328:=by
  have x:I T 2=I T 2:=rfl;have o:I T 1=I T 1:=rfl;have y:I T 3=I T 3:=rfl;have s:=t;obtain⟨v1,v2,O,P,v5⟩:=s;rw[x,o,y];omega
 have aw:((L T 6)).length=I T 1/\∀u∈(L T 6),Bb BT KB u:=by
  have x:I T 2=I T 2:=rfl;have o:I T 1=I T 1:=rfl;have y:I T 3=I T 3:=rfl;have s:=t;obtain⟨v1,v2,O,P,v5⟩:=s;rw[o];exact⟨O,P⟩
 obtain⟨V,X,a7,ao,a0,Q,W,H⟩:=aa z aw (F.append (EO (fun _ _=>rfl) d)) p;have q:=H.append d;clear D p E d F H;obtain⟨A2,Z⟩:=B8 (A:=[.l]) (ah:=mn) q (by kernel_rfl) a;have q0:=wa g r k v C b t ax X ao a0 z aw w V Q W;refine⟨⟨(fun _=>a1),trivial⟩,Z.trans ?_⟩;exact (lc (by show U.list (L T 6)= .list (NR us);unfold NR;rw[J,K,M];exact BI U.list q0) rfl)
def M8:List U->List (List U):=fun us=>(Co (aL us 0) (swS (aI us 2).toNat (aI us 3).toNat (aI us 4).toNat))
def Ky:List U->Prop:=fun us=>((aL us 0)).length=(aI us 1)/\0<=(aI us 2)/\0<=(aI us 4)/\(aI us 2)+(aI us 4)<=(aI us 3)/\(aI us 3)+(aI us 4)<=(aI us 1)
def P5:Bf:={ sh:=[.one (k64),.one (k64),.one (k64),.cst (.fn (.func 101) [] [])],blks:=[],outs:=[(.s "swB.0",D1 M8)],c:= .tup [],m':=[.mrow 5 1 [k64,k64,k64,.bool,.str,.str,.bool,k64,k64] 38],pre:=[(.s "swB.p0",Ky)],row:=some ([k64,k64,k64,.bool,.str,.str,.bool,k64,k64],38) }
def ia:List En:=[]
def qO:List En:=[ABI 7 5 4,
 ABH 8 7,
 ABV 9 2 5,
 ABV 10 3 5,
 ABV 11 3 5,
 ABM 12 6 11,
 ABJ 13 6 11,
 ABK 14 6 11,
 ABP 15 6 11,
 ABN 16 6 11,
 ABO 17 6 11,
 ABQ 18 6 11,
 ABR 19 6 11,
 ABS 20 6 11,
 ABV 21 2 5,
 ABM 22 6 21]
def pR:List En:=[ABJ 23 6 21,
 ABK 24 6 21,
 ABP 25 6 21,
 ABN 26 6 21,
 ABO 27 6 21,
 ABQ 28 6 21,
 ABR 29 6 21,
 ABS 30 6 21,
 ⟨31,.rset 0 [.i,.i,.i,.b,.s,.s,.b,.i,.i],[.e 6,.e 9,.e 12,.e 13,.e 14,.e 15,.e 16,.e 17,.e 18,.e 19,.e 20]⟩,
 ⟨32,.rset 0 [.i,.i,.i,.b,.s,.s,.b,.i,.i],[.e 31,.e 10,.e 22,.e 23,.e 24,.e 25,.e 26,.e 27,.e 28,.e 29,.e 30]⟩,
 ⟨33,.w2 .i64 .add,[.e 5,.c (.int 1)]⟩]
def KZ:List En:=qO++(pR)
def iI:List ObE:=[⟨some 7,.inr,[.e 10,.e 1]⟩,⟨some 7,.inr,[.e 9,.e 1]⟩,⟨some 7,.inr,[.e 21,.e 1]⟩,⟨some 7,.inr,[.e 11,.e 1]⟩]
def TB:Bs:=mkD 5 2 KZ 7 [.e 33,.e 32] iI [2,3,4,1]
def Wz:List Rf:=[.e 2,.e 3,.e 4,.e 1,.c (.int 0),.e 0]
def uc:List En:=[]
def xq:List ObE:=[⟨none,.owes TB,[.e 2,.e 3,.e 4,.e 1,.c (.int 0),.e 0]⟩]
def uK:List Rf:=[.e 6]
theorem yH:P5.sees uK (P5.run Try.prog [] Bp 3000 20 150)=some ((ia++((B5 TB [.i,.l] Wz)++(KZ++(uc)))).map En.be,xq.map ObE.be,[]):=by kernel_rfl
abbrev ew(T:Tab)(a:Int)(b:List (List U)):Prop:=0<=a/\a <=I T 4/\b.length=I T 1/\(∀u∈b,Bb BT KB u)/\b=Co (L T 0) (swS (I T 2).toNat (I T 3).toNat a.toNat)
abbrev gB(T:Tab):Prop:=((L T 0)).length=I T 1/\0<=I T 2/\0<=I T 4/\I T 2+I T 4<=I T 3/\I T 3+I T 4<=I T 1
theorem vG (a6:∀u∈(L T 0),Bb BT KB u)(bs:I T 1<=140737488355328)(w:gB T)(t:Ba T (Bh (CA 0 P5.ks) ia))(q:Bi T (KZ.map En.be))(r:Bi T ((B5 TB [.i,.l] Wz).map En.be)):
  (TB).owes (Wz.map (Rf.eval T))/\Ba T (hds 5 [.i,.l])/\(ew T (I T 5) (L T 6))/\¬B T 7=true:=by
 refine CK (nh:=5) (k:=2) (pcn:=7) (R:=34) (b:=KZ) (K:=iI) (nxt:=[.e 33,.e 32]) (H:=[.c (.int 0),.e 0]) (fv:=[2,3,4,1]) (A:=[.i,.l]) (by kernel_rfl) rfl rfl rfl rfl t (by kernel_rfl) (by kernel_rfl) q (B6 r) (fun s=>ew T (aI s 0) (aL s 1)) (fun s=>((I T 4) - (aI s 0)).toNat) ?_ ?_
 .show ew T (0:Int) (L T 0);clear t q r;exact⟨Aw _,w.2.2.1,w.1,a6,vO.symm⟩
 .intro J j i v;replace v:ew T (I J 5) (L J 6):=v;clear t q r;replace i:BV J KZ:=i;obtain⟨h,i⟩:=i.cut;have x:=i;clear i;have bm:=fvI (j 2 (by decide));have bo:=fvI (j 3 (by decide));have a4:=fvI (j 4 (by decide));have bl:=fvI (j 1 (by decide));clear j
  suffices hz:(B J 7=true->0<=I J 10/\I J 10 < I J 1)/\(B J 7=true->0<=I J 9/\I J 9 < I J 1)/\(B J 7=true->0<=I J 21/\I J 21 < I J 1)/\(B J 7=true->0<=I J 11/\I J 11 < I J 1)/\(B J 7=true->(ew T (I J 33) (L J 32)))/\(B J 7=true->((I T 4) - (I J 33)).toNat < ((I T 4) - (I J 5)).toNat) from
   let⟨r0,aB,aJ,r3,nx,mz⟩:=hz;⟨⟨r0,aB,aJ,r3,trivial⟩,fun o=>⟨nx o,mz o⟩⟩
  refine⟨?_,?_,?_,?_,?_,?_⟩
  .obtain⟨a,-,g,c,d,-,-,-,-,-,-,-,-,-,e,-⟩:=h;simp only[BS,zR,w2P] at a g c d e;grind
  .obtain⟨a,-,g,c,d,-,-,-,-,-,-,-,-,-,e,-⟩:=h;simp only[BS,zR,w2P] at a g c d e;grind
  .obtain⟨a,-,g,c,d,-,-,-,-,-,-,-,-,-,e,-⟩:=h;simp only[BS,zR,w2P] at a g c d e;grind
  .obtain⟨a,-,g,c,d,-,-,-,-,-,-,-,-,-,e,-⟩:=h;simp only[BS,zR,w2P] at a g c d e;grind
  .obtain⟨a,-,g,c,d,y,z,D,F,M,N,P,Q,V,e,W,-⟩:=h;obtain⟨X,Y,Z,ab,ad,ag,al,ao,aw,ax,l,-⟩:=x;simp only[BS,zR,w2P,zL,zS,uR,zW,BZ,zC] at a g c d y z D F M N P Q V e W X Y Z ab ad ag al ao aw ax l;obtain⟨v1,v2,v3,p,v5⟩:=v;obtain⟨p1,p2,p3,p4,p5⟩:=w;intro o;have h7:=a.1 o;rw[a4] at h7;have x9:=o2' g (by omega);have b5:=o2' c (by omega);have b6:=o2' d (by omega);have b7:=o2' e (by omega);have b8:=o2' l (by omega);have jA:(I T 2).toNat+(I J 5).toNat < ((L J 6)).length:=by omega
   have jB:(I T 3).toNat+(I J 5).toNat < ((L J 6)).length:=by omega
   have sA:=p _ (Ca jA);have sB:=p _ (Ca jB);have O:(L J 31)=((L J 6)).set ((I T 2).toNat+(I J 5).toNat) (((L J 6)).getD ((I T 3).toNat+(I J 5).toNat) []):=by
    rw[aw,y,z,D,F,M,N,P,Q,V,show (I J 11).toNat=(I T 3).toNat+(I J 5).toNat by omega,show (I J 9).toNat=(I T 2).toNat+(I J 5).toNat by omega];exact Sr p jA sB
   have k1:∀u∈(L J 31),Bb BT KB u:=by rw[O];exact FY p sB
   have C:(L J 32)=((L J 31)).set ((I T 3).toNat+(I J 5).toNat) (((L J 6)).getD ((I T 2).toNat+(I J 5).toNat) []):=by
    rw[ax,W,X,Y,Z,ab,ad,ag,al,ao,show (I J 21).toNat=(I T 2).toNat+(I J 5).toNat by omega,show (I J 10).toNat=(I T 3).toNat+(I J 5).toNat by omega];exact Sr k1 (by rw[O,Au];exact jB) sA
   have E:∀u∈(L J 32),Bb BT KB u:=by rw[C];exact FY k1 sA
   have aD:((L J 32)).length=((L J 6)).length:=by rw[C,O,Au,Au]
   refine⟨by omega,by omega,by rw[aD];exact v3,E,?_⟩;rw[C,O,ua v5 (by omega) (by omega),show (I J 33).toNat=(I J 5).toNat+1 by omega]
  .obtain⟨a,-⟩:=h;obtain⟨-,-,-,-,-,-,-,-,-,-,l,-⟩:=x;simp only[BS,zR,w2P] at a l;grind
theorem xm (h:f9 T)(g:∀u∈(L T 0),Bb BT KB u)(j:0<=I T 1)(e:I T 1<=140737488355328)(l:gB T)(i:ew T (I T 5) (L T 6))(k:¬B T 7=true)(a:BV T KZ):
  ((L T 6)=(Co (L T 0) (swS (I T 2).toNat (I T 3).toNat (I T 4).toNat))):=by
 obtain⟨b,a⟩:=a.cut;have d:=a;clear a
 .obtain⟨c,-⟩:=b;simp only[BS,zR] at c;grind
theorem xJ:Bl Try.prog 150 P5:=by
 refine B7 (l:=[]) CP (by intro p h;exact absurd h (by simp)) yH (by kernel_rfl) fun T us w c b g z a=>?_;change us.length=5 at b;obtain⟨⟨o,K⟩,⟨q,d⟩,-⟩:=z;replace o:(L T 0).length<=140737488355328:=o;have v:∀u∈(L T 0),Bb BT KB u:=fun u M=>by
  obtain⟨i,ab⟩:=Ac.1 M;exact K i u ab
 replace q:0<=I T 1:=q;replace d:I T 1<=140737488355328:=d;have E:=inL (j:=0) c b (by decide);have X:=inI (j:=1) c b (by decide);have F:=inI (j:=2) c b (by decide);have H:=inI (j:=3) c b (by decide);have J:=inI (j:=4) c b (by decide);have x:((L T 0)).length=I T 1/\0<=I T 2/\0<=I T 4/\I T 2+I T 4<=I T 3/\I T 3+I T 4<=I T 1:=by
  have h:=w (.s "swB.p0",Ky) (by simp[P5]);change Ky us at h;unfold Ky at h;grind
 clear w;rw[AL,AL,AL] at a;obtain⟨r,a⟩:=cutB a;obtain⟨s,a⟩:=cutB a;obtain⟨e,a⟩:=cutB a;obtain⟨V,k⟩:=Be g (by kernel_rfl) r;obtain⟨P,t,N,O⟩:=vG v d x k e s;have C:=(Be (t.append k) (l:=KZ) (by kernel_rfl) e);obtain⟨y,g⟩:=C;clear r e s k t;obtain⟨W,D⟩:=B8 (A:=[.l]) (ah:=uK) g (by kernel_rfl) a;have Q:=xm o v q d x N O y;refine⟨⟨(fun _=>P),trivial⟩,D.trans ?_⟩;exact (lc (by show U.list (L T 6)= .list (M8 us);unfold M8;rw[E,F,H,J];exact BI U.list Q) rfl)
def RC:List U->List (List U):=fun us=>(Co (aL us 0) (rtS (aI us 2).toNat (aI us 3).toNat (aI us 4).toNat))
def N1:List U->Prop:=fun us=>((aL us 0)).length=(aI us 1)/\0<=(aI us 2)/\(aI us 2) < (aI us 3)/\(aI us 3) < (aI us 4)/\(aI us 4)<=(aI us 1)
def N4:Bf:={ sh:=[.one (k64),.one (k64),.one (k64),.cst (.fn (.func 101) [] [])],blks:=[],outs:=[(.s "rotB.0",D1 RC)],c:= .tup [],m':=[.mrow 5 1 [k64,k64,k64,.bool,.str,.str,.bool,k64,k64] 38],pre:=[(.s "rotB.p0",N1)],row:=some ([k64,k64,k64,.bool,.str,.str,.bool,k64,k64],38) }
def mU:List En:=[ABW 5 3 2,
 ABW 6 4 3]
def RM:List En:=mU
def jk:List En:=[⟨10,.ne,[.e 8,.e 7]⟩,
 ABH 11 10,
 ABI 12 7 8,
 nl 13 10 12,
 ABW 14 3 8,
 ⟨15,.outL "swB.0" M8,[.e 9,.e 1,.e 14,.e 3,.e 7]⟩,
 ABW 16 8 7,
 ABF 17 10 12,
 ABW 18 3 8,
 ABV 19 3 7,
 ABW 20 19 8,
 ⟨21,.outL "swB.0" M8,[.e 9,.e 1,.e 18,.e 20,.e 8]⟩,
 ABW 22 7 8,
 ABX 23 12 15 21,
 ABT 24 12 7 22,
 ABT 25 12 16 8]
def Iy:List En:=jk
def cT:List ObE:=[⟨some 17,.pre "swB.p0" Ky,[.e 9,.e 1,.e 18,.e 20,.e 8]⟩,⟨some 13,.pre "swB.p0" Ky,[.e 9,.e 1,.e 14,.e 3,.e 7]⟩]
def Qm:Bs:=mkD 7 3 Iy 10 [.e 24,.e 25,.e 23] cT [1,3]
def Uc:List Rf:=[.e 1,.e 3,.e 6,.e 5,.e 0]
def jY:List En:=[ABW 26 3 8,
 ⟨27,.outL "swB.0" M8,[.e 9,.e 1,.e 26,.e 3,.e 8]⟩]
def bN:List En:=jY
def xQ:List ObE:=[⟨some 11,.pre "swB.p0" Ky,[.e 9,.e 1,.e 26,.e 3,.e 8]⟩,
 ⟨none,.owes Qm,[.e 1,.e 3,.e 6,.e 5,.e 0]⟩]
def nK:List Rf:=[.e 27]
theorem wM:N4.sees nK (N4.run Try.prog [(150,P5)] Bp 3000 20 148)=some ((RM++((B5 Qm [.i,.i,.l] Uc)++(Iy++(bN)))).map En.be,xQ.map ObE.be,[]):=by kernel_rfl
abbrev gE(T:Tab):Prop:=((L T 0)).length=I T 1/\0<=I T 2/\I T 2 < I T 3/\I T 3 < I T 4/\I T 4<=I T 1
theorem oU (j:f9 T)(i:∀u∈(L T 0),Bb BT KB u)(k:0<=I T 1)(h:I T 1<=140737488355328)(l:gE T)(a:BV T RM):
  ((I T 5)=I T 3 - (I T 2))/\((I T 6)=I T 4 - (I T 3)):=by
 have b:=a;clear a;have e:(I T 5)=I T 3 - (I T 2):=by
  obtain⟨c,-⟩:=b;simp only[BS,zR,w2P] at c;grind
 have g:(I T 6)=I T 4 - (I T 3):=by
  obtain⟨-,d,-⟩:=b;simp only[BS,zR,w2P] at d;grind
 exact⟨e,g⟩
abbrev eB(T:Tab)(a:Int)(b:Int)(aw:List (List U)):Prop:=1<=a/\1<=b/\b <=I T 3 - (I T 2)/\a <=I T 4 - (I T 3)/\aw.length=I T 1/\Co aw (rtS ((I T 3).toNat -b.toNat) (I T 3).toNat ((I T 3).toNat+a.toNat))=Co (L T 0) (rtS (I T 2).toNat (I T 3).toNat (I T 4).toNat)
theorem tI (aw:I T 1<=140737488355328)(X:gE T)(x5:(I T 5)=I T 3 - (I T 2))(x6:(I T 6)=I T 4 - (I T 3))(E:Ba T (Bh (CA 0 N4.ks) RM))(C:Bi T (Iy.map En.be))(D:Bi T ((B5 Qm [.i,.i,.l] Uc).map En.be)):
  (Qm).owes (Uc.map (Rf.eval T))/\Ba T (hds 7 [.i,.i,.l])/\(eB T (I T 7) (I T 8) (L T 9))/\¬B T 10=true:=by
 refine CK (nh:=7) (k:=3) (pcn:=10) (R:=26) (b:=Iy) (K:=cT) (nxt:=[.e 24,.e 25,.e 23]) (H:=[.e 6,.e 5,.e 0]) (fv:=[1,3]) (A:=[.i,.i,.l]) (by kernel_rfl) rfl rfl rfl rfl E (by kernel_rfl) (by kernel_rfl) C (B6 D) (fun s=>eB T (aI s 0) (aI s 1) (aL s 2)) (fun s=>((aI s 0)+(aI s 1)).toNat) ?_ ?_
 .show eB T (I T 6) (I T 5) (L T 0);grind
 .intro J x v y;replace y:eB T (I J 7) (I J 8) (L J 9):=y;clear E C D;replace v:BV J Iy:=v;have e:=v;clear v;have al:=fvI (x 1 (by decide));have P:=fvI (x 3 (by decide));clear x
  suffices Q:(B J 17=true->((L J 9)).length=I J 1/\0<=I J 18/\0<=I J 8/\I J 18+I J 8<=I J 20/\I J 20+I J 8<=I J 1)/\(B J 13=true->((L J 9)).length=I J 1/\0<=I J 14/\0<=I J 7/\I J 14+I J 7<=I J 3/\I J 3+I J 7<=I J 1)/\(B J 10=true->(eB T (I J 24) (I J 25) (L J 23)))/\(B J 10=true->((I J 24)+I J 25).toNat < ((I J 7)+I J 8).toNat) from
   let⟨Y,aB,W,V⟩:=Q;⟨⟨Y,aB,trivial⟩,fun w=>⟨W w,V w⟩⟩
  refine⟨?_,?_,?_,?_⟩
  .obtain⟨d,-,a,-,-,-,-,O,l,o,p,-⟩:=e;simp only[BS,BZ,zN,zR,w2P] at d a O l o p;grind
  .obtain⟨-,-,a,N,g,-⟩:=e;simp only[BS,BZ,zR,w2P] at a N g;grind
  .obtain⟨d,-,a,-,g,i,j,-,l,o,p,q,r,z,t,u,-⟩:=e;replace i:L J 15=(Co (L J 9) (swS (I J 14).toNat (I J 3).toNat (I J 7).toNat)):=i;replace q:L J 21=(Co (L J 9) (swS (I J 18).toNat (I J 20).toNat (I J 8).toNat)):=q;simp only[BS,BZ,zR,w2P,zL,zS] at d a g j l o p r z t u;obtain⟨Z,v2,v3,v4,F,M⟩:=y;obtain⟨p1,p2,p3,p4,p5⟩:=X;intro w;have ao:=d.1 w;have a4:=o2' g (by omega);have a5:=o2' j (by omega);have a6:=o2' l (by omega);have a7:=o2' o (by omega);have a8:=o2' p (by omega);have a9:=o2' r (by omega);rw[z,t,u];by_cases c:(B J 12)=true
   .rw[BH c,BH c,BH c];have h:=a.1 c;refine⟨Z,by omega,by omega,v4,by rw[i,Gh];exact F,?_⟩;rw[i,P,<-M,show (I J 14).toNat=(I T 3).toNat - (I J 8).toNat by omega,show (I J 16).toNat=(I J 8).toNat - (I J 7).toNat by omega];exact xT (by omega) (by omega) (by omega)
   .rw[BG c,BG c,BG c];have h:¬I J 7 < I J 8:=fun h=>c (a.2 h);refine⟨by omega,v2,v3,by omega,by rw[q,Gh];exact F,?_⟩;rw[q,<-M,show (I J 18).toNat=(I T 3).toNat - (I J 8).toNat by omega,show (I J 20).toNat=(I T 3).toNat+(I J 7).toNat - (I J 8).toNat by omega,show (I J 22).toNat=(I J 7).toNat - (I J 8).toNat by omega];exact wX (by omega) (by omega) (by omega)
  .obtain⟨d,-,a,-,-,-,j,-,-,-,-,-,r,-,t,u,-⟩:=e;simp only[BS,BZ,zR,w2P,zL,zS] at d a j r t u;grind
theorem wm (s:f9 T)(r:∀u∈(L T 0),Bb BT KB u)(t:0<=I T 1)(q:I T 1<=140737488355328)(l:gE T)(K:(I T 5)=I T 3 - (I T 2))(M:(I T 6)=I T 4 - (I T 3))(k:eB T (I T 7) (I T 8) (L T 9))(v:¬B T 10=true)(d:BV T RM)(g:BV T Iy)(e:BV T bN):
  ((L T 27)=(Co (L T 0) (rtS (I T 2).toNat (I T 3).toNat (I T 4).toNat)))/\
  (B T 11=true->((L T 9)).length=I T 1/\0<=I T 26/\0<=I T 8/\I T 26+I T 8<=I T 3/\I T 3+I T 8<=I T 1):=by
 have p:=d;clear d;have i:=g;clear g;have j:=e;clear e;refine⟨?_,?_⟩
 .obtain⟨b,-⟩:=i;obtain⟨a,c,-⟩:=j;replace c:L T 27=(Co (L T 9) (swS (I T 26).toNat (I T 3).toNat (I T 8).toNat)):=c;simp only[BS,zR,w2P] at b a;obtain⟨C,D,E,F,H,o⟩:=k;obtain⟨w,x,y,z,A⟩:=l;have h:(I T 8)=I T 7:=by
   grind
  have J:=o2' a (by omega);rw[c,<-o,h,show (I T 26).toNat=(I T 3).toNat - (I T 7).toNat by omega];exact wj (by omega) (by omega)
 .obtain⟨b,-⟩:=i;obtain⟨a,-⟩:=j;simp only[BS,zR,w2P] at b a;grind
theorem ud:Bl Try.prog 148 N4:=by
 refine B7 (l:=[(150,P5)]) CP (by simp only[AW];exact⟨xJ,fun _ h=>absurd h (by simp)⟩) wM (by kernel_rfl) fun T us x c b o E a=>?_;change us.length=5 at b;obtain⟨⟨e,O⟩,⟨g,d⟩,-⟩:=E;replace e:(L T 0).length<=140737488355328:=e;have w:∀u∈(L T 0),Bb BT KB u:=fun u P=>by
  obtain⟨i,ab⟩:=Ac.1 P;exact O i u ab
 replace g:0<=I T 1:=g;replace d:I T 1<=140737488355328:=d;have J:=inL (j:=0) c b (by decide);have Z:=inI (j:=1) c b (by decide);have K:=inI (j:=2) c b (by decide);have M:=inI (j:=3) c b (by decide);have N:=inI (j:=4) c b (by decide);have q:((L T 0)).length=I T 1/\0<=I T 2/\I T 2 < I T 3/\I T 3 < I T 4/\I T 4<=I T 1:=by
  have h:=x (.s "rotB.p0",N1) (by simp[N4]);change N1 us at h;unfold N1 at h;grind
 clear x;rw[AL,AL,AL] at a;obtain⟨s,a⟩:=cutB a;obtain⟨t,a⟩:=cutB a;obtain⟨k,a⟩:=cutB a;obtain⟨r,p⟩:=Be o (by kernel_rfl) s;obtain⟨y,z⟩:=oU e w g d q r;obtain⟨W,v,Q,V⟩:=tI d q y z p k t;have F:=(Be (v.append p) (l:=Iy) (by kernel_rfl) k);obtain⟨D,o⟩:=F;clear s k t p v;obtain⟨C,H⟩:=B8 (A:=[.l]) (ah:=nK) o (by kernel_rfl) a;obtain⟨X,Y⟩:=wm e w g d q y z Q V r D C;refine⟨⟨Y,(fun _=>W),trivial⟩,H.trans ?_⟩;exact (lc (by show U.list (L T 27)= .list (RC us);unfold RC;rw[J,K,M,N];exact BI U.list X) rfl)
end
end Go.Eng
end
