/-
  A part of the proof: the evaluator of code and its soundness.
-/
import Derived.Test.YtikbgnmcfncnaaaKB2
import Derived.Test.YtikbgnmcfncnaaaE4
import Derived.Test.YtikbgnmcfncnaaaE5
import Derived.Test.YtikbgnmcfncnaaaKB0
set_option linter.unusedVariables false
set_option linter.unusedSimpArgs false
noncomputable section
namespace Go.Eng
section
open Go Go.Eng Go.Proofs
set_option maxHeartbeats 4000000
set_option maxRecDepth 100000
theorem xX:Ls.sees ml (Ls.run Try.prog [] Bp 3000 20 60)=some ((cn).map En.be,wP.map ObE.be,[]):=by kernel_rfl
variable{T:Tab}
theorem wN (v: -10000<=I T 0/\I T 0<=10000/\ -10000<=I T 1/\I T 1<=10000)(p:BV T cn):
  ((I T 18)=(CJ (I T 0) (I T 1) (B T 2)))/\
  (B T 11=true->0<=I T 14/\I T 14 < 20)/\
  (B T 5=true->0<=I T 8/\I T 8 < 20):=by
 obtain⟨q,p⟩:=p.cut;have W:=p;clear p;refine⟨?_,?_,?_⟩
 .obtain⟨t,b,c,j,k,l,z,w,-,e,g,i,y,r,-,s,-⟩:=q;simp only[BS,BZ,zR,TQ,Sz,and_false,or_false,EK,w2P,zL,zS] at t b c j k l z w e g i y r s;obtain⟨A,C,D,E⟩:=v;unfold CJ;by_cases o:(B T 2)=true
  .have F:¬B T 3=true:=fun a=>(t.1 a) o;rw[s,BG F,BH o];by_cases d:(I T 0) < I T 1
   .have u:=c.2 ⟨o,b.2 d⟩;have N:=o2' j (by omega);have Q:(I T 8)=min (((I T 1) - (I T 0)) / 100) 19:=by
     have P:(I T 7)=(I T 6) / 100:=by rw[k,BH (by omega)]
     rw[l];split<;>omega
    have V:(I T 9)=IE GF (I T 8):=by
     simp only[IE,GF];exact z
    rw[r,BH u,w,BH d,<-Q,V]
   .have u:¬B T 5=true:=fun a=>d (b.1 (c.1 a).2);have H:=o2' e (by omega);have K:(I T 14)=min (((I T 0) - (I T 1)) / 100) 19:=by
     have J:(I T 13)=(I T 12) / 100:=by rw[g,BH (by omega)]
     rw[i];split<;>omega
    have M:(I T 15)=IE GF (I T 14):=by
     simp only[IE,GF];exact y
    rw[r,BG u,BG d,<-K,M]
  .rw[s,BH (t.2 o),BG o]
 .obtain⟨-,b,-,-,-,-,-,-,x,e,g,i,-⟩:=q;simp only[BS,BZ,zN,zR,EK,w2P] at b x e g i;intro h;obtain⟨A,C,D,E⟩:=v;have O:=x.1 h;have d:¬I T 0 < I T 1:=fun a=>by
   have:=b.2 a;simp[this] at O
  have H:=o2' e (by omega);have J:(I T 13)=(I T 12) / 100:=by rw[g,BH (by omega)]
  rw[i];split<;>omega
 .obtain⟨-,b,c,j,k,l,-⟩:=q;simp only[BS,BZ,zR,EK,w2P] at b c j k l;intro h;obtain⟨A,C,D,E⟩:=v;have d:=b.1 (c.1 h).2;have N:=o2' j (by omega);have P:(I T 7)=(I T 6) / 100:=by rw[k,BH (by omega)]
  rw[l];split<;>omega
theorem iC:Bl Try.prog 60 Ls:=by
 refine B7 (l:=[]) CP (by intro p h;exact absurd h (by simp)) xX (by kernel_rfl) fun T us e b a q i k=>?_;change us.length=3 at a;clear i;have c:=inI (j:=0) b a (by decide);have d:=inI (j:=1) b a (by decide);have r:=inB (j:=2) b a (by decide);have s: -10000<=I T 0/\I T 0<=10000/\ -10000<=I T 1/\I T 1<=10000:=by
  have h:=e (.s "gain.p0",K8) (by simp[Ls]);change K8 us at h;unfold K8 at h;simp only[c,d] at h;exact h
 clear e
 skip
 obtain⟨g,o⟩:=B8 (A:=[.i]) (ag:=ml) q (by kernel_rfl) k;obtain⟨t,u,aB⟩:=wN s g;refine⟨⟨u,aB,trivial⟩,o.trans ?_⟩;exact (lc (by show U.int (I T 18)= .int (Nc us);unfold Nc;rw[c,d,r];exact BI U.int t) rfl)
def Iv:List U->Int:=fun us=>(Dp (aI us 0))
def Hb:List U->Prop:=fun us=> -100<=(aI us 0)/\(aI us 0)<=100
def Lw:Bf:={ sh:=[.one (k64)],blks:=[],outs:=[(.s "trig.0",CW Iv)],c:=(Cy 1),m':=[],pre:=[(.s "trig.p0",Hb)] }
def jb:List En:=[⟨1,.le,[.e 0,.c (.int 0)]⟩,
 ABM 2 1,
 ⟨3,.ite .i,[.e 1,.c (.int 40),.c (.int 50)]⟩,
 ⟨4,.w2 .i64 .mul,[.e 3,.e 0]⟩,
 ⟨5,.w2 .i64 .sub,[.c (.int 2000),.e 4]⟩]
def bF:List En:=jb
def wq:List ObE:=[]
def oR:List Rf:=[.e 5]
theorem wk:Lw.sees oR (Lw.run Try.prog [] Bp 3000 20 69)=some ((bF).map En.be,wq.map ObE.be,[]):=by kernel_rfl
theorem wz (o: -100<=I T 0/\I T 0<=100)(g:BV T bF):
  ((I T 5)=(Dp (I T 0))):=by
 have j:=g;clear g
 .obtain⟨d,-,i,b,e,-⟩:=j;simp only[BS,BZ,zR,w2P,zL,zS] at d i b e;unfold Dp;have c:=i;by_cases h:(I T 0)<=0
  .rw[BH (d.2 h)] at c;rw[c] at b;have k:=o2' b (by omega);have l:=o2' e (by omega);rw[BH h];omega
  .rw[BG (fun a=>h (d.1 a))] at c;rw[c] at b;have k:=o2' b (by omega);have l:=o2' e (by omega);rw[BG h];omega
theorem ib:Bl Try.prog 69 Lw:=by
 refine B7 (l:=[]) CP (by intro p h;exact absurd h (by simp)) wk (by kernel_rfl) fun T us b o c k e g=>?_;change us.length=1 at c;clear e;have a:=inI (j:=0) o c (by decide);have q: -100<=I T 0/\I T 0<=100:=by
  have h:=b (.s "trig.p0",Hb) (by simp[Lw]);change Hb us at h;unfold Hb at h;simp only[a] at h;exact h
 clear b
 skip
 obtain⟨d,i⟩:=B8 (A:=[.i]) (ag:=oR) k (by kernel_rfl) g;have r:=wz q d;refine⟨trivial,i.trans ?_⟩;exact (lc (by show U.int (I T 5)= .int (Iv us);unfold Iv;rw[a];exact BI U.int r) rfl)
def L7:List U->List (List U):=fun us=>(Dq (aL us 0) (aI us 2).toNat (aI us 3))
def JS:List U->Prop:=fun us=>((aL us 0)).length=(aI us 1)/\(aI us 2) < (aI us 1)/\ -100<=(aI us 3)/\(aI us 3)<=100/\ -10000<=BU (aL us 0) (aI us 2).toNat 1/\BU (aL us 0) (aI us 2).toNat 1<=10000/\ -12<=BU (aL us 0) (aI us 2).toNat 2/\BU (aL us 0) (aI us 2).toNat 2<=48
def JK:Bf:={ sh:=[.one (k64)],blks:=[],outs:=[(.s "moveR.0",D1 L7)],c:= .tup [],m':=[.mrow 4 1 [.str,k64,k64] 23],pre:=[(.s "moveR.p0",JS)],row:=some ([.str,k64,k64],23),ptrs:=1 }
abbrev HZ (T:Tab)(a:List (List U)):Prop:=a=DR (L T 0) (I T 2).toNat (I T 7) (BU a (I T 2).toNat 2)/\ -12<=BU a (I T 2).toNat 2/\BU a (I T 2).toNat 2<=48/\Cg (I T 7) (BU a (I T 2).toNat 2)=Cg (I T 7) (BU (L T 0) (I T 2).toNat 2)
abbrev JO (T:Tab)(a:List (List U)):Prop:=a=DR (L T 0) (I T 2).toNat (I T 7) (BU a (I T 2).toNat 2)/\ -12<=BU a (I T 2).toNat 2/\BU a (I T 2).toNat 2<=48/\upG (I T 7) (BU a (I T 2).toNat 2)=upG (I T 7) (BU (L T 9) (I T 2).toNat 2)
def fM:List En:=[ABJ 4 0 2,
 ABX 5 4 3,
 ⟨6,.o2 .max,[.e 5,.c (.int (-10000))]⟩,
 ⟨7,.o2 .min,[.e 6,.c (.int 10000)]⟩,
 ⟨8,.rset 1 [.i],[.e 0,.e 2,.e 7]⟩]
def JZ:List En:=fM
def fq:List En:=[ABK 10 9 2,
 ⟨11,.lt,[.c (.int (-12)),.e 10]⟩,
 ABY 12 11,
 ABJ 13 9 2,
 ABY 14 11,
 ABK 15 9 2,
 ⟨16,.w2 .i64 .sub,[.e 15,.c (.int 1)]⟩,
 ⟨17,.outI "trig.0" Iv,[.e 16]⟩,
 ⟨18,.le,[.e 17,.e 13]⟩,
 ABF 19 11 18,
 ABM 20 19,
 ABK 21 9 2,
 ⟨22,.w2 .i64 .sub,[.e 21,.c (.int 1)]⟩,
 ⟨23,.rset 2 [.i],[.e 9,.e 2,.e 22]⟩]
def Fb:List En:=fq
def Yb:List ObE:=[⟨some 14,.pre "trig.p0" Hb,[.e 16]⟩]
def OB:Bs:=mkD 9 1 Fb 19 [.e 23] Yb [2]
def SN:List Rf:=[.e 2,.e 8]
def YV:List En:=[]
def fS:List En:=[ABK 25 24 2,
 ⟨26,.lt,[.e 25,.c (.int 48)]⟩,
 ABF 27 20 26,
 ABJ 28 24 2,
 ABF 29 20 26,
 ABK 30 24 2,
 ⟨31,.w2 .i64 .add,[.e 30,.c (.int 1)]⟩,
 ⟨32,.outI "trig.0" Iv,[.e 31]⟩,
 ⟨33,.le,[.e 28,.e 32]⟩,
 ABF 34 26 33,
 ABF 35 20 34,
 ABG 36 20 34,
 ABK 37 24 2,
 ⟨38,.w2 .i64 .add,[.e 37,.c (.int 1)]⟩,
 ⟨39,.rset 2 [.i],[.e 24,.e 2,.e 38]⟩]
def Hq:List En:=fS
def Y5:List ObE:=[⟨some 29,.pre "trig.p0" Hb,[.e 31]⟩]
def OT:Bs:=mkD 24 1 Hq 35 [.e 39] Y5 [2,20]
def Sj:List Rf:=[.e 2,.e 20,.e 9]
def nO:List En:=[]
def uz:List ObE:=[⟨some 20,.owes OT,[.e 2,.e 20,.e 9]⟩,
 ⟨none,.owes OB,[.e 2,.e 8]⟩]
def iG:List Rf:=[.e 24]
theorem vD:JK.sees iG (JK.run Try.prog [(69,Lw)] Bp 3000 20 98)=some ((JZ++((B5 OB [.l] SN)++(Fb++(YV++((B5 OT [.l] Sj)++(Hq++(nO))))))).map En.be,uz.map ObE.be,[]):=by kernel_rfl
abbrev fm(T:Tab):Prop:=(L T 0).length<=140737488355328
abbrev fy(T:Tab):Prop:=((L T 0)).length=I T 1/\I T 2 < I T 1/\ -100<=I T 3/\I T 3<=100/\ -10000<=BU (L T 0) (I T 2).toNat 1/\BU (L T 0) (I T 2).toNat 1<=10000/\ -12<=BU (L T 0) (I T 2).toNat 2/\BU (L T 0) (I T 2).toNat 2<=48
theorem lA (j:fm T)(g:∀u∈(L T 0),Bb BT KP u)(k:0<=I T 1)(h:I T 1<=140737488355328)(l:0<=I T 2)(i:I T 2<=140737488355328)(o:fy T)(a:BV T JZ):
  ((0<=I T 2/\I T 2 < ((L T 0)).length)/\ -12<=BU (L T 0) (I T 2).toNat 2/\BU (L T 0) (I T 2).toNat 2<=48)/\((L T 8)=DR (L T 0) (I T 2).toNat (I T 7) (BU (L T 0) (I T 2).toNat 2)):=by
 have d:=a;clear a;have c:(0<=I T 2/\I T 2 < ((L T 0)).length)/\ -12<=BU (L T 0) (I T 2).toNat 2/\BU (L T 0) (I T 2).toNat 2<=48:=by
  grind
 have e:(L T 8)=DR (L T 0) (I T 2).toNat (I T 7) (BU (L T 0) (I T 2).toNat 2):=by
  obtain⟨-,-,-,-,b,-⟩:=d;simp only[BS,zR,zL,zS,uR,zW,BZ,zC] at b;rw[b];exact set1 g (by have:=c.1;omega)
 exact⟨c,e⟩
abbrev fz(T:Tab):Prop:=(0<=I T 2/\I T 2 < ((L T 0)).length)/\ -12<=BU (L T 0) (I T 2).toNat 2/\BU (L T 0) (I T 2).toNat 2<=48
abbrev fB(T:Tab):Prop:=(L T 8)=DR (L T 0) (I T 2).toNat (I T 7) (BU (L T 0) (I T 2).toNat 2)
theorem nu (E:fz T)(W:fB T)(D:Ba T (Bh (CA 0 JK.ks) JZ))(z:Bi T (Fb.map En.be))(C:Bi T ((B5 OB [.l] SN).map En.be)):
  (OB).owes (SN.map (Rf.eval T))/\Ba T (hds 9 [.l])/\(HZ T (L T 9))/\¬B T 19=true:=by
 refine CK (nh:=9) (k:=1) (pcn:=19) (aF:=24) (b:=Fb) (K:=Yb) (nxt:=[.e 23]) (H:=[.e 8]) (fv:=[2]) (A:=[.l]) (by kernel_rfl) rfl rfl rfl rfl D (by kernel_rfl) (by kernel_rfl) z (B6 C) (fun s=>HZ T (aL s 0)) (fun s=>(BU (aL s 0) (I T 2).toNat 2+12).toNat) ?_ ?_
 .show HZ T (L T 8);clear D z C;have a:(I T 2).toNat < ((L T 0)).length:=by have:=E.1;omega
  have y:BU (L T 8) (I T 2).toNat 2=BU (L T 0) (I T 2).toNat 2:=by rw[W];exact PZ a
  grind
 .intro J Q q r;replace r:HZ T (L J 9):=r;clear D z C;replace q:BV J Fb:=q;have u:=q;clear q;have N:=fvI (Q 2 (by decide));clear Q
  suffices hz:(B J 14=true-> -100<=I J 16/\I J 16<=100)/\(B J 19=true->(HZ T (L J 23)))/\(B J 19=true->(BU (L J 23) (I T 2).toNat 2+12).toNat < (BU (L J 9) (I T 2).toNat 2+12).toNat) from
   let⟨r0,nx,mz⟩:=hz;⟨⟨r0,trivial⟩,fun g=>⟨nx g,mz g⟩⟩
  refine⟨?_,?_,?_⟩
  .obtain⟨-,-,-,-,-,j,p,-⟩:=u;simp only[BS,zR,w2P,zL] at j p;grind
  .obtain⟨e,i,-,v,-,j,p,w,M,l,-,c,o,d,-⟩:=u;replace w:I J 17=(Dp (I J 16)):=w;simp only[BS,BZ,zR,w2P,zL,zS,uR,zW,zC] at e i v j p M l c o d;obtain⟨h,v1,v2,V⟩:=r;obtain⟨⟨X,Y⟩,Z,ab⟩:=E;have a:(I T 2).toNat < ((L T 0)).length:=by omega
   intro g;rw[N] at e v j c d;have P:=l.1 g;have x:=i.1 P.1;have O:=M.1 P.2;have ax:(I J 13)=I T 7:=by rw[v,h];exact SV a
   have a0:=o2' p (by omega);have F:=o2' o (by omega);rw[w,ax,a0,j] at O;have t:(L J 23)=DR (L T 0) (I T 2).toNat (I T 7) (BU (L J 9) (I T 2).toNat 2 - 1):=by
    rw[d,F,c,h,mK a,<-h]
   have y:BU (L J 23) (I T 2).toNat 2=BU (L J 9) (I T 2).toNat 2 - 1:=by rw[t];exact PZ a
   refine⟨by rw[y];exact t,by omega,by omega,?_⟩;rw[<-V,y];exact (Sc (by rw[e] at x;exact x) O).symm
  .obtain⟨e,i,-,-,-,-,-,-,-,l,-,c,o,d,-⟩:=u;simp only[BS,BZ,zR,w2P,zL,zS,uR,zW,zC] at e i l c o d;obtain⟨h,v1,v2,V⟩:=r;obtain⟨⟨X,Y⟩,Z,ab⟩:=E;have a:(I T 2).toNat < ((L T 0)).length:=by omega
   intro g;rw[N] at e c d;have x:=i.1 (l.1 g).1;have F:=o2' o (by omega);have t:(L J 23)=DR (L T 0) (I T 2).toNat (I T 7) (BU (L J 9) (I T 2).toNat 2 - 1):=by
    rw[d,F,c,h,mK a,<-h]
   rw[t,PZ a];omega
theorem jr (h:fm T)(g:∀u∈(L T 0),Bb BT KP u)(k:0<=I T 1)(d:I T 1<=140737488355328)(l:0<=I T 2)(e:I T 2<=140737488355328)(p:fy T)(i:fz T)(c:fB T)(j:HZ T (L T 9))(o:¬B T 19=true)(a:BV T JZ)(b:BV T Fb):
  ((L T 9)=DR (L T 0) (I T 2).toNat (I T 7) (BU (L T 9) (I T 2).toNat 2)/\ -12<=BU (L T 9) (I T 2).toNat 2/\BU (L T 9) (I T 2).toNat 2<=48):=by
 grind
abbrev fC(T:Tab):Prop:=(L T 9)=DR (L T 0) (I T 2).toNat (I T 7) (BU (L T 9) (I T 2).toNat 2)/\ -12<=BU (L T 9) (I T 2).toNat 2/\BU (L T 9) (I T 2).toNat 2<=48
theorem oO (V:fz T)(h9:fC T)(Q:Ba T (Bh (Bh (hds 9 [.l]++(Bh (CA 0 JK.ks) JZ)) Fb) YV))(O:Bi T (Hq.map En.be))(P:Bi T ((B5 OT [.l] Sj).map En.be)):
  (OT).owes (Sj.map (Rf.eval T))/\Ba T (hds 24 [.l])/\(JO T (L T 24))/\¬B T 35=true:=by
 refine CK (nh:=24) (k:=1) (pcn:=35) (aF:=40) (b:=Hq) (K:=Y5) (nxt:=[.e 39]) (H:=[.e 9]) (fv:=[2,20]) (A:=[.l]) (by kernel_rfl) rfl rfl rfl rfl Q (by kernel_rfl) (by kernel_rfl) O (B6 P) (fun s=>JO T (aL s 0)) (fun s=>(48 - BU (aL s 0) (I T 2).toNat 2).toNat) ?_ ?_
 .show JO T (L T 9);grind
 .intro J C r t;replace t:JO T (L J 24):=t;clear Q O P;replace r:BV J Hq:=r;have v:=r;clear r;have F:=fvI (C 2 (by decide));have a1:=fvB (C 20 (by decide));clear C
  suffices hz:(B J 29=true-> -100<=I J 31/\I J 31<=100)/\(B J 35=true->(JO T (L J 39)))/\(B J 35=true->(48 - BU (L J 39) (I T 2).toNat 2).toNat < (48 - BU (L J 24) (I T 2).toNat 2).toNat) from
   let⟨r0,nx,mz⟩:=hz;⟨⟨r0,trivial⟩,fun g=>⟨nx g,mz g⟩⟩
  refine⟨?_,?_,?_⟩
  .obtain⟨-,-,-,-,-,j,q,-⟩:=v;simp only[BS,zR,w2P,zL] at j q;grind
  .obtain⟨d,i,-,w,-,j,q,x,E,l,o,-,a,p,c,-⟩:=v;replace x:I J 32=(Dp (I J 31)):=x;simp only[BS,BZ,zR,w2P,zL,zS,uR,zW,zC] at d i w j q E l o a p c;obtain⟨h,v1,v2,W⟩:=t;obtain⟨⟨X,Y⟩,Z,ab⟩:=V;have e:(I T 2).toNat < ((L T 0)).length:=by omega
   intro g;rw[F] at d w j a c;have N:=l.1 (o.1 g).2;have z:=i.1 N.1;have M:=E.1 N.2;have ax:(I J 28)=I T 7:=by rw[w,h];exact SV e
   have a0:=o2' q (by omega);have D:=o2' p (by omega);rw[x,ax,a0,j] at M;have u:(L J 39)=DR (L T 0) (I T 2).toNat (I T 7) (BU (L J 24) (I T 2).toNat 2+1):=by
    rw[c,D,a,h,mK e,<-h]
   have y:BU (L J 39) (I T 2).toNat 2=BU (L J 24) (I T 2).toNat 2+1:=by rw[u];exact PZ e
   refine⟨by rw[y];exact u,by omega,by omega,?_⟩;rw[<-W,y];exact (XH (by rw[d] at z;exact z) M).symm
  .obtain⟨d,i,-,-,-,-,-,-,-,l,o,-,a,p,c,-⟩:=v;simp only[BS,BZ,zR,w2P,zL,zS,uR,zW,zC] at d i l o a p c;obtain⟨h,v1,v2,W⟩:=t;obtain⟨⟨X,Y⟩,Z,ab⟩:=V;have e:(I T 2).toNat < ((L T 0)).length:=by omega
   intro g;rw[F] at d a c;have z:=i.1 (l.1 (o.1 g).2).1;have D:=o2' p (by omega);have u:(L J 39)=DR (L T 0) (I T 2).toNat (I T 7) (BU (L J 24) (I T 2).toNat 2+1):=by
    rw[c,D,a,h,mK e,<-h]
   rw[u,PZ e];omega
theorem vY (ag:fm T)(ad:∀u∈(L T 0),Bb BT KP u)(an:0<=I T 1)(Z:I T 1<=140737488355328)(ao:0<=I T 2)(ab:I T 2<=140737488355328)(P:fy T)(hq:fz T)(X:fB T)(N:HZ T (L T 9))(aw:¬B T 19=true)(Y:fC T)(O:JO T (L T 24))(ax:¬B T 35=true)(b:BV T JZ)(c:BV T Fb)(d:BV T Hq):
  ((L T 24)=(Dq (L T 0) (I T 2).toNat (I T 3))):=by
 have l:=b;clear b;have o:=c;clear c;have p:=d;clear d
 .obtain⟨H,j,J,K,-⟩:=l;obtain⟨q,r,-,e,-,s,t,g,v,w,x,-⟩:=o;obtain⟨y,z,-,h,-,A,C,i,D,E,F,-⟩:=p;replace g:I T 17=(Dp (I T 16)):=g;replace i:I T 32=(Dp (I T 31)):=i;simp only[BS,BZ,zR,EK,w2P,zL] at H j J K q r e s t v w x y z h A C D E F;obtain⟨p1,p2,p3,p4,p5,p6,p7,p8⟩:=P;have k:(I T 2).toNat < ((L T 0)).length:=by omega
  have x5:=o2' j (by omega);have M:(I T 7)=B9 (BU (L T 0) (I T 2).toNat 1) (I T 3):=by
   unfold B9;grind
  obtain⟨Q,v1,v2,V⟩:=N;obtain⟨aI,aS,w2,W⟩:=O;have bb:(I T 13)=I T 7:=by rw[e,Q];exact SV k
  have bc:(I T 28)=I T 7:=by rw[h,aI];exact SV k
  unfold Dq;rw[aI,<-M];congr 1;unfold Cz;have hd:Cg (I T 7) (BU (L T 0) (I T 2).toNat 2)=BU (L T 9) (I T 2).toNat 2:=by
   rw[<-V];refine Sg fun a=>?_;grind
  rw[hd,<-W];refine (XW fun a=>?_).symm;grind
theorem tl:Bl Try.prog 98 JK:=by
 refine B7 (l:=[(69,Lw)]) CP (by simp only[AW];exact⟨ib,fun _ h=>absurd h (by simp)⟩) vD (by kernel_rfl) fun T us H v r g N a=>?_;change us.length=4 at r;obtain⟨⟨q,W⟩,⟨s,o⟩,⟨t,p⟩,-⟩:=N;replace q:(L T 0).length<=140737488355328:=q;have C:∀u∈(L T 0),Bb BT KP u:=fun u X=>by
  obtain⟨i,ab⟩:=Ac.1 X;exact W i u ab
 replace s:0<=I T 1:=s;replace o:I T 1<=140737488355328:=o;replace t:0<=I T 2:=t;replace p:I T 2<=140737488355328:=p;have P:=inL (j:=0) v r (by decide);have ax:=inI (j:=1) v r (by decide);have Q:=inI (j:=2) v r (by decide);have V:=inI (j:=3) v r (by decide);have D:((L T 0)).length=I T 1/\I T 2 < I T 1/\ -100<=I T 3/\I T 3<=100/\ -10000<=BU (L T 0) (I T 2).toNat 1/\BU (L T 0) (I T 2).toNat 1<=10000/\ -12<=BU (L T 0) (I T 2).toNat 2/\BU (L T 0) (I T 2).toNat 2<=48:=by
  have h:=H (.s "moveR.p0",JS) (by simp[JK]);change JS us at h;unfold JS at h;grind
 clear H;rw[AL,AL,AL,AL,AL,AL] at a;obtain⟨d,a⟩:=cutB a;obtain⟨e,a⟩:=cutB a;obtain⟨b,a⟩:=cutB a;obtain⟨x,c⟩:=Be g (by kernel_rfl) d;obtain⟨w,y⟩:=lA q C s o t p D x;obtain⟨ad,k,J,K⟩:=nu w y c b e;have z:=(Be (k.append c) (l:=Fb) (by kernel_rfl) b);obtain⟨E,g⟩:=z;clear d b e c k;obtain⟨d,a⟩:=cutB a;obtain⟨e,a⟩:=cutB a;obtain⟨b,a⟩:=cutB a;obtain⟨A1,c⟩:=Be g (by kernel_rfl) d;have F:=jr q C s o t p D w y J K x E;obtain⟨al,k,Y,Z⟩:=oO w F c b e;have z:=(Be (k.append c) (l:=Hq) (by kernel_rfl) b);obtain⟨M,g⟩:=z;clear d b e c k;obtain⟨A2,O⟩:=B8 (A:=[.l]) (ag:=iG) g (by kernel_rfl) a;have q0:=vY q C s o t p D w y J K F Y Z x E M;refine⟨⟨(fun _=>al),(fun _=>ad),trivial⟩,O.trans ?_⟩;exact (lc (by show U.list (L T 24)= .list (L7 us);unfold L7;rw[P,Q,V];exact BI U.list q0) rfl)
def KQ:List U->List (List U):=fun us=>(FI (aL us 0) (aI us 2).toNat (aI us 3).toNat (aB us 4))
def H9:List U->Prop:=fun us=>((aL us 0)).length=(aI us 1)/\(aI us 2) < (aI us 1)/\(aI us 3) < (aI us 1)/\¬(aI us 2)=(aI us 3)/\ -10000<=BU (aL us 0) (aI us 2).toNat 1/\BU (aL us 0) (aI us 2).toNat 1<=10000/\ -12<=BU (aL us 0) (aI us 2).toNat 2/\BU (aL us 0) (aI us 2).toNat 2<=48
def IN:List U->Prop:=fun us=> -10000<=BU (aL us 0) (aI us 3).toNat 1/\BU (aL us 0) (aI us 3).toNat 1<=10000/\ -12<=BU (aL us 0) (aI us 3).toNat 2/\BU (aL us 0) (aI us 3).toNat 2<=48
def Gb:Bf:={ sh:=[.one (.bool)],blks:=[],outs:=[(.s "countR.0",D1 KQ)],c:= .tup [],m':=[.mrow 5 1 [.str,k64,k64] 23],pre:=[(.s "countR.p0",H9),(.s "countR.p1",IN)],row:=some ([.str,k64,k64],23),ptrs:=2 }
def bB:List En:=[ABJ 5 0 2,
 ABJ 6 0 3,
 ⟨7,.outI "gain.0" Nc,[.e 5,.e 6,.e 4]⟩,
 ⟨8,.outL "moveR.0" L7,[.e 0,.e 1,.e 2,.e 7]⟩,
 ⟨9,.wneg .i64,[.e 7]⟩,
 ⟨10,.outL "moveR.0" L7,[.e 8,.e 1,.e 3,.e 9]⟩]
def Vp:List En:=bB
def qh:List ObE:=[⟨none,.pre "moveR.p0" JS,[.e 8,.e 1,.e 3,.e 9]⟩,
 ⟨none,.pre "moveR.p0" JS,[.e 0,.e 1,.e 2,.e 7]⟩,
 ⟨none,.pre "gain.p0" K8,[.e 5,.e 6,.e 4]⟩]
def cF:List Rf:=[.e 10]
theorem rQ:Gb.sees cF (Gb.run Try.prog [(60,Ls),(98,JK)] Bp 3000 20 58)=some ((Vp).map En.be,qh.map ObE.be,[]):=by kernel_rfl
theorem tH (N:fm T)(M:∀u∈(L T 0),Bb BT KP u)(O:0<=I T 1)(H:I T 1<=140737488355328)(P:0<=I T 2)(J:I T 2<=140737488355328)(Q:0<=I T 3)(K:I T 3<=140737488355328)(j:((L T 0)).length=I T 1/\I T 2 < I T 1/\I T 3 < I T 1/\¬I T 2=I T 3/\ -10000<=BU (L T 0) (I T 2).toNat 1/\BU (L T 0) (I T 2).toNat 1<=10000/\ -12<=BU (L T 0) (I T 2).toNat 2/\BU (L T 0) (I T 2).toNat 2<=48)(x: -10000<=BU (L T 0) (I T 3).toNat 1/\BU (L T 0) (I T 3).toNat 1<=10000/\ -12<=BU (L T 0) (I T 3).toNat 2/\BU (L T 0) (I T 3).toNat 2<=48)(y:BV T Vp):
  ((L T 10)=(FI (L T 0) (I T 2).toNat (I T 3).toNat (B T 4)))/\
  (((L T 8)).length=I T 1/\I T 3 < I T 1/\ -100<=I T 9/\I T 9<=100/\ -10000<=BU (L T 8) (I T 3).toNat 1/\BU (L T 8) (I T 3).toNat 1<=10000/\ -12<=BU (L T 8) (I T 3).toNat 2/\BU (L T 8) (I T 3).toNat 2<=48)/\
  (((L T 0)).length=I T 1/\I T 2 < I T 1/\ -100<=I T 7/\I T 7<=100/\ -10000<=BU (L T 0) (I T 2).toNat 1/\BU (L T 0) (I T 2).toNat 1<=10000/\ -12<=BU (L T 0) (I T 2).toNat 2/\BU (L T 0) (I T 2).toNat 2<=48)/\
  (-10000<=I T 5/\I T 5<=10000/\ -10000<=I T 6/\I T 6<=10000):=by
 have i:=y;clear y;refine⟨?_,?_,?_,?_⟩
 .obtain⟨c,d,b,a,e,l,-⟩:=i;replace b:I T 7=(CJ (I T 5) (I T 6) (B T 4)):=b;replace a:L T 8=(Dq (L T 0) (I T 2).toNat (I T 7)):=a;replace l:L T 10=(Dq (L T 8) (I T 3).toNat (I T 9)):=l;simp only[BS,zR,w2P,wnP,zL] at c d e;obtain⟨o,p,q,r,s,t,v,w⟩:=j;have h:=EH (BU (L T 0) (I T 2).toNat 1) (BU (L T 0) (I T 3).toNat 1) (B T 4);rw[<-c,<-d,<-b] at h;have k:=o2' e.1 (by omega);unfold FI;rw[l,k,a,b,d,c]
 .obtain⟨c,d,b,a,e,-⟩:=i;replace b:I T 7=(CJ (I T 5) (I T 6) (B T 4)):=b;replace a:L T 8=(Dq (L T 0) (I T 2).toNat (I T 7)):=a;simp only[BS,zR,w2P,wnP,zL] at c d e;obtain⟨o,p,q,r,s,t,v,w⟩:=j;obtain⟨C,D,E,F⟩:=x;have h:=EH (I T 5) (I T 6) (B T 4);rw[<-b] at h;have k:=o2' e.1 (by omega);have z:((L T 8)).length=((L T 0)).length:=by rw[a];exact Vd
  have g:((L T 8)).getD (I T 3).toNat []=((L T 0)).getD (I T 3).toNat []:=by rw[a];exact Kp (by omega)
  have A:BU (L T 8) (I T 3).toNat 1=BU (L T 0) (I T 3).toNat 1:=Fv g;have _:=c;have _:=d;have o2:BU (L T 8) (I T 3).toNat 2=BU (L T 0) (I T 3).toNat 2:=Fv g;omega
 .obtain⟨c,d,b,a,e,-⟩:=i;replace b:I T 7=(CJ (I T 5) (I T 6) (B T 4)):=b;replace a:L T 8=(Dq (L T 0) (I T 2).toNat (I T 7)):=a;simp only[BS,zR,w2P,wnP,zL] at c d e;obtain⟨o,p,q,r,s,t,v,w⟩:=j;obtain⟨C,D,E,F⟩:=x;have h:=EH (I T 5) (I T 6) (B T 4);rw[<-b] at h;have k:=o2' e.1 (by omega);have z:((L T 8)).length=((L T 0)).length:=by rw[a];exact Vd
  have g:((L T 8)).getD (I T 3).toNat []=((L T 0)).getD (I T 3).toNat []:=by rw[a];exact Kp (by omega)
  have A:BU (L T 8) (I T 3).toNat 1=BU (L T 0) (I T 3).toNat 1:=Fv g;have _:=c;have _:=d;have o2:BU (L T 8) (I T 3).toNat 2=BU (L T 0) (I T 3).toNat 2:=Fv g;omega
 .obtain⟨c,d,b,a,e,-⟩:=i;replace b:I T 7=(CJ (I T 5) (I T 6) (B T 4)):=b;replace a:L T 8=(Dq (L T 0) (I T 2).toNat (I T 7)):=a;simp only[BS,zR,w2P,wnP,zL] at c d e;obtain⟨o,p,q,r,s,t,v,w⟩:=j;obtain⟨C,D,E,F⟩:=x;have h:=EH (I T 5) (I T 6) (B T 4);rw[<-b] at h;have k:=o2' e.1 (by omega);have z:((L T 8)).length=((L T 0)).length:=by rw[a];exact Vd
  have g:((L T 8)).getD (I T 3).toNat []=((L T 0)).getD (I T 3).toNat []:=by rw[a];exact Kp (by omega)
  have A:BU (L T 8) (I T 3).toNat 1=BU (L T 0) (I T 3).toNat 1:=Fv g;have _:=c;have _:=d;have o2:BU (L T 8) (I T 3).toNat 2=BU (L T 0) (I T 3).toNat 2:=Fv g;omega
theorem Yq:Bl Try.prog 58 Gb:=by
 refine B7 (l:=[(60,Ls),(98,JK)]) CP (by simp only[AW];exact⟨iC,tl,fun _ h=>absurd h (by simp)⟩) rQ (by kernel_rfl) fun T us p b a z w x=>?_;change us.length=5 at a;obtain⟨⟨o,E⟩,⟨q,e⟩,⟨r,g⟩,⟨s,k⟩,-⟩:=w;replace o:(L T 0).length<=140737488355328:=o;have F:∀u∈(L T 0),Bb BT KP u:=fun u H=>by
  obtain⟨i,ab⟩:=Ac.1 H;exact E i u ab
 replace q:0<=I T 1:=q;replace e:I T 1<=140737488355328:=e;replace r:0<=I T 2:=r;replace g:I T 2<=140737488355328:=g;replace s:0<=I T 3:=s;replace k:I T 3<=140737488355328:=k;have c:=inL (j:=0) b a (by decide);have C:=inI (j:=1) b a (by decide);have t:=inI (j:=2) b a (by decide);have d:=inI (j:=3) b a (by decide);have D:=inB (j:=4) b a (by decide);have J:((L T 0)).length=I T 1/\I T 2 < I T 1/\I T 3 < I T 1/\¬I T 2=I T 3/\ -10000<=BU (L T 0) (I T 2).toNat 1/\BU (L T 0) (I T 2).toNat 1<=10000/\ -12<=BU (L T 0) (I T 2).toNat 2/\BU (L T 0) (I T 2).toNat 2<=48:=by
  have h:=p (.s "countR.p0",H9) (by simp[Gb]);change H9 us at h;unfold H9 at h;simp only[c,C,t,d] at h;exact h
 have K: -10000<=BU (L T 0) (I T 3).toNat 1/\BU (L T 0) (I T 3).toNat 1<=10000/\ -12<=BU (L T 0) (I T 3).toNat 2/\BU (L T 0) (I T 3).toNat 2<=48:=by
  have h:=p (.s "countR.p1",IN) (by simp[Gb]);change IN us at h;unfold IN at h;simp only[c,d] at h;exact h
 clear p
 skip
 obtain⟨v,y⟩:=B8 (A:=[.l]) (ag:=cF) z (by kernel_rfl) x;obtain⟨M,N,aB,aJ⟩:=tH o F q e r g s k J K v;refine⟨⟨(fun _=>N),(fun _=>aB),(fun _=>aJ),trivial⟩,y.trans ?_⟩;exact (lc (by show U.list (L T 10)= .list (KQ us);unfold KQ;rw[c,t,d,D];exact BI U.list M) rfl)
def Hl:List U->List (List U):=fun us=>(if Bm (aL us 0) (aS us 2) < 0 then [] else (hsS (aL us 0) (aL us 1) (Bm (aL us 0) (aS us 2))).2)
def He:List U->Int:=fun us=>(if Bm (aL us 0) (aS us 2) < 0 then 5 else 0)
def Ot:List U->Prop:=fun us=>BW (aL us 0)=0/\Bc (aL us 1)=0/\((aL us 1)).length<=40
def HF:Bf:={ sh:=[.one (.list [.str,k64,k64]),.one (.list [k64,k64,k64,.bool,.str,.str,.bool,k64,k64]),.one (.str)],blks:=[],outs:=[(.s "HistV.0",D1 Hl),(.s "HistV.1",CW He)],c:= .tup [.ro 3 [k64],(Cy 4)],m':=[],pre:=[(.s "HistV.p0",Ot)] }
abbrev GW (T:Tab)(a:Int)(b:List (List U)):Prop:=0<=a/\a<=((L T 0)).length/\b=Db (MG ((L T 0))) a.toNat []
abbrev Hr (T:Tab)(a:Int)(b:List (List U)):Prop:=0<=a/\a<=((L T 20)).length/\b=Db (C9 ((L T 12)) ((L T 20))) a.toNat []
abbrev Ja (T:Tab)(a:Int)(b:List (List U))(c:List (List U)):Prop:=0<=a/\a<=((L T 24)).length/\b=(upK (hsP (L T 12) (S T 2) (I T 50)) (L T 24) a.toNat ((L T 0),(L T 54))).1/\c=(upK (hsP (L T 12) (S T 2) (I T 50)) (L T 24) a.toNat ((L T 0),(L T 54))).2
def gV:List En:=[⟨3,.outI "checkPk.0" Ig,[.e 0]⟩,
 ⟨4,.outI "checkLk.0" PS,[.e 1]⟩,
 ⟨5,.id .l,[.c (.list [])]⟩,
 ⟨6,.id .i,[.c (.int 0)]⟩,
 ⟨7,.app,[.e 5,.e 0]⟩,
 ABL 8 7,
 ⟨9,.id .l,[.c (.list [])]⟩,
 ABL 10 0]
def GS:List En:=gV
def fp:List En:=[ABI 13 11 10,
 ABM 14 13,
 ABZ 15 0 11,
 ABJ 16 0 11,
 ABK 17 0 11,
 ⟨18,.mset 1 [.s,.i],[.e 12,.e 15,.e 11]⟩,
 ⟨19,.w2 .i64 .add,[.e 11,.c (.int 1)]⟩]
def Eb:List En:=fp
def YT:List ObE:=[⟨some 13,.fits 1,[.e 12,.c (.list [[]])]⟩,⟨some 13,.inl,[.e 11,.e 0]⟩]
def OI:Bs:=mkD 11 2 Eb 13 [.e 19,.e 18] YT [0,10]
def Rw:List Rf:=[.e 0,.e 10,.c (.int 0),.e 9]
def fb:List En:=[⟨20,.outL "books.0" OG,[.e 1]⟩,
 ABL 21 20,
 ⟨22,.id .l,[.c (.list [])]⟩]
def JI:List En:=fb
def fu:List En:=[ABI 25 23 21,
 ABF 26 14 25,
 ABG 27 14 25,
 ABN 28 20 23,
 ABJ 29 20 23,
 ABK 30 20 23,
 ABQ 31 20 23,
 ABO 32 20 23,
 ABP 33 20 23,
 ABR 34 20 23,
 ABS 35 20 23,
 ABT 36 20 23,
 ⟨37,.mget .i 1 0 [.s],[.e 12,.c (.int 0),.e 32]⟩,
 ⟨38,.mhas 1 [.s],[.e 12,.e 32]⟩,
 ⟨39,.mget .i 1 0 [.s],[.e 12,.c (.int 0),.e 33]⟩,
 ⟨40,.mhas 1 [.s],[.e 12,.e 33]⟩]
def fl:List En:=[ABF 41 26 38,
 ABF 42 38 40,
 ABF 43 26 42,
 ⟨44,.row 1 9 [.i,.i,.i,.b,.s,.s,.b,.i,.i],[.e 28,.e 29,.e 30,.e 31,.e 32,.e 33,.e 34,.e 35,.e 36]⟩,
 ⟨45,.app,[.e 24,.e 44]⟩,
 ABG 46 26 42,
 ABW 47 42 45 24,
 ABW 48 42 45 24,
 ⟨49,.w2 .i64 .add,[.e 23,.c (.int 1)]⟩]
def FW:List En:=fu++(fl)
def YN:List ObE:=[⟨some 43,.fits 88,[.e 24,.e 44]⟩,⟨some 26,.inl,[.e 23,.e 20]⟩]
def OL:Bs:=mkD 23 2 FW 26 [.e 49,.e 48] YN [12,20,14,21]
def SP:List Rf:=[.e 12,.e 20,.e 14,.e 21,.c (.int 0),.e 22]
def fw:List En:=[⟨50,.mget .i 1 0 [.s],[.e 12,.c (.int 0),.e 2]⟩,
 ⟨51,.mhas 1 [.s],[.e 12,.e 2]⟩,
 ABM 52 51,
 ABJ 53 7 50,
 ⟨54,.row 1 1 [.i],[.e 53]⟩,
 ABL 55 24]
def Oj:List En:=fw
def gG:List En:=[ABI 59 56 55,
 ABF 60 51 59,
 ABG 61 51 59,
 ABN 62 24 56,
 ABJ 63 24 56,
 ABK 64 24 56,
 ABQ 65 24 56,
 ABO 66 24 56,
 ABP 67 24 56,
 ABR 68 24 56,
 ABS 69 24 56,
 ABT 70 24 56,
 ⟨71,.mget .i 1 0 [.s],[.e 12,.c (.int 0),.e 66]⟩,
 ⟨72,.mget .i 1 0 [.s],[.e 12,.c (.int 0),.e 67]⟩,
 ⟨73,.outL "countR.0" KQ,[.e 57,.e 8,.e 71,.e 72,.e 68]⟩,
 ⟨74,.eqs [.s],[.e 66,.e 2]⟩]
def fh:List En:=[ABG 75 60 74,
 ⟨76,.eqs [.s],[.e 67,.e 2]⟩,
 ABH 77 74 76,
 ABF 78 60 77,
 ABJ 79 73 50,
 ⟨80,.row 1 1 [.i],[.e 79]⟩,
 ⟨81,.app,[.e 58,.e 80]⟩,
 ABG 82 60 77,
 ABW 83 77 81 58,
 ABW 84 77 81 58,
 ⟨85,.w2 .i64 .add,[.e 56,.c (.int 1)]⟩]
def Hh:List En:=gG++(fh)
def YY:List ObE:=[⟨some 78,.fits 8,[.e 58,.e 80]⟩,⟨some 78,.inr,[.e 50,.e 8]⟩,⟨some 60,.pre "countR.p0" H9,[.e 57,.e 8,.e 71,.e 72,.e 68]⟩,⟨some 60,.pre "countR.p1" IN,[.e 57,.e 8,.e 71,.e 72,.e 68]⟩,⟨some 60,.inr,[.e 72,.e 8]⟩,⟨some 60,.inr,[.e 71,.e 8]⟩,⟨some 60,.inl,[.e 56,.e 24]⟩]
def OJ:Bs:=mkD 56 3 Hh 60 [.e 85,.e 73,.e 83] YY [50,2,8,12,24,51,55]
def SI:List Rf:=[.e 50,.e 2,.e 8,.e 12,.e 24,.e 51,.e 55,.c (.int 0),.e 7,.e 54]
def gE:List En:=[ABW 86 52 7 57,
 ⟨87,.ite .l,[.e 52,.c (.list []),.e 58]⟩,
 ⟨88,.ite .i,[.e 52,.c (.int 5),.c (.int 0)]⟩,
 ABH 89 52 51]
def Yl:List En:=gE
def wI:List ObE:=[⟨some 51,.owes OJ,[.e 50,.e 2,.e 8,.e 12,.e 24,.e 51,.e 55,.c (.int 0),.e 7,.e 54]⟩,
 ⟨some 51,.inr,[.e 50,.e 8]⟩,
 ⟨some 14,.owes OL,[.e 12,.e 20,.e 14,.e 21,.c (.int 0),.e 22]⟩,
 ⟨some 14,.pre "books.p0" Lu,[.e 1]⟩,
 ⟨none,.owes OI,[.e 0,.e 10,.c (.int 0),.e 9]⟩,
 ⟨none,.fits 32,[.e 5,.e 0]⟩,
 ⟨none,.pre "checkLk.p0" LO,[.e 1]⟩,
 ⟨none,.pre "checkPk.p0" G4,[.e 0]⟩]
def gf:List Rf:=[.e 87,.e 88]
theorem vF:HF.sees gf (HF.runC Try.prog Gy [(41,Ea),(47,Hd),(65,FQ),(58,Gb)] NZ 3000 20 39)=some ((GS++((B5 OI [.i,.l] Rw)++(Eb++(JI++((B5 OL [.i,.l] SP)++(FW++(Oj++((B5 OJ [.i,.l,.l] SI)++(Hh++(Yl)))))))))).map En.be,wI.map ObE.be,[]):=by kernel_rfl
abbrev fE(T:Tab):Prop:=(L T 1).length<=140737488355328
abbrev fF(T:Tab):Prop:=(S T 2).size<=140737488355328
abbrev fH(T:Tab):Prop:=BW (L T 0)=0/\Bc (L T 1)=0/\((L T 1)).length<=40
theorem mg (k:fm T)(j:∀u∈(L T 0),Bb BT KP u)(l:fE T)(o:fF T)(i:fH T)(a:BV T GS):
  ((I T 10)=((L T 0)).length)/\((L T 9)=[])/\(((L T 0)).length<=24):=by
 have b:=a;clear a;have g:(I T 10)=((L T 0)).length:=by
  obtain⟨-,-,-,-,-,-,-,c,-⟩:=b;simp only[BS,zR,zL] at c;exact c
 have h:(L T 9)=[]:=by
  obtain⟨-,-,-,-,-,-,d,-⟩:=b;simp only[BS,zR,zL,zS] at d;exact d
 have e:((L T 0)).length<=24:=by
  exact (Nm i.1).2.2
 exact⟨g,h,e⟩
abbrev fR(T:Tab):Prop:=(I T 10)=((L T 0)).length
theorem pv (Q:fH T)(N:fR T)(w:(L T 9)=[])(M:((L T 0)).length<=24)(l:Ba T (Bh (CA 0 HF.ks) GS))(i:Bi T (Eb.map En.be))(j:Bi T ((B5 OI [.i,.l] Rw).map En.be)):
  (OI).owes (Rw.map (Rf.eval T))/\Ba T (hds 11 [.i,.l])/\(GW T (I T 11) (L T 12))/\¬B T 13=true:=by
 refine CK (nh:=11) (k:=2) (pcn:=13) (aF:=20) (b:=Eb) (K:=YT) (nxt:=[.e 19,.e 18]) (H:=[.c (.int 0),.e 9]) (fv:=[0,10]) (A:=[.i,.l]) (by kernel_rfl) rfl rfl rfl rfl l (by kernel_rfl) (by kernel_rfl) i (B6 j) (fun s=>GW T (aI s 0) (aL s 1)) (fun s=>(((L T 0)).length - (aI s 0)).toNat) ?_ ?_
 .show GW T (0:Int) (L T 9);clear l i j;exact⟨by omega,by omega,by rw[show (0:Int).toNat=0 from rfl];exact w⟩
 .intro J o g h;replace h:GW T (I J 11) (L J 12):=h;clear l i j;replace g:BV J Eb:=g;have d:=g;clear g;have u:=fvL (o 0 (by decide));have r:=fvI (o 10 (by decide));clear o
  suffices x:(B J 13=true->(((L J 12)).length+(([[]]:List (List U))).length)*1<=140737488355328)/\(B J 13=true->0<=I J 11/\I J 11 < ((L J 0)).length)/\(B J 13=true->(GW T (I J 19) (L J 18)))/\(B J 13=true->(((L T 0)).length - (I J 19)).toNat < (((L T 0)).length - (I J 11)).toNat) from
   let⟨C,aB,z,y⟩:=x;⟨⟨C,aB,trivial⟩,fun c=>⟨z c,y c⟩⟩
  refine⟨?_,?_,?_,?_⟩
  .obtain⟨a,-⟩:=d;simp only[BS,zR] at a;obtain⟨D,E,t⟩:=h;intro c;rw[r] at a;have v:=a.1 c;have O:=iE (P:=L T 0) (I J 11).toNat;grind
  .obtain⟨a,-⟩:=d;simp only[BS,zR] at a;grind
  .obtain⟨a,-,p,-,-,q,e,-⟩:=d;simp only[BS,zR,w2P,zL,zS,uR,zW,BZ,zC] at a p q e;obtain⟨D,E,t⟩:=h;intro c;rw[r] at a;have v:=a.1 c;have F:=o2' e (by omega);refine⟨by omega,by omega,?_⟩;rw[F,show ((I J 11)+1).toNat=(I J 11).toNat+1 by omega,q,p,t,u];show _=MG _ _ _;unfold MG;grind
  .obtain⟨a,-,-,-,-,-,e,-⟩:=d;simp only[BS,zR,w2P] at a e;grind
theorem lU (K:fm T)(J:∀u∈(L T 0),Bb BT KP u)(M:fE T)(N:fF T)(t:fH T)(y:fR T)(H:(L T 9)=[])(w:((L T 0)).length<=24)(r:GW T (I T 11) (L T 12))(s:¬B T 13=true)(c:BV T GS)(e:BV T Eb)(d:BV T JI):
  ((I T 21)=((L T 20)).length)/\((L T 22)=[])/\((L T 20)=CH ((L T 1)))/\(((L T 20)).length<=40)/\((L T 12)=CE ((L T 0)))/\((B T 14)=true)/\((L T 7)=L T 0):=by
 have p:=c;clear c;have g:=e;clear e;have b:=d;clear d;have D:(I T 21)=((L T 20)).length:=by
  obtain⟨-,j,-⟩:=b;simp only[BS,zR,zL] at j;exact j
 have E:(L T 22)=[]:=by
  obtain⟨-,-,k,-⟩:=b;simp only[BS,zR,zL,zS] at k;exact k
 have C:(L T 20)=CH ((L T 1)):=by
  obtain⟨a,-⟩:=b;replace a:L T 20=(CH (L T 1)):=a;exact a
 have x:((L T 20)).length<=40:=by
  obtain⟨a,-⟩:=b;replace a:L T 20=(CH (L T 1)):=a;rw[a];exact AV Jg t.2.2
 have z:(L T 12)=CE ((L T 0)):=by
  obtain⟨i,-⟩:=g;simp only[BS,zR] at i;obtain⟨P,Q,v⟩:=r;have O:¬I T 11 < I T 10:=fun h=>s (i.2 h);rw[v,show (I T 11).toNat=((L T 0)).length by omega];rfl
 have A:(B T 14)=true:=by
  obtain⟨-,q,-⟩:=g;simp only[BS,BZ,zR] at q;grind
 have F:(L T 7)=L T 0:=by
  obtain⟨-,-,l,-,o,-⟩:=p;simp only[BS,BZ,zR,zL,zS] at l o;rw[o,l];rfl
 grind
abbrev fU(T:Tab):Prop:=(I T 21)=((L T 20)).length
theorem ow (a4:fU T)(ag:(L T 22)=[])(a3:((L T 20)).length<=40)(N:Ba T (Bh (Bh (hds 11 [.i,.l]++(Bh (CA 0 HF.ks) GS)) Eb) JI))(E:Bi T (FW.map En.be))(F:Bi T ((B5 OL [.i,.l] SP).map En.be)):
  (OL).owes (SP.map (Rf.eval T))/\Ba T (hds 23 [.i,.l])/\(Hr T (I T 23) (L T 24))/\¬B T 26=true:=by
 refine CK (nh:=23) (k:=2) (pcn:=26) (aF:=50) (b:=FW) (K:=YN) (nxt:=[.e 49,.e 48]) (H:=[.c (.int 0),.e 22]) (fv:=[12,20,14,21]) (A:=[.i,.l]) (by kernel_rfl) rfl rfl rfl rfl N (by kernel_rfl) (by kernel_rfl) E (B6 F) (fun s=>Hr T (aI s 0) (aL s 1)) (fun s=>(((L T 20)).length - (aI s 0)).toNat) ?_ ?_
 .show Hr T (0:Int) (L T 22);clear N E F;exact⟨by omega,by omega,by rw[show (0:Int).toNat=0 from rfl];exact ag⟩
 .intro J g d r;replace r:Hr T (I J 23) (L J 24):=r;clear N E F;replace d:BV J FW:=d;obtain⟨h,d⟩:=d.cut;have t:=d;clear d;have ab:=fvL (g 12 (by decide));have ad:=fvL (g 20 (by decide));have a2:=fvB (g 14 (by decide));have W:=fvI (g 21 (by decide));clear g
  suffices hz:(B J 43=true->(((L J 24)).length+((L J 44)).length)*88<=140737488355328)/\(B J 26=true->0<=I J 23/\I J 23 < ((L J 20)).length)/\(B J 26=true->(Hr T (I J 49) (L J 48)))/\(B J 26=true->(((L T 20)).length - (I J 49)).toNat < (((L T 20)).length - (I J 23)).toNat) from
   let⟨r0,aB,nx,mz⟩:=hz;⟨⟨r0,aB,trivial⟩,fun e=>⟨nx e,mz e⟩⟩
  refine⟨?_,?_,?_,?_⟩
  .obtain⟨a,c,-⟩:=h;obtain⟨-,-,P,p,-⟩:=t;simp only[BS,BZ,zR,zL,zS,uR,Cp,zW] at a c P p;obtain⟨v1,v2,Z⟩:=r;intro e;have D:=a.1 (c.1 (P.1 e).1).2;rw[W] at D;have hl:=On (M:=L T 12) (B:=L T 20) (I J 23).toNat;grind
  .obtain⟨a,c,-⟩:=h;simp only[BS,BZ,zR] at a c;grind
  .obtain⟨a,c,-,u,v,w,x,i,j,y,z,C,-,l,-,o,-⟩:=h;obtain⟨-,O,-,p,Q,-,-,V,q,-⟩:=t;simp only[BS,BZ,zR,w2P,zL,zS,uR,Cp,zW,zC] at a c u v w x i j y z C l o O p Q V q;obtain⟨v1,v2,Z⟩:=r;intro e;have D:=a.1 (c.1 e).2;rw[W] at D;have a1:=o2' q (by omega);refine⟨by omega,by omega,?_⟩;rw[a1,show ((I J 23)+1).toNat=(I J 23).toNat+1 by omega];refine Eq.trans ?_ (BI (C9 ((L T 12)) ((L T 20)) (I J 23).toNat) Z);unfold C9 MK;rw[ad] at u v w x i j y z C;rw[ab] at l o;rw[i] at l;rw[j] at o;by_cases Y:(B J 42)=true
   .have X:=O.1 Y;rw[V,BH Y,BH ⟨l.1 X.1,o.1 X.2⟩,Q,p,u,v,w,x,i,j,y,z,C];rfl
   .grind
  .obtain⟨a,c,-⟩:=h;obtain⟨-,-,-,-,-,-,-,-,q,-⟩:=t;simp only[BS,BZ,zR,w2P] at a c q;grind
theorem kB (a6:fm T)(a4:∀u∈(L T 0),Bb BT KP u)(a7:fE T)(a8:fF T)(Y:fH T)(al:fR T)(h9:(L T 9)=[])(ad:((L T 0)).length<=24)(a9:GW T (I T 11) (L T 12))(O:¬B T 13=true)(ax:fU T)(H:(L T 22)=[])(aw:(L T 20)=CH ((L T 1)))(ag:((L T 20)).length<=40)(an:(L T 12)=CE ((L T 0)))(ao:(B T 14)=true)(h7:(L T 7)=L T 0)(N:Hr T (I T 23) (L T 24))(P:¬B T 26=true)(d:BV T GS)(i:BV T Eb)(e:BV T JI)(a:BV T FW)(g:BV T Oj):
  ((L T 12)=CE (L T 0)/\L T 7=L T 0/\I T 8=((L T 0)).length/\I T 55=((L T 24)).length)/\((L T 24)=Fg (CE (L T 0)) (CH (L T 1)))/\(DD (L T 0)/\OkR (L T 0)/\((L T 0)).length<=24/\((L T 24)).length<=40/\∀u∈(L T 24),MX (L T 0) u)/\(((B T 51)=true↔Bv (L T 0) (S T 2) < ((L T 0)).length)/\I T 50=Fs (CE (L T 0)) (S T 2)/\((L T 54)).length=1):=by
 have v:=d;clear d;have j:=i;clear i;have w:=e;clear e;obtain⟨x,a⟩:=a.cut;have F4:=a;clear a;have k:=g;clear g;have c:(L T 12)=CE (L T 0)/\L T 7=L T 0/\I T 8=((L T 0)).length/\I T 55=((L T 24)).length:=by
  obtain⟨-,-,A,-,D,E,-,y,-⟩:=v;obtain⟨z,-⟩:=j;obtain⟨-,-,-,-,-,C,-⟩:=k;simp only[BS,BZ,zR,zL,zS] at A D E y z C;grind
 have K:(L T 24)=Fg (CE (L T 0)) (CH (L T 1)):=by
  obtain⟨-,l,-⟩:=j;obtain⟨b,o,-⟩:=w;obtain⟨p,q,-⟩:=x;replace b:L T 20=(CH (L T 1)):=b;simp only[BS,BZ,zR,zL] at l o p q;obtain⟨v1,v2,Z⟩:=N;have F:=l.2 (by simpa using O);have ba:¬I T 23 < I T 21:=fun h=>P (q.2 ⟨F,p.2 h⟩);have H:=o;rw[Z,show (I T 23).toNat=((L T 20)).length by omega,c.1,b];rfl
 have J:DD (L T 0)/\OkR (L T 0)/\((L T 0)).length<=24/\((L T 24)).length<=40/\∀u∈(L T 24),MX (L T 0) u:=by
  obtain⟨W,X,p3⟩:=Y;obtain⟨Q,o2,V⟩:=Nm W;have hl:=On (M:=CE (L T 0)) (B:=CH (L T 1)) (CH (L T 1)).length;have hb:=Jg (L:=L T 1);rw[K];exact⟨o2,Q,V,by unfold Fg;omega,Mo o2 (UN X) _ (AE _)⟩
 have hN:((B T 51)=true↔Bv (L T 0) (S T 2) < ((L T 0)).length)/\I T 50=Fs (CE (L T 0)) (S T 2)/\((L T 54)).length=1:=by
  obtain⟨r,s,-,-,t,-⟩:=k;simp only[BS,BZ,zR,zL,zS,uR,Cp,zW,zC] at r s t;refine⟨?_,?_,?_⟩
  .refine Iff.trans ?_ (GB J.1);rw[s,c.1];exact Iff.rfl
  .rw[r,c.1];rfl
  .rw[t];rfl
 grind
abbrev fW(T:Tab):Prop:=(L T 12)=CE (L T 0)/\L T 7=L T 0/\I T 8=((L T 0)).length/\I T 55=((L T 24)).length
abbrev fZ(T:Tab):Prop:=DD (L T 0)/\OkR (L T 0)/\((L T 0)).length<=24/\((L T 24)).length<=40/\∀u∈(L T 24),MX (L T 0) u
abbrev gc(T:Tab):Prop:=((B T 51)=true↔Bv (L T 0) (S T 2) < ((L T 0)).length)/\I T 50=Fs (CE (L T 0)) (S T 2)/\((L T 54)).length=1
theorem pG (O:fW T)(Z:fZ T)(hN:gc T)(hS:Ba T (Bh (Bh (hds 23 [.i,.l]++(Bh (Bh (hds 11 [.i,.l]++(Bh (CA 0 HF.ks) GS)) Eb) JI)) FW) Oj))(hB:Bi T (Hh.map En.be))(hH:Bi T ((B5 OJ [.i,.l,.l] SI).map En.be)):
  (OJ).owes (SI.map (Rf.eval T))/\Ba T (hds 56 [.i,.l,.l])/\(Ja T (I T 56) (L T 57) (L T 58))/\¬B T 60=true:=by
 refine CK (nh:=56) (k:=3) (pcn:=60) (aF:=86) (b:=Hh) (K:=YY) (nxt:=[.e 85,.e 73,.e 83]) (H:=[.c (.int 0),.e 7,.e 54]) (fv:=[50,2,8,12,24,51,55]) (A:=[.i,.l,.l]) (by kernel_rfl) rfl rfl rfl rfl hS (by kernel_rfl) (by kernel_rfl) hB (B6 hH) (fun s=>Ja T (aI s 0) (aL s 1) (aL s 2)) (fun s=>(((L T 24)).length - (aI s 0)).toNat) ?_ ?_
 .show Ja T (0:Int) (L T 7) (L T 54);clear hS hB hH;exact⟨Aw _,by omega,O.2.1,rfl⟩
 .intro J P hF N;replace N:Ja T (I J 56) (L J 57) (L J 58):=N;clear hS hB hH;replace hF:BV J Hh:=hF;obtain⟨F,hF⟩:=hF.cut;have F1:=hF;clear hF;have b1:=fvI (P 50 (by decide));have b6:=fvS (P 2 (by decide));have b8:=fvI (P 8 (by decide));have W:=fvL (P 12 (by decide));have X:=fvL (P 24 (by decide));have b7:=fvB (P 51 (by decide));have Y:=fvI (P 55 (by decide));clear P
  suffices hz:(B J 78=true->(((L J 58)).length+((L J 80)).length)*8<=140737488355328)/\(B J 78=true->0<=I J 50/\I J 50 < I J 8)/\(B J 60=true->((L J 57)).length=I J 8/\I J 71 < I J 8/\I J 72 < I J 8/\¬I J 71=I J 72/\ -10000<=BU (L J 57) (I J 71).toNat 1/\BU (L J 57) (I J 71).toNat 1<=10000/\ -12<=BU (L J 57) (I J 71).toNat 2/\BU (L J 57) (I J 71).toNat 2<=48)/\(B J 60=true-> -10000<=BU (L J 57) (I J 72).toNat 1/\BU (L J 57) (I J 72).toNat 1<=10000/\ -12<=BU (L J 57) (I J 72).toNat 2/\BU (L J 57) (I J 72).toNat 2<=48)/\(B J 60=true->0<=I J 72/\I J 72 < I J 8)/\(B J 60=true->0<=I J 71/\I J 71 < I J 8)/\(B J 60=true->0<=I J 56/\I J 56 < ((L J 24)).length)/\(B J 60=true->(Ja T (I J 85) (L J 73) (L J 83)))/\(B J 60=true->(((L T 24)).length - (I J 85)).toNat < (((L T 24)).length - (I J 56)).toNat) from
   let⟨r0,aB,aJ,r3,r4,r5,r6,w,mz⟩:=hz;⟨⟨r0,aB,aJ,r3,r4,r5,r6,trivial⟩,fun v=>⟨w v,mz v⟩⟩
  refine⟨?_,?_,?_,?_,?_,?_,?_,?_,?_⟩
  .obtain⟨o,j,-,-,-,-,-,g,h,l,-,-,c,d,-⟩:=F;obtain⟨-,-,-,ao,-,bl,-⟩:=F1;simp only[BS,BZ,zR,zL,zS,uR,Cp,zW,zC] at o j g h l c d ao bl;obtain⟨v1,v2,D,v4⟩:=N;obtain⟨y1,y2,y3⟩:=hN;obtain⟨au,V,m3,m4⟩:=O;obtain⟨t,aw,g3,g4,y⟩:=Z;have u:(L J 57)=upK (ctU (L T 12)) (L T 24) (I J 56).toNat (L T 0):=by rw[D,OP]
   have C:nmL ((L J 57))=nmL ((L T 0)):=by rw[u];exact IF _
   have q3:((L J 57)).length=((L T 0)).length:=DG C;have Q:OkR ((L J 57)):=by rw[u];exact GK aw _
   intro v;have z:=(o.1 (j.1 (ao.1 v).1).2);rw[Y] at z;rw[X] at g h l;rw[W,au] at c d;have a:=y (((L T 24)).getD (I J 56).toNat []) (by rw[Dd (by omega)];exact yM _);have p:(S J 66)=uS (((L T 24)).getD (I J 56).toNat []) 4:=g;have r:(S J 67)=uS (((L T 24)).getD (I J 56).toNat []) 5:=h;have al:(I J 71)=Bv (L T 0) (S J 66):=Eq.trans c (CO t (by rw[p];exact a.1));have ax:(I J 72)=Bv (L T 0) (S J 67):=Eq.trans d (CO t (by rw[r];exact a.2.1));have x:=a.1;have w:=a.2.1;rw[<-p] at x;rw[<-r] at w;have ne:¬Bv (L T 0) (S J 66)=Bv (L T 0) (S J 67):=FD x w (by rw[p,r];exact a.2.2);have hl:=iT (M:=L T 12) (G:=L T 24) (f:=S T 2) (i:=I T 50) (q:=((L T 0),(L T 54))) (I J 56).toNat;grind
  .obtain⟨o,j,-,-,-,-,-,g,h,l,-,-,c,d,-⟩:=F;obtain⟨-,-,-,ao,-⟩:=F1;simp only[BS,BZ,zR,zL,uR,zW,zC,zS] at o j g h l c d ao;obtain⟨v1,v2,D,v4⟩:=N;obtain⟨y1,y2,y3⟩:=hN;obtain⟨au,V,m3,m4⟩:=O;obtain⟨t,aw,g3,g4,y⟩:=Z;have u:(L J 57)=upK (ctU (L T 12)) (L T 24) (I J 56).toNat (L T 0):=by rw[D,OP]
   have C:nmL ((L J 57))=nmL ((L T 0)):=by rw[u];exact IF _
   have q3:((L J 57)).length=((L T 0)).length:=DG C;have Q:OkR ((L J 57)):=by rw[u];exact GK aw _
   intro v;have z:=(o.1 (j.1 (ao.1 v).1).2);rw[Y] at z;rw[X] at g h l;rw[W,au] at c d;have a:=y (((L T 24)).getD (I J 56).toNat []) (by rw[Dd (by omega)];exact yM _);have p:(S J 66)=uS (((L T 24)).getD (I J 56).toNat []) 4:=g;have r:(S J 67)=uS (((L T 24)).getD (I J 56).toNat []) 5:=h;have al:(I J 71)=Bv (L T 0) (S J 66):=Eq.trans c (CO t (by rw[p];exact a.1));have ax:(I J 72)=Bv (L T 0) (S J 67):=Eq.trans d (CO t (by rw[r];exact a.2.1));have x:=a.1;have w:=a.2.1;rw[<-p] at x;rw[<-r] at w;have ne:¬Bv (L T 0) (S J 66)=Bv (L T 0) (S J 67):=FD x w (by rw[p,r];exact a.2.2);have b2:=(j.1 (ao.1 v).1).1;rw[b7] at b2;have k:=y1.1 b2;have E:=y2.trans (CO t k);rw[b8,b1];omega
  .obtain⟨o,j,-,-,-,-,-,g,h,l,-,-,c,d,-⟩:=F;simp only[BS,BZ,zR,zL,uR,zW,zC,zS] at o j g h l c d;obtain⟨v1,v2,D,v4⟩:=N;obtain⟨y1,y2,y3⟩:=hN;obtain⟨au,V,m3,m4⟩:=O;obtain⟨t,aw,g3,g4,y⟩:=Z;have u:(L J 57)=upK (ctU (L T 12)) (L T 24) (I J 56).toNat (L T 0):=by rw[D,OP]
   have C:nmL ((L J 57))=nmL ((L T 0)):=by rw[u];exact IF _
   have q3:((L J 57)).length=((L T 0)).length:=DG C;have Q:OkR ((L J 57)):=by rw[u];exact GK aw _
   intro v;have z:=(o.1 (j.1 v).2);rw[Y] at z;rw[X] at g h l;rw[W,au] at c d;have a:=y (((L T 24)).getD (I J 56).toNat []) (by rw[Dd (by omega)];exact yM _);have p:(S J 66)=uS (((L T 24)).getD (I J 56).toNat []) 4:=g;have r:(S J 67)=uS (((L T 24)).getD (I J 56).toNat []) 5:=h;have al:(I J 71)=Bv (L T 0) (S J 66):=Eq.trans c (CO t (by rw[p];exact a.1));have ax:(I J 72)=Bv (L T 0) (S J 67):=Eq.trans d (CO t (by rw[r];exact a.2.1));have x:=a.1;have w:=a.2.1;rw[<-p] at x;rw[<-r] at w;have ne:¬Bv (L T 0) (S J 66)=Bv (L T 0) (S J 67):=FD x w (by rw[p,r];exact a.2.2);have:=Q (I J 71).toNat (by omega);omega
  .obtain⟨o,j,-,-,-,-,-,g,h,l,-,-,c,d,-⟩:=F;simp only[BS,BZ,zR,zL,uR,zW,zC,zS] at o j g h l c d;obtain⟨v1,v2,D,v4⟩:=N;obtain⟨y1,y2,y3⟩:=hN;obtain⟨au,V,m3,m4⟩:=O;obtain⟨t,aw,g3,g4,y⟩:=Z;have u:(L J 57)=upK (ctU (L T 12)) (L T 24) (I J 56).toNat (L T 0):=by rw[D,OP]
   have C:nmL ((L J 57))=nmL ((L T 0)):=by rw[u];exact IF _
   have q3:((L J 57)).length=((L T 0)).length:=DG C;have Q:OkR ((L J 57)):=by rw[u];exact GK aw _
   intro v;have z:=(o.1 (j.1 v).2);rw[Y] at z;rw[X] at g h l;rw[W,au] at c d;have a:=y (((L T 24)).getD (I J 56).toNat []) (by rw[Dd (by omega)];exact yM _);have p:(S J 66)=uS (((L T 24)).getD (I J 56).toNat []) 4:=g;have r:(S J 67)=uS (((L T 24)).getD (I J 56).toNat []) 5:=h;have al:(I J 71)=Bv (L T 0) (S J 66):=Eq.trans c (CO t (by rw[p];exact a.1));have ax:(I J 72)=Bv (L T 0) (S J 67):=Eq.trans d (CO t (by rw[r];exact a.2.1));have x:=a.1;have w:=a.2.1;rw[<-p] at x;rw[<-r] at w;have ne:¬Bv (L T 0) (S J 66)=Bv (L T 0) (S J 67):=FD x w (by rw[p,r];exact a.2.2);have:=Q (I J 72).toNat (by omega);exact this
  .obtain⟨o,j,-,-,-,-,-,g,h,l,-,-,c,d,-⟩:=F;simp only[BS,BZ,zR,zL,uR,zW,zC,zS] at o j g h l c d;obtain⟨v1,v2,D,v4⟩:=N;obtain⟨y1,y2,y3⟩:=hN;obtain⟨au,V,m3,m4⟩:=O;obtain⟨t,aw,g3,g4,y⟩:=Z;have u:(L J 57)=upK (ctU (L T 12)) (L T 24) (I J 56).toNat (L T 0):=by rw[D,OP]
   have C:nmL ((L J 57))=nmL ((L T 0)):=by rw[u];exact IF _
   have q3:((L J 57)).length=((L T 0)).length:=DG C;have Q:OkR ((L J 57)):=by rw[u];exact GK aw _
   intro v;have z:=(o.1 (j.1 v).2);rw[Y] at z;rw[X] at g h l;rw[W,au] at c d;have a:=y (((L T 24)).getD (I J 56).toNat []) (by rw[Dd (by omega)];exact yM _);have p:(S J 66)=uS (((L T 24)).getD (I J 56).toNat []) 4:=g;have r:(S J 67)=uS (((L T 24)).getD (I J 56).toNat []) 5:=h;have al:(I J 71)=Bv (L T 0) (S J 66):=Eq.trans c (CO t (by rw[p];exact a.1));have ax:(I J 72)=Bv (L T 0) (S J 67):=Eq.trans d (CO t (by rw[r];exact a.2.1));have x:=a.1;have w:=a.2.1;grind
  .obtain⟨o,j,-,-,-,-,-,g,h,l,-,-,c,d,-⟩:=F;simp only[BS,BZ,zR,zL,uR,zW,zC,zS] at o j g h l c d;obtain⟨v1,v2,D,v4⟩:=N;obtain⟨y1,y2,y3⟩:=hN;obtain⟨au,V,m3,m4⟩:=O;obtain⟨t,aw,g3,g4,y⟩:=Z;have u:(L J 57)=upK (ctU (L T 12)) (L T 24) (I J 56).toNat (L T 0):=by rw[D,OP]
   have C:nmL ((L J 57))=nmL ((L T 0)):=by rw[u];exact IF _
   have q3:((L J 57)).length=((L T 0)).length:=DG C;have Q:OkR ((L J 57)):=by rw[u];exact GK aw _
   intro v;have z:=(o.1 (j.1 v).2);rw[Y] at z;rw[X] at g h l;rw[W,au] at c d;have a:=y (((L T 24)).getD (I J 56).toNat []) (by rw[Dd (by omega)];exact yM _);have p:(S J 66)=uS (((L T 24)).getD (I J 56).toNat []) 4:=g;have r:(S J 67)=uS (((L T 24)).getD (I J 56).toNat []) 5:=h;have al:(I J 71)=Bv (L T 0) (S J 66):=Eq.trans c (CO t (by rw[p];exact a.1));have ax:(I J 72)=Bv (L T 0) (S J 67):=Eq.trans d (CO t (by rw[r];exact a.2.1));have x:=a.1;grind
  .obtain⟨o,j,-,-,-,-,-,g,h,l,-,-,c,d,-⟩:=F;simp only[BS,BZ,zR,zL,uR,zW,zC,zS] at o j g h l c d;grind
  .obtain⟨o,j,-,-,-,-,-,g,h,l,-,-,c,d,bi,bt,-⟩:=F;obtain⟨-,bx,b3,-,b0,bl,b4,-,b5,-,bb,-⟩:=F1;replace bi:L J 73=(FI (L J 57) (I J 71).toNat (I J 72).toNat (B J 68)):=bi;simp only[BS,BZ,zR,Dw,and_true,w2P,zL,zS,uR,Cp,zW,zC] at o j g h l c d bt bx b3 b0 bl b4 b5 bb;obtain⟨v1,v2,D,v4⟩:=N;obtain⟨y1,y2,y3⟩:=hN;obtain⟨au,V,m3,m4⟩:=O;obtain⟨t,aw,g3,g4,y⟩:=Z;have u:(L J 57)=upK (ctU (L T 12)) (L T 24) (I J 56).toNat (L T 0):=by rw[D,OP]
   have C:nmL ((L J 57))=nmL ((L T 0)):=by rw[u];exact IF _
   have q3:((L J 57)).length=((L T 0)).length:=DG C;have Q:OkR ((L J 57)):=by rw[u];exact GK aw _
   intro v;have z:=(o.1 (j.1 v).2);rw[Y] at z;rw[X] at g h l;rw[W,au] at c d;have a:=y (((L T 24)).getD (I J 56).toNat []) (by rw[Dd (by omega)];exact yM _);have p:(S J 66)=uS (((L T 24)).getD (I J 56).toNat []) 4:=g;have r:(S J 67)=uS (((L T 24)).getD (I J 56).toNat []) 5:=h;have al:(I J 71)=Bv (L T 0) (S J 66):=Eq.trans c (CO t (by rw[p];exact a.1));have ax:(I J 72)=Bv (L T 0) (S J 67):=Eq.trans d (CO t (by rw[r];exact a.2.1));have x:=a.1;have w:=a.2.1;rw[<-p] at x;rw[<-r] at w;have ne:¬Bv (L T 0) (S J 66)=Bv (L T 0) (S J 67):=FD x w (by rw[p,r];exact a.2.2);have xn:=o2' bb (by omega);rw[b1] at b0;rw[b6] at bt bx;have hc:(L J 73)=ctU (L T 12) (L J 57) (((L T 24)).getD (I J 56).toNat []):=by
    rw[bi,c,d,p,r,l,au];rfl
   have cs:hsP (L T 12) (S T 2) (I T 50) ((L J 57),(L J 58)) (((L T 24)).getD (I J 56).toNat [])=((L J 73),(L J 83)):=by
    refine Prod.ext hc.symm ?_;show (if uS (((L T 24)).getD (I J 56).toNat []) 4=S T 2\/uS (((L T 24)).getD (I J 56).toNat []) 5=(S T 2) then (L J 58)++[[.int (BU (ctU (L T 12) (L J 57) (((L T 24)).getD (I J 56).toNat [])) (I T 50).toNat 1)]] else (L J 58))=L J 83;grind
   have e:upK (hsP (L T 12) (S T 2) (I T 50)) (L T 24) (I J 85).toNat ((L T 0),(L T 54))=((L J 73),(L J 83)):=by
    rw[xn,show ((I J 56)+1).toNat=(I J 56).toNat+1 by omega];show hsP (L T 12) (S T 2) (I T 50) (upK (hsP (L T 12) (S T 2) (I T 50)) (L T 24) (I J 56).toNat ((L T 0),(L T 54))) _=_;grind
   grind
  .obtain⟨o,j,-,-,-,-,-,g,h,l,-,-,c,d,-⟩:=F;obtain⟨-,-,-,-,-,-,-,-,-,-,bb,-⟩:=F1;simp only[BS,BZ,zR,w2P,zL,uR,zW,zC,zS] at o j g h l c d bb;grind
theorem vz (bt:fm T)(bs:∀u∈(L T 0),Bb BT KP u)(bx:fE T)(b0:fF T)(o:fH T)(a9:fR T)(h9:(L T 9)=[])(a7:((L T 0)).length<=24)(b1:GW T (I T 11) (L T 12))(b4:¬B T 13=true)(bi:fU T)(bl:(L T 22)=[])(bc:(L T 20)=CH ((L T 1)))(a8:((L T 20)).length<=40)(ba:(L T 12)=CE ((L T 0)))(bb:(B T 14)=true)(h7:(L T 7)=L T 0)(b2:Hr T (I T 23) (L T 24))(b5:¬B T 26=true)(l:fW T)(hX:(L T 24)=Fg (CE (L T 0)) (CH (L T 1)))(j:fZ T)(i:gc T)(J:Ja T (I T 56) (L T 57) (L T 58))(an:¬B T 60=true)(q:BV T GS)(v:BV T Eb)(r:BV T JI)(e:BV T FW)(s:BV T Oj)(g:BV T Hh)(t:BV T Yl):
  ((L T 87)=(if Bm (L T 0) (S T 2) < 0 then [] else (hsS (L T 0) (L T 1) (Bm (L T 0) (S T 2))).2))/\
  ((I T 88)=(if Bm (L T 0) (S T 2) < 0 then 5 else 0))/\
  (B T 51=true->0<=I T 50/\I T 50 < I T 8)/\
  (B T 14=true->((L T 1)).length<=40)/\
  ((((L T 5)).length+((L T 0)).length)*32<=140737488355328)/\
  (Bc (L T 1)=0)/\
  (BW (L T 0)=0):=by
 have N:=q;clear q;have F1:=v;clear v;have F2:=r;clear r;obtain⟨F3,e⟩:=e.cut;have F4:=e;clear e;have w:=s;clear s;obtain⟨O,g⟩:=g.cut;have F7:=g;clear g;have x:=t;clear t;refine⟨?_,?_,?_,?_,?_,?_,?_⟩
 .obtain⟨-,-,c,y,z,-⟩:=w;obtain⟨A,C,-⟩:=O;obtain⟨-,D,-⟩:=x;simp only[BS,BZ,zR,zL,zS,uR,Cp,zW] at c y z A C D;obtain⟨v1,v2,v3,M⟩:=J;obtain⟨au,V,m3,m4⟩:=l;obtain⟨F,aw,W,X,Y⟩:=j;obtain⟨d,p,y3⟩:=i;have K:(B T 52)=true↔Bm (L T 0) (S T 2) < 0:=by
   rw[c];constructor
   .intro h;have b:¬B T 51=true:=by simpa using h
    exact At fun a=>b (d.2 (FE.1 a))
   .intro h;have b:¬B T 51=true:=fun a=>(FE.2 (d.1 a)) h;simpa using b
  rw[D];by_cases h:(B T 52)=true
  .grind
  .have H:=fun a=>h (K.2 a);have b:(B T 51)=true:=At fun a=>h (c.2 (by simpa using a));have hn:=FE.1 H;rw[BG h,BG H];have b3:¬I T 56 < I T 55:=fun a=>an (C.2 ⟨b,A.2 a⟩);have Z:(L T 54)=[[.int (BU (L T 0) (Fs (CE (L T 0)) (S T 2)).toNat 1)]]:=by rw[z,y,V,p]
   rw[M,show (I T 56).toNat=((L T 24)).length by omega,Z,p,au,hX];exact pz F hn
 .obtain⟨-,-,c,-⟩:=w;obtain⟨-,-,Q,-⟩:=x;simp only[BS,BZ,zR,zL,zS] at c Q;obtain⟨v1,v2,v3,M⟩:=J;obtain⟨au,V,m3,m4⟩:=l;obtain⟨F,aw,W,X,Y⟩:=j;obtain⟨d,p,y3⟩:=i;have K:(B T 52)=true↔Bm (L T 0) (S T 2) < 0:=by
   rw[c];constructor
   .intro h;have b:¬B T 51=true:=by simpa using h
    exact At fun a=>b (d.2 (FE.1 a))
   .intro h;have b:¬B T 51=true:=fun a=>(FE.2 (d.1 a)) h;simpa using b
  grind
 .intro h;have k:=(i.1).1 h;have E:=i.2.1.trans (CO j.1 k);have:=l.2.2.1;omega
 .intro h;exact o.2.2
 .obtain⟨-,-,P,-⟩:=N;simp only[BS,zR,zL,zS] at P;grind
 .exact o.2.1
 .exact o.1
theorem re:Bl Try.prog 39 HF:=by
 refine GX FU (l:=[(41,Ea),(47,Hd),(65,FQ),(58,Gb)]) CP (by simp only[AW];exact⟨Jk,RF,U8,Yq,fun _ h=>absurd h (by simp)⟩) vF (by kernel_rfl) fun T us an J z k a1 a=>?_;change us.length=3 at z;obtain⟨⟨o,a5⟩,⟨p,bs⟩,q,-⟩:=a1;replace o:(L T 0).length<=140737488355328:=o;have y:∀u∈(L T 0),Bb BT KP u:=fun u hu=>by
  obtain⟨i,ab⟩:=Ac.1 hu;exact a5 i u ab
 replace p:(L T 1).length<=140737488355328:=p;replace q:(S T 2).size<=140737488355328:=q;have ad:=inL (j:=0) J z (by decide);have a4:=inL (j:=1) J z (by decide);have al:=inS (j:=2) J z (by decide);have s:BW (L T 0)=0/\Bc (L T 1)=0/\((L T 1)).length<=40:=by
  have h:=an (.s "HistV.p0",Ot) (by simp[HF]);change Ot us at h;unfold Ot at h;grind
 clear an;rw[AL,AL,AL,AL,AL,AL,AL,AL,AL] at a;obtain⟨d,a⟩:=cutB a;obtain⟨e,a⟩:=cutB a;obtain⟨b,a⟩:=cutB a;obtain⟨t,c⟩:=Be k (by kernel_rfl) d;obtain⟨w,x,v⟩:=mg o y p q s t;obtain⟨a9,g,K,M⟩:=pv s w x v c b e;have r:=(Be (g.append c) (l:=Eb) (by kernel_rfl) b);obtain⟨D,k⟩:=r;clear d b e c g;obtain⟨d,a⟩:=cutB a;obtain⟨e,a⟩:=cutB a;obtain⟨b,a⟩:=cutB a;obtain⟨C,c⟩:=Be k (by kernel_rfl) d;obtain⟨F,H,V,E,P,Q,W⟩:=lU o y p q s w x v K M t D C;obtain⟨ba,g,ao,aw⟩:=ow F H E c b e;have r:=(Be (g.append c) (l:=FW) (by kernel_rfl) b);obtain⟨O,k⟩:=r;clear d b e c g;obtain⟨d,a⟩:=cutB a;obtain⟨e,a⟩:=cutB a;obtain⟨b,a⟩:=cutB a;obtain⟨N,c⟩:=Be k (by kernel_rfl) d;obtain⟨Y,hX,X,Z⟩:=kB o y p q s w x v K M F H V E P Q W ao aw t D C O N;obtain⟨bb,g,a7,a8⟩:=pG Y X Z c b e;have r:=(Be (g.append c) (l:=Hh) (by kernel_rfl) b);obtain⟨B2,k⟩:=r;clear d b e c g;obtain⟨A3,hO⟩:=B8 (A:=[.l,.i]) (ag:=gf) k (by kernel_rfl) a;obtain⟨q0,q1,r0,aB,aJ,r3,r4⟩:=vz o y p q s w x v K M F H V E P Q W ao aw Y hX X Z a7 a8 t D C O N B2 A3;refine⟨⟨(fun _=>bb),r0,(fun _=>ba),aB,(fun _=>a9),(fun _=>aJ),(fun _=>r3),(fun _=>r4),trivial⟩,hO.trans ?_⟩;exact (lc (by show U.list (L T 87)= .list (Hl us);unfold Hl;rw[ad,a4,al];exact BI U.list q0) (lc (by show U.int (I T 88)= .int (He us);unfold He;rw[ad,al];exact BI U.int q1) rfl))
end
section
open Go Go.Eng Go.Proofs
set_option maxRecDepth 100000
def PF:List U->Int:=fun us=>(BW (aL us 0))
def Oz:List U->Prop:=fun us=>¬BW (aL us 0)=0
def Lg:Bf:={ sh:=[.one (.list [.str,k64,k64])],blks:=[],outs:=[(.s "checkPn.0",CW PF)],c:= .i .i64 1 100 1,m':=[],pre:=[(.s "checkPn.p0",Oz)] }
theorem fL {l:List (List U)}(h:¬BW l=0):1<=BW l/\BW l<=100:=by
 unfold BW at h⊢;grind
theorem VR:Bl Try.prog 41 Lg:=eQ SM rfl rfl rfl rfl rfl (fun _=>rfl) rfl rfl fun us b c=>by
 have a:=c _ (Al.2 rfl);replace a:¬BW (aL us 0)=0:=a;have b:us.length=1:=b
 match us,b,a with
 |[u],_,a=>exact⟨⟨_,rfl,fL a⟩,fun q d=>by cases d⟩
end
section
open Go Go.Eng Go.Proofs
set_option maxHeartbeats 4000000
set_option maxRecDepth 100000
def Lo:List U->Int:=fun us=>(BW (aL us 0))
def OD:List U->Prop:=fun us=>¬BW (aL us 0)=0
def PW:Bf:={ sh:=[.one (.list [.str,k64,k64]),.one (.list [k64,k64,k64,.bool,.str,.str,.bool,k64,k64]),.one (.str)],blks:=[],outs:=[(.s "HistP.0",CW Lo)],c:= .tup [.cv .nilSlice,(Cy 3)],m':=[],pre:=[(.s "HistP.p0",OD)] }
def gQ:List En:=[⟨3,.outI "checkPn.0" PF,[.e 0]⟩]
def ZG:List En:=gQ
def vr:List ObE:=[⟨none,.pre "checkPn.p0" Oz,[.e 0]⟩]
def iA:List Rf:=[.e 3]
theorem vp:PW.sees iA (PW.runC Try.prog Gy [(41,Lg)] NZ 3000 20 39)=some ((ZG).map En.be,vr.map ObE.be,[]):=by kernel_rfl
theorem vX {T:Tab}(e:fm T)(g:fE T)(h:fF T)(d:¬BW (L T 0)=0)(b:BV T ZG):
  ((I T 3)=(BW (L T 0)))/\
  (¬BW (L T 0)=0):=by
 have c:=b;clear b;refine⟨?_,?_⟩
 .obtain⟨a,-⟩:=c;replace a:I T 3=(BW (L T 0)):=a;exact a
 .exact d
theorem sR:Bl Try.prog 39 PW:=by
 refine GX FU (l:=[(41,Lg)]) CP (by simp only[AW];exact⟨VR,fun _ h=>absurd h (by simp)⟩) vp (by kernel_rfl) fun T us e r g q k o=>?_;change us.length=3 at g;obtain⟨⟨a,v⟩,⟨b,w⟩,c,-⟩:=k;replace a:(L T 0).length<=140737488355328:=a;replace b:(L T 1).length<=140737488355328:=b;replace c:(S T 2).size<=140737488355328:=c;have d:=inL (j:=0) r g (by decide);have s:¬BW (L T 0)=0:=by
  have h:=e (.s "HistP.p0",OD) (by simp[PW]);change OD us at h;unfold OD at h;simp only[d] at h;exact h
 clear e
 skip
 obtain⟨i,p⟩:=B8 (A:=[.i]) (ag:=iA) q (by kernel_rfl) o;obtain⟨t,u⟩:=vX a b c s i;refine⟨⟨(fun _=>u),trivial⟩,p.trans ?_⟩;exact (lc (by show U.int (I T 3)= .int (Lo us);unfold Lo;rw[d];exact BI U.int t) rfl)
end
section
open Go Go.Eng Go.Proofs
set_option maxRecDepth 100000
def PG:List U->Int:=fun us=>(Bc (aL us 0))
def PK:List U->Prop:=fun us=>¬Bc (aL us 0)=0
def L6:Bf:={ sh:=[.one (.list [k64,k64,k64,.bool,.str,.str,.bool,k64,k64])],blks:=[],outs:=[(.s "checkLn.0",CW PG)],c:= .i .i64 1 100 1,m':=[],pre:=[(.s "checkLn.p0",PK)] }
theorem mJ {l:List (List U)}(h:¬Bc l=0):1<=Bc l/\Bc l<=100:=by
 unfold Bc at h⊢;grind
theorem Wy:Bl Try.prog 47 L6:=eQ YU rfl rfl rfl rfl rfl (fun _=>rfl) rfl rfl fun us b c=>by
 have a:=c _ (Al.2 rfl);replace a:¬Bc (aL us 0)=0:=a;have b:us.length=1:=b
 match us,b,a with
 |[u],_,a=>exact⟨⟨_,rfl,mJ a⟩,fun q d=>by cases d⟩
end
section
open Go Go.Eng Go.Proofs
set_option maxHeartbeats 4000000
set_option maxRecDepth 100000
def Ln:List U->Int:=fun us=>(Bc (aL us 1))
def N9:List U->Prop:=fun us=>BW (aL us 0)=0/\¬Bc (aL us 1)=0
def Pe:Bf:={ sh:=[.one (.list [.str,k64,k64]),.one (.list [k64,k64,k64,.bool,.str,.str,.bool,k64,k64]),.one (.str)],blks:=[],outs:=[(.s "HistL.0",CW Ln)],c:= .tup [.cv .nilSlice,(Cy 3)],m':=[],pre:=[(.s "HistL.p0",N9)] }
def gT:List En:=[⟨3,.outI "checkPk.0" Ig,[.e 0]⟩,
 ⟨4,.outI "checkLn.0" PG,[.e 1]⟩]
def Y6:List En:=gT
def ux:List ObE:=[⟨none,.pre "checkLn.p0" PK,[.e 1]⟩,
 ⟨none,.pre "checkPk.p0" G4,[.e 0]⟩]
def gt:List Rf:=[.e 4]
theorem vg:Pe.sees gt (Pe.runC Try.prog Gy [(41,Ea),(47,L6)] NZ 3000 20 39)=some ((Y6).map En.be,ux.map ObE.be,[]):=by kernel_rfl
theorem ur {T:Tab}(e:fm T)(g:fE T)(h:fF T)(c:BW (L T 0)=0/\¬Bc (L T 1)=0)(b:BV T Y6):
  ((I T 4)=(Bc (L T 1)))/\
  (¬Bc (L T 1)=0)/\
  (BW (L T 0)=0):=by
 have d:=b;clear b;refine⟨?_,?_,?_⟩
 .obtain⟨-,a,-⟩:=d;replace a:I T 4=(Bc (L T 1)):=a;exact a
 .exact c.2
 .exact c.1
theorem rk:Bl Try.prog 39 Pe:=by
 refine GX FU (l:=[(41,Ea),(47,L6)]) CP (by simp only[AW];exact⟨Jk,Wy,fun _ h=>absurd h (by simp)⟩) vg (by kernel_rfl) fun T us i e c r o p=>?_;change us.length=3 at c;obtain⟨⟨a,w⟩,⟨b,x⟩,d,-⟩:=o;replace a:(L T 0).length<=140737488355328:=a;replace b:(L T 1).length<=140737488355328:=b;replace d:(S T 2).size<=140737488355328:=d;have s:=inL (j:=0) e c (by decide);have g:=inL (j:=1) e c (by decide);have t:BW (L T 0)=0/\¬Bc (L T 1)=0:=by
  have h:=i (.s "HistL.p0",N9) (by simp[Pe]);change N9 us at h;unfold N9 at h;simp only[s,g] at h;exact h
 clear i
 skip
 obtain⟨k,q⟩:=B8 (A:=[.i]) (ag:=gt) r (by kernel_rfl) p;obtain⟨u,v,aB⟩:=ur a b d t k;refine⟨⟨(fun _=>v),(fun _=>aB),trivial⟩,q.trans ?_⟩;exact (lc (by show U.int (I T 4)= .int (Ln us);unfold Ln;rw[g];exact BI U.int u) rfl)
end
section
open Go Go.Eng Go.Proofs
set_option maxRecDepth 100000
def Dg:List U->List (List U):=fun us=>(if (if¬BW (aL us 0)=0 then BW (aL us 0) else Bc (aL us 1))=0/\¬Bm (aL us 0) (aS us 2) < 0 then (hsS (aL us 0) (aL us 1) (Bm (aL us 0) (aS us 2))).2 else [])
def Dh:List U->Int:=fun us=>(if (if¬BW (aL us 0)=0 then BW (aL us 0) else Bc (aL us 1))=0 then (if Bm (aL us 0) (aS us 2) < 0 then 5 else 0) else (if¬BW (aL us 0)=0 then BW (aL us 0) else Bc (aL us 1)))
def Th:List U->Prop:=fun us=>((aL us 1)).length<=40\/200 < ((aL us 1)).length
def Oc:Bf:={ sh:=[.one (.list [.str,k64,k64]),.one (.list [k64,k64,k64,.bool,.str,.str,.bool,k64,k64]),.one (.str)],blks:=[],outs:=[(.s "History.0",D1 Dg),(.s "History.1",CW Dh)],c:= .tup [.ro 3 [k64],(Cy 4)],m':=[],pre:=[(.s "History.p0",Th)] }
theorem jt:Bl Try.prog 39 Oc:=WL rfl rfl (fun _=>QA) fun us b h=>by
 replace b:us.length=3:=b;have C:(aL us 1).length<=40\/200 < (aL us 1).length:=h _ (Al.2 rfl);by_cases c:BW (aL us 0)=0
 .by_cases j:Bc (aL us 1)=0
  .have A:(aL us 1).length<=40:=by have:=Mp j;omega
   have i:(if¬BW (aL us 0)=0 then BW (aL us 0) else Bc (aL us 1))=0:=by rw[c,j];rfl
   have q:Dg us=Hl us:=by
    unfold Dg Hl;by_cases d:Bm (aL us 0) (aS us 2) < 0
    .rw[BH d,BG (fun a=>a.2 d)]
    .rw[BG d,BH ⟨i,d⟩]
   have r:Dh us=He us:=by unfold Dh He;rw[BH i]
   refine⟨HF,⟨re,fun p h=>by rw[Al.1 h];exact⟨c,j,A⟩,rfl,rfl,rfl,rfl,fun T az W w v d g s t=>dP d (fun x y=>?_) t⟩⟩;have z:Oc.us us=HF.us us:=by
    show us++[U.list (Dg us),U.int (Dh us)]=us++[U.list (Hl us),U.int (He us)];rw[q,r]
   have y:x < (HF.us us).length:=by
    show x < (us++[U.list (Hl us),U.int (He us)]).length;rw[AP,b];exact y
   have e:=AF y;rw[s x _ e,g x _ (by rw[z];exact e)]
  .have q:Dg us=[]:=by unfold Dg;exact BG (fun a=>j (Q7 a.1).2)
   have r:Dh us=Ln us:=by
    have i:¬(if¬BW (aL us 0)=0 then BW (aL us 0) else Bc (aL us 1))=0:=fun a=>j (Q7 a).2;unfold Dh;rw[BG i,BG (fun k=>k c)];rfl
   refine⟨Pe,⟨rk,fun p h=>by rw[Al.1 h];exact⟨c,j⟩,rfl,rfl,rfl,rfl,fun T az W w v d g s t=>?_⟩⟩;have l:T 3= .list (Dg us):=g 3 _ (by unfold Bf.us;rw[AS (by omega),b];rfl);have o:T 4= .int (Dh us):=g 4 _ (by unfold Bf.us;rw[AS (by omega),b];rfl);have u:az 3= .int (Ln us):=s 3 _ (by unfold Bf.us;rw[AS (by omega),b];rfl);rw[q] at l;rw[r] at o;exact S9 (by decide) (by decide) l (o.trans u.symm) t
 .have q:Dg us=[]:=by unfold Dg;exact BG (fun a=>c (Q7 a.1).1)
  have r:Dh us=Lo us:=by
   have i:¬(if¬BW (aL us 0)=0 then BW (aL us 0) else Bc (aL us 1))=0:=fun a=>c (Q7 a).1;unfold Dh;rw[BG i,BH c];rfl
  refine⟨PW,⟨sR,fun p h=>by rw[Al.1 h];exact c,rfl,rfl,rfl,rfl,fun T az W w v d g s t=>?_⟩⟩;have l:T 3= .list (Dg us):=g 3 _ (by unfold Bf.us;rw[AS (by omega),b];rfl);have o:T 4= .int (Dh us):=g 4 _ (by unfold Bf.us;rw[AS (by omega),b];rfl);have u:az 3= .int (Lo us):=s 3 _ (by unfold Bf.us;rw[AS (by omega),b];rfl);rw[q] at l;rw[r] at o;exact S9 (by decide) (by decide) l (o.trans u.symm) t
end
section
open Go Go.Eng Go.Proofs
set_option maxHeartbeats 4000000
set_option maxRecDepth 100000
def Fr:List U->List (List U):=fun us=>(FP (aL us 0) (aL us 1))
def Fu:List U->Int:=fun us=>((0:Int))
def LS:List U->Prop:=fun us=>BW (aL us 0)=0/\Bc (aL us 1)=0/\((aL us 1)).length<=40
def E0:Bf:={ sh:=[.one (.list [.str,k64,k64]),.one (.list [k64,k64,k64,.bool,.str,.str,.bool,k64,k64])],blks:=[],outs:=[(.s "SettleV.0",D1 Fr),(.s "SettleV.1",CW Fu)],c:= .tup [.ro 2 [.str,k64,k64],(Cy 3)],m':=[],pre:=[(.s "SettleV.p0",LS)] }
abbrev E3 (T:Tab)(a:Int)(b:List (List U)):Prop:=0<=a/\a<=((L T 0)).length/\b=Db (MG ((L T 0))) a.toNat []
abbrev Fm (T:Tab)(a:Int)(b:List (List U)):Prop:=0<=a/\a<=((L T 19)).length/\b=Db (C9 ((L T 11)) ((L T 19))) a.toNat []
abbrev HE (T:Tab)(a:Int)(b:List (List U)):Prop:=0<=a/\a<=((L T 23)).length/\b=upK (ctU (L T 11)) (L T 23) a.toNat (L T 0)
def ZO:List En:=[⟨2,.outI "checkPk.0" Ig,[.e 0]⟩,
 ⟨3,.outI "checkLk.0" PS,[.e 1]⟩,
 ⟨4,.id .l,[.c (.list [])]⟩,
 ⟨5,.id .i,[.c (.int 0)]⟩,
 ⟨6,.app,[.e 4,.e 0]⟩,
 ABL 7 6,
 ⟨8,.id .l,[.c (.list [])]⟩,
 ABL 9 0]
def E1:List En:=ZO
def Zi:List En:=[ABI 12 10 9,
 ABM 13 12,
 ABZ 14 0 10,
 ABJ 15 0 10,
 ABK 16 0 10,
 ⟨17,.mset 1 [.s,.i],[.e 11,.e 14,.e 10]⟩,
 ⟨18,.w2 .i64 .add,[.e 10,.c (.int 1)]⟩]
def De:List En:=Zi
def Tv:List ObE:=[⟨some 12,.fits 1,[.e 11,.c (.list [[]])]⟩,⟨some 12,.inl,[.e 10,.e 0]⟩]
def LA:Bs:=mkD 10 2 De 12 [.e 18,.e 17] Tv [0,9]
def Ox:List Rf:=[.e 0,.e 9,.c (.int 0),.e 8]
def ZT:List En:=[⟨19,.outL "books.0" OG,[.e 1]⟩,
 ABL 20 19,
 ⟨21,.id .l,[.c (.list [])]⟩]
def HC:List En:=ZT
def ZK:List En:=[ABI 24 22 20,
 ABF 25 13 24,
 ABG 26 13 24,
 ABN 27 19 22,
 ABJ 28 19 22,
 ABK 29 19 22,
 ABQ 30 19 22,
 ABO 31 19 22,
 ABP 32 19 22,
 ABR 33 19 22,
 ABS 34 19 22,
 ABT 35 19 22,
 ⟨36,.mget .i 1 0 [.s],[.e 11,.c (.int 0),.e 31]⟩,
 ⟨37,.mhas 1 [.s],[.e 11,.e 31]⟩,
 ⟨38,.mget .i 1 0 [.s],[.e 11,.c (.int 0),.e 32]⟩,
 ⟨39,.mhas 1 [.s],[.e 11,.e 32]⟩]
def Zf:List En:=[ABF 40 25 37,
 ABF 41 37 39,
 ABF 42 25 41,
 ⟨43,.row 1 9 [.i,.i,.i,.b,.s,.s,.b,.i,.i],[.e 27,.e 28,.e 29,.e 30,.e 31,.e 32,.e 33,.e 34,.e 35]⟩,
 ⟨44,.app,[.e 23,.e 43]⟩,
 ABG 45 25 41,
 ABW 46 41 44 23,
 ABW 47 41 44 23,
 ⟨48,.w2 .i64 .add,[.e 22,.c (.int 1)]⟩]
def EP:List En:=ZK++(Zf)
def Ta:List ObE:=[⟨some 42,.fits 88,[.e 23,.e 43]⟩,⟨some 25,.inl,[.e 22,.e 19]⟩]
def LR:Bs:=mkD 22 2 EP 25 [.e 48,.e 47] Ta [11,19,13,20]
def O0:List Rf:=[.e 11,.e 19,.e 13,.e 20,.c (.int 0),.e 21]
def ZX:List En:=[ABL 49 23]
def LD:List En:=ZX
def ZJ:List En:=[ABI 52 50 49,
 ABM 53 52,
 ABN 54 23 50,
 ABJ 55 23 50,
 ABK 56 23 50,
 ABQ 57 23 50,
 ABO 58 23 50,
 ABP 59 23 50,
 ABR 60 23 50,
 ABS 61 23 50,
 ABT 62 23 50,
 ⟨63,.mget .i 1 0 [.s],[.e 11,.c (.int 0),.e 58]⟩,
 ⟨64,.mget .i 1 0 [.s],[.e 11,.c (.int 0),.e 59]⟩,
 ⟨65,.outL "countR.0" KQ,[.e 51,.e 7,.e 63,.e 64,.e 60]⟩,
 ⟨66,.w2 .i64 .add,[.e 50,.c (.int 1)]⟩]
def Fq:List En:=ZJ
def T9:List ObE:=[⟨some 52,.pre "countR.p0" H9,[.e 51,.e 7,.e 63,.e 64,.e 60]⟩,⟨some 52,.pre "countR.p1" IN,[.e 51,.e 7,.e 63,.e 64,.e 60]⟩,⟨some 52,.inr,[.e 64,.e 7]⟩,⟨some 52,.inr,[.e 63,.e 7]⟩,⟨some 52,.inl,[.e 50,.e 23]⟩]
def LH:Bs:=mkD 50 2 Fq 52 [.e 66,.e 65] T9 [7,11,23,49]
def PJ:List Rf:=[.e 7,.e 11,.e 23,.e 49,.c (.int 0),.e 6]
def fX:List En:=[]
def nB:List ObE:=[⟨none,.owes LH,[.e 7,.e 11,.e 23,.e 49,.c (.int 0),.e 6]⟩,
 ⟨some 13,.owes LR,[.e 11,.e 19,.e 13,.e 20,.c (.int 0),.e 21]⟩,
 ⟨some 13,.pre "books.p0" Lu,[.e 1]⟩,
 ⟨none,.owes LA,[.e 0,.e 9,.c (.int 0),.e 8]⟩,
 ⟨none,.fits 32,[.e 4,.e 0]⟩,
 ⟨none,.pre "checkLk.p0" LO,[.e 1]⟩,
 ⟨none,.pre "checkPk.p0" G4,[.e 0]⟩]
def YX:List Rf:=[.e 51,.c (.int 0)]
end
end Go.Eng
end
