/-
  A part of the proof: the evaluator of code and its soundness.
-/
import Derived.Test.YtikbgnmcfncnaaaKB2
import Derived.Test.YtikbgnmcfncnaaaE4
import Derived.Test.YtikbgnmcfncnaaaE5
import Derived.Test.YtikbgnmcfncnaaaKB0
set_option linter.unusedVariables false
set_option linter.unusedSimpArgs false
noncomputable section
namespace Go.Eng
section
open Go Go.Eng Go.Proofs
set_option maxHeartbeats 4000000
set_option maxRecDepth 100000
theorem xX:Ls.sees ml (Ls.run Try.prog [] Bp 3000 20 60)=some ((cn).map En.be,wP.map ObE.be,[]):=by kernel_rfl
variable{T:Tab}
theorem wN (v: -10000<=I T 0/\I T 0<=10000/\ -10000<=I T 1/\I T 1<=10000)(p:BV T cn):
  ((I T 18)=(CJ (I T 0) (I T 1) (B T 2)))/\
  (B T 11=true->0<=I T 14/\I T 14 < 20)/\
  (B T 5=true->0<=I T 8/\I T 8 < 20):=by
 obtain⟨q,p⟩:=p.cut;have W:=p;clear p;refine⟨?_,?_,?_⟩
 .obtain⟨t,b,c,j,k,l,z,w,-,e,g,i,y,r,-,s,-⟩:=q;simp only[BS,BZ,zR,TQ,Sz,and_false,or_false,EK,w2P,zL,zS] at t b c j k l z w e g i y r s;obtain⟨A,C,D,E⟩:=v;unfold CJ;by_cases o:(B T 2)=true
  .have F:¬B T 3=true:=fun a=>(t.1 a) o;rw[s,BG F,BH o];by_cases d:(I T 0) < I T 1
   .have u:=c.2 ⟨o,b.2 d⟩;have N:=o2' j (by omega);have Q:(I T 8)=min (((I T 1) - (I T 0)) / 100) 19:=by
     have P:(I T 7)=(I T 6) / 100:=by rw[k,BH (by omega)]
     rw[l];split<;>omega
    have V:(I T 9)=IE GF (I T 8):=by
     simp only[IE,GF];exact z
    rw[r,BH u,w,BH d,<-Q,V]
   .have u:¬B T 5=true:=fun a=>d (b.1 (c.1 a).2);have H:=o2' e (by omega);have K:(I T 14)=min (((I T 0) - (I T 1)) / 100) 19:=by
     have J:(I T 13)=(I T 12) / 100:=by rw[g,BH (by omega)]
     rw[i];split<;>omega
    have M:(I T 15)=IE GF (I T 14):=by
     simp only[IE,GF];exact y
    rw[r,BG u,BG d,<-K,M]
  .rw[s,BH (t.2 o),BG o]
 .obtain⟨-,b,-,-,-,-,-,-,x,e,g,i,-⟩:=q;simp only[BS,BZ,zN,zR,EK,w2P] at b x e g i;intro h;obtain⟨A,C,D,E⟩:=v;have O:=x.1 h;have d:¬I T 0 < I T 1:=fun a=>by
   have:=b.2 a;simp[this] at O
  have H:=o2' e (by omega);have J:(I T 13)=(I T 12) / 100:=by rw[g,BH (by omega)]
  rw[i];split<;>omega
 .obtain⟨-,b,c,j,k,l,-⟩:=q;simp only[BS,BZ,zR,EK,w2P] at b c j k l;intro h;obtain⟨A,C,D,E⟩:=v;have d:=b.1 (c.1 h).2;have N:=o2' j (by omega);have P:(I T 7)=(I T 6) / 100:=by rw[k,BH (by omega)]
  rw[l];split<;>omega
theorem iC:Bl Try.prog 60 Ls:=by
 refine B7 (l:=[]) CP (by intro p h;exact absurd h (by simp)) xX (by kernel_rfl) fun T us e b a q i k=>?_;change us.length=3 at a;clear i;have c:=inI (j:=0) b a (by decide);have d:=inI (j:=1) b a (by decide);have r:=inB (j:=2) b a (by decide);have s: -10000<=I T 0/\I T 0<=10000/\ -10000<=I T 1/\I T 1<=10000:=by
  have h:=e (.s "gain.p0",K8) (by simp[Ls]);change K8 us at h;unfold K8 at h;simp only[c,d] at h;exact h
 clear e
 skip
 obtain⟨g,o⟩:=B8 (A:=[.i]) (ag:=ml) q (by kernel_rfl) k;obtain⟨t,u,ay⟩:=wN s g;refine⟨⟨u,ay,trivial⟩,o.trans ?_⟩;exact (lc (by show U.int (I T 18)= .int (Nc us);unfold Nc;rw[c,d,r];exact BI U.int t) rfl)
def Iv:List U->Int:=fun us=>(Dp (aI us 0))
def Hb:List U->Prop:=fun us=> -100<=(aI us 0)/\(aI us 0)<=100
def Lw:Bf:={ sh:=[.one (k64)],blks:=[],outs:=[(.s "trig.0",CW Iv)],c:=(Cy 1),m':=[],pre:=[(.s "trig.p0",Hb)] }
def jb:List En:=[⟨1,.le,[.e 0,.c (.int 0)]⟩,
 ABI 2 1,
 ⟨3,.ite .i,[.e 1,.c (.int 40),.c (.int 50)]⟩,
 ⟨4,.w2 .i64 .mul,[.e 3,.e 0]⟩,
 ⟨5,.w2 .i64 .sub,[.c (.int 2000),.e 4]⟩]
def bF:List En:=jb
def wq:List ObE:=[]
def oR:List Rf:=[.e 5]
theorem wk:Lw.sees oR (Lw.run Try.prog [] Bp 3000 20 69)=some ((bF).map En.be,wq.map ObE.be,[]):=by kernel_rfl
theorem wz (o: -100<=I T 0/\I T 0<=100)(g:BV T bF):
  ((I T 5)=(Dp (I T 0))):=by
 have j:=g;clear g
 .obtain⟨d,-,i,b,e,-⟩:=j;simp only[BS,BZ,zR,w2P,zL,zS] at d i b e;unfold Dp;have c:=i;by_cases h:(I T 0)<=0
  .rw[BH (d.2 h)] at c;rw[c] at b;have k:=o2' b (by omega);have l:=o2' e (by omega);rw[BH h];omega
  .rw[BG (fun a=>h (d.1 a))] at c;rw[c] at b;have k:=o2' b (by omega);have l:=o2' e (by omega);rw[BG h];omega
theorem ib:Bl Try.prog 69 Lw:=by
 refine B7 (l:=[]) CP (by intro p h;exact absurd h (by simp)) wk (by kernel_rfl) fun T us b o c k e g=>?_;change us.length=1 at c;clear e;have a:=inI (j:=0) o c (by decide);have q: -100<=I T 0/\I T 0<=100:=by
  have h:=b (.s "trig.p0",Hb) (by simp[Lw]);change Hb us at h;unfold Hb at h;simp only[a] at h;exact h
 clear b
 skip
 obtain⟨d,i⟩:=B8 (A:=[.i]) (ag:=oR) k (by kernel_rfl) g;have r:=wz q d;refine⟨trivial,i.trans ?_⟩;exact (lc (by show U.int (I T 5)= .int (Iv us);unfold Iv;rw[a];exact BI U.int r) rfl)
def L7:List U->List (List U):=fun us=>(Dq (aL us 0) (aI us 2).toNat (aI us 3))
def JS:List U->Prop:=fun us=>((aL us 0)).length=(aI us 1)/\(aI us 2) < (aI us 1)/\ -100<=(aI us 3)/\(aI us 3)<=100/\ -10000<=BU (aL us 0) (aI us 2).toNat 1/\BU (aL us 0) (aI us 2).toNat 1<=10000/\ -12<=BU (aL us 0) (aI us 2).toNat 2/\BU (aL us 0) (aI us 2).toNat 2<=48
def JK:Bf:={ sh:=[.one (k64)],blks:=[],outs:=[(.s "moveR.0",D1 L7)],c:= .tup [],m':=[.mrow 4 1 [.str,k64,k64] 23],pre:=[(.s "moveR.p0",JS)],row:=some ([.str,k64,k64],23),ptrs:=1 }
abbrev HZ (T:Tab)(a:List (List U)):Prop:=a=DR (L T 0) (I T 2).toNat (I T 7) (BU a (I T 2).toNat 2)/\ -12<=BU a (I T 2).toNat 2/\BU a (I T 2).toNat 2<=48/\Cg (I T 7) (BU a (I T 2).toNat 2)=Cg (I T 7) (BU (L T 0) (I T 2).toNat 2)
abbrev JO (T:Tab)(a:List (List U)):Prop:=a=DR (L T 0) (I T 2).toNat (I T 7) (BU a (I T 2).toNat 2)/\ -12<=BU a (I T 2).toNat 2/\BU a (I T 2).toNat 2<=48/\upG (I T 7) (BU a (I T 2).toNat 2)=upG (I T 7) (BU (L T 9) (I T 2).toNat 2)
def fM:List En:=[ABJ 4 0 2,
 ABW 5 4 3,
 ⟨6,.o2 .max,[.e 5,.c (.int (-10000))]⟩,
 ⟨7,.o2 .min,[.e 6,.c (.int 10000)]⟩,
 ⟨8,.rset 1 [.i],[.e 0,.e 2,.e 7]⟩]
def JZ:List En:=fM
def fq:List En:=[ABK 10 9 2,
 ⟨11,.lt,[.c (.int (-12)),.e 10]⟩,
 ABU 12 11,
 ABJ 13 9 2,
 ABU 14 11,
 ABK 15 9 2,
 ⟨16,.w2 .i64 .sub,[.e 15,.c (.int 1)]⟩,
 ⟨17,.outI "trig.0" Iv,[.e 16]⟩,
 ⟨18,.le,[.e 17,.e 13]⟩,
 ABE 19 11 18,
 ABI 20 19,
 ABK 21 9 2,
 ⟨22,.w2 .i64 .sub,[.e 21,.c (.int 1)]⟩,
 ⟨23,.rset 2 [.i],[.e 9,.e 2,.e 22]⟩]
def Fb:List En:=fq
def Yb:List ObE:=[⟨some 14,.pre "trig.p0" Hb,[.e 16]⟩]
def OB:Bs:=mkD 9 1 Fb 19 [.e 23] Yb [2]
def SN:List Rf:=[.e 2,.e 8]
def YV:List En:=[]
def fS:List En:=[ABK 25 24 2,
 ⟨26,.lt,[.e 25,.c (.int 48)]⟩,
 ABE 27 20 26,
 ABJ 28 24 2,
 ABE 29 20 26,
 ABK 30 24 2,
 ⟨31,.w2 .i64 .add,[.e 30,.c (.int 1)]⟩,
 ⟨32,.outI "trig.0" Iv,[.e 31]⟩,
 ⟨33,.le,[.e 28,.e 32]⟩,
 ABE 34 26 33,
 ABE 35 20 34,
 ABF 36 20 34,
 ABK 37 24 2,
 ⟨38,.w2 .i64 .add,[.e 37,.c (.int 1)]⟩,
 ⟨39,.rset 2 [.i],[.e 24,.e 2,.e 38]⟩]
def Hq:List En:=fS
def Y5:List ObE:=[⟨some 29,.pre "trig.p0" Hb,[.e 31]⟩]
def OT:Bs:=mkD 24 1 Hq 35 [.e 39] Y5 [2,20]
def Sj:List Rf:=[.e 2,.e 20,.e 9]
def nO:List En:=[]
def uz:List ObE:=[⟨some 20,.owes OT,[.e 2,.e 20,.e 9]⟩,
 ⟨none,.owes OB,[.e 2,.e 8]⟩]
def iG:List Rf:=[.e 24]
theorem vD:JK.sees iG (JK.run Try.prog [(69,Lw)] Bp 3000 20 98)=some ((JZ++((B5 OB [.l] SN)++(Fb++(YV++((B5 OT [.l] Sj)++(Hq++(nO))))))).map En.be,uz.map ObE.be,[]):=by kernel_rfl
abbrev zA(T:Tab):Prop:=(L T 0).length<=140737488355328
abbrev zB(T:Tab):Prop:=((L T 0)).length=I T 1/\I T 2 < I T 1/\ -100<=I T 3/\I T 3<=100/\ -10000<=BU (L T 0) (I T 2).toNat 1/\BU (L T 0) (I T 2).toNat 1<=10000/\ -12<=BU (L T 0) (I T 2).toNat 2/\BU (L T 0) (I T 2).toNat 2<=48
theorem lA (j:zA T)(g:∀u∈(L T 0),Bb BT KP u)(k:0<=I T 1)(h:I T 1<=140737488355328)(l:0<=I T 2)(i:I T 2<=140737488355328)(o:zB T)(a:BV T JZ):
  ((0<=I T 2/\I T 2 < ((L T 0)).length)/\ -12<=BU (L T 0) (I T 2).toNat 2/\BU (L T 0) (I T 2).toNat 2<=48)/\((L T 8)=DR (L T 0) (I T 2).toNat (I T 7) (BU (L T 0) (I T 2).toNat 2)):=by
 have d:=a;clear a;have c:(0<=I T 2/\I T 2 < ((L T 0)).length)/\ -12<=BU (L T 0) (I T 2).toNat 2/\BU (L T 0) (I T 2).toNat 2<=48:=by
  grind
 have e:(L T 8)=DR (L T 0) (I T 2).toNat (I T 7) (BU (L T 0) (I T 2).toNat 2):=by
  obtain⟨-,-,-,-,b,-⟩:=d;simp only[BS,zR,zL,zS,uR,zW,BZ,zC] at b;rw[b];exact set1 g (by have:=c.1;omega)
 exact⟨c,e⟩
abbrev zD(T:Tab):Prop:=(0<=I T 2/\I T 2 < ((L T 0)).length)/\ -12<=BU (L T 0) (I T 2).toNat 2/\BU (L T 0) (I T 2).toNat 2<=48
abbrev zE(T:Tab):Prop:=(L T 8)=DR (L T 0) (I T 2).toNat (I T 7) (BU (L T 0) (I T 2).toNat 2)
theorem nu (E:zD T)(W:zE T)(D:Ba T (Bh (CA 0 JK.ks) JZ))(z:Bi T (Fb.map En.be))(C:Bi T ((B5 OB [.l] SN).map En.be)):
  (OB).owes (SN.map (Rf.eval T))/\Ba T (hds 9 [.l])/\(HZ T (L T 9))/\¬B T 19=true:=by
 refine CK (nh:=9) (k:=1) (pcn:=19) (R:=24) (b:=Fb) (K:=Yb) (nxt:=[.e 23]) (H:=[.e 8]) (fv:=[2]) (A:=[.l]) (by kernel_rfl) rfl rfl rfl rfl D (by kernel_rfl) (by kernel_rfl) z (B6 C) (fun s=>HZ T (aL s 0)) (fun s=>(BU (aL s 0) (I T 2).toNat 2+12).toNat) ?_ ?_
 .show HZ T (L T 8);clear D z C;have a:(I T 2).toNat < ((L T 0)).length:=by have:=E.1;omega
  have y:BU (L T 8) (I T 2).toNat 2=BU (L T 0) (I T 2).toNat 2:=by rw[W];exact PZ a
  grind
 .intro J Q q r;replace r:HZ T (L J 9):=r;clear D z C;replace q:BV J Fb:=q;have u:=q;clear q;have N:=fvI (Q 2 (by decide));clear Q
  suffices hz:(B J 14=true-> -100<=I J 16/\I J 16<=100)/\(B J 19=true->(HZ T (L J 23)))/\(B J 19=true->(BU (L J 23) (I T 2).toNat 2+12).toNat < (BU (L J 9) (I T 2).toNat 2+12).toNat) from
   let⟨r0,nx,mz⟩:=hz;⟨⟨r0,trivial⟩,fun g=>⟨nx g,mz g⟩⟩
  refine⟨?_,?_,?_⟩
  .obtain⟨-,-,-,-,-,j,p,-⟩:=u;simp only[BS,zR,w2P,zL] at j p;grind
  .obtain⟨e,i,-,v,-,j,p,w,M,l,-,c,o,d,-⟩:=u;replace w:I J 17=(Dp (I J 16)):=w;simp only[BS,BZ,zR,w2P,zL,zS,uR,zW,zC] at e i v j p M l c o d;obtain⟨h,v1,v2,V⟩:=r;obtain⟨⟨X,Y⟩,Z,ab⟩:=E;have a:(I T 2).toNat < ((L T 0)).length:=by omega
   intro g;rw[N] at e v j c d;have P:=l.1 g;have x:=i.1 P.1;have O:=M.1 P.2;have ax:(I J 13)=I T 7:=by rw[v,h];exact SV a
   have a0:=o2' p (by omega);have F:=o2' o (by omega);rw[w,ax,a0,j] at O;have t:(L J 23)=DR (L T 0) (I T 2).toNat (I T 7) (BU (L J 9) (I T 2).toNat 2 - 1):=by
    rw[d,F,c,h,mK a,<-h]
   have y:BU (L J 23) (I T 2).toNat 2=BU (L J 9) (I T 2).toNat 2 - 1:=by rw[t];exact PZ a
   refine⟨by rw[y];exact t,by omega,by omega,?_⟩;rw[<-V,y];exact (Sc (by rw[e] at x;exact x) O).symm
  .obtain⟨e,i,-,-,-,-,-,-,-,l,-,c,o,d,-⟩:=u;simp only[BS,BZ,zR,w2P,zL,zS,uR,zW,zC] at e i l c o d;obtain⟨h,v1,v2,V⟩:=r;obtain⟨⟨X,Y⟩,Z,ab⟩:=E;have a:(I T 2).toNat < ((L T 0)).length:=by omega
   intro g;rw[N] at e c d;have x:=i.1 (l.1 g).1;have F:=o2' o (by omega);have t:(L J 23)=DR (L T 0) (I T 2).toNat (I T 7) (BU (L J 9) (I T 2).toNat 2 - 1):=by
    rw[d,F,c,h,mK a,<-h]
   rw[t,PZ a];omega
theorem jr (h:zA T)(g:∀u∈(L T 0),Bb BT KP u)(k:0<=I T 1)(d:I T 1<=140737488355328)(l:0<=I T 2)(e:I T 2<=140737488355328)(p:zB T)(i:zD T)(c:zE T)(j:HZ T (L T 9))(o:¬B T 19=true)(a:BV T JZ)(b:BV T Fb):
  ((L T 9)=DR (L T 0) (I T 2).toNat (I T 7) (BU (L T 9) (I T 2).toNat 2)/\ -12<=BU (L T 9) (I T 2).toNat 2/\BU (L T 9) (I T 2).toNat 2<=48):=by
 grind
abbrev zF(T:Tab):Prop:=(L T 9)=DR (L T 0) (I T 2).toNat (I T 7) (BU (L T 9) (I T 2).toNat 2)/\ -12<=BU (L T 9) (I T 2).toNat 2/\BU (L T 9) (I T 2).toNat 2<=48
theorem oO (V:zD T)(h9:zF T)(Q:Ba T (Bh (Bh (hds 9 [.l]++(Bh (CA 0 JK.ks) JZ)) Fb) YV))(O:Bi T (Hq.map En.be))(P:Bi T ((B5 OT [.l] Sj).map En.be)):
  (OT).owes (Sj.map (Rf.eval T))/\Ba T (hds 24 [.l])/\(JO T (L T 24))/\¬B T 35=true:=by
 refine CK (nh:=24) (k:=1) (pcn:=35) (R:=40) (b:=Hq) (K:=Y5) (nxt:=[.e 39]) (H:=[.e 9]) (fv:=[2,20]) (A:=[.l]) (by kernel_rfl) rfl rfl rfl rfl Q (by kernel_rfl) (by kernel_rfl) O (B6 P) (fun s=>JO T (aL s 0)) (fun s=>(48 - BU (aL s 0) (I T 2).toNat 2).toNat) ?_ ?_
 .show JO T (L T 9);grind
 .intro J C r t;replace t:JO T (L J 24):=t;clear Q O P;replace r:BV J Hq:=r;have v:=r;clear r;have F:=fvI (C 2 (by decide));have a1:=fvB (C 20 (by decide));clear C
  suffices hz:(B J 29=true-> -100<=I J 31/\I J 31<=100)/\(B J 35=true->(JO T (L J 39)))/\(B J 35=true->(48 - BU (L J 39) (I T 2).toNat 2).toNat < (48 - BU (L J 24) (I T 2).toNat 2).toNat) from
   let⟨r0,nx,mz⟩:=hz;⟨⟨r0,trivial⟩,fun g=>⟨nx g,mz g⟩⟩
  refine⟨?_,?_,?_⟩
  .obtain⟨-,-,-,-,-,j,q,-⟩:=v;simp only[BS,zR,w2P,zL] at j q;grind
  .obtain⟨d,i,-,w,-,j,q,x,E,l,o,-,a,p,c,-⟩:=v;replace x:I J 32=(Dp (I J 31)):=x;simp only[BS,BZ,zR,w2P,zL,zS,uR,zW,zC] at d i w j q E l o a p c;obtain⟨h,v1,v2,W⟩:=t;obtain⟨⟨X,Y⟩,Z,ab⟩:=V;have e:(I T 2).toNat < ((L T 0)).length:=by omega
   intro g;rw[F] at d w j a c;have N:=l.1 (o.1 g).2;have z:=i.1 N.1;have M:=E.1 N.2;have ax:(I J 28)=I T 7:=by rw[w,h];exact SV e
   have a0:=o2' q (by omega);have D:=o2' p (by omega);rw[x,ax,a0,j] at M;have u:(L J 39)=DR (L T 0) (I T 2).toNat (I T 7) (BU (L J 24) (I T 2).toNat 2+1):=by
    rw[c,D,a,h,mK e,<-h]
   have y:BU (L J 39) (I T 2).toNat 2=BU (L J 24) (I T 2).toNat 2+1:=by rw[u];exact PZ e
   refine⟨by rw[y];exact u,by omega,by omega,?_⟩;rw[<-W,y];exact (XH (by rw[d] at z;exact z) M).symm
  .obtain⟨d,i,-,-,-,-,-,-,-,l,o,-,a,p,c,-⟩:=v;simp only[BS,BZ,zR,w2P,zL,zS,uR,zW,zC] at d i l o a p c;obtain⟨h,v1,v2,W⟩:=t;obtain⟨⟨X,Y⟩,Z,ab⟩:=V;have e:(I T 2).toNat < ((L T 0)).length:=by omega
   intro g;rw[F] at d a c;have z:=i.1 (l.1 (o.1 g).2).1;have D:=o2' p (by omega);have u:(L J 39)=DR (L T 0) (I T 2).toNat (I T 7) (BU (L J 24) (I T 2).toNat 2+1):=by
    rw[c,D,a,h,mK e,<-h]
   rw[u,PZ e];omega
theorem vY (ag:zA T)(ad:∀u∈(L T 0),Bb BT KP u)(an:0<=I T 1)(Z:I T 1<=140737488355328)(ao:0<=I T 2)(ab:I T 2<=140737488355328)(P:zB T)(hq:zD T)(X:zE T)(N:HZ T (L T 9))(aw:¬B T 19=true)(Y:zF T)(O:JO T (L T 24))(ax:¬B T 35=true)(b:BV T JZ)(c:BV T Fb)(d:BV T Hq):
  ((L T 24)=(Dq (L T 0) (I T 2).toNat (I T 3))):=by
 have l:=b;clear b;have o:=c;clear c;have p:=d;clear d
 .obtain⟨H,j,J,K,-⟩:=l;obtain⟨q,r,-,e,-,s,t,g,v,w,x,-⟩:=o;obtain⟨y,z,-,h,-,A,C,i,D,E,F,-⟩:=p;replace g:I T 17=(Dp (I T 16)):=g;replace i:I T 32=(Dp (I T 31)):=i;simp only[BS,BZ,zR,EK,w2P,zL] at H j J K q r e s t v w x y z h A C D E F;obtain⟨p1,p2,p3,p4,p5,p6,p7,p8⟩:=P;have k:(I T 2).toNat < ((L T 0)).length:=by omega
  have x5:=o2' j (by omega);have M:(I T 7)=B9 (BU (L T 0) (I T 2).toNat 1) (I T 3):=by
   unfold B9;grind
  obtain⟨Q,v1,v2,V⟩:=N;obtain⟨aH,aO,w2,W⟩:=O;have bb:(I T 13)=I T 7:=by rw[e,Q];exact SV k
  have bc:(I T 28)=I T 7:=by rw[h,aH];exact SV k
  unfold Dq;rw[aH,<-M];congr 1;unfold Cz;have hd:Cg (I T 7) (BU (L T 0) (I T 2).toNat 2)=BU (L T 9) (I T 2).toNat 2:=by
   rw[<-V];refine Sg fun a=>?_;grind
  rw[hd,<-W];refine (XW fun a=>?_).symm;grind
theorem tl:Bl Try.prog 98 JK:=by
 refine B7 (l:=[(69,Lw)]) CP (by simp only[AW];exact⟨ib,fun _ h=>absurd h (by simp)⟩) vD (by kernel_rfl) fun T us H v r g N a=>?_;change us.length=4 at r;obtain⟨⟨q,W⟩,⟨s,o⟩,⟨t,p⟩,-⟩:=N;replace q:(L T 0).length<=140737488355328:=q;have C:∀u∈(L T 0),Bb BT KP u:=fun u X=>by
  obtain⟨i,Z⟩:=Ac.1 X;exact W i u Z
 replace s:0<=I T 1:=s;replace o:I T 1<=140737488355328:=o;replace t:0<=I T 2:=t;replace p:I T 2<=140737488355328:=p;have P:=inL (j:=0) v r (by decide);have ax:=inI (j:=1) v r (by decide);have Q:=inI (j:=2) v r (by decide);have V:=inI (j:=3) v r (by decide);have D:((L T 0)).length=I T 1/\I T 2 < I T 1/\ -100<=I T 3/\I T 3<=100/\ -10000<=BU (L T 0) (I T 2).toNat 1/\BU (L T 0) (I T 2).toNat 1<=10000/\ -12<=BU (L T 0) (I T 2).toNat 2/\BU (L T 0) (I T 2).toNat 2<=48:=by
  have h:=H (.s "moveR.p0",JS) (by simp[JK]);change JS us at h;unfold JS at h;grind
 clear H;rw[AL,AL,AL,AL,AL,AL] at a;obtain⟨d,a⟩:=cutB a;obtain⟨e,a⟩:=cutB a;obtain⟨b,a⟩:=cutB a;obtain⟨x,c⟩:=Be g (by kernel_rfl) d;obtain⟨w,y⟩:=lA q C s o t p D x;obtain⟨ad,k,J,K⟩:=nu w y c b e;have z:=(Be (k.append c) (l:=Fb) (by kernel_rfl) b);obtain⟨E,g⟩:=z;clear d b e c k;obtain⟨d,a⟩:=cutB a;obtain⟨e,a⟩:=cutB a;obtain⟨b,a⟩:=cutB a;obtain⟨A1,c⟩:=Be g (by kernel_rfl) d;have F:=jr q C s o t p D w y J K x E;obtain⟨al,k,Y,ab⟩:=oO w F c b e;have z:=(Be (k.append c) (l:=Hq) (by kernel_rfl) b);obtain⟨M,g⟩:=z;clear d b e c k;obtain⟨A2,O⟩:=B8 (A:=[.l]) (ag:=iG) g (by kernel_rfl) a;have q0:=vY q C s o t p D w y J K F Y ab x E M;refine⟨⟨(fun _=>al),(fun _=>ad),trivial⟩,O.trans ?_⟩;exact (lc (by show U.list (L T 24)= .list (L7 us);unfold L7;rw[P,Q,V];exact BI U.list q0) rfl)
def KQ:List U->List (List U):=fun us=>(FI (aL us 0) (aI us 2).toNat (aI us 3).toNat (aB us 4))
def H9:List U->Prop:=fun us=>((aL us 0)).length=(aI us 1)/\(aI us 2) < (aI us 1)/\(aI us 3) < (aI us 1)/\¬(aI us 2)=(aI us 3)/\ -10000<=BU (aL us 0) (aI us 2).toNat 1/\BU (aL us 0) (aI us 2).toNat 1<=10000/\ -12<=BU (aL us 0) (aI us 2).toNat 2/\BU (aL us 0) (aI us 2).toNat 2<=48
def IN:List U->Prop:=fun us=> -10000<=BU (aL us 0) (aI us 3).toNat 1/\BU (aL us 0) (aI us 3).toNat 1<=10000/\ -12<=BU (aL us 0) (aI us 3).toNat 2/\BU (aL us 0) (aI us 3).toNat 2<=48
def Gb:Bf:={ sh:=[.one (.bool)],blks:=[],outs:=[(.s "countR.0",D1 KQ)],c:= .tup [],m':=[.mrow 5 1 [.str,k64,k64] 23],pre:=[(.s "countR.p0",H9),(.s "countR.p1",IN)],row:=some ([.str,k64,k64],23),ptrs:=2 }
def bB:List En:=[ABJ 5 0 2,
 ABJ 6 0 3,
 ⟨7,.outI "gain.0" Nc,[.e 5,.e 6,.e 4]⟩,
 ⟨8,.outL "moveR.0" L7,[.e 0,.e 1,.e 2,.e 7]⟩,
 ⟨9,.wneg .i64,[.e 7]⟩,
 ⟨10,.outL "moveR.0" L7,[.e 8,.e 1,.e 3,.e 9]⟩]
def Vp:List En:=bB
def qh:List ObE:=[⟨none,.pre "moveR.p0" JS,[.e 8,.e 1,.e 3,.e 9]⟩,
 ⟨none,.pre "moveR.p0" JS,[.e 0,.e 1,.e 2,.e 7]⟩,
 ⟨none,.pre "gain.p0" K8,[.e 5,.e 6,.e 4]⟩]
def cF:List Rf:=[.e 10]
theorem rQ:Gb.sees cF (Gb.run Try.prog [(60,Ls),(98,JK)] Bp 3000 20 58)=some ((Vp).map En.be,qh.map ObE.be,[]):=by kernel_rfl
theorem tH (N:zA T)(M:∀u∈(L T 0),Bb BT KP u)(O:0<=I T 1)(H:I T 1<=140737488355328)(P:0<=I T 2)(J:I T 2<=140737488355328)(Q:0<=I T 3)(K:I T 3<=140737488355328)(j:((L T 0)).length=I T 1/\I T 2 < I T 1/\I T 3 < I T 1/\¬I T 2=I T 3/\ -10000<=BU (L T 0) (I T 2).toNat 1/\BU (L T 0) (I T 2).toNat 1<=10000/\ -12<=BU (L T 0) (I T 2).toNat 2/\BU (L T 0) (I T 2).toNat 2<=48)(x: -10000<=BU (L T 0) (I T 3).toNat 1/\BU (L T 0) (I T 3).toNat 1<=10000/\ -12<=BU (L T 0) (I T 3).toNat 2/\BU (L T 0) (I T 3).toNat 2<=48)(y:BV T Vp):
  ((L T 10)=(FI (L T 0) (I T 2).toNat (I T 3).toNat (B T 4)))/\
  (((L T 8)).length=I T 1/\I T 3 < I T 1/\ -100<=I T 9/\I T 9<=100/\ -10000<=BU (L T 8) (I T 3).toNat 1/\BU (L T 8) (I T 3).toNat 1<=10000/\ -12<=BU (L T 8) (I T 3).toNat 2/\BU (L T 8) (I T 3).toNat 2<=48)/\
  (((L T 0)).length=I T 1/\I T 2 < I T 1/\ -100<=I T 7/\I T 7<=100/\ -10000<=BU (L T 0) (I T 2).toNat 1/\BU (L T 0) (I T 2).toNat 1<=10000/\ -12<=BU (L T 0) (I T 2).toNat 2/\BU (L T 0) (I T 2).toNat 2<=48)/\
  (-10000<=I T 5/\I T 5<=10000/\ -10000<=I T 6/\I T 6<=10000):=by
 have i:=y;clear y;refine⟨?_,?_,?_,?_⟩
 .obtain⟨c,d,b,a,e,l,-⟩:=i;replace b:I T 7=(CJ (I T 5) (I T 6) (B T 4)):=b;replace a:L T 8=(Dq (L T 0) (I T 2).toNat (I T 7)):=a;replace l:L T 10=(Dq (L T 8) (I T 3).toNat (I T 9)):=l;simp only[BS,zR,w2P,wnP,zL] at c d e;obtain⟨o,p,q,r,s,t,v,w⟩:=j;have h:=EH (BU (L T 0) (I T 2).toNat 1) (BU (L T 0) (I T 3).toNat 1) (B T 4);rw[<-c,<-d,<-b] at h;have k:=o2' e.1 (by omega);unfold FI;rw[l,k,a,b,d,c]
 .obtain⟨c,d,b,a,e,-⟩:=i;replace b:I T 7=(CJ (I T 5) (I T 6) (B T 4)):=b;replace a:L T 8=(Dq (L T 0) (I T 2).toNat (I T 7)):=a;simp only[BS,zR,w2P,wnP,zL] at c d e;obtain⟨o,p,q,r,s,t,v,w⟩:=j;obtain⟨C,D,E,F⟩:=x;have h:=EH (I T 5) (I T 6) (B T 4);rw[<-b] at h;have k:=o2' e.1 (by omega);have z:((L T 8)).length=((L T 0)).length:=by rw[a];exact Vd
  have g:((L T 8)).getD (I T 3).toNat []=((L T 0)).getD (I T 3).toNat []:=by rw[a];exact Kp (by omega)
  have A:BU (L T 8) (I T 3).toNat 1=BU (L T 0) (I T 3).toNat 1:=Fv g;have _:=c;have _:=d;have o2:BU (L T 8) (I T 3).toNat 2=BU (L T 0) (I T 3).toNat 2:=Fv g;omega
 .obtain⟨c,d,b,a,e,-⟩:=i;replace b:I T 7=(CJ (I T 5) (I T 6) (B T 4)):=b;replace a:L T 8=(Dq (L T 0) (I T 2).toNat (I T 7)):=a;simp only[BS,zR,w2P,wnP,zL] at c d e;obtain⟨o,p,q,r,s,t,v,w⟩:=j;obtain⟨C,D,E,F⟩:=x;have h:=EH (I T 5) (I T 6) (B T 4);rw[<-b] at h;have k:=o2' e.1 (by omega);have z:((L T 8)).length=((L T 0)).length:=by rw[a];exact Vd
  have g:((L T 8)).getD (I T 3).toNat []=((L T 0)).getD (I T 3).toNat []:=by rw[a];exact Kp (by omega)
  have A:BU (L T 8) (I T 3).toNat 1=BU (L T 0) (I T 3).toNat 1:=Fv g;have _:=c;have _:=d;have o2:BU (L T 8) (I T 3).toNat 2=BU (L T 0) (I T 3).toNat 2:=Fv g;omega
 .obtain⟨c,d,b,a,e,-⟩:=i;replace b:I T 7=(CJ (I T 5) (I T 6) (B T 4)):=b;replace a:L T 8=(Dq (L T 0) (I T 2).toNat (I T 7)):=a;simp only[BS,zR,w2P,wnP,zL] at c d e;obtain⟨o,p,q,r,s,t,v,w⟩:=j;obtain⟨C,D,E,F⟩:=x;have h:=EH (I T 5) (I T 6) (B T 4);rw[<-b] at h;have k:=o2' e.1 (by omega);have z:((L T 8)).length=((L T 0)).length:=by rw[a];exact Vd
  have g:((L T 8)).getD (I T 3).toNat []=((L T 0)).getD (I T 3).toNat []:=by rw[a];exact Kp (by omega)
  have A:BU (L T 8) (I T 3).toNat 1=BU (L T 0) (I T 3).toNat 1:=Fv g;have _:=c;have _:=d;have o2:BU (L T 8) (I T 3).toNat 2=BU (L T 0) (I T 3).toNat 2:=Fv g;omega
theorem Yq:Bl Try.prog 58 Gb:=by
 refine B7 (l:=[(60,Ls),(98,JK)]) CP (by simp only[AW];exact⟨iC,tl,fun _ h=>absurd h (by simp)⟩) rQ (by kernel_rfl) fun T us p b a z w x=>?_;change us.length=5 at a;obtain⟨⟨o,E⟩,⟨q,e⟩,⟨r,g⟩,⟨s,k⟩,-⟩:=w;replace o:(L T 0).length<=140737488355328:=o;have F:∀u∈(L T 0),Bb BT KP u:=fun u H=>by
  obtain⟨i,Z⟩:=Ac.1 H;exact E i u Z
 replace q:0<=I T 1:=q;replace e:I T 1<=140737488355328:=e;replace r:0<=I T 2:=r;replace g:I T 2<=140737488355328:=g;replace s:0<=I T 3:=s;replace k:I T 3<=140737488355328:=k;have c:=inL (j:=0) b a (by decide);have C:=inI (j:=1) b a (by decide);have t:=inI (j:=2) b a (by decide);have d:=inI (j:=3) b a (by decide);have D:=inB (j:=4) b a (by decide);have J:((L T 0)).length=I T 1/\I T 2 < I T 1/\I T 3 < I T 1/\¬I T 2=I T 3/\ -10000<=BU (L T 0) (I T 2).toNat 1/\BU (L T 0) (I T 2).toNat 1<=10000/\ -12<=BU (L T 0) (I T 2).toNat 2/\BU (L T 0) (I T 2).toNat 2<=48:=by
  have h:=p (.s "countR.p0",H9) (by simp[Gb]);change H9 us at h;unfold H9 at h;simp only[c,C,t,d] at h;exact h
 have K: -10000<=BU (L T 0) (I T 3).toNat 1/\BU (L T 0) (I T 3).toNat 1<=10000/\ -12<=BU (L T 0) (I T 3).toNat 2/\BU (L T 0) (I T 3).toNat 2<=48:=by
  have h:=p (.s "countR.p1",IN) (by simp[Gb]);change IN us at h;unfold IN at h;simp only[c,d] at h;exact h
 clear p
 skip
 obtain⟨v,y⟩:=B8 (A:=[.l]) (ag:=cF) z (by kernel_rfl) x;obtain⟨M,N,ay,aG⟩:=tH o F q e r g s k J K v;refine⟨⟨(fun _=>N),(fun _=>ay),(fun _=>aG),trivial⟩,y.trans ?_⟩;exact (lc (by show U.list (L T 10)= .list (KQ us);unfold KQ;rw[c,t,d,D];exact BI U.list M) rfl)
def Fr:List U->List (List U):=fun us=>(FP (aL us 0) (aL us 1))
def Fu:List U->Int:=fun us=>((0:Int))
def LS:List U->Prop:=fun us=>BW (aL us 0)=0/\Bc (aL us 1)=0/\((aL us 1)).length<=40
def E0:Bf:={ sh:=[.one (.list [.str,k64,k64]),.one (.list [k64,k64,k64,.bool,.str,.str,.bool,k64,k64])],blks:=[],outs:=[(.s "SettleV.0",D1 Fr),(.s "SettleV.1",CW Fu)],c:= .tup [.ro 2 [.str,k64,k64],(Cy 3)],m':=[],pre:=[(.s "SettleV.p0",LS)] }
abbrev E3 (T:Tab)(a:Int)(b:List (List U)):Prop:=0<=a/\a<=((L T 0)).length/\b=Db (MG ((L T 0))) a.toNat []
abbrev Fm (T:Tab)(a:Int)(b:List (List U)):Prop:=0<=a/\a<=((L T 19)).length/\b=Db (C9 ((L T 11)) ((L T 19))) a.toNat []
abbrev HE (T:Tab)(a:Int)(b:List (List U)):Prop:=0<=a/\a<=((L T 23)).length/\b=upK (ctU (L T 11)) (L T 23) a.toNat (L T 0)
def ZO:List En:=[⟨2,.outI "checkPk.0" Ig,[.e 0]⟩,
 ⟨3,.outI "checkLk.0" PS,[.e 1]⟩,
 ⟨4,.id .l,[.c (.list [])]⟩,
 ⟨5,.id .i,[.c (.int 0)]⟩,
 ABZ 6 4 0,
 ABL 7 6,
 ⟨8,.id .l,[.c (.list [])]⟩,
 ABL 9 0]
def E1:List En:=ZO
def Zi:List En:=[ABH 12 10 9,
 ABI 13 12,
 ABX 14 0 10,
 ABJ 15 0 10,
 ABK 16 0 10,
 ⟨17,.mset 1 [.s,.i],[.e 11,.e 14,.e 10]⟩,
 ⟨18,.w2 .i64 .add,[.e 10,.c (.int 1)]⟩]
def De:List En:=Zi
def Tv:List ObE:=[⟨some 12,.fits 1,[.e 11,.c (.list [[]])]⟩,⟨some 12,.inl,[.e 10,.e 0]⟩]
def LA:Bs:=mkD 10 2 De 12 [.e 18,.e 17] Tv [0,9]
def Ox:List Rf:=[.e 0,.e 9,.c (.int 0),.e 8]
def ZT:List En:=[⟨19,.outL "books.0" OG,[.e 1]⟩,
 ABL 20 19,
 ⟨21,.id .l,[.c (.list [])]⟩]
def HC:List En:=ZT
def ZK:List En:=[ABH 24 22 20,
 ABE 25 13 24,
 ABF 26 13 24,
 ABM 27 19 22,
 ABJ 28 19 22,
 ABK 29 19 22,
 ABQ 30 19 22,
 ABN 31 19 22,
 ABO 32 19 22,
 ABP 33 19 22,
 ABR 34 19 22,
 ABS 35 19 22,
 ⟨36,.mget .i 1 0 [.s],[.e 11,.c (.int 0),.e 31]⟩,
 ⟨37,.mhas 1 [.s],[.e 11,.e 31]⟩,
 ⟨38,.mget .i 1 0 [.s],[.e 11,.c (.int 0),.e 32]⟩,
 ⟨39,.mhas 1 [.s],[.e 11,.e 32]⟩]
def Zf:List En:=[ABE 40 25 37,
 ABE 41 37 39,
 ABE 42 25 41,
 ⟨43,.row 1 9 [.i,.i,.i,.b,.s,.s,.b,.i,.i],[.e 27,.e 28,.e 29,.e 30,.e 31,.e 32,.e 33,.e 34,.e 35]⟩,
 ABZ 44 23 43,
 ABF 45 25 41,
 ABV 46 41 44 23,
 ABV 47 41 44 23,
 ⟨48,.w2 .i64 .add,[.e 22,.c (.int 1)]⟩]
def EP:List En:=ZK++(Zf)
def Ta:List ObE:=[⟨some 42,.fits 88,[.e 23,.e 43]⟩,⟨some 25,.inl,[.e 22,.e 19]⟩]
def LR:Bs:=mkD 22 2 EP 25 [.e 48,.e 47] Ta [11,19,13,20]
def O0:List Rf:=[.e 11,.e 19,.e 13,.e 20,.c (.int 0),.e 21]
def ZX:List En:=[ABL 49 23]
def LD:List En:=ZX
def ZJ:List En:=[ABH 52 50 49,
 ABI 53 52,
 ABM 54 23 50,
 ABJ 55 23 50,
 ABK 56 23 50,
 ABQ 57 23 50,
 ABN 58 23 50,
 ABO 59 23 50,
 ABP 60 23 50,
 ABR 61 23 50,
 ABS 62 23 50,
 ⟨63,.mget .i 1 0 [.s],[.e 11,.c (.int 0),.e 58]⟩,
 ⟨64,.mget .i 1 0 [.s],[.e 11,.c (.int 0),.e 59]⟩,
 ⟨65,.outL "countR.0" KQ,[.e 51,.e 7,.e 63,.e 64,.e 60]⟩,
 ⟨66,.w2 .i64 .add,[.e 50,.c (.int 1)]⟩]
def Fq:List En:=ZJ
def T9:List ObE:=[⟨some 52,.pre "countR.p0" H9,[.e 51,.e 7,.e 63,.e 64,.e 60]⟩,⟨some 52,.pre "countR.p1" IN,[.e 51,.e 7,.e 63,.e 64,.e 60]⟩,⟨some 52,.inr,[.e 64,.e 7]⟩,⟨some 52,.inr,[.e 63,.e 7]⟩,⟨some 52,.inl,[.e 50,.e 23]⟩]
def LH:Bs:=mkD 50 2 Fq 52 [.e 66,.e 65] T9 [7,11,23,49]
def PJ:List Rf:=[.e 7,.e 11,.e 23,.e 49,.c (.int 0),.e 6]
def fX:List En:=[]
def nB:List ObE:=[⟨none,.owes LH,[.e 7,.e 11,.e 23,.e 49,.c (.int 0),.e 6]⟩,
 ⟨some 13,.owes LR,[.e 11,.e 19,.e 13,.e 20,.c (.int 0),.e 21]⟩,
 ⟨some 13,.pre "books.p0" Lu,[.e 1]⟩,
 ⟨none,.owes LA,[.e 0,.e 9,.c (.int 0),.e 8]⟩,
 ⟨none,.fits 32,[.e 4,.e 0]⟩,
 ⟨none,.pre "checkLk.p0" LO,[.e 1]⟩,
 ⟨none,.pre "checkPk.p0" G4,[.e 0]⟩]
def YX:List Rf:=[.e 51,.c (.int 0)]
theorem oq:E0.sees YX (E0.runC Try.prog Gy [(41,Ea),(47,Hd),(65,FQ),(58,Gb)] NZ 3000 20 24)=some ((E1++((B5 LA [.i,.l] Ox)++(De++(HC++((B5 LR [.i,.l] O0)++(EP++(LD++((B5 LH [.i,.l] PJ)++(Fq++(fX)))))))))).map En.be,nB.map ObE.be,[]):=by kernel_rfl
abbrev zG(T:Tab):Prop:=(L T 1).length<=140737488355328
abbrev zH(T:Tab):Prop:=BW (L T 0)=0/\Bc (L T 1)=0/\((L T 1)).length<=40
theorem bC (k:zA T)(j:∀u∈(L T 0),Bb BT KP u)(l:zG T)(i:zH T)(a:BV T E1):
  ((I T 9)=((L T 0)).length)/\((L T 8)=[])/\(((L T 0)).length<=24):=by
 have b:=a;clear a;have h:(I T 9)=((L T 0)).length:=by
  obtain⟨-,-,-,-,-,-,-,d,-⟩:=b;simp only[BS,zR,zL] at d;exact d
 have g:(L T 8)=[]:=by
  obtain⟨-,-,-,-,-,-,c,-⟩:=b;simp only[BS,zR,zL,zS] at c;exact c
 have e:((L T 0)).length<=24:=by
  exact (Nm i.1).2.2
 exact⟨h,g,e⟩
abbrev zI(T:Tab):Prop:=(I T 9)=((L T 0)).length
theorem gD (Q:zH T)(N:zI T)(w:(L T 8)=[])(M:((L T 0)).length<=24)(l:Ba T (Bh (CA 0 E0.ks) E1))(i:Bi T (De.map En.be))(j:Bi T ((B5 LA [.i,.l] Ox).map En.be)):
  (LA).owes (Ox.map (Rf.eval T))/\Ba T (hds 10 [.i,.l])/\(E3 T (I T 10) (L T 11))/\¬B T 12=true:=by
 refine CK (nh:=10) (k:=2) (pcn:=12) (R:=19) (b:=De) (K:=Tv) (nxt:=[.e 18,.e 17]) (H:=[.c (.int 0),.e 8]) (fv:=[0,9]) (A:=[.i,.l]) (by kernel_rfl) rfl rfl rfl rfl l (by kernel_rfl) (by kernel_rfl) i (B6 j) (fun s=>E3 T (aI s 0) (aL s 1)) (fun s=>(((L T 0)).length - (aI s 0)).toNat) ?_ ?_
 .show E3 T (0:Int) (L T 8);clear l i j;exact⟨by omega,by omega,by rw[show (0:Int).toNat=0 from rfl];exact w⟩
 .intro J o g h;replace h:E3 T (I J 10) (L J 11):=h;clear l i j;replace g:BV J De:=g;have d:=g;clear g;have u:=fvL (o 0 (by decide));have r:=fvI (o 9 (by decide));clear o
  suffices x:(B J 12=true->(((L J 11)).length+(([[]]:List (List U))).length)*1<=140737488355328)/\(B J 12=true->0<=I J 10/\I J 10 < ((L J 0)).length)/\(B J 12=true->(E3 T (I J 18) (L J 17)))/\(B J 12=true->(((L T 0)).length - (I J 18)).toNat < (((L T 0)).length - (I J 10)).toNat) from
   let⟨C,ay,z,y⟩:=x;⟨⟨C,ay,trivial⟩,fun c=>⟨z c,y c⟩⟩
  refine⟨?_,?_,?_,?_⟩
  .obtain⟨a,-⟩:=d;simp only[BS,zR] at a;obtain⟨D,E,t⟩:=h;intro c;rw[r] at a;have v:=a.1 c;have O:=iE (P:=L T 0) (I J 10).toNat;grind
  .obtain⟨a,-⟩:=d;simp only[BS,zR] at a;grind
  .obtain⟨a,-,p,-,-,q,e,-⟩:=d;simp only[BS,zR,w2P,zL,zS,uR,zW,BZ,zC] at a p q e;obtain⟨D,E,t⟩:=h;intro c;rw[r] at a;have v:=a.1 c;have F:=o2' e (by omega);refine⟨by omega,by omega,?_⟩;rw[F,show ((I J 10)+1).toNat=(I J 10).toNat+1 by omega,q,p,t,u];show _=MG _ _ _;unfold MG;grind
  .obtain⟨a,-,-,-,-,-,e,-⟩:=d;simp only[BS,zR,w2P] at a e;grind
theorem aF (K:zA T)(J:∀u∈(L T 0),Bb BT KP u)(M:zG T)(t:zH T)(H:zI T)(F:(L T 8)=[])(w:((L T 0)).length<=24)(r:E3 T (I T 10) (L T 11))(s:¬B T 12=true)(c:BV T E1)(e:BV T De)(d:BV T HC):
  ((I T 20)=((L T 19)).length)/\((L T 21)=[])/\((L T 19)=CH ((L T 1)))/\(((L T 19)).length<=40)/\((L T 11)=CE ((L T 0)))/\((B T 13)=true)/\((L T 6)=L T 0):=by
 have p:=c;clear c;have g:=e;clear e;have b:=d;clear d;have C:(I T 20)=((L T 19)).length:=by
  obtain⟨-,j,-⟩:=b;simp only[BS,zR,zL] at j;exact j
 have D:(L T 21)=[]:=by
  obtain⟨-,-,k,-⟩:=b;simp only[BS,zR,zL,zS] at k;exact k
 have A:(L T 19)=CH ((L T 1)):=by
  obtain⟨a,-⟩:=b;replace a:L T 19=(CH (L T 1)):=a;exact a
 have x:((L T 19)).length<=40:=by
  obtain⟨a,-⟩:=b;replace a:L T 19=(CH (L T 1)):=a;rw[a];exact AV Jg t.2.2
 have y:(L T 11)=CE ((L T 0)):=by
  obtain⟨i,-⟩:=g;simp only[BS,zR] at i;obtain⟨O,P,v⟩:=r;have N:¬I T 10 < I T 9:=fun h=>s (i.2 h);rw[v,show (I T 10).toNat=((L T 0)).length by omega];rfl
 have z:(B T 13)=true:=by
  obtain⟨-,q,-⟩:=g;simp only[BS,BZ,zR] at q;grind
 have E:(L T 6)=L T 0:=by
  obtain⟨-,-,l,-,o,-⟩:=p;simp only[BS,BZ,zR,zL,zS] at l o;rw[o,l];rfl
 grind
abbrev zJ(T:Tab):Prop:=(I T 20)=((L T 19)).length
theorem gU (a4:zJ T)(ag:(L T 21)=[])(a3:((L T 19)).length<=40)(N:Ba T (Bh (Bh (hds 10 [.i,.l]++(Bh (CA 0 E0.ks) E1)) De) HC))(E:Bi T (EP.map En.be))(F:Bi T ((B5 LR [.i,.l] O0).map En.be)):
  (LR).owes (O0.map (Rf.eval T))/\Ba T (hds 22 [.i,.l])/\(Fm T (I T 22) (L T 23))/\¬B T 25=true:=by
 refine CK (nh:=22) (k:=2) (pcn:=25) (R:=49) (b:=EP) (K:=Ta) (nxt:=[.e 48,.e 47]) (H:=[.c (.int 0),.e 21]) (fv:=[11,19,13,20]) (A:=[.i,.l]) (by kernel_rfl) rfl rfl rfl rfl N (by kernel_rfl) (by kernel_rfl) E (B6 F) (fun s=>Fm T (aI s 0) (aL s 1)) (fun s=>(((L T 19)).length - (aI s 0)).toNat) ?_ ?_
 .show Fm T (0:Int) (L T 21);clear N E F;exact⟨by omega,by omega,by rw[show (0:Int).toNat=0 from rfl];exact ag⟩
 .intro J g d r;replace r:Fm T (I J 22) (L J 23):=r;clear N E F;replace d:BV J EP:=d;obtain⟨h,d⟩:=d.cut;have t:=d;clear d;have ab:=fvL (g 11 (by decide));have ad:=fvL (g 19 (by decide));have a2:=fvB (g 13 (by decide));have W:=fvI (g 20 (by decide));clear g
  suffices hz:(B J 42=true->(((L J 23)).length+((L J 43)).length)*88<=140737488355328)/\(B J 25=true->0<=I J 22/\I J 22 < ((L J 19)).length)/\(B J 25=true->(Fm T (I J 48) (L J 47)))/\(B J 25=true->(((L T 19)).length - (I J 48)).toNat < (((L T 19)).length - (I J 22)).toNat) from
   let⟨r0,ay,nx,mz⟩:=hz;⟨⟨r0,ay,trivial⟩,fun e=>⟨nx e,mz e⟩⟩
  refine⟨?_,?_,?_,?_⟩
  .obtain⟨a,c,-⟩:=h;obtain⟨-,-,P,p,-⟩:=t;simp only[BS,BZ,zR,zL,zS,uR,Cp,zW] at a c P p;obtain⟨v1,v2,Z⟩:=r;intro e;have D:=a.1 (c.1 (P.1 e).1).2;rw[W] at D;have hl:=On (M:=L T 11) (B:=L T 19) (I J 22).toNat;grind
  .obtain⟨a,c,-⟩:=h;simp only[BS,BZ,zR] at a c;grind
  .obtain⟨a,c,-,u,v,w,x,i,j,y,z,C,-,l,-,o,-⟩:=h;obtain⟨-,O,-,p,Q,-,-,V,q,-⟩:=t;simp only[BS,BZ,zR,w2P,zL,zS,uR,Cp,zW,zC] at a c u v w x i j y z C l o O p Q V q;obtain⟨v1,v2,Z⟩:=r;intro e;have D:=a.1 (c.1 e).2;rw[W] at D;have a1:=o2' q (by omega);refine⟨by omega,by omega,?_⟩;rw[a1,show ((I J 22)+1).toNat=(I J 22).toNat+1 by omega];refine Eq.trans ?_ (BI (C9 ((L T 11)) ((L T 19)) (I J 22).toNat) Z);unfold C9 MK;rw[ad] at u v w x i j y z C;rw[ab] at l o;rw[i] at l;rw[j] at o;by_cases Y:(B J 41)=true
   .have X:=O.1 Y;rw[V,BH Y,BH ⟨l.1 X.1,o.1 X.2⟩,Q,p,u,v,w,x,i,j,y,z,C];rfl
   .grind
  .obtain⟨a,c,-⟩:=h;obtain⟨-,-,-,-,-,-,-,-,q,-⟩:=t;simp only[BS,BZ,zR,w2P] at a c q;grind
theorem bE (a3:zA T)(a1:∀u∈(L T 0),Bb BT KP u)(a4:zG T)(Q:zH T)(h9:zI T)(h8:(L T 8)=[])(X:((L T 0)).length<=24)(a5:E3 T (I T 10) (L T 11))(H:¬B T 12=true)(ag:zJ T)(al:(L T 21)=[])(ad:(L T 19)=CH ((L T 1)))(Y:((L T 19)).length<=40)(Z:(L T 11)=CE ((L T 0)))(ab:(B T 13)=true)(h6:(L T 6)=L T 0)(F:Fm T (I T 22) (L T 23))(J:¬B T 25=true)(c:BV T E1)(g:BV T De)(d:BV T HC)(a:BV T EP)(e:BV T LD):
  ((L T 11)=CE (L T 0)/\L T 6=L T 0/\I T 7=((L T 0)).length/\I T 49=((L T 23)).length)/\((L T 23)=Fg (CE (L T 0)) (CH (L T 1)))/\(DD (L T 0)/\OkR (L T 0)/\((L T 0)).length<=24/\((L T 23)).length<=40/\∀u∈(L T 23),MX (L T 0) u):=by
 have r:=c;clear c;have i:=g;clear g;have s:=d;clear d;obtain⟨t,a⟩:=a.cut;have W:=a;clear a;have v:=e;clear e;have p:(L T 11)=CE (L T 0)/\L T 6=L T 0/\I T 7=((L T 0)).length/\I T 49=((L T 23)).length:=by
  obtain⟨-,-,x,-,z,A,-,C,-⟩:=r;obtain⟨w,-⟩:=i;obtain⟨y,-⟩:=v;simp only[BS,BZ,zR,zL,zS] at x z A C w y;grind
 have q:(L T 23)=Fg (CE (L T 0)) (CH (L T 1)):=by
  obtain⟨-,j,-⟩:=i;obtain⟨b,k,-⟩:=s;obtain⟨l,o,-⟩:=t;replace b:L T 19=(CH (L T 1)):=b;simp only[BS,BZ,zR,zL] at j k l o;obtain⟨v1,v2,V⟩:=F;have D:=j.2 (by simpa using H);have a6:¬I T 22 < I T 20:=fun h=>J (o.2 ⟨D,l.2 h⟩);have an:=k;rw[V,show (I T 22).toNat=((L T 19)).length by omega,p.1,b];rfl
 have E:DD (L T 0)/\OkR (L T 0)/\((L T 0)).length<=24/\((L T 23)).length<=40/\∀u∈(L T 23),MX (L T 0) u:=by
  obtain⟨O,P,p3⟩:=Q;obtain⟨K,o2,N⟩:=Nm O;have hl:=On (M:=CE (L T 0)) (B:=CH (L T 1)) (CH (L T 1)).length;have hb:=Jg (L:=L T 1);rw[q];exact⟨o2,K,N,by unfold Fg;omega,Mo o2 (UN P) _ (AE _)⟩
 exact⟨p,q,E⟩
abbrev zK(T:Tab):Prop:=(L T 11)=CE (L T 0)/\L T 6=L T 0/\I T 7=((L T 0)).length/\I T 49=((L T 23)).length
abbrev zM(T:Tab):Prop:=DD (L T 0)/\OkR (L T 0)/\((L T 0)).length<=24/\((L T 23)).length<=40/\∀u∈(L T 23),MX (L T 0) u
theorem fg (C:zK T)(N:zM T)(hS:Ba T (Bh (Bh (hds 22 [.i,.l]++(Bh (Bh (hds 10 [.i,.l]++(Bh (CA 0 E0.ks) E1)) De) HC)) EP) LD))(hB:Bi T (Fq.map En.be))(hH:Bi T ((B5 LH [.i,.l] PJ).map En.be)):
  (LH).owes (PJ.map (Rf.eval T))/\Ba T (hds 50 [.i,.l])/\(HE T (I T 50) (L T 51))/\¬B T 52=true:=by
 refine CK (nh:=50) (k:=2) (pcn:=52) (R:=67) (b:=Fq) (K:=T9) (nxt:=[.e 66,.e 65]) (H:=[.c (.int 0),.e 6]) (fv:=[7,11,23,49]) (A:=[.i,.l]) (by kernel_rfl) rfl rfl rfl rfl hS (by kernel_rfl) (by kernel_rfl) hB (B6 hH) (fun s=>HE T (aI s 0) (aL s 1)) (fun s=>(((L T 23)).length - (aI s 0)).toNat) ?_ ?_
 .show HE T (0:Int) (L T 6);clear hS hB hH;exact⟨Aw _,by omega,C.2.1⟩
 .intro J O Z z;replace z:HE T (I J 50) (L J 51):=z;clear hS hB hH;replace Z:BV J Fq:=Z;have y:=Z;clear Z;have a9:=fvI (O 7 (by decide));have E:=fvL (O 11 (by decide));have F:=fvL (O 23 (by decide));have M:=fvI (O 49 (by decide));clear O
  suffices hz:(B J 52=true->((L J 51)).length=I J 7/\I J 63 < I J 7/\I J 64 < I J 7/\¬I J 63=I J 64/\ -10000<=BU (L J 51) (I J 63).toNat 1/\BU (L J 51) (I J 63).toNat 1<=10000/\ -12<=BU (L J 51) (I J 63).toNat 2/\BU (L J 51) (I J 63).toNat 2<=48)/\(B J 52=true-> -10000<=BU (L J 51) (I J 64).toNat 1/\BU (L J 51) (I J 64).toNat 1<=10000/\ -12<=BU (L J 51) (I J 64).toNat 2/\BU (L J 51) (I J 64).toNat 2<=48)/\(B J 52=true->0<=I J 64/\I J 64 < I J 7)/\(B J 52=true->0<=I J 63/\I J 63 < I J 7)/\(B J 52=true->0<=I J 50/\I J 50 < ((L J 23)).length)/\(B J 52=true->(HE T (I J 66) (L J 65)))/\(B J 52=true->(((L T 23)).length - (I J 66)).toNat < (((L T 23)).length - (I J 50)).toNat) from
   let⟨r0,ay,aG,r3,r4,r,mz⟩:=hz;⟨⟨r0,ay,aG,r3,r4,trivial⟩,fun q=>⟨r q,mz q⟩⟩
  refine⟨?_,?_,?_,?_,?_,?_,?_⟩
  .obtain⟨i,-,-,-,-,-,e,g,h,-,-,c,d,-⟩:=y;simp only[BS,zR,zL,uR,zW,BZ,zC,zS] at i e g h c d;obtain⟨v1,v2,u⟩:=z;obtain⟨au,V,m3,m4⟩:=C;obtain⟨o,aw,X,Y,v⟩:=N;have p:(L J 51)=upK (ctU (L T 11)) (L T 23) (I J 50).toNat (L T 0):=u;have x:nmL ((L J 51))=nmL ((L T 0)):=by rw[p];exact IF _
   have q3:((L J 51)).length=((L T 0)).length:=DG x;have D:OkR ((L J 51)):=by rw[p];exact GK aw _
   intro q;have w:=(i.1 (q));rw[M] at w;rw[F] at e g h;rw[E,au] at c d;have a:=v (((L T 23)).getD (I J 50).toNat []) (by rw[Dd (by omega)];exact yM _);have j:(S J 58)=uS (((L T 23)).getD (I J 50).toNat []) 4:=e;have l:(S J 59)=uS (((L T 23)).getD (I J 50).toNat []) 5:=g;have P:(I J 63)=Bv (L T 0) (S J 58):=Eq.trans c (CO o (by rw[j];exact a.1));have Q:(I J 64)=Bv (L T 0) (S J 59):=Eq.trans d (CO o (by rw[l];exact a.2.1));have t:=a.1;have r:=a.2.1;rw[<-j] at t;rw[<-l] at r;have ne:¬Bv (L T 0) (S J 58)=Bv (L T 0) (S J 59):=FD t r (by rw[j,l];exact a.2.2);have:=D (I J 63).toNat (by omega);omega
  .obtain⟨i,-,-,-,-,-,e,g,h,-,-,c,d,-⟩:=y;simp only[BS,zR,zL,uR,zW,BZ,zC,zS] at i e g h c d;obtain⟨v1,v2,u⟩:=z;obtain⟨au,V,m3,m4⟩:=C;obtain⟨o,aw,X,Y,v⟩:=N;have p:(L J 51)=upK (ctU (L T 11)) (L T 23) (I J 50).toNat (L T 0):=u;have x:nmL ((L J 51))=nmL ((L T 0)):=by rw[p];exact IF _
   have q3:((L J 51)).length=((L T 0)).length:=DG x;have D:OkR ((L J 51)):=by rw[p];exact GK aw _
   intro q;have w:=(i.1 (q));rw[M] at w;rw[F] at e g h;rw[E,au] at c d;have a:=v (((L T 23)).getD (I J 50).toNat []) (by rw[Dd (by omega)];exact yM _);have j:(S J 58)=uS (((L T 23)).getD (I J 50).toNat []) 4:=e;have l:(S J 59)=uS (((L T 23)).getD (I J 50).toNat []) 5:=g;have P:(I J 63)=Bv (L T 0) (S J 58):=Eq.trans c (CO o (by rw[j];exact a.1));have Q:(I J 64)=Bv (L T 0) (S J 59):=Eq.trans d (CO o (by rw[l];exact a.2.1));have t:=a.1;have r:=a.2.1;rw[<-j] at t;rw[<-l] at r;have ne:¬Bv (L T 0) (S J 58)=Bv (L T 0) (S J 59):=FD t r (by rw[j,l];exact a.2.2);have:=D (I J 64).toNat (by omega);exact this
  .obtain⟨i,-,-,-,-,-,e,g,h,-,-,c,d,-⟩:=y;simp only[BS,zR,zL,uR,zW,BZ,zC,zS] at i e g h c d;obtain⟨v1,v2,u⟩:=z;obtain⟨au,V,m3,m4⟩:=C;obtain⟨o,aw,X,Y,v⟩:=N;have p:(L J 51)=upK (ctU (L T 11)) (L T 23) (I J 50).toNat (L T 0):=u;have x:nmL ((L J 51))=nmL ((L T 0)):=by rw[p];exact IF _
   have q3:((L J 51)).length=((L T 0)).length:=DG x;have D:OkR ((L J 51)):=by rw[p];exact GK aw _
   intro q;have w:=(i.1 (q));rw[M] at w;rw[F] at e g h;rw[E,au] at c d;have a:=v (((L T 23)).getD (I J 50).toNat []) (by rw[Dd (by omega)];exact yM _);have j:(S J 58)=uS (((L T 23)).getD (I J 50).toNat []) 4:=e;have l:(S J 59)=uS (((L T 23)).getD (I J 50).toNat []) 5:=g;have P:(I J 63)=Bv (L T 0) (S J 58):=Eq.trans c (CO o (by rw[j];exact a.1));have Q:(I J 64)=Bv (L T 0) (S J 59):=Eq.trans d (CO o (by rw[l];exact a.2.1));have t:=a.1;have r:=a.2.1;grind
  .obtain⟨i,-,-,-,-,-,e,g,h,-,-,c,d,-⟩:=y;simp only[BS,zR,zL,uR,zW,BZ,zC,zS] at i e g h c d;obtain⟨v1,v2,u⟩:=z;obtain⟨au,V,m3,m4⟩:=C;obtain⟨o,aw,X,Y,v⟩:=N;have p:(L J 51)=upK (ctU (L T 11)) (L T 23) (I J 50).toNat (L T 0):=u;have x:nmL ((L J 51))=nmL ((L T 0)):=by rw[p];exact IF _
   have q3:((L J 51)).length=((L T 0)).length:=DG x;have D:OkR ((L J 51)):=by rw[p];exact GK aw _
   intro q;have w:=(i.1 (q));rw[M] at w;rw[F] at e g h;rw[E,au] at c d;have a:=v (((L T 23)).getD (I J 50).toNat []) (by rw[Dd (by omega)];exact yM _);have j:(S J 58)=uS (((L T 23)).getD (I J 50).toNat []) 4:=e;have l:(S J 59)=uS (((L T 23)).getD (I J 50).toNat []) 5:=g;have P:(I J 63)=Bv (L T 0) (S J 58):=Eq.trans c (CO o (by rw[j];exact a.1));have Q:(I J 64)=Bv (L T 0) (S J 59):=Eq.trans d (CO o (by rw[l];exact a.2.1));have t:=a.1;grind
  .obtain⟨i,-,-,-,-,-,e,g,h,-,-,c,d,-⟩:=y;simp only[BS,zR,zL,uR,zW,BZ,zC,zS] at i e g h c d;grind
  .obtain⟨i,-,-,-,-,-,e,g,h,-,-,c,d,ao,W,-⟩:=y;replace ao:L J 65=(FI (L J 51) (I J 63).toNat (I J 64).toNat (B J 60)):=ao;simp only[BS,zR,w2P,zL,uR,zW,BZ,zC,zS] at i e g h c d W;obtain⟨v1,v2,u⟩:=z;obtain⟨au,V,m3,m4⟩:=C;obtain⟨o,aw,X,Y,v⟩:=N;have p:(L J 51)=upK (ctU (L T 11)) (L T 23) (I J 50).toNat (L T 0):=u;have x:nmL ((L J 51))=nmL ((L T 0)):=by rw[p];exact IF _
   have q3:((L J 51)).length=((L T 0)).length:=DG x;have D:OkR ((L J 51)):=by rw[p];exact GK aw _
   intro q;have w:=(i.1 (q));rw[M] at w;rw[F] at e g h;rw[E,au] at c d;have a:=v (((L T 23)).getD (I J 50).toNat []) (by rw[Dd (by omega)];exact yM _);have j:(S J 58)=uS (((L T 23)).getD (I J 50).toNat []) 4:=e;have l:(S J 59)=uS (((L T 23)).getD (I J 50).toNat []) 5:=g;have P:(I J 63)=Bv (L T 0) (S J 58):=Eq.trans c (CO o (by rw[j];exact a.1));have Q:(I J 64)=Bv (L T 0) (S J 59):=Eq.trans d (CO o (by rw[l];exact a.2.1));have t:=a.1;have r:=a.2.1;rw[<-j] at t;rw[<-l] at r;have ne:¬Bv (L T 0) (S J 58)=Bv (L T 0) (S J 59):=FD t r (by rw[j,l];exact a.2.2);have xn:=o2' W (by omega);refine⟨by omega,by omega,?_⟩;rw[xn,show ((I J 50)+1).toNat=(I J 50).toNat+1 by omega];show _=ctU ((L T 11)) (upK (ctU (L T 11)) (L T 23) (I J 50).toNat (L T 0)) (((L T 23)).getD (I J 50).toNat []);rw[<-u,ao,c,d,j,l,h,au];rfl
  .obtain⟨i,-,-,-,-,-,e,g,h,-,-,c,d,-,W,-⟩:=y;simp only[BS,zR,w2P,zL,uR,zW,BZ,zC,zS] at i e g h c d W;grind
theorem pK (Z:zA T)(Y:∀u∈(L T 0),Bb BT KP u)(ab:zG T)(b:zH T)(X:zI T)(W:(L T 8)=[])(D:((L T 0)).length<=24)(ad:E3 T (I T 10) (L T 11))(ax:¬B T 12=true)(O:zJ T)(P:(L T 21)=[])(N:(L T 19)=CH ((L T 1)))(E:((L T 19)).length<=40)(K:(L T 11)=CE ((L T 0)))(M:(B T 13)=true)(Q:(L T 6)=L T 0)(ag:Fm T (I T 22) (L T 23))(a0:¬B T 25=true)(r:zK T)(s:(L T 23)=Fg (CE (L T 0)) (CH (L T 1)))(q:zM T)(t:HE T (I T 50) (L T 51))(v:¬B T 52=true)(c:BV T E1)(g:BV T De)(d:BV T HC)(a:BV T EP)(e:BV T LD)(i:BV T Fq):
  ((L T 51)=(FP (L T 0) (L T 1)))/\
  (0=((0:Int)))/\
  (B T 13=true->((L T 1)).length<=40)/\
  ((((L T 4)).length+((L T 0)).length)*32<=140737488355328)/\
  (Bc (L T 1)=0)/\
  (BW (L T 0)=0):=by
 have k:=c;clear c;have x:=g;clear g;have y:=d;clear d;obtain⟨z,a⟩:=a.cut;have A:=a;clear a;have C:=e;clear e;have l:=i;clear i;refine⟨?_,?_,?_,?_,?_,?_⟩
 .obtain⟨j,-⟩:=l;simp only[BS,zR] at j;obtain⟨v1,v2,w⟩:=t;obtain⟨au,V,m3,m4⟩:=r;obtain⟨p,aw,F,H,J⟩:=q;have ao:¬I T 50 < I T 49:=fun h=>v (j.2 h);rw[w,show (I T 50).toNat=((L T 23)).length by omega,au,s];exact gS p
 .rfl
 .intro h;exact b.2.2
 .obtain⟨-,-,o,-⟩:=k;simp only[BS,zR,zL,zS] at o;grind
 .exact b.2.1
 .exact b.1
theorem kW:Bl Try.prog 24 E0:=by
 refine GX FU (l:=[(41,Ea),(47,Hd),(65,FQ),(58,Gb)]) CP (by simp only[AW];exact⟨Jk,RF,U8,Yq,fun _ h=>absurd h (by simp)⟩) oq (by kernel_rfl) fun T us Y X F k an a=>?_;change us.length=2 at F;obtain⟨⟨o,a1⟩,⟨p,bi⟩,-⟩:=an;replace o:(L T 0).length<=140737488355328:=o;have x:∀u∈(L T 0),Bb BT KP u:=fun u hu=>by
  obtain⟨i,Z⟩:=Ac.1 hu;exact a1 i u Z
 replace p:(L T 1).length<=140737488355328:=p;have ax:=inL (j:=0) X F (by decide);have a0:=inL (j:=1) X F (by decide);have r:BW (L T 0)=0/\Bc (L T 1)=0/\((L T 1)).length<=40:=by
  have h:=Y (.s "SettleV.p0",LS) (by simp[E0]);change LS us at h;unfold LS at h;grind
 clear Y;rw[AL,AL,AL,AL,AL,AL,AL,AL,AL] at a;obtain⟨d,a⟩:=cutB a;obtain⟨e,a⟩:=cutB a;obtain⟨b,a⟩:=cutB a;obtain⟨s,c⟩:=Be k (by kernel_rfl) d;obtain⟨w,v,t⟩:=bC o x p r s;obtain⟨a5,g,H,J⟩:=gD r w v t c b e;have q:=(Be (g.append c) (l:=De) (by kernel_rfl) b);obtain⟨z,k⟩:=q;clear d b e c g;obtain⟨d,a⟩:=cutB a;obtain⟨e,a⟩:=cutB a;obtain⟨b,a⟩:=cutB a;obtain⟨y,c⟩:=Be k (by kernel_rfl) d;obtain⟨D,E,P,C,N,O,Q⟩:=aF o x p r w v t H J s z y;obtain⟨a6,g,ab,ad⟩:=gU D E C c b e;have q:=(Be (g.append c) (l:=EP) (by kernel_rfl) b);obtain⟨M,k⟩:=q;clear d b e c g;obtain⟨d,a⟩:=cutB a;obtain⟨e,a⟩:=cutB a;obtain⟨b,a⟩:=cutB a;obtain⟨K,c⟩:=Be k (by kernel_rfl) d;obtain⟨W,hX,V⟩:=bE o x p r w v t H J D E P C N O Q ab ad s z y M K;obtain⟨a7,g,a3,a4⟩:=fg W V c b e;have q:=(Be (g.append c) (l:=Fq) (by kernel_rfl) b);obtain⟨B2,k⟩:=q;clear d b e c g;obtain⟨A3,hO⟩:=B8 (A:=[.l,.i]) (ag:=YX) k (by kernel_rfl) a;obtain⟨q0,q1,r0,ay,aG,r3⟩:=pK o x p r w v t H J D E P C N O Q ab ad W hX V a3 a4 s z y M K B2;refine⟨⟨(fun _=>a7),(fun _=>a6),r0,(fun _=>a5),(fun _=>ay),(fun _=>aG),(fun _=>r3),trivial⟩,hO.trans ?_⟩;exact (lc (by show U.list (L T 51)= .list (Fr us);unfold Fr;rw[ax,a0];exact BI U.list q0) (lc (by show U.int 0= .int (Fu us);unfold Fu;exact BI U.int q1) rfl))
end
section
open Go Go.Eng Go.Proofs
set_option maxRecDepth 100000
def PF:List U->Int:=fun us=>(BW (aL us 0))
def Oz:List U->Prop:=fun us=>¬BW (aL us 0)=0
def Lg:Bf:={ sh:=[.one (.list [.str,k64,k64])],blks:=[],outs:=[(.s "checkPn.0",CW PF)],c:= .i .i64 1 100 1,m':=[],pre:=[(.s "checkPn.p0",Oz)] }
theorem fL {l:List (List U)}(h:¬BW l=0):1<=BW l/\BW l<=100:=by
 unfold BW at h⊢;grind
theorem VR:Bl Try.prog 41 Lg:=eQ SM rfl rfl rfl rfl rfl (fun _=>rfl) rfl rfl fun us b c=>by
 have a:=c _ (Al.2 rfl);replace a:¬BW (aL us 0)=0:=a;have b:us.length=1:=b
 match us,b,a with
 |[u],_,a=>exact⟨⟨_,rfl,fL a⟩,fun q d=>by cases d⟩
end
section
open Go Go.Eng Go.Proofs
set_option maxHeartbeats 4000000
set_option maxRecDepth 100000
def G0:List U->Int:=fun us=>(BW (aL us 0))
def LK:List U->Prop:=fun us=>¬BW (aL us 0)=0
def MB:Bf:={ sh:=[.one (.list [.str,k64,k64]),.one (.list [k64,k64,k64,.bool,.str,.str,.bool,k64,k64])],blks:=[],outs:=[(.s "SettleP.0",CW G0)],c:= .tup [.cv .nilSlice,(Cy 2)],m':=[],pre:=[(.s "SettleP.p0",LK)] }
def Zn:List En:=[⟨2,.outI "checkPn.0" PF,[.e 0]⟩]
def UJ:List En:=Zn
def pY:List ObE:=[⟨none,.pre "checkPn.p0" Oz,[.e 0]⟩]
def X2:List Rf:=[.e 2]
theorem pZ:MB.sees X2 (MB.runC Try.prog Gy [(41,Lg)] NZ 3000 20 24)=some ((UJ).map En.be,pY.map ObE.be,[]):=by kernel_rfl
theorem qN {T:Tab}(e:zA T)(g:zG T)(d:¬BW (L T 0)=0)(b:BV T UJ):
  ((I T 2)=(BW (L T 0)))/\
  (¬BW (L T 0)=0):=by
 have c:=b;clear b;refine⟨?_,?_⟩
 .obtain⟨a,-⟩:=c;replace a:I T 2=(BW (L T 0)):=a;exact a
 .exact d
theorem lT:Bl Try.prog 24 MB:=by
 refine GX FU (l:=[(41,Lg)]) CP (by simp only[AW];exact⟨VR,fun _ h=>absurd h (by simp)⟩) pZ (by kernel_rfl) fun T us d q e p i k=>?_;change us.length=2 at e;obtain⟨⟨a,u⟩,⟨b,v⟩,-⟩:=i;replace a:(L T 0).length<=140737488355328:=a;replace b:(L T 1).length<=140737488355328:=b;have c:=inL (j:=0) q e (by decide);have r:¬BW (L T 0)=0:=by
  have h:=d (.s "SettleP.p0",LK) (by simp[MB]);change LK us at h;unfold LK at h;simp only[c] at h;exact h
 clear d
 skip
 obtain⟨g,o⟩:=B8 (A:=[.i]) (ag:=X2) p (by kernel_rfl) k;obtain⟨s,t⟩:=qN a b r g;refine⟨⟨(fun _=>t),trivial⟩,o.trans ?_⟩;exact (lc (by show U.int (I T 2)= .int (G0 us);unfold G0;rw[c];exact BI U.int s) rfl)
end
section
open Go Go.Eng Go.Proofs
set_option maxRecDepth 100000
def PG:List U->Int:=fun us=>(Bc (aL us 0))
def PK:List U->Prop:=fun us=>¬Bc (aL us 0)=0
def L6:Bf:={ sh:=[.one (.list [k64,k64,k64,.bool,.str,.str,.bool,k64,k64])],blks:=[],outs:=[(.s "checkLn.0",CW PG)],c:= .i .i64 1 100 1,m':=[],pre:=[(.s "checkLn.p0",PK)] }
theorem mJ {l:List (List U)}(h:¬Bc l=0):1<=Bc l/\Bc l<=100:=by
 unfold Bc at h⊢;grind
theorem Wy:Bl Try.prog 47 L6:=eQ YU rfl rfl rfl rfl rfl (fun _=>rfl) rfl rfl fun us b c=>by
 have a:=c _ (Al.2 rfl);replace a:¬Bc (aL us 0)=0:=a;have b:us.length=1:=b
 match us,b,a with
 |[u],_,a=>exact⟨⟨_,rfl,mJ a⟩,fun q d=>by cases d⟩
end
section
open Go Go.Eng Go.Proofs
set_option maxHeartbeats 4000000
set_option maxRecDepth 100000
def G6:List U->Int:=fun us=>(Bc (aL us 1))
def Le:List U->Prop:=fun us=>BW (aL us 0)=0/\¬Bc (aL us 1)=0
def Lm:Bf:={ sh:=[.one (.list [.str,k64,k64]),.one (.list [k64,k64,k64,.bool,.str,.str,.bool,k64,k64])],blks:=[],outs:=[(.s "SettleL.0",CW G6)],c:= .tup [.cv .nilSlice,(Cy 2)],m':=[],pre:=[(.s "SettleL.p0",Le)] }
def Zc:List En:=[⟨2,.outI "checkPk.0" Ig,[.e 0]⟩,
 ⟨3,.outI "checkLn.0" PG,[.e 1]⟩]
def Te:List En:=Zc
def m6:List ObE:=[⟨none,.pre "checkLn.p0" PK,[.e 1]⟩,
 ⟨none,.pre "checkPk.p0" G4,[.e 0]⟩]
def X4:List Rf:=[.e 3]
theorem qA:Lm.sees X4 (Lm.runC Try.prog Gy [(41,Ea),(47,L6)] NZ 3000 20 24)=some ((Te).map En.be,m6.map ObE.be,[]):=by kernel_rfl
theorem m9 {T:Tab}(e:zA T)(g:zG T)(c:BW (L T 0)=0/\¬Bc (L T 1)=0)(b:BV T Te):
  ((I T 3)=(Bc (L T 1)))/\
  (¬Bc (L T 1)=0)/\
  (BW (L T 0)=0):=by
 have d:=b;clear b;refine⟨?_,?_,?_⟩
 .obtain⟨-,a,-⟩:=d;replace a:I T 3=(Bc (L T 1)):=a;exact a
 .exact c.2
 .exact c.1
theorem lh:Bl Try.prog 24 Lm:=by
 refine GX FU (l:=[(41,Ea),(47,L6)]) CP (by simp only[AW];exact⟨Jk,Wy,fun _ h=>absurd h (by simp)⟩) qA (by kernel_rfl) fun T us g d c q k o=>?_;change us.length=2 at c;obtain⟨⟨a,v⟩,⟨b,w⟩,-⟩:=k;replace a:(L T 0).length<=140737488355328:=a;replace b:(L T 1).length<=140737488355328:=b;have r:=inL (j:=0) d c (by decide);have e:=inL (j:=1) d c (by decide);have s:BW (L T 0)=0/\¬Bc (L T 1)=0:=by
  have h:=g (.s "SettleL.p0",Le) (by simp[Lm]);change Le us at h;unfold Le at h;simp only[r,e] at h;exact h
 clear g
 skip
 obtain⟨i,p⟩:=B8 (A:=[.i]) (ag:=X4) q (by kernel_rfl) o;obtain⟨t,u,ay⟩:=m9 a b s i;refine⟨⟨(fun _=>u),(fun _=>ay),trivial⟩,p.trans ?_⟩;exact (lc (by show U.int (I T 3)= .int (G6 us);unfold G6;rw[e];exact BI U.int t) rfl)
end
section
open Go Go.Eng Go.Proofs
set_option maxRecDepth 100000
def Dt:List U->List (List U):=fun us=>(if (if¬BW (aL us 0)=0 then BW (aL us 0) else Bc (aL us 1))=0 then FP (aL us 0) (aL us 1) else [])
def Dz:List U->Int:=fun us=>((if¬BW (aL us 0)=0 then BW (aL us 0) else Bc (aL us 1)))
def Vg:List U->Prop:=fun us=>((aL us 1)).length<=40\/200 < ((aL us 1)).length
def P6:Bf:={ sh:=[.one (.list [.str,k64,k64]),.one (.list [k64,k64,k64,.bool,.str,.str,.bool,k64,k64])],blks:=[],outs:=[(.s "Settle.0",D1 Dt),(.s "Settle.1",CW Dz)],c:= .tup [.ro 2 [.str,k64,k64],(Cy 3)],m':=[],pre:=[(.s "Settle.p0",Vg)] }
theorem nl:Bl Try.prog 24 P6:=WL rfl rfl (fun _=>QA) fun us b g=>by
 replace b:us.length=2:=b;have A:(aL us 1).length<=40\/200 < (aL us 1).length:=g _ (Al.2 rfl);by_cases c:BW (aL us 0)=0
 .by_cases h:Bc (aL us 1)=0
  .have z:(aL us 1).length<=40:=by have:=Mp h;omega
   have l:Dt us=Fr us:=by unfold Dt Fr;rw[c,h];rfl
   have o:Dz us=Fu us:=by unfold Dz Fu;rw[c,h];rfl
   refine⟨E0,⟨kW,fun p g=>by rw[Al.1 g];exact⟨c,h,z⟩,rfl,rfl,rfl,rfl,fun T aA W w v t d q r=>dP t (fun x u=>?_) r⟩⟩;have y:P6.us us=E0.us us:=by
    show us++[U.list (Dt us),U.int (Dz us)]=us++[U.list (Fr us),U.int (Fu us)];rw[l,o]
   have u:x < (E0.us us).length:=by
    show x < (us++[U.list (Fr us),U.int (Fu us)]).length;rw[AP,b];exact u
   have e:=AF u;rw[q x _ e,d x _ (by rw[y];exact e)]
  .have l:Dt us=[]:=by unfold Dt;exact BG (fun a=>h (Q7 a).2)
   have o:Dz us=G6 us:=by unfold Dz;unfold G6;rw[BG (fun k=>k c)]
   refine⟨Lm,⟨lh,fun p g=>by rw[Al.1 g];exact⟨c,h⟩,rfl,rfl,rfl,rfl,fun T aA W w v t d q r=>?_⟩⟩;have i:T 2= .list (Dt us):=d 2 _ (by unfold Bf.us;rw[AS (by omega),b];rfl);have j:T 3= .int (Dz us):=d 3 _ (by unfold Bf.us;rw[AS (by omega),b];rfl);have s:aA 2= .int (G6 us):=q 2 _ (by unfold Bf.us;rw[AS (by omega),b];rfl);rw[l] at i;rw[o] at j;exact S9 (by decide) (by decide) i (j.trans s.symm) r
 .have l:Dt us=[]:=by unfold Dt;exact BG (fun a=>c (Q7 a).1)
  have o:Dz us=G0 us:=by unfold Dz;unfold G0;rw[BH c]
  refine⟨MB,⟨lT,fun p g=>by rw[Al.1 g];exact c,rfl,rfl,rfl,rfl,fun T aA W w v t d q r=>?_⟩⟩;have i:T 2= .list (Dt us):=d 2 _ (by unfold Bf.us;rw[AS (by omega),b];rfl);have j:T 3= .int (Dz us):=d 3 _ (by unfold Bf.us;rw[AS (by omega),b];rfl);have s:aA 2= .int (G0 us):=q 2 _ (by unfold Bf.us;rw[AS (by omega),b];rfl);rw[l] at i;rw[o] at j;exact S9 (by decide) (by decide) i (j.trans s.symm) r
end
section
open Go Go.Eng Go.Proofs
set_option maxHeartbeats 4000000
set_option maxRecDepth 100000
def IC:List U->Bool:=fun us=>(Dn (aS us 0))
def HP:Bf:={ sh:=[.one (.str)],blks:=[],outs:=[(.s "xnamed.0",Jx IC)],c:= .b 1,m':=[],pre:=[] }
def cR:List En:=[⟨1,.slen,[.e 0]⟩,
 ⟨2,.lt,[.e 1,.c (.int 1)]⟩,
 ABI 3 2,
 ⟨4,.slen,[.e 0]⟩,
 ⟨5,.lt,[.c (.int 20),.e 4]⟩,
 ABG 6 2 5,
 ABI 7 6]
def Qr:List En:=cR
def ak:List En:=[⟨9,.slen,[.e 0]⟩,
 ABH 10 8 9,
 ABE 11 7 10,
 ABF 12 7 10,
 ⟨13,.sat,[.e 0,.e 8]⟩,
 ⟨14,.le,[.c (.int 97),.e 13]⟩,
 ABE 15 11 14,
 ⟨16,.sat,[.e 0,.e 8]⟩,
 ⟨17,.le,[.e 16,.c (.int 122)]⟩,
 ABE 18 14 17,
 ABF 19 11 18,
 ⟨20,.sat,[.e 0,.e 8]⟩,
 ⟨21,.le,[.c (.int 48),.e 20]⟩,
 ABE 22 19 21,
 ⟨23,.sat,[.e 0,.e 8]⟩,
 ⟨24,.le,[.e 23,.c (.int 57)]⟩]
def cw:List En:=[ABE 25 21 24,
 ABG 26 18 25,
 ABE 27 11 26,
 ABF 28 11 26,
 ⟨29,.w2 .i64 .add,[.e 8,.c (.int 1)]⟩]
def Ge:List En:=ak++(cw)
def Wf:List ObE:=[⟨some 22,.ins,[.e 0,.e 8]⟩,⟨some 19,.ins,[.e 0,.e 8]⟩,⟨some 15,.ins,[.e 0,.e 8]⟩,⟨some 11,.ins,[.e 0,.e 8]⟩]
def Mj:Bs:=mkD 8 1 Ge 27 [.e 29] Wf [0,7]
def Qb:List Rf:=[.e 0,.e 7,.c (.int 0)]
def eM:List En:=[⟨30,.ite .b,[.e 28,.c (.bool false),.c (.bool true)]⟩,
 ABG 31 28 12,
 ⟨32,.ite .b,[.e 6,.c (.bool false),.e 30]⟩,
 ABG 33 6 31]
def WQ:List En:=eM
def tW:List ObE:=[⟨some 7,.owes Mj,[.e 0,.e 7,.c (.int 0)]⟩]
def bg:List Rf:=[.e 32]
theorem rK:HP.sees bg (HP.run Try.prog [] Bp 3000 20 64)=some ((Qr++((B5 Mj [.i] Qb)++(Ge++(WQ)))).map En.be,tW.map ObE.be,[]):=by kernel_rfl
abbrev yw(T:Tab)(a:Int):Prop:=0<=a/\a <=((S T 0)).size/\(∀j:Nat,(j:Int) <a ->okB (S T 0) j)
abbrev zO(T:Tab):Prop:=(S T 0).size<=140737488355328
variable{T:Tab}
theorem l6 (a4:zO T)(N:Ba T (Bh (CA 0 HP.ks) Qr))(F:Bi T (Ge.map En.be))(M:Bi T ((B5 Mj [.i] Qb).map En.be)):
  (Mj).owes (Qb.map (Rf.eval T))/\Ba T (hds 8 [.i])/\(yw T (I T 8))/\¬B T 27=true:=by
 refine CK (nh:=8) (k:=1) (pcn:=27) (R:=30) (b:=Ge) (K:=Wf) (nxt:=[.e 29]) (H:=[.c (.int 0)]) (fv:=[0,7]) (A:=[.i]) (by kernel_rfl) rfl rfl rfl rfl N (by kernel_rfl) (by kernel_rfl) F (B6 M) (fun s=>yw T (aI s 0)) (fun s=>(((S T 0)).size - (aI s 0)).toNat) ?_ ?_
 .show yw T (0:Int);clear N F M;exact⟨by omega,by omega,fun j X=>absurd X (by omega)⟩
 .intro J O r o;replace o:yw T (I J 8):=o;clear N F M;replace r:BV J Ge:=r;obtain⟨q,r⟩:=r.cut;have P:=r;clear r;have a:=fvS (O 0 (by decide));have a2:=fvB (O 7 (by decide));clear O
  suffices hz:(B J 22=true->0<=I J 8/\I J 8 < ((S J 0)).size)/\(B J 19=true->0<=I J 8/\I J 8 < ((S J 0)).size)/\(B J 15=true->0<=I J 8/\I J 8 < ((S J 0)).size)/\(B J 11=true->0<=I J 8/\I J 8 < ((S J 0)).size)/\(B J 27=true->(yw T (I J 29)))/\(B J 27=true->(((S T 0)).size - (I J 29)).toNat < (((S T 0)).size - (I J 8)).toNat) from
   let⟨r0,ay,aG,r3,nx,mz⟩:=hz;⟨⟨r0,ay,aG,r3,trivial⟩,fun l=>⟨nx l,mz l⟩⟩
  refine⟨?_,?_,?_,?_,?_,?_⟩
  .obtain⟨g,c,d,-,t,w,-,x,y,z,Y,C,Q,a1,-⟩:=q;simp only[BS,BZ,zN,zR,zS] at*;obtain⟨u,v,i⟩:=o;intro l;have p:(B J 11)=true:=by clear i;grind
   have h:=c.1 (d.1 p).2;rw[g,a] at h;rw[a];omega
  .obtain⟨g,c,d,-,t,w,-,x,y,z,Y,-⟩:=q;simp only[BS,BZ,zN,zR,zS] at*;obtain⟨u,v,i⟩:=o;intro l;have p:(B J 11)=true:=by clear i;grind
   have h:=c.1 (d.1 p).2;rw[g,a] at h;rw[a];omega
  .obtain⟨g,c,d,-,t,w,a0,-⟩:=q;simp only[BS,BZ,zR,zS] at*;obtain⟨u,v,i⟩:=o;intro l;have p:(B J 11)=true:=by clear i;grind
   have h:=c.1 (d.1 p).2;rw[g,a] at h;rw[a];omega
  .obtain⟨g,c,d,-⟩:=q;simp only[BS,BZ,zR,zS] at g c d;obtain⟨u,v,i⟩:=o;intro l;have p:(B J 11)=true:=by clear i;grind
   have h:=c.1 (d.1 p).2;rw[g,a] at h;rw[a];omega
  .obtain⟨g,c,d,-,t,w,-,x,y,z,-,C,Q,-,V,Z,-⟩:=q;obtain⟨ab,ad,D,-,E,-⟩:=P;simp only[BS,BZ,zR,w2P,zS] at*;obtain⟨u,v,i⟩:=o;intro l;have W:=D.1 l;have h:=c.1 (d.1 W.1).2;rw[g,a] at h;have e:(I J 29)=I J 8+1:=o2' E (by omega);refine⟨by omega,by omega,fun j X=>?_⟩;by_cases ag:(j:Int) < I J 8
   .exact i j ag
   .obtain rfl:j=(I J 8).toNat:=by omega
    unfold okB;have a5:(I J 13)=C4 (S T 0) (I J 8).toNat:=by rw[t,a]
    have a6:(I J 16)=C4 (S T 0) (I J 8).toNat:=by rw[x,a]
    have a7:(I J 20)=C4 (S T 0) (I J 8).toNat:=by rw[C,a]
    have a8:(I J 23)=C4 (S T 0) (I J 8).toNat:=by rw[V,a]
    have a3:=W.2;clear i;grind
  .obtain⟨g,c,d,-,t,w,-,x,y,z,-,C,Q,-,V,Z,-⟩:=q;obtain⟨ab,ad,D,-,E,-⟩:=P;simp only[BS,BZ,zR,w2P,zS] at*;obtain⟨u,v,i⟩:=o;intro l;have h:=c.1 (d.1 (D.1 l).1).2;rw[g,a] at h;have e:(I J 29)=I J 8+1:=o2' E (by omega);omega
theorem sU (ax:zO T)(F:yw T (I T 8))(H:¬B T 27=true)(d:BV T Qr)(c:BV T Ge)(e:BV T WQ):
  ((B T 32)=(Dn (S T 0))):=by
 have o:=d;clear d;obtain⟨p,c⟩:=c.cut;have q:=c;clear c;have r:=e;clear e
 .obtain⟨J,P,-,e4,e5,e6,e7,-⟩:=o;obtain⟨i,g,s,-,t,K,-,u,M,N,-,v,Q,-,w,V,-⟩:=p;obtain⟨W,X,x,Y,-⟩:=q;obtain⟨Z,-,ab,-⟩:=r;simp only[BS,BZ,zN,zC,zR,zL,zS] at*;obtain⟨aO,w2,a⟩:=F;refine Bool.eq_iff_iff.2 (Iff.trans ?_ tG.symm);have a0:(I T 13)=C4 (S T 0) (I T 8).toNat:=t;have a1:(I T 16)=C4 (S T 0) (I T 8).toNat:=u;have a2:(I T 20)=C4 (S T 0) (I T 8).toNat:=v;have a3:(I T 23)=C4 (S T 0) (I T 8).toNat:=w;constructor
  .intro h;have D:¬B T 6=true:=by clear a;grind
   have A:¬B T 28=true:=by clear a;grind
   have l:¬B T 11=true:=fun h=>by
    have y:(B T 26)=true:=by clear a;grind
    have z:=x.2 ⟨h,y⟩;simp[H] at z
   have k:¬B T 10=true:=by clear a;grind
   have hn:¬I T 8 < ((S T 0)).size:=fun h=>k (g.2 (by rw[i];exact h));refine⟨by clear a;grind,by clear a;grind,fun j hj=>a j (by omega)⟩
  .rintro⟨O,C,b⟩;have D:¬B T 6=true:=by clear a b;grind
   have A:¬B T 28=true:=fun h=>by
    have l:(B T 11)=true:=by clear a b;grind
    have k:(I T 8) < ((S T 0)).size:=by have:=g.1 (s.1 l).2;rw[i] at this;exact this
    have E:=b (I T 8).toNat (by omega);unfold okB at E;clear a b;grind
   clear a b;grind
theorem ZI:Bl Try.prog 64 HP:=by
 refine B7 (l:=[]) CP (by intro p h;exact absurd h (by simp)) rK (by kernel_rfl) fun T us y w o d t a=>?_;change us.length=1 at o;obtain⟨b,-⟩:=t;replace b:(S T 0).size<=140737488355328:=b;have x:=inS (j:=0) w o (by decide);clear y;rw[AL,AL,AL] at a;obtain⟨g,a⟩:=cutB a;obtain⟨i,a⟩:=cutB a;obtain⟨c,a⟩:=cutB a;obtain⟨q,e⟩:=Be d (by kernel_rfl) g;obtain⟨D,k,z,C⟩:=l6 b e c i;have u:=(Be (k.append e) (l:=Ge) (by kernel_rfl) c);obtain⟨s,d⟩:=u;clear g c i e k;obtain⟨r,v⟩:=B8 (A:=[.b]) (ag:=bg) d (by kernel_rfl) a;have E:=sU b z C q s r;refine⟨⟨(fun _=>D),trivial⟩,v.trans ?_⟩;exact (lc (by show U.bool (B T 32)= .bool (IC us);unfold IC;rw[x];exact BI U.bool E) rfl)
def LP:List U->Bool:=fun us=>(Dl (aS us 0) (aI us 1) (aI us 2))
def Lq:Bf:={ sh:=[.agg [.str,k64,k64]],blks:=[],outs:=[(.s "rplayer.0",Jx LP)],c:= .b 3,m':=[],pre:=[] }
def Zt:List En:=[⟨3,.outB "xnamed.0" IC,[.e 0]⟩,
 ABU 4 3,
 ⟨5,.le,[.c (.int (-10000)),.e 1]⟩,
 ABE 6 4 5,
 ⟨7,.le,[.e 1,.c (.int 10000)]⟩,
 ABE 8 5 7,
 ABE 9 3 8,
 ABU 10 9,
 ⟨11,.le,[.c (.int (-12)),.e 2]⟩,
 ABE 12 9 11,
 ABU 13 12,
 ⟨14,.le,[.e 2,.c (.int 48)]⟩,
 ABE 15 12 14]
def Tl:List En:=Zt
def pV:List ObE:=[]
def Y7:List Rf:=[.e 15]
theorem nS:Lq.sees Y7 (Lq.run Try.prog [(64,HP)] Bp 3000 20 61)=some ((Tl).map En.be,pV.map ObE.be,[]):=by kernel_rfl
theorem oV (q:zO T)(d:BV T Tl):
  ((B T 15)=(Dl (S T 0) (I T 1) (I T 2))):=by
 have p:=d;clear d
 .obtain⟨a,-,j,-,k,l,o,-,e,g,-,h,i,-⟩:=p;replace a:B T 3=(Dn (S T 0)):=a;simp only[BS,BZ,zR] at j k l o e g h i;refine Bool.eq_iff_iff.2 (Iff.trans ?_ G9.symm);rw[<-a,i,g,o,l,j,k,e,h];constructor
  .rintro⟨⟨⟨O,C⟩,b⟩,c⟩;exact⟨O,C,b,c⟩
  .rintro⟨O,C,b,c⟩;exact⟨⟨⟨O,C⟩,b⟩,c⟩
theorem lW:Bl Try.prog 61 Lq:=by
 refine B7 (l:=[(64,HP)]) CP (by simp only[AW];exact⟨ZI,fun _ h=>absurd h (by simp)⟩) nS (by kernel_rfl) fun T us r b a k e g=>?_;change us.length=3 at a;obtain⟨c,-⟩:=e;replace c:(S T 0).size<=140737488355328:=c;have o:=inS (j:=0) b a (by decide);have p:=inI (j:=1) b a (by decide);have q:=inI (j:=2) b a (by decide);clear r
 skip
 obtain⟨d,i⟩:=B8 (A:=[.b]) (ag:=Y7) k (by kernel_rfl) g;have s:=oV c d;refine⟨trivial,i.trans ?_⟩;exact (lc (by show U.bool (B T 15)= .bool (LP us);unfold LP;rw[o,p,q];exact BI U.bool s) rfl)
def G2:List U->Int:=fun us=>(BW (aL us 0))
def D9:Bf:={ sh:=[.one (.list [.str,k64,k64])],blks:=[],outs:=[(.s "rCheckP.0",CW G2)],c:=(Cy 1),m':=[],pre:=[] }
def ZQ:List En:=[ABL 1 0,
 ⟨2,.lt,[.c (.int 24),.e 1]⟩,
 ABI 3 2]
def Fj:List En:=ZQ
def Zk:List En:=[ABL 5 0,
 ABH 6 4 5,
 ABE 7 3 6,
 ABF 8 3 6,
 ABX 9 0 4,
 ABJ 10 0 4,
 ABK 11 0 4,
 ⟨12,.outB "rplayer.0" LP,[.e 9,.e 10,.e 11]⟩,
 ABE 13 7 12,
 ABF 14 7 12,
 ⟨15,.w2 .i64 .add,[.e 4,.c (.int 1)]⟩]
def Df:List En:=Zk
def TY:List ObE:=[⟨some 7,.inl,[.e 4,.e 0]⟩]
def LF:Bs:=mkD 4 1 Df 13 [.e 15] TY [0,3]
def O9:List Rf:=[.e 0,.e 3,.c (.int 0)]
def IX:List En:=[]
def Ve:List En:=[ABL 17 0,
 ABH 18 16 17,
 ABE 19 8 18,
 ABF 20 8 18]
def FT:List En:=Ve
def Zb:List En:=[ABH 22 21 16,
 ABE 23 19 22,
 ABF 24 19 22,
 ABX 25 0 16,
 ABX 26 0 21,
 ⟨27,.eqs [.s],[.e 25,.e 26]⟩,
 ABE 28 23 27,
 ABF 29 23 27,
 ⟨30,.w2 .i64 .add,[.e 21,.c (.int 1)]⟩]
def EU:List En:=Zb
def TU:List ObE:=[⟨some 23,.inl,[.e 21,.e 0]⟩,⟨some 23,.inl,[.e 16,.e 0]⟩]
def Ii:Bs:=mkD 21 1 EU 29 [.e 30] TU [0,16,19]
def La:List Rf:=[.e 0,.e 16,.e 19,.c (.int 0)]
def Vr:List En:=[⟨31,.w2 .i64 .add,[.e 16,.c (.int 1)]⟩]
def Im:List En:=Vr
def G8:List En:=FT++((B5 Ii [.i] La)++(EU++(Im)))
def UG:List ObE:=[⟨some 19,.owes Ii,[.e 0,.e 16,.e 19,.c (.int 0)]⟩]
def LQ:Bs:=mkD 16 1 G8 24 [.e 31] UG [0,8]
def PA:List Rf:=[.e 0,.e 8,.c (.int 0)]
def ZW:List En:=[⟨32,.ite .i,[.e 28,.c (.int 12),.c (.int 0)]⟩,
 ABG 33 28 20,
 ⟨34,.ite .i,[.e 14,.c (.int 2),.e 32]⟩,
 ABG 35 14 33,
 ⟨36,.ite .i,[.e 2,.c (.int 6),.e 34]⟩,
 ABG 37 2 35]
def UE:List En:=ZW
def oG:List ObE:=[⟨some 8,.owes LQ,[.e 0,.e 8,.c (.int 0)]⟩,
 ⟨some 3,.owes LF,[.e 0,.e 3,.c (.int 0)]⟩]
def Yw:List Rf:=[.e 36]
end
end Go.Eng
end
