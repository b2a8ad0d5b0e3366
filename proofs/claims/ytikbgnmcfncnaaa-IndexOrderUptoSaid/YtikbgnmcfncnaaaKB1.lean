/-
  A part of the proof: the evaluator of code and its soundness.
-/
import Derived.Test.YtikbgnmcfncnaaaE4
import Derived.Test.YtikbgnmcfncnaaaE5
import Derived.Test.YtikbgnmcfncnaaaKB0
set_option linter.unusedVariables false
set_option linter.unusedSimpArgs false
noncomputable section
namespace Go.Eng
section
open Go Go.Eng Go.Proofs
set_option maxHeartbeats 4000000
set_option maxRecDepth 100000
def Jd:List U->Bool:=fun us=>(EQ (aL us 0))
def G3:AU:={ sh:=[.one (.list [k64,k64,k64,.bool,.str,.str,.bool,k64,k64])],blks:=[],outs:=[(.s "soundB.0",HS Jd)],c:= .b 1,m':=[],pre:=[] }
abbrev ACl (T:Tab)(a:Int)(b:U'):Prop:=0<=a/\a<=(L T 0).length/\(b).length<=a/\Cu [] (L T 0)=Cu (b) ((L T 0).drop a.toNat)
def dY:List En:=[⟨1,.id .l,[.c (.list [])]⟩,
 ADB 2 0]
def L0:List En:=dY
def aP:List En:=[AC7 5 3 2,
 ADA 6 5,
 ADE 7 0 3,
 AC8 8 0 3,
 AC9 9 0 3,
 ADH 10 0 3,
 ADF 11 0 3,
 ADG 12 0 3,
 ADI 13 0 3,
 ADJ 14 0 3,
 ADK 15 0 3,
 ⟨16,.mget .i 2 0 [.i,.i],[.e 4,.c (.int 0),.e 7,.e 8]⟩,
 ⟨17,.mget .i 2 1 [.i,.i],[.e 4,.c (.int 0),.e 7,.e 8]⟩,
 ⟨18,.mget .i 2 2 [.i,.i],[.e 4,.c (.int 0),.e 7,.e 8]⟩,
 ⟨19,.mget .b 2 3 [.i,.i],[.e 4,.c (.bool false),.e 7,.e 8]⟩,
 ⟨20,.mget .s 2 4 [.i,.i],[.e 4,.c (.str ⟨#[]⟩),.e 7,.e 8]⟩]
def bj:List En:=[⟨21,.mget .s 2 5 [.i,.i],[.e 4,.c (.str ⟨#[]⟩),.e 7,.e 8]⟩,
 ⟨22,.mget .b 2 6 [.i,.i],[.e 4,.c (.bool false),.e 7,.e 8]⟩,
 ⟨23,.mget .i 2 7 [.i,.i],[.e 4,.c (.int 0),.e 7,.e 8]⟩,
 ⟨24,.mget .i 2 8 [.i,.i],[.e 4,.c (.int 0),.e 7,.e 8]⟩,
 ⟨25,.mhas 2 [.i,.i],[.e 4,.e 7,.e 8]⟩,
 AC4 26 5 25,
 ⟨27,.nes [.i,.i,.i,.b,.s,.s,.b,.i,.i],[.e 16,.e 7,.e 17,.e 8,.e 18,.e 9,.e 19,.e 10,.e 20,.e 11,.e 21,.e 12,.e 22,.e 13,.e 23,.e 14,.e 24,.e 15]⟩,
 AC4 28 25 27,
 AC4 29 5 28,
 AC5 30 5 28,
 ⟨31,.mset 2 [.i,.i,.i,.i,.i,.b,.s,.s,.b,.i,.i],[.e 4,.e 7,.e 8,.e 7,.e 8,.e 9,.e 10,.e 11,.e 12,.e 13,.e 14,.e 15]⟩,
 ⟨32,.w2 .i64 .add,[.e 3,.c (.int 1)]⟩]
def FR:List En:=aP++(bj)
def VL:List ObE:=[⟨some 30,.fits 1,[.e 4,.c (.list [[]])]⟩,⟨some 5,.inl,[.e 3,.e 0]⟩]
def L4:Aa:=mkD 3 2 FR 30 [.e 32,.e 31] VL [0,2]
def Qi:List Rf:=[.e 0,.e 2,.c (.int 0),.e 1]
def fm:List En:=[⟨33,.ite .b,[.e 29,.c (.bool false),.c (.bool true)]⟩,
 AC6 34 29 6]
def WG:List En:=fm
def tS:List ObE:=[⟨none,.owes L4,[.e 0,.e 2,.c (.int 0),.e 1]⟩]
def cW:List Rf:=[.e 33]
theorem ur:G3.sees cW (G3.run Try.prog [] Ab 3000 20 85)=some ((L0++((Ad L4 [.i,.l] Qi)++(FR++(WG)))).map En.be,tS.map ObE.be,[]):=by kernel_rfl
theorem YK:AW Try.prog 85 G3:=by
 refine An (l:=[]) A8 (by intro p h;exact absurd h (by simp)) ur (by kernel_rfl) fun T us cs hT b6 hS cc o=>?_;change us.length=1 at b6;obtain⟨⟨b5,cj⟩,-⟩:=cc;replace b5:(L T 0).length<=140737488355328:=b5;have cl:∀u∈(L T 0),AL AB KB u:=fun u hu=>by
  obtain⟨i,Y⟩:=ABZ.1 hu;exact cj i u Y
 have ci:=inL (j:=0) hT b6 (by decide);clear cs;rw[ABI,ABI,ABI] at o;obtain⟨hA,o⟩:=cutB o;obtain⟨hH,o⟩:=cutB o;obtain⟨hB,o⟩:=cutB o;obtain⟨A0,ba⟩:=AN hS (by kernel_rfl) hA;have F:=A0;have O:I T 2=(L T 0).length:=by
  obtain⟨-,e2,-⟩:=F;simp only[AD,zR,zL] at e2;exact e2
 have C:L T 1=[]:=by
  obtain⟨e1,-⟩:=F;simp only[AD,zR,zL,zS] at e1;exact e1
 refine ACw (Ap (nh:=3) (k:=2) (pcn:=30) (an:=33) (H:=FR) (K:=VL) (nxt:=[.e 32,.e 31]) (A:=[.c (.int 0),.e 1]) (fv:=[0,2]) (R:=[.i,.l]) (by kernel_rfl) rfl rfl rfl rfl ba (by kernel_rfl) (by kernel_rfl) hB (Ae hH) (fun s=>ACl T (aI s 0) (aL s 1)) (fun s=>((L T 0).length - (aI s 0)).toNat)) ?_ ?_ fun⟨c2,b3,bk,c0⟩=>?_
 .show ACl T (0:Int) (L T 1);exact⟨by omega,by omega,by rw[C];exact ABt _,by rw[C,show (0:Int).toNat=0 from rfl,List.drop_zero]⟩
 .intro J bb E bi;replace bi:ACl T (I J 3) (L J 4):=bi;replace E:AE J FR:=E;obtain⟨F,E⟩:=E.cut;have F1:=E;clear E;have bt:=fvL (bb 0 (by decide));have a0:=fvI (bb 2 (by decide));clear bb;obtain⟨d,-,e,g,D,q,r,t,w,x,y,M,N,P,Q,V,-⟩:=id F;obtain⟨W,X,Z,ab,ad,-,ag,al,-,z,bo,a7,-⟩:=id F1;simp only[AD,AG,zN,zC,zR,Cn,and_true,w2P,zL,zS,uR,zW] at d e g D q r t w x y M N P Q V W X Z ab ad ag al z bo a7;obtain⟨v1,v2,v3,v4⟩:=bi
  suffices hz:(B J 30=true->((L J 4).length+(([[]]:U')).length)*1<=140737488355328)/\(B J 5=true->0<=I J 3/\I J 3 < (L J 0).length)/\(B J 30=true->(ACl T (I J 32) (L J 31)))/\(B J 30=true->((L T 0).length - (I J 32)).toNat < ((L T 0).length - (I J 3)).toNat) from
   let⟨r0,ax,nx,mz⟩:=hz;⟨⟨r0,ax,trivial⟩,fun c=>⟨nx c,mz c⟩⟩
  refine⟨?_,?_,?_,?_⟩
  .intro c;have b:=d.1 (z.1 c).1;rw[a0] at b;show ((L J 4).length+1)*1<=_;omega
  .intro c;have b:=d.1 c;rw[a0] at b;rw[bt];omega
  .intro c;have bx:=z.1 c;have b:=d.1 bx.1;rw[a0] at b;have b7:=o2' a7 (by omega);have a3:(I J 3).toNat < (L T 0).length:=by omega
   rw[bt] at e g D q r t w x y;have hu:=cl _ (Aq a3);have hk:[U.int (I J 7),U.int (I J 8)]=CN ((L T 0).getD (I J 3).toNat []):=by rw[e,g];rfl
   have b0:L J 31=BB 2 (L J 4) (CN ((L T 0).getD (I J 3).toNat [])) ((L T 0).getD (I J 3).toNat []):=by
    rw[bo];show BB 2 _ [U.int (I J 7),U.int (I J 8)] [U.int (I J 7),U.int (I J 8),U.int (I J 9),U.bool (B J 10),U.str (S J 11),U.str (S J 12),U.bool (B J 13),U.int (I J 14),U.int (I J 15)]=_;rw[hk,e,g,D,q,r,t,w,x,y];exact ACF (BB 2 _ _) (Fq hu)
   have hc:¬Ke (L J 4) ((L T 0).getD (I J 3).toNat [])=true:=fun hc=>by
    have a1:B J 28=true:=(bF (al.trans (and_congr ad ag)) hk M N P Q V W X Z ab e g D q r t w x y).2 hc;simp[a1] at bx
   refine⟨by omega,by omega,?_,?_⟩
   .rw[b0];have:=Q4 (G:=2) (m:=L J 4) (k:=CN ((L T 0).getD (I J 3).toNat [])) (v:=(L T 0).getD (I J 3).toNat []);omega
   .rw[v4,T6 a3,ACD hc,b0,b7,show (I J 3+1).toNat=(I J 3).toNat+1 by omega]
  .intro c;have b:=d.1 (z.1 c).1;rw[a0] at b;have b7:=o2' a7 (by omega);omega
 replace bk:0<=I T 3/\I T 3<=(L T 0).length/\(L T 4).length<=I T 3/\Cu [] (L T 0)=Cu (L T 4) ((L T 0).drop (I T 3).toNat):=bk;have ce:=(AN (b3.append ba) (l:=FR) (by kernel_rfl) hB);obtain⟨B0,hS⟩:=ce;clear hA hB hH ba b3;obtain⟨A1,hO⟩:=Ao (R:=[.b]) (ai:=cW) hS (by kernel_rfl) o;obtain⟨F1,B0⟩:=B0.cut;have F2:=B0;have F3:=A1;obtain⟨-,e2,-⟩:=id F;obtain⟨d,-,e,g,D,q,r,t,w,x,y,M,N,P,Q,V,-⟩:=id F1;obtain⟨W,X,Z,ab,ad,-,ag,al,a6,z,-⟩:=id F2;obtain⟨bs,-⟩:=id F3;simp only[AD,AG,zN,zC,zR,Cn,and_true,zL,zS,uR,zW] at e2 d e g D q r t w x y M N P Q V W X Z ab ad ag al a6 z bs;have q0:B T 33=(EQ (L T 0)):=by
  obtain⟨v1,v2,v3,v4⟩:=bk;unfold EQ;rw[v4];refine Bool.eq_iff_iff.2 ?_;rw[bs];by_cases b:I T 3 < I T 2
  .have b4:=d.2 b;have a3:(I T 3).toNat < (L T 0).length:=by omega
   have a1:B T 28=true:=by
    by_cases h:B T 28=true
    .exact h
    .exact absurd (z.2 ⟨b4,by simpa using h⟩) c0
   have hk:[U.int (I T 7),U.int (I T 8)]=CN ((L T 0).getD (I T 3).toNat []):=by rw[e,g];rfl
   have hc:Ke (L T 4) ((L T 0).getD (I T 3).toNat [])=true:=(bF (al.trans (and_congr ad ag)) hk M N P Q V W X Z ab e g D q r t w x y).1 a1;rw[T6 a3,ACE hc];have:=a6.2 ⟨b4,a1⟩;simp[this]
  .have n5:¬B T 5=true:=fun a=>b (d.1 a);have cx:¬B T 29=true:=fun a=>n5 (a6.1 a).1;rw[show (I T 3).toNat=(L T 0).length by omega,List.drop_length];simp[cx,Cu]
 refine⟨⟨(fun _=>c2),trivial⟩,hO.trans ?_⟩;exact (lc (by show U.bool (B T 33)= .bool (Jd us);unfold Jd;rw[ci];exact ACF U.bool q0) rfl)
def HN:List U->Int:=fun us=>(AM (aL us 0))
def FN:AU:={ sh:=[.one (.list [k64,k64,k64,.bool,.str,.str,.bool,k64,k64])],blks:=[],outs:=[(.s "checkL.0",Ba HN)],c:=(Ch 1),m':=[],pre:=[] }
abbrev ACi (T:Tab)(a:Int):Prop:=0<=a/\a<=(L T 0).length/\((L T 0).take a.toNat).all C6=true
def bO:List En:=[ADB 1 0,
 ⟨2,.lt,[.c (.int 200),.e 1]⟩,
 ADA 3 2,
 ADB 4 0]
def MC:List En:=bO
def bM:List En:=[AC7 6 5 4,
 AC4 7 3 6,
 AC5 8 3 6,
 ADE 9 0 5,
 AC8 10 0 5,
 AC9 11 0 5,
 ADH 12 0 5,
 ADF 13 0 5,
 ADG 14 0 5,
 ADI 15 0 5,
 ADJ 16 0 5,
 ADK 17 0 5,
 ⟨18,.outI "checkSh.0" Ku,[.e 9,.e 10,.e 11,.e 12,.e 13,.e 14,.e 15,.e 16,.e 17]⟩,
 ⟨19,.ne,[.e 18,.c (.int 0)]⟩,
 AC4 20 7 19,
 AC5 21 7 19]
def aa:List En:=[⟨22,.w2 .i64 .add,[.e 5,.c (.int 1)]⟩]
def FK:List En:=bM++(aa)
def Wy:List ObE:=[⟨some 7,.inl,[.e 5,.e 0]⟩]
def Lq:Aa:=mkD 5 1 FK 21 [.e 22] Wy [0,3,4]
def Pf:List Rf:=[.e 0,.e 3,.e 4,.c (.int 0)]
def bd:List En:=[⟨23,.ite .i,[.e 20,.e 5,.c (.int (-1))]⟩,
 AC6 24 20 8,
 ⟨25,.le,[.c (.int 0),.e 23]⟩,
 AC4 26 3 25,
 AC5 27 3 25,
 ⟨28,.outB "soundB.0" Jd,[.e 0]⟩,
 AC4 29 27 28,
 AC5 30 27 28,
 ⟨31,.ite .i,[.e 25,.c (.int 2),.c (.int 12)]⟩,
 AC6 32 26 30,
 ⟨33,.ite .i,[.e 2,.c (.int 6),.e 31]⟩,
 AC6 34 2 32,
 ⟨35,.ite .i,[.e 34,.e 33,.c (.int 0)]⟩,
 AC6 36 34 29]
def WY:List En:=bd
def vd:List ObE:=[⟨some 3,.owes Lq,[.e 0,.e 3,.e 4,.c (.int 0)]⟩]
def dR:List Rf:=[.e 35]
theorem wH:FN.sees dR (FN.run Try.prog [(43,LE),(85,G3)] Ab 3000 20 47)=some ((MC++((Ad Lq [.i] Pf)++(FK++(WY)))).map En.be,vd.map ObE.be,[]):=by kernel_rfl
theorem Nj:AW Try.prog 47 FN:=by
 refine An (l:=[(43,LE),(85,G3)]) A8 (by simp only[ABT];exact⟨lE,YK,fun _ h=>absurd h (by simp)⟩) wH (by kernel_rfl) fun T us cl hT b5 hS cc e=>?_;change us.length=1 at b5;obtain⟨⟨b4,cj⟩,-⟩:=cc;replace b4:(L T 0).length<=140737488355328:=b4;have dd:∀u∈(L T 0),AL AB KB u:=fun u hu=>by
  obtain⟨i,Y⟩:=ABZ.1 hu;exact cj i u Y
 have ci:=inL (j:=0) hT b5 (by decide);clear cl;rw[ABI,ABI,ABI] at e;obtain⟨hA,e⟩:=cutB e;obtain⟨hH,e⟩:=cutB e;obtain⟨hB,e⟩:=cutB e;obtain⟨A0,a7⟩:=AN hS (by kernel_rfl) hA;have M:=A0;have h4:I T 4=(L T 0).length:=by
  obtain⟨-,-,-,P,-⟩:=M;simp only[AD,zR,zL] at P;exact P
 refine ACw (Ap (nh:=5) (k:=1) (pcn:=21) (an:=23) (H:=FK) (K:=Wy) (nxt:=[.e 22]) (A:=[.c (.int 0)]) (fv:=[0,3,4]) (R:=[.i]) (by kernel_rfl) rfl rfl rfl rfl a7 (by kernel_rfl) (by kernel_rfl) hB (Ae hH) (fun s=>ACi T (aI s 0)) (fun s=>((L T 0).length - (aI s 0)).toNat)) ?_ ?_ fun⟨c3,b3,bb,c0⟩=>?_
 .show ACi T (0:Int);exact⟨by omega,by omega,by simp⟩
 .intro J V z ba;replace ba:ACi T (I J 5):=ba;replace z:AE J FK:=z;obtain⟨M,z⟩:=z.cut;have Z:=z;clear z;have bo:=fvL (V 0 (by decide));have c9:=fvB (V 3 (by decide));have a3:=fvI (V 4 (by decide));clear V;obtain⟨b,c,-,y,p,q,-,r,t,-,v,w,o,D,-,x,-⟩:=id M;obtain⟨al,-⟩:=id Z;replace o:I J 18=(Fp (I J 9) (I J 10) (I J 11) (S J 13) (S J 14) (I J 16) (I J 17)):=o;simp only[AD,AG,zN,zR,w2P,zL] at b c y p q r t v w D x al;obtain⟨v1,v2,W⟩:=ba
  suffices hz:(B J 7=true->0<=I J 5/\I J 5 < (L J 0).length)/\(B J 21=true->(ACi T (I J 22)))/\(B J 21=true->((L T 0).length - (I J 22)).toNat < ((L T 0).length - (I J 5)).toNat) from
   let⟨r0,nx,mz⟩:=hz;⟨⟨r0,trivial⟩,fun g=>⟨nx g,mz g⟩⟩
  refine⟨?_,?_,?_⟩
  .intro g;have d:=b.1 (c.1 g).2;rw[a3] at d;rw[bo];omega
  .intro g;have bx:=x.1 g;have d:=b.1 (c.1 bx.1).2;rw[a3] at d;have b6:=o2' al (by omega);have a9:(I J 5).toNat < (L T 0).length:=by omega
   rw[bo] at y p q r t v w;refine⟨by omega,by omega,?_⟩;rw[b6,show (I J 5+1).toNat=(I J 5).toNat+1 by omega,CQ a9,Qs];refine⟨W,?_⟩;have Q:¬ ¬I J 18=0:=fun a=>by
    have:=D.2 a;simp[this] at bx
   have F:I J 18=0:=ABq Q;rw[o,y,p,q,r,t,v,w] at F;exact decide_eq_true F
  .intro g;have d:=b.1 (c.1 (x.1 g).1).2;rw[a3] at d;have b6:=o2' al (by omega);omega
 replace bb:0<=I T 5/\I T 5<=(L T 0).length/\((L T 0).take (I T 5).toNat).all C6=true:=bb;have ce:=(AN (b3.append a7) (l:=FK) (by kernel_rfl) hB);obtain⟨X,hS⟩:=ce;clear hA hB hH a7 b3;obtain⟨A1,hO⟩:=Ao (R:=[.i]) (ai:=dR) hS (by kernel_rfl) e;obtain⟨Z,X⟩:=X.cut;have F2:=X;have F3:=A1;obtain⟨e1,e2,e3,P,-⟩:=id M;obtain⟨b,c,-,y,p,q,-,r,t,-,v,w,o,D,ag,x,-⟩:=id Z;obtain⟨ao,-,aw,ax,bi,a0,-,a1,bl,N,a2,E,bm,-⟩:=id F3;replace o:I T 18=(Fp (I T 9) (I T 10) (I T 11) (S T 13) (S T 14) (I T 16) (I T 17)):=o;replace a0:B T 28=(EQ (L T 0)):=a0;simp only[AD,AG,zN,zR,zL,zS] at e1 e2 e3 P b c y p q r t v w D ag x ao aw ax bi a1 bl N a2 E bm;have q0:I T 35=(AM (L T 0)):=by
  obtain⟨v1,v2,W⟩:=bb;unfold AM;rw[bm];by_cases O:200 < (L T 0).length
  .have au:=e2.2 (by rw[e1];omega);rw[ACE O,ACE (E.2 (.inl au)),a2,ACE au]
  .have aB:¬B T 2=true:=fun a=>by have:=e2.1 a;rw[e1] at this;omega
   have h3:=e3.2 (by simpa using aB);rw[ACD O,a2,ACD aB,bl];by_cases d:I T 5 < I T 4
   .have h7:=c.2 ⟨h3,b.2 d⟩;have bs:B T 19=true:=by
     by_cases Q:B T 19=true
     .exact Q
     .exact absurd (x.2 ⟨h7,by simpa using Q⟩) c0
    have a9:(I T 5).toNat < (L T 0).length:=by omega
    have a8:¬(L T 0).all C6=true:=fun a=>by
     have C:=of_decide_eq_true (ABb.1 a _ (Aq a9));have F:=D.1 bs;rw[o,y,p,q,r,t,v,w] at F;exact F C
    have bt:B T 25=true:=aw.2 (by rw[ao,ACE (ag.2 ⟨h7,bs⟩)];omega);rw[ACE a8,ACE (E.2 (.inr (N.2 (.inl (ax.2 ⟨h3,bt⟩))))),ACE bt]
   .have n6:¬B T 6=true:=fun a=>d (b.1 a);have cx:¬B T 20=true:=fun a=>n6 (c.1 (ag.1 a).1).2;have bc:¬B T 25=true:=fun a=>by have:=aw.1 a;rw[ao,ACD cx] at this;omega
    have ei:(I T 5).toNat=(L T 0).length:=by omega
    rw[ei,ACA] at W;have nv:¬ ¬(L T 0).all C6=true:=fun a=>a W;rw[ACD nv,ACD bc,<-a0];have cb:=bi.2 ⟨h3,by simpa using bc⟩;by_cases aa:B T 28=true
    .rw[ACE aa,ACD];intro a;rcases E.1 a with a|a
     .exact aB a
     .rcases N.1 a with a|a
      .exact bc (ax.1 a).2
      .have:=(a1.1 a).2;simp[aa] at this
    .rw[ACD aa,ACE (E.2 (.inr (N.2 (.inr (a1.2 ⟨cb,by simpa using aa⟩)))))]
 refine⟨⟨(fun _=>c3),trivial⟩,hO.trans ?_⟩;exact (lc (by show U.int (I T 35)= .int (HN us);unfold HN;rw[ci];exact ACF U.int q0) rfl)
def MG:List U->U':=fun us=>(Cx (aL us 0))
def JL:List U->Prop:=fun us=>((aL us 0)).length<=4
def Jc:List U->Prop:=fun us=>(∀j:Nat,(Hx (aL us 0) j 0).length<=1000)
def FQ:AU:={ sh:=[.one (.list [.list [k64,k64,k64,.bool,.str,.str,.bool,k64,k64]])],blks:=[],outs:=[(.s "concat.0",CI MG)],c:= .ro 1 [k64,k64,k64,.bool,.str,.str,.bool,k64,k64],m':=[],pre:=[(.s "concat.p0",JL),(.s "concat.p1",Jc)] }
abbrev ACb (T:Tab)(aZ:Int)(a:Int):Prop:=0<=a/\a<=(L T 0).length/\0<=aZ/\aZ<=1000*a
abbrev ACg (T:Tab)(a:Int)(b:U'):Prop:=0<=a/\a<=(L T 0).length/\b=Cx ((L T 0).take a.toNat)
def av:List En:=[ADB 1 0]
def HF:List En:=av
def du:List En:=[AC7 4 3 1,
 ADA 5 4,
 ⟨6,.get .l 0,[.e 0,.e 3]⟩,
 ADB 7 6,
 ⟨8,.o2 .add,[.e 2,.e 7]⟩,
 ⟨9,.w2 .i64 .add,[.e 3,.c (.int 1)]⟩]
def Di:List En:=du
def Vi:List ObE:=[⟨some 4,.inl,[.e 3,.e 0]⟩,⟨none,.btw (0) (1000000),[.e 2]⟩]
def Lz:Aa:=mkD 2 2 Di 4 [.e 8,.e 9] Vi [0,1]
def P0:List Rf:=[.e 0,.e 1,.c (.int 0),.c (.int 0)]
def ai:List En:=[⟨10,.lt,[.c (.int 0),.e 2]⟩,
 AC4 11 5 10,
 ⟨12,.id .l,[.c (.list [])]⟩,
 AC5 13 5 10,
 ⟨14,.ite .l,[.e 10,.e 12,.c (.list [])]⟩,
 ADB 15 0]
def Lk:List En:=ai
def eG:List En:=[AC7 18 16 15,
 AC4 19 5 18,
 AC5 20 5 18,
 ⟨21,.get .l 0,[.e 0,.e 16]⟩,
 ADS 22 17 21,
 ⟨23,.w2 .i64 .add,[.e 16,.c (.int 1)]⟩]
def FL:List En:=eG
def Wg:List ObE:=[⟨some 19,.fits 88,[.e 17,.e 21]⟩,⟨some 19,.inl,[.e 16,.e 0]⟩]
def Ls:Aa:=mkD 16 2 FL 19 [.e 23,.e 22] Wg [0,5,15]
def PX:List Rf:=[.e 0,.e 5,.e 15,.c (.int 0),.e 14]
def nA:List En:=[]
def uy:List ObE:=[⟨some 5,.owes Ls,[.e 0,.e 5,.e 15,.c (.int 0),.e 14]⟩,
 ⟨some 11,.btw (0) (68719476736),[.e 2]⟩,
 ⟨none,.owes Lz,[.e 0,.e 1,.c (.int 0),.c (.int 0)]⟩]
def ff:List Rf:=[.e 17]
theorem uY:FQ.sees ff (FQ.run Try.prog [] Ab 3000 20 84)=some ((HF++((Ad Lz [.i,.i] P0)++(Di++(Lk++((Ad Ls [.i,.l] PX)++(FL++(nA))))))).map En.be,uy.map ObE.be,[]):=by kernel_rfl
theorem sZ:AW Try.prog 84 FQ:=by
 refine An (l:=[]) A8 (by intro p h;exact absurd h (by simp)) uY (by kernel_rfl) fun T us N hT ag x bl a=>?_;change us.length=1 at ag;obtain⟨⟨ad,ce⟩,-⟩:=bl;replace ad:(L T 0).length<=140737488355328:=ad;have bs:=inL (j:=0) hT ag (by decide);have ch:(L T 0).length<=4:=by
  have h:=N (.s "concat.p0",JL) (by simp[FQ]);change JL us at h;unfold JL at h;grind
 have ao:(∀j:Nat,(Hx (L T 0) j 0).length<=1000):=by
  have h:=N (.s "concat.p1",Jc) (by simp[FQ]);change Jc us at h;unfold Jc at h;grind
 clear N;rw[ABI,ABI,ABI,ABI,ABI,ABI] at a;obtain⟨v,a⟩:=cutB a;obtain⟨w,a⟩:=cutB a;obtain⟨g,a⟩:=cutB a;obtain⟨A0,i⟩:=AN x (by kernel_rfl) v;have t:=A0;have C:I T 1=(L T 0).length:=by
  obtain⟨X,-⟩:=t;simp only[AD,zR,zL] at X;exact X
 refine ACw (Ap (nh:=2) (k:=2) (pcn:=4) (an:=10) (H:=Di) (K:=Vi) (nxt:=[.e 8,.e 9]) (A:=[.c (.int 0),.c (.int 0)]) (fv:=[0,1]) (R:=[.i,.i]) (by kernel_rfl) rfl rfl rfl rfl i (by kernel_rfl) (by kernel_rfl) g (Ae w) (fun s=>ACb T (aI s 0) (aI s 1)) (fun s=>((L T 0).length - (aI s 1)).toNat)) ?_ ?_ fun⟨b1,y,al,bx⟩=>?_
 .show ACb T (0:Int) (0:Int);grind
 .intro J d b o;replace o:ACb T (I J 2) (I J 3):=o;replace b:AE J Di:=b;have t:=b;clear b;have F:=fvL (d 0 (by decide));have b8:=fvI (d 1 (by decide));clear d;obtain⟨e4,-,e6,e7,e8,e9,-⟩:=id t;simp only[AD,zR,BY,w2P,zL] at e4 e6 e7 e8 e9;obtain⟨v1,v2,W,v4⟩:=o
  suffices O:(B J 4=true->0<=I J 3/\I J 3 < (L J 0).length)/\(0<=I J 2/\I J 2<=1000000)/\(B J 4=true->(ACb T (I J 8) (I J 9)))/\(B J 4=true->((L T 0).length - (I J 9)).toNat < ((L T 0).length - (I J 3)).toNat) from
   let⟨z,ax,V,Q⟩:=O;⟨⟨z,(fun _=>ax),trivial⟩,fun c=>⟨V c,Q c⟩⟩
  grind
 replace al:0<=I T 3/\I T 3<=(L T 0).length/\0<=I T 2/\I T 2<=1000*I T 3:=al;have M:=(AN (y.append i) (l:=Di) (by kernel_rfl) g);obtain⟨B0,x⟩:=M;clear v g w i y;obtain⟨v,a⟩:=cutB a;obtain⟨w,a⟩:=cutB a;obtain⟨g,a⟩:=cutB a;obtain⟨A1,i⟩:=AN x (by kernel_rfl) v;have F1:=B0;have D:=A1;have bi:I T 15=(L T 0).length:=by
  obtain⟨-,-,-,-,-,u,-⟩:=D;simp only[AD,zR,zL] at u;exact u
 have bc:L T 14=[]:=by
  obtain⟨-,-,a5,-,a6,-⟩:=D;simp only[AD,AG,zR,zL,zS] at a5 a6;grind
 refine ACw (Ap (nh:=16) (k:=2) (pcn:=19) (an:=24) (H:=FL) (K:=Wg) (nxt:=[.e 23,.e 22]) (A:=[.c (.int 0),.e 14]) (fv:=[0,5,15]) (R:=[.i,.l]) (by kernel_rfl) rfl rfl rfl rfl i (by kernel_rfl) (by kernel_rfl) g (Ae w) (fun s=>ACg T (aI s 0) (aL s 1)) (fun s=>((L T 0).length - (aI s 0)).toNat)) ?_ ?_ fun⟨b2,y,P,b0⟩=>?_
 .show ACg T (0:Int) (L T 14);exact⟨by omega,by omega,by rw[bc];rfl⟩
 .intro J d b o;replace o:ACg T (I J 16) (L J 17):=o;replace b:AE J FL:=b;have t:=b;clear b;have F:=fvL (d 0 (by decide));have ca:=fvB (d 5 (by decide));have b9:=fvI (d 15 (by decide));clear d;obtain⟨q,r,-,E,Y,Z,-⟩:=id t;simp only[AD,AG,zR,w2P,zL] at q r E Y Z;obtain⟨v1,v2,W⟩:=o
  suffices O:(B J 19=true->((L J 17).length+(L J 21).length)*88<=140737488355328)/\(B J 19=true->0<=I J 16/\I J 16 < (L J 0).length)/\(B J 19=true->(ACg T (I J 23) (L J 22)))/\(B J 19=true->((L T 0).length - (I J 23)).toNat < ((L T 0).length - (I J 16)).toNat) from
   let⟨z,ax,V,Q⟩:=O;⟨⟨z,ax,trivial⟩,fun c=>⟨V c,Q c⟩⟩
  refine⟨?_,?_,?_,?_⟩
  .intro c;have h4:=q.1 (r.1 c).2;have hl:=ao (I J 16).toNat;have hc:=V1 ao (I J 16).toNat (by omega);rw[W,E,F];omega
  .grind
  .intro c;have h4:=q.1 (r.1 c).2;have e:I J 23=I J 16+1:=o2' Z (by omega);refine⟨by omega,by omega,?_⟩;rw[Y,W,E,F,e,show (I J 16+1).toNat=(I J 16).toNat+1 by omega,TX (by omega)]
  .grind
 replace P:0<=I T 16/\I T 16<=(L T 0).length/\L T 17=Cx ((L T 0).take (I T 16).toNat):=P;have M:=(AN (y.append i) (l:=FL) (by kernel_rfl) g);obtain⟨B1,x⟩:=M;clear v g w i y;obtain⟨A2,hO⟩:=Ao (R:=[.l]) (ai:=ff) x (by kernel_rfl) a;have F3:=B1;obtain⟨-,e5,-⟩:=id F1;obtain⟨-,-,-,-,-,u,-⟩:=id D;obtain⟨q,r,-⟩:=id F3;simp only[AD,AG,zR,zL] at e5 u q r;have q0:L T 17=(Cx (L T 0)):=by
  obtain⟨aG,w2,w3⟩:=P;have n4:¬B T 4=true:=bx;have cb:¬I T 16 < I T 15:=fun h=>b0 (r.2 ⟨e5.2 (by simpa using n4),q.2 h⟩);have bi:=u;rw[w3,List.take_of_length_le (by omega)]
 have z:B T 11=true->0<=I T 2/\I T 2<=68719476736:=by
  grind
 refine⟨⟨(fun _=>b2),z,(fun _=>b1),trivial⟩,hO.trans ?_⟩;exact (lc (by show U.list (L T 17)= .list (MG us);unfold MG;rw[bs];exact ACF U.list q0) rfl)
def LY:List U->U':=fun us=>(JA (aL us 0) (aL us 1))
def LN:List U->Int:=fun us=>(HZ (aL us 0) (aL us 1))
def MP:AU:={ sh:=[.one (.list [k64,k64,k64,.bool,.str,.str,.bool,k64,k64]),.one (.list [k64,k64,k64,.bool,.str,.str,.bool,k64,k64])],blks:=[],outs:=[(.s "Merge.0",CI LY),(.s "Merge.1",Ba LN)],c:= .tup [.ro 2 [k64,k64,k64,.bool,.str,.str,.bool,k64,k64],(Ch 3)],m':=[],pre:=[] }
abbrev ACq (T:Tab)(a:Int)(c:U')(b:U'):Prop:=0<=a/\a<=(L T 17).length/\b=ddS ((L T 17).take a.toNat)/\c=mkT b
def hJ:List En:=[⟨2,.outI "checkL.0" HN,[.e 0]⟩,
 ⟨3,.ne,[.e 2,.c (.int 0)]⟩,
 ADA 4 3,
 ⟨5,.outI "checkL.0" HN,[.e 1]⟩,
 ⟨6,.ne,[.e 5,.c (.int 0)]⟩,
 AC4 7 4 6,
 AC5 8 4 6,
 ADD 9 3 0 1,
 ADC 10 3 2 5,
 ⟨11,.ite .i,[.e 3,.c (.int 0),.c (.int 1)]⟩,
 ADC 12 3 2 5,
 ADU 13 3 3 6,
 AC6 14 3 7,
 ⟨15,.id .l,[.c (.list [])]⟩,
 ⟨16,.row 2 1 [.l,.l],[.e 0,.e 1]⟩,
 ⟨17,.outL "concat.0" MG,[.e 16]⟩]
def iK:List En:=[ADB 18 17,
 ⟨19,.id .l,[.c (.list [])]⟩]
def N3:List En:=hJ++(iK)
def iL:List En:=[AC7 23 20 18,
 AC4 24 8 23,
 AC5 25 8 23,
 ADE 26 17 20,
 AC8 27 17 20,
 AC9 28 17 20,
 ADH 29 17 20,
 ADF 30 17 20,
 ADG 31 17 20,
 ADI 32 17 20,
 ADJ 33 17 20,
 ADK 34 17 20,
 ⟨35,.mget .b 9 0 [.i,.i,.i,.b,.s,.s,.b,.i,.i],[.e 21,.c (.bool false),.e 26,.e 27,.e 28,.e 29,.e 30,.e 31,.e 32,.e 33,.e 34]⟩,
 AC4 36 24 35,
 AC5 37 24 35,
 ⟨38,.mset 9 [.i,.i,.i,.b,.s,.s,.b,.i,.i,.b],[.e 21,.e 26,.e 27,.e 28,.e 29,.e 30,.e 31,.e 32,.e 33,.e 34,.c (.bool true)]⟩]
def iM:List En:=[⟨39,.row 1 9 [.i,.i,.i,.b,.s,.s,.b,.i,.i],[.e 26,.e 27,.e 28,.e 29,.e 30,.e 31,.e 32,.e 33,.e 34]⟩,
 ADS 40 22 39,
 ADD 41 35 21 38,
 ADD 42 35 22 40,
 ⟨43,.ite .l,[.e 35,.c (.list []),.e 39]⟩,
 ⟨44,.w2 .i64 .add,[.e 20,.c (.int 1)]⟩]
def Gl:List En:=iL++(iM)
def ZG:List ObE:=[⟨some 37,.fits 88,[.e 22,.e 39]⟩,⟨some 37,.fits 1,[.e 21,.c (.list [[]])]⟩,⟨some 24,.inl,[.e 20,.e 17]⟩]
def Nz:Aa:=mkD 20 3 Gl 24 [.e 44,.e 41,.e 42] ZG [17,8,18]
def SN:List Rf:=[.e 17,.e 8,.e 18,.c (.int 0),.e 15,.e 19]
def gE:List En:=[ADB 45 22,
 ⟨46,.lt,[.c (.int 200),.e 45]⟩,
 AC4 47 25 46,
 AC5 48 25 46,
 ⟨49,.outB "soundB.0" Jd,[.e 22]⟩,
 AC4 50 48 49,
 AC5 51 48 49,
 ⟨52,.ite .i,[.e 46,.c (.int 6),.c (.int 12)]⟩,
 AC6 53 47 51,
 ⟨54,.ite .i,[.e 53,.e 52,.c (.int 0)]⟩,
 ⟨55,.ite .l,[.e 53,.c (.list []),.e 22]⟩,
 AC6 56 53 50,
 ⟨57,.ite .l,[.e 14,.c (.list []),.e 16]⟩,
 ⟨58,.ite .l,[.e 14,.c (.list []),.e 22]⟩,
 ADD 59 14 9 1,
 ADC 60 14 10 54]
def gF:List En:=[⟨61,.ite .i,[.e 14,.e 11,.c (.int 2)]⟩,
 ⟨62,.ite .l,[.e 14,.c (.list []),.e 55]⟩,
 ADC 63 14 12 5,
 ADU 64 14 13 6,
 ⟨65,.ite .b,[.e 14,.c (.bool true),.c (.bool false)]⟩,
 AC6 66 14 56]
def Yn:List En:=gE++(gF)
def yK:List ObE:=[⟨some 8,.owes Nz,[.e 17,.e 8,.e 18,.c (.int 0),.e 15,.e 19]⟩,
 ⟨some 8,.pre "concat.p0" JL,[.e 16]⟩,
 ⟨some 8,.pre "concat.p1" Jc,[.e 16]⟩]
def jH:List Rf:=[.e 62,.e 60]
theorem xW:MP.sees jH (MP.run Try.prog [(47,FN),(85,G3),(84,FQ)] AAb 3000 20 44)=some ((N3++((Ad Nz [.i,.l,.l] SN)++(Gl++(Yn)))).map En.be,yK.map ObE.be,[]):=by kernel_rfl
theorem wF:AW Try.prog 44 MP:=by
 refine An (l:=[(47,FN),(85,G3),(84,FQ)]) A8 (by simp only[ABT];exact⟨Nj,YK,sZ,fun _ h=>absurd h (by simp)⟩) xW (by kernel_rfl) fun T us d6 hT a9 hS d1 q=>?_;change us.length=2 at a9;obtain⟨⟨c3,d4⟩,⟨c4,d5⟩,-⟩:=d1;replace c3:(L T 0).length<=140737488355328:=c3;have e3:∀u∈(L T 0),AL AB KB u:=fun u d=>by
  obtain⟨i,Y⟩:=ABZ.1 d;exact d4 i u Y
 replace c4:(L T 1).length<=140737488355328:=c4;have e4:∀u∈(L T 1),AL AB KB u:=fun u d=>by
  obtain⟨i,Y⟩:=ABZ.1 d;exact d5 i u Y
 have c0:=inL (j:=0) hT a9 (by decide);have c1:=inL (j:=1) hT a9 (by decide);clear d6;rw[ABI,ABI,ABI] at q;obtain⟨hA,q⟩:=cutB q;obtain⟨hH,q⟩:=cutB q;obtain⟨hB,q⟩:=cutB q;obtain⟨V,a7⟩:=AN hS (by kernel_rfl) hA;obtain⟨v,V⟩:=V.cut;have N:=V;have c2:I T 18=(L T 17).length:=by
  obtain⟨bx,-⟩:=N;simp only[AD,zR,zL] at bx;exact bx
 have ds:L T 15=[]:=by
  obtain⟨-,-,-,-,-,-,-,-,-,-,-,-,-,bt,-⟩:=v;simp only[AD,zR,zL,zS] at bt;exact bt
 have cl:L T 19=[]:=by
  obtain⟨-,b0,-⟩:=N;simp only[AD,zR,zL,zS] at b0;exact b0
 have c5:L T 17=L T 0++L T 1/\(∀u∈(L T 17),AL AB KB u)/\(L T 17).length<=281474976710656:=by
  obtain⟨-,-,-,-,-,-,-,-,-,-,-,-,-,-,x,ad,-⟩:=v;replace ad:L T 17=(Cx (L T 16)):=ad;simp only[AD,AG,zR,zL,zS,uR,Bv,zW] at x;have h:=x;have e:L T 17=L T 0++L T 1:=by
   rw[ad,x];exact xK _ _
  grind
 have a4:B T 8=true->AM (L T 0)=0/\AM (L T 1)=0/\(L T 17).length<=400:=by
  obtain⟨b,o,y,c,p,-,z,-⟩:=v;replace b:I T 2=(AM (L T 0)):=b;replace c:I T 5=(AM (L T 1)):=c;simp only[AD,AG,zN,zR] at o y p z;intro h;obtain⟨h4,h6⟩:=z.1 h;have n3:¬B T 3=true:=by simpa using y.1 h4
  have n6:¬B T 6=true:=by simpa using h6
  have bm:I T 2=0:=ABq fun a=>n3 (o.2 a);have a5:I T 5=0:=ABq fun a=>n6 (p.2 a);rw[b] at bm;rw[c] at a5;have:=HE bm;have:=HE a5;grind
 refine ACw (Ap (nh:=20) (k:=3) (pcn:=24) (an:=45) (H:=Gl) (K:=ZG) (nxt:=[.e 44,.e 41,.e 42]) (A:=[.c (.int 0),.e 15,.e 19]) (fv:=[17,8,18]) (R:=[.i,.l,.l]) (by kernel_rfl) rfl rfl rfl rfl a7 (by kernel_rfl) (by kernel_rfl) hB (Ae hH) (fun s=>ACq T (aI s 0) (aL s 1) (aL s 2)) (fun s=>((L T 17).length - (aI s 0)).toNat)) ?_ ?_ fun⟨eo,cx,bb,em⟩=>?_
 .show ACq T (0:Int) (L T 15) (L T 19);exact⟨ABt _,by omega,by rw[cl];rfl,by rw[ds,cl];rfl⟩
 .intro J O D ba;replace ba:ACq T (I J 20) (L J 21) (L J 22):=ba;replace D:AE J Gl:=D;obtain⟨v,D⟩:=D.cut;have N:=D;clear D;have dn:=fvL (O 17 (by decide));have cj:=fvB (O 8 (by decide));have ci:=fvI (O 18 (by decide));clear O;obtain⟨E,w,-,b2,b3,b4,b5,b6,b7,b8,b9,ca,cb,-,ag,cc,-⟩:=id v;obtain⟨al,ao,ce,aw,-,cf,-⟩:=id N;simp only[AD,AG,zN,zC,zR,w2P,zL,zS,uR,Bv,zW] at E w b2 b3 b4 b5 b6 b7 b8 b9 ca cb ag cc al ao ce aw cf;obtain⟨v1,v2,M,Q⟩:=ba
  suffices hz:(B J 37=true->((L J 22).length+(L J 39).length)*88<=140737488355328)/\(B J 37=true->((L J 21).length+(([[]]:U')).length)*1<=140737488355328)/\(B J 24=true->0<=I J 20/\I J 20 < (L J 17).length)/\(B J 24=true->(ACq T (I J 44) (L J 41) (L J 42)))/\(B J 24=true->((L T 17).length - (I J 44)).toNat < ((L T 17).length - (I J 20)).toNat) from
   let⟨r0,ax,aK,nx,mz⟩:=hz;⟨⟨r0,ax,aK,trivial⟩,fun t=>⟨nx t,mz t⟩⟩
  refine⟨?_,?_,?_,?_,?_⟩
  .intro t;obtain⟨C,F⟩:=w.1 (ag.1 t).1;have g:=(a4 (by rw[<-cj];exact C)).2.2;have:=iZ (l:=(L T 17).take (I J 20).toNat);grind
  .intro t;obtain⟨C,F⟩:=w.1 (ag.1 t).1;have g:=(a4 (by rw[<-cj];exact C)).2.2;have:=iZ (l:=(L T 17).take (I J 20).toNat);rw[ABl] at this;have e:(L J 21).length=(ddS ((L T 17).take (I J 20).toNat)).length:=by rw[Q,M];unfold mkT;rw[List.length_map]
   grind
  .grind
  .obtain⟨p1,P,p3⟩:=c5;intro t;have F:=E.1 (w.1 t).2;have e2:=ci;rw[ci] at F;have Y:I T 18=(L T 17).length:=c2;have ey:=o2' cf (by omega);have a8:(I J 20).toNat < (L T 17).length:=by omega
   have cu:[U.int (I J 26),U.int (I J 27),U.int (I J 28),U.bool (B J 29),U.str (S J 30),U.str (S J 31),U.bool (B J 32),U.int (I J 33),U.int (I J 34)]=(L T 17).getD (I J 20).toNat []:=by
    rw[b2,b3,b4,b5,b6,b7,b8,b9,ca,dn];exact Fq (P _ (Aq a8))
   have hd:∀u∈(L J 22),AL AB KB u:=fun u d=>by rw[M] at d;exact P u (List.mem_of_mem_take (ip.1 d))
   have d:=P _ (Aq a8);have bc:B J 35=true↔(L T 17).getD (I J 20).toNat []∈(L J 22):=by
    rw[<-xQ (show TyB (L J 22) from hd) d,<-Q,<-cu,cb];exact Iff.rfl
   refine⟨by omega,by omega,?_,?_⟩
   .rw[ey,show (I J 20+1).toNat=(I J 20).toNat+1 by omega,uH a8,<-M,aw];by_cases r:B J 35=true
    .rw[ACE r,ef (bc.1 r)]
    .rw[ACD r,Xh (fun h=>r (bc.2 h)),ao,al];grind
   .rw[ce,aw];by_cases r:B J 35=true
    .grind
    .rw[ACD r,ACD r,cc,ao,al];show BB 9 (L J 21) [U.int (I J 26),U.int (I J 27),U.int (I J 28),U.bool (B J 29),U.str (S J 30),U.str (S J 31),U.bool (B J 32),U.int (I J 33),U.int (I J 34)] [.bool true]=mkT (L J 22++[[U.int (I J 26),U.int (I J 27),U.int (I J 28),U.bool (B J 29),U.str (S J 30),U.str (S J 31),U.bool (B J 32),U.int (I J 33),U.int (I J 34)]]);rw[cu,Q];exact xc (show TyB (L J 22) from hd) d (fun h=>r (bc.2 h))
  .grind
 replace bb:0<=I T 20/\I T 20<=(L T 17).length/\L T 22=ddS ((L T 17).take (I T 20).toNat)/\L T 21=mkT (L T 22):=bb;have d2:=(AN (cx.append a7) (l:=Gl) (by kernel_rfl) hB);obtain⟨X,hS⟩:=d2;clear hA hB hH a7 cx;obtain⟨W,hO⟩:=Ao (R:=[.l,.i]) (ai:=jH) hS (by kernel_rfl) q;obtain⟨F2,X⟩:=X.cut;have F3:=X;obtain⟨F4,W⟩:=W.cut;have F5:=W;have e1:B T 8=true->B T 25=true/\L T 22=ddS (L T 0++L T 1):=by
  obtain⟨E,w,b1,-⟩:=F2;simp only[AD,AG,zN,zR] at E w b1;obtain⟨v1,v2,M,Q⟩:=bb;obtain⟨p1,P,p3⟩:=c5;intro C;have bi:B T 23=false:=Bool.eq_false_iff.2 fun F=>em (w.2 ⟨C,F⟩);have h:¬I T 20 < I T 18:=fun h=>by have:=E.2 h;rw[this] at bi;cases bi
  rw[c2] at h;refine⟨b1.2 ⟨C,bi⟩,?_⟩;rw[M,<-p1,show (I T 20).toNat=(L T 17).length by omega,ACA]
 have me:I T 60=HZ (L T 0) (L T 1):=by
  obtain⟨b,o,y,c,p,e7,z,-,Z,-,-,-,ab,-⟩:=v;obtain⟨c9,db,dd,de,ch,-,di,a0,dj,a1,-,-,-,-,-,a2,-⟩:=F4;replace b:I T 2=(AM (L T 0)):=b;replace c:I T 5=(AM (L T 1)):=c;replace ch:B T 49=(EQ (L T 22)):=ch;simp only[AD,AG,zN,zR,zL,zS] at o y p e7 z Z ab c9 db dd de di a0 dj a1 a2;have k3:B T 3=true↔¬AM (L T 0)=0:=by rw[o,b]
  have k6:B T 6=true↔¬AM (L T 1)=0:=by rw[p,c]
  unfold HZ;grind
 obtain⟨b,o,y,c,p,e7,z,-,Z,-,-,-,ab,-,x,-⟩:=id v;obtain⟨-,-,-,-,-,-,-,a0,-,a1,dk,-,-,-,-,a2,-⟩:=id F4;obtain⟨-,dm,-⟩:=id F5;replace b:I T 2=(AM (L T 0)):=b;replace c:I T 5=(AM (L T 1)):=c;simp only[AD,AG,zN,zR,zL,zS,uR,Bv,zW] at o y p e7 z Z ab x a0 a1 dk a2 dm;have q0:L T 62=(JA (L T 0) (L T 1)):=by
  have k3:B T 3=true↔¬AM (L T 0)=0:=by rw[o,b]
  have k6:B T 6=true↔¬AM (L T 1)=0:=by rw[p,c]
  unfold JA;grind
 have q1:I T 60=(HZ (L T 0) (L T 1)):=by
  exact me
 have r0:B T 8=true->(L T 16).length<=4:=by
  grind
 have ax:B T 8=true->(∀j:Nat,(Hx (L T 16) j 0).length<=1000):=by
  intro h;have g:=a4 h;have n0:=HE g.1;have av:=HE g.2.1;intro j;rw[x]
  match j with
  |0=>show (L T 0).length<=1000;omega
  |1=>show (L T 1).length<=1000;omega
  |j+2=>show (0:Nat)<=1000;omega
 refine⟨⟨(fun _=>eo),r0,ax,trivial⟩,hO.trans ?_⟩;exact (lc (by show U.list (L T 62)= .list (LY us);unfold LY;rw[c0,c1];exact ACF U.list q0) (lc (by show U.int (I T 60)= .int (LN us);unfold LN;rw[c0,c1];exact ACF U.int q1) rfl))
def QT:List U->U':=fun us=>(AY (aL us 0))
def IL:AU:={ sh:=[.one (.list [k64,k64,k64,.bool,.str,.str,.bool,k64,k64])],blks:=[],outs:=[(.s "books1.0",CI QT)],c:= .ro 1 [k64,k64,k64,k64,.bool,.str,.str,.bool,k64,k64],m':=[],pre:=[] }
def cF:List En:=[⟨1,.id .l,[.c (.list [])]⟩,
 ADB 2 0]
def Jg:List En:=cF
def bP:List En:=[AC7 5 3 2,
 ADA 6 5,
 ADE 7 0 3,
 AC8 8 0 3,
 AC9 9 0 3,
 ADH 10 0 3,
 ADF 11 0 3,
 ADG 12 0 3,
 ADI 13 0 3,
 ADJ 14 0 3,
 ADK 15 0 3,
 ⟨16,.mget .i 1 0 [.i],[.e 4,.c (.int 0),.e 7]⟩,
 ⟨17,.mget .i 1 1 [.i],[.e 4,.c (.int 0),.e 7]⟩,
 ⟨18,.mget .i 1 2 [.i],[.e 4,.c (.int 0),.e 7]⟩,
 ⟨19,.mget .b 1 3 [.i],[.e 4,.c (.bool false),.e 7]⟩,
 ⟨20,.mget .s 1 4 [.i],[.e 4,.c (.str ⟨#[]⟩),.e 7]⟩]
def cC:List En:=[⟨21,.mget .s 1 5 [.i],[.e 4,.c (.str ⟨#[]⟩),.e 7]⟩,
 ⟨22,.mget .b 1 6 [.i],[.e 4,.c (.bool false),.e 7]⟩,
 ⟨23,.mget .i 1 7 [.i],[.e 4,.c (.int 0),.e 7]⟩,
 ⟨24,.mget .i 1 8 [.i],[.e 4,.c (.int 0),.e 7]⟩,
 ⟨25,.mhas 1 [.i],[.e 4,.e 7]⟩,
 AC4 26 5 25,
 AC7 27 17 8,
 ⟨28,.or,[.n 25,.e 27]⟩,
 AC4 29 5 28,
 ⟨30,.mset 1 [.i,.i,.i,.i,.b,.s,.s,.b,.i,.i],[.e 4,.e 7,.e 7,.e 8,.e 9,.e 10,.e 11,.e 12,.e 13,.e 14,.e 15]⟩,
 AC5 31 5 28,
 ADD 32 28 30 4,
 ⟨33,.w2 .i64 .add,[.e 3,.c (.int 1)]⟩]
def ES:List En:=bP++(cC)
def Va:List ObE:=[⟨some 29,.fits 1,[.e 4,.c (.list [[]])]⟩,⟨some 5,.inl,[.e 3,.e 0]⟩]
def JG:Aa:=mkD 3 2 ES 5 [.e 33,.e 32] Va [0,2]
def MB:List Rf:=[.e 0,.e 2,.c (.int 0),.e 1]
def Vg:List En:=[]
def cR:List ObE:=[⟨none,.owes JG,[.e 0,.e 2,.c (.int 0),.e 1]⟩]
def cU:List Rf:=[.e 4]
abbrev dt(T:Tab):Prop:=(L T 0).length<=140737488355328
variable{T:Tab}
theorem gx (g:dt T)(e:∀u∈(L T 0),AL AB KB u)(a:AE T Jg):
  (I T 2=(L T 0).length)/\(L T 1=[]):=by
 have b:=a;clear a;have O:I T 2=(L T 0).length:=by
  obtain⟨-,d,-⟩:=b;simp only[AD,zR,zL] at d;exact d
 have C:L T 1=[]:=by
  obtain⟨c,-⟩:=b;simp only[AD,zR,zL,zS] at c;exact c
 exact⟨O,C⟩
abbrev cg(T:Tab)(a:Int)(b:U'):Prop:=0<=a/\a <=(L T 0).length/\b=AY ((L T 0).take a.toNat)
theorem nR (a8:dt T)(a2:∀u∈(L T 0),AL AB KB u)(O:I T 2=(L T 0).length)(C:L T 1=[])(N:AK T (AO (Aj 0 IL.ks) Jg))(F:AR T (ES.map En.be))(M:AR T ((Ad JG [.i,.l] MB).map En.be)):
  (JG).owes (MB.map (Rf.eval T))/\AK T (hds 3 [.i,.l])/\(cg T (I T 3) (L T 4))/\¬B T 5=true:=by
 refine Ap (nh:=3) (k:=2) (pcn:=5) (an:=34) (H:=ES) (K:=Va) (nxt:=[.e 33,.e 32]) (A:=[.c (.int 0),.e 1]) (fv:=[0,2]) (R:=[.i,.l]) (by kernel_rfl) rfl rfl rfl rfl N (by kernel_rfl) (by kernel_rfl) F (Ae M) (fun s=>cg T (aI s 0) (aL s 1)) (fun s=>((L T 0).length - (aI s 0)).toNat) ?_ ?_
 .show cg T (0:Int) (L T 1);clear N F M;exact⟨by omega,by omega,by rw[show (0:Int).toNat=0 from rfl,List.take_zero];exact C⟩
 .intro J P e g;replace g:cg T (I J 3) (L J 4):=g;clear N F M;replace e:AE J ES:=e;obtain⟨j,e⟩:=e.cut;have t:=e;clear e;have al:=fvL (P 0 (by decide));have q:=fvI (P 2 (by decide));clear P
  suffices hz:(B J 29=true->((L J 4).length+(([[]]:U')).length)*1<=140737488355328)/\(B J 5=true->0<=I J 3/\I J 3 < (L J 0).length)/\(B J 5=true->(cg T (I J 33) (L J 32)))/\(B J 5=true->((L T 0).length - (I J 33)).toNat < ((L T 0).length - (I J 3)).toNat) from
   let⟨r0,ax,nx,mz⟩:=hz;⟨⟨r0,ax,trivial⟩,fun c=>⟨nx c,mz c⟩⟩
  refine⟨?_,?_,?_,?_⟩
  .obtain⟨b,-⟩:=j;obtain⟨-,-,-,-,-,-,-,-,ab,-⟩:=t;simp only[AD,AG,zR] at b ab;obtain⟨Q,V,i⟩:=g;intro c;have d:=b.1 (ab.1 c).1;rw[q] at d;have h6:=uP (l:=(L T 0).take (I J 3).toNat);rw[<-i,ABl] at h6;show ((L J 4).length+1)*1<=_;omega
  .obtain⟨b,-⟩:=j;simp only[AD,zR] at b;obtain⟨Q,V,i⟩:=g;intro c;have d:=b.1 c;rw[q] at d;rw[al];omega
  .obtain⟨b,-,o,p,E,v,w,x,y,z,D,-,W,-⟩:=j;obtain⟨-,-,-,-,X,-,Y,Z,-,ad,-,ag,h,-⟩:=t;simp only[AD,AG,zN,zR,w2P,zL,zS,uR,zW,zC] at b o p E v w x y z D W X Y Z ad ag h;obtain⟨Q,V,i⟩:=g;intro c;have d:=b.1 c;rw[q] at d;have a0:=o2' h (by omega);refine⟨by omega,by omega,?_⟩;have aw:(I J 3).toNat < (L T 0).length:=by omega
   rw[a0,show (I J 3+1).toNat=(I J 3).toNat+1 by omega,CQ aw,Vm,<-i];have hu:=a2 _ (Aq aw);rw[al] at o p E v w x y z D;unfold Mf;have hb:B J 28=true↔(¬Oc (L J 4) (uI ((L T 0).getD (I J 3).toNat []) 0)\/W5 (L J 4) (uI ((L T 0).getD (I J 3).toNat []) 0) < uI ((L T 0).getD (I J 3).toNat []) 1):=by
    rw[Z,<-Bool.not_eq_true,X,Y,W,o,p];exact Iff.rfl
   rw[ag];by_cases r:B J 28=true
   .rw[ACE r,ACE (hb.1 r),ad];show BB 1 _ [U.int (I J 7)] [U.int (I J 7),U.int (I J 8),U.int (I J 9),U.bool (B J 10),U.str (S J 11),U.str (S J 12),U.bool (B J 13),U.int (I J 14),U.int (I J 15)]=_;rw[o,p,E,v,w,x,y,z,D];exact ACF (BB 1 _ _) (Fq hu)
   .rw[ACD r,ACD (fun a=>r (hb.2 a))]
  .obtain⟨b,-⟩:=j;obtain⟨-,-,-,-,-,-,-,-,-,-,-,-,h,-⟩:=t;simp only[AD,zR,w2P] at b h;obtain⟨Q,V,i⟩:=g;intro c;have d:=b.1 c;rw[q] at d;have a0:=o2' h (by omega);omega
theorem wJ (p:dt T)(o:∀u∈(L T 0),AL AB KB u)(O:I T 2=(L T 0).length)(C:L T 1=[])(g:cg T (I T 3) (L T 4))(h:¬B T 5=true)(c:AE T Jg)(b:AE T ES):
  (L T 4=(AY (L T 0))):=by
 have j:=c;clear c;obtain⟨e,b⟩:=b.cut;have k:=b;clear b
 .obtain⟨d,-⟩:=e;simp only[AD,zR] at d;obtain⟨q,r,i⟩:=g;have l:¬I T 3 < I T 2:=fun a=>h (d.2 a);rw[i,show (I T 3).toNat=(L T 0).length by omega,ACA]
theorem so:∀(T:Tab) (us:List U),(∀p∈IL.pre,p.2 us)->(∀j u,us[j]? =some u->T j=u)->us.length=IL.n->AK T (Aj 0 IL.ks)->Bnd T 0 IL.ks->AR T ((Jg++((Ad JG [.i,.l] MB)++(ES++(Vg)))).map En.be)->JF T cR/\cU.map (Rf.eval T)=IL.outs.map fun o=>o.2 us:=by
 intro T us D y s d v a;change us.length=1 at s;obtain⟨⟨b,A⟩,-⟩:=v;replace b:(L T 0).length<=140737488355328:=b;have g:∀u∈(L T 0),AL AB KB u:=fun u E=>by
  obtain⟨i,Y⟩:=ABZ.1 E;exact A i u Y
 have z:=inL (j:=0) y s (by decide);clear D;rw[ABI,ABI,ABI] at a;obtain⟨k,a⟩:=cutB a;obtain⟨q,a⟩:=cutB a;obtain⟨c,a⟩:=cutB a;obtain⟨h,e⟩:=AN d (by kernel_rfl) k;obtain⟨O,C⟩:=gx b g h;obtain⟨J,r,F,H⟩:=nR b g O C e c q;have w:=(AN (r.append e) (l:=ES) (by kernel_rfl) c);obtain⟨t,d⟩:=w;clear k c q e r;obtain⟨M,x⟩:=Ao (R:=[.l]) (ai:=cU) d (by kernel_rfl) a;have K:=wJ b g O C F H h t;refine⟨⟨(fun _=>J),trivial⟩,x.trans ?_⟩;exact (lc (by show U.list (L T 4)= .list (QT us);unfold QT;rw[z];exact ACF U.list K) rfl)
def NI:List U->Int:=fun us=>(BV (aI us 0) (aI us 1))
def Ro:AU:={ sh:=[.one (k64),.one (k64)],blks:=[],outs:=[(.s "cmpI.0",Ba NI)],c:=(Ch 2),m':=[],pre:=[] }
def j9:List En:=[AC7 2 0 1,
 ADA 3 2,
 AC7 4 1 0,
 AC4 5 3 4,
 AC5 6 3 4,
 ⟨7,.ite .i,[.e 5,.c (.int 1),.c (.int 0)]⟩,
 AC6 8 5 6,
 ⟨9,.ite .i,[.e 2,.c (.int (-1)),.e 7]⟩,
 AC6 10 2 8]
def bE:List En:=j9
def AAL:List ObE:=[]
def ph:List Rf:=[.e 9]
theorem zB:Ro.sees ph (Ro.run Try.prog [] Ab 3000 20 103)=some ((bE).map En.be,AAL.map ObE.be,[]):=by kernel_rfl
theorem yg:AW Try.prog 103 Ro:=by
 refine An (l:=[]) A8 (by intro p h;exact absurd h (by simp)) zB (by kernel_rfl) fun T us z q g w t u=>?_;change us.length=2 at g;clear t;have x:=inI (j:=0) q g (by decide);have y:=inI (j:=1) q g (by decide);clear z
 skip
 obtain⟨r,v⟩:=Ao (R:=[.i]) (ai:=ph) w (by kernel_rfl) u;have s:=r;obtain⟨c,i,d,e,-,k,-,o,-⟩:=id s;simp only[AD,AG,zR,zL,zS] at c i d e k o;have A:I T 9=(BV (I T 0) (I T 1)):=by
  unfold BV;rw[o,k];by_cases C:I T 0 < I T 1
  .rw[ACE (c.2 C),ACE C]
  .have O:¬B T 2=true:=fun a=>C (c.1 a);rw[ACD O,ACD C];by_cases b:I T 1 < I T 0
   .rw[ACE (e.2 ⟨i.2 O,d.2 b⟩),ACE b]
   .rw[ACD (fun a=>b (d.1 (e.1 a).2)),ACD b]
 refine⟨trivial,v.trans ?_⟩;exact (lc (by show U.int (I T 9)= .int (NI us);unfold NI;rw[x,y];exact ACF U.int A) rfl)
def IA:List U->Int:=fun us=>(if BV (aI us 2) (aI us 11)=0 then BV (aI us 0) (aI us 9) else BV (aI us 2) (aI us 11))
def Mr:AU:={ sh:=[.agg [k64,k64,k64,.bool,.str,.str,.bool,k64,k64],.agg [k64,k64,k64,.bool,.str,.str,.bool,k64,k64]],blks:=[],outs:=[(.s "cmpB.0",Ba IA)],c:=(Ch 18),m':=[],pre:=[] }
def lK:List En:=[⟨18,.outI "cmpI.0" NI,[.e 2,.e 11]⟩,
 ⟨19,.outI "cmpI.0" NI,[.e 0,.e 9]⟩,
 ⟨20,.ne,[.e 18,.c (.int 0)]⟩,
 ADA 21 20,
 ⟨22,.ne,[.e 19,.c (.int 0)]⟩,
 AC4 23 21 22,
 AC5 24 21 22,
 ADC 25 20 18 19,
 ADC 26 20 18 19,
 ⟨27,.ite .i,[.e 20,.c (.int 0),.c (.int 1)]⟩,
 ADU 28 20 20 22,
 AC6 29 20 23,
 ADC 30 29 25 19,
 ⟨31,.ite .b,[.e 29,.c (.bool true),.c (.bool false)]⟩,
 ⟨32,.ite .i,[.e 29,.e 26,.c (.int 0)]⟩,
 ⟨33,.ite .i,[.e 29,.e 27,.c (.int 2)]⟩]
def kZ:List En:=[ADU 34 29 28 22,
 AC6 35 29 24]
def aU:List En:=lK++(kZ)
def zf:List ObE:=[]
def pP:List Rf:=[.e 32]
theorem AAD:Mr.sees pP (Mr.run Try.prog [(103,Ro)] Ab 3000 20 101)=some ((aU).map En.be,zf.map ObE.be,[]):=by kernel_rfl
theorem jN:AW Try.prog 101 Mr:=by
 refine An (l:=[(103,Ro)]) A8 (by simp only[ABT];exact⟨yg,fun _ h=>absurd h (by simp)⟩) AAD (by kernel_rfl) fun T us M d b E z A=>?_;change us.length=18 at b;obtain⟨-,-,-,w,x,-,-,-,-,-,u,v,-⟩:=z;replace w:(S T 4).size<=140737488355328:=w;replace x:(S T 5).size<=140737488355328:=x;replace u:(S T 13).size<=140737488355328:=u;replace v:(S T 14).size<=140737488355328:=v;have F:=inI (j:=0) d b (by decide);have J:=inI (j:=2) d b (by decide);have K:=inI (j:=9) d b (by decide);have H:=inI (j:=11) d b (by decide);clear M
 skip
 obtain⟨e,D⟩:=Ao (R:=[.i]) (ai:=pP) E (by kernel_rfl) A;obtain⟨y,e⟩:=e.cut;have P:=e;obtain⟨g,i,c,o,p,q,-,-,r,-,-,k,-,-,s,-⟩:=id y;replace g:I T 18=(BV (I T 2) (I T 11)):=g;replace i:I T 19=(BV (I T 0) (I T 9)):=i;simp only[AD,AG,zR,zL,zS] at c o p q r k s;have N:I T 32=(if BV (I T 2) (I T 11)=0 then BV (I T 0) (I T 9) else BV (I T 2) (I T 11)):=by
  rw[s,r,<-g,<-i];by_cases C:I T 18=0
  .have O:¬B T 20=true:=fun a=>(c.1 a) C;rw[ACE C,ACD O];by_cases t:I T 19=0
   .rw[t];split<;>rfl
   .rw[ACE (k.2 (.inr (q.2 ⟨o.2 O,p.2 t⟩)))]
  .rw[ACD C,ACE (c.2 C),ACE (k.2 (.inl (c.2 C)))]
 refine⟨trivial,D.trans ?_⟩;exact (lc (by show U.int (I T 32)= .int (IA us);unfold IA;rw[F,H,J,K];exact ACF U.int N) rfl)
def NU:List U->U':=fun us=>(AQ ltB (aL us 0) (aI us 2).toNat (aI us 3).toNat)
def J5:List U->Prop:=fun us=>((aL us 0)).length=(aI us 1)/\0<=(aI us 2)/\(aI us 2)<=(aI us 3)/\(aI us 3)<=(aI us 1)
def He:AU:={ sh:=[.one (k64),.one (k64),.cst (.fn (.func 101) [] [])],blks:=[],outs:=[(.s "insB.0",CI NU)],c:= .tup [],m':=[.mrow 4 1 [k64,k64,k64,.bool,.str,.str,.bool,k64,k64] 38],pre:=[(.s "insB.p0",J5)],row:=some ([k64,k64,k64,.bool,.str,.str,.bool,k64,k64],38) }
def wb:List Rf:=[.e 15,.e 16,.e 17,.e 18,.e 19,.e 20,.e 21,.e 22,.e 23,.e 27,.e 28,.e 29,.e 30,.e 31,.e 32,.e 33,.e 34,.e 35]
abbrev ACo (T:Tab)(a:Int)(b:U'):Prop:=I T 2<=a/\a<=I T 5/\(B T 7=true->(b).length=I T 1/\(∀u∈b,AL AB KB u)/\b=CY ((L T 6).take (I T 2).toNat) ((((L T 6).take (I T 5).toNat).drop (I T 2).toNat).reverse) ((L T 6).drop ((I T 5).toNat+1)) ((L T 6).getD (I T 5).toNat []) (I T 5 - a).toNat/\∀q:Nat,(q:Int) < I T 5 - a->ltB ((L T 6).getD (I T 5).toNat []) (((((L T 6).take (I T 5).toNat).drop (I T 2).toNat).reverse).getD q [])=true)
abbrev ACs (T:Tab)(a:Int)(b:U'):Prop:=I T 2+1<=a/\(a<=I T 3\/a=I T 2+1)/\(b).length=I T 1/\(∀u∈b,AL AB KB u)/\b=AQ ltB (L T 0) (I T 2).toNat a.toNat
def mB:List En:=[⟨4,.w2 .i64 .add,[.e 2,.c (.int 1)]⟩]
def H5:List En:=mB
def eW:List En:=[AC7 7 5 3,
 ADA 8 7]
def HJ:List En:=eW
def kS:List En:=[AC7 11 2 9,
 AC4 12 7 11,
 AC4 13 7 11,
 AC4 14 7 11,
 ADE 15 10 9,
 AC8 16 10 9,
 AC9 17 10 9,
 ADH 18 10 9,
 ADF 19 10 9,
 ADG 20 10 9,
 ADI 21 10 9,
 ADJ 22 10 9,
 ADK 23 10 9,
 AC4 24 7 11,
 AC4 25 7 11,
 ⟨26,.w2 .i64 .sub,[.e 9,.c (.int 1)]⟩]
def lC:List En:=[ADE 27 10 26,
 AC8 28 10 26,
 AC9 29 10 26,
 ADH 30 10 26,
 ADF 31 10 26,
 ADG 32 10 26,
 ADI 33 10 26,
 ADJ 34 10 26,
 ADK 35 10 26,
 ⟨36,.outI "cmpB.0" IA,wb⟩,
 ⟨37,.lt,[.e 36,.c (.int 0)]⟩,
 AC4 38 11 37,
 AC4 39 7 38,
 AC5 40 7 38,
 ⟨41,.w2 .i64 .sub,[.e 9,.c (.int 1)]⟩,
 ⟨42,.w2 .i64 .sub,[.e 9,.c (.int 1)]⟩]
def l6:List En:=[ADE 43 10 42,
 AC8 44 10 42,
 AC9 45 10 42,
 ADH 46 10 42,
 ADF 47 10 42,
 ADG 48 10 42,
 ADI 49 10 42,
 ADJ 50 10 42,
 ADK 51 10 42,
 ADE 52 10 9,
 AC8 53 10 9,
 AC9 54 10 9,
 ADH 55 10 9,
 ADF 56 10 9,
 ADG 57 10 9,
 ADI 58 10 9]
def ni:List En:=[ADJ 59 10 9,
 ADK 60 10 9,
 ⟨61,.rset 0 [.i,.i,.i,.b,.s,.s,.b,.i,.i],[.e 10,.e 9,.e 43,.e 44,.e 45,.e 46,.e 47,.e 48,.e 49,.e 50,.e 51]⟩,
 ⟨62,.rset 0 [.i,.i,.i,.b,.s,.s,.b,.i,.i],[.e 61,.e 41,.e 52,.e 53,.e 54,.e 55,.e 56,.e 57,.e 58,.e 59,.e 60]⟩,
 ⟨63,.w2 .i64 .sub,[.e 9,.c (.int 1)]⟩]
def FJ:List En:=kS++(lC++(l6++(ni)))
def dq:List ObE:=[⟨some 39,.inr,[.e 41,.e 1]⟩,⟨some 39,.inr,[.e 9,.e 1]⟩,⟨some 39,.inr,[.e 9,.e 1]⟩,⟨some 39,.inr,[.e 42,.e 1]⟩,⟨some 25,.inr,[.e 26,.e 1]⟩,⟨some 14,.inr,[.e 9,.e 1]⟩]
def Md:Aa:=mkD 9 2 FJ 39 [.e 63,.e 62] dq [7,2,1]
def RE:List Rf:=[.e 7,.e 2,.e 1,.e 5,.e 6]
def fj:List En:=[⟨64,.w2 .i64 .add,[.e 5,.c (.int 1)]⟩]
def Lu:List En:=fj
def KK:List En:=HJ++((Ad Md [.i,.l] RE)++(FJ++(Lu)))
def dH:List ObE:=[⟨some 7,.owes Md,[.e 7,.e 2,.e 1,.e 5,.e 6]⟩]
def QQ:Aa:=mkD 5 2 KK 40 [.e 64,.e 10] dH [2,1,3]
def Uu:List Rf:=[.e 2,.e 1,.e 3,.e 4,.e 0]
def wi:List En:=[]
def zb:List ObE:=[⟨none,.owes QQ,[.e 2,.e 1,.e 3,.e 4,.e 0]⟩]
def qp:List Rf:=[.e 6]
theorem zk:He.sees qp (He.run Try.prog [(101,Mr)] Ab 3000 20 144)=some ((H5++((Ad QQ [.i,.l] Uu)++(KK++(wi)))).map En.be,zb.map ObE.be,[]):=by kernel_rfl
abbrev ea(T:Tab):Prop:=0<=I T 2/\I T 2<=I T 3/\I T 2+1<=I T 5/\(I T 5<=I T 3\/I T 5=I T 2+1)/\I T 3<=I T 1/\I T 1<=140737488355328
abbrev eP(T:Tab):Prop:=(L T 6).length=I T 1/\∀u∈(L T 6),AL AB KB u
theorem qk (e:ea T)(au:eP T)(a:AE T HJ):
  (B T 7=true->I T 5 < I T 3):=by
 have c:=a;clear a;have d:B T 7=true->I T 5 < I T 3:=by
  obtain⟨b,-⟩:=c;simp only[AD,zR] at b;exact b.1
 exact d
theorem wZ (g1:ea T)(au:eP T)(r:B T 7=true->I T 5 < I T 3)(Y:AK T (AO (hds 5 [.i,.l]++EB [2,1,3] (AO (Aj 0 He.ks) H5)) HJ))(W:AR T (FJ.map En.be))(X:AR T ((Ad Md [.i,.l] RE).map En.be)):
  (Md).owes (RE.map (Rf.eval T))/\AK T (hds 9 [.i,.l])/\(ACo T (I T 9) (L T 10))/\¬B T 39=true:=by
 refine Ap (nh:=9) (k:=2) (pcn:=39) (an:=64) (H:=FJ) (K:=dq) (nxt:=[.e 63,.e 62]) (A:=[.e 5,.e 6]) (fv:=[7,2,1]) (R:=[.i,.l]) (by kernel_rfl) rfl rfl rfl rfl Y (by kernel_rfl) (by kernel_rfl) W (Ae X) (fun s=>ACo T (aI s 0) (aL s 1)) (fun s=>((aI s 0)).toNat) ?_ ?_
 .show ACo T (I T 5) (L T 6);clear Y W X;refine⟨by omega,ABt _,fun e=>?_⟩;have z:=r e;refine⟨au.1,au.2,?_,fun q hq=>absurd hq (by omega)⟩;rw[show (I T 5 - (I T 5)).toNat=0 by omega,cO (by omega) (by omega)]
 .intro J O h ab;replace ab:ACo T (I J 9) (L J 10):=ab;clear Y W X;replace h:AE J FJ:=h;obtain⟨F0,h⟩:=h.cut;obtain⟨F1,h⟩:=h.cut;obtain⟨F2,h⟩:=h.cut;have F3:=h;clear h;have y:=fvB (O 7 (by decide));have p:=fvI (O 2 (by decide));have C:=fvI (O 1 (by decide));clear O;obtain⟨o,-,-,ad,ag,-,ao,-,-,-,-,-,-,-,aw,F,-⟩:=id F0;obtain⟨a0,-,a1,-,-,-,-,-,-,Q,a2,t,v,-,w,x,-⟩:=id F1;obtain⟨a3,a4,a5,a6,a7,a8,a9,ba,bb,bc,bi,bk,bl,bm,bo,bs,-⟩:=id F2;obtain⟨bt,bx,b0,b1,M,-⟩:=id F3;replace Q:I J 36=(if BV (I J 17) (I J 29)=0 then BV (I J 15) (I J 27) else BV (I J 17) (I J 29)):=Q;simp only[AD,AG,zR,w2P,zL,zS,uR,zW,zC] at o ad ag ao aw F a0 a1 a2 t v w x a3 a4 a5 a6 a7 a8 a9 ba bb bc bi bk bl bm bo bs bt bx b0 b1 M;obtain⟨v1,v2,v3⟩:=ab
  suffices hz:(B J 39=true->0<=I J 41/\I J 41 < I J 1)/\(B J 39=true->0<=I J 9/\I J 9 < I J 1)/\(B J 39=true->0<=I J 9/\I J 9 < I J 1)/\(B J 39=true->0<=I J 42/\I J 42 < I J 1)/\(B J 25=true->0<=I J 26/\I J 26 < I J 1)/\(B J 14=true->0<=I J 9/\I J 9 < I J 1)/\(B J 39=true->(ACo T (I J 63) (L J 62)))/\(B J 39=true->(I J 63).toNat < (I J 9).toNat) from
   let⟨r0,ax,aK,r3,r4,r5,nx,mz⟩:=hz;⟨⟨r0,ax,aK,r3,r4,r5,trivial⟩,fun d=>⟨nx d,mz d⟩⟩
  refine⟨?_,?_,?_,?_,?_,?_,?_,?_⟩
  iterate 4
   .intro d;have b:=v.1 d;have g:=o.1 (t.1 b.2).1;rw[p] at g;have e:B T 7=true:=by rw[<-y];exact b.1
    have z:=r e;have D:=o2' w (by omega);have E:=o2' x (by omega);rw[C];omega
  .intro d;have b:=aw.1 d;have g:=o.1 b.2;rw[p] at g;have e:B T 7=true:=by rw[<-y];exact b.1
   have z:=r e;have cb:=o2' F (by omega);rw[C];omega
  .intro d;have b:=ad.1 d;have g:=o.1 b.2;rw[p] at g;have e:B T 7=true:=by rw[<-y];exact b.1
   have z:=r e;rw[C];omega
  .intro d;have b:=v.1 d;have b3:=t.1 b.2;have g:=o.1 b3.1;rw[p] at g;have e:B T 7=true:=by rw[<-y];exact b.1
   have z:=r e;have cb:=o2' F (by omega);have D:=o2' w (by omega);have E:=o2' x (by omega);have cc:=o2' M (by omega);clear F w x M;obtain⟨z1,P,z3,z4⟩:=v3 e;obtain⟨az,al,m3⟩:=OF (l:=L T 6) (c:=L J 10) (a:=(I T 2).toNat) (i:=(I T 5).toNat) (j:=(I J 9).toNat) (by omega) (by omega) (by omega) (by rw[show (I T 5).toNat - (I J 9).toNat=(I T 5 - (I J 9)).toNat by omega];exact z3);obtain⟨m4,m5⟩:=m3 (by omega);have hj:(I J 9).toNat < (L J 10).length:=by omega
   have b5:(I J 9).toNat - 1 < (L J 10).length:=by omega
   have Z:(I J 9 - 1).toNat=(I J 9).toNat - 1:=by omega
   have sj:=P _ (Aq hj);have ca:=P _ (Aq b5);have N:L J 61=(L J 10).set (I J 9).toNat ((L J 10).getD ((I J 9).toNat - 1) []):=by
    rw[b0,a3,a4,a5,a6,a7,a8,a9,ba,bb,E,Z];exact SI P hj ca
   have b8:∀u∈(L J 61),AL AB KB u:=by rw[N];exact Bi P ca
   have V:L J 62=(L J 61).set ((I J 9).toNat - 1) ((L J 10).getD (I J 9).toNat []):=by
    rw[b1,bc,bi,bk,bl,bm,bo,bs,bt,bx,D,Z];exact SI b8 (by rw[N,ABr];exact b5) sj
   have cj:ltB ((L T 6).getD (I T 5).toNat []) (((((L T 6).take (I T 5).toNat).drop (I T 2).toNat).reverse).getD ((I T 5).toNat - (I J 9).toNat) [])=true:=by
    rw[<-m4,<-al];refine decide_eq_true ?_;have b2:=a2.1 b3.2;rw[Q,ag,ao,a0,a1,cb,Z] at b2;exact b2
   refine⟨by omega,by omega,fun _=>⟨?_,?_,?_,fun q hq=>?_⟩⟩
   .rw[V,N,ABr,ABr];exact z1
   .rw[V];exact Bi b8 sj
   .rw[V,N,m5,cc,show (I T 5 - (I J 9 - 1)).toNat=(I T 5).toNat - ((I J 9).toNat - 1) by omega]
   .rcases Int.lt_or_le (q:Int) (I T 5 - (I J 9)) with b7|b7
    .exact z4 q b7
    .obtain rfl:q=(I T 5).toNat - (I J 9).toNat:=by omega
     exact cj
  .intro d;have g:=o.1 (t.1 (v.1 d).2).1;rw[p] at g;have cc:=o2' M (by omega);omega
theorem bC (g:ea T)(au:eP T)(c:AK T (hds 5 [.i,.l]++EB [2,1,3] (AO (Aj 0 He.ks) H5)))(a:AR T (KK.map En.be)):
  (AE T HJ)/\(B T 7=true->I T 5 < I T 3)/\((Md).owes (RE.map (Rf.eval T)))/\(ACo T (I T 9) (L T 10))/\(¬B T 39=true)/\(AE T FJ)/\(AE T Lu)/\AK T (AO (AO (hds 9 [.i,.l]++(AO (hds 5 [.i,.l]++EB [2,1,3] (AO (Aj 0 He.ks) H5)) HJ)) FJ) Lu):=by
 unfold KK at a;rw[ABI,ABI,ABI] at a;obtain⟨i,a⟩:=cutB a;obtain⟨j,a⟩:=cutB a;obtain⟨b,a⟩:=cutB a;obtain⟨e,d⟩:=AN c (by kernel_rfl) i;have h:=qk g au e;obtain⟨u,k,s,t⟩:=wZ g au h d b j;have q:=(AN (k.append d) (l:=FJ) (by kernel_rfl) b);obtain⟨o,c⟩:=q;clear i b j d k;obtain⟨p,r⟩:=AN c (by kernel_rfl) a;exact⟨e,h,u,s,t,o,p,r⟩
theorem wa (bm:∀u∈(L T 0),AL AB KB u)(b3:(L T 0).length=I T 1/\0<=I T 2/\I T 2<=I T 3/\I T 3<=I T 1)(h4:I T 4=I T 2+1)(ca:I T 1<=140737488355328)(D:AK T (AO (Aj 0 He.ks) H5))(z:AR T (KK.map En.be))(C:AR T ((Ad QQ [.i,.l] Uu).map En.be)):
  (QQ).owes (Uu.map (Rf.eval T))/\AK T (hds 5 [.i,.l])/\(ACs T (I T 5) (L T 6))/\¬B T 40=true:=by
 refine Jz (nh:=5) (k:=2) (pcn:=40) (an:=65) (H:=KK) (K:=dH) (nxt:=[.e 64,.e 10]) (A:=[.e 4,.e 0]) (fv:=[2,1,3]) (R:=[.i,.l]) (by kernel_rfl) rfl rfl rfl rfl D (by kernel_rfl) z (Ae C) (fun s=>ACs T (aI s 0) (aL s 1)) (fun s=>(I T 3 - (aI s 0)).toNat) ?_ ?_
 .show ACs T (I T 4) (L T 0);clear D z C;rw[h4];exact⟨ABt _,.inr rfl,b3.1,bm,by rw[show (I T 2+1).toNat=(I T 2).toNat+1 by omega,L1 (by omega)]⟩
 .intro J p ao hE g;replace g:ACs T (I J 5) (L J 6):=g;have x:=fvI (p 2 (by decide));have h:=fvI (p 1 (by decide));have y:=fvI (p 3 (by decide));clear p;clear D z C;have g1:0<=I J 2/\I J 2<=I J 3/\I J 2+1<=I J 5/\(I J 5<=I J 3\/I J 5=I J 2+1)/\I J 3<=I J 1/\I J 1<=140737488355328:=by
   obtain⟨v1,v2,E,F,M⟩:=g;rw[x,h,y];omega
  have au:(L J 6).length=I J 1/\∀u∈(L J 6),AL AB KB u:=by
   obtain⟨v1,v2,E,F,M⟩:=g;rw[h];exact⟨E,F⟩
  obtain⟨N,o,b2,bs,ce,b,O,aw⟩:=bC g1 au ao hE;clear ao hE;have hN:=B9 aw (ay:=[.i,.l]) (ai:=[.e 64,.e 10]) (by kernel_rfl);clear aw;have F0:=N;clear N;obtain⟨F1,b⟩:=b.cut;obtain⟨F2,b⟩:=b.cut;obtain⟨F3,b⟩:=b.cut;have F4:=b;clear b;have F5:=O;clear O;obtain⟨w,-⟩:=id F0;obtain⟨P,-,-,-,Q,-,V,-,-,-,-,-,-,-,-,W,-⟩:=id F1;obtain⟨X,-,Y,-,-,-,-,-,-,r,Z,ab,a9,t,-⟩:=id F2;obtain⟨v,-⟩:=id F5;replace r:I J 36=(if BV (I J 17) (I J 29)=0 then BV (I J 15) (I J 27) else BV (I J 17) (I J 29)):=r;simp only[AD,AG,zN,zR,w2P,zL] at w P Q V W X Y Z ab a9 t v;obtain⟨v1,v2,E,F,M⟩:=g
  suffices hz:(B J 40=true->(ACs T (I J 64) (L J 10)))/\(B J 40=true->(I T 3 - (I J 64)).toNat < (I T 3 - (I J 5)).toNat) from
   let⟨nx,mz⟩:=hz;⟨hN,⟨(fun _=>b2),trivial⟩,fun d=>⟨nx d,mz d⟩⟩
  refine⟨?_,?_⟩
  .obtain⟨aG,w2,w3⟩:=bs;rw[x] at aG w3;intro d;have e:=t.1 d;have o:=w.1 e.1;have a3:=o2' v (by omega);obtain⟨z1,z2,z3,z4⟩:=w3 e.1;have bl:L J 10=XX ltB (L J 6) (I T 2).toNat (I J 5).toNat:=by
    rw[z3];refine aV (l:=L J 6) (k:=(I J 5 - (I J 9)).toNat) (by omega) (by omega) (by omega) (fun q hq=>z4 q (by omega)) ?_;rcases Int.lt_or_le (I T 2) (I J 9) with h9|h9
    .refine .inr fun ax=>?_;obtain⟨az,al,m3⟩:=OF (l:=L J 6) (c:=L J 10) (a:=(I T 2).toNat) (i:=(I J 5).toNat) (j:=(I J 9).toNat) (by omega) (by omega) (by omega) (by rw[show (I J 5).toNat - (I J 9).toNat=(I J 5 - (I J 9)).toNat by omega];exact z3);obtain⟨m4,m5⟩:=m3 (by omega);rw[show (I J 5 - (I J 9)).toNat=(I J 5).toNat - (I J 9).toNat by omega,<-m4,<-al] at ax;have b4:=o2' W (by omega);have bb:I J 36 < 0:=by
      rw[r,Q,V,X,Y,b4,show (I J 9 - 1).toNat=(I J 9).toNat - 1 by omega];exact of_decide_eq_true ax
     have bc:B J 38=true:=ab.2 ⟨P.2 (by rw[x];exact h9),Z.2 bb⟩;have:=e.2;simp[bc] at this
    .exact .inl (by omega)
   refine⟨by omega,?_,by rw[<-h];exact z1,z2,?_⟩
   .rw[y] at o;left;omega
   .rw[bl,a3,show (I J 5+1).toNat=(I J 5).toNat+1 by omega,Yk (by omega) (by rw[h] at*; omega),<-M]
  .intro d;have e:=t.1 d;have o:=w.1 e.1;rw[y] at o;have a3:=o2' v (by omega);omega
theorem xN:AW Try.prog 144 He:=by
 refine An (l:=[(101,Mr)]) A8 (by simp only[ABT];exact⟨jN,fun _ h=>absurd h (by simp)⟩) zk (by kernel_rfl) fun T us Q e c p a3 a=>?_;change us.length=4 at c;obtain⟨⟨P,a6⟩,⟨V,g⟩,-⟩:=a3;replace P:(L T 0).length<=140737488355328:=P;have a7:∀u∈(L T 0),AL AB KB u:=fun u hu=>by
  obtain⟨i,Y⟩:=ABZ.1 hu;exact a6 i u Y
 replace V:0<=I T 1:=V;replace g:I T 1<=140737488355328:=g;have K:=inL (j:=0) e c (by decide);have a5:=inI (j:=1) e c (by decide);have M:=inI (j:=2) e c (by decide);have N:=inI (j:=3) e c (by decide);have W:(L T 0).length=I T 1/\0<=I T 2/\I T 2<=I T 3/\I T 3<=I T 1:=by
  have h:=Q (.s "insB.p0",J5) (by simp[He]);change J5 us at h;unfold J5 at h;simp only[K,a5,M,N] at h;exact h
 clear Q;rw[ABI,ABI,ABI] at a;obtain⟨E,a⟩:=cutB a;obtain⟨F,a⟩:=cutB a;obtain⟨o,a⟩:=cutB a;obtain⟨A0,d⟩:=AN p (by kernel_rfl) E;have F0:=A0;have h4:I T 4=I T 2+1:=by
  obtain⟨x,-⟩:=F0;simp only[AD,zR,w2P] at x;exact x (by omega) (by omega)
 have g:I T 1<=140737488355328:=by
  omega
 obtain⟨bb,H,r,a9⟩:=wa a7 W h4 g d o F;have g1:0<=I T 2/\I T 2<=I T 3/\I T 2+1<=I T 5/\(I T 5<=I T 3\/I T 5=I T 2+1)/\I T 3<=I T 1/\I T 1<=140737488355328:=by
  have A:I T 2=I T 2:=rfl;have k:I T 1=I T 1:=rfl;have C:I T 3=I T 3:=rfl;have q:=r;obtain⟨X,Z,s,t,v⟩:=q;rw[A,k,C];omega
 have au:(L T 6).length=I T 1/\∀u∈(L T 6),AL AB KB u:=by
  have A:I T 2=I T 2:=rfl;have k:I T 1=I T 1:=rfl;have C:I T 3=I T 3:=rfl;have q:=r;obtain⟨X,Z,s,t,v⟩:=q;rw[k];exact⟨s,t⟩
 obtain⟨ad,h7,bt,bs,ba,b,ag,J⟩:=bC g1 au (H.append (Cj (fun _ _=>rfl) d)) o;have p:=J.append d;clear E o F d H J;obtain⟨A2,hO⟩:=Ao (R:=[.l]) (ai:=qp) p (by kernel_rfl) a;have F1:=ad;obtain⟨F2,b⟩:=b.cut;obtain⟨F3,b⟩:=b.cut;obtain⟨F4,b⟩:=b.cut;have F5:=b;have F6:=ag;obtain⟨z,-⟩:=id F1;obtain⟨-,-,-,-,-,-,-,-,-,-,-,-,w,y,-⟩:=id F3;simp only[AD,AG,zN,zR] at z w y;have q0:L T 6=(AQ ltB (L T 0) (I T 2).toNat (I T 3).toNat):=by
  obtain⟨X,Z,s,t,v⟩:=r;obtain⟨p1,p2,p3,p4⟩:=W;have h7:¬I T 5 < I T 3:=fun h=>by
   have O:=z.2 h;by_cases D:B T 38=true
   .exact ba (w.2 ⟨O,D⟩)
   .exact a9 (y.2 ⟨O,by simpa using D⟩)
  rw[v];by_cases h8:I T 5=I T 3
  .rw[h8]
  .have h:I T 5=I T 2+1:=by omega
   rw[h,show (I T 2+1).toNat=(I T 2).toNat+1 by omega,L1 (by omega),Iu (by omega) (by omega)]
 refine⟨⟨(fun _=>bb),trivial⟩,hO.trans ?_⟩;exact (lc (by show U.list (L T 6)= .list (NU us);unfold NU;rw[K,M,N];exact ACF U.list q0) rfl)
def Mb:List U->U':=fun us=>(BI (aL us 0) (swS (aI us 2).toNat (aI us 3).toNat (aI us 4).toNat))
def J0:List U->Prop:=fun us=>((aL us 0)).length=(aI us 1)/\0<=(aI us 2)/\0<=(aI us 4)/\(aI us 2)+(aI us 4)<=(aI us 3)/\(aI us 3)+(aI us 4)<=(aI us 1)
def Qw:AU:={ sh:=[.one (k64),.one (k64),.one (k64),.cst (.fn (.func 101) [] [])],blks:=[],outs:=[(.s "swB.0",CI Mb)],c:= .tup [],m':=[.mrow 5 1 [k64,k64,k64,.bool,.str,.str,.bool,k64,k64] 38],pre:=[(.s "swB.p0",J0)],row:=some ([k64,k64,k64,.bool,.str,.str,.bool,k64,k64],38) }
abbrev AC2 (T:Tab)(a:Int)(b:U'):Prop:=0<=a/\a<=I T 4/\(b).length=I T 1/\(∀u∈b,AL AB KB u)/\b=BI (L T 0) (swS (I T 2).toNat (I T 3).toNat a.toNat)
def jh:List En:=[]
def pq:List En:=[AC7 7 5 4,
 ADA 8 7,
 ADM 9 2 5,
 ADM 10 3 5,
 ADM 11 3 5,
 ADE 12 6 11,
 AC8 13 6 11,
 AC9 14 6 11,
 ADH 15 6 11,
 ADF 16 6 11,
 ADG 17 6 11,
 ADI 18 6 11,
 ADJ 19 6 11,
 ADK 20 6 11,
 ADM 21 2 5,
 ADE 22 6 21]
def tF:List En:=[AC8 23 6 21,
 AC9 24 6 21,
 ADH 25 6 21,
 ADF 26 6 21,
 ADG 27 6 21,
 ADI 28 6 21,
 ADJ 29 6 21,
 ADK 30 6 21,
 ⟨31,.rset 0 [.i,.i,.i,.b,.s,.s,.b,.i,.i],[.e 6,.e 9,.e 12,.e 13,.e 14,.e 15,.e 16,.e 17,.e 18,.e 19,.e 20]⟩,
 ⟨32,.rset 0 [.i,.i,.i,.b,.s,.s,.b,.i,.i],[.e 31,.e 10,.e 22,.e 23,.e 24,.e 25,.e 26,.e 27,.e 28,.e 29,.e 30]⟩,
 ⟨33,.w2 .i64 .add,[.e 5,.c (.int 1)]⟩]
def Jy:List En:=pq++(tF)
def jo:List ObE:=[⟨some 7,.inr,[.e 10,.e 1]⟩,⟨some 7,.inr,[.e 9,.e 1]⟩,⟨some 7,.inr,[.e 21,.e 1]⟩,⟨some 7,.inr,[.e 11,.e 1]⟩]
def Sx:Aa:=mkD 5 2 Jy 7 [.e 33,.e 32] jo [2,3,4,1]
def W4:List Rf:=[.e 2,.e 3,.e 4,.e 1,.c (.int 0),.e 0]
def yI:List En:=[]
def AAv:List ObE:=[⟨none,.owes Sx,[.e 2,.e 3,.e 4,.e 1,.c (.int 0),.e 0]⟩]
def xI:List Rf:=[.e 6]
theorem AAh:Qw.sees xI (Qw.run Try.prog [] Ab 3000 20 150)=some ((jh++((Ad Sx [.i,.l] W4)++(Jy++(yI)))).map En.be,AAv.map ObE.be,[]):=by kernel_rfl
theorem zK:AW Try.prog 150 Qw:=by
 refine An (l:=[]) A8 (by intro p h;exact absurd h (by simp)) AAh (by kernel_rfl) fun T us b7 w v W cf q=>?_;change us.length=5 at v;obtain⟨⟨b6,cl⟩,⟨cb,b5⟩,-⟩:=cf;replace b6:(L T 0).length<=140737488355328:=b6;have cs:∀u∈(L T 0),AL AB KB u:=fun u hu=>by
  obtain⟨i,Y⟩:=ABZ.1 hu;exact cl i u Y
 replace cb:0<=I T 1:=cb;replace b5:I T 1<=140737488355328:=b5;have b1:=inL (j:=0) w v (by decide);have cj:=inI (j:=1) w v (by decide);have b2:=inI (j:=2) w v (by decide);have b3:=inI (j:=3) w v (by decide);have b4:=inI (j:=4) w v (by decide);have ad:(L T 0).length=I T 1/\0<=I T 2/\0<=I T 4/\I T 2+I T 4<=I T 3/\I T 3+I T 4<=I T 1:=by
  have h:=b7 (.s "swB.p0",J0) (by simp[Qw]);change J0 us at h;unfold J0 at h;simp only[b1,cj,b2,b3,b4] at h;exact h
 clear b7;rw[ABI,ABI,ABI] at q;obtain⟨hA,q⟩:=cutB q;obtain⟨hH,q⟩:=cutB q;obtain⟨V,q⟩:=cutB q;obtain⟨A0,X⟩:=AN W (by kernel_rfl) hA;refine ACw (Ap (nh:=5) (k:=2) (pcn:=7) (an:=34) (H:=Jy) (K:=jo) (nxt:=[.e 33,.e 32]) (A:=[.c (.int 0),.e 0]) (fv:=[2,3,4,1]) (R:=[.i,.l]) (by kernel_rfl) rfl rfl rfl rfl X (by kernel_rfl) (by kernel_rfl) V (Ae hH) (fun s=>AC2 T (aI s 0) (aL s 1)) (fun s=>(I T 4 - (aI s 0)).toNat)) ?_ ?_ fun⟨c1,b0,ab,cy⟩=>?_
 .show AC2 T (0:Int) (L T 0);exact⟨ABt _,ad.2.2.1,ad.1,cs,jI.symm⟩
 .intro J x t Z;replace Z:AC2 T (I J 5) (L J 6):=Z;replace t:AE J Jy:=t;obtain⟨P,t⟩:=t.cut;have F1:=t;clear t;have dd:=fvI (x 2 (by decide));have de:=fvI (x 3 (by decide));have r:=fvI (x 4 (by decide));have db:=fvI (x 1 (by decide));clear x;obtain⟨g,-,o,c,d,aw,a0,a1,a2,a3,a4,a5,a6,a7,e,a8,-⟩:=id P;obtain⟨a9,ba,bb,bc,bi,bk,bl,bm,bo,bs,Q,-⟩:=id F1;simp only[AD,zR,w2P,zL,zS,uR,zW,AG,zC] at g o c d aw a0 a1 a2 a3 a4 a5 a6 a7 e a8 a9 ba bb bc bi bk bl bm bo bs Q;obtain⟨v1,v2,v3,y,v5⟩:=Z;obtain⟨p1,p2,p3,p4,p5⟩:=ad
  suffices hz:(B J 7=true->0<=I J 10/\I J 10 < I J 1)/\(B J 7=true->0<=I J 9/\I J 9 < I J 1)/\(B J 7=true->0<=I J 21/\I J 21 < I J 1)/\(B J 7=true->0<=I J 11/\I J 11 < I J 1)/\(B J 7=true->(AC2 T (I J 33) (L J 32)))/\(B J 7=true->(I T 4 - (I J 33)).toNat < (I T 4 - (I J 5)).toNat) from
   let⟨r0,ax,aK,r3,nx,mz⟩:=hz;⟨⟨r0,ax,aK,r3,trivial⟩,fun a=>⟨nx a,mz a⟩⟩
  refine⟨?_,?_,?_,?_,?_,?_⟩
  iterate 4
   .intro a;have b:=g.1 a;rw[r] at b;have zz:True:=by have _:=o;have _:=c;have _:=d;have _:=e;trivial
    have M:=o2' o (by omega);have z:=o2' c (by omega);have D:=o2' d (by omega);have F:=o2' e (by omega);omega
  .intro a;have b:=g.1 a;rw[r] at b;have M:=o2' o (by omega);have z:=o2' c (by omega);have D:=o2' d (by omega);have F:=o2' e (by omega);have c7:=o2' Q (by omega);have jA:(I T 2).toNat+(I J 5).toNat < (L J 6).length:=by omega
   have jB:(I T 3).toNat+(I J 5).toNat < (L J 6).length:=by omega
   have sA:=y _ (Aq jA);have sB:=y _ (Aq jB);have C:L J 31=(L J 6).set ((I T 2).toNat+(I J 5).toNat) ((L J 6).getD ((I T 3).toNat+(I J 5).toNat) []):=by
    rw[bo,aw,a0,a1,a2,a3,a4,a5,a6,a7,show (I J 11).toNat=(I T 3).toNat+(I J 5).toNat by omega,show (I J 9).toNat=(I T 2).toNat+(I J 5).toNat by omega];exact SI y jA sB
   have k1:∀u∈(L J 31),AL AB KB u:=by rw[C];exact Bi y sB
   have O:L J 32=(L J 31).set ((I T 3).toNat+(I J 5).toNat) ((L J 6).getD ((I T 2).toNat+(I J 5).toNat) []):=by
    rw[bs,a8,a9,ba,bb,bc,bi,bk,bl,bm,show (I J 21).toNat=(I T 2).toNat+(I J 5).toNat by omega,show (I J 10).toNat=(I T 3).toNat+(I J 5).toNat by omega];exact SI k1 (by rw[C,ABr];exact jB) sA
   have E:∀u∈(L J 32),AL AB KB u:=by rw[O];exact Bi k1 sA
   have aB:(L J 32).length=(L J 6).length:=by rw[O,C,ABr,ABr]
   refine⟨by omega,by omega,by rw[aB];exact v3,E,?_⟩;rw[O,C,j5 v5 (by omega) (by omega),show (I J 33).toNat=(I J 5).toNat+1 by omega]
  .intro a;have b:=g.1 a;rw[r] at b;have c7:=o2' Q (by omega);omega
 replace ab:0<=I T 5/\I T 5<=I T 4/\(L T 6).length=I T 1/\(∀u∈(L T 6),AL AB KB u)/\L T 6=BI (L T 0) (swS (I T 2).toNat (I T 3).toNat (I T 5).toNat):=ab;have ch:=(AN (b0.append X) (l:=Jy) (by kernel_rfl) V);obtain⟨N,W⟩:=ch;clear hA V hH X b0;obtain⟨A1,hO⟩:=Ao (R:=[.l]) (ai:=xI) W (by kernel_rfl) q;obtain⟨P,N⟩:=N.cut;have F1:=N;obtain⟨g,-⟩:=id P;simp only[AD,zR] at g;have q0:L T 6=(BI (L T 0) (swS (I T 2).toNat (I T 3).toNat (I T 4).toNat)):=by
  obtain⟨v1,v2,v3,y,v5⟩:=ab;have b:¬I T 5 < I T 4:=fun h=>cy (g.2 h);rw[v5,show (I T 5)=(I T 4) by omega]
 refine⟨⟨(fun _=>c1),trivial⟩,hO.trans ?_⟩;exact (lc (by show U.list (L T 6)= .list (Mb us);unfold Mb;rw[b1,b2,b3,b4];exact ACF U.list q0) rfl)
def QB:List U->U':=fun us=>(BI (aL us 0) (rtS (aI us 2).toNat (aI us 3).toNat (aI us 4).toNat))
def NN:List U->Prop:=fun us=>((aL us 0)).length=(aI us 1)/\0<=(aI us 2)/\(aI us 2) < (aI us 3)/\(aI us 3) < (aI us 4)/\(aI us 4)<=(aI us 1)
def Me:AU:={ sh:=[.one (k64),.one (k64),.one (k64),.cst (.fn (.func 101) [] [])],blks:=[],outs:=[(.s "rotB.0",CI QB)],c:= .tup [],m':=[.mrow 5 1 [k64,k64,k64,.bool,.str,.str,.bool,k64,k64] 38],pre:=[(.s "rotB.p0",NN)],row:=some ([k64,k64,k64,.bool,.str,.str,.bool,k64,k64],38) }
abbrev ACv (T:Tab)(a:Int)(b:Int)(c:U'):Prop:=1<=a/\1<=b/\b<=I T 3 - (I T 2)/\a<=I T 4 - (I T 3)/\(c).length=I T 1/\BI c (rtS ((I T 3).toNat - b.toNat) (I T 3).toNat ((I T 3).toNat+a.toNat))=BI (L T 0) (rtS (I T 2).toNat (I T 3).toNat (I T 4).toNat)
def nG:List En:=[ADN 5 3 2,
 ADN 6 4 3]
def Qe:List En:=nG
def nz:List En:=[⟨10,.ne,[.e 8,.e 7]⟩,
 ADA 11 10,
 AC7 12 7 8,
 AC4 13 10 12,
 ADN 14 3 8,
 ⟨15,.outL "swB.0" Mb,[.e 9,.e 1,.e 14,.e 3,.e 7]⟩,
 ADN 16 8 7,
 AC5 17 10 12,
 ADN 18 3 8,
 ADM 19 3 7,
 ADN 20 19 8,
 ⟨21,.outL "swB.0" Mb,[.e 9,.e 1,.e 18,.e 20,.e 8]⟩,
 ADN 22 7 8,
 ADD 23 12 15 21,
 ADC 24 12 7 22,
 ADC 25 12 16 8]
def H7:List En:=nz
def eA:List ObE:=[⟨some 17,.pre "swB.p0" J0,[.e 9,.e 1,.e 18,.e 20,.e 8]⟩,⟨some 13,.pre "swB.p0" J0,[.e 9,.e 1,.e 14,.e 3,.e 7]⟩]
def Pg:Aa:=mkD 7 3 H7 10 [.e 24,.e 25,.e 23] eA [1,3]
def UP:List Rf:=[.e 1,.e 3,.e 6,.e 5,.e 0]
def oI:List En:=[ADN 26 3 8,
 ⟨27,.outL "swB.0" Mb,[.e 9,.e 1,.e 26,.e 3,.e 8]⟩]
def fc:List En:=oI
def zr:List ObE:=[⟨some 11,.pre "swB.p0" J0,[.e 9,.e 1,.e 26,.e 3,.e 8]⟩,
 ⟨none,.owes Pg,[.e 1,.e 3,.e 6,.e 5,.e 0]⟩]
def ri:List Rf:=[.e 27]
end
end Go.Eng
end
