/-
  A part of the proof: the evaluator of code and its soundness.
-/
import Derived.Test.YtikbgnmcfncnaaaKB2
import Derived.Test.YtikbgnmcfncnaaaE4
import Derived.Test.YtikbgnmcfncnaaaE5
import Derived.Test.YtikbgnmcfncnaaaKB1
import Derived.WalkKit
import Derived.Lib.Strings
import Derived.Lib.Walk
import Derived.Lib.Bytealg
set_option linter.unusedVariables false
set_option linter.unusedSimpArgs false
noncomputable section
namespace Go.Eng
section
open Go Go.Eng Go.Proofs
set_option maxHeartbeats 4000000
set_option maxRecDepth 100000
theorem tM:Gs.sees Yf (Gs.run Try.prog [(83,Mn)] Ab 3000 20 82)=some ((TV).map En.be,rU.map ObE.be,[]):=by kernel_rfl
theorem WB:AW Try.prog 82 Gs:=by
 refine An (l:=[(83,Mn)]) A8 (by simp only[ABT];exact⟨X8,fun _ h=>absurd h (by simp)⟩) tM (by kernel_rfl) fun T us F e a z w x=>?_;change us.length=3 at a;obtain⟨t,-⟩:=w;replace t:(S T 0).size<=140737488355328:=t;have A:=inS (j:=0) e a (by decide);have D:=inI (j:=1) e a (by decide);have E:=inI (j:=2) e a (by decide);clear F
 skip
 obtain⟨u,y⟩:=Ao (R:=[.b]) (ai:=Yf) z (by kernel_rfl) x;have v:=u;obtain⟨b,-,p,-,q,r,s,-,g,i,-,k,o,-⟩:=id v;replace b:B T 3=(Cf (S T 0)):=b;simp only[AD,AG,zR] at p q r s g i k o;have H:B T 15=(Cd (S T 0) (I T 1) (I T 2)):=by
  refine Bool.eq_iff_iff.2 (Iff.trans ?_ Fr.symm);rw[<-b,o,i,s,r,p,q,g,k];constructor
  .rintro⟨⟨⟨C,O⟩,c⟩,d⟩;exact⟨C,O,c,d⟩
  .rintro⟨C,O,c,d⟩;exact⟨⟨⟨C,O⟩,c⟩,d⟩
 refine⟨trivial,y.trans ?_⟩;exact (lc (by show U.bool (B T 15)= .bool (GF us);unfold GF;rw[A,D,E];exact ACF U.bool H) rfl)
def Q7:List U->Int:=fun us=>(AS (aL us 0))
def Mw:AU:={ sh:=[.one (.list [.str,k64,k64])],blks:=[],outs:=[(.s "checkP.0",Ba Q7)],c:=(Ch 1),m':=[],pre:=[] }
abbrev ACj (T:Tab)(a:Int)(b:U'):Prop:=0<=a/\a<=(L T 0).length/\((L T 0).take a.toNat).all Cc=true/\b=BT ((L T 0).take a.toNat)
def ez:List En:=[ADB 1 0,
 ⟨2,.lt,[.c (.int 24),.e 1]⟩,
 ADA 3 2,
 ⟨4,.id .l,[.c (.list [])]⟩,
 ADB 5 0]
def L2:List En:=ez
def fZ:List En:=[AC7 8 6 5,
 AC4 9 3 8,
 AC5 10 3 8,
 ADL 11 0 6,
 AC8 12 0 6,
 AC9 13 0 6,
 ⟨14,.outB "vplayer.0" GF,[.e 11,.e 12,.e 13]⟩,
 AC4 15 9 14,
 AC5 16 9 14,
 ⟨17,.mset 1 [.s,.b],[.e 7,.e 11,.c (.bool true)]⟩,
 ⟨18,.w2 .i64 .add,[.e 6,.c (.int 1)]⟩]
def Fl:List En:=fZ
def VP:List ObE:=[⟨some 15,.fits 1,[.e 7,.c (.list [[]])]⟩,⟨some 9,.inl,[.e 6,.e 0]⟩]
def Lj:Aa:=mkD 6 2 Fl 15 [.e 18,.e 17] VP [0,3,5]
def QL:List Rf:=[.e 0,.e 3,.e 5,.c (.int 0),.e 4]
def dM:List En:=[ADB 19 7,
 ADB 20 0,
 AC7 21 19 20,
 AC4 22 10 21,
 AC5 23 10 21,
 ⟨24,.ite .i,[.e 22,.c (.int 12),.c (.int 0)]⟩,
 AC6 25 22 23,
 ⟨26,.ite .i,[.e 16,.c (.int 2),.e 24]⟩,
 AC6 27 16 25,
 ⟨28,.ite .i,[.e 2,.c (.int 6),.e 26]⟩,
 AC6 29 2 27]
def WH:List En:=dM
def v7:List ObE:=[⟨some 3,.owes Lj,[.e 0,.e 3,.e 5,.c (.int 0),.e 4]⟩]
def fo:List Rf:=[.e 28]
theorem uw:Mw.sees fo (Mw.run Try.prog [(82,Gs)] Ab 3000 20 41)=some ((L2++((Ad Lj [.i,.l] QL)++(Fl++(WH)))).map En.be,v7.map ObE.be,[]):=by kernel_rfl
theorem X1:AW Try.prog 41 Mw:=by
 refine An (l:=[(82,Gs)]) A8 (by simp only[ABT];exact⟨WB,fun _ h=>absurd h (by simp)⟩) uw (by kernel_rfl) fun T us ch hT bs hS b8 g=>?_;change us.length=1 at bs;obtain⟨⟨bo,cf⟩,-⟩:=b8;replace bo:(L T 0).length<=140737488355328:=bo;have c5:∀u∈(L T 0),AL AB KP u:=fun u hu=>by
  obtain⟨i,Y⟩:=ABZ.1 hu;exact cf i u Y
 have cc:=inL (j:=0) hT bs (by decide);clear ch;rw[ABI,ABI,ABI] at g;obtain⟨hA,g⟩:=cutB g;obtain⟨hH,g⟩:=cutB g;obtain⟨Z,g⟩:=cutB g;obtain⟨A0,ad⟩:=AN hS (by kernel_rfl) hA;have w:=A0;have h5:I T 5=(L T 0).length:=by
  obtain⟨-,-,-,-,x,-⟩:=w;simp only[AD,zR,zL] at x;exact x
 have h4:L T 4=[]:=by
  obtain⟨-,-,-,e4,-⟩:=w;simp only[AD,zR,zL,zS] at e4;exact e4
 refine ACw (Ap (nh:=6) (k:=2) (pcn:=15) (an:=19) (H:=Fl) (K:=VP) (nxt:=[.e 18,.e 17]) (A:=[.c (.int 0),.e 4]) (fv:=[0,3,5]) (R:=[.i,.l]) (by kernel_rfl) rfl rfl rfl rfl ad (by kernel_rfl) (by kernel_rfl) Z (Ae hH) (fun s=>ACj T (aI s 0) (aL s 1)) (fun s=>((L T 0).length - (aI s 0)).toNat)) ?_ ?_ fun⟨cx,bm,ao,cu⟩=>?_
 .show ACj T (0:Int) (L T 4);exact⟨by omega,by omega,by simp,by rw[show (0:Int).toNat=0 from rfl,List.take_zero];exact h4⟩
 .intro J C z al;replace al:ACj T (I J 6) (L J 7):=al;replace z:AE J Fl:=z;have w:=z;clear z;have a9:=fvL (C 0 (by decide));have c3:=fvB (C 3 (by decide));have y:=fvI (C 5 (by decide));clear C;obtain⟨d,e,-,o,r,t,p,q,-,a2,N,-⟩:=id w;replace p:B J 14=(Cd (S J 11) (I J 12) (I J 13)):=p;simp only[AD,AG,zC,zR,w2P,zL,zS,uR,zW] at d e o r t q a2 N;obtain⟨v1,v2,E,v⟩:=al
  suffices hz:(B J 15=true->((L J 7).length+(([[]]:U')).length)*1<=140737488355328)/\(B J 9=true->0<=I J 6/\I J 6 < (L J 0).length)/\(B J 15=true->(ACj T (I J 18) (L J 17)))/\(B J 15=true->((L T 0).length - (I J 18)).toNat < ((L T 0).length - (I J 6)).toNat) from
   let⟨r0,ax,nx,mz⟩:=hz;⟨⟨r0,ax,trivial⟩,fun c=>⟨nx c,mz c⟩⟩
  refine⟨?_,?_,?_,?_⟩
  .intro c;have b:=d.1 (e.1 (q.1 c).1).2;rw[y] at b;have h6:=Qa (l:=(L T 0).take (I J 6).toNat);rw[<-v,ABl] at h6;show ((L J 7).length+1)*1<=_;omega
  .intro c;have b:=d.1 (e.1 c).2;rw[y] at b;rw[a9];omega
  .intro c;have bb:=q.1 c;have b:=d.1 (e.1 bb.1).2;rw[y] at b;have a0:=o2' N (by omega);have D:(I J 6).toNat < (L T 0).length:=by omega
   rw[a9] at o r t;refine⟨by omega,by omega,?_,?_⟩
   .rw[a0,show (I J 6+1).toNat=(I J 6).toNat+1 by omega,CQ D,Qs];refine⟨E,?_⟩;have ba:=bb.2;rw[p,o,r,t] at ba;exact ba
   .rw[a0,show (I J 6+1).toNat=(I J 6).toNat+1 by omega,CQ D,Ox,<-v,a2,o];rfl
  .intro c;have b:=d.1 (e.1 (q.1 c).1).2;rw[y] at b;have a0:=o2' N (by omega);omega
 replace ao:0<=I T 6/\I T 6<=(L T 0).length/\((L T 0).take (I T 6).toNat).all Cc=true/\L T 7=BT ((L T 0).take (I T 6).toNat):=ao;have b9:=(AN (bm.append ad) (l:=Fl) (by kernel_rfl) Z);obtain⟨B0,hS⟩:=b9;clear hA Z hH ad bm;obtain⟨A1,hO⟩:=Ao (R:=[.i]) (ai:=fo) hS (by kernel_rfl) g;have F1:=B0;have F2:=A1;obtain⟨F,Q,e3,-,x,-⟩:=id w;obtain⟨d,e,a1,o,r,t,p,q,M,-⟩:=id F1;obtain⟨P,V,W,X,-,a3,-,a4,-,a5,-⟩:=id F2;replace p:B T 14=(Cd (S T 11) (I T 12) (I T 13)):=p;simp only[AD,AG,zN,zR,zL,zS] at F Q e3 x d e a1 o r t q M P V W X a3 a4 a5;have q0:I T 28=(AS (L T 0)):=by
  obtain⟨v1,v2,E,v⟩:=ao;unfold AS;rw[a5];by_cases O:24 < (L T 0).length
  .rw[ACE O,ACE (Q.2 (by rw[F];omega))]
  .have aB:¬B T 2=true:=fun a=>by have:=Q.1 a;rw[F] at this;omega
   rw[ACD O,ACD aB,a4];have h3:=e3.2 (by simpa using aB);by_cases b:I T 6 < I T 5
   .have ce:=d.2 b;have h9:=e.2 ⟨h3,ce⟩;have aw:¬B T 14=true:=fun a=>cu (q.2 ⟨h9,a⟩);have D:(I T 6).toNat < (L T 0).length:=by omega
    have a8:¬(L T 0).all Cc=true:=fun a=>by
     have:=ABb.1 a _ (Aq D);rw[p,o,r,t] at aw;exact aw this
    rw[ACE a8,ACE (M.2 ⟨h9,by simpa using aw⟩)]
   .have n8:¬B T 8=true:=fun a=>b (d.1 a);have b5:=a1.2 ⟨h3,by simpa using n8⟩;have cs:¬B T 16=true:=fun a=>n8 (e.1 (M.1 a).1).2;have e6:(I T 6).toNat=(L T 0).length:=by omega
    rw[e6,ACA] at E v;rw[ACD cs,ACD (fun a=>a E),a3];by_cases hn:(BT (L T 0)).length < (L T 0).length
    .rw[ACE hn,ACE (X.2 ⟨b5,W.2 (by rw[P,V,v];omega)⟩)]
    .rw[ACD hn,ACD (fun a=>hn (by have:=W.1 (X.1 a).2;rw[P,V,v] at this;omega))]
 refine⟨⟨(fun _=>cx),trivial⟩,hO.trans ?_⟩;exact (lc (by show U.int (I T 28)= .int (Q7 us);unfold Q7;rw[cc];exact ACF U.int q0) rfl)
end
section
open Go Go.Eng Go.Proofs
def Kf:List U->Int:=fun us=>(AS (aL us 0))
def Hq:List U->Prop:=fun us=>AS (aL us 0)=0
def EV:AU:={ sh:=Mw.sh,blks:=[],outs:=[(.s "checkPk.0",Ba Kf)],c:= .ci .i64 0,m':=[],pre:=[(.s "checkPk.p0",Hq)] }
theorem L5:AW Try.prog 41 EV:=X9 X1 rfl rfl rfl rfl rfl (fun _=>rfl) rfl rfl fun us b c=>by
 have a:=c _ (ABi.2 rfl);replace a:AS (aL us 0)=0:=a;have b:us.length=1:=b
 match us,b,a with
 |[u],_,a=>exact⟨ACF (fun z=>some (U.int z)) a,fun q d=>by cases d⟩
def Ol:List U->Int:=fun us=>(AM (aL us 0))
def Kh:List U->Prop:=fun us=>AM (aL us 0)=0
def Gf:AU:={ sh:=FN.sh,blks:=[],outs:=[(.s "checkLk.0",Ba Ol)],c:= .ci .i64 0,m':=[],pre:=[(.s "checkLk.p0",Kh)] }
theorem P9:AW Try.prog 47 Gf:=X9 Nj rfl rfl rfl rfl rfl (fun _=>rfl) rfl rfl fun us b c=>by
 have a:=c _ (ABi.2 rfl);replace a:AM (aL us 0)=0:=a;have b:us.length=1:=b
 match us,b,a with
 |[u],_,a=>exact⟨ACF (fun z=>some (U.int z)) a,fun q d=>by cases d⟩
end
section
open Go Go.Eng Go.Proofs
set_option maxHeartbeats 4000000
set_option maxRecDepth 100000
def NG:List U->Int:=fun us=>(Bg (aI us 0) (aI us 1) (aB us 2))
def KM:List U->Prop:=fun us=> -10000<=(aI us 0)/\(aI us 0)<=10000/\ -10000<=(aI us 1)/\(aI us 1)<=10000
def LS:AU:={ sh:=[.one (k64),.one (k64),.one (.bool)],blks:=[],outs:=[(.s "gain.0",Ba NG)],c:=(Ch 3),m':=[],pre:=[(.s "gain.p0",KM)] }
def mW:List En:=[ADA 3 2,
 AC7 4 0 1,
 AC4 5 2 4,
 ADN 6 1 0,
 ⟨7,.o2 .tdiv,[.e 6,.c (.int 100)]⟩,
 ⟨8,.o2 .min,[.e 7,.c (.int 19)]⟩,
 ⟨9,.pick .i,[.e 8,.c (.int 10),.c (.int 9),.c (.int 8),.c (.int 7),.c (.int 6),.c (.int 6),.c (.int 5),.c (.int 5),.c (.int 4),.c (.int 4),.c (.int 3),.c (.int 3),.c (.int 3),.c (.int 2),.c (.int 2),.c (.int 2),.c (.int 1),.c (.int 1),.c (.int 1),.c (.int 1)]⟩,
 ⟨10,.o2 .sub,[.c (.int 20),.e 9]⟩,
 AC5 11 2 4,
 ADN 12 0 1,
 ⟨13,.o2 .tdiv,[.e 12,.c (.int 100)]⟩,
 ⟨14,.o2 .min,[.e 13,.c (.int 19)]⟩,
 ⟨15,.pick .i,[.e 14,.c (.int 10),.c (.int 9),.c (.int 8),.c (.int 7),.c (.int 6),.c (.int 6),.c (.int 5),.c (.int 5),.c (.int 4),.c (.int 4),.c (.int 3),.c (.int 3),.c (.int 3),.c (.int 2),.c (.int 2),.c (.int 2),.c (.int 1),.c (.int 1),.c (.int 1),.c (.int 1)]⟩,
 ADC 16 5 10 15,
 AC6 17 5 11,
 ⟨18,.ite .i,[.e 3,.c (.int 10),.e 16]⟩]
def lV:List En:=[AC6 19 3 17]
def dr:List En:=mW++(lV)
def AAB:List ObE:=[⟨some 11,.inr,[.e 14,.c (.int 20)]⟩,
 ⟨some 5,.inr,[.e 8,.c (.int 20)]⟩]
def sC:List Rf:=[.e 18]
theorem zd:LS.sees sC (LS.run Try.prog [] Ab 3000 20 60)=some ((dr).map En.be,AAB.map ObE.be,[]):=by kernel_rfl
theorem jg:AW Try.prog 60 LS:=by
 refine An (l:=[]) A8 (by intro p h;exact absurd h (by simp)) zd (by kernel_rfl) fun T us M z s Z W X=>?_;change us.length=3 at s;clear W;have J:=inI (j:=0) z s (by decide);have K:=inI (j:=1) z s (by decide);have ab:=inB (j:=2) z s (by decide);have A: -10000<=I T 0/\I T 0<=10000/\ -10000<=I T 1/\I T 1<=10000:=by
  have h:=M (.s "gain.p0",KM) (by simp[LS]);change KM us at h;unfold KM at h;simp only[J,K] at h;exact h
 clear M
 skip
 obtain⟨t,Y⟩:=Ao (R:=[.i]) (ai:=sC) Z (by kernel_rfl) X;obtain⟨u,t⟩:=t.cut;have F1:=t;have q0:I T 18=(Bg (I T 0) (I T 1) (B T 2)):=by
  obtain⟨x,b,c,k,o,q,H,D,-,e,g,i,F,v,-,w,-⟩:=u;simp only[AD,AG,zR,S5,TH,and_false,or_false,BY,w2P,zL,zS] at x b c k o q H D e g i F v w;obtain⟨N,O,P,Q⟩:=A;unfold Bg;by_cases r:B T 2=true
  .have V:¬B T 3=true:=fun a=>(x.1 a) r;rw[w,ACD V,ACE r];by_cases d:I T 0 < I T 1
   .have y:=c.2 ⟨r,b.2 d⟩;have x6:=o2' k (by omega);have x8:I T 8=min ((I T 1 - (I T 0)) / 100) 19:=by
     have x7:I T 7=(I T 6) / 100:=by rw[o,ACE (by omega)]
     rw[q];split<;>omega
    have x9:I T 9=JP Hg (I T 8):=by
     simp only[JP,Hg];exact H
    rw[v,ACE y,D,ACE d,<-x8,x9]
   .have y:¬B T 5=true:=fun a=>d (b.1 (c.1 a).2);have al:=o2' e (by omega);have aw:I T 14=min ((I T 0 - (I T 1)) / 100) 19:=by
     have ao:I T 13=(I T 12) / 100:=by rw[g,ACE (by omega)]
     rw[i];split<;>omega
    have a0:I T 15=JP Hg (I T 14):=by
     simp only[JP,Hg];exact F
    rw[v,ACD y,ACD d,<-aw,a0]
  .rw[w,ACE (x.2 r),ACD r]
 have r0:B T 11=true->0<=I T 14/\I T 14 < 20:=by
  obtain⟨-,b,-,-,-,-,-,-,E,e,g,i,-⟩:=u;simp only[AD,AG,zN,zR,BY,w2P] at b E e g i;intro h;obtain⟨N,O,P,Q⟩:=A;have C:=E.1 h;have d:¬I T 0 < I T 1:=fun a=>by
   have:=b.2 a;simp[this] at C
  have al:=o2' e (by omega);have ao:I T 13=(I T 12) / 100:=by rw[g,ACE (by omega)]
  rw[i];split<;>omega
 have ax:B T 5=true->0<=I T 8/\I T 8 < 20:=by
  obtain⟨-,b,c,k,o,q,-⟩:=u;simp only[AD,AG,zR,BY,w2P] at b c k o q;intro h;obtain⟨N,O,P,Q⟩:=A;have d:=b.1 (c.1 h).2;have x6:=o2' k (by omega);have x7:I T 7=(I T 6) / 100:=by rw[o,ACE (by omega)]
  rw[q];split<;>omega
 refine⟨⟨r0,ax,trivial⟩,Y.trans ?_⟩;exact (lc (by show U.int (I T 18)= .int (NG us);unfold NG;rw[J,K,ab];exact ACF U.int q0) rfl)
def H9:List U->Int:=fun us=>(EI (aI us 0))
def Gt:List U->Prop:=fun us=> -100<=(aI us 0)/\(aI us 0)<=100
def LG:AU:={ sh:=[.one (k64)],blks:=[],outs:=[(.s "trig.0",Ba H9)],c:=(Ch 1),m':=[],pre:=[(.s "trig.p0",Gt)] }
def mI:List En:=[⟨1,.le,[.e 0,.c (.int 0)]⟩,
 ADA 2 1,
 ⟨3,.ite .i,[.e 1,.c (.int 40),.c (.int 50)]⟩,
 ⟨4,.w2 .i64 .mul,[.e 3,.e 0]⟩,
 ⟨5,.w2 .i64 .sub,[.c (.int 2000),.e 4]⟩]
def dW:List En:=mI
def AAR:List ObE:=[]
def sN:List Rf:=[.e 5]
theorem AAO:LG.sees sN (LG.run Try.prog [] Ab 3000 20 69)=some ((dW).map En.be,AAR.map ObE.be,[]):=by kernel_rfl
theorem jG:AW Try.prog 69 LG:=by
 refine An (l:=[]) A8 (by intro p h;exact absurd h (by simp)) AAO (by kernel_rfl) fun T us k w o v s t=>?_;change us.length=1 at o;clear s;have i:=inI (j:=0) w o (by decide);have A: -100<=I T 0/\I T 0<=100:=by
  have h:=k (.s "trig.p0",Gt) (by simp[LG]);change Gt us at h;unfold Gt at h;simp only[i] at h;exact h
 clear k
 skip
 obtain⟨q,u⟩:=Ao (R:=[.i]) (ai:=sN) v (by kernel_rfl) t;have r:=q;obtain⟨d,-,g,b,e,-⟩:=id r;simp only[AD,AG,zR,w2P,zL,zS] at d g b e;have x:I T 5=(EI (I T 0)):=by
  unfold EI;have c:=g;by_cases h:I T 0<=0
  .rw[ACE (d.2 h)] at c;rw[c] at b;have y:=o2' b (by omega);have z:=o2' e (by omega);rw[ACE h];omega
  .rw[ACD (fun a=>h (d.1 a))] at c;rw[c] at b;have y:=o2' b (by omega);have z:=o2' e (by omega);rw[ACD h];omega
 refine⟨trivial,u.trans ?_⟩;exact (lc (by show U.int (I T 5)= .int (H9 us);unfold H9;rw[i];exact ACF U.int x) rfl)
def K9:List U->U':=fun us=>(FX (aL us 0) (aI us 2).toNat (aI us 3))
def Iv:List U->Prop:=fun us=>((aL us 0)).length=(aI us 1)/\(aI us 2) < (aI us 1)/\ -100<=(aI us 3)/\(aI us 3)<=100/\ -10000<=AJ (aL us 0) (aI us 2).toNat 1/\AJ (aL us 0) (aI us 2).toNat 1<=10000/\ -12<=AJ (aL us 0) (aI us 2).toNat 2/\AJ (aL us 0) (aI us 2).toNat 2<=48
def Il:AU:={ sh:=[.one (k64)],blks:=[],outs:=[(.s "moveR.0",CI K9)],c:= .tup [],m':=[.mrow 4 1 [.str,k64,k64] 23],pre:=[(.s "moveR.p0",Iv)],row:=some ([.str,k64,k64],23),ptrs:=1 }
abbrev Gv (T:Tab)(a:U'):Prop:=a=Ci (L T 0) (I T 2).toNat (I T 7) (AJ a (I T 2).toNat 2)/\ -12<=AJ a (I T 2).toNat 2/\AJ a (I T 2).toNat 2<=48/\CA (I T 7) (AJ a (I T 2).toNat 2)=CA (I T 7) (AJ (L T 0) (I T 2).toNat 2)
abbrev Is (T:Tab)(a:U'):Prop:=a=Ci (L T 0) (I T 2).toNat (I T 7) (AJ a (I T 2).toNat 2)/\ -12<=AJ a (I T 2).toNat 2/\AJ a (I T 2).toNat 2<=48/\upG (I T 7) (AJ a (I T 2).toNat 2)=upG (I T 7) (AJ (L T 9) (I T 2).toNat 2)
def gN:List En:=[AC8 4 0 2,
 ADM 5 4 3,
 ⟨6,.o2 .max,[.e 5,.c (.int (-10000))]⟩,
 ⟨7,.o2 .min,[.e 6,.c (.int 10000)]⟩,
 ⟨8,.rset 1 [.i],[.e 0,.e 2,.e 7]⟩]
def Ic:List En:=gN
def iV:List En:=[AC9 10 9 2,
 ⟨11,.lt,[.c (.int (-12)),.e 10]⟩,
 ADO 12 11,
 AC8 13 9 2,
 ADO 14 11,
 AC9 15 9 2,
 ⟨16,.w2 .i64 .sub,[.e 15,.c (.int 1)]⟩,
 ⟨17,.outI "trig.0" H9,[.e 16]⟩,
 ⟨18,.le,[.e 17,.e 13]⟩,
 AC4 19 11 18,
 ADA 20 19,
 AC9 21 9 2,
 ⟨22,.w2 .i64 .sub,[.e 21,.c (.int 1)]⟩,
 ⟨23,.rset 2 [.i],[.e 9,.e 2,.e 22]⟩]
def ER:List En:=iV
def X0:List ObE:=[⟨some 14,.pre "trig.p0" Gt,[.e 16]⟩]
def Nx:Aa:=mkD 9 1 ER 19 [.e 23] X0 [2]
def SL:List Rf:=[.e 2,.e 8]
def Xw:List En:=[]
def iD:List En:=[AC9 25 24 2,
 ⟨26,.lt,[.e 25,.c (.int 48)]⟩,
 AC4 27 20 26,
 AC8 28 24 2,
 AC4 29 20 26,
 AC9 30 24 2,
 ⟨31,.w2 .i64 .add,[.e 30,.c (.int 1)]⟩,
 ⟨32,.outI "trig.0" H9,[.e 31]⟩,
 ⟨33,.le,[.e 28,.e 32]⟩,
 AC4 34 26 33,
 AC4 35 20 34,
 AC5 36 20 34,
 AC9 37 24 2,
 ⟨38,.w2 .i64 .add,[.e 37,.c (.int 1)]⟩,
 ⟨39,.rset 2 [.i],[.e 24,.e 2,.e 38]⟩]
def GL:List En:=iD
def Yb:List ObE:=[⟨some 29,.pre "trig.p0" Gt,[.e 31]⟩]
def Nu:Aa:=mkD 24 1 GL 35 [.e 39] Yb [2,20]
def ST:List Rf:=[.e 2,.e 20,.e 9]
def qm:List En:=[]
def xR:List ObE:=[⟨some 20,.owes Nu,[.e 2,.e 20,.e 9]⟩,
 ⟨none,.owes Nx,[.e 2,.e 8]⟩]
def jb:List Rf:=[.e 24]
theorem yT:Il.sees jb (Il.run Try.prog [(69,LG)] Ab 3000 20 98)=some ((Ic++((Ad Nx [.l] SL)++(ER++(Xw++((Ad Nu [.l] ST)++(GL++(qm))))))).map En.be,xR.map ObE.be,[]):=by kernel_rfl
theorem uv:AW Try.prog 98 Il:=by
 refine An (l:=[(69,LG)]) A8 (by simp only[ABT];exact⟨jG,fun _ h=>absurd h (by simp)⟩) yT (by kernel_rfl) fun T us c3 hT a4 hS ds d=>?_;change us.length=4 at a4;obtain⟨⟨c2,d1⟩,⟨c4,c0⟩,⟨b4,c1⟩,-⟩:=ds;replace c2:(L T 0).length<=140737488355328:=c2;have d2:∀u∈(L T 0),AL AB KP u:=fun u hu=>by
  obtain⟨i,Y⟩:=ABZ.1 hu;exact d1 i u Y
 replace c4:0<=I T 1:=c4;replace c0:I T 1<=140737488355328:=c0;replace b4:0<=I T 2:=b4;replace c1:I T 2<=140737488355328:=c1;have cv:=inL (j:=0) hT a4 (by decide);have d0:=inI (j:=1) hT a4 (by decide);have cx:=inI (j:=2) hT a4 (by decide);have cy:=inI (j:=3) hT a4 (by decide);have c8:(L T 0).length=I T 1/\I T 2 < I T 1/\ -100<=I T 3/\I T 3<=100/\ -10000<=AJ (L T 0) (I T 2).toNat 1/\AJ (L T 0) (I T 2).toNat 1<=10000/\ -12<=AJ (L T 0) (I T 2).toNat 2/\AJ (L T 0) (I T 2).toNat 2<=48:=by
  have h:=c3 (.s "moveR.p0",Iv) (by simp[Il]);change Iv us at h;unfold Iv at h;simp only[cv,d0,cx,cy] at h;exact h
 clear c3;rw[ABI,ABI,ABI,ABI,ABI,ABI] at d;obtain⟨hA,d⟩:=cutB d;obtain⟨hH,d⟩:=cutB d;obtain⟨x,d⟩:=cutB d;obtain⟨A0,z⟩:=AN hS (by kernel_rfl) hA;have E:=A0;have C:(0<=I T 2/\I T 2 < (L T 0).length)/\ -12<=AJ (L T 0) (I T 2).toNat 2/\AJ (L T 0) (I T 2).toNat 2<=48:=by
  obtain⟨p1,p2,p3,p4,p5,p6,p7,p8⟩:=c8;exact⟨⟨b4,by omega⟩,p7,p8⟩
 have h8:L T 8=Ci (L T 0) (I T 2).toNat (I T 7) (AJ (L T 0) (I T 2).toNat 2):=by
  obtain⟨-,-,-,-,e8,-⟩:=E;simp only[AD,zR,zL,zS,uR,zW,AG,zC] at e8;rw[e8];exact set1 d2 (by have:=C.1;omega)
 refine ACw (Ap (nh:=9) (k:=1) (pcn:=19) (an:=24) (H:=ER) (K:=X0) (nxt:=[.e 23]) (A:=[.e 8]) (fv:=[2]) (R:=[.l]) (by kernel_rfl) rfl rfl rfl rfl z (by kernel_rfl) (by kernel_rfl) x (Ae hH) (fun s=>Gv T (aL s 0)) (fun s=>(AJ (aL s 0) (I T 2).toNat 2+12).toNat)) ?_ ?_ fun⟨d5,a3,ab,c5⟩=>?_
 .show Gv T (L T 8);have b:(I T 2).toNat < (L T 0).length:=by have:=C.1;omega
  have y:AJ (L T 8) (I T 2).toNat 2=AJ (L T 0) (I T 2).toNat 2:=by rw[h8];exact O1 b
  obtain⟨⟨a9,ba⟩,bb,bc⟩:=C;exact⟨by rw[y];exact h8,by omega,by omega,by rw[y]⟩
 .intro J Z g D;replace D:Gv T (L J 9):=D;replace g:AE J ER:=g;have E:=g;clear g;have w:=fvI (Z 2 (by decide));clear Z;obtain⟨o,F,-,M,-,p,N,q,ad,O,-,ag,bo,al,-⟩:=id E;replace q:I J 17=(EI (I J 16)):=q;simp only[AD,AG,zR,w2P,zL,zS,uR,zW,zC] at o F M p N ad O ag bo al;obtain⟨e,v1,v2,v3⟩:=D
  suffices hz:(B J 14=true-> -100<=I J 16/\I J 16<=100)/\(B J 19=true->(Gv T (L J 23)))/\(B J 19=true->(AJ (L J 23) (I T 2).toNat 2+12).toNat < (AJ (L J 9) (I T 2).toNat 2+12).toNat) from
   let⟨r0,nx,mz⟩:=hz;⟨⟨r0,trivial⟩,fun c=>⟨nx c,mz c⟩⟩
  refine⟨?_,?_,?_⟩
  .intro c;rw[w] at p;have bi:=o2' N (by omega);omega
  .obtain⟨⟨a9,ba⟩,bb,bc⟩:=C;have b:(I T 2).toNat < (L T 0).length:=by omega
   intro c;rw[w] at o M p ag al;have cl:=O.1 c;have bt:=F.1 cl.1;have a6:=ad.1 cl.2;have b8:I J 13=I T 7:=by rw[M,e];exact SJ b
   have bi:=o2' N (by omega);have b9:=o2' bo (by omega);rw[q,b8,bi,p] at a6;have bk:L J 23=Ci (L T 0) (I T 2).toNat (I T 7) (AJ (L J 9) (I T 2).toNat 2 - 1):=by
    rw[al,b9,ag,e,kV b,<-e]
   have y:AJ (L J 23) (I T 2).toNat 2=AJ (L J 9) (I T 2).toNat 2 - 1:=by rw[bk];exact O1 b
   refine⟨by rw[y];exact bk,by omega,by omega,?_⟩;rw[<-v3,y];exact (ZJ (by rw[o] at bt;exact bt) a6).symm
  .obtain⟨⟨a9,ba⟩,bb,bc⟩:=C;have b:(I T 2).toNat < (L T 0).length:=by omega
   intro c;rw[w] at o ag al;have bt:=F.1 (O.1 c).1;have b9:=o2' bo (by omega);have bk:L J 23=Ci (L T 0) (I T 2).toNat (I T 7) (AJ (L J 9) (I T 2).toNat 2 - 1):=by
    rw[al,b9,ag,e,kV b,<-e]
   rw[bk,O1 b];omega
 replace ab:L T 9=Ci (L T 0) (I T 2).toNat (I T 7) (AJ (L T 9) (I T 2).toNat 2)/\ -12<=AJ (L T 9) (I T 2).toNat 2/\AJ (L T 9) (I T 2).toNat 2<=48/\CA (I T 7) (AJ (L T 9) (I T 2).toNat 2)=CA (I T 7) (AJ (L T 0) (I T 2).toNat 2):=ab;have b1:=(AN (a3.append z) (l:=ER) (by kernel_rfl) x);obtain⟨B0,hS⟩:=b1;clear hA x hH z a3;obtain⟨hA,d⟩:=cutB d;obtain⟨hH,d⟩:=cutB d;obtain⟨x,d⟩:=cutB d;obtain⟨A1,z⟩:=AN hS (by kernel_rfl) hA;have F1:=B0;have h9:L T 9=Ci (L T 0) (I T 2).toNat (I T 7) (AJ (L T 9) (I T 2).toNat 2)/\ -12<=AJ (L T 9) (I T 2).toNat 2/\AJ (L T 9) (I T 2).toNat 2<=48:=by
  exact⟨ab.1,ab.2.1,ab.2.2.1⟩
 refine ACw (Ap (nh:=24) (k:=1) (pcn:=35) (an:=40) (H:=GL) (K:=Yb) (nxt:=[.e 39]) (A:=[.e 9]) (fv:=[2,20]) (R:=[.l]) (by kernel_rfl) rfl rfl rfl rfl z (by kernel_rfl) (by kernel_rfl) x (Ae hH) (fun s=>Is T (aL s 0)) (fun s=>(48 - AJ (aL s 0) (I T 2).toNat 2).toNat)) ?_ ?_ fun⟨d6,a3,b3,d4⟩=>?_
 .show Is T (L T 9);exact⟨h9.1,h9.2.1,h9.2.2,rfl⟩
 .intro J Z g D;replace D:Is T (L J 24):=D;replace g:AE J GL:=g;have E:=g;clear g;have w:=fvI (Z 2 (by decide));have er:=fvB (Z 20 (by decide));clear Z;obtain⟨r,P,-,Q,-,t,V,v,ao,W,X,-,aw,bs,ax,-⟩:=id E;replace v:I J 32=(EI (I J 31)):=v;simp only[AD,AG,zR,w2P,zL,zS,uR,zW,zC] at r P Q t V ao W X aw bs ax;obtain⟨e,v1,v2,v3⟩:=D
  suffices hz:(B J 29=true-> -100<=I J 31/\I J 31<=100)/\(B J 35=true->(Is T (L J 39)))/\(B J 35=true->(48 - AJ (L J 39) (I T 2).toNat 2).toNat < (48 - AJ (L J 24) (I T 2).toNat 2).toNat) from
   let⟨r0,nx,mz⟩:=hz;⟨⟨r0,trivial⟩,fun c=>⟨nx c,mz c⟩⟩
  refine⟨?_,?_,?_⟩
  .intro c;rw[w] at t;have bl:=o2' V (by omega);omega
  .obtain⟨⟨a9,ba⟩,bb,bc⟩:=C;have b:(I T 2).toNat < (L T 0).length:=by omega
   intro c;rw[w] at r Q t aw ax;have cs:=W.1 (X.1 c).2;have bx:=P.1 cs.1;have a7:=ao.1 cs.2;have ca:I J 28=I T 7:=by rw[Q,e];exact SJ b
   have bl:=o2' V (by omega);have cb:=o2' bs (by omega);rw[v,ca,bl,t] at a7;have bm:L J 39=Ci (L T 0) (I T 2).toNat (I T 7) (AJ (L J 24) (I T 2).toNat 2+1):=by
    rw[ax,cb,aw,e,kV b,<-e]
   have y:AJ (L J 39) (I T 2).toNat 2=AJ (L J 24) (I T 2).toNat 2+1:=by rw[bm];exact O1 b
   refine⟨by rw[y];exact bm,by omega,by omega,?_⟩;rw[<-v3,y];exact (jW (by rw[r] at bx;exact bx) a7).symm
  .obtain⟨⟨a9,ba⟩,bb,bc⟩:=C;have b:(I T 2).toNat < (L T 0).length:=by omega
   intro c;rw[w] at r aw ax;have bx:=P.1 (W.1 (X.1 c).2).1;have cb:=o2' bs (by omega);have bm:L J 39=Ci (L T 0) (I T 2).toNat (I T 7) (AJ (L J 24) (I T 2).toNat 2+1):=by
    rw[ax,cb,aw,e,kV b,<-e]
   rw[bm,O1 b];omega
 replace b3:L T 24=Ci (L T 0) (I T 2).toNat (I T 7) (AJ (L T 24) (I T 2).toNat 2)/\ -12<=AJ (L T 24) (I T 2).toNat 2/\AJ (L T 24) (I T 2).toNat 2<=48/\upG (I T 7) (AJ (L T 24) (I T 2).toNat 2)=upG (I T 7) (AJ (L T 9) (I T 2).toNat 2):=b3;have b1:=(AN (a3.append z) (l:=GL) (by kernel_rfl) x);obtain⟨B1,hS⟩:=b1;clear hA x hH z a3;obtain⟨A2,hO⟩:=Ao (R:=[.l]) (ai:=jb) hS (by kernel_rfl) d;have F2:=B1;obtain⟨e4,e5,e6,e7,-⟩:=id E;obtain⟨o,F,-,M,-,p,N,q,ad,O,cc,-⟩:=id F1;obtain⟨r,P,-,Q,-,t,V,v,ao,W,X,-⟩:=id F2;replace q:I T 17=(EI (I T 16)):=q;replace v:I T 32=(EI (I T 31)):=v;simp only[AD,AG,zR,BY,w2P,zL] at e4 e5 e6 e7 o F M p N ad O cc r P Q t V ao W X;have q0:L T 24=(FX (L T 0) (I T 2).toNat (I T 3)):=by
  obtain⟨p1,p2,p3,p4,p5,p6,p7,p8⟩:=c8;have b:(I T 2).toNat < (L T 0).length:=by omega
  have x5:=o2' e5 (by omega);have h7:I T 7=Bd (AJ (L T 0) (I T 2).toNat 1) (I T 3):=by
   unfold Bd;rw[e7,e6,x5,e4];omega
  obtain⟨e,v1,v2,v3⟩:=ab;obtain⟨aH,aG,w2,w3⟩:=b3;have b8:I T 13=I T 7:=by rw[M,e];exact SJ b
  have ca:I T 28=I T 7:=by rw[Q,aH];exact SJ b
  unfold FX;rw[aH,<-h7];congr 1;unfold EX;have hd:CA (I T 7) (AJ (L T 0) (I T 2).toNat 2)=AJ (L T 9) (I T 2).toNat 2:=by
   rw[<-v3];refine Xx fun a=>?_;have bi:=o2' N (by omega);have a6:B T 18=true:=ad.2 (by rw[q,b8,bi,p];exact a.2);exact c5 (O.2 ⟨F.2 (by rw[o];exact a.1),a6⟩)
  rw[hd,<-w3];refine (jk fun a=>?_).symm;have bl:=o2' V (by omega);have a7:B T 33=true:=ao.2 (by rw[v,ca,bl,t];exact a.2);have dm:B T 20=true:=cc.2 (by simpa using c5);exact d4 (X.2 ⟨dm,W.2 ⟨P.2 (by rw[r];exact a.1),a7⟩⟩)
 refine⟨⟨(fun _=>d6),(fun _=>d5),trivial⟩,hO.trans ?_⟩;exact (lc (by show U.list (L T 24)= .list (K9 us);unfold K9;rw[cv,cx,cy];exact ACF U.list q0) rfl)
def Lv:List U->U':=fun us=>(JC (aL us 0) (aI us 2).toNat (aI us 3).toNat (aB us 4))
def Jj:List U->Prop:=fun us=>((aL us 0)).length=(aI us 1)/\(aI us 2) < (aI us 1)/\(aI us 3) < (aI us 1)/\¬(aI us 2)=(aI us 3)/\ -10000<=AJ (aL us 0) (aI us 2).toNat 1/\AJ (aL us 0) (aI us 2).toNat 1<=10000/\ -12<=AJ (aL us 0) (aI us 2).toNat 2/\AJ (aL us 0) (aI us 2).toNat 2<=48
def JE:List U->Prop:=fun us=> -10000<=AJ (aL us 0) (aI us 3).toNat 1/\AJ (aL us 0) (aI us 3).toNat 1<=10000/\ -12<=AJ (aL us 0) (aI us 3).toNat 2/\AJ (aL us 0) (aI us 3).toNat 2<=48
def IS:AU:={ sh:=[.one (.bool)],blks:=[],outs:=[(.s "countR.0",CI Lv)],c:= .tup [],m':=[.mrow 5 1 [.str,k64,k64] 23],pre:=[(.s "countR.p0",Jj),(.s "countR.p1",JE)],row:=some ([.str,k64,k64],23),ptrs:=2 }
def cN:List En:=[AC8 5 0 2,
 AC8 6 0 3,
 ⟨7,.outI "gain.0" NG,[.e 5,.e 6,.e 4]⟩,
 ⟨8,.outL "moveR.0" K9,[.e 0,.e 1,.e 2,.e 7]⟩,
 ⟨9,.wneg .i64,[.e 7]⟩,
 ⟨10,.outL "moveR.0" K9,[.e 8,.e 1,.e 3,.e 9]⟩]
def WJ:List En:=cN
def vY:List ObE:=[⟨none,.pre "moveR.p0" Iv,[.e 8,.e 1,.e 3,.e 9]⟩,
 ⟨none,.pre "moveR.p0" Iv,[.e 0,.e 1,.e 2,.e 7]⟩,
 ⟨none,.pre "gain.p0" KM,[.e 5,.e 6,.e 4]⟩]
def dB:List Rf:=[.e 10]
theorem wC:IS.sees dB (IS.run Try.prog [(60,LS),(98,Il)] Ab 3000 20 58)=some ((WJ).map En.be,vY.map ObE.be,[]):=by kernel_rfl
theorem pS:AW Try.prog 58 IS:=by
 refine An (l:=[(60,LS),(98,Il)]) A8 (by simp only[ABT];exact⟨jg,uv,fun _ h=>absurd h (by simp)⟩) wC (by kernel_rfl) fun T us v p k Z V W=>?_;change us.length=5 at k;obtain⟨⟨D,ag⟩,⟨E,y⟩,⟨F,z⟩,⟨H,A⟩,-⟩:=V;replace D:(L T 0).length<=140737488355328:=D;have a1:∀u∈(L T 0),AL AB KP u:=fun u hu=>by
  obtain⟨i,Y⟩:=ABZ.1 hu;exact ag i u Y
 replace E:0<=I T 1:=E;replace y:I T 1<=140737488355328:=y;replace F:0<=I T 2:=F;replace z:I T 2<=140737488355328:=z;replace H:0<=I T 3:=H;replace A:I T 3<=140737488355328:=A;have s:=inL (j:=0) p k (by decide);have ab:=inI (j:=1) p k (by decide);have x:=inI (j:=2) p k (by decide);have t:=inI (j:=3) p k (by decide);have ad:=inB (j:=4) p k (by decide);have ao:(L T 0).length=I T 1/\I T 2 < I T 1/\I T 3 < I T 1/\¬I T 2=I T 3/\ -10000<=AJ (L T 0) (I T 2).toNat 1/\AJ (L T 0) (I T 2).toNat 1<=10000/\ -12<=AJ (L T 0) (I T 2).toNat 2/\AJ (L T 0) (I T 2).toNat 2<=48:=by
  have h:=v (.s "countR.p0",Jj) (by simp[IS]);change Jj us at h;unfold Jj at h;simp only[s,ab,x,t] at h;exact h
 have w: -10000<=AJ (L T 0) (I T 3).toNat 1/\AJ (L T 0) (I T 3).toNat 1<=10000/\ -12<=AJ (L T 0) (I T 3).toNat 2/\AJ (L T 0) (I T 3).toNat 2<=48:=by
  have h:=v (.s "countR.p1",JE) (by simp[IS]);change JE us at h;unfold JE at h;simp only[s,t] at h;exact h
 clear v
 skip
 obtain⟨P,X⟩:=Ao (R:=[.l]) (ai:=dB) Z (by kernel_rfl) W;have Q:=P;obtain⟨e,g,c,a,o,r,-⟩:=id Q;replace c:I T 7=(Bg (I T 5) (I T 6) (B T 4)):=c;replace a:L T 8=(FX (L T 0) (I T 2).toNat (I T 7)):=a;replace r:L T 10=(FX (L T 8) (I T 3).toNat (I T 9)):=r;simp only[AD,zR,w2P,wnP,zL] at e g o;obtain⟨p1,p2,p3,p4,p5,p6,p7,p8⟩:=ao;have q0:L T 10=(JC (L T 0) (I T 2).toNat (I T 3).toNat (B T 4)):=by
  have d:=GN (AJ (L T 0) (I T 2).toNat 1) (AJ (L T 0) (I T 3).toNat 1) (B T 4);rw[<-e,<-g,<-c] at d;have q:=o2' o.1 (by omega);unfold JC;rw[r,q,a,c,g,e]
 have r0:(L T 8).length=I T 1/\I T 3 < I T 1/\ -100<=I T 9/\I T 9<=100/\ -10000<=AJ (L T 8) (I T 3).toNat 1/\AJ (L T 8) (I T 3).toNat 1<=10000/\ -12<=AJ (L T 8) (I T 3).toNat 2/\AJ (L T 8) (I T 3).toNat 2<=48:=by
  obtain⟨K,M,N,O⟩:=w;have d:=GN (I T 5) (I T 6) (B T 4);rw[<-c] at d;have q:=o2' o.1 (by omega);have C:(L T 8).length=(L T 0).length:=by rw[a];exact Wx
  have b:(L T 8).getD (I T 3).toNat []=(L T 0).getD (I T 3).toNat []:=by rw[a];exact NK (by omega)
  have J:AJ (L T 8) (I T 3).toNat 1=AJ (L T 0) (I T 3).toNat 1:=Gu b;have _:=e;have _:=g;have o2:AJ (L T 8) (I T 3).toNat 2=AJ (L T 0) (I T 3).toNat 2:=Gu b;omega
 have ax:(L T 0).length=I T 1/\I T 2 < I T 1/\ -100<=I T 7/\I T 7<=100/\ -10000<=AJ (L T 0) (I T 2).toNat 1/\AJ (L T 0) (I T 2).toNat 1<=10000/\ -12<=AJ (L T 0) (I T 2).toNat 2/\AJ (L T 0) (I T 2).toNat 2<=48:=by
  obtain⟨K,M,N,O⟩:=w;have d:=GN (I T 5) (I T 6) (B T 4);rw[<-c] at d;have q:=o2' o.1 (by omega);have C:(L T 8).length=(L T 0).length:=by rw[a];exact Wx
  have b:(L T 8).getD (I T 3).toNat []=(L T 0).getD (I T 3).toNat []:=by rw[a];exact NK (by omega)
  have J:AJ (L T 8) (I T 3).toNat 1=AJ (L T 0) (I T 3).toNat 1:=Gu b;have _:=e;have _:=g;have o2:AJ (L T 8) (I T 3).toNat 2=AJ (L T 0) (I T 3).toNat 2:=Gu b;omega
 have aK: -10000<=I T 5/\I T 5<=10000/\ -10000<=I T 6/\I T 6<=10000:=by
  obtain⟨K,M,N,O⟩:=w;have d:=GN (I T 5) (I T 6) (B T 4);rw[<-c] at d;have q:=o2' o.1 (by omega);have C:(L T 8).length=(L T 0).length:=by rw[a];exact Wx
  have b:(L T 8).getD (I T 3).toNat []=(L T 0).getD (I T 3).toNat []:=by rw[a];exact NK (by omega)
  have J:AJ (L T 8) (I T 3).toNat 1=AJ (L T 0) (I T 3).toNat 1:=Gu b;have _:=e;have _:=g;have o2:AJ (L T 8) (I T 3).toNat 2=AJ (L T 0) (I T 3).toNat 2:=Gu b;omega
 refine⟨⟨(fun _=>r0),(fun _=>ax),(fun _=>aK),trivial⟩,X.trans ?_⟩;exact (lc (by show U.list (L T 10)= .list (Lv us);unfold Lv;rw[s,x,t,ad];exact ACF U.list q0) rfl)
def Eb:List U->U':=fun us=>(Cw (aL us 0) (aL us 1))
def Ea:List U->Int:=fun us=>((0:Int))
def K5:List U->Prop:=fun us=>AS (aL us 0)=0/\AM (aL us 1)=0/\(AY (aL us 1)).length<=40
def Dp:AU:={ sh:=[.one (.list [.str,k64,k64]),.one (.list [k64,k64,k64,.bool,.str,.str,.bool,k64,k64])],blks:=[],outs:=[(.s "SettleV.0",CI Eb),(.s "SettleV.1",Ba Ea)],c:= .tup [.ro 2 [.str,k64,k64],(Ch 3)],m':=[],pre:=[(.s "SettleV.p0",K5)] }
abbrev Do (T:Tab)(a:Int)(b:U'):Prop:=0<=a/\a<=(L T 0).length/\b=Ax (E2 (L T 0)) a.toNat []
abbrev Et (T:Tab)(a:Int)(b:U'):Prop:=0<=a/\a<=(L T 19).length/\b=Ax (Cl (L T 11) (L T 19)) a.toNat []
abbrev GB (T:Tab)(a:Int)(b:U'):Prop:=0<=a/\a<=(L T 23).length/\b=upK (ctU (L T 11)) (L T 23) a.toNat (L T 0)
def Zb:List En:=[⟨2,.outI "checkPk.0" Kf,[.e 0]⟩,
 ⟨3,.outI "checkLk.0" Ol,[.e 1]⟩,
 ⟨4,.id .l,[.c (.list [])]⟩,
 ⟨5,.id .i,[.c (.int 0)]⟩,
 ADS 6 4 0,
 ADB 7 6,
 ⟨8,.id .l,[.c (.list [])]⟩,
 ADB 9 0]
def Dn:List En:=Zb
def Zv:List En:=[AC7 12 10 9,
 ADA 13 12,
 ADL 14 0 10,
 AC8 15 0 10,
 AC9 16 0 10,
 ⟨17,.mset 1 [.s,.i],[.e 11,.e 14,.e 10]⟩,
 ⟨18,.w2 .i64 .add,[.e 10,.c (.int 1)]⟩]
def CW:List En:=Zv
def Tm:List ObE:=[⟨some 12,.fits 1,[.e 11,.c (.list [[]])]⟩,⟨some 12,.inl,[.e 10,.e 0]⟩]
def Kg:Aa:=mkD 10 2 CW 12 [.e 18,.e 17] Tm [0,9]
def OQ:List Rf:=[.e 0,.e 9,.c (.int 0),.e 8]
def Z1:List En:=[⟨19,.outL "books.0" LH,[.e 1]⟩,
 ADB 20 19,
 ⟨21,.id .l,[.c (.list [])]⟩]
def GG:List En:=Z1
def Zc:List En:=[AC7 24 22 20,
 AC4 25 13 24,
 AC5 26 13 24,
 ADE 27 19 22,
 AC8 28 19 22,
 AC9 29 19 22,
 ADH 30 19 22,
 ADF 31 19 22,
 ADG 32 19 22,
 ADI 33 19 22,
 ADJ 34 19 22,
 ADK 35 19 22,
 ⟨36,.mget .i 1 0 [.s],[.e 11,.c (.int 0),.e 31]⟩,
 ⟨37,.mhas 1 [.s],[.e 11,.e 31]⟩,
 ⟨38,.mget .i 1 0 [.s],[.e 11,.c (.int 0),.e 32]⟩,
 ⟨39,.mhas 1 [.s],[.e 11,.e 32]⟩]
def Zx:List En:=[AC4 40 25 37,
 AC4 41 37 39,
 AC4 42 25 41,
 ⟨43,.row 1 9 [.i,.i,.i,.b,.s,.s,.b,.i,.i],[.e 27,.e 28,.e 29,.e 30,.e 31,.e 32,.e 33,.e 34,.e 35]⟩,
 ADS 44 23 43,
 AC5 45 25 41,
 ADD 46 41 44 23,
 ADD 47 41 44 23,
 ⟨48,.w2 .i64 .add,[.e 22,.c (.int 1)]⟩]
def DN:List En:=Zc++(Zx)
def UC:List ObE:=[⟨some 42,.fits 88,[.e 23,.e 43]⟩,⟨some 25,.inl,[.e 22,.e 19]⟩]
def Kz:Aa:=mkD 22 2 DN 25 [.e 48,.e 47] UC [11,19,13,20]
def Oy:List Rf:=[.e 11,.e 19,.e 13,.e 20,.c (.int 0),.e 21]
def ZT:List En:=[ADB 49 23]
def Kn:List En:=ZT
def Za:List En:=[AC7 52 50 49,
 ADA 53 52,
 ADE 54 23 50,
 AC8 55 23 50,
 AC9 56 23 50,
 ADH 57 23 50,
 ADF 58 23 50,
 ADG 59 23 50,
 ADI 60 23 50,
 ADJ 61 23 50,
 ADK 62 23 50,
 ⟨63,.mget .i 1 0 [.s],[.e 11,.c (.int 0),.e 58]⟩,
 ⟨64,.mget .i 1 0 [.s],[.e 11,.c (.int 0),.e 59]⟩,
 ⟨65,.outL "countR.0" Lv,[.e 51,.e 7,.e 63,.e 64,.e 60]⟩,
 ⟨66,.w2 .i64 .add,[.e 50,.c (.int 1)]⟩]
def Eo:List En:=Za
def Tq:List ObE:=[⟨some 52,.pre "countR.p0" Jj,[.e 51,.e 7,.e 63,.e 64,.e 60]⟩,⟨some 52,.pre "countR.p1" JE,[.e 51,.e 7,.e 63,.e 64,.e 60]⟩,⟨some 52,.inr,[.e 64,.e 7]⟩,⟨some 52,.inr,[.e 63,.e 7]⟩,⟨some 52,.inl,[.e 50,.e 23]⟩]
def Kq:Aa:=mkD 50 2 Eo 52 [.e 66,.e 65] Tq [7,11,23,49]
def OR:List Rf:=[.e 7,.e 11,.e 23,.e 49,.c (.int 0),.e 6]
def gZ:List En:=[]
def rN:List ObE:=[⟨none,.owes Kq,[.e 7,.e 11,.e 23,.e 49,.c (.int 0),.e 6]⟩,
 ⟨some 13,.owes Kz,[.e 11,.e 19,.e 13,.e 20,.c (.int 0),.e 21]⟩,
 ⟨some 13,.pre "books.p0" Ia,[.e 1]⟩,
 ⟨none,.owes Kg,[.e 0,.e 9,.c (.int 0),.e 8]⟩,
 ⟨none,.fits 32,[.e 4,.e 0]⟩,
 ⟨none,.pre "checkLk.p0" Kh,[.e 1]⟩,
 ⟨none,.pre "checkPk.p0" Hq,[.e 0]⟩]
def YV:List Rf:=[.e 51,.c (.int 0)]
theorem qG:Dp.sees YV (Dp.runC Try.prog GZ [(41,EV),(47,Gf),(65,DY),(58,IS)] bD 3000 20 24)=some ((Dn++((Ad Kg [.i,.l] OQ)++(CW++(GG++((Ad Kz [.i,.l] Oy)++(DN++(Kn++((Ad Kq [.i,.l] OR)++(Eo++(gZ)))))))))).map En.be,rN.map ObE.be,[]):=by kernel_rfl
theorem nD:AW Try.prog 24 Dp:=by
 refine HH FB (l:=[(41,EV),(47,Gf),(65,DY),(58,IS)]) A8 (by simp only[ABT];exact⟨L5,P9,RH,pS,fun _ h=>absurd h (by simp)⟩) qG (by kernel_rfl) fun T us d8 hT c4 hS fn g=>?_;change us.length=2 at c4;obtain⟨⟨d6,fs⟩,⟨d7,gH⟩,-⟩:=fn;replace d6:(L T 0).length<=140737488355328:=d6;have g0:∀u∈(L T 0),AL AB KP u:=fun u hu=>by
  obtain⟨i,Y⟩:=ABZ.1 hu;exact fs i u Y
 replace d7:(L T 1).length<=140737488355328:=d7;have d4:=inL (j:=0) hT c4 (by decide);have d5:=inL (j:=1) hT c4 (by decide);have a4:AS (L T 0)=0/\AM (L T 1)=0/\(AY (L T 1)).length<=40:=by
  have h:=d8 (.s "SettleV.p0",K5) (by simp[Dp]);change K5 us at h;unfold K5 at h;simp only[d4,d5] at h;exact h
 clear d8;rw[ABI,ABI,ABI,ABI,ABI,ABI,ABI,ABI,ABI] at g;obtain⟨hA,g⟩:=cutB g;obtain⟨hH,g⟩:=cutB g;obtain⟨N,g⟩:=cutB g;obtain⟨A0,O⟩:=AN hS (by kernel_rfl) hA;have D:=A0;have h9:I T 9=(L T 0).length:=by
  obtain⟨-,-,-,-,-,-,-,e9,-⟩:=D;simp only[AD,zR,zL] at e9;exact e9
 have h8:L T 8=[]:=by
  obtain⟨-,-,-,-,-,-,e8,-⟩:=D;simp only[AD,zR,zL,zS] at e8;exact e8
 have gl:(L T 0).length<=24:=by
  exact (H4 a4.1).2.2
 refine ACw (Ap (nh:=10) (k:=2) (pcn:=12) (an:=19) (H:=CW) (K:=Tm) (nxt:=[.e 18,.e 17]) (A:=[.c (.int 0),.e 8]) (fv:=[0,9]) (R:=[.i,.l]) (by kernel_rfl) rfl rfl rfl rfl O (by kernel_rfl) (by kernel_rfl) N (Ae hH) (fun s=>Do T (aI s 0) (aL s 1)) (fun s=>((L T 0).length - (aI s 0)).toNat)) ?_ ?_ fun⟨f5,a0,b9,ca⟩=>?_
 .show Do T (0:Int) (L T 8);exact⟨by omega,by omega,by rw[show (0:Int).toNat=0 from rfl];exact h8⟩
 .intro J z t Q;replace Q:Do T (I J 10) (L J 11):=Q;replace t:AE J CW:=t;have D:=t;clear t;have dn:=fvL (z 0 (by decide));have b5:=fvI (z 9 (by decide));clear z;obtain⟨w,-,c9,-,-,db,ce,-⟩:=id D;simp only[AD,zR,w2P,zL,zS,uR,zW,AG,zC] at w c9 db ce;obtain⟨v1,v2,v⟩:=Q
  suffices hz:(B J 12=true->((L J 11).length+(([[]]:U')).length)*1<=140737488355328)/\(B J 12=true->0<=I J 10/\I J 10 < (L J 0).length)/\(B J 12=true->(Do T (I J 18) (L J 17)))/\(B J 12=true->((L T 0).length - (I J 18)).toNat < ((L T 0).length - (I J 10)).toNat) from
   let⟨r0,ax,e,mz⟩:=hz;⟨⟨r0,ax,trivial⟩,fun b=>⟨e b,mz b⟩⟩
  refine⟨?_,?_,?_,?_⟩
  .intro b;rw[b5] at w;have c3:=w.1 b;have hl:=jX (P:=L T 0) (I J 10).toNat;rw[<-v] at hl;show ((L J 11).length+1)*1<=_;omega
  .intro b;rw[b5] at w;have c3:=w.1 b;rw[dn];omega
  .intro b;rw[b5] at w;have c3:=w.1 b;have el:=o2' ce (by omega);refine⟨by omega,by omega,?_⟩;rw[el,show (I J 10+1).toNat=(I J 10).toNat+1 by omega,db,c9,v,dn];show _=E2 _ _ _;unfold E2;rw[show (((I J 10).toNat:Nat):Int)=(I J 10) by omega]
  .intro b;rw[b5] at w;have c3:=w.1 b;have el:=o2' ce (by omega);omega
 replace b9:0<=I T 10/\I T 10<=(L T 0).length/\L T 11=Ax (E2 (L T 0)) (I T 10).toNat []:=b9;have bt:=(AN (a0.append O) (l:=CW) (by kernel_rfl) N);obtain⟨B0,hS⟩:=bt;clear hA N hH O a0;obtain⟨hA,g⟩:=cutB g;obtain⟨hH,g⟩:=cutB g;obtain⟨N,g⟩:=cutB g;obtain⟨A1,O⟩:=AN hS (by kernel_rfl) hA;have F1:=B0;have F2:=A1;have gs:I T 20=(L T 19).length:=by
  obtain⟨-,bk,-⟩:=F2;simp only[AD,zR,zL] at bk;exact bk
 have fd:L T 21=[]:=by
  obtain⟨-,-,dd,-⟩:=F2;simp only[AD,zR,zL,zS] at dd;exact dd
 have gr:L T 19=Aw (L T 1):=by
  obtain⟨E,-⟩:=F2;replace E:L T 19=(Aw (L T 1)):=E;exact E
 have gn:(L T 19).length<=40:=by
  obtain⟨E,-⟩:=F2;replace E:L T 19=(Aw (L T 1)):=E;rw[E];exact ABS Lw a4.2.2
 have e3:L T 11=BQ (L T 0):=by
  obtain⟨w,-⟩:=F1;simp only[AD,zR] at w;obtain⟨v1,v2,v⟩:=b9;have g1:¬I T 10 < I T 9:=fun h=>ca (w.2 h);rw[v,show (I T 10).toNat=(L T 0).length by omega];rfl
 have gp:B T 13=true:=by
  obtain⟨-,bi,-⟩:=F1;simp only[AD,AG,zR] at bi;exact bi.2 (by simpa using ca)
 have h6:L T 6=L T 0:=by
  obtain⟨-,-,e4,-,e6,-⟩:=D;simp only[AD,AG,zR,zL,zS] at e4 e6;rw[e6,e4];rfl
 refine ACw (Ap (nh:=22) (k:=2) (pcn:=25) (an:=49) (H:=DN) (K:=UC) (nxt:=[.e 48,.e 47]) (A:=[.c (.int 0),.e 21]) (fv:=[11,19,13,20]) (R:=[.i,.l]) (by kernel_rfl) rfl rfl rfl rfl O (by kernel_rfl) (by kernel_rfl) N (Ae hH) (fun s=>Et T (aI s 0) (aL s 1)) (fun s=>((L T 19).length - (aI s 0)).toNat)) ?_ ?_ fun⟨f6,a0,c5,f3⟩=>?_
 .show Et T (0:Int) (L T 21);exact⟨by omega,by omega,by rw[show (0:Int).toNat=0 from rfl];exact fd⟩
 .intro J z t Q;replace Q:Et T (I J 22) (L J 23):=Q;replace t:AE J DN:=t;obtain⟨D,t⟩:=t.cut;have F1:=t;clear t;have W:=fvL (z 11 (by decide));have ds:=fvL (z 19 (by decide));have gm:=fvB (z 13 (by decide));have b4:=fvI (z 20 (by decide));clear z;obtain⟨X,Z,-,cf,ch,ci,cj,b2,b3,cl,cs,cu,-,bl,-,bm,-⟩:=id D;obtain⟨-,cv,de,cx,di,-,-,cy,c0,-⟩:=id F1;simp only[AD,AG,zR,w2P,zL,zS,uR,Bv,zW,zC] at X Z cf ch ci cj b2 b3 cl cs cu bl bm cv de cx di cy c0;obtain⟨v1,v2,v⟩:=Q
  suffices hz:(B J 42=true->((L J 23).length+(L J 43).length)*88<=140737488355328)/\(B J 25=true->0<=I J 22/\I J 22 < (L J 19).length)/\(B J 25=true->(Et T (I J 48) (L J 47)))/\(B J 25=true->((L T 19).length - (I J 48)).toNat < ((L T 19).length - (I J 22)).toNat) from
   let⟨r0,ax,e,mz⟩:=hz;⟨⟨r0,ax,trivial⟩,fun b=>⟨e b,mz b⟩⟩
  refine⟨?_,?_,?_,?_⟩
  .intro b;have a2:=X.1 (Z.1 (de.1 b).1).2;rw[b4] at a2;have hl:=Nb (M:=L T 11) (B:=L T 19) (I J 22).toNat;rw[<-v] at hl;rw[cx];show ((L J 23).length+1)*88<=_;omega
  .intro b;have a2:=X.1 (Z.1 b).2;rw[b4] at a2;rw[ds];omega
  .intro b;have a2:=X.1 (Z.1 b).2;rw[b4] at a2;have em:=o2' c0 (by omega);refine⟨by omega,by omega,?_⟩;rw[em,show (I J 22+1).toNat=(I J 22).toNat+1 by omega];refine Eq.trans ?_ (ACF (Cl (L T 11) (L T 19) (I J 22).toNat) v);unfold Cl NP;rw[ds] at cf ch ci cj b2 b3 cl cs cu;rw[W] at bl bm;rw[b2] at bl;rw[b3] at bm;by_cases hb:B J 41=true
   .have d0:=cv.1 hb;rw[cy,ACE hb,ACE ⟨bl.1 d0.1,bm.1 d0.2⟩,di,cx,cf,ch,ci,cj,b2,b3,cl,cs,cu];rfl
   .rw[cy,ACD hb,ACD (fun h=>hb (cv.2 ⟨bl.2 h.1,bm.2 h.2⟩))]
  .intro b;have a2:=X.1 (Z.1 b).2;rw[b4] at a2;have em:=o2' c0 (by omega);omega
 replace c5:0<=I T 22/\I T 22<=(L T 19).length/\L T 23=Ax (Cl (L T 11) (L T 19)) (I T 22).toNat []:=c5;have bt:=(AN (a0.append O) (l:=DN) (by kernel_rfl) N);obtain⟨B1,hS⟩:=bt;clear hA N hH O a0;obtain⟨hA,g⟩:=cutB g;obtain⟨hH,g⟩:=cutB g;obtain⟨N,g⟩:=cutB g;obtain⟨A2,O⟩:=AN hS (by kernel_rfl) hA;obtain⟨F3,B1⟩:=B1.cut;have F4:=B1;have F5:=A2;have hM:L T 11=BQ (L T 0)/\L T 6=L T 0/\I T 7=(L T 0).length/\I T 49=(L T 23).length:=by
  obtain⟨-,-,e4,-,e6,e7,-,e9,-⟩:=D;obtain⟨w,-⟩:=F1;obtain⟨dj,-⟩:=F5;simp only[AD,AG,zR,zL,zS] at e4 e6 e7 e9 w dj;obtain⟨v1,v2,v⟩:=b9;have g2:¬I T 10 < I T 9:=fun h=>ca (w.2 h);have e3:=e9;have h8:L T 6=L T 0:=by rw[e6,e4];rfl
  exact⟨by rw[v,show (I T 10).toNat=(L T 0).length by omega];rfl,h8,by rw[e7,h8],dj⟩
 have hX:L T 23=JW (BQ (L T 0)) (Aw (L T 1)):=by
  obtain⟨-,bi,-⟩:=F1;obtain⟨E,bk,-⟩:=F2;obtain⟨X,Z,-⟩:=F3;replace E:L T 19=(Aw (L T 1)):=E;simp only[AD,AG,zR,zL] at bi bk X Z;obtain⟨v1,v2,v⟩:=c5;have e5:=bi.2 (by simpa using ca);have g6:¬I T 22 < I T 20:=fun h=>f3 (Z.2 ⟨e5,X.2 h⟩);have gv:=bk;rw[v,show (I T 22).toNat=(L T 19).length by omega,hM.1,E];rfl
 have hG:Df (L T 0)/\OkR (L T 0)/\(L T 0).length<=24/\(L T 23).length<=40/\∀u∈(L T 23),VR (L T 0) u:=by
  obtain⟨p1,p2,p3⟩:=a4;obtain⟨o1,o2,o3⟩:=H4 p1;have hl:=Nb (M:=BQ (L T 0)) (B:=Aw (L T 1)) (Aw (L T 1)).length;have hb:=Lw (l:=L T 1);rw[hX];exact⟨o2,o1,o3,by unfold JW;omega,Qj o2 (tj p2) _ (ABB _)⟩
 refine ACw (Ap (nh:=50) (k:=2) (pcn:=52) (an:=67) (H:=Eo) (K:=Tq) (nxt:=[.e 66,.e 65]) (A:=[.c (.int 0),.e 6]) (fv:=[7,11,23,49]) (R:=[.i,.l]) (by kernel_rfl) rfl rfl rfl rfl O (by kernel_rfl) (by kernel_rfl) N (Ae hH) (fun s=>GB T (aI s 0) (aL s 1)) (fun s=>((L T 23).length - (aI s 0)).toNat)) ?_ ?_ fun⟨f7,a0,c6,f4⟩=>?_
 .show GB T (0:Int) (L T 6);exact⟨ABt _,by omega,hM.2.1⟩
 .intro J z t Q;replace Q:GB T (I J 50) (L J 51):=Q;replace t:AE J Eo:=t;have D:=t;clear t;have dv:=fvI (z 7 (by decide));have W:=fvL (z 11 (by decide));have ad:=fvL (z 23 (by decide));have a1:=fvI (z 49 (by decide));clear z;obtain⟨F,-,-,-,-,-,x,y,V,-,-,p,q,c1,c2,-⟩:=id D;replace c1:L J 65=(JC (L J 51) (I J 63).toNat (I J 64).toNat (B J 60)):=c1;simp only[AD,zR,w2P,zL,uR,zW,AG,zC,zS] at F x y V p q c2;obtain⟨v1,v2,v⟩:=Q;obtain⟨az,al,m3,m4⟩:=hM;obtain⟨r,au,g3,g4,g5⟩:=hG;have q1:L J 51=upK (ctU (L T 11)) (L T 23) (I J 50).toNat (L T 0):=v;have q2:nmL (L J 51)=nmL (L T 0):=by rw[q1];exact OI _
  have q3:(L J 51).length=(L T 0).length:=JX q2;have q4:OkR (L J 51):=by rw[q1];exact LW au _
  suffices hz:(B J 52=true->(L J 51).length=I J 7/\I J 63 < I J 7/\I J 64 < I J 7/\¬I J 63=I J 64/\ -10000<=AJ (L J 51) (I J 63).toNat 1/\AJ (L J 51) (I J 63).toNat 1<=10000/\ -12<=AJ (L J 51) (I J 63).toNat 2/\AJ (L J 51) (I J 63).toNat 2<=48)/\(B J 52=true-> -10000<=AJ (L J 51) (I J 64).toNat 1/\AJ (L J 51) (I J 64).toNat 1<=10000/\ -12<=AJ (L J 51) (I J 64).toNat 2/\AJ (L J 51) (I J 64).toNat 2<=48)/\(B J 52=true->0<=I J 64/\I J 64 < I J 7)/\(B J 52=true->0<=I J 63/\I J 63 < I J 7)/\(B J 52=true->0<=I J 50/\I J 50 < (L J 23).length)/\(B J 52=true->(GB T (I J 66) (L J 65)))/\(B J 52=true->((L T 23).length - (I J 66)).toNat < ((L T 23).length - (I J 50)).toNat) from
   let⟨r0,ax,aK,r3,r4,e,mz⟩:=hz;⟨⟨r0,ax,aK,r3,r4,trivial⟩,fun b=>⟨e b,mz b⟩⟩
  refine⟨?_,?_,?_,?_,?_,?_,?_⟩
  .intro b;have C:=(F.1 (b));rw[a1] at C;rw[ad] at x y V;rw[W,az] at p q;have a:=g5 ((L T 23).getD (I J 50).toNat []) (by rw[Dv (by omega)];exact AB0 _);have c:S J 58=uS ((L T 23).getD (I J 50).toNat []) 4:=x;have d:S J 59=uS ((L T 23).getD (I J 50).toNat []) 5:=y;have aw:I J 63=Az (L T 0) (S J 58):=Eq.trans p (Cy r (by rw[c];exact a.1));have a8:I J 64=Az (L T 0) (S J 59):=Eq.trans q (Cy r (by rw[d];exact a.2.1));have o:=a.1;have e:=a.2.1;rw[<-c] at o;rw[<-d] at e;have ne:¬Az (L T 0) (S J 58)=Az (L T 0) (S J 59):=IF o e (by rw[c,d];exact a.2.2);have:=q4 (I J 63).toNat (by omega);omega
  .intro b;have C:=(F.1 (b));rw[a1] at C;rw[ad] at x y V;rw[W,az] at p q;have a:=g5 ((L T 23).getD (I J 50).toNat []) (by rw[Dv (by omega)];exact AB0 _);have c:S J 58=uS ((L T 23).getD (I J 50).toNat []) 4:=x;have d:S J 59=uS ((L T 23).getD (I J 50).toNat []) 5:=y;have aw:I J 63=Az (L T 0) (S J 58):=Eq.trans p (Cy r (by rw[c];exact a.1));have a8:I J 64=Az (L T 0) (S J 59):=Eq.trans q (Cy r (by rw[d];exact a.2.1));have o:=a.1;have e:=a.2.1;rw[<-c] at o;rw[<-d] at e;have ne:¬Az (L T 0) (S J 58)=Az (L T 0) (S J 59):=IF o e (by rw[c,d];exact a.2.2);have:=q4 (I J 64).toNat (by omega);exact this
  iterate 2
   .intro b;have C:=(F.1 (b));rw[a1] at C;rw[ad] at x y V;rw[W,az] at p q;have a:=g5 ((L T 23).getD (I J 50).toNat []) (by rw[Dv (by omega)];exact AB0 _);have c:S J 58=uS ((L T 23).getD (I J 50).toNat []) 4:=x;have d:S J 59=uS ((L T 23).getD (I J 50).toNat []) 5:=y;have aw:I J 63=Az (L T 0) (S J 58):=Eq.trans p (Cy r (by rw[c];exact a.1));have a8:I J 64=Az (L T 0) (S J 59):=Eq.trans q (Cy r (by rw[d];exact a.2.1));have o:=a.1;have e:=a.2.1;rw[<-c] at o;rw[<-d] at e;have ne:¬Az (L T 0) (S J 58)=Az (L T 0) (S J 59):=IF o e (by rw[c,d];exact a.2.2);rw[dv];omega
  .intro b;have C:=(F.1 (b));rw[a1] at C;rw[ad] at x y V;rw[W,az] at p q;have a:=g5 ((L T 23).getD (I J 50).toNat []) (by rw[Dv (by omega)];exact AB0 _);have c:S J 58=uS ((L T 23).getD (I J 50).toNat []) 4:=x;have d:S J 59=uS ((L T 23).getD (I J 50).toNat []) 5:=y;have aw:I J 63=Az (L T 0) (S J 58):=Eq.trans p (Cy r (by rw[c];exact a.1));have a8:I J 64=Az (L T 0) (S J 59):=Eq.trans q (Cy r (by rw[d];exact a.2.1));have o:=a.1;have e:=a.2.1;rw[<-c] at o;rw[<-d] at e;have ne:¬Az (L T 0) (S J 58)=Az (L T 0) (S J 59):=IF o e (by rw[c,d];exact a.2.2);rw[ad];omega
  .intro b;have C:=(F.1 (b));rw[a1] at C;rw[ad] at x y V;rw[W,az] at p q;have a:=g5 ((L T 23).getD (I J 50).toNat []) (by rw[Dv (by omega)];exact AB0 _);have c:S J 58=uS ((L T 23).getD (I J 50).toNat []) 4:=x;have d:S J 59=uS ((L T 23).getD (I J 50).toNat []) 5:=y;have aw:I J 63=Az (L T 0) (S J 58):=Eq.trans p (Cy r (by rw[c];exact a.1));have a8:I J 64=Az (L T 0) (S J 59):=Eq.trans q (Cy r (by rw[d];exact a.2.1));have o:=a.1;have e:=a.2.1;rw[<-c] at o;rw[<-d] at e;have ne:¬Az (L T 0) (S J 58)=Az (L T 0) (S J 59):=IF o e (by rw[c,d];exact a.2.2);have xn:=o2' c2 (by omega);refine⟨by omega,by omega,?_⟩;rw[xn,show (I J 50+1).toNat=(I J 50).toNat+1 by omega];show _=ctU (L T 11) (upK (ctU (L T 11)) (L T 23) (I J 50).toNat (L T 0)) ((L T 23).getD (I J 50).toNat []);rw[<-v,c1,p,q,c,d,V,az];rfl
  .intro b;have C:=(F.1 (b));rw[a1] at C;rw[ad] at x y V;rw[W,az] at p q;have a:=g5 ((L T 23).getD (I J 50).toNat []) (by rw[Dv (by omega)];exact AB0 _);have c:S J 58=uS ((L T 23).getD (I J 50).toNat []) 4:=x;have d:S J 59=uS ((L T 23).getD (I J 50).toNat []) 5:=y;have aw:I J 63=Az (L T 0) (S J 58):=Eq.trans p (Cy r (by rw[c];exact a.1));have a8:I J 64=Az (L T 0) (S J 59):=Eq.trans q (Cy r (by rw[d];exact a.2.1));have o:=a.1;have e:=a.2.1;rw[<-c] at o;rw[<-d] at e;have ne:¬Az (L T 0) (S J 58)=Az (L T 0) (S J 59):=IF o e (by rw[c,d];exact a.2.2);have xn:=o2' c2 (by omega);omega
 replace c6:0<=I T 50/\I T 50<=(L T 23).length/\L T 51=upK (ctU (L T 11)) (L T 23) (I T 50).toNat (L T 0):=c6;have bt:=(AN (a0.append O) (l:=Eo) (by kernel_rfl) N);obtain⟨B2,hS⟩:=bt;clear hA N hH O a0;obtain⟨A3,hO⟩:=Ao (R:=[.l,.i]) (ai:=YV) hS (by kernel_rfl) g;have F6:=B2;obtain⟨-,-,e4,-⟩:=id D;obtain⟨F,-⟩:=id F6;simp only[AD,AG,zR,zL,zS] at e4 F;have q0:L T 51=(Cw (L T 0) (L T 1)):=by
  obtain⟨v1,v2,v⟩:=c6;obtain⟨az,al,m3,m4⟩:=hM;obtain⟨r,au,g3,g4,g5⟩:=hG;have g7:¬I T 50 < I T 49:=fun h=>f4 (F.2 h);rw[v,show (I T 50).toNat=(L T 23).length by omega,az,hX];exact gb r
 have q1:0=((0:Int)):=by
  rfl
 have r0:B T 13=true->(AY (L T 1)).length<=40:=by
  intro h;exact a4.2.2
 have ax:((L T 4).length+(L T 0).length)*32<=140737488355328:=by
  obtain⟨p1,p2,p3⟩:=a4;obtain⟨o1,o2,o3⟩:=H4 p1;rw[e4];show (0+_)*32<=_;omega
 have aK:AM (L T 1)=0:=by
  exact a4.2.1
 have r3:AS (L T 0)=0:=by
  exact a4.1
 refine⟨⟨(fun _=>f7),(fun _=>f6),r0,(fun _=>f5),(fun _=>ax),(fun _=>aK),(fun _=>r3),trivial⟩,hO.trans ?_⟩;exact (lc (by show U.list (L T 51)= .list (Eb us);unfold Eb;rw[d4,d5];exact ACF U.list q0) (lc (by show U.int 0= .int (Ea us);unfold Ea;exact ACF U.int q1) rfl))
def II:List U->Int:=fun us=>(BV (aI us 0) (aI us 1))
def NH:AU:={ sh:=[.one (k64),.one (k64)],blks:=[],outs:=[(.s "cmpJ.0",Ba II)],c:=(Ch 2),m':=[],pre:=[] }
def mQ:List En:=[AC7 2 0 1,
 ADA 3 2,
 AC7 4 1 0,
 AC4 5 3 4,
 AC5 6 3 4,
 ⟨7,.ite .i,[.e 5,.c (.int 1),.c (.int 0)]⟩,
 AC6 8 5 6,
 ⟨9,.ite .i,[.e 2,.c (.int (-1)),.e 7]⟩,
 AC6 10 2 8]
def cw:List En:=mQ
def AAA:List ObE:=[]
def qt:List Rf:=[.e 9]
theorem yx:NH.sees qt (NH.run Try.prog [] Ab 3000 20 124)=some ((cw).map En.be,AAA.map ObE.be,[]):=by kernel_rfl
theorem ib:AW Try.prog 124 NH:=by
 refine An (l:=[]) A8 (by intro p h;exact absurd h (by simp)) yx (by kernel_rfl) fun T us z q g w t u=>?_;change us.length=2 at g;clear t;have x:=inI (j:=0) q g (by decide);have y:=inI (j:=1) q g (by decide);clear z
 skip
 obtain⟨r,v⟩:=Ao (R:=[.i]) (ai:=qt) w (by kernel_rfl) u;have s:=r;obtain⟨c,i,d,e,-,k,-,o,-⟩:=id s;simp only[AD,AG,zR,zL,zS] at c i d e k o;have A:I T 9=(BV (I T 0) (I T 1)):=by
  unfold BV;rw[o,k];by_cases C:I T 0 < I T 1
  .rw[ACE (c.2 C),ACE C]
  .have O:¬B T 2=true:=fun a=>C (c.1 a);rw[ACD O,ACD C];by_cases b:I T 1 < I T 0
   .rw[ACE (e.2 ⟨i.2 O,d.2 b⟩),ACE b]
   .rw[ACD (fun a=>b (d.1 (e.1 a).2)),ACD b]
 refine⟨trivial,v.trans ?_⟩;exact (lc (by show U.int (I T 9)= .int (II us);unfold II;rw[x,y];exact ACF U.int A) rfl)
end
section
open Go Go.Eng Go.Proofs Go.RowKit Go.Lib
def QJ:List U->Int:=fun us=>(Em (aS us 0) (aS us 1))
def Mq:AU:={ sh:=[.one (.str),.one (.str)],blks:=[],outs:=[(.s "strcmp.0",Ba QJ)],c:=(.i .i64 (-1) 1 2),m':=[],pre:=[] }
set_option maxHeartbeats 1000000 in
set_option maxRecDepth 100000 in
theorem pH (a b:ByteArray)(w:World):
  Calls Try.prog 141 #[.string a,.string b] w fun e ab=>e= .returned (.int .i64 (Lib.compareBytes a.data.toList b.data.toList))/\ab=w:=by
 go_enter Try.func141,Try.ntmps141
 go_wp2
 rw[run_callFunc_extern Try.func147 (by kernel_rfl) (by kernel_rfl) (by kernel_rfl) (e:=Extern.BytealgCompare.compare) (by kernel_rfl),Lib.run_compareString];simp only[Result.andThen];rw[Oper.upon_value]
 go_wp2
 go_ret
 exact⟨rfl,rfl⟩
set_option maxHeartbeats 1000000 in
theorem bu (a b:ByteArray)(w:World):
  Calls Try.prog 129 #[.string a,.string b] w fun e ab=>e= .returned (.int .i64 (Lib.compareBytes a.data.toList b.data.toList))/\ab=w:=by
 go_enter Try.func129,Try.ntmps129
 go_wp2_with (go_at_call 141;refine (pH _ _ _).mono ?_;rintro e ab ⟨rfl,rfl⟩)
 go_ret
 exact⟨rfl,rfl⟩
theorem X2:AW Try.prog 129 Mq:=by
 refine WU rfl rfl ⟨Try.f129,Try.func129,by kernel_rfl,by kernel_rfl⟩ fun T us k c p V w W o=>?_;obtain⟨v,x,rfl,⟨_,s,aa,rfl,q⟩,t,y,rfl,⟨_,b,l,rfl,r⟩,rfl⟩:=o;have d:us.length=2:=k;refine (bu s b w).mono fun e ab ⟨C,O⟩=>⟨_,C,by rw[O];exact Below.refl _ _,show 2 < 3 by decide,Em s b,?_,rfl,?_⟩
 .have g:aS us 0=s:=inS (T:=T) (us:=us) (n:=2) (j:=0) (fun j u a=>c j u (by unfold AU.us;rw[ABO (ABD.1 a).1];exact a)) d (by decide) |>.trans (by unfold S;rw[show T.get 0= .str s from aa];rfl)
  have h:aS us 1=b:=inS (T:=T) (us:=us) (n:=2) (j:=1) (fun j u a=>c j u (by unfold AU.us;rw[ABO (ABD.1 a).1];exact a)) d (by decide) |>.trans (by unfold S;rw[show T.get 1= .str b from l];rfl)
  have i:=c 2 (Ba QJ us) (by unfold AU.us;rw[ABP (by omega),d];rfl);rw[i];show U.int (Em (aS us 0) (aS us 1))=_;rw[g,h]
 .exact yQ s b
end
section
open Go Go.Eng Go.Proofs
set_option maxHeartbeats 4000000
set_option maxRecDepth 100000
def KW:List U->Int:=fun us=>(plN (aI us 1) (aI us 3) (aI us 4) (aI us 5) (aS us 0) (aI us 7) (aI us 9) (aI us 10) (aI us 11) (aS us 6))
def Kc:List U->Int:=fun us=>(plR (aI us 1) (aI us 3) (aI us 4) (aI us 5) (aS us 0) (aI us 7) (aI us 9) (aI us 10) (aI us 11) (aS us 6))
def LI:AU:={ sh:=[.agg [.str,k64,k64,k64,k64,k64],.agg [.str,k64,k64,k64,k64,k64]],blks:=[],outs:=[(.s "compare.0",Ba KW),(.s "compare.1",Ba Kc)],c:= .tup [(Ch 12),(Ch 13)],m':=[],pre:=[] }
def ZS:List En:=[⟨12,.eqs [.s,.i,.i,.i,.i,.i],[.e 0,.e 6,.e 1,.e 7,.e 2,.e 8,.e 3,.e 9,.e 4,.e 10,.e 5,.e 11]⟩,
 ADA 13 12,
 ⟨14,.outI "cmpJ.0" II,[.e 7,.e 1]⟩,
 ⟨15,.ne,[.e 14,.c (.int 0)]⟩,
 AC4 16 13 15,
 AC5 17 13 15,
 ⟨18,.outI "cmpJ.0" II,[.e 9,.e 3]⟩,
 ⟨19,.ne,[.e 18,.c (.int 0)]⟩,
 AC4 20 17 19,
 AC5 21 17 19,
 ⟨22,.outI "cmpJ.0" II,[.e 10,.e 4]⟩,
 ⟨23,.ne,[.e 22,.c (.int 0)]⟩,
 AC4 24 21 23,
 AC5 25 21 23,
 ⟨26,.outI "cmpJ.0" II,[.e 11,.e 5]⟩,
 ⟨27,.ne,[.e 26,.c (.int 0)]⟩]
def Zk:List En:=[AC4 28 25 27,
 AC5 29 25 27,
 ⟨30,.outI "strcmp.0" QJ,[.e 0,.e 6]⟩,
 ⟨31,.ne,[.e 30,.c (.int 0)]⟩,
 AC4 32 29 31,
 AC5 33 29 31,
 ⟨34,.ite .i,[.e 32,.c (.int 5),.c (.int 0)]⟩,
 ⟨35,.ite .i,[.e 32,.c (.int 4),.c (.int 5)]⟩,
 ⟨36,.ite .b,[.e 32,.c (.bool true),.c (.bool false)]⟩,
 AC6 37 32 33,
 ⟨38,.ite .i,[.e 28,.c (.int 4),.e 34]⟩,
 ADU 39 28 27 31,
 ⟨40,.ite .i,[.e 28,.c (.int 3),.e 35]⟩,
 ADC 41 28 26 30,
 ⟨42,.ite .b,[.e 28,.c (.bool true),.e 36]⟩,
 AC6 43 28 37]
def ZN:List En:=[⟨44,.ite .i,[.e 24,.c (.int 3),.e 38]⟩,
 ADU 45 24 23 39,
 ADO 46 24,
 ⟨47,.ite .i,[.e 24,.c (.int 2),.e 40]⟩,
 ADC 48 24 22 41,
 ⟨49,.ite .b,[.e 24,.c (.bool true),.e 42]⟩,
 AC6 50 24 43,
 ⟨51,.ite .i,[.e 20,.c (.int 2),.e 44]⟩,
 ADU 52 20 19 45,
 ADO 53 20,
 ⟨54,.ite .i,[.e 20,.c (.int 1),.e 47]⟩,
 ADC 55 20 18 48,
 ⟨56,.ite .b,[.e 20,.c (.bool true),.e 49]⟩,
 AC6 57 20 50,
 ⟨58,.ite .i,[.e 16,.c (.int 1),.e 51]⟩,
 ADU 59 16 15 52]
def ZW:List En:=[ADO 60 16,
 ⟨61,.ite .i,[.e 16,.c (.int 0),.e 54]⟩,
 ADC 62 16 14 55,
 ⟨63,.ite .b,[.e 16,.c (.bool true),.e 56]⟩,
 AC6 64 16 57,
 ⟨65,.ite .i,[.e 12,.c (.int 0),.e 58]⟩,
 ⟨66,.ite .i,[.e 12,.c (.int 0),.e 58]⟩,
 ⟨67,.ite .i,[.e 12,.c (.int 0),.e 62]⟩,
 ⟨68,.ite .i,[.e 12,.c (.int 0),.e 62]⟩,
 AC6 69 12 64]
def UB:List En:=ZS++(Zk++(ZN++(ZW)))
def qP:List ObE:=[]
def ZD:List Rf:=[.e 67,.e 66]
theorem sU:LI.sees ZD (LI.run Try.prog [(124,NH),(129,Mq)] Ab 3000 20 73)=some ((UB).map En.be,qP.map ObE.be,[]):=by kernel_rfl
theorem mi:AW Try.prog 73 LI:=by
 refine An (l:=[(124,NH),(129,Mq)]) A8 (by simp only[ABT];exact⟨ib,X2,fun _ h=>absurd h (by simp)⟩) sU (by kernel_rfl) fun T us ch c b hS cb hE=>?_;change us.length=12 at b;obtain⟨b5,-,-,-,-,-,b6,-⟩:=cb;replace b5:(S T 0).size<=140737488355328:=b5;replace b6:(S T 6).size<=140737488355328:=b6;have bm:=inS (j:=0) c b (by decide);have bo:=inI (j:=1) c b (by decide);have bx:=inI (j:=3) c b (by decide);have b0:=inI (j:=4) c b (by decide);have b1:=inI (j:=5) c b (by decide);have b2:=inS (j:=6) c b (by decide);have b3:=inI (j:=7) c b (by decide);have b4:=inI (j:=9) c b (by decide);have bs:=inI (j:=10) c b (by decide);have bt:=inI (j:=11) c b (by decide);clear ch
 skip
 obtain⟨p,hO⟩:=Ao (R:=[.i,.i]) (ai:=ZD) hS (by kernel_rfl) hE;obtain⟨F0,p⟩:=p.cut;obtain⟨F1,p⟩:=p.cut;obtain⟨F2,p⟩:=p.cut;have F3:=p;obtain⟨V,W,q,u,v,X,r,w,x,Y,s,y,A,Z,t,C,-⟩:=id F0;obtain⟨D,ab,E,ad,ag,-,a4,-,-,-,a5,-,-,a6,-⟩:=id F1;obtain⟨a7,-,-,-,a8,-,-,a9,-,-,-,ba,-,-,bb,-⟩:=id F2;obtain⟨-,-,bc,-,-,-,bi,bk,-⟩:=id F3;replace q:I T 14=(BV (I T 7) (I T 1)):=q;replace r:I T 18=(BV (I T 9) (I T 3)):=r;replace s:I T 22=(BV (I T 10) (I T 4)):=s;replace t:I T 26=(BV (I T 11) (I T 5)):=t;replace E:I T 30=(Em (S T 0) (S T 6)):=E;simp only[AD,AG,zN,zR,Cn,and_true,zL,zS] at V W u v X w x Y y A Z C D ab ad ag a4 a5 a6 a7 a8 a9 ba bb bc bi bk;have q0:I T 67=(plN (I T 1) (I T 3) (I T 4) (I T 5) (S T 0) (I T 7) (I T 9) (I T 10) (I T 11) (S T 6)):=by
  unfold plN;rw[bk];by_cases o:B T 12=true
  .obtain⟨Q,q2,q3,q4,q5,q6⟩:=V.1 o;rw[ACE o,ACD (fun a=>a q2),ACD (fun a=>a q4),ACD (fun a=>a q5),ACD (fun a=>a q6)];exact ((Ib _ _).2 Q).symm
  .have F:=W.2 (by simpa using o);rw[ACD o,bc];by_cases d:I T 1=I T 7;rotate_left
   .have g:¬I T 14=0:=fun z=>d (Bw.1 (q.symm.trans z)).symm;rw[ACE (v.2 ⟨F,u.2 g⟩),ACE d];exact q
   have al:I T 14=0:=q.trans (Bw.2 d.symm);have M:¬B T 15=true:=fun z=>(u.1 z) al;have H:B T 17=true:=X.2 ⟨F,by simpa using M⟩;rw[ACD (fun z=>M (v.1 z).2),ACD (fun z=>z d),ba];by_cases e:I T 3=I T 9;rotate_left
   .have g:¬I T 18=0:=fun z=>e (Bw.1 (r.symm.trans z)).symm;rw[ACE (x.2 ⟨H,w.2 g⟩),ACE e];exact r
   have ao:I T 18=0:=r.trans (Bw.2 e.symm);have N:¬B T 19=true:=fun z=>(w.1 z) ao;have J:B T 21=true:=Y.2 ⟨H,by simpa using N⟩;rw[ACD (fun z=>N (x.1 z).2),ACD (fun z=>z e),a8];by_cases i:I T 4=I T 10;rotate_left
   .have g:¬I T 22=0:=fun z=>i (Bw.1 (s.symm.trans z)).symm;rw[ACE (A.2 ⟨J,y.2 g⟩),ACE i];exact s
   have aw:I T 22=0:=s.trans (Bw.2 i.symm);have O:¬B T 23=true:=fun z=>(y.1 z) aw;have K:B T 25=true:=Z.2 ⟨J,by simpa using O⟩;rw[ACD (fun z=>O (A.1 z).2),ACD (fun z=>z i),a6];by_cases k:I T 5=I T 11;rotate_left
   .have g:¬I T 26=0:=fun z=>k (Bw.1 (t.symm.trans z)).symm;rw[ACE (D.2 ⟨K,C.2 g⟩),ACE k];exact t
   have ax:I T 26=0:=t.trans (Bw.2 k.symm);have P:¬B T 27=true:=fun z=>(C.1 z) ax;have bl:B T 29=true:=ab.2 ⟨K,by simpa using P⟩;rw[ACD (fun z=>P (D.1 z).2),ACD (fun z=>z k)];exact E
 have Q:I T 66=(plR (I T 1) (I T 3) (I T 4) (I T 5) (S T 0) (I T 7) (I T 9) (I T 10) (I T 11) (S T 6)):=by
  unfold plR;rw[bi];by_cases o:B T 12=true
  .obtain⟨Q,q2,q3,q4,q5,q6⟩:=V.1 o;rw[ACE o,ACD (fun a=>a q2),ACD (fun a=>a q4),ACD (fun a=>a q5),ACD (fun a=>a q6),ACE Q]
  .have F:=W.2 (by simpa using o);rw[ACD o,bb];by_cases d:I T 1=I T 7;rotate_left
   .have g:¬I T 14=0:=fun z=>d (Bw.1 (q.symm.trans z)).symm;rw[ACE (v.2 ⟨F,u.2 g⟩),ACE d]
   have al:I T 14=0:=q.trans (Bw.2 d.symm);have M:¬B T 15=true:=fun z=>(u.1 z) al;have H:B T 17=true:=X.2 ⟨F,by simpa using M⟩;rw[ACD (fun z=>M (v.1 z).2),ACD (fun z=>z d),a9];by_cases e:I T 3=I T 9;rotate_left
   .have g:¬I T 18=0:=fun z=>e (Bw.1 (r.symm.trans z)).symm;rw[ACE (x.2 ⟨H,w.2 g⟩),ACE e]
   have ao:I T 18=0:=r.trans (Bw.2 e.symm);have N:¬B T 19=true:=fun z=>(w.1 z) ao;have J:B T 21=true:=Y.2 ⟨H,by simpa using N⟩;rw[ACD (fun z=>N (x.1 z).2),ACD (fun z=>z e),a7];by_cases i:I T 4=I T 10;rotate_left
   .have g:¬I T 22=0:=fun z=>i (Bw.1 (s.symm.trans z)).symm;rw[ACE (A.2 ⟨J,y.2 g⟩),ACE i]
   have aw:I T 22=0:=s.trans (Bw.2 i.symm);have O:¬B T 23=true:=fun z=>(y.1 z) aw;have K:B T 25=true:=Z.2 ⟨J,by simpa using O⟩;rw[ACD (fun z=>O (A.1 z).2),ACD (fun z=>z i),a5];by_cases k:I T 5=I T 11;rotate_left
   .have g:¬I T 26=0:=fun z=>k (Bw.1 (t.symm.trans z)).symm;rw[ACE (D.2 ⟨K,C.2 g⟩),ACE k]
   have ax:I T 26=0:=t.trans (Bw.2 k.symm);have P:¬B T 27=true:=fun z=>(C.1 z) ax;have bl:B T 29=true:=ab.2 ⟨K,by simpa using P⟩;rw[ACD (fun z=>P (D.1 z).2),ACD (fun z=>z k),a4];by_cases aa:S T 0=S T 6
   .rw[ACE aa,ACD (fun z=>(ad.1 (ag.1 z).2) (E.trans ((Ib _ _).2 aa)))]
   .rw[ACD aa,ACE (ag.2 ⟨bl,ad.2 (fun z=>aa ((Ib _ _).1 (E.symm.trans z)))⟩)]
 refine⟨trivial,hO.trans ?_⟩;exact (lc (by show U.int (I T 67)= .int (KW us);unfold KW;rw[bm,bo,bs,bt,bx,b0,b1,b2,b3,b4];exact ACF U.int q0) (lc (by show U.int (I T 66)= .int (Kc us);unfold Kc;rw[bm,bo,bs,bt,bx,b0,b1,b2,b3,b4];exact ACF U.int Q) rfl))
def Fi:List U->Int:=fun us=>(plN (aI us 1) (aI us 3) (aI us 4) (aI us 5) (aS us 0) (aI us 7) (aI us 9) (aI us 10) (aI us 11) (aS us 6))
def IJ:AU:={ sh:=[.agg [.str,k64,k64,k64,k64,k64],.agg [.str,k64,k64,k64,k64,k64]],blks:=[],outs:=[(.s "cmpTab.0",Ba Fi)],c:=(Ch 12),m':=[],pre:=[] }
def Wp:List Rf:=[.e 0,.e 1,.e 2,.e 3,.e 4,.e 5,.e 6,.e 7,.e 8,.e 9,.e 10,.e 11]
def eF:List En:=[⟨12,.outI "compare.0" KW,Wp⟩,
 ⟨13,.outI "compare.1" Kc,Wp⟩]
def WT:List En:=eF
def wr:List ObE:=[]
def cG:List Rf:=[.e 12]
theorem wu:IJ.sees cG (IJ.run Try.prog [(73,LI)] Ab 3000 20 72)=some ((WT).map En.be,wr.map ObE.be,[]):=by kernel_rfl
theorem YI:AW Try.prog 72 IJ:=by
 refine An (l:=[(73,LI)]) A8 (by simp only[ABT];exact⟨mi,fun _ h=>absurd h (by simp)⟩) wu (by kernel_rfl) fun T us C b a q k o=>?_;change us.length=12 at a;obtain⟨d,-,-,-,-,-,e,-⟩:=k;replace d:(S T 0).size<=140737488355328:=d;replace e:(S T 6).size<=140737488355328:=e;have r:=inS (j:=0) b a (by decide);have s:=inI (j:=1) b a (by decide);have v:=inI (j:=3) b a (by decide);have w:=inI (j:=4) b a (by decide);have x:=inI (j:=5) b a (by decide);have y:=inS (j:=6) b a (by decide);have z:=inI (j:=7) b a (by decide);have A:=inI (j:=9) b a (by decide);have t:=inI (j:=10) b a (by decide);have u:=inI (j:=11) b a (by decide);clear C
 skip
 obtain⟨g,p⟩:=Ao (R:=[.i]) (ai:=cG) q (by kernel_rfl) o;have i:=g;have D:I T 12=(plN (I T 1) (I T 3) (I T 4) (I T 5) (S T 0) (I T 7) (I T 9) (I T 10) (I T 11) (S T 6)):=by
  obtain⟨c,-⟩:=i;replace c:I T 12=(plN (I T 1) (I T 3) (I T 4) (I T 5) (S T 0) (I T 7) (I T 9) (I T 10) (I T 11) (S T 6)):=c;grind (splits:=100)
 refine⟨trivial,p.trans ?_⟩;exact (lc (by show U.int (I T 12)= .int (Fi us);unfold Fi;rw[r,s,t,u,v,w,x,y,z,A];exact ACF U.int D) rfl)
def M5:List U->U':=fun us=>(AQ ltT (aL us 0) (aI us 2).toNat (aI us 3).toNat)
def J7:List U->Prop:=fun us=>((aL us 0)).length=(aI us 1)/\0<=(aI us 2)/\(aI us 2)<=(aI us 3)/\(aI us 3)<=(aI us 1)
def Hm:AU:={ sh:=[.one (k64),.one (k64),.cst (.fn (.func 72) [] [])],blks:=[],outs:=[(.s "insS.0",CI M5)],c:= .tup [],m':=[.mrow 4 1 [.str,k64,k64,k64,k64,k64] 61],pre:=[(.s "insS.p0",J7)],row:=some ([.str,k64,k64,k64,k64,k64],61) }
def wV:List Rf:=[.e 15,.e 16,.e 17,.e 18,.e 19,.e 20,.e 24,.e 25,.e 26,.e 27,.e 28,.e 29]
abbrev ACn (T:Tab)(a:Int)(b:U'):Prop:=I T 2<=a/\a<=I T 5/\(B T 7=true->(b).length=I T 1/\(∀u∈b,AL AB KS u)/\b=CY ((L T 6).take (I T 2).toNat) ((((L T 6).take (I T 5).toNat).drop (I T 2).toNat).reverse) ((L T 6).drop ((I T 5).toNat+1)) ((L T 6).getD (I T 5).toNat []) (I T 5 - a).toNat/\∀q:Nat,(q:Int) < I T 5 - a->ltT ((L T 6).getD (I T 5).toNat []) (((((L T 6).take (I T 5).toNat).drop (I T 2).toNat).reverse).getD q [])=true)
abbrev ACr (T:Tab)(a:Int)(b:U'):Prop:=I T 2+1<=a/\(a<=I T 3\/a=I T 2+1)/\(b).length=I T 1/\(∀u∈b,AL AB KS u)/\b=AQ ltT (L T 0) (I T 2).toNat a.toNat
def oN:List En:=[⟨4,.w2 .i64 .add,[.e 2,.c (.int 1)]⟩]
def IH:List En:=oN
def fO:List En:=[AC7 7 5 3,
 ADA 8 7]
def G7:List En:=fO
def kE:List En:=[AC7 11 2 9,
 AC4 12 7 11,
 AC4 13 7 11,
 AC4 14 7 11,
 ADL 15 10 9,
 AC8 16 10 9,
 AC9 17 10 9,
 ADQ 18 10 9,
 ADP 19 10 9,
 ADR 20 10 9,
 AC4 21 7 11,
 AC4 22 7 11,
 ⟨23,.w2 .i64 .sub,[.e 9,.c (.int 1)]⟩,
 ADL 24 10 23,
 AC8 25 10 23,
 AC9 26 10 23]
def od:List En:=[ADQ 27 10 23,
 ADP 28 10 23,
 ADR 29 10 23,
 ⟨30,.outI "cmpTab.0" Fi,wV⟩,
 ⟨31,.lt,[.e 30,.c (.int 0)]⟩,
 AC4 32 11 31,
 AC4 33 7 32,
 AC5 34 7 32,
 ⟨35,.w2 .i64 .sub,[.e 9,.c (.int 1)]⟩,
 ⟨36,.w2 .i64 .sub,[.e 9,.c (.int 1)]⟩,
 ADL 37 10 36,
 AC8 38 10 36,
 AC9 39 10 36,
 ADQ 40 10 36,
 ADP 41 10 36,
 ADR 42 10 36]
def oP:List En:=[ADL 43 10 9,
 AC8 44 10 9,
 AC9 45 10 9,
 ADQ 46 10 9,
 ADP 47 10 9,
 ADR 48 10 9,
 ⟨49,.rset 0 [.s,.i,.i,.i,.i,.i],[.e 10,.e 9,.e 37,.e 38,.e 39,.e 40,.e 41,.e 42]⟩,
 ⟨50,.rset 0 [.s,.i,.i,.i,.i,.i],[.e 49,.e 35,.e 43,.e 44,.e 45,.e 46,.e 47,.e 48]⟩,
 ⟨51,.w2 .i64 .sub,[.e 9,.c (.int 1)]⟩]
def FI:List En:=kE++(od++(oP))
def bH:List ObE:=[⟨some 33,.inr,[.e 35,.e 1]⟩,⟨some 33,.inr,[.e 9,.e 1]⟩,⟨some 33,.inr,[.e 9,.e 1]⟩,⟨some 33,.inr,[.e 36,.e 1]⟩,⟨some 22,.inr,[.e 23,.e 1]⟩,⟨some 14,.inr,[.e 9,.e 1]⟩]
def NM:Aa:=mkD 9 2 FI 33 [.e 51,.e 50] bH [7,2,1]
def Qq:List Rf:=[.e 7,.e 2,.e 1,.e 5,.e 6]
def cQ:List En:=[⟨52,.w2 .i64 .add,[.e 5,.c (.int 1)]⟩]
def Lm:List En:=cQ
def KR:List En:=G7++((Ad NM [.i,.l] Qq)++(FI++(Lm)))
def fY:List ObE:=[⟨some 7,.owes NM,[.e 7,.e 2,.e 1,.e 5,.e 6]⟩]
def Ps:Aa:=mkD 5 2 KR 34 [.e 52,.e 10] fY [2,1,3]
def VD:List Rf:=[.e 2,.e 1,.e 3,.e 4,.e 0]
def ue:List En:=[]
def AAU:List ObE:=[⟨none,.owes Ps,[.e 2,.e 1,.e 3,.e 4,.e 0]⟩]
def rH:List Rf:=[.e 6]
end
end Go.Eng
end
