/-
  A part of the proof: the evaluator of code and its soundness.
-/
import Derived.Test.YtikbgnmcfncnaaaE4
import Derived.Test.YtikbgnmcfncnaaaE5
import Derived.Test.YtikbgnmcfncnaaaKB4
import Derived.Test.YtikbgnmcfncnaaaKB0
import Derived.WalkKit
import Derived.Lib.Strings
import Derived.Lib.Walk
import Derived.Lib.Bytealg
set_option linter.unusedVariables false
set_option linter.unusedSimpArgs false
noncomputable section
namespace Go.Eng
section
open Go Go.Eng Go.Proofs
set_option maxHeartbeats 4000000
set_option maxRecDepth 100000
def L4:List U->ByteArray:=fun us=>(if Ba (aS us 0) (aI us 1) (aI us 2) (aS us 3) (aI us 4) (aI us 5)=0 then (aS us 0) else (⟨#[]⟩:ByteArray))
def MS:List U->Int:=fun us=>(if Ba (aS us 0) (aI us 1) (aI us 2) (aS us 3) (aI us 4) (aI us 5)=0 then Bz (aI us 1) (B5 (aI us 1) (aI us 4) (aB us 6)) else 0)
def MI:List U->Int:=fun us=>(if Ba (aS us 0) (aI us 1) (aI us 2) (aS us 3) (aI us 4) (aI us 5)=0 then GG (Bz (aI us 1) (B5 (aI us 1) (aI us 4) (aB us 6))) (aI us 2) else 0)
def Mc:List U->ByteArray:=fun us=>(if Ba (aS us 0) (aI us 1) (aI us 2) (aS us 3) (aI us 4) (aI us 5)=0 then (aS us 3) else (⟨#[]⟩:ByteArray))
def MR:List U->Int:=fun us=>(if Ba (aS us 0) (aI us 1) (aI us 2) (aS us 3) (aI us 4) (aI us 5)=0 then Bz (aI us 4) (-(B5 (aI us 1) (aI us 4) (aB us 6))) else 0)
def L2:List U->Int:=fun us=>(if Ba (aS us 0) (aI us 1) (aI us 2) (aS us 3) (aI us 4) (aI us 5)=0 then GG (Bz (aI us 4) (-(B5 (aI us 1) (aI us 4) (aB us 6)))) (aI us 5) else 0)
def MZ:List U->Int:=fun us=>(Ba (aS us 0) (aI us 1) (aI us 2) (aS us 3) (aI us 4) (aI us 5))
def M9:AZ:={ sh:=[.agg [.str,k64,k64],.agg [.str,k64,k64],.one (.bool)],blks:=[],outs:=[(.s "Count.0",gX L4),(.s "Count.1",Bm MS),(.s "Count.2",Bm MI),(.s "Count.3",gX Mc),(.s "Count.4",Bm MR),(.s "Count.5",Bm L2),(.s "Count.6",Bm MZ)],c:= .tup [.agg [.s 7,(DK 8),(DK 9)],.agg [.s 10,(DK 11),(DK 12)],(DK 13)],m':=[],pre:=[] }
def ax:List En:=[⟨7,.outI "pair.0" Oa,[.e 0,.e 1,.e 2,.e 3,.e 4,.e 5]⟩,
 ⟨8,.ne,[.e 7,.c (.int 0)]⟩,
 vQ 9 8,
 ⟨10,.outI "gain.0" O3,[.e 1,.e 4,.e 6]⟩,
 ⟨11,.outI "move.0" Lc,[.e 10,.e 0,.e 1,.e 2]⟩,
 ⟨12,.outI "move.1" LB,[.e 10,.e 0,.e 1,.e 2]⟩,
 ⟨13,.wneg .i64,[.e 10]⟩,
 ⟨14,.outI "move.0" Lc,[.e 13,.e 3,.e 4,.e 5]⟩,
 ⟨15,.outI "move.1" LB,[.e 13,.e 3,.e 4,.e 5]⟩,
 ve 16 8 1 11,
 ve 17 8 2 12,
 ve 18 8 4 14,
 ve 19 8 5 15,
 ⟨20,.ite .s,[.e 8,.c (.str ⟨#[]⟩),.e 0]⟩,
 ⟨21,.ite .i,[.e 8,.c (.int 0),.e 11]⟩,
 ⟨22,.ite .i,[.e 8,.c (.int 0),.e 12]⟩]
def bW:List En:=[⟨23,.ite .s,[.e 8,.c (.str ⟨#[]⟩),.e 3]⟩,
 ⟨24,.ite .i,[.e 8,.c (.int 0),.e 14]⟩,
 ⟨25,.ite .i,[.e 8,.c (.int 0),.e 15]⟩,
 ⟨26,.ite .i,[.e 8,.e 7,.c (.int 0)]⟩,
 vN 27 8 9]
def WW:List En:=ax++(bW)
def qi:List ObE:=[⟨some 9,.pre "move.p0" IY,[.e 13,.e 3,.e 4,.e 5]⟩,
 ⟨some 9,.pre "move.p0" IY,[.e 10,.e 0,.e 1,.e 2]⟩,
 ⟨some 9,.pre "gain.p0" LM,[.e 1,.e 4,.e 6]⟩]
def dJ:List Rf:=[.e 20,.e 21,.e 22,.e 23,.e 24,.e 25,.e 26]
theorem pv:M9.sees dJ (M9.run Try.prog [(57,QP),(60,M3),(98,Jb)] Aa 3000 20 16)=some ((WW).map En.be,qi.map ObE.be,[]):=by kernel_rfl
abbrev xx(T:Tab):Prop:=(S T 0).size<=140737488355328
variable{T:Tab}
theorem pt (J:xx T)(K:(S T 3).size<=140737488355328)(r:AF T WW):
  ((S T 20)=(if Ba (S T 0) (I T 1) (I T 2) (S T 3) (I T 4) (I T 5)=0 then (S T 0) else (⟨#[]⟩:ByteArray)))/\
  ((I T 21)=(if Ba (S T 0) (I T 1) (I T 2) (S T 3) (I T 4) (I T 5)=0 then Bz (I T 1) (B5 (I T 1) (I T 4) (B T 6)) else 0))/\
  ((I T 22)=(if Ba (S T 0) (I T 1) (I T 2) (S T 3) (I T 4) (I T 5)=0 then GG (Bz (I T 1) (B5 (I T 1) (I T 4) (B T 6))) (I T 2) else 0))/\
  ((S T 23)=(if Ba (S T 0) (I T 1) (I T 2) (S T 3) (I T 4) (I T 5)=0 then (S T 3) else (⟨#[]⟩:ByteArray)))/\
  ((I T 24)=(if Ba (S T 0) (I T 1) (I T 2) (S T 3) (I T 4) (I T 5)=0 then Bz (I T 4) (-(B5 (I T 1) (I T 4) (B T 6))) else 0))/\
  ((I T 25)=(if Ba (S T 0) (I T 1) (I T 2) (S T 3) (I T 4) (I T 5)=0 then GG (Bz (I T 4) (-(B5 (I T 1) (I T 4) (B T 6)))) (I T 5) else 0))/\
  ((I T 26)=(Ba (S T 0) (I T 1) (I T 2) (S T 3) (I T 4) (I T 5)))/\
  (B T 9=true-> -10000<=I T 4/\I T 4<=10000/\ -12<=I T 5/\I T 5<=48/\ -100<=I T 13/\I T 13<=100)/\
  (B T 9=true-> -10000<=I T 1/\I T 1<=10000/\ -12<=I T 2/\I T 2<=48/\ -100<=I T 10/\I T 10<=100)/\
  (B T 9=true-> -10000<=I T 1/\I T 1<=10000/\ -10000<=I T 4/\I T 4<=10000):=by
 obtain⟨g,r⟩:=r.cut;have s:=r;clear r;refine⟨?_,?_,?_,?_,?_,?_,?_,?_,?_,?_⟩
 .obtain⟨b,c,-,-,-,-,-,-,-,-,-,-,-,y,-⟩:=g;replace b:I T 7=(Ba (S T 0) (I T 1) (I T 2) (S T 3) (I T 4) (I T 5)):=b;simp only[AE,AI,zR,zL,zS] at c y;by_cases h:(I T 7)=0
  .have e:¬B T 8=true:=fun a=>(c.1 a) h;rw[y,vA e,<-b,vC h]
  .rw[y,vC (c.2 h),<-b,vA h]
 .obtain⟨b,c,-,d,u,-,-,-,-,-,-,-,-,-,z,-⟩:=g;replace b:I T 7=(Ba (S T 0) (I T 1) (I T 2) (S T 3) (I T 4) (I T 5)):=b;replace d:I T 10=(B5 (I T 1) (I T 4) (B T 6)):=d;replace u:I T 11=(Bz (I T 1) (I T 10)):=u;simp only[AE,AI,zR,zL,zS] at c z;by_cases h:(I T 7)=0
  .have e:¬B T 8=true:=fun a=>(c.1 a) h;rw[z,vA e,<-b,vC h];rw[u,d]
  .rw[z,vC (c.2 h),<-b,vA h]
 .obtain⟨b,c,-,d,-,v,-,-,-,-,-,-,-,-,-,A,-⟩:=g;replace b:I T 7=(Ba (S T 0) (I T 1) (I T 2) (S T 3) (I T 4) (I T 5)):=b;replace d:I T 10=(B5 (I T 1) (I T 4) (B T 6)):=d;replace v:I T 12=(GG (Bz (I T 1) (I T 10)) (I T 2)):=v;simp only[AE,AI,zR,zL,zS] at c A;by_cases h:(I T 7)=0
  .have e:¬B T 8=true:=fun a=>(c.1 a) h;rw[A,vA e,<-b,vC h];rw[v,d]
  .rw[A,vC (c.2 h),<-b,vA h]
 .obtain⟨b,c,-⟩:=g;obtain⟨C,-⟩:=s;replace b:I T 7=(Ba (S T 0) (I T 1) (I T 2) (S T 3) (I T 4) (I T 5)):=b;simp only[AE,AI,zR,zL,zS] at c C;by_cases h:(I T 7)=0
  .have e:¬B T 8=true:=fun a=>(c.1 a) h;rw[C,vA e,<-b,vC h]
  .rw[C,vC (c.2 h),<-b,vA h]
 .obtain⟨b,c,-,d,-,-,i,w,-⟩:=g;obtain⟨-,D,-⟩:=s;replace b:I T 7=(Ba (S T 0) (I T 1) (I T 2) (S T 3) (I T 4) (I T 5)):=b;replace d:I T 10=(B5 (I T 1) (I T 4) (B T 6)):=d;replace w:I T 14=(Bz (I T 4) (I T 13)):=w;simp only[AE,AI,zR,w2P,wnP,zL,zS] at c i D;by_cases h:(I T 7)=0
  .have e:¬B T 8=true:=fun a=>(c.1 a) h;rw[D,vA e,<-b,vC h];have k:=N8 (I T 1) (I T 4) (B T 6);rw[<-d] at k;have t:=i.1 (by omega) (by omega);rw[w,t,d]
  .rw[D,vC (c.2 h),<-b,vA h]
 .obtain⟨b,c,-,d,-,-,i,-,x,-⟩:=g;obtain⟨-,-,E,-⟩:=s;replace b:I T 7=(Ba (S T 0) (I T 1) (I T 2) (S T 3) (I T 4) (I T 5)):=b;replace d:I T 10=(B5 (I T 1) (I T 4) (B T 6)):=d;replace x:I T 15=(GG (Bz (I T 4) (I T 13)) (I T 5)):=x;simp only[AE,AI,zR,w2P,wnP,zL,zS] at c i E;by_cases h:(I T 7)=0
  .have e:¬B T 8=true:=fun a=>(c.1 a) h;rw[E,vA e,<-b,vC h];have k:=N8 (I T 1) (I T 4) (B T 6);rw[<-d] at k;have t:=i.1 (by omega) (by omega);rw[x,t,d]
  .rw[E,vC (c.2 h),<-b,vA h]
 .obtain⟨b,c,-⟩:=g;obtain⟨-,-,-,F,-⟩:=s;replace b:I T 7=(Ba (S T 0) (I T 1) (I T 2) (S T 3) (I T 4) (I T 5)):=b;simp only[AE,AI,zR,zL,zS] at c F;rw[F,<-b];split
  .rfl
  .rename_i e;by_cases h:(I T 7)=0
   .exact h.symm
   .exact absurd (c.2 h) e
 .obtain⟨b,c,j,d,-,-,i,-⟩:=g;replace b:I T 7=(Ba (S T 0) (I T 1) (I T 2) (S T 3) (I T 4) (I T 5)):=b;replace d:I T 10=(B5 (I T 1) (I T 4) (B T 6)):=d;simp only[AE,AI,zR,w2P,wnP] at c j i;intro o;have l:(I T 7)=0:=by
   by_cases h:(I T 7)=0
   .exact h
   .exact absurd (c.2 h) (j.1 o)
  obtain⟨p,q,H⟩:=SJ (b.symm.trans l);rw[I9] at p q;have k:=N8 (I T 1) (I T 4) (B T 6);rw[<-d] at k;have t:=i.1 (by omega) (by omega);omega
 .obtain⟨b,c,j,d,-⟩:=g;replace b:I T 7=(Ba (S T 0) (I T 1) (I T 2) (S T 3) (I T 4) (I T 5)):=b;replace d:I T 10=(B5 (I T 1) (I T 4) (B T 6)):=d;simp only[AE,AI,zR] at c j;intro o;have l:(I T 7)=0:=by
   by_cases h:(I T 7)=0
   .exact h
   .exact absurd (c.2 h) (j.1 o)
  obtain⟨p,q,H⟩:=SJ (b.symm.trans l);rw[I9] at p q;have k:=N8 (I T 1) (I T 4) (B T 6);rw[<-d] at k;omega
 .obtain⟨b,c,j,-⟩:=g;replace b:I T 7=(Ba (S T 0) (I T 1) (I T 2) (S T 3) (I T 4) (I T 5)):=b;simp only[AE,AI,zR] at c j;intro o;have l:(I T 7)=0:=by
   by_cases h:(I T 7)=0
   .exact h
   .exact absurd (c.2 h) (j.1 o)
  obtain⟨p,q,H⟩:=SJ (b.symm.trans l);rw[I9] at p q;omega
theorem nW:Ae Try.prog 16 M9:=by
 refine Aq (l:=[(57,QP),(60,M3),(98,Jb)]) BU (by simp only[uA];exact⟨qG,qy,qm,fun _ h=>absurd h (by simp)⟩) pv (by kernel_rfl) fun T us v b a u r s=>?_;change us.length=7 at a;obtain⟨o,-,-,p,-⟩:=r;replace o:(S T 0).size<=140737488355328:=o;replace p:(S T 3).size<=140737488355328:=p;have c:aS us 0=S T 0:=inS b a (by decide);have d:aI us 1=I T 1:=inI b a (by decide);have e:aI us 2=I T 2:=inI b a (by decide);have g:aS us 3=S T 3:=inS b a (by decide);have i:aI us 4=I T 4:=inI b a (by decide);have j:aI us 5=I T 5:=inI b a (by decide);have k:aB us 6=B T 6:=inB b a (by decide);clear v
 skip
 obtain⟨q,t⟩:=At (R:=[.s,.i,.i,.s,.i,.i,.i]) (rs:=dJ) u (by kernel_rfl) s;obtain⟨w,x,y,z,A,C,D,E,ax,aE⟩:=pt o p q;refine⟨⟨E,ax,aE,trivial⟩,t.trans ?_⟩;exact (lc (by show U.str (S T 20)= .str (L4 us);unfold L4;rw[c,d,e,g,i,j];exact vD U.str w) (lc (by show U.int (I T 21)= .int (MS us);unfold MS;rw[c,d,e,g,i,j,k];exact vD U.int x) (lc (by show U.int (I T 22)= .int (MI us);unfold MI;rw[c,d,e,g,i,j,k];exact vD U.int y) (lc (by show U.str (S T 23)= .str (Mc us);unfold Mc;rw[c,d,e,g,i,j];exact vD U.str z) (lc (by show U.int (I T 24)= .int (MR us);unfold MR;rw[c,d,e,g,i,j,k];exact vD U.int A) (lc (by show U.int (I T 25)= .int (L2 us);unfold L2;rw[c,d,e,g,i,j,k];exact vD U.int C) (lc (by show U.int (I T 26)= .int (MZ us);unfold MZ;rw[c,d,e,g,i,j];exact vD U.int D) rfl)))))))
def PE:List U->Int:=fun us=>(Br (aL us 0))
def La:AZ:={ sh:=[.one (.list [.str,k64,k64])],blks:=[],outs:=[(.s "checkP.0",Bm PE)],c:=(DK 1),m':=[],pre:=[] }
def aM:List En:=[vT 1 0,
 ⟨2,.lt,[.c (.int 24),.e 1]⟩,
 vQ 3 2,
 ⟨4,.id .l,[.c (.list [])]⟩,
 vT 5 0]
def Jx:List En:=aM
def XH:List En:=[vO 8 6 5,
 vK 9 3 8,
 vM 10 3 8,
 vm 11 0 6,
 vP 12 0 6,
 vR 13 0 6,
 ⟨14,.outB "vplayer.0" FN,[.e 11,.e 12,.e 13]⟩,
 vK 15 9 14,
 vM 16 9 14,
 ⟨17,.mset 1 [.s,.b],[.e 7,.e 11,.c (.bool true)]⟩,
 ⟨18,.w2 .i64 .add,[.e 6,.c (.int 1)]⟩]
def FE:List En:=XH
def Su:List ObE:=[⟨some 15,.fits 1,[.e 7,.c (.list [[]])]⟩,⟨some 9,.inl,[.e 6,.e 0]⟩]
def Jz:Ac:=mkD 6 2 FE 15 [.e 18,.e 17] Su [0,3,5]
def Oe:List Rf:=[.e 0,.e 3,.e 5,.c (.int 0),.e 4]
def aO:List En:=[vT 19 7,
 vT 20 0,
 vO 21 19 20,
 vK 22 10 21,
 vM 23 10 21,
 ⟨24,.ite .i,[.e 22,.c (.int 12),.c (.int 0)]⟩,
 vN 25 22 23,
 ⟨26,.ite .i,[.e 16,.c (.int 2),.e 24]⟩,
 vN 27 16 25,
 ⟨28,.ite .i,[.e 2,.c (.int 6),.e 26]⟩,
 vN 29 2 27]
def Se:List En:=aO
def ot:List ObE:=[⟨some 3,.owes Jz,[.e 0,.e 3,.e 5,.c (.int 0),.e 4]⟩]
def XR:List Rf:=[.e 28]
theorem mK:La.sees XR (La.run Try.prog [(82,Fc)] Aa 3000 20 41)=some ((Jx++((Ag Jz [.i,.l] Oe)++(FE++(Se)))).map En.be,ot.map ObE.be,[]):=by kernel_rfl
abbrev xy(T:Tab):Prop:=(L T 0).length<=140737488355328
theorem bo (i:xy T)(h:∀u∈(L T 0),AK AD KP u)(a:AF T Jx):
  ((I T 5)=((L T 0)).length)/\((L T 4)=[]):=by
 have b:=a;clear a;have g:(I T 5)=((L T 0)).length:=by
  obtain⟨-,-,-,-,d,-⟩:=b;simp only[AE,zR,zL] at d;exact d
 have e:(L T 4)=[]:=by
  obtain⟨-,-,-,c,-⟩:=b;simp only[AE,zR,zL,zS] at c;exact c
 exact⟨g,e⟩
abbrev wB(T:Tab)(a:Int)(b:List (List U)):Prop:=0<=a/\a <=((L T 0)).length/\(((L T 0)).take a.toNat).all HV=true/\b=EW (((L T 0)).take a.toNat)
theorem eK (ag:xy T)(h5:(I T 5)=((L T 0)).length)(Q:(L T 4)=[])(C:AJ T (AM (Ak 0 La.ks) Jx))(x:AU T (FE.map En.be))(z:AU T ((Ag Jz [.i,.l] Oe).map En.be)):
  (Jz).owes (Oe.map (Rf.eval T))/\AJ T (hds 6 [.i,.l])/\(wB T (I T 6) (L T 7))/\¬B T 15=true:=by
 refine Ax (nh:=6) (k:=2) (pcn:=15) (aO:=19) (y:=FE) (J:=Su) (nxt:=[.e 18,.e 17]) (H:=[.c (.int 0),.e 4]) (fv:=[0,3,5]) (R:=[.i,.l]) (by kernel_rfl) rfl rfl rfl rfl C (by kernel_rfl) (by kernel_rfl) x (Ai z) (fun s=>wB T (aI s 0) (aL s 1)) (fun s=>(((L T 0)).length - (aI s 0)).toNat) ?_ ?_
 .show wB T (0:Int) (L T 4);clear C x z;exact⟨by omega,by omega,by simp,by rw[show (0:Int).toNat=0 from rfl,List.take_zero];exact Q⟩
 .intro A r q g;replace g:wB T (I A 6) (L A 7):=g;clear C x z;replace q:AF A FE:=q;have j:=q;clear q;have M:L A 0=L T 0:=fvL (r 0 (by decide));have ab:B A 3=B T 3:=fvB (r 3 (by decide));have p:I A 5=I T 5:=fvI (r 5 (by decide));clear r
  suffices W:(B A 15=true->(((L A 7)).length+(([[]]:List (List U))).length)*1<=140737488355328)/\(B A 9=true->0<=I A 6/\I A 6 < ((L A 0)).length)/\(B A 15=true->(wB T (I A 18) (L A 17)))/\(B A 15=true->(((L T 0)).length - (I A 18)).toNat < (((L T 0)).length - (I A 6)).toNat) from
   let⟨Z,ax,Y,X⟩:=W;⟨⟨Z,ax,trivial⟩,fun c=>⟨Y c,X c⟩⟩
  refine⟨?_,?_,?_,?_⟩
  .obtain⟨a,b,-,-,-,-,-,d,-⟩:=j;simp only[AE,AI,zR] at a b d;obtain⟨D,E,t,i⟩:=g;intro c;have e:=a.1 (b.1 (d.1 c).1).2;rw[p] at e;have V:=dU (l:=((L T 0)).take (I A 6).toNat);rw[<-i,uX] at V;show (((L A 7)).length+1)*1<=_;omega
  .obtain⟨a,b,-⟩:=j;simp only[AE,AI,zR] at a b;obtain⟨D,E,t,i⟩:=g;intro c;have e:=a.1 (b.1 c).2;rw[p] at e;rw[M];omega
  .obtain⟨a,b,-,o,u,v,w,d,-,K,h,-⟩:=j;replace w:B A 14=(Dm (S A 11) (I A 12) (I A 13)):=w;simp only[AE,AI,zC,zR,w2P,zL,zS,uR,zW] at a b o u v d K h;obtain⟨D,E,t,i⟩:=g;intro c;have O:=d.1 c;have e:=a.1 (b.1 O.1).2;rw[p] at e;have F:=h (by omega) (by omega);have P:(I A 6).toNat < ((L T 0)).length:=by omega
   rw[M] at o u v;refine⟨by omega,by omega,?_,?_⟩
   .rw[F,show ((I A 6)+1).toNat=(I A 6).toNat+1 by omega,Co P,R2];refine⟨t,?_⟩;have N:=O.2;rw[w,o,u,v] at N;exact N
   .rw[F,show ((I A 6)+1).toNat=(I A 6).toNat+1 by omega,Co P,bS,<-i,K,o];rfl
  .obtain⟨a,b,-,-,-,-,-,d,-,-,h,-⟩:=j;simp only[AE,AI,zR,w2P] at a b d h;obtain⟨D,E,t,i⟩:=g;intro c;have e:=a.1 (b.1 (d.1 c).1).2;rw[p] at e;have F:=h (by omega) (by omega);omega
theorem ld (a1:xy T)(a0:∀u∈(L T 0),AK AD KP u)(h5:(I T 5)=((L T 0)).length)(h4:(L T 4)=[])(ab:wB T (I T 6) (L T 7))(ag:¬B T 15=true)(r:AF T Jx)(t:AF T FE)(s:AF T Se):
  ((I T 28)=(Br (L T 0))):=by
 have N:=r;clear r;have P:=t;clear t;have Q:=s;clear s
 .obtain⟨b,g,E,-,V,-⟩:=N;obtain⟨k,l,v,w,x,y,c,z,d,-⟩:=P;obtain⟨e,h,i,j,-,A,-,C,-,D,-⟩:=Q;replace c:B T 14=(Dm (S T 11) (I T 12) (I T 13)):=c;simp only[AE,AI,zN,zR,zL,zS] at b g E V k l v w x y z d e h i j A C D;obtain⟨v1,v2,M,q⟩:=ab;unfold Br;rw[D];by_cases O:24 < ((L T 0)).length
  .rw[vC O,vC (g.2 (by rw[b];omega))]
  .have ay:¬B T 2=true:=fun a=>by have:=g.1 a;rw[b] at this;omega
   rw[vA O,vA ay,C];have F:=E.2 (by simpa using ay);by_cases H:(I T 6) < I T 5
   .have Y:=k.2 H;have J:=l.2 ⟨F,Y⟩;have p:¬B T 14=true:=fun a=>ag (z.2 ⟨J,a⟩);have Z:(I T 6).toNat < ((L T 0)).length:=by omega
    have a5:¬((L T 0)).all HV=true:=fun a=>by
     have:=uK.1 a _ (Az Z);rw[c,w,x,y] at p;exact p this
    rw[vC a5,vC (d.2 ⟨J,by simpa using p⟩)]
   .have K:¬B T 8=true:=fun a=>H (k.1 a);have X:=v.2 ⟨F,by simpa using K⟩;have ad:¬B T 16=true:=fun a=>K (l.1 (d.1 a).1).2;have W:(I T 6).toNat=((L T 0)).length:=by omega
    rw[W,uz] at M q;rw[vA ad,vA (fun a=>a M),A];by_cases o:(EW ((L T 0))).length < ((L T 0)).length
    .rw[vC o,vC (j.2 ⟨X,i.2 (by rw[e,h,q];omega)⟩)]
    .rw[vA o,vA (fun a=>o (by have:=i.1 (j.1 a).2;rw[e,h,q] at this;omega))]
theorem kU:Ae Try.prog 41 La:=by
 refine Aq (l:=[(82,Fc)]) BU (by simp only[uA];exact⟨UI,fun _ h=>absurd h (by simp)⟩) mK (by kernel_rfl) fun T us D z s d w a=>?_;change us.length=1 at s;obtain⟨⟨b,C⟩,-⟩:=w;replace b:(L T 0).length<=140737488355328:=b;have r:∀u∈(L T 0),AK AD KP u:=fun u E=>by
  obtain⟨i,Y⟩:=uH.1 E;exact C i u Y
 have A:aL us 0=L T 0:=inL z s (by decide);clear D;rw[ti,ti,ti] at a;have o:=a.left;replace a:=a.right;have p:=a.left;replace a:=a.right;have c:=a.left;replace a:=a.right;obtain⟨g,e⟩:=AN d (by kernel_rfl) o;obtain⟨k,j⟩:=bo b r g;obtain⟨J,q,F,H⟩:=eK b k j e c p;have x:=(AN (q.append e) (l:=FE) (by kernel_rfl) c);obtain⟨v,d⟩:=x;clear o c p e q;obtain⟨t,y⟩:=At (R:=[.i]) (rs:=XR) d (by kernel_rfl) a;have K:=ld b r k j F H g v t;refine⟨⟨(fun _=>J),trivial⟩,y.trans ?_⟩;exact (lc (by show U.int (I T 28)= .int (PE us);unfold PE;rw[A];exact vD U.int K) rfl)
end
section
open Go Go.Eng Go.Proofs
def RZ:List U->Int:=fun us=>(Br (aL us 0))
def Re:List U->Prop:=fun us=>Br (aL us 0)=0
def QR:AZ:={ sh:=La.sh,blks:=[],outs:=[(.s "checkPk.0",Bm RZ)],c:= .ci .i64 0,m':=[],pre:=[(.s "checkPk.p0",Re)] }
theorem fb:Ae Try.prog 41 QR:=WD kU rfl rfl rfl rfl rfl (fun _=>rfl) rfl rfl fun us b c=>by
 have a:=c _ (uT.2 rfl);replace a:Br (aL us 0)=0:=a;have b:us.length=1:=b
 match us,b,a with
 |[u],_,a=>exact⟨vD (fun z=>some (U.int z)) a,fun q d=>by cases d⟩
def RI:List U->Int:=fun us=>(AO (aL us 0))
def Q3:List U->Prop:=fun us=>AO (aL us 0)=0
def Pi:AZ:={ sh:=Dy.sh,blks:=[],outs:=[(.s "checkLk.0",Bm RI)],c:= .ci .i64 0,m':=[],pre:=[(.s "checkLk.p0",Q3)] }
theorem gq:Ae Try.prog 47 Pi:=WD Ly rfl rfl rfl rfl rfl (fun _=>rfl) rfl rfl fun us b c=>by
 have a:=c _ (uT.2 rfl);replace a:AO (aL us 0)=0:=a;have b:us.length=1:=b
 match us,b,a with
 |[u],_,a=>exact⟨vD (fun z=>some (U.int z)) a,fun q d=>by cases d⟩
end
section
open Go Go.Eng Go.Proofs
set_option maxHeartbeats 4000000
set_option maxRecDepth 100000
def HK:List U->Int:=fun us=>(BV (aI us 0) (aI us 1))
def P0:AZ:={ sh:=[.one (k64),.one (k64)],blks:=[],outs:=[(.s "cmpJ.0",Bm HK)],c:=(DK 2),m':=[],pre:=[] }
def fo:List En:=[vO 2 0 1,
 vQ 3 2,
 vO 4 1 0,
 vK 5 3 4,
 vM 6 3 4,
 ⟨7,.ite .i,[.e 5,.c (.int 1),.c (.int 0)]⟩,
 vN 8 5 6,
 ⟨9,.ite .i,[.e 2,.c (.int (-1)),.e 7]⟩,
 vN 10 2 8]
def Za:List En:=fo
def sO:List ObE:=[]
def kQ:List Rf:=[.e 9]
theorem rP:P0.sees kQ (P0.run Try.prog [] Aa 3000 20 124)=some ((Za).map En.be,sO.map ObE.be,[]):=by kernel_rfl
theorem s9 {T:Tab}(g:AF T Za):
  ((I T 9)=(BV (I T 0) (I T 1))):=by
 have k:=g;clear g
 .obtain⟨c,h,d,e,-,i,-,j,-⟩:=k;simp only[AE,AI,zR,zL,zS] at c h d e i j;unfold BV;rw[j,i];by_cases C:(I T 0) < I T 1
  .rw[vC (c.2 C),vC C]
  .have O:¬B T 2=true:=fun a=>C (c.1 a);rw[vA O,vA C];by_cases b:(I T 1) < I T 0
   .rw[vC (e.2 ⟨h.2 O,d.2 b⟩),vC b]
   .rw[vA (fun a=>b (d.1 (e.1 a).2)),vA b]
theorem qL:Ae Try.prog 124 P0:=by
 refine Aq (l:=[]) BU (by intro p h;exact absurd h (by simp)) rP (by kernel_rfl) fun T us o b a i d e=>?_;change us.length=2 at a;clear d;have j:aI us 0=I T 0:=inI b a (by decide);have k:aI us 1=I T 1:=inI b a (by decide);clear o
 skip
 obtain⟨c,g⟩:=At (R:=[.i]) (rs:=kQ) i (by kernel_rfl) e;have q:=s9 c;refine⟨trivial,g.trans ?_⟩;exact (lc (by show U.int (I T 9)= .int (HK us);unfold HK;rw[j,k];exact vD U.int q) rfl)
end
section
open Go Go.Eng Go.Proofs Go.RowKit Go.Lib
def OE:List U->Int:=fun us=>(Mm (aS us 0) (aS us 1))
def SU:AZ:={ sh:=[.one (.str),.one (.str)],blks:=[],outs:=[(.s "strcmp.0",Bm OE)],c:=(.i .i64 (-1) 1 2),m':=[],pre:=[] }
set_option maxHeartbeats 1000000 in
set_option maxRecDepth 100000 in
theorem ko (a b:ByteArray)(w:World):
  Calls Try.prog 141 #[.string a,.string b] w fun e Z=>e= .returned (.int .i64 (Lib.compareBytes a.data.toList b.data.toList))/\Z=w:=by
 go_enter Try.func141,Try.ntmps141
 go_wp2
 rw[run_callFunc_extern Try.func147 (by kernel_rfl) (by kernel_rfl) (by kernel_rfl) (e:=Extern.BytealgCompare.compare) (by kernel_rfl),Lib.run_compareString];simp only[Result.andThen];rw[Oper.upon_value]
 go_wp2
 go_ret
 exact⟨rfl,rfl⟩
set_option maxHeartbeats 1000000 in
theorem Yl (a b:ByteArray)(w:World):
  Calls Try.prog 129 #[.string a,.string b] w fun e Z=>e= .returned (.int .i64 (Lib.compareBytes a.data.toList b.data.toList))/\Z=w:=by
 go_enter Try.func129,Try.ntmps129
 go_wp2_with (go_at_call 141;refine (ko _ _ _).mono ?_;rintro e Z ⟨rfl,rfl⟩)
 go_ret
 exact⟨rfl,rfl⟩
theorem lQ:Ae Try.prog 129 SU:=by
 refine S8 rfl rfl ⟨Try.f129,Try.func129,by kernel_rfl,by kernel_rfl⟩ fun T us k c p V w W o=>?_;obtain⟨v,x,rfl,⟨_,s,aa,rfl,q⟩,t,y,rfl,⟨_,b,l,rfl,r⟩,rfl⟩:=o;have d:us.length=2:=k;refine (Yl s b w).mono fun e Z ⟨C,O⟩=>⟨_,C,by rw[O];exact Below.refl _ _,show 2 < 3 by decide,Mm s b,?_,rfl,?_⟩
 .have g:aS us 0=s:=inS (T:=T) (us:=us) (n:=2) (j:=0) (fun j u a=>c j u (by unfold AZ.us;rw[tv (tc.1 a).1];exact a)) d (by decide) |>.trans (by unfold S;rw[show T.get 0= .str s from aa];rfl)
  have h:aS us 1=b:=inS (T:=T) (us:=us) (n:=2) (j:=1) (fun j u a=>c j u (by unfold AZ.us;rw[tv (tc.1 a).1];exact a)) d (by decide) |>.trans (by unfold S;rw[show T.get 1= .str b from l];rfl)
  have i:=c 2 (Bm OE us) (by unfold AZ.us;rw[tw (by omega),d];rfl);rw[i];show U.int (Mm (aS us 0) (aS us 1))=_;rw[g,h]
 .exact rF s b
end
section
open Go Go.Eng Go.Proofs
set_option maxHeartbeats 4000000
set_option maxRecDepth 100000
def JG:List U->Int:=fun us=>(plN (aI us 1) (aI us 3) (aI us 4) (aI us 5) (aS us 0) (aI us 7) (aI us 9) (aI us 10) (aI us 11) (aS us 6))
def I7:List U->Int:=fun us=>(plR (aI us 1) (aI us 3) (aI us 4) (aI us 5) (aS us 0) (aI us 7) (aI us 9) (aI us 10) (aI us 11) (aS us 6))
def Jk:AZ:={ sh:=[.agg [.str,k64,k64,k64,k64,k64],.agg [.str,k64,k64,k64,k64,k64]],blks:=[],outs:=[(.s "compare.0",Bm JG),(.s "compare.1",Bm I7)],c:= .tup [(DK 12),(DK 13)],m':=[],pre:=[] }
def Wg:List En:=[⟨12,.eqs [.s,.i,.i,.i,.i,.i],[.e 0,.e 6,.e 1,.e 7,.e 2,.e 8,.e 3,.e 9,.e 4,.e 10,.e 5,.e 11]⟩,
 vQ 13 12,
 ⟨14,.outI "cmpJ.0" HK,[.e 7,.e 1]⟩,
 ⟨15,.ne,[.e 14,.c (.int 0)]⟩,
 vK 16 13 15,
 vM 17 13 15,
 ⟨18,.outI "cmpJ.0" HK,[.e 9,.e 3]⟩,
 ⟨19,.ne,[.e 18,.c (.int 0)]⟩,
 vK 20 17 19,
 vM 21 17 19,
 ⟨22,.outI "cmpJ.0" HK,[.e 10,.e 4]⟩,
 ⟨23,.ne,[.e 22,.c (.int 0)]⟩,
 vK 24 21 23,
 vM 25 21 23,
 ⟨26,.outI "cmpJ.0" HK,[.e 11,.e 5]⟩,
 ⟨27,.ne,[.e 26,.c (.int 0)]⟩]
def Wh:List En:=[vK 28 25 27,
 vM 29 25 27,
 ⟨30,.outI "strcmp.0" OE,[.e 0,.e 6]⟩,
 ⟨31,.ne,[.e 30,.c (.int 0)]⟩,
 vK 32 29 31,
 vM 33 29 31,
 ⟨34,.ite .i,[.e 32,.c (.int 5),.c (.int 0)]⟩,
 ⟨35,.ite .i,[.e 32,.c (.int 4),.c (.int 5)]⟩,
 ⟨36,.ite .b,[.e 32,.c (.bool true),.c (.bool false)]⟩,
 vN 37 32 33,
 ⟨38,.ite .i,[.e 28,.c (.int 4),.e 34]⟩,
 vn 39 28 27 31,
 ⟨40,.ite .i,[.e 28,.c (.int 3),.e 35]⟩,
 ve 41 28 26 30,
 ⟨42,.ite .b,[.e 28,.c (.bool true),.e 36]⟩,
 vN 43 28 37]
def Wy:List En:=[⟨44,.ite .i,[.e 24,.c (.int 3),.e 38]⟩,
 vn 45 24 23 39,
 vh 46 24,
 ⟨47,.ite .i,[.e 24,.c (.int 2),.e 40]⟩,
 ve 48 24 22 41,
 ⟨49,.ite .b,[.e 24,.c (.bool true),.e 42]⟩,
 vN 50 24 43,
 ⟨51,.ite .i,[.e 20,.c (.int 2),.e 44]⟩,
 vn 52 20 19 45,
 vh 53 20,
 ⟨54,.ite .i,[.e 20,.c (.int 1),.e 47]⟩,
 ve 55 20 18 48,
 ⟨56,.ite .b,[.e 20,.c (.bool true),.e 49]⟩,
 vN 57 20 50,
 ⟨58,.ite .i,[.e 16,.c (.int 1),.e 51]⟩,
 vn 59 16 15 52]
def Wr:List En:=[vh 60 16,
 ⟨61,.ite .i,[.e 16,.c (.int 0),.e 54]⟩,
 ve 62 16 14 55,
 ⟨63,.ite .b,[.e 16,.c (.bool true),.e 56]⟩,
 vN 64 16 57,
 ⟨65,.ite .i,[.e 12,.c (.int 0),.e 58]⟩,
 ⟨66,.ite .i,[.e 12,.c (.int 0),.e 58]⟩,
 ⟨67,.ite .i,[.e 12,.c (.int 0),.e 62]⟩,
 ⟨68,.ite .i,[.e 12,.c (.int 0),.e 62]⟩,
 vN 69 12 64]
def Q5:List En:=Wg++(Wh++(Wy++(Wr)))
def kG:List ObE:=[]
def WP:List Rf:=[.e 67,.e 66]
theorem jl:Jk.sees WP (Jk.run Try.prog [(124,P0),(129,SU)] Aa 3000 20 73)=some ((Q5).map En.be,kG.map ObE.be,[]):=by kernel_rfl
variable{T:Tab}
theorem jg (bt:xx T)(bx:(S T 6).size<=140737488355328)(o:AF T Q5):
  ((I T 67)=(plN (I T 1) (I T 3) (I T 4) (I T 5) (S T 0) (I T 7) (I T 9) (I T 10) (I T 11) (S T 6)))/\
  ((I T 66)=(plR (I T 1) (I T 3) (I T 4) (I T 5) (S T 0) (I T 7) (I T 9) (I T 10) (I T 11) (S T 6))):=by
 obtain⟨F0,o⟩:=o.cut;obtain⟨F1,o⟩:=o.cut;obtain⟨F2,o⟩:=o.cut;have F3:=o;clear o;refine⟨?_,?_⟩
 .obtain⟨y,A,b,q,r,C,c,s,t,D,d,u,v,E,e,w,-⟩:=F0;obtain⟨x,F,p,-,-,-,-,-,-,-,-,-,-,a7,-⟩:=F1;obtain⟨-,-,-,-,a9,-,-,-,-,-,-,bb,-⟩:=F2;obtain⟨-,-,bi,-,-,-,-,bl,-⟩:=F3;replace b:I T 14=(BV (I T 7) (I T 1)):=b;replace c:I T 18=(BV (I T 9) (I T 3)):=c;replace d:I T 22=(BV (I T 10) (I T 4)):=d;replace e:I T 26=(BV (I T 11) (I T 5)):=e;replace p:I T 30=(Mm (S T 0) (S T 6)):=p;simp only[AE,AI,zN,zR,DU,and_true,zL,zS] at y A q r C s t D u v E w x F a7 a9 bb bi bl;unfold plN;rw[bl];by_cases l:(B T 12)=true
  .obtain⟨q1,q2,q3,q4,q5,q6⟩:=y.1 l;rw[vC l,vA (fun a=>a q2),vA (fun a=>a q4),vA (fun a=>a q5),vA (fun a=>a q6)];exact ((Pp _ _).2 q1).symm
  .have H:=A.2 (by simpa using l);rw[vA l,bi];by_cases h:(I T 1)=I T 7;rotate_left
   .have g:¬I T 14=0:=fun z=>h (Bq.1 (b.symm.trans z)).symm;rw[vC (r.2 ⟨H,q.2 g⟩),vC h];exact b
   have X:(I T 14)=0:=b.trans (Bq.2 h.symm);have N:¬B T 15=true:=fun z=>(q.1 z) X;have J:(B T 17)=true:=C.2 ⟨H,by simpa using N⟩;rw[vA (fun z=>N (r.1 z).2),vA (fun z=>z h),bb];by_cases i:(I T 3)=I T 9;rotate_left
   .have g:¬I T 18=0:=fun z=>i (Bq.1 (c.symm.trans z)).symm;rw[vC (t.2 ⟨J,s.2 g⟩),vC i];exact c
   have Y:(I T 18)=0:=c.trans (Bq.2 i.symm);have O:¬B T 19=true:=fun z=>(s.1 z) Y;have K:(B T 21)=true:=D.2 ⟨J,by simpa using O⟩;rw[vA (fun z=>O (t.1 z).2),vA (fun z=>z i),a9];by_cases j:(I T 4)=I T 10;rotate_left
   .have g:¬I T 22=0:=fun z=>j (Bq.1 (d.symm.trans z)).symm;rw[vC (v.2 ⟨K,u.2 g⟩),vC j];exact d
   have Z:(I T 22)=0:=d.trans (Bq.2 j.symm);have P:¬B T 23=true:=fun z=>(u.1 z) Z;have M:(B T 25)=true:=E.2 ⟨K,by simpa using P⟩;rw[vA (fun z=>P (v.1 z).2),vA (fun z=>z j),a7];by_cases k:(I T 5)=I T 11;rotate_left
   .have g:¬I T 26=0:=fun z=>k (Bq.1 (e.symm.trans z)).symm;rw[vC (x.2 ⟨M,w.2 g⟩),vC k];exact e
   have ab:(I T 26)=0:=e.trans (Bq.2 k.symm);have Q:¬B T 27=true:=fun z=>(w.1 z) ab;have bm:(B T 29)=true:=F.2 ⟨M,by simpa using Q⟩;rw[vA (fun z=>Q (x.1 z).2),vA (fun z=>z k)];exact p
 .obtain⟨y,A,b,q,r,C,c,s,t,D,d,u,v,E,e,w,-⟩:=F0;obtain⟨x,F,p,V,W,-,a5,-,-,-,a6,-⟩:=F1;obtain⟨a8,-,-,-,-,-,-,ba,-,-,-,-,-,-,bc,-⟩:=F2;obtain⟨-,-,-,-,-,-,bj,-⟩:=F3;replace b:I T 14=(BV (I T 7) (I T 1)):=b;replace c:I T 18=(BV (I T 9) (I T 3)):=c;replace d:I T 22=(BV (I T 10) (I T 4)):=d;replace e:I T 26=(BV (I T 11) (I T 5)):=e;replace p:I T 30=(Mm (S T 0) (S T 6)):=p;simp only[AE,AI,zN,zR,DU,and_true,zL,zS] at y A q r C s t D u v E w x F V W a5 a6 a8 ba bc bj;unfold plR;rw[bj];by_cases l:(B T 12)=true
  .obtain⟨q1,q2,q3,q4,q5,q6⟩:=y.1 l;rw[vC l,vA (fun a=>a q2),vA (fun a=>a q4),vA (fun a=>a q5),vA (fun a=>a q6),vC q1]
  .have H:=A.2 (by simpa using l);rw[vA l,bc];by_cases h:(I T 1)=I T 7;rotate_left
   .have g:¬I T 14=0:=fun z=>h (Bq.1 (b.symm.trans z)).symm;rw[vC (r.2 ⟨H,q.2 g⟩),vC h]
   have X:(I T 14)=0:=b.trans (Bq.2 h.symm);have N:¬B T 15=true:=fun z=>(q.1 z) X;have J:(B T 17)=true:=C.2 ⟨H,by simpa using N⟩;rw[vA (fun z=>N (r.1 z).2),vA (fun z=>z h),ba];by_cases i:(I T 3)=I T 9;rotate_left
   .have g:¬I T 18=0:=fun z=>i (Bq.1 (c.symm.trans z)).symm;rw[vC (t.2 ⟨J,s.2 g⟩),vC i]
   have Y:(I T 18)=0:=c.trans (Bq.2 i.symm);have O:¬B T 19=true:=fun z=>(s.1 z) Y;have K:(B T 21)=true:=D.2 ⟨J,by simpa using O⟩;rw[vA (fun z=>O (t.1 z).2),vA (fun z=>z i),a8];by_cases j:(I T 4)=I T 10;rotate_left
   .have g:¬I T 22=0:=fun z=>j (Bq.1 (d.symm.trans z)).symm;rw[vC (v.2 ⟨K,u.2 g⟩),vC j]
   have Z:(I T 22)=0:=d.trans (Bq.2 j.symm);have P:¬B T 23=true:=fun z=>(u.1 z) Z;have M:(B T 25)=true:=E.2 ⟨K,by simpa using P⟩;rw[vA (fun z=>P (v.1 z).2),vA (fun z=>z j),a6];by_cases k:(I T 5)=I T 11;rotate_left
   .have g:¬I T 26=0:=fun z=>k (Bq.1 (e.symm.trans z)).symm;rw[vC (x.2 ⟨M,w.2 g⟩),vC k]
   have ab:(I T 26)=0:=e.trans (Bq.2 k.symm);have Q:¬B T 27=true:=fun z=>(w.1 z) ab;have bm:(B T 29)=true:=F.2 ⟨M,by simpa using Q⟩;rw[vA (fun z=>Q (x.1 z).2),vA (fun z=>z k),a5];by_cases aa:(S T 0)=S T 6
   .rw[vC aa,vA (fun z=>(V.1 (W.1 z).2) (p.trans ((Pp _ _).2 aa)))]
   .rw[vA aa,vC (W.2 ⟨bm,V.2 (fun z=>aa ((Pp _ _).1 (p.symm.trans z)))⟩)]
theorem fF:Ae Try.prog 73 Jk:=by
 refine Aq (l:=[(124,P0),(129,SU)]) BU (by simp only[uA];exact⟨qL,lQ,fun _ h=>absurd h (by simp)⟩) jl (by kernel_rfl) fun T us y b a x u v=>?_;change us.length=12 at a;obtain⟨c,-,-,-,-,-,d,-⟩:=u;replace c:(S T 0).size<=140737488355328:=c;replace d:(S T 6).size<=140737488355328:=d;have e:aS us 0=S T 0:=inS b a (by decide);have g:aI us 1=I T 1:=inI b a (by decide);have k:aI us 3=I T 3:=inI b a (by decide);have o:aI us 4=I T 4:=inI b a (by decide);have p:aI us 5=I T 5:=inI b a (by decide);have q:aS us 6=S T 6:=inS b a (by decide);have r:aI us 7=I T 7:=inI b a (by decide);have s:aI us 9=I T 9:=inI b a (by decide);have i:aI us 10=I T 10:=inI b a (by decide);have j:aI us 11=I T 11:=inI b a (by decide);clear y
 skip
 obtain⟨t,w⟩:=At (R:=[.i,.i]) (rs:=WP) x (by kernel_rfl) v;obtain⟨z,A⟩:=jg c d t;refine⟨trivial,w.trans ?_⟩;exact (lc (by show U.int (I T 67)= .int (JG us);unfold JG;rw[e,g,i,j,k,o,p,q,r,s];exact vD U.int z) (lc (by show U.int (I T 66)= .int (I7 us);unfold I7;rw[e,g,i,j,k,o,p,q,r,s];exact vD U.int A) rfl))
def KR:List U->Int:=fun us=>(plN (aI us 1) (aI us 3) (aI us 4) (aI us 5) (aS us 0) (aI us 7) (aI us 9) (aI us 10) (aI us 11) (aS us 6))
def LC:AZ:={ sh:=[.agg [.str,k64,k64,k64,k64,k64],.agg [.str,k64,k64,k64,k64,k64]],blks:=[],outs:=[(.s "cmpTab.0",Bm KR)],c:=(DK 12),m':=[],pre:=[] }
def T6:List Rf:=[.e 0,.e 1,.e 2,.e 3,.e 4,.e 5,.e 6,.e 7,.e 8,.e 9,.e 10,.e 11]
def Xs:List En:=[⟨12,.outI "compare.0" JG,T6⟩,
 ⟨13,.outI "compare.1" I7,T6⟩]
def UF:List En:=Xs
def mn:List ObE:=[]
def aA:List Rf:=[.e 12]
theorem nD:LC.sees aA (LC.run Try.prog [(73,Jk)] Aa 3000 20 72)=some ((UF).map En.be,mn.map ObE.be,[]):=by kernel_rfl
theorem mT (d:xx T)(e:(S T 6).size<=140737488355328)(a:AF T UF):
  ((I T 12)=(plN (I T 1) (I T 3) (I T 4) (I T 5) (S T 0) (I T 7) (I T 9) (I T 10) (I T 11) (S T 6))):=by
 have c:=a;clear a
 .obtain⟨b,-⟩:=c;replace b:I T 12=(plN (I T 1) (I T 3) (I T 4) (I T 5) (S T 0) (I T 7) (I T 9) (I T 10) (I T 11) (S T 6)):=b;grind (splits:=100)
theorem jm:Ae Try.prog 72 LC:=by
 refine Aq (l:=[(73,Jk)]) BU (by simp only[uA];exact⟨fF,fun _ h=>absurd h (by simp)⟩) nD (by kernel_rfl) fun T us y b a k g i=>?_;change us.length=12 at a;obtain⟨c,-,-,-,-,-,d,-⟩:=g;replace c:(S T 0).size<=140737488355328:=c;replace d:(S T 6).size<=140737488355328:=d;have o:aS us 0=S T 0:=inS b a (by decide);have p:aI us 1=I T 1:=inI b a (by decide);have s:aI us 3=I T 3:=inI b a (by decide);have t:aI us 4=I T 4:=inI b a (by decide);have u:aI us 5=I T 5:=inI b a (by decide);have v:aS us 6=S T 6:=inS b a (by decide);have w:aI us 7=I T 7:=inI b a (by decide);have x:aI us 9=I T 9:=inI b a (by decide);have q:aI us 10=I T 10:=inI b a (by decide);have r:aI us 11=I T 11:=inI b a (by decide);clear y
 skip
 obtain⟨e,j⟩:=At (R:=[.i]) (rs:=aA) k (by kernel_rfl) i;have z:=mT c d e;refine⟨trivial,j.trans ?_⟩;exact (lc (by show U.int (I T 12)= .int (KR us);unfold KR;rw[o,p,q,r,s,t,u,v,w,x];exact vD U.int z) rfl)
def K9:List U->List (List U):=fun us=>(AR ltT (aL us 0) (aI us 2).toNat (aI us 3).toNat)
def Ij:List U->Prop:=fun us=>((aL us 0)).length=(aI us 1)/\0<=(aI us 2)/\(aI us 2)<=(aI us 3)/\(aI us 3)<=(aI us 1)
def Gi:AZ:={ sh:=[.one (k64),.one (k64),.cst (.fn (.func 72) [] [])],blks:=[],outs:=[(.s "insS.0",Cw K9)],c:= .tup [],m':=[.mrow 4 1 [.str,k64,k64,k64,k64,k64] 61],pre:=[(.s "insS.p0",Ij)],row:=some ([.str,k64,k64,k64,k64,k64],61) }
def nj:List Rf:=[.e 15,.e 16,.e 17,.e 18,.e 19,.e 20,.e 24,.e 25,.e 26,.e 27,.e 28,.e 29]
def eS:List En:=[⟨4,.w2 .i64 .add,[.e 2,.c (.int 1)]⟩]
def HD:List En:=eS
def Z1:List En:=[vO 7 5 3,
 vQ 8 7]
def GU:List En:=Z1
def gu:List En:=[vO 11 2 9,
 vK 12 7 11,
 vK 13 7 11,
 vK 14 7 11,
 vm 15 10 9,
 vP 16 10 9,
 vR 17 10 9,
 ⟨18,.get .i 3,[.e 10,.e 9]⟩,
 ⟨19,.get .i 4,[.e 10,.e 9]⟩,
 ⟨20,.get .i 5,[.e 10,.e 9]⟩,
 vK 21 7 11,
 vK 22 7 11,
 ⟨23,.w2 .i64 .sub,[.e 9,.c (.int 1)]⟩,
 vm 24 10 23,
 vP 25 10 23,
 vR 26 10 23]
def fW:List En:=[⟨27,.get .i 3,[.e 10,.e 23]⟩,
 ⟨28,.get .i 4,[.e 10,.e 23]⟩,
 ⟨29,.get .i 5,[.e 10,.e 23]⟩,
 ⟨30,.outI "cmpTab.0" KR,nj⟩,
 ⟨31,.lt,[.e 30,.c (.int 0)]⟩,
 vK 32 11 31,
 vK 33 7 32,
 vM 34 7 32,
 ⟨35,.w2 .i64 .sub,[.e 9,.c (.int 1)]⟩,
 ⟨36,.w2 .i64 .sub,[.e 9,.c (.int 1)]⟩,
 vm 37 10 36,
 vP 38 10 36,
 vR 39 10 36,
 ⟨40,.get .i 3,[.e 10,.e 36]⟩,
 ⟨41,.get .i 4,[.e 10,.e 36]⟩,
 ⟨42,.get .i 5,[.e 10,.e 36]⟩]
def fq:List En:=[vm 43 10 9,
 vP 44 10 9,
 vR 45 10 9,
 ⟨46,.get .i 3,[.e 10,.e 9]⟩,
 ⟨47,.get .i 4,[.e 10,.e 9]⟩,
 ⟨48,.get .i 5,[.e 10,.e 9]⟩,
 ⟨49,.rset 0 [.s,.i,.i,.i,.i,.i],[.e 10,.e 9,.e 37,.e 38,.e 39,.e 40,.e 41,.e 42]⟩,
 ⟨50,.rset 0 [.s,.i,.i,.i,.i,.i],[.e 49,.e 35,.e 43,.e 44,.e 45,.e 46,.e 47,.e 48]⟩,
 ⟨51,.w2 .i64 .sub,[.e 9,.c (.int 1)]⟩]
def E3:List En:=gu++(fW++(fq))
def Yw:List ObE:=[⟨some 33,.inr,[.e 35,.e 1]⟩,⟨some 33,.inr,[.e 9,.e 1]⟩,⟨some 33,.inr,[.e 9,.e 1]⟩,⟨some 33,.inr,[.e 36,.e 1]⟩,⟨some 22,.inr,[.e 23,.e 1]⟩,⟨some 14,.inr,[.e 9,.e 1]⟩]
def LE:Ac:=mkD 9 2 E3 33 [.e 51,.e 50] Yw [7,2,1]
def Oo:List Rf:=[.e 7,.e 2,.e 1,.e 5,.e 6]
def aR:List En:=[⟨52,.w2 .i64 .add,[.e 5,.c (.int 1)]⟩]
def KA:List En:=aR
def Im:List En:=GU++((Ag LE [.i,.l] Oo)++(E3++(KA)))
def Zt:List ObE:=[⟨some 7,.owes LE,[.e 7,.e 2,.e 1,.e 5,.e 6]⟩]
def O8:Ac:=mkD 5 2 Im 34 [.e 52,.e 10] Zt [2,1,3]
def SR:List Rf:=[.e 2,.e 1,.e 3,.e 4,.e 0]
def oV:List En:=[]
def ru:List ObE:=[⟨none,.owes O8,[.e 2,.e 1,.e 3,.e 4,.e 0]⟩]
def jI:List Rf:=[.e 6]
theorem rU:Gi.sees jI (Gi.run Try.prog [(72,LC)] Aa 3000 20 138)=some ((HD++((Ag O8 [.i,.l] SR)++(Im++(oV)))).map En.be,ru.map ObE.be,[]):=by kernel_rfl
abbrev xz(T:Tab):Prop:=((L T 0)).length=I T 1/\0<=I T 2/\I T 2<=I T 3/\I T 3<=I T 1
theorem lO (h:xy T)(g:∀u∈(L T 0),AK AD KS u)(i:0<=I T 1)(e:I T 1<=140737488355328)(j:xz T)(a:AF T HD):
  ((I T 4)=I T 2+1):=by
 have c:=a;clear a;have d:(I T 4)=I T 2+1:=by
  obtain⟨b,-⟩:=c;simp only[AE,zR,w2P] at b;exact b (by omega) (by omega)
 have e:(I T 1)<=140737488355328:=by
  omega
 exact d
abbrev xA(T:Tab):Prop:=0<=I T 2/\I T 2<=I T 3/\I T 2+1<=I T 5/\((I T 5)<=I T 3\/I T 5=I T 2+1)/\I T 3<=I T 1/\I T 1<=140737488355328
abbrev xB(T:Tab):Prop:=((L T 6)).length=I T 1/\∀u∈(L T 6),AK AD KS u
theorem iI (e:xA T)(ao:xB T)(a:AF T GU):
  ((B T 7)=true->I T 5 < I T 3):=by
 have c:=a;clear a;have d:(B T 7)=true->I T 5 < I T 3:=by
  obtain⟨b,-⟩:=c;simp only[AE,zR] at b;exact b.1
 exact d
abbrev wC(T:Tab)(a:Int)(b:List (List U)):Prop:=(I T 2)<=a/\a <=I T 5/\((B T 7)=true->b.length=I T 1/\(∀u∈b,AK AD KS u)/\b=CR (((L T 6)).take (I T 2).toNat) (((((L T 6)).take (I T 5).toNat).drop (I T 2).toNat).reverse) (((L T 6)).drop ((I T 5).toNat+1)) (((L T 6)).getD (I T 5).toNat []) ((I T 5) -a).toNat/\∀q:Nat,(q:Int) < I T 5 -a ->ltT (((L T 6)).getD (I T 5).toNat []) ((((((L T 6)).take (I T 5).toNat).drop (I T 2).toNat).reverse).getD q [])=true)
theorem oJ (g1:xA T)(ao:xB T)(N:(B T 7)=true->I T 5 < I T 3)(hS:AJ T (AM (hds 5 [.i,.l]++DN [2,1,3] (AM (Ak 0 Gi.ks) HD)) GU))(hB:AU T (E3.map En.be))(hH:AU T ((Ag LE [.i,.l] Oo).map En.be)):
  (LE).owes (Oo.map (Rf.eval T))/\AJ T (hds 9 [.i,.l])/\(wC T (I T 9) (L T 10))/\¬B T 33=true:=by
 refine Ax (nh:=9) (k:=2) (pcn:=33) (aO:=52) (y:=E3) (J:=Yw) (nxt:=[.e 51,.e 50]) (H:=[.e 5,.e 6]) (fv:=[7,2,1]) (R:=[.i,.l]) (by kernel_rfl) rfl rfl rfl rfl hS (by kernel_rfl) (by kernel_rfl) hB (Ai hH) (fun s=>wC T (aI s 0) (aL s 1)) (fun s=>((aI s 0)).toNat) ?_ ?_
 .show wC T (I T 5) (L T 6);clear hS hB hH;refine⟨by omega,uf _,fun w=>?_⟩;have V:=N w;refine⟨ao.1,ao.2,?_,fun q hq=>absurd hq (by omega)⟩;rw[show ((I T 5) - (I T 5)).toNat=0 by omega,ZZ (by omega) (by omega)]
 .intro A al O D;replace D:wC T (I A 9) (L A 10):=D;clear hS hB hH;replace O:AF A E3:=O;obtain⟨E,O⟩:=O.cut;obtain⟨F,O⟩:=O.cut;have K:=O;clear O;have Q:B A 7=B T 7:=fvB (al 7 (by decide));have M:I A 2=I T 2:=fvI (al 2 (by decide));have Y:I A 1=I T 1:=fvI (al 1 (by decide));clear al
  suffices hz:(B A 33=true->0<=I A 35/\I A 35 < I A 1)/\(B A 33=true->0<=I A 9/\I A 9 < I A 1)/\(B A 33=true->0<=I A 9/\I A 9 < I A 1)/\(B A 33=true->0<=I A 36/\I A 36 < I A 1)/\(B A 22=true->0<=I A 23/\I A 23 < I A 1)/\(B A 14=true->0<=I A 9/\I A 9 < I A 1)/\(B A 33=true->(wC T (I A 51) (L A 50)))/\(B A 33=true->((I A 51)).toNat < ((I A 9)).toNat) from
   let⟨r0,ax,aE,r3,r4,r5,nx,mz⟩:=hz;⟨⟨r0,ax,aE,r3,r4,r5,trivial⟩,fun t=>⟨nx t,mz t⟩⟩
  refine⟨?_,?_,?_,?_,?_,?_,?_,?_⟩
  .obtain⟨b,-,-,z,-,-,-,-,-,-,-,C,p,-⟩:=E;obtain⟨-,-,-,-,v,d,e,-,g,h,-⟩:=F;obtain⟨-,-,-,-,-,-,-,-,r,-⟩:=K;simp only[AE,AI,zR,w2P] at b z C p v d e g h r;obtain⟨W,X,P⟩:=D;intro t;have o:=e.1 t;have x:=b.1 (d.1 o.2).1;rw[M] at x;have w:(B T 7)=true:=by rw[<-Q];exact o.1
   have V:=N w;have Z:=g (by omega) (by omega);have ab:=h (by omega) (by omega);rw[Y];omega
  .obtain⟨b,-,-,z,-,-,-,-,-,-,-,C,p,-⟩:=E;obtain⟨-,-,-,-,v,d,e,-,g,h,-⟩:=F;obtain⟨-,-,-,-,-,-,-,-,r,-⟩:=K;simp only[AE,AI,zR,w2P] at b z C p v d e g h r;obtain⟨W,X,P⟩:=D;intro t;have o:=e.1 t;have x:=b.1 (d.1 o.2).1;rw[M] at x;have w:(B T 7)=true:=by rw[<-Q];exact o.1
   have V:=N w;have Z:=g (by omega) (by omega);have ab:=h (by omega) (by omega);rw[Y];omega
  .obtain⟨b,-,-,z,-,-,-,-,-,-,-,C,p,-⟩:=E;obtain⟨-,-,-,-,v,d,e,-,g,h,-⟩:=F;obtain⟨-,-,-,-,-,-,-,-,r,-⟩:=K;simp only[AE,AI,zR,w2P] at b z C p v d e g h r;obtain⟨W,X,P⟩:=D;intro t;have o:=e.1 t;have x:=b.1 (d.1 o.2).1;rw[M] at x;have w:(B T 7)=true:=by rw[<-Q];exact o.1
   have V:=N w;have Z:=g (by omega) (by omega);have ab:=h (by omega) (by omega);rw[Y];omega
  .obtain⟨b,-,-,z,-,-,-,-,-,-,-,C,p,-⟩:=E;obtain⟨-,-,-,-,v,d,e,-,g,h,-⟩:=F;obtain⟨-,-,-,-,-,-,-,-,r,-⟩:=K;simp only[AE,AI,zR,w2P] at b z C p v d e g h r;obtain⟨W,X,P⟩:=D;intro t;have o:=e.1 t;have x:=b.1 (d.1 o.2).1;rw[M] at x;have w:(B T 7)=true:=by rw[<-Q];exact o.1
   have V:=N w;have Z:=g (by omega) (by omega);have ab:=h (by omega) (by omega);rw[Y];omega
  .obtain⟨b,-,-,z,-,-,-,-,-,-,-,C,p,-⟩:=E;obtain⟨-,-,-,-,v,d,e,-,g,h,-⟩:=F;obtain⟨-,-,-,-,-,-,-,-,r,-⟩:=K;simp only[AE,AI,zR,w2P] at b z C p v d e g h r;obtain⟨W,X,P⟩:=D;intro t;have o:=C.1 t;have x:=b.1 o.2;rw[M] at x;have w:(B T 7)=true:=by rw[<-Q];exact o.1
   have V:=N w;have cv:=p (by omega) (by omega);rw[Y];omega
  .obtain⟨b,-,-,z,-,-,-,-,-,-,-,C,p,-⟩:=E;obtain⟨-,-,-,-,v,d,e,-,g,h,-⟩:=F;obtain⟨-,-,-,-,-,-,-,-,r,-⟩:=K;simp only[AE,AI,zR,w2P] at b z C p v d e g h r;obtain⟨W,X,P⟩:=D;intro t;have o:=z.1 t;have x:=b.1 o.2;rw[M] at x;have w:(B T 7)=true:=by rw[<-Q];exact o.1
   have V:=N w;rw[Y];omega
  .obtain⟨b,-,-,-,a7,a8,-,a9,ba,bb,-,-,p,bc,bi,-⟩:=E;obtain⟨bj,bl,bm,a1,v,d,e,-,g,h,bs,bt,bx,b0,b1,b2,-⟩:=F;obtain⟨b3,b4,b5,b6,b7,b8,ca,cb,r,-⟩:=K;replace a1:I A 30=(plN (I A 16) (I A 18) (I A 19) (I A 20) (S A 15) (I A 25) (I A 27) (I A 28) (I A 29) (S A 24)):=a1;simp only[AE,AI,zR,w2P,zL,zS,uR,zW,zC] at b a7 a8 a9 ba bb p bc bi bj bl bm v d e g h bs bt bx b0 b1 b2 b3 b4 b5 b6 b7 b8 ca cb r;obtain⟨W,X,P⟩:=D;intro t;have o:=e.1 t;have ce:=d.1 o.2;have x:=b.1 ce.1;rw[M] at x;have w:(B T 7)=true:=by rw[<-Q];exact o.1
   have V:=N w;have cv:=p (by omega) (by omega);have Z:=g (by omega) (by omega);have ab:=h (by omega) (by omega);have cx:=r (by omega) (by omega);clear p g h r;obtain⟨z1,z2,z3,z4⟩:=P w;obtain⟨au,ag,m3⟩:=MY (l:=L T 6) (c:=L A 10) (a:=(I T 2).toNat) (i:=(I T 5).toNat) (j:=(I A 9).toNat) (by omega) (by omega) (by omega) (by rw[show (I T 5).toNat - (I A 9).toNat=((I T 5) - (I A 9)).toNat by omega];exact z3);obtain⟨m4,m5⟩:=m3 (by omega);have hj:(I A 9).toNat < ((L A 10)).length:=by omega
   have ch:(I A 9).toNat - 1 < ((L A 10)).length:=by omega
   have hn:((I A 9) - 1).toNat=(I A 9).toNat - 1:=by omega
   have sj:=z2 _ (Az hj);have cu:=z2 _ (Az ch);have ad:(L A 49)=((L A 10)).set (I A 9).toNat (((L A 10)).getD ((I A 9).toNat - 1) []):=by
    rw[ca,bs,bt,bx,b0,b1,b2,ab,hn];exact pW z2 hj cu
   have cl:∀u∈(L A 49),AK AD KS u:=by rw[ad];exact C9 z2 cu
   have a2:(L A 50)=((L A 49)).set ((I A 9).toNat - 1) (((L A 10)).getD (I A 9).toNat []):=by
    rw[cb,b3,b4,b5,b6,b7,b8,Z,hn];exact pW cl (by rw[ad,ud];exact ch) sj
   have cy:ltT (((L T 6)).getD (I T 5).toNat []) ((((((L T 6)).take (I T 5).toNat).drop (I T 2).toNat).reverse).getD ((I T 5).toNat - (I A 9).toNat) [])=true:=by
    rw[<-m4,<-ag];refine decide_eq_true ?_;have cc:=v.1 ce.2;rw[a1,a8,a9,ba,bb,a7,bi,bj,bl,bm,bc,cv,hn] at cc;exact cc
   refine⟨by omega,by omega,fun _=>⟨?_,?_,?_,fun q hq=>?_⟩⟩
   .rw[a2,ad,ud,ud];exact z1
   .rw[a2];exact C9 cl sj
   .rw[a2,ad,m5,cx,show ((I T 5) - ((I A 9) - 1)).toNat=(I T 5).toNat - ((I A 9).toNat - 1) by omega]
   .rcases Int.lt_or_le (q:Int) ((I T 5) - (I A 9)) with cj|cj
    .exact z4 q cj
    .obtain rfl:q=(I T 5).toNat - (I A 9).toNat:=by omega
     exact cy
  .obtain⟨b,-,-,z,-,-,-,-,-,-,-,C,p,-⟩:=E;obtain⟨-,-,-,-,v,d,e,-,g,h,-⟩:=F;obtain⟨-,-,-,-,-,-,-,-,r,-⟩:=K;simp only[AE,AI,zR,w2P] at b z C p v d e g h r;obtain⟨W,X,P⟩:=D;intro t;have x:=b.1 (d.1 (e.1 t).2).1;rw[M] at x;have cx:=r (by omega) (by omega);omega
theorem Y7 (g:xA T)(ao:xB T)(c:AJ T (hds 5 [.i,.l]++DN [2,1,3] (AM (Ak 0 Gi.ks) HD)))(a:AU T (Im.map En.be)):
  (AF T GU)/\((B T 7)=true->I T 5 < I T 3)/\((LE).owes (Oo.map (Rf.eval T)))/\(wC T (I T 9) (L T 10))/\(¬B T 33=true)/\(AF T E3)/\(AF T KA)/\AJ T (AM (AM (hds 9 [.i,.l]++(AM (hds 5 [.i,.l]++DN [2,1,3] (AM (Ak 0 Gi.ks) HD)) GU)) E3) KA):=by
 unfold Im at a;rw[ti,ti,ti] at a;have i:=a.left;replace a:=a.right;have j:=a.left;replace a:=a.right;have b:=a.left;replace a:=a.right;obtain⟨e,d⟩:=AN c (by kernel_rfl) i;have h:=iI g ao e;obtain⟨u,k,s,t⟩:=oJ g ao h d b j;have q:=(AN (k.append d) (l:=E3) (by kernel_rfl) b);obtain⟨o,c⟩:=q;clear i b j d k;obtain⟨p,r⟩:=AN c (by kernel_rfl) a;exact⟨e,h,u,s,t,o,p,r⟩
abbrev wD(T:Tab)(a:Int)(b:List (List U)):Prop:=(I T 2)+1<=a/\(a <=I T 3\/a=I T 2+1)/\b.length=I T 1/\(∀u∈b,AK AD KS u)/\b=AR ltT (L T 0) (I T 2).toNat a.toNat
theorem oz (b5:∀u∈(L T 0),AK AD KS u)(cf:xz T)(h4:(I T 4)=I T 2+1)(cu:(I T 1)<=140737488355328)(M:AJ T (AM (Ak 0 Gi.ks) HD))(F:AU T (Im.map En.be))(K:AU T ((Ag O8 [.i,.l] SR).map En.be)):
  (O8).owes (SR.map (Rf.eval T))/\AJ T (hds 5 [.i,.l])/\(wD T (I T 5) (L T 6))/\¬B T 34=true:=by
 refine HC (nh:=5) (k:=2) (pcn:=34) (aO:=53) (y:=Im) (J:=Zt) (nxt:=[.e 52,.e 10]) (H:=[.e 4,.e 0]) (fv:=[2,1,3]) (R:=[.i,.l]) (by kernel_rfl) rfl rfl rfl rfl M (by kernel_rfl) F (Ai K) (fun s=>wD T (aI s 0) (aL s 1)) (fun s=>((I T 3) - (aI s 0)).toNat) ?_ ?_
 .show wD T (I T 4) (L T 0);clear M F K;rw[h4];exact⟨uf _,.inr rfl,cf.1,b5,by rw[show ((I T 2)+1).toNat=(I T 2).toNat+1 by omega,Ke (by omega)]⟩
 .intro A v bb hE e;replace e:wD T (I A 5) (L A 6):=e;have D:I A 2=I T 2:=fvI (v 2 (by decide));have r:I A 1=I T 1:=fvI (v 1 (by decide));have E:I A 3=I T 3:=fvI (v 3 (by decide));clear v;clear M F K;have g1:0<=I A 2/\I A 2<=I A 3/\I A 2+1<=I A 5/\((I A 5)<=I A 3\/I A 5=I A 2+1)/\I A 3<=I A 1/\I A 1<=140737488355328:=by
   obtain⟨N,O,w,x,z⟩:=e;rw[D,r,E];omega
  have ao:((L A 6)).length=I A 1/\∀u∈(L A 6),AK AD KS u:=by
   obtain⟨N,O,w,x,z⟩:=e;rw[r];exact⟨w,x⟩
  obtain⟨P,t,ce,b7,cy,b,Q,bc⟩:=Y7 g1 ao bb hE;clear bb hE;have hN:=Bp bc (ar:=[.i,.l]) (rs:=[.e 52,.e 10]) (by kernel_rfl);clear bc;have V:=P;clear P;obtain⟨F1,b⟩:=b.cut;obtain⟨W,b⟩:=b.cut;have F3:=b;clear b;have X:=Q;clear Q
  suffices hz:(B A 34=true->(wD T (I A 52) (L A 10)))/\(B A 34=true->((I T 3) - (I A 52)).toNat < ((I T 3) - (I A 5)).toNat) from
   let⟨nx,mz⟩:=hz;⟨hN,⟨(fun _=>ce),trivial⟩,fun d=>⟨nx d,mz d⟩⟩
  refine⟨?_,?_⟩
  .obtain⟨o,-⟩:=V;obtain⟨Y,-,-,-,Z,ab,-,ad,al,a0,-,-,a1,a2,a3,-⟩:=F1;obtain⟨a4,a5,a6,C,a7,a8,bt,g,-⟩:=W;obtain⟨h,-⟩:=X;replace C:I A 30=(plN (I A 16) (I A 18) (I A 19) (I A 20) (S A 15) (I A 25) (I A 27) (I A 28) (I A 29) (S A 24)):=C;simp only[AE,AI,zN,zR,w2P,zL] at o Y Z ab ad al a0 a1 a2 a3 a4 a5 a6 a7 a8 bt g h;obtain⟨N,O,w,x,z⟩:=e;obtain⟨aJ,w2,w3⟩:=b7;rw[D] at aJ w3;intro d;have p:=g.1 d;have t:=o.1 p.1;have bl:=h (by omega) (by omega);obtain⟨z1,z2,z3,z4⟩:=w3 p.1;have b4:(L A 10)=Uy ltT ((L A 6)) (I T 2).toNat (I A 5).toNat:=by
    rw[z3];refine Yk (l:=L A 6) (k:=((I A 5) - (I A 9)).toNat) (by omega) (by omega) (by omega) (fun q hq=>z4 q (by omega)) ?_;rcases Int.lt_or_le (I T 2) (I A 9) with h9|h9
    .refine .inr fun bi=>?_;obtain⟨au,ag,m3⟩:=MY (l:=L A 6) (c:=L A 10) (a:=(I T 2).toNat) (i:=(I A 5).toNat) (j:=(I A 9).toNat) (by omega) (by omega) (by omega) (by rw[show (I A 5).toNat - (I A 9).toNat=((I A 5) - (I A 9)).toNat by omega];exact z3);obtain⟨m4,m5⟩:=m3 (by omega);rw[show ((I A 5) - (I A 9)).toNat=(I A 5).toNat - (I A 9).toNat by omega,<-m4,<-ag] at bi;have ch:=a1 (by omega) (by omega);have b0:(I A 30) < 0:=by
      rw[C,ab,ad,al,a0,Z,a3,a4,a5,a6,a2,ch,show ((I A 9) - 1).toNat=(I A 9).toNat - 1 by omega];exact of_decide_eq_true bi
     have b1:(B A 32)=true:=a8.2 ⟨Y.2 (by rw[D];exact h9),a7.2 b0⟩;have:=p.2;simp[b1] at this
    .exact .inl (by omega)
   refine⟨by omega,?_,by rw[<-r];exact z1,z2,?_⟩
   .rw[E] at t;left;omega
   .rw[b4,bl,show ((I A 5)+1).toNat=(I A 5).toNat+1 by omega,VY (by omega) (by rw[r] at*; omega),<-z]
  .obtain⟨o,-⟩:=V;obtain⟨-,-,-,-,-,-,-,g,-⟩:=W;obtain⟨h,-⟩:=X;simp only[AE,AI,zN,zR,w2P] at o g h;obtain⟨N,O,w,x,z⟩:=e;intro d;have p:=g.1 d;have t:=o.1 p.1;rw[E] at t;have bl:=h (by omega) (by omega);omega
theorem rK (H:xy T)(F:∀u∈(L T 0),AK AD KS u)(K:0<=I T 1)(v:xz T)(D:(I T 4)=I T 2+1)(E:(I T 1)<=140737488355328)(r:wD T (I T 5) (L T 6))(s:¬B T 34=true)(p:(B T 7)=true->I T 5 < I T 3)(J:wC T (I T 9) (L T 10))(t:¬B T 33=true)(C:xA T)(ao:xB T)(b:AF T HD)(c:AF T GU)(a:AF T E3)(d:AF T KA):
  ((L T 6)=(AR ltT (L T 0) (I T 2).toNat (I T 3).toNat)):=by
 have x:=b;clear b;have l:=c;clear c;obtain⟨y,a⟩:=a.cut;obtain⟨o,a⟩:=a.cut;have z:=a;clear a;have A:=d;clear d
 .obtain⟨i,-⟩:=l;obtain⟨-,-,-,-,-,-,e,g,-⟩:=o;simp only[AE,AI,zN,zR] at i e g;obtain⟨Q,V,W,X,w⟩:=r;obtain⟨M,N,O,P⟩:=v;have p:¬I T 5 < I T 3:=fun h=>by
   have k:=i.2 h;by_cases j:(B T 32)=true
   .exact t (e.2 ⟨k,j⟩)
   .exact s (g.2 ⟨k,by simpa using j⟩)
  rw[w];by_cases q:(I T 5)=I T 3
  .rw[q]
  .have h:(I T 5)=I T 2+1:=by omega
   rw[h,show ((I T 2)+1).toNat=(I T 2).toNat+1 by omega,Ke (by omega),Jf (by omega) (by omega)]
theorem rG:Ae Try.prog 138 Gi:=by
 refine Aq (l:=[(72,LC)]) BU (by simp only[uA];exact⟨jm,fun _ h=>absurd h (by simp)⟩) rU (by kernel_rfl) fun T us K e c p W a=>?_;change us.length=4 at c;obtain⟨⟨g,ab⟩,⟨j,b⟩,-⟩:=W;replace g:(L T 0).length<=140737488355328:=g;have q:∀u∈(L T 0),AK AD KS u:=fun u hu=>by
  obtain⟨i,Y⟩:=uH.1 hu;exact ab i u Y
 replace j:0<=I T 1:=j;replace b:I T 1<=140737488355328:=b;have F:aL us 0=L T 0:=inL e c (by decide);have Z:aI us 1=I T 1:=inI e c (by decide);have H:aI us 2=I T 2:=inI e c (by decide);have J:aI us 3=I T 3:=inI e c (by decide);have t:((L T 0)).length=I T 1/\0<=I T 2/\I T 2<=I T 3/\I T 3<=I T 1:=by
  have h:=K (.s "insS.p0",Ij) (by simp[Gi]);change Ij us at h;unfold Ij at h;simp only[F,Z,H,J] at h;exact h
 clear K;rw[ti,ti,ti] at a;have A:=a.left;replace a:=a.right;have C:=a.left;replace a:=a.right;have o:=a.left;replace a:=a.right;obtain⟨v,d⟩:=AN p (by kernel_rfl) A;have z:=lO g q j b t v;obtain⟨a1,D,s,al⟩:=oz q t z b d o C;have y:0<=I T 2/\I T 2<=I T 3/\I T 2+1<=I T 5/\((I T 5)<=I T 3\/I T 5=I T 2+1)/\I T 3<=I T 1/\I T 1<=140737488355328:=by
  have w:I T 2=I T 2:=rfl;have k:I T 1=I T 1:=rfl;have x:I T 3=I T 3:=rfl;have r:=s;obtain⟨v1,v2,M,N,v5⟩:=r;rw[w,k,x];omega
 have ao:((L T 6)).length=I T 1/\∀u∈(L T 6),AK AD KS u:=by
  have w:I T 2=I T 2:=rfl;have k:I T 1=I T 1:=rfl;have x:I T 3=I T 3:=rfl;have r:=s;obtain⟨v1,v2,M,N,v5⟩:=r;rw[k];exact⟨M,N⟩
 obtain⟨P,V,a7,ag,a0,O,Q,E⟩:=Y7 y ao (D.append (CM (fun _ _=>rfl) d)) o;have p:=E.append d;clear A o C d D E;obtain⟨A2,X⟩:=At (R:=[.l]) (rs:=jI) p (by kernel_rfl) a;have q0:=rK g q j t z b s al V ag a0 y ao v P O Q;refine⟨⟨(fun _=>a1),trivial⟩,X.trans ?_⟩;exact (lc (by show U.list (L T 6)= .list (K9 us);unfold K9;rw[F,H,J];exact vD U.list q0) rfl)
end
section
open Go Go.Eng Go.Proofs
def Rg:List U->List (List U):=fun us=>((aL us 0))
def OB:List U->Prop:=fun us=>False
def Ti:AZ:={ sh:=[.one (k64),.one (k64),.one (k64),.cst (.fn (.func 72) [] [])],blks:=[],outs:=[(.s "symS.0",Cw Rg)],c:= .tup [],m':=[.mrow 5 1 [.str,k64,k64,k64,k64,k64] 61],pre:=[(.s "symS.p0",OB)],row:=some ([.str,k64,k64,k64,k64,k64],61) }
theorem qE:Ae Try.prog 139 Ti:=by
 refine⟨fun _=>SD,fun T us _ _ _ a=>?_⟩;exact (a (.s "symS.p0",OB) (by simp[Ti])).elim
end
section
open Go Go.Eng Go.Proofs
set_option maxHeartbeats 4000000
set_option maxRecDepth 100000
def Ma:List U->List (List U):=fun us=>(AR ltT (aL us 0) 0 (aI us 2).toNat)
def Jd:List U->Prop:=fun us=>((aL us 0)).length=(aI us 1)/\(aI us 2)=(aI us 1)/\(aI us 1)<=20
def Eb:AZ:={ sh:=[.one (k64),.cst (.fn (.func 72) [] [])],blks:=[],outs:=[(.s "stabS.0",Cw Ma)],c:= .tup [],m':=[.mrow 3 1 [.str,k64,k64,k64,k64,k64] 61],pre:=[(.s "stabS.p0",Jd)],row:=some ([.str,k64,k64,k64,k64,k64],61) }
def HR:List En:=[]
def ar:List En:=[⟨6,.le,[.e 4,.e 2]⟩,
 vQ 7 6,
 ⟨8,.outL "insS.0" K9,[.e 5,.e 1,.e 3,.e 4]⟩,
 ⟨9,.w2 .i64 .add,[.e 4,.c (.int 20)]⟩]
def Cp:List En:=ar
def V2:List ObE:=[⟨some 6,.pre "insS.p0" Ij,[.e 5,.e 1,.e 3,.e 4]⟩]
def L5:Ac:=mkD 3 3 Cp 6 [.e 4,.e 9,.e 8] V2 [1,2]
def P1:List Rf:=[.e 1,.e 2,.c (.int 0),.c (.int 20),.e 0]
def av:List En:=[⟨10,.outL "insS.0" K9,[.e 5,.e 1,.e 3,.e 2]⟩]
def FZ:List En:=av
def Wj:List En:=[vO 15 13 2,
 vK 16 7 15,
 vM 17 7 15,
 ⟨18,.w2 .i64 .mul,[.c (.int 2),.e 13]⟩]
def FT:List En:=Wj
def bv:List En:=[⟨22,.le,[.e 20,.e 2]⟩,
 vK 23 16 22,
 vM 24 16 22,
 vg 25 19 13,
 ⟨26,.outL "symS.0" Rg,[.e 21,.e 1,.e 19,.e 25,.e 20]⟩,
 ⟨27,.w2 .i64 .mul,[.c (.int 2),.e 13]⟩,
 vg 28 20 27]
def EG:List En:=bv
def Va:List ObE:=[⟨some 23,.pre "symS.p0" OB,[.e 21,.e 1,.e 19,.e 25,.e 20]⟩]
def JW:Ac:=mkD 19 3 EG 23 [.e 20,.e 28,.e 26] Va [13,1,16,2]
def Lt:List Rf:=[.e 13,.e 1,.e 16,.e 2,.c (.int 0),.e 18,.e 14]
def Wb:List En:=[vg 29 19 13,
 vO 30 29 2,
 vK 31 24 30,
 ⟨32,.outL "symS.0" Rg,[.e 21,.e 1,.e 19,.e 29,.e 2]⟩,
 vM 33 24 30,
 vf 34 30 32 21,
 ⟨35,.w2 .i64 .mul,[.e 13,.c (.int 2)]⟩]
def JF:List En:=Wb
def Ha:List En:=FT++((Ag JW [.i,.i,.l] Lt)++(EG++(JF)))
def Vg:List ObE:=[⟨some 31,.pre "symS.p0" OB,[.e 21,.e 1,.e 19,.e 29,.e 2]⟩,⟨some 16,.owes JW,[.e 13,.e 1,.e 16,.e 2,.c (.int 0),.e 18,.e 14]⟩]
def MK:Ac:=mkD 11 4 Ha 24 [.e 19,.e 20,.e 35,.e 34] Vg [1,2,7]
def P8:List Rf:=[.e 1,.e 2,.e 7,.e 3,.e 4,.c (.int 20),.e 10]
def jo:List En:=[]
def qp:List ObE:=[⟨some 7,.owes MK,[.e 1,.e 2,.e 7,.e 3,.e 4,.c (.int 20),.e 10]⟩,
 ⟨some 7,.pre "insS.p0" Ij,[.e 5,.e 1,.e 3,.e 2]⟩,
 ⟨none,.owes L5,[.e 1,.e 2,.c (.int 0),.c (.int 20),.e 0]⟩]
def dA:List Rf:=[.e 14]
theorem pY:Eb.sees dA (Eb.run Try.prog [(138,Gi),(139,Ti)] Aa 3000 20 122)=some ((HR++((Ag L5 [.i,.i,.l] P1)++(Cp++(FZ++((Ag MK [.i,.i,.i,.l] P8)++(Ha++(jo))))))).map En.be,qp.map ObE.be,[]):=by kernel_rfl
abbrev wE(T:Tab)(a:Int)(b:Int)(c:List (List U)):Prop:=(a=0/\b=20/\c=L T 0)\/(a=20/\b=40/\I T 2=20/\c=AR ltT (L T 0) 0 20)
abbrev xC(T:Tab):Prop:=((L T 0)).length=I T 1/\I T 2=I T 1/\I T 1<=20
variable{T:Tab}
theorem iH (F:xC T)(t:AJ T (AM (Ak 0 Eb.ks) HR))(q:AU T (Cp.map En.be))(r:AU T ((Ag L5 [.i,.i,.l] P1).map En.be)):
  (L5).owes (P1.map (Rf.eval T))/\AJ T (hds 3 [.i,.i,.l])/\(wE T (I T 3) (I T 4) (L T 5))/\¬B T 6=true:=by
 refine Ax (nh:=3) (k:=3) (pcn:=6) (aO:=10) (y:=Cp) (J:=V2) (nxt:=[.e 4,.e 9,.e 8]) (H:=[.c (.int 0),.c (.int 20),.e 0]) (fv:=[1,2]) (R:=[.i,.i,.l]) (by kernel_rfl) rfl rfl rfl rfl t (by kernel_rfl) (by kernel_rfl) q (Ai r) (fun s=>wE T (aI s 0) (aI s 1) (aL s 2)) (fun s=>((I T 2)+1 - (aI s 1)).toNat) ?_ ?_
 .show wE T (0:Int) (20:Int) (L T 0);clear t q r;exact .inl ⟨rfl,rfl,rfl⟩
 .intro A u h i;replace i:wE T (I A 3) (I A 4) (L A 5):=i;clear t q r;replace h:AF A Cp:=h;have l:=h;clear h;have v:I A 1=I T 1:=fvI (u 1 (by decide));have p:I A 2=I T 2:=fvI (u 2 (by decide));clear u
  suffices w:(B A 6=true->((L A 5)).length=I A 1/\0<=I A 3/\I A 3<=I A 4/\I A 4<=I A 1)/\(B A 6=true->(wE T (I A 4) (I A 9) (L A 8)))/\(B A 6=true->((I T 2)+1 - (I A 9)).toNat < ((I T 2)+1 - (I A 4)).toNat) from
   let⟨C,z,x⟩:=w;⟨⟨C,trivial⟩,fun b=>⟨z b,x b⟩⟩
  refine⟨?_,?_,?_⟩
  .obtain⟨a,-⟩:=l;simp only[AE,zR] at a;intro b;have d:=a.1 b;rw[p] at d;rcases i with⟨j,e,g⟩|⟨j,e,g,D⟩
   .rw[v,g];omega
   .omega
  .obtain⟨a,-,o,c,-⟩:=l;replace o:L A 8=(AR ltT (L A 5) (I A 3).toNat (I A 4).toNat):=o;simp only[AE,zR,w2P] at a c;intro b;have d:=a.1 b;rw[p] at d;have E:=c (by omega) (by omega);rcases i with⟨j,e,g⟩|⟨j,e,g,D⟩
   .refine .inr ⟨e,by omega,by omega,?_⟩;rw[o,j,e,g];rfl
   .omega
  .obtain⟨a,-,-,c,-⟩:=l;simp only[AE,zR,w2P] at a c;intro b;have d:=a.1 b;rw[p] at d;have E:=c (by omega) (by omega);omega
theorem fc (i:xy T)(h:∀u∈(L T 0),AK AD KS u)(k:0<=I T 1)(g:I T 1<=140737488355328)(o:xC T)(j:wE T (I T 3) (I T 4) (L T 5))(l:¬B T 6=true)(b:AF T Cp)(a:AF T FZ):
  ((I T 2)<=20):=by
 have d:=b;clear b;have e:=a;clear a;have c:(I T 2)<=20:=by
  omega
 exact c
theorem eY (g:(I T 13)=20/\I T 2<=20)(a:AF T FT):
  (¬B T 16=true):=by
 have d:=a;clear a;have ao:¬B T 16=true:=by
  obtain⟨b,c,-⟩:=d;simp only[AE,AI,zR] at b c;intro e;have h:=b.1 (c.1 e).2;omega
 exact ao
theorem lH (ao:¬B T 16=true)(j:AJ T (AM (hds 11 [.i,.i,.i,.l]++DN [1,2,7] (AM (AM (hds 3 [.i,.i,.l]++(AM (Ak 0 Eb.ks) HR)) Cp) FZ)) FT))(h:AU T (EG.map En.be))(i:AU T ((Ag JW [.i,.i,.l] Lt).map En.be)):
  (JW).owes (Lt.map (Rf.eval T))/\AJ T (hds 19 [.i,.i,.l])/\(True)/\¬B T 23=true:=by
 refine Ax (nh:=19) (k:=3) (pcn:=23) (aO:=29) (y:=EG) (J:=Va) (nxt:=[.e 20,.e 28,.e 26]) (H:=[.c (.int 0),.e 18,.e 14]) (fv:=[13,1,16,2]) (R:=[.i,.i,.l]) (by kernel_rfl) rfl rfl rfl rfl j (by kernel_rfl) (by kernel_rfl) h (Ai i) (fun s=>True) (fun s=>((aI s 1)).toNat) ?_ ?_
 .show True;clear j h i;trivial
 .intro A c d l;replace l:True:=l;clear j h i;replace d:AF A EG:=d;have e:=d;clear d;have u:I A 13=I T 13:=fvI (c 13 (by decide));have t:I A 1=I T 1:=fvI (c 1 (by decide));have g:B A 16=B T 16:=fvB (c 16 (by decide));have v:I A 2=I T 2:=fvI (c 2 (by decide));clear c
  suffices o:(B A 23=true->False)/\(B A 23=true->(True))/\(B A 23=true->((I A 28)).toNat < ((I A 20)).toNat) from
   let⟨r,q,p⟩:=o;⟨⟨r,trivial⟩,fun b=>⟨q b,p b⟩⟩
  refine⟨?_,?_,?_⟩
  .obtain⟨-,a,-⟩:=e;simp only[AE,AI,zR] at a;intro b;exact absurd (a.1 b).1 (by rw[g];exact ao)
  .obtain⟨-,a,-⟩:=e;simp only[AE,AI,zR] at a;intro b;exact absurd (a.1 b).1 (by rw[g];exact ao)
  .obtain⟨-,a,-⟩:=e;simp only[AE,AI,zR] at a;intro b;exact absurd (a.1 b).1 (by rw[g];exact ao)
theorem V9 (o:(I T 13)=20/\I T 2<=20)(c:AJ T (hds 11 [.i,.i,.i,.l]++DN [1,2,7] (AM (AM (hds 3 [.i,.i,.l]++(AM (Ak 0 Eb.ks) HR)) Cp) FZ)))(a:AU T (Ha.map En.be)):
  (AF T FT)/\(¬B T 16=true)/\((JW).owes (Lt.map (Rf.eval T)))/\(True)/\(¬B T 23=true)/\(AF T EG)/\(AF T JF)/\AJ T (AM (AM (hds 19 [.i,.i,.l]++(AM (hds 11 [.i,.i,.i,.l]++DN [1,2,7] (AM (AM (hds 3 [.i,.i,.l]++(AM (Ak 0 Eb.ks) HR)) Cp) FZ)) FT)) EG) JF):=by
 unfold Ha at a;rw[ti,ti,ti] at a;have g:=a.left;replace a:=a.right;have h:=a.left;replace a:=a.right;have b:=a.left;replace a:=a.right;obtain⟨e,d⟩:=AN c (by kernel_rfl) g;have ao:=eY o e;obtain⟨t,i,r,s⟩:=lH ao d b h;have p:=(AN (i.append d) (l:=EG) (by kernel_rfl) b);obtain⟨j,c⟩:=p;clear g b h d i;obtain⟨k,q⟩:=AN c (by kernel_rfl) a;exact⟨e,ao,t,r,s,j,k,q⟩
theorem kM (E:(I T 2)<=20)(l:AJ T (AM (AM (hds 3 [.i,.i,.l]++(AM (Ak 0 Eb.ks) HR)) Cp) FZ))(i:AU T (Ha.map En.be))(j:AU T ((Ag MK [.i,.i,.i,.l] P8).map En.be)):
  (MK).owes (P8.map (Rf.eval T))/\AJ T (hds 11 [.i,.i,.i,.l])/\((I T 13)=20/\L T 14=L T 10)/\¬B T 24=true:=by
 refine HC (nh:=11) (k:=4) (pcn:=24) (aO:=36) (y:=Ha) (J:=Vg) (nxt:=[.e 19,.e 20,.e 35,.e 34]) (H:=[.e 3,.e 4,.c (.int 20),.e 10]) (fv:=[1,2,7]) (R:=[.i,.i,.i,.l]) (by kernel_rfl) rfl rfl rfl rfl l (by kernel_rfl) i (Ai j) (fun s=>(aI s 2)=20/\(aL s 3)=L T 10) (fun s=>((aI s 2)).toNat) ?_ ?_
 .show (20:Int)=20/\L T 10=L T 10;clear l i j;exact⟨rfl,rfl⟩
 .intro A e w v o;replace o:(I A 13)=20/\L A 14=L T 10:=o;have Q:I A 1=I T 1:=fvI (e 1 (by decide));have C:I A 2=I T 2:=fvI (e 2 (by decide));have V:B A 7=B T 7:=fvB (e 7 (by decide));clear e;clear l i j;have D:(I A 13)=20/\I A 2<=20:=by
   rw[C];exact⟨o.1,E⟩
  obtain⟨q,ao,O,W,X,p,r,x⟩:=V9 D w v;clear w v;have F:=Bp x (ar:=[.i,.i,.i,.l]) (rs:=[.e 19,.e 20,.e 35,.e 34]) (by kernel_rfl);clear x;have g:=q;clear q;have h:=p;clear p;have z:=r;clear r
  suffices K:(B A 31=true->False)/\(B A 24=true->((I A 35)=20/\L A 34=L T 10))/\(B A 24=true->((I A 35)).toNat < ((I A 13)).toNat) from
   let⟨P,N,M⟩:=K;⟨F,⟨P,(fun _=>O),trivial⟩,fun d=>⟨N d,M d⟩⟩
  refine⟨?_,?_,?_⟩
  .obtain⟨a,b,-⟩:=g;obtain⟨-,-,c,-⟩:=h;obtain⟨-,-,t,-⟩:=z;simp only[AE,AI,zN,zR] at a b c t;intro d;have u:=a.1 (b.1 (c.1 (t.1 d).1).1).2;omega
  .obtain⟨a,b,-⟩:=g;obtain⟨-,-,c,-⟩:=h;simp only[AE,AI,zN,zR] at a b c;intro d;have u:=a.1 (b.1 (c.1 d).1).2;omega
  .obtain⟨a,b,-⟩:=g;obtain⟨-,-,c,-⟩:=h;simp only[AE,AI,zN,zR] at a b c;intro d;have u:=a.1 (b.1 (c.1 d).1).2;omega
theorem pe (z:xy T)(y:∀u∈(L T 0),AK AD KS u)(D:0<=I T 1)(x:I T 1<=140737488355328)(J:xC T)(l:wE T (I T 3) (I T 4) (L T 5))(E:¬B T 6=true)(w:(I T 2)<=20)(p:(I T 13)=20/\L T 14=L T 10)(F:¬B T 24=true)(ao:¬B T 16=true)(C:True)(H:¬B T 23=true)(v:(I T 13)=20/\I T 2<=20)(h:AF T Cp)(g:AF T FZ)(j:AF T FT)(i:AF T EG)(k:AF T JF):
  ((L T 14)=(AR ltT (L T 0) 0 (I T 2).toNat))/\
  (B T 7=true->((L T 5)).length=I T 1/\0<=I T 3/\I T 3<=I T 2/\I T 2<=I T 1):=by
 have q:=h;clear h;have o:=g;clear g;have r:=j;clear j;have s:=i;clear i;have t:=k;clear k;refine⟨?_,?_⟩
 .obtain⟨c,-⟩:=o;replace c:L T 10=(AR ltT (L T 5) (I T 3).toNat (I T 2).toNat):=c;rw[p.2,c];rcases l with⟨b,d,a⟩|⟨b,d,a,e⟩
  .rw[b,a];rfl
  .rw[b,a];show AR ltT (L T 5) 20 20=AR ltT (L T 0) 0 20;rw[Jf (tY _) (tY _),e]
 .intro A;rcases l with⟨b,d,a⟩|⟨b,d,a,e⟩
  .rw[a];omega
  .rw[e,Dv (uQ _) (by omega)];omega
theorem nq:Ae Try.prog 122 Eb:=by
 refine Aq (l:=[(138,Gi),(139,Ti)]) BU (by simp only[uA];exact⟨rG,qE,fun _ h=>absurd h (by simp)⟩) pY (by kernel_rfl) fun T us D s p g O a=>?_;change us.length=3 at p;obtain⟨⟨o,W⟩,⟨q,k⟩,-⟩:=O;replace o:(L T 0).length<=140737488355328:=o;have C:∀u∈(L T 0),AK AD KS u:=fun u X=>by
  obtain⟨i,Y⟩:=uH.1 X;exact W i u Y
 replace q:0<=I T 1:=q;replace k:I T 1<=140737488355328:=k;have z:aL us 0=L T 0:=inL s p (by decide);have V:aI us 1=I T 1:=inI s p (by decide);have A:aI us 2=I T 2:=inI s p (by decide);have t:((L T 0)).length=I T 1/\I T 2=I T 1/\I T 1<=20:=by
  have h:=D (.s "stabS.p0",Jd) (by simp[Eb]);change Jd us at h;unfold Jd at h;simp only[z,V,A] at h;exact h
 clear D;rw[ti,ti,ti,ti,ti,ti] at a;have d:=a.left;replace a:=a.right;have e:=a.left;replace a:=a.right;have c:=a.left;replace a:=a.right;obtain⟨A0,b⟩:=AN g (by kernel_rfl) d;obtain⟨al,j,E,H⟩:=iH t b c e;have P:=(AN (j.append b) (l:=Cp) (by kernel_rfl) c);obtain⟨w,g⟩:=P;clear d c e b j;have d:=a.left;replace a:=a.right;have e:=a.left;replace a:=a.right;have c:=a.left;replace a:=a.right;obtain⟨v,b⟩:=AN g (by kernel_rfl) d;have r:=fc o C q k t E H w v;obtain⟨a0,j,F,ad⟩:=kM r b c e;have x:(I T 13)=20/\I T 2<=20:=by
  have a5:I T 1=I T 1:=rfl;have N:I T 2=I T 2:=rfl;have a6:B T 7=B T 7:=rfl;have Z:=F;rw[N];exact⟨Z.1,r⟩
 obtain⟨K,ao,a7,ab,ag,J,M,y⟩:=V9 x (j.append (CM (fun _ _=>rfl) b)) c;have g:=y.append b;clear d c e b j y;obtain⟨A3,Q⟩:=At (R:=[.l]) (rs:=dA) g (by kernel_rfl) a;obtain⟨q0,r0⟩:=pe o C q k t E H r F ad ao ab ag x w v K J M;refine⟨⟨(fun _=>a0),r0,(fun _=>al),trivial⟩,Q.trans ?_⟩;exact (lc (by show U.list (L T 14)= .list (Ma us);unfold Ma;rw[z,A];exact vD U.list q0) rfl)
def Oz:List U->List (List U):=fun us=>(A6 ltT (aL us 0))
def Ld:List U->Prop:=fun us=>((aL us 0)).length<=20
def M6:AZ:={ sh:=[.one (.list [.str,k64,k64,k64,k64,k64]),.cst (.fn (.func 72) [] [])],blks:=[],outs:=[(.s "ordS.0",Cw Oz)],c:= .ro 1 [.str,k64,k64,k64,k64,k64],m':=[],pre:=[(.s "ordS.p0",Ld)] }
def eZ:List En:=[⟨1,.id .l,[.c (.list [])]⟩,
 ⟨2,.id .i,[.c (.int 0)]⟩,
 vl 3 1 0,
 vT 4 3,
 ⟨5,.outL "stabS.0" Ma,[.e 3,.e 4,.e 4]⟩]
def XG:List En:=eZ
def rT:List ObE:=[⟨none,.pre "stabS.p0" Jd,[.e 3,.e 4,.e 4]⟩,
 ⟨none,.fits 56,[.e 1,.e 0]⟩]
def iN:List Rf:=[.e 5]
theorem rR:M6.sees iN (M6.runC Try.prog NP [(122,Eb)] Aa 3000 20 71)=some ((XG).map En.be,rT.map ObE.be,[]):=by kernel_rfl
theorem rS (j:xy T)(i:∀u∈(L T 0),AK AD KS u)(k:((L T 0)).length<=20)(h:AF T XG):
  ((L T 5)=(A6 ltT (L T 0)))/\
  (((L T 3)).length=I T 4/\I T 4=I T 4/\I T 4<=20)/\
  ((((L T 1)).length+((L T 0)).length)*56<=140737488355328):=by
 have d:=h;clear h;refine⟨?_,?_,?_⟩
 .obtain⟨a,-,c,b,e,-⟩:=d;replace e:L T 5=(AR ltT (L T 3) 0 (I T 4).toNat):=e;simp only[AE,AI,zR,zL,zS] at a c b;have g:(L T 3)=L T 0:=by rw[c,a];rfl
  rw[e,b,g];exact OX (by omega)
 .obtain⟨a,-,c,b,-⟩:=d;simp only[AE,AI,zR,zL,zS] at a c b;have g:(L T 3)=L T 0:=by rw[c,a];rfl
  refine⟨b.symm,rfl,?_⟩;rw[b,g];omega
 .obtain⟨a,-⟩:=d;simp only[AE,zR,zL,zS] at a;rw[a];show (0+_)*_<=_;omega
theorem ph:Ae Try.prog 71 M6:=by
 refine Nj L9 (l:=[(122,Eb)]) BU (by simp only[uA];exact⟨nq,fun _ h=>absurd h (by simp)⟩) rR (by kernel_rfl) fun T us c p d o g j=>?_;change us.length=1 at d;obtain⟨⟨a,q⟩,-⟩:=g;replace a:(L T 0).length<=140737488355328:=a;have r:∀u∈(L T 0),AK AD KS u:=fun u s=>by
  obtain⟨i,Y⟩:=uH.1 s;exact q i u Y
 have b:aL us 0=L T 0:=inL p d (by decide);have t:((L T 0)).length<=20:=by
  have h:=c (.s "ordS.p0",Ld) (by simp[M6]);change Ld us at h;unfold Ld at h;simp only[b] at h;exact h
 clear c
 skip
 obtain⟨e,k⟩:=At (R:=[.l]) (rs:=iN) o (by kernel_rfl) j;obtain⟨v,w,ax⟩:=rS a r t e;refine⟨⟨(fun _=>w),(fun _=>ax),trivial⟩,k.trans ?_⟩;exact (lc (by show U.list (L T 5)= .list (Oz us);unfold Oz;rw[b];exact vD U.list v) rfl)
end
end Go.Eng
end
