/-
  A part of the proof: the evaluator of code and its soundness.
-/
import Derived.Test.YtikbgnmcfncnaaaE4
import Derived.Test.YtikbgnmcfncnaaaE5
import Derived.Test.YtikbgnmcfncnaaaKB3
import Derived.WalkKit
import Derived.Lib.Strings
import Derived.Lib.Walk
import Derived.Lib.Bytealg
import Derived.Test.YtikbgnmcfncnaaaKB0
set_option linter.unusedVariables false
set_option linter.unusedSimpArgs false
noncomputable section
namespace Go.Eng
section
open Go Go.Eng Go.Proofs
set_option maxHeartbeats 4000000
set_option maxRecDepth 100000
def G6:List U->Int:=fun us=>(Bc (aL us 1))
def Le:List U->Prop:=fun us=>BW (aL us 0)=0/\¬Bc (aL us 1)=0
def Lm:Bf:={ sh:=[.one (.list [.str,k64,k64]),.one (.list [k64,k64,k64,.bool,.str,.str,.bool,k64,k64])],blks:=[],outs:=[(.s "SettleL.0",CW G6)],c:= .tup [.cv .nilSlice,(Cy 2)],m':=[],pre:=[(.s "SettleL.p0",Le)] }
def Zc:List En:=[⟨2,.outI "checkPk.0" Ig,[.e 0]⟩,
 ⟨3,.outI "checkLn.0" PG,[.e 1]⟩]
def Te:List En:=Zc
def m6:List ObE:=[⟨none,.pre "checkLn.p0" PK,[.e 1]⟩,
 ⟨none,.pre "checkPk.p0" G4,[.e 0]⟩]
def X4:List Rf:=[.e 3]
theorem qA:Lm.sees X4 (Lm.runC Try.prog Gy [(41,Ea),(47,L6)] NZ 3000 20 24)=some ((Te).map En.be,m6.map ObE.be,[]):=by kernel_rfl
abbrev kB(T:Tab):Prop:=(L T 0).length<=140737488355328
abbrev kL(T:Tab):Prop:=(L T 1).length<=140737488355328
theorem m9 {T:Tab}(e:kB T)(g:kL T)(c:BW (L T 0)=0/\¬Bc (L T 1)=0)(b:BV T Te):
  ((I T 3)=(Bc (L T 1)))/\
  (¬Bc (L T 1)=0)/\
  (BW (L T 0)=0):=by
 have d:=b;clear b;refine⟨?_,?_,?_⟩
 .obtain⟨-,a,-⟩:=d;replace a:I T 3=(Bc (L T 1)):=a;exact a
 .exact c.2
 .exact c.1
theorem lh:Bl Try.prog 24 Lm:=by
 refine GX FU (l:=[(41,Ea),(47,L6)]) CP (by simp only[AW];exact⟨Jk,Wy,fun _ h=>absurd h (by simp)⟩) qA (by kernel_rfl) fun T us g d c q k o=>?_;change us.length=2 at c;obtain⟨⟨a,v⟩,⟨b,w⟩,-⟩:=k;replace a:(L T 0).length<=140737488355328:=a;replace b:(L T 1).length<=140737488355328:=b;have r:=inL (j:=0) d c (by decide);have e:=inL (j:=1) d c (by decide);have s:BW (L T 0)=0/\¬Bc (L T 1)=0:=by
  have h:=g (.s "SettleL.p0",Le) (by simp[Lm]);change Le us at h;unfold Le at h;simp only[r,e] at h;exact h
 clear g
 skip
 obtain⟨i,p⟩:=B8 (A:=[.i]) (ah:=X4) q (by kernel_rfl) o;obtain⟨t,u,aB⟩:=m9 a b s i;refine⟨⟨(fun _=>u),(fun _=>aB),trivial⟩,p.trans ?_⟩;exact (lc (by show U.int (I T 3)= .int (G6 us);unfold G6;rw[e];exact BI U.int t) rfl)
end
section
open Go Go.Eng Go.Proofs
set_option maxRecDepth 100000
def Dt:List U->List (List U):=fun us=>(if (if¬BW (aL us 0)=0 then BW (aL us 0) else Bc (aL us 1))=0 then FP (aL us 0) (aL us 1) else [])
def Dz:List U->Int:=fun us=>((if¬BW (aL us 0)=0 then BW (aL us 0) else Bc (aL us 1)))
def Vg:List U->Prop:=fun us=>((aL us 1)).length<=40\/200 < ((aL us 1)).length
def P6:Bf:={ sh:=[.one (.list [.str,k64,k64]),.one (.list [k64,k64,k64,.bool,.str,.str,.bool,k64,k64])],blks:=[],outs:=[(.s "Settle.0",D1 Dt),(.s "Settle.1",CW Dz)],c:= .tup [.ro 2 [.str,k64,k64],(Cy 3)],m':=[],pre:=[(.s "Settle.p0",Vg)] }
theorem ABE:Bl Try.prog 24 P6:=WL rfl rfl (fun _=>QA) fun us b g=>by
 replace b:us.length=2:=b;have A:(aL us 1).length<=40\/200 < (aL us 1).length:=g _ (Al.2 rfl);by_cases c:BW (aL us 0)=0
 .by_cases h:Bc (aL us 1)=0
  .have z:(aL us 1).length<=40:=by have:=Mp h;omega
   have l:Dt us=Fr us:=by unfold Dt Fr;rw[c,h];rfl
   have o:Dz us=Fu us:=by unfold Dz Fu;rw[c,h];rfl
   refine⟨E0,⟨kW,fun p g=>by rw[Al.1 g];exact⟨c,h,z⟩,rfl,rfl,rfl,rfl,fun T az W w v t d q r=>dP t (fun x u=>?_) r⟩⟩;have y:P6.us us=E0.us us:=by
    show us++[U.list (Dt us),U.int (Dz us)]=us++[U.list (Fr us),U.int (Fu us)];rw[l,o]
   have u:x < (E0.us us).length:=by
    show x < (us++[U.list (Fr us),U.int (Fu us)]).length;rw[AP,b];exact u
   have e:=AF u;rw[q x _ e,d x _ (by rw[y];exact e)]
  .have l:Dt us=[]:=by unfold Dt;exact BG (fun a=>h (Q7 a).2)
   have o:Dz us=G6 us:=by unfold Dz;unfold G6;rw[BG (fun k=>k c)]
   refine⟨Lm,⟨lh,fun p g=>by rw[Al.1 g];exact⟨c,h⟩,rfl,rfl,rfl,rfl,fun T az W w v t d q r=>?_⟩⟩;have i:T 2= .list (Dt us):=d 2 _ (by unfold Bf.us;rw[AS (by omega),b];rfl);have j:T 3= .int (Dz us):=d 3 _ (by unfold Bf.us;rw[AS (by omega),b];rfl);have s:az 2= .int (G6 us):=q 2 _ (by unfold Bf.us;rw[AS (by omega),b];rfl);rw[l] at i;rw[o] at j;exact S9 (by decide) (by decide) i (j.trans s.symm) r
 .have l:Dt us=[]:=by unfold Dt;exact BG (fun a=>c (Q7 a).1)
  have o:Dz us=G0 us:=by unfold Dz;unfold G0;rw[BH c]
  refine⟨MB,⟨lT,fun p g=>by rw[Al.1 g];exact c,rfl,rfl,rfl,rfl,fun T az W w v t d q r=>?_⟩⟩;have i:T 2= .list (Dt us):=d 2 _ (by unfold Bf.us;rw[AS (by omega),b];rfl);have j:T 3= .int (Dz us):=d 3 _ (by unfold Bf.us;rw[AS (by omega),b];rfl);have s:az 2= .int (G0 us):=q 2 _ (by unfold Bf.us;rw[AS (by omega),b];rfl);rw[l] at i;rw[o] at j;exact S9 (by decide) (by decide) i (j.trans s.symm) r
end
section
open Go Go.Eng Go.Proofs
set_option maxHeartbeats 4000000
set_option maxRecDepth 100000
def AAL:List U->Bool:=fun us=>(AAN (aL us 0) (aL us 1))
def AAJ:Bf:={ sh:=[.one (.list [k64,k64,k64,.bool,.str,.str,.bool,k64,k64]),.one (.list [k64,k64,k64,.bool,.str,.str,.bool,k64,k64])],blks:=[],outs:=[(.s "sameSh.0",Jx AAL)],c:= .b 2,m':=[],pre:=[] }
def AAs:List En:=[ABL 2 0,
 ABL 3 1,
 ⟨4,.ne,[.e 2,.e 3]⟩,
 ABH 5 4]
def AAK:List En:=AAs
def AAr:List En:=[ABL 7 0,
 ABI 8 6 7,
 nl 9 5 8,
 ABF 10 5 8,
 ABM 11 0 6,
 ABJ 12 0 6,
 ABK 13 0 6,
 ABP 14 0 6,
 ABN 15 0 6,
 ABO 16 0 6,
 ABQ 17 0 6,
 ABR 18 0 6,
 ABS 19 0 6,
 ABM 20 1 6,
 ABJ 21 1 6,
 ABK 22 1 6]
def AAn:List En:=[ABP 23 1 6,
 ABN 24 1 6,
 ABO 25 1 6,
 ABQ 26 1 6,
 ABR 27 1 6,
 ABS 28 1 6,
 ⟨29,.nes [.i,.i,.i,.b,.s,.s,.b,.i,.i],[.e 11,.e 20,.e 12,.e 21,.e 13,.e 22,.e 14,.e 23,.e 15,.e 24,.e 16,.e 25,.e 17,.e 26,.e 18,.e 27,.e 19,.e 28]⟩,
 nl 30 9 29,
 ABF 31 9 29,
 ⟨32,.w2 .i64 .add,[.e 6,.c (.int 1)]⟩]
def AAD:List En:=AAr++(AAn)
def AAe:List ObE:=[⟨some 9,.inl,[.e 6,.e 1]⟩,⟨some 9,.inl,[.e 6,.e 0]⟩]
def AAM:Bs:=mkD 6 1 AAD 31 [.e 32] AAe [1,0,5]
def AAP:List Rf:=[.e 1,.e 0,.e 5,.c (.int 0)]
def AAo:List En:=[⟨33,.ite .b,[.e 30,.c (.bool false),.c (.bool true)]⟩,
 ABG 34 30 10,
 ⟨35,.ite .b,[.e 4,.c (.bool false),.e 33]⟩,
 ABG 36 4 34]
def AAi:List En:=AAo
def ABC:List ObE:=[⟨some 5,.owes AAM,[.e 1,.e 0,.e 5,.c (.int 0)]⟩]
def AAw:List Rf:=[.e 35]
theorem ABA:AAJ.sees AAw (AAJ.run Try.prog [] Bp 3000 20 25)=some ((AAK++((B5 AAM [.i] AAP)++(AAD++(AAi)))).map En.be,ABC.map ObE.be,[]):=by kernel_rfl
variable{T:Tab}
theorem AAy (o:kB T)(k:∀u∈(L T 0),Bb BT KB u)(p:kL T)(l:∀u∈(L T 1),Bb BT KB u)(b:BV T AAK):
  ((B T 5)=true->((L T 0)).length=((L T 1)).length):=by
 have i:=b;clear b;have j:(B T 5)=true->((L T 0)).length=((L T 1)).length:=by
  obtain⟨c,d,e,g,-⟩:=i;simp only[BS,BZ,zR,zL] at c d e g;intro h;have n:¬ ¬I T 2=I T 3:=fun a=>absurd (e.2 a) (by simpa using g.1 h);have:=At n;rw[c,d] at this;omega
 exact j
abbrev fm(T:Tab)(a:Int):Prop:=0<=a/\a <=((L T 0)).length/\∀j:Nat,(j:Int) <a ->Q3 (((L T 0)).getD j []) (((L T 1)).getD j [])=true
abbrev kM(T:Tab):Prop:=(B T 5)=true->((L T 0)).length=((L T 1)).length
theorem AA0 (bi:kB T)(g5:kM T)(hS:Ba T (Bh (CA 0 AAJ.ks) AAK))(hB:Bi T (AAD.map En.be))(hH:Bi T ((B5 AAM [.i] AAP).map En.be)):
  (AAM).owes (AAP.map (Rf.eval T))/\Ba T (hds 6 [.i])/\(fm T (I T 6))/\¬B T 31=true:=by
 refine CK (nh:=6) (k:=1) (pcn:=31) (R:=33) (b:=AAD) (K:=AAe) (nxt:=[.e 32]) (H:=[.c (.int 0)]) (fv:=[1,0,5]) (A:=[.i]) (by kernel_rfl) rfl rfl rfl rfl hS (by kernel_rfl) (by kernel_rfl) hB (B6 hH) (fun s=>fm T (aI s 0)) (fun s=>(((L T 0)).length - (aI s 0)).toNat) ?_ ?_
 .show fm T (0:Int);clear hS hB hH;exact⟨Aw _,by omega,fun j h=>by omega⟩
 .intro J v o p;replace p:fm T (I J 6):=p;clear hS hB hH;replace o:BV J AAD:=o;obtain⟨u,o⟩:=o.cut;have F1:=o;clear o;have ad:=fvL (v 1 (by decide));have i:=fvL (v 0 (by decide));have a3:=fvB (v 5 (by decide));clear v
  suffices hz:(B J 9=true->0<=I J 6/\I J 6 < ((L J 1)).length)/\(B J 9=true->0<=I J 6/\I J 6 < ((L J 0)).length)/\(B J 31=true->(fm T (I J 32)))/\(B J 31=true->(((L T 0)).length - (I J 32)).toNat < (((L T 0)).length - (I J 6)).toNat) from
   let⟨r0,aB,nx,mz⟩:=hz;⟨⟨r0,aB,trivial⟩,fun e=>⟨nx e,mz e⟩⟩
  refine⟨?_,?_,?_,?_⟩
  .obtain⟨a,c,d,-⟩:=u;simp only[BS,BZ,zR,zL] at a c d;obtain⟨v1,v2,w⟩:=p;intro e;have t:=d.1 e;have l:=c.1 t.2;rw[a,i] at l;have g:=g5 (by rw[<-a3];exact t.1)
   first|rw[i]|rw[ad]
   omega
  .obtain⟨a,c,d,-⟩:=u;simp only[BS,BZ,zR,zL] at a c d;obtain⟨v1,v2,w⟩:=p;intro e;have t:=d.1 e;have l:=c.1 t.2;rw[a,i] at l;have g:=g5 (by rw[<-a3];exact t.1)
   first|rw[i]|rw[ad]
   omega
  .obtain⟨a,c,d,-,x,y,z,C,D,E,F,M,N,O,P,Q,-⟩:=u;obtain⟨V,W,X,Y,Z,ab,a2,-,q,r,-⟩:=F1;simp only[BS,BZ,zN,zR,Dw,and_true,w2P,zL,zS] at a c d x y z C D E F M N O P Q V W X Y Z ab a2 q r;obtain⟨v1,v2,w⟩:=p;intro e;have ag:=q.1 e;have l:=c.1 (d.1 ag.1).2;rw[a,i] at l;have bb:=o2' r (by omega);refine⟨by omega,by omega,fun j hj=>?_⟩;rcases Int.lt_or_le (j:Int) (I J 6) with h|h
   .exact w j h
   .have ej:j=(I J 6).toNat:=by omega
    rw[ej];refine AAT.1 (At fun hn=>?_);rw[i] at x y z C D E F M N;rw[ad] at O P Q V W X Y Z ab;rw[<-x,<-y,<-z,<-C,<-D,<-E,<-F,<-M,<-N,<-O,<-P,<-Q,<-V,<-W,<-X,<-Y,<-Z,<-ab] at hn;have:=a2.2 hn;rw[this] at ag;cases ag.2
  .obtain⟨a,c,d,-⟩:=u;obtain⟨-,-,-,-,-,-,-,-,q,r,-⟩:=F1;simp only[BS,BZ,zN,zR,w2P,zL] at a c d q r;obtain⟨v1,v2,w⟩:=p;intro e;have l:=c.1 (d.1 (q.1 e).1).2;rw[a,i] at l;have bb:=o2' r (by omega);omega
theorem ABB (bb:kB T)(a8:∀u∈(L T 0),Bb BT KB u)(bc:kL T)(a9:∀u∈(L T 1),Bb BT KB u)(g5:kM T)(a2:fm T (I T 6))(a5:¬B T 31=true)(k:BV T AAK)(a:BV T AAD)(l:BV T AAi):
  ((B T 35)=(AAN (L T 0) (L T 1))):=by
 have F0:=k;clear k;obtain⟨F1,a⟩:=a.cut;have F2:=a;clear a;have F3:=l;clear l
 .obtain⟨y,N,V,W,-⟩:=F0;obtain⟨e,g,i,-,o,p,q,r,s,t,v,w,x,z,A,C,-⟩:=F1;obtain⟨D,E,F,H,J,K,M,d,O,-⟩:=F2;obtain⟨P,-,Q,-⟩:=F3;simp only[BS,BZ,zN,zC,zR,Dw,and_true,zL,zS] at y N V W e g i o p q r s t v w x z A C D E F H J K M d O P Q;obtain⟨v1,v2,v3⟩:=a2;have ad:(B T 35)=true↔AAN (L T 0) (L T 1)=true:=by
   rw[AA2,Q];by_cases b:(B T 4)=true
   .have:=V.1 b;rw[y,N] at this;refine⟨fun h=>?_,fun h=>absurd h.1 (by omega)⟩;have:=h.1;rw[b] at this;cases this
   .have Y:=W.2 (by simpa using b);have hl:=g5 Y;have ax:(B T 33)=true↔¬B T 30=true:=by rw[P];simp
    rw[ax];by_cases c:(I T 6) < I T 7
    .have Z:=i.2 ⟨Y,g.2 c⟩;have X:(B T 29)=true:=by
      by_cases h:(B T 29)=true
      .exact h
      .exact absurd (O.2 ⟨Z,by simpa using h⟩) a5
     have a1:=d.2 ⟨Z,X⟩;have hn:=M.1 X;rw[o,p,q,r,s,t,v,w,x,z,A,C,D,E,F,H,J,K] at hn;refine⟨fun h=>absurd a1 h.2,fun h=>absurd (AAT.2 (h.2 (I T 6).toNat (by rw[e] at c;omega))) hn⟩
    .have n9:¬B T 9=true:=fun h=>c (g.1 (i.1 h).2);have a3:¬B T 30=true:=fun h=>n9 (d.1 h).1;rw[e] at c;refine⟨fun _=>⟨by omega,fun j hj=>v3 j (by omega)⟩,fun _=>⟨by simpa using b,a3⟩⟩
  first|exact ad|exact Bool.eq_iff_iff.2 ad
theorem AA1:Bl Try.prog 25 AAJ:=by
 refine B7 (l:=[]) CP (by intro p h;exact absurd h (by simp)) ABA (by kernel_rfl) fun T us N w o e D a=>?_;change us.length=2 at o;obtain⟨⟨b,K⟩,⟨c,M⟩,-⟩:=D;replace b:(L T 0).length<=140737488355328:=b;have x:∀u∈(L T 0),Bb BT KB u:=fun u k=>by
  obtain⟨i,ab⟩:=Ac.1 k;exact K i u ab
 replace c:(L T 1).length<=140737488355328:=c;have y:∀u∈(L T 1),Bb BT KB u:=fun u k=>by
  obtain⟨i,ab⟩:=Ac.1 k;exact M i u ab
 have H:=inL (j:=0) w o (by decide);have J:=inL (j:=1) w o (by decide);clear N;rw[AL,AL,AL] at a;obtain⟨s,a⟩:=cutB a;obtain⟨t,a⟩:=cutB a;obtain⟨d,a⟩:=cutB a;obtain⟨q,g⟩:=Be e (by kernel_rfl) s;have r:=AAy b x c y q;obtain⟨Q,v,O,P⟩:=AA0 b r g d t;have E:=(Be (v.append g) (l:=AAD) (by kernel_rfl) d);obtain⟨C,e⟩:=E;clear s d t g v;obtain⟨z,F⟩:=B8 (A:=[.b]) (ah:=AAw) e (by kernel_rfl) a;have V:=ABB b x c y r O P q C z;refine⟨⟨(fun _=>Q),trivial⟩,F.trans ?_⟩;exact (lc (by show U.bool (B T 35)= .bool (AAL us);unfold AAL;rw[H,J];exact BI U.bool V) rfl)
def Mf:List U->Bool:=fun us=>(Lz (aL us 0) (aL us 1))
def K7:Bf:={ sh:=[.one (.list [.str,k64,k64]),.one (.list [.str,k64,k64])],blks:=[],outs:=[(.s "samePl.0",Jx Mf)],c:= .b 2,m':=[],pre:=[] }
def bu:List En:=[ABL 2 0,
 ABL 3 1,
 ⟨4,.ne,[.e 2,.e 3]⟩,
 ABH 5 4]
def Ma:List En:=bu
def bV:List En:=[ABL 7 0,
 ABI 8 6 7,
 nl 9 5 8,
 ABF 10 5 8,
 ABY 11 0 6,
 ABJ 12 0 6,
 ABK 13 0 6,
 ABY 14 1 6,
 ABJ 15 1 6,
 ABK 16 1 6,
 ⟨17,.nes [.s,.i,.i],[.e 11,.e 14,.e 12,.e 15,.e 13,.e 16]⟩,
 nl 18 9 17,
 ABF 19 9 17,
 ⟨20,.w2 .i64 .add,[.e 6,.c (.int 1)]⟩]
def Gu:List En:=bV
def WZ:List ObE:=[⟨some 9,.inl,[.e 6,.e 1]⟩,⟨some 9,.inl,[.e 6,.e 0]⟩]
def Ms:Bs:=mkD 6 1 Gu 19 [.e 20] WZ [1,0,5]
def Qu:List Rf:=[.e 1,.e 0,.e 5,.c (.int 0)]
def aP:List En:=[⟨21,.ite .b,[.e 18,.c (.bool false),.c (.bool true)]⟩,
 ABG 22 18 10,
 ⟨23,.ite .b,[.e 4,.c (.bool false),.e 21]⟩,
 ABG 24 4 22]
def Wu:List En:=aP
def rT:List ObE:=[⟨some 5,.owes Ms,[.e 1,.e 0,.e 5,.c (.int 0)]⟩]
def az:List Rf:=[.e 23]
theorem qd:K7.sees az (K7.run Try.prog [] Bp 3000 20 26)=some ((Ma++((B5 Ms [.i] Qu)++(Gu++(Wu)))).map En.be,rT.map ObE.be,[]):=by kernel_rfl
theorem fZ (o:kB T)(k:∀u∈(L T 0),Bb BT KP u)(p:kL T)(l:∀u∈(L T 1),Bb BT KP u)(b:BV T Ma):
  ((B T 5)=true->((L T 0)).length=((L T 1)).length):=by
 have i:=b;clear b;have j:(B T 5)=true->((L T 0)).length=((L T 1)).length:=by
  obtain⟨c,d,e,g,-⟩:=i;simp only[BS,BZ,zR,zL] at c d e g;intro h;have n:¬ ¬I T 2=I T 3:=fun a=>absurd (e.2 a) (by simpa using g.1 h);have:=At n;rw[c,d] at this;omega
 exact j
abbrev fp(T:Tab)(a:Int):Prop:=0<=a/\a <=((L T 0)).length/\∀j:Nat,(j:Int) <a ->Ju (((L T 0)).getD j []) (((L T 1)).getD j [])=true
theorem kG (a0:kB T)(Y:kM T)(P:Ba T (Bh (CA 0 K7.ks) Ma))(N:Bi T (Gu.map En.be))(O:Bi T ((B5 Ms [.i] Qu).map En.be)):
  (Ms).owes (Qu.map (Rf.eval T))/\Ba T (hds 6 [.i])/\(fp T (I T 6))/\¬B T 19=true:=by
 refine CK (nh:=6) (k:=1) (pcn:=19) (R:=21) (b:=Gu) (K:=WZ) (nxt:=[.e 20]) (H:=[.c (.int 0)]) (fv:=[1,0,5]) (A:=[.i]) (by kernel_rfl) rfl rfl rfl rfl P (by kernel_rfl) (by kernel_rfl) N (B6 O) (fun s=>fp T (aI s 0)) (fun s=>(((L T 0)).length - (aI s 0)).toNat) ?_ ?_
 .show fp T (0:Int);clear P N O;exact⟨Aw _,by omega,fun j h=>by omega⟩
 .intro J v u o;replace o:fp T (I J 6):=o;clear P N O;replace u:BV J Gu:=u;have t:=u;clear u;have F:=fvL (v 1 (by decide));have i:=fvL (v 0 (by decide));have X:=fvB (v 5 (by decide));clear v
  suffices hz:(B J 9=true->0<=I J 6/\I J 6 < ((L J 1)).length)/\(B J 9=true->0<=I J 6/\I J 6 < ((L J 0)).length)/\(B J 19=true->(fp T (I J 20)))/\(B J 19=true->(((L T 0)).length - (I J 20)).toNat < (((L T 0)).length - (I J 6)).toNat) from
   let⟨r0,aB,nx,mz⟩:=hz;⟨⟨r0,aB,trivial⟩,fun e=>⟨nx e,mz e⟩⟩
  refine⟨?_,?_,?_,?_⟩
  .obtain⟨a,c,d,-⟩:=t;simp only[BS,BZ,zR,zL] at a c d;obtain⟨Q,V,w⟩:=o;intro e;have r:=d.1 e;have l:=c.1 r.2;rw[a,i] at l;have g:=Y (by rw[<-X];exact r.1)
   first|rw[i]|rw[F]
   omega
  .obtain⟨a,c,d,-⟩:=t;simp only[BS,BZ,zR,zL] at a c d;obtain⟨Q,V,w⟩:=o;intro e;have r:=d.1 e;have l:=c.1 r.2;rw[a,i] at l;have g:=Y (by rw[<-X];exact r.1)
   first|rw[i]|rw[F]
   omega
  .obtain⟨a,c,d,-,x,y,z,C,D,E,W,-,p,q,-⟩:=t;simp only[BS,BZ,zN,zR,Dw,and_true,w2P,zL,zS] at a c d x y z C D E W p q;obtain⟨Q,V,w⟩:=o;intro e;have M:=p.1 e;have l:=c.1 (d.1 M.1).2;rw[a,i] at l;have aw:=o2' q (by omega);refine⟨by omega,by omega,fun j hj=>?_⟩;rcases Int.lt_or_le (j:Int) (I J 6) with h|h
   .exact w j h
   .have ej:j=(I J 6).toNat:=by omega
    rw[ej];refine TX.1 (At fun Z=>?_);rw[i] at x y z;rw[F] at C D E;rw[<-x,<-y,<-z,<-C,<-D,<-E] at Z;have:=W.2 Z;rw[this] at M;cases M.2
  .obtain⟨a,c,d,-,-,-,-,-,-,-,-,-,p,q,-⟩:=t;simp only[BS,BZ,zN,zR,w2P,zL] at a c d p q;obtain⟨Q,V,w⟩:=o;intro e;have l:=c.1 (d.1 (p.1 e).1).2;rw[a,i] at l;have aw:=o2' q (by omega);omega
theorem ti (aw:kB T)(ag:∀u∈(L T 0),Bb BT KP u)(ax:kL T)(al:∀u∈(L T 1),Bb BT KP u)(Q:kM T)(W:fp T (I T 6))(Z:¬B T 19=true)(i:BV T Ma)(l:BV T Gu)(k:BV T Wu):
  ((B T 23)=(Lz (L T 0) (L T 1))):=by
 have M:=i;clear i;have N:=l;clear l;have O:=k;clear k
 .obtain⟨x,A,C,D,-⟩:=M;obtain⟨d,e,g,-,o,p,q,r,s,t,v,c,w,-⟩:=N;obtain⟨y,-,z,-⟩:=O;simp only[BS,BZ,zN,zC,zR,Dw,and_true,zL,zS] at x A C D d e g o p q r s t v c w y z;obtain⟨v1,v2,v3⟩:=W;have K:(B T 23)=true↔Lz (L T 0) (L T 1)=true:=by
   rw[jx,z];by_cases a:(B T 4)=true
   .have:=C.1 a;rw[x,A] at this;refine⟨fun h=>?_,fun h=>absurd h.1 (by omega)⟩;have:=h.1;rw[a] at this;cases this
   .have F:=D.2 (by simpa using a);have hl:=Q F;have P:(B T 21)=true↔¬B T 18=true:=by rw[y];simp
    rw[P];by_cases b:(I T 6) < I T 7
    .have H:=g.2 ⟨F,e.2 b⟩;have E:(B T 17)=true:=by
      by_cases h:(B T 17)=true
      .exact h
      .exact absurd (w.2 ⟨H,by simpa using h⟩) Z
     have V:=c.2 ⟨H,E⟩;have J:=v.1 E;rw[o,p,q,r,s,t] at J;refine⟨fun h=>absurd V h.2,fun h=>absurd (TX.2 (h.2 (I T 6).toNat (by rw[d] at b;omega))) J⟩
    .have Y:¬B T 9=true:=fun h=>b (e.1 (g.1 h).2);have X:¬B T 18=true:=fun h=>Y (c.1 h).1;rw[d] at b;refine⟨fun _=>⟨by omega,fun j hj=>v3 j (by omega)⟩,fun _=>⟨by simpa using a,X⟩⟩
  first|exact K|exact Bool.eq_iff_iff.2 K
theorem oX:Bl Try.prog 26 K7:=by
 refine B7 (l:=[]) CP (by intro p h;exact absurd h (by simp)) qd (by kernel_rfl) fun T us N w o e D a=>?_;change us.length=2 at o;obtain⟨⟨b,K⟩,⟨c,M⟩,-⟩:=D;replace b:(L T 0).length<=140737488355328:=b;have x:∀u∈(L T 0),Bb BT KP u:=fun u k=>by
  obtain⟨i,ab⟩:=Ac.1 k;exact K i u ab
 replace c:(L T 1).length<=140737488355328:=c;have y:∀u∈(L T 1),Bb BT KP u:=fun u k=>by
  obtain⟨i,ab⟩:=Ac.1 k;exact M i u ab
 have H:=inL (j:=0) w o (by decide);have J:=inL (j:=1) w o (by decide);clear N;rw[AL,AL,AL] at a;obtain⟨s,a⟩:=cutB a;obtain⟨t,a⟩:=cutB a;obtain⟨d,a⟩:=cutB a;obtain⟨q,g⟩:=Be e (by kernel_rfl) s;have r:=fZ b x c y q;obtain⟨Q,v,O,P⟩:=kG b r g d t;have E:=(Be (v.append g) (l:=Gu) (by kernel_rfl) d);obtain⟨C,e⟩:=E;clear s d t g v;obtain⟨z,F⟩:=B8 (A:=[.b]) (ah:=az) e (by kernel_rfl) a;have V:=ti b x c y r O P q C z;refine⟨⟨(fun _=>Q),trivial⟩,F.trans ?_⟩;exact (lc (by show U.bool (B T 23)= .bool (Mf us);unfold Mf;rw[H,J];exact BI U.bool V) rfl)
def P4:List U->Int:=fun us=>(Cq (aS us 0) (aI us 1) (aI us 2) (aS us 3) (aI us 4) (aI us 5))
def R8:Bf:={ sh:=[.agg [.str,k64,k64],.agg [.str,k64,k64]],blks:=[],outs:=[(.s "pair.0",CW P4)],c:=(Cy 6),m':=[],pre:=[] }
def kK:List En:=[⟨6,.outB "vplayer.0" HA,[.e 0,.e 1,.e 2]⟩,
 ABU 7 6,
 ⟨8,.outB "vplayer.0" HA,[.e 3,.e 4,.e 5]⟩,
 ⟨9,.or,[.n 6,.n 8]⟩,
 ABH 10 9,
 ⟨11,.eqs [.s],[.e 0,.e 3]⟩,
 nl 12 10 11,
 ABF 13 10 11,
 ⟨14,.ite .i,[.e 9,.c (.int 2),.c (.int 12)]⟩,
 ABG 15 9 12,
 ⟨16,.ite .i,[.e 15,.e 14,.c (.int 0)]⟩,
 ABG 17 15 13]
def bU:List En:=kK
def wd:List ObE:=[]
def oN:List Rf:=[.e 16]
theorem ww:R8.sees oN (R8.run Try.prog [(82,Ho)] Bp 3000 20 57)=some ((bU).map En.be,wd.map ObE.be,[]):=by kernel_rfl
theorem xb (o:(S T 0).size<=140737488355328)(p:(S T 3).size<=140737488355328)(c:BV T bU):
  ((I T 16)=(Cq (S T 0) (I T 1) (I T 2) (S T 3) (I T 4) (I T 5))):=by
 have d:=c;clear c
 .obtain⟨a,-,b,l,e,g,h,-,i,j,k,-⟩:=d;replace a:B T 6=(Dl (S T 0) (I T 1) (I T 2)):=a;replace b:B T 8=(Dl (S T 3) (I T 4) (I T 5)):=b;simp only[BS,BZ,zN,zR,Dw,and_true,zL,zS] at l e g h i j k;unfold Cq;rw[<-a,<-b];clear a b;grind
theorem vZ:Bl Try.prog 57 R8:=by
 refine B7 (l:=[(82,Ho)]) CP (by simp only[AW];exact⟨Vi,fun _ h=>absurd h (by simp)⟩) ww (by kernel_rfl) fun T us v b a o g i=>?_;change us.length=6 at a;obtain⟨c,-,-,d,-⟩:=g;replace c:(S T 0).size<=140737488355328:=c;replace d:(S T 3).size<=140737488355328:=d;have p:=inS (j:=0) b a (by decide);have q:=inI (j:=1) b a (by decide);have r:=inI (j:=2) b a (by decide);have s:=inS (j:=3) b a (by decide);have t:=inI (j:=4) b a (by decide);have u:=inI (j:=5) b a (by decide);clear v
 skip
 obtain⟨e,k⟩:=B8 (A:=[.i]) (ah:=oN) o (by kernel_rfl) i;have w:=xb c d e;refine⟨trivial,k.trans ?_⟩;exact (lc (by show U.int (I T 16)= .int (P4 us);unfold P4;rw[p,q,r,s,t,u];exact BI U.int w) rfl)
def NY:List U->Int:=fun us=>(B9 (aI us 2) (aI us 0))
def NH:List U->Int:=fun us=>(Cz (B9 (aI us 2) (aI us 0)) (aI us 3))
def K5:List U->Prop:=fun us=> -10000<=(aI us 2)/\(aI us 2)<=10000/\ -12<=(aI us 3)/\(aI us 3)<=48/\ -100<=(aI us 0)/\(aI us 0)<=100
def Ly:Bf:={ sh:=[.ptr 0 0,.one (k64)],blks:=[([.str,k64,k64],23)],outs:=[(.s "move.0",CW NY),(.s "move.1",CW NH)],c:= .tup [],m':=[.cells [.s 1,(Cy 4),(Cy 5)] 23],pre:=[(.s "move.p0",K5)] }
def lB:List En:=[ABV 4 2 0,
 ⟨5,.o2 .max,[.e 4,.c (.int (-10000))]⟩,
 ⟨6,.o2 .min,[.e 5,.c (.int 10000)]⟩]
def Kl:List En:=lB
def mS:List En:=[⟨8,.lt,[.c (.int (-12)),.e 7]⟩,
 ABU 9 8,
 ABU 10 8,
 ⟨11,.w2 .i64 .sub,[.e 7,.c (.int 1)]⟩,
 ⟨12,.outI "trig.0" Iv,[.e 11]⟩,
 ⟨13,.le,[.e 12,.e 6]⟩,
 nl 14 8 13,
 ABH 15 14,
 ⟨16,.w2 .i64 .sub,[.e 7,.c (.int 1)]⟩]
def Gg:List En:=mS
def cX:List ObE:=[⟨some 10,.pre "trig.p0" Hb,[.e 11]⟩]
def Qt:Bs:=mkD 7 1 Gg 14 [.e 16] cX [6]
def Un:List Rf:=[.e 6,.e 3]
def aV:List En:=[]
def jZ:List En:=[⟨18,.lt,[.e 17,.c (.int 48)]⟩,
 nl 19 15 18,
 nl 20 15 18,
 ⟨21,.w2 .i64 .add,[.e 17,.c (.int 1)]⟩,
 ⟨22,.outI "trig.0" Iv,[.e 21]⟩,
 ⟨23,.le,[.e 6,.e 22]⟩,
 nl 24 18 23,
 nl 25 15 24,
 ABF 26 15 24,
 ⟨27,.w2 .i64 .add,[.e 17,.c (.int 1)]⟩]
def JF:List En:=jZ
def aY:List ObE:=[⟨some 20,.pre "trig.p0" Hb,[.e 21]⟩]
def QY:Bs:=mkD 17 1 JF 25 [.e 27] aY [15,6]
def Us:List Rf:=[.e 15,.e 6,.e 7]
def tw:List En:=[]
def wc:List ObE:=[⟨some 15,.owes QY,[.e 15,.e 6,.e 7]⟩,
 ⟨none,.owes Qt,[.e 6,.e 3]⟩]
def ny:List Rf:=[.e 6,.e 17]
theorem w8:Ly.sees ny (Ly.run Try.prog [(69,Lw)] Bp 3000 20 98)=some ((Kl++((B5 Qt [.i] Un)++(Gg++(aV++((B5 QY [.i] Us)++(JF++(tw))))))).map En.be,wc.map ObE.be,[]):=by kernel_rfl
abbrev lU(T:Tab):Prop:=(S T 1).size<=140737488355328
abbrev lX(T:Tab):Prop:=-10000<=I T 2/\I T 2<=10000/\ -12<=I T 3/\I T 3<=48/\ -100<=I T 0/\I T 0<=100
theorem nH (b:lU T)(c:lX T)(a:BV T Kl):
  (-12<=I T 3/\I T 3<=48):=by
 grind
abbrev fu(T:Tab)(a:Int):Prop:=-12<=a/\a <=48/\Cg (I T 6) a=Cg (I T 6) (I T 3)
theorem sW (N: -12<=I T 3/\I T 3<=48)(u:Ba T (Bh (CA 0 Ly.ks) Kl))(r:Bi T (Gg.map En.be))(t:Bi T ((B5 Qt [.i] Un).map En.be)):
  (Qt).owes (Un.map (Rf.eval T))/\Ba T (hds 7 [.i])/\(fu T (I T 7))/\¬B T 14=true:=by
 refine CK (nh:=7) (k:=1) (pcn:=14) (R:=17) (b:=Gg) (K:=cX) (nxt:=[.e 16]) (H:=[.e 3]) (fv:=[6]) (A:=[.i]) (by kernel_rfl) rfl rfl rfl rfl u (by kernel_rfl) (by kernel_rfl) r (B6 t) (fun s=> fu T (aI s 0)) (fun s=>((aI s 0)+12).toNat) ?_ ?_
 .show fu T (I T 3);grind
 .intro J v g l;replace l: fu T (I J 7):=l;clear u r t;replace g:BV J Gg:=g;have i:=g;clear g;have w:=fvI (v 6 (by decide));clear v
  suffices y:(B J 10=true-> -100<=I J 11/\I J 11<=100)/\(B J 14=true->(fu T (I J 16)))/\(B J 14=true->((I J 16)+12).toNat < ((I J 7)+12).toNat) from
   let⟨D,C,z⟩:=y;⟨⟨D,trivial⟩,fun h=>⟨C h,z h⟩⟩
  refine⟨?_,?_,?_⟩
  .obtain⟨-,-,-,a,-⟩:=i;simp only[BS,zR,w2P] at a;grind
  .obtain⟨e,-,-,a,j,o,c,-,d,-⟩:=i;replace j:I J 12=(Dp (I J 11)):=j;simp only[BS,BZ,zR,w2P] at e a o c d;obtain⟨O,P,E⟩:=l;intro h;have q:=c.1 h;have x:=e.1 q.1;have p:=o.1 q.2;have F:=o2' a (by omega);have M:=o2' d (by omega);rw[j,F,w] at p;refine⟨by omega,by omega,?_⟩;rw[M,<-E];exact (Sc x p).symm
  .obtain⟨e,-,-,-,-,-,c,-,d,-⟩:=i;simp only[BS,BZ,zR,w2P] at e c d;grind
theorem nG (d:lU T)(h:lX T)(c: -12<=I T 3/\I T 3<=48)(e: fu T (I T 7))(g:¬B T 14=true)(a:BV T Kl)(b:BV T Gg):
  (-12<=I T 7/\I T 7<=48):=by
 grind
abbrev fw(T:Tab)(a:Int):Prop:=-12<=a/\a <=48/\upG (I T 6) a=upG (I T 6) (I T 7)
theorem rN (P: -12<=I T 7/\I T 7<=48)(w:Ba T (Bh (Bh (hds 7 [.i]++(Bh (CA 0 Ly.ks) Kl)) Gg) aV))(u:Bi T (JF.map En.be))(v:Bi T ((B5 QY [.i] Us).map En.be)):
  (QY).owes (Us.map (Rf.eval T))/\Ba T (hds 17 [.i])/\(fw T (I T 17))/\¬B T 25=true:=by
 refine CK (nh:=17) (k:=1) (pcn:=25) (R:=28) (b:=JF) (K:=aY) (nxt:=[.e 27]) (H:=[.e 7]) (fv:=[15,6]) (A:=[.i]) (by kernel_rfl) rfl rfl rfl rfl w (by kernel_rfl) (by kernel_rfl) u (B6 v) (fun s=> fw T (aI s 0)) (fun s=>(48 - (aI s 0)).toNat) ?_ ?_
 .show fw T (I T 7);grind
 .intro J o h p;replace p: fw T (I J 17):=p;clear w u v;replace h:BV J JF:=h;have j:=h;clear h;have O:=fvB (o 15 (by decide));have x:=fvI (o 6 (by decide));clear o
  suffices z:(B J 20=true-> -100<=I J 21/\I J 21<=100)/\(B J 25=true->(fw T (I J 27)))/\(B J 25=true->(48 - (I J 27)).toNat < (48 - (I J 17)).toNat) from
   let⟨E,D,C⟩:=z;⟨⟨E,trivial⟩,fun i=>⟨D i,C i⟩⟩
  refine⟨?_,?_,?_⟩
  .obtain⟨-,-,-,c,-⟩:=j;simp only[BS,zR,w2P] at c;grind
  .obtain⟨a,-,-,c,l,q,d,e,-,g,-⟩:=j;replace l:I J 22=(Dp (I J 21)):=l;simp only[BS,BZ,zR,w2P] at a c q d e g;obtain⟨Q,V,F⟩:=p;intro i;have t:=d.1 (e.1 i).2;have y:=a.1 t.1;have r:=q.1 t.2;have M:=o2' c (by omega);have N:=o2' g (by omega);rw[l,M,x] at r;refine⟨by omega,by omega,?_⟩;rw[N,<-F];exact (XH y r).symm
  .obtain⟨a,-,-,-,-,-,d,e,-,g,-⟩:=j;simp only[BS,BZ,zR,w2P] at a d e g;grind
theorem we (W:lU T)(p:lX T)(V: -12<=I T 3/\I T 3<=48)(D: fu T (I T 7))(X:¬B T 14=true)(Q: -12<=I T 7/\I T 7<=48)(E: fw T (I T 17))(Y:¬B T 25=true)(h:BV T Kl)(i:BV T Gg)(j:BV T JF):
  ((I T 6)=(B9 (I T 2) (I T 0)))/\
  ((I T 17)=(Cz (B9 (I T 2) (I T 0)) (I T 3))):=by
 have k:=h;clear h;have q:=i;clear i;have r:=j;clear j;refine⟨?_,?_⟩
 .obtain⟨b,c,d,-⟩:=k;simp only[BS,zR,EK,w2P] at b c d;obtain⟨F,H,J,K,M,N⟩:=p;have g:=o2' b (by omega);have e:(I T 6)=B9 (I T 2) (I T 0):=by
   unfold B9;rw[d,c,g];omega
  exact e
 .obtain⟨b,c,d,-⟩:=k;obtain⟨C,-,-,s,l,t,u,v,-⟩:=q;obtain⟨w,-,-,x,o,y,z,A,-⟩:=r;replace l:I T 12=(Dp (I T 11)):=l;replace o:I T 22=(Dp (I T 21)):=o;simp only[BS,BZ,zR,EK,w2P] at b c d C s t u v w x y z A;obtain⟨F,H,J,K,M,N⟩:=p;have g:=o2' b (by omega);have e:(I T 6)=B9 (I T 2) (I T 0):=by
   unfold B9;rw[d,c,g];omega
  obtain⟨Z,v2,O⟩:=D;obtain⟨aN,w2,P⟩:=E;rw[<-e];unfold Cz;have hd:Cg (I T 6) (I T 3)=I T 7:=by
   rw[<-O];refine Sg fun a=>?_;grind
  rw[hd,<-P];refine (XW fun a=>?_).symm;grind
theorem ug:Bl Try.prog 98 Ly:=by
 refine B7 (l:=[(69,Lw)]) CP (by simp only[AW];exact⟨ib,fun _ h=>absurd h (by simp)⟩) w8 (by kernel_rfl) fun T us y r o g E a=>?_;change us.length=4 at o;obtain⟨-,k,-⟩:=E;replace k:(S T 1).size<=140737488355328:=k;have v:=inI (j:=0) r o (by decide);have w:=inI (j:=2) r o (by decide);have H:=inI (j:=3) r o (by decide);have t: -10000<=I T 2/\I T 2<=10000/\ -12<=I T 3/\I T 3<=48/\ -100<=I T 0/\I T 0<=100:=by
  have h:=y (.s "move.p0",K5) (by simp[Ly]);change K5 us at h;unfold K5 at h;grind
 clear y;rw[AL,AL,AL,AL,AL,AL] at a;obtain⟨d,a⟩:=cutB a;obtain⟨e,a⟩:=cutB a;obtain⟨b,a⟩:=cutB a;obtain⟨p,c⟩:=Be g (by kernel_rfl) d;have s:=nH k t p;obtain⟨M,i,z,C⟩:=sW s c b e;have q:=(Be (i.append c) (l:=Gg) (by kernel_rfl) b);obtain⟨u,g⟩:=q;clear d b e c i;obtain⟨d,a⟩:=cutB a;obtain⟨e,a⟩:=cutB a;obtain⟨b,a⟩:=cutB a;obtain⟨Q,c⟩:=Be g (by kernel_rfl) d;have x:=nG k t s z C p u;obtain⟨N,i,J,K⟩:=rN x c b e;have q:=(Be (i.append c) (l:=JF) (by kernel_rfl) b);obtain⟨D,g⟩:=q;clear d b e c i;obtain⟨V,F⟩:=B8 (A:=[.i,.i]) (ah:=ny) g (by kernel_rfl) a;obtain⟨O,P⟩:=we k t s z C x J K p u D;refine⟨⟨(fun _=>N),(fun _=>M),trivial⟩,F.trans ?_⟩;exact (lc (by show U.int (I T 6)= .int (NY us);unfold NY;rw[v,w];exact BI U.int O) (lc (by show U.int (I T 17)= .int (NH us);unfold NH;rw[v,w,H];exact BI U.int P) rfl))
def OK:List U->ByteArray:=fun us=>(if Cq (aS us 0) (aI us 1) (aI us 2) (aS us 3) (aI us 4) (aI us 5)=0 then (aS us 0) else (⟨#[]⟩:ByteArray))
def yR:List U->Int:=fun us=>(if Cq (aS us 0) (aI us 1) (aI us 2) (aS us 3) (aI us 4) (aI us 5)=0 then B9 (aI us 1) (CJ (aI us 1) (aI us 4) (aB us 6)) else 0)
def OF:List U->Int:=fun us=>(if Cq (aS us 0) (aI us 1) (aI us 2) (aS us 3) (aI us 4) (aI us 5)=0 then Cz (B9 (aI us 1) (CJ (aI us 1) (aI us 4) (aB us 6))) (aI us 2) else 0)
def Oo:List U->ByteArray:=fun us=>(if Cq (aS us 0) (aI us 1) (aI us 2) (aS us 3) (aI us 4) (aI us 5)=0 then (aS us 3) else (⟨#[]⟩:ByteArray))
def OY:List U->Int:=fun us=>(if Cq (aS us 0) (aI us 1) (aI us 2) (aS us 3) (aI us 4) (aI us 5)=0 then B9 (aI us 4) (-(CJ (aI us 1) (aI us 4) (aB us 6))) else 0)
def Oi:List U->Int:=fun us=>(if Cq (aS us 0) (aI us 1) (aI us 2) (aS us 3) (aI us 4) (aI us 5)=0 then Cz (B9 (aI us 4) (-(CJ (aI us 1) (aI us 4) (aB us 6)))) (aI us 5) else 0)
def OE:List U->Int:=fun us=>(Cq (aS us 0) (aI us 1) (aI us 2) (aS us 3) (aI us 4) (aI us 5))
def Pp:Bf:={ sh:=[.agg [.str,k64,k64],.agg [.str,k64,k64],.one (.bool)],blks:=[],outs:=[(.s "Count.0",lE OK),(.s "Count.1",CW yR),(.s "Count.2",CW OF),(.s "Count.3",lE Oo),(.s "Count.4",CW OY),(.s "Count.5",CW Oi),(.s "Count.6",CW OE)],c:= .tup [.agg [.s 7,(Cy 8),(Cy 9)],.agg [.s 10,(Cy 11),(Cy 12)],(Cy 13)],m':=[],pre:=[] }
def fx:List En:=[⟨7,.outI "pair.0" P4,[.e 0,.e 1,.e 2,.e 3,.e 4,.e 5]⟩,
 ⟨8,.ne,[.e 7,.c (.int 0)]⟩,
 ABH 9 8,
 ⟨10,.outI "gain.0" Nc,[.e 1,.e 4,.e 6]⟩,
 ⟨11,.outI "move.0" NY,[.e 10,.e 0,.e 1,.e 2]⟩,
 ⟨12,.outI "move.1" NH,[.e 10,.e 0,.e 1,.e 2]⟩,
 ⟨13,.wneg .i64,[.e 10]⟩,
 ⟨14,.outI "move.0" NY,[.e 13,.e 3,.e 4,.e 5]⟩,
 ⟨15,.outI "move.1" NH,[.e 13,.e 3,.e 4,.e 5]⟩,
 ABT 16 8 1 11,
 ABT 17 8 2 12,
 ABT 18 8 4 14,
 ABT 19 8 5 15,
 ⟨20,.ite .s,[.e 8,.c (.str ⟨#[]⟩),.e 0]⟩,
 ⟨21,.ite .i,[.e 8,.c (.int 0),.e 11]⟩,
 ⟨22,.ite .i,[.e 8,.c (.int 0),.e 12]⟩]
def gI:List En:=[⟨23,.ite .s,[.e 8,.c (.str ⟨#[]⟩),.e 3]⟩,
 ⟨24,.ite .i,[.e 8,.c (.int 0),.e 14]⟩,
 ⟨25,.ite .i,[.e 8,.c (.int 0),.e 15]⟩,
 ⟨26,.ite .i,[.e 8,.e 7,.c (.int 0)]⟩,
 ABG 27 8 9]
def YR:List En:=fx++(gI)
def vi:List ObE:=[⟨some 9,.pre "move.p0" K5,[.e 13,.e 3,.e 4,.e 5]⟩,
 ⟨some 9,.pre "move.p0" K5,[.e 10,.e 0,.e 1,.e 2]⟩,
 ⟨some 9,.pre "gain.p0" K8,[.e 1,.e 4,.e 6]⟩]
def iL:List Rf:=[.e 20,.e 21,.e 22,.e 23,.e 24,.e 25,.e 26]
theorem wG:Pp.sees iL (Pp.run Try.prog [(57,R8),(60,Ls),(98,Ly)] Bp 3000 20 16)=some ((YR).map En.be,vi.map ObE.be,[]):=by kernel_rfl
theorem wK (J:(S T 0).size<=140737488355328)(K:(S T 3).size<=140737488355328)(r:BV T YR):
  ((S T 20)=(if Cq (S T 0) (I T 1) (I T 2) (S T 3) (I T 4) (I T 5)=0 then (S T 0) else (⟨#[]⟩:ByteArray)))/\
  ((I T 21)=(if Cq (S T 0) (I T 1) (I T 2) (S T 3) (I T 4) (I T 5)=0 then B9 (I T 1) (CJ (I T 1) (I T 4) (B T 6)) else 0))/\
  ((I T 22)=(if Cq (S T 0) (I T 1) (I T 2) (S T 3) (I T 4) (I T 5)=0 then Cz (B9 (I T 1) (CJ (I T 1) (I T 4) (B T 6))) (I T 2) else 0))/\
  ((S T 23)=(if Cq (S T 0) (I T 1) (I T 2) (S T 3) (I T 4) (I T 5)=0 then (S T 3) else (⟨#[]⟩:ByteArray)))/\
  ((I T 24)=(if Cq (S T 0) (I T 1) (I T 2) (S T 3) (I T 4) (I T 5)=0 then B9 (I T 4) (-(CJ (I T 1) (I T 4) (B T 6))) else 0))/\
  ((I T 25)=(if Cq (S T 0) (I T 1) (I T 2) (S T 3) (I T 4) (I T 5)=0 then Cz (B9 (I T 4) (-(CJ (I T 1) (I T 4) (B T 6)))) (I T 5) else 0))/\
  ((I T 26)=(Cq (S T 0) (I T 1) (I T 2) (S T 3) (I T 4) (I T 5)))/\
  (B T 9=true-> -10000<=I T 4/\I T 4<=10000/\ -12<=I T 5/\I T 5<=48/\ -100<=I T 13/\I T 13<=100)/\
  (B T 9=true-> -10000<=I T 1/\I T 1<=10000/\ -12<=I T 2/\I T 2<=48/\ -100<=I T 10/\I T 10<=100)/\
  (B T 9=true-> -10000<=I T 1/\I T 1<=10000/\ -10000<=I T 4/\I T 4<=10000):=by
 obtain⟨g,r⟩:=r.cut;have s:=r;clear r;refine⟨?_,?_,?_,?_,?_,?_,?_,?_,?_,?_⟩
 .obtain⟨b,c,-,-,-,-,-,-,-,-,-,-,-,y,-⟩:=g;replace b:I T 7=(Cq (S T 0) (I T 1) (I T 2) (S T 3) (I T 4) (I T 5)):=b;simp only[BS,BZ,zR,zL,zS] at c y;by_cases h:(I T 7)=0
  .have e:¬B T 8=true:=fun a=>(c.1 a) h;rw[y,BG e,<-b,BH h]
  .rw[y,BH (c.2 h),<-b,BG h]
 .obtain⟨b,c,-,d,u,-,-,-,-,-,-,-,-,-,z,-⟩:=g;replace b:I T 7=(Cq (S T 0) (I T 1) (I T 2) (S T 3) (I T 4) (I T 5)):=b;replace d:I T 10=(CJ (I T 1) (I T 4) (B T 6)):=d;replace u:I T 11=(B9 (I T 1) (I T 10)):=u;simp only[BS,BZ,zR,zL,zS] at c z;by_cases h:(I T 7)=0
  .have e:¬B T 8=true:=fun a=>(c.1 a) h;rw[z,BG e,<-b,BH h];rw[u,d]
  .rw[z,BH (c.2 h),<-b,BG h]
 .obtain⟨b,c,-,d,-,v,-,-,-,-,-,-,-,-,-,A,-⟩:=g;replace b:I T 7=(Cq (S T 0) (I T 1) (I T 2) (S T 3) (I T 4) (I T 5)):=b;replace d:I T 10=(CJ (I T 1) (I T 4) (B T 6)):=d;replace v:I T 12=(Cz (B9 (I T 1) (I T 10)) (I T 2)):=v;simp only[BS,BZ,zR,zL,zS] at c A;by_cases h:(I T 7)=0
  .have e:¬B T 8=true:=fun a=>(c.1 a) h;rw[A,BG e,<-b,BH h];rw[v,d]
  .rw[A,BH (c.2 h),<-b,BG h]
 .obtain⟨b,c,-⟩:=g;obtain⟨C,-⟩:=s;replace b:I T 7=(Cq (S T 0) (I T 1) (I T 2) (S T 3) (I T 4) (I T 5)):=b;simp only[BS,BZ,zR,zL,zS] at c C;by_cases h:(I T 7)=0
  .have e:¬B T 8=true:=fun a=>(c.1 a) h;rw[C,BG e,<-b,BH h]
  .rw[C,BH (c.2 h),<-b,BG h]
 .obtain⟨b,c,-,d,-,-,i,w,-⟩:=g;obtain⟨-,D,-⟩:=s;replace b:I T 7=(Cq (S T 0) (I T 1) (I T 2) (S T 3) (I T 4) (I T 5)):=b;replace d:I T 10=(CJ (I T 1) (I T 4) (B T 6)):=d;replace w:I T 14=(B9 (I T 4) (I T 13)):=w;simp only[BS,BZ,zR,w2P,wnP,zL,zS] at c i D;by_cases h:(I T 7)=0
  .have e:¬B T 8=true:=fun a=>(c.1 a) h;rw[D,BG e,<-b,BH h];have k:=EH (I T 1) (I T 4) (B T 6);rw[<-d] at k;have t:=o2' i.1 (by omega);rw[w,t,d]
  .rw[D,BH (c.2 h),<-b,BG h]
 .obtain⟨b,c,-,d,-,-,i,-,x,-⟩:=g;obtain⟨-,-,E,-⟩:=s;replace b:I T 7=(Cq (S T 0) (I T 1) (I T 2) (S T 3) (I T 4) (I T 5)):=b;replace d:I T 10=(CJ (I T 1) (I T 4) (B T 6)):=d;replace x:I T 15=(Cz (B9 (I T 4) (I T 13)) (I T 5)):=x;simp only[BS,BZ,zR,w2P,wnP,zL,zS] at c i E;by_cases h:(I T 7)=0
  .have e:¬B T 8=true:=fun a=>(c.1 a) h;rw[E,BG e,<-b,BH h];have k:=EH (I T 1) (I T 4) (B T 6);rw[<-d] at k;have t:=o2' i.1 (by omega);rw[x,t,d]
  .rw[E,BH (c.2 h),<-b,BG h]
 .obtain⟨b,c,-⟩:=g;obtain⟨-,-,-,F,-⟩:=s;replace b:I T 7=(Cq (S T 0) (I T 1) (I T 2) (S T 3) (I T 4) (I T 5)):=b;simp only[BS,BZ,zR,zL,zS] at c F;rw[F,<-b];split
  .rfl
  .rename_i e;by_cases h:(I T 7)=0
   .exact h.symm
   .exact absurd (c.2 h) e
 .obtain⟨b,c,j,d,-,-,i,-⟩:=g;replace b:I T 7=(Cq (S T 0) (I T 1) (I T 2) (S T 3) (I T 4) (I T 5)):=b;replace d:I T 10=(CJ (I T 1) (I T 4) (B T 6)):=d;simp only[BS,BZ,zR,w2P,wnP] at c j i;intro o;have l:(I T 7)=0:=by
   by_cases h:(I T 7)=0
   .exact h
   .exact absurd (c.2 h) (j.1 o)
  obtain⟨p,q,H⟩:=Uz (b.symm.trans l);rw[G9] at p q;have k:=EH (I T 1) (I T 4) (B T 6);rw[<-d] at k;have t:=o2' i.1 (by omega);omega
 .obtain⟨b,c,j,d,-⟩:=g;replace b:I T 7=(Cq (S T 0) (I T 1) (I T 2) (S T 3) (I T 4) (I T 5)):=b;replace d:I T 10=(CJ (I T 1) (I T 4) (B T 6)):=d;simp only[BS,BZ,zR] at c j;intro o;have l:(I T 7)=0:=by
   by_cases h:(I T 7)=0
   .exact h
   .exact absurd (c.2 h) (j.1 o)
  obtain⟨p,q,H⟩:=Uz (b.symm.trans l);rw[G9] at p q;have k:=EH (I T 1) (I T 4) (B T 6);rw[<-d] at k;omega
 .obtain⟨b,c,j,-⟩:=g;replace b:I T 7=(Cq (S T 0) (I T 1) (I T 2) (S T 3) (I T 4) (I T 5)):=b;simp only[BS,BZ,zR] at c j;intro o;have l:(I T 7)=0:=by
   by_cases h:(I T 7)=0
   .exact h
   .exact absurd (c.2 h) (j.1 o)
  obtain⟨p,q,H⟩:=Uz (b.symm.trans l);rw[G9] at p q;omega
theorem tD:Bl Try.prog 16 Pp:=by
 refine B7 (l:=[(57,R8),(60,Ls),(98,Ly)]) CP (by simp only[AW];exact⟨vZ,iC,ug,fun _ h=>absurd h (by simp)⟩) wG (by kernel_rfl) fun T us w b a v s t=>?_;change us.length=7 at a;obtain⟨p,-,-,q,-⟩:=s;replace p:(S T 0).size<=140737488355328:=p;replace q:(S T 3).size<=140737488355328:=q;have c:=inS (j:=0) b a (by decide);have d:=inI (j:=1) b a (by decide);have e:=inI (j:=2) b a (by decide);have g:=inS (j:=3) b a (by decide);have i:=inI (j:=4) b a (by decide);have k:=inI (j:=5) b a (by decide);have o:=inB (j:=6) b a (by decide);clear w
 skip
 obtain⟨r,u⟩:=B8 (A:=[.s,.i,.i,.s,.i,.i,.i]) (ah:=iL) v (by kernel_rfl) t;obtain⟨x,y,z,C,D,E,F,H,aB,aJ⟩:=wK p q r;refine⟨⟨H,aB,aJ,trivial⟩,u.trans ?_⟩;exact (lc (by show U.str (S T 20)= .str (OK us);unfold OK;rw[c,d,e,g,i,k];exact BI U.str x) (lc (by show U.int (I T 21)= .int (yR us);unfold yR;rw[c,d,e,g,i,k,o];exact BI U.int y) (lc (by show U.int (I T 22)= .int (OF us);unfold OF;rw[c,d,e,g,i,k,o];exact BI U.int z) (lc (by show U.str (S T 23)= .str (Oo us);unfold Oo;rw[c,d,e,g,i,k];exact BI U.str C) (lc (by show U.int (I T 24)= .int (OY us);unfold OY;rw[c,d,e,g,i,k,o];exact BI U.int D) (lc (by show U.int (I T 25)= .int (Oi us);unfold Oi;rw[c,d,e,g,i,k,o];exact BI U.int E) (lc (by show U.int (I T 26)= .int (OE us);unfold OE;rw[c,d,e,g,i,k];exact BI U.int F) rfl)))))))
def Uy:List U->Int:=fun us=>(DC (aI us 0) (aI us 1))
def SG:Bf:={ sh:=[.one (k64),.one (k64)],blks:=[],outs:=[(.s "cmpJ.0",CW Uy)],c:=(Cy 2),m':=[],pre:=[] }
def jF:List En:=[ABI 2 0 1,
 ABH 3 2,
 ABI 4 1 0,
 nl 5 3 4,
 ABF 6 3 4,
 ⟨7,.ite .i,[.e 5,.c (.int 1),.c (.int 0)]⟩,
 ABG 8 5 6,
 ⟨9,.ite .i,[.e 2,.c (.int (-1)),.e 7]⟩,
 ABG 10 2 8]
def cC:List En:=jF
def wS:List ObE:=[]
def nJ:List Rf:=[.e 9]
theorem wt:SG.sees nJ (SG.run Try.prog [] Bp 3000 20 124)=some ((cC).map En.be,wS.map ObE.be,[]):=by kernel_rfl
theorem xO (g:BV T cC):
  ((I T 9)=(DC (I T 0) (I T 1))):=by
 have k:=g;clear g
 .obtain⟨c,h,d,e,-,i,-,j,-⟩:=k;simp only[BS,BZ,zR,zL,zS] at c h d e i j;unfold DC;rw[j,i];by_cases O:(I T 0) < I T 1
  .rw[BH (c.2 O),BH O]
  .have C:¬B T 2=true:=fun a=>O (c.1 a);rw[BG C,BG O];by_cases b:(I T 1) < I T 0
   .rw[BH (e.2 ⟨h.2 C,d.2 b⟩),BH b]
   .rw[BG (fun a=>b (d.1 (e.1 a).2)),BG b]
theorem vq:Bl Try.prog 124 SG:=by
 refine B7 (l:=[]) CP (by intro p h;exact absurd h (by simp)) wt (by kernel_rfl) fun T us q b a i d e=>?_;change us.length=2 at a;clear d;have k:=inI (j:=0) b a (by decide);have o:=inI (j:=1) b a (by decide);clear q
 skip
 obtain⟨c,g⟩:=B8 (A:=[.i]) (ah:=nJ) i (by kernel_rfl) e;have r:=xO c;refine⟨trivial,g.trans ?_⟩;exact (lc (by show U.int (I T 9)= .int (Uy us);unfold Uy;rw[k,o];exact BI U.int r) rfl)
end
section
open Go Go.Eng Go.Proofs Go.RowKit Go.Lib
def WX:List U->Int:=fun us=>(aG (aS us 0) (aS us 1))
def Ud:Bf:={ sh:=[.one (.str),.one (.str)],blks:=[],outs:=[(.s "strcmp.0",CW WX)],c:=(.i .i64 (-1) 1 2),m':=[],pre:=[] }
set_option maxHeartbeats 1000000 in
set_option maxRecDepth 100000 in
theorem pN (a b:ByteArray)(w:World):
  Calls Try.prog 141 #[.string a,.string b] w fun e ac=>e= .returned (.int .i64 (Lib.compareBytes a.data.toList b.data.toList))/\ac=w:=by
 go_enter Try.func141,Try.ntmps141
 go_wp2
 rw[run_callFunc_extern Try.func147 (by kernel_rfl) (by kernel_rfl) (by kernel_rfl) (e:=Extern.BytealgCompare.compare) (by kernel_rfl),Lib.run_compareString];simp only[Result.andThen];rw[Oper.upon_value]
 go_wp2
 go_ret
 exact⟨rfl,rfl⟩
set_option maxHeartbeats 1000000 in
theorem cQ (a b:ByteArray)(w:World):
  Calls Try.prog 129 #[.string a,.string b] w fun e ac=>e= .returned (.int .i64 (Lib.compareBytes a.data.toList b.data.toList))/\ac=w:=by
 go_enter Try.func129,Try.ntmps129
 go_wp2_with (go_at_call 141;refine (pN _ _ _).mono ?_;rintro e ac ⟨rfl,rfl⟩)
 go_ret
 exact⟨rfl,rfl⟩
theorem oP:Bl Try.prog 129 Ud:=by
 refine WF rfl rfl ⟨Try.f129,Try.func129,by kernel_rfl,by kernel_rfl⟩ fun T us k c p W w Y o=>?_;obtain⟨v,x,rfl,⟨_,s,aa,rfl,q⟩,t,y,rfl,⟨_,b,l,rfl,r⟩,rfl⟩:=o;have d:us.length=2:=k;refine (cQ s b w).mono fun e ac ⟨O,C⟩=>⟨_,O,by rw[C];exact Below.refl _ _,show 2 < 3 by decide,aG s b,?_,rfl,?_⟩
 .have g:aS us 0=s:=inS (T:=T) (us:=us) (n:=2) (j:=0) (fun j u a=>c j u (by unfold Bf.us;rw[AR (AG.1 a).1];exact a)) d (by decide) |>.trans (by unfold S;rw[show T.get 0= .str s from aa];rfl)
  have h:aS us 1=b:=inS (T:=T) (us:=us) (n:=2) (j:=1) (fun j u a=>c j u (by unfold Bf.us;rw[AR (AG.1 a).1];exact a)) d (by decide) |>.trans (by unfold S;rw[show T.get 1= .str b from l];rfl)
  have i:=c 2 (CW WX us) (by unfold Bf.us;rw[AS (by omega),d];rfl);rw[i];show U.int (aG (aS us 0) (aS us 1))=_;rw[g,h]
 .exact uq s b
end
section
open Go Go.Eng Go.Proofs
set_option maxRecDepth 1000000
def VL:List U->List (List U):=fun us=>(In)
def V3:List U->Int:=fun us=>((0:Int))
def Q9:List U->Prop:=fun us=>(aL us 0)=bZ/\(aL us 1)=bO/\(aI us 2)=0/\(aI us 3)=100
def Ks:Bf:={ sh:=[.one (.list [.str,k64,k64]),.one (.list [k64,k64,k64,.bool,.str,.str,.bool,k64,k64]),.one (k64),.one (k64)],blks:=[],outs:=[(.s "Table3.0",D1 VL),(.s "Table3.1",CW V3)],c:= .tup [.ro 4 [.str,k64,k64,k64,k64,k64],(Cy 5)],m':=[],pre:=[(.s "Table3.p0",Q9)] }
def Kk:=Ks.runC Try.prog Gy [(41,Ea),(47,Hd),(65,FQ),(124,SG),(129,Ud)] oc 3000 20 30
def Q1:ObT:=[ob "in" .inr,ob "inl" .inl,ob "between 3 3" (.btw 3 3),ob "between 0 68719476736" (.btw 0 68719476736),ob "fits 88" (.fits 88),ob "fits 56" (.fits 56),ob "fits 32" (.fits 32),ob "fits 1" (.fits 1),
 ("books.p0",.pre "books.p0" Lu,fun us=>Nat.ble (aL us 0).length 40),("checkLk.p0",.pre "checkLk.p0" LO,fun us=>decide (Bc (aL us 0)=0)),("checkPk.p0",.pre "checkPk.p0" G4,fun us=>decide (BW (aL us 0)=0))]
def Qp:List U:=[.list bZ,.list bO,.int 0,.int 100]
def NG:List U:=(evC Qp (cg Kk)).getD []
theorem qe:Ks.sees [.e 609,.e 608] Kk=some (cg Kk,((bG Q1 Kk).map (·.1)).map ObE.be,[]):=by kernel_rfl
theorem sy:evC Qp (cg Kk)=some NG:=by kernel_rfl
theorem rd:(bG Q1 Kk).all (mj NG)=true:=by kernel_rfl
theorem rL:([.e 609,.e 608]:List Rf).all (rfC NG.length)=true:=by kernel_rfl
theorem qk:([.e 609,.e 608]:List Rf).map (Rf.eval (XQ NG))=Ks.outs.map fun o=>o.2 Qp:=by kernel_rfl
theorem pC:Bl Try.prog 30 Ks:=
 fK (E:=GN Try.prog (XB Try.prog Gy [(41,Ea),(47,Hd),(65,FQ),(124,SG),(129,Ud)]) oc 3000 20)
  (fun T=>Ht CP (Xm FU (by simp only[AW];exact⟨Jk,RF,U8,vq,oP,fun _ h=>absurd h (by simp)⟩)) 20 T) Q1 Qp NG rfl
  (by
   simp only[Q1,AW];exact⟨OQ,OQ,OQ,OQ,OQ,OQ,OQ,OQ,fun _ h=>Aa h,fun us h=>show Bc (aL us 0)=0 from of_decide_eq_true h,fun us h=>show BW (aL us 0)=0 from of_decide_eq_true h,fun _ h=>absurd h (by simp)⟩)
  qe (by kernel_rfl)
  (fun T us r e q l=>by
   have h:=r (.s "Table3.p0",Q9) (Al.2 rfl);have g:T.get 0=uV T .l 0:=Kb l (by kernel_rfl);have i:T.get 1=uV T .l 1:=Kb l (by kernel_rfl);have j:T.get 2=uV T .i 2:=Kb l (by kernel_rfl);have k:T.get 3=uV T .i 3:=Kb l (by kernel_rfl);replace q:us.length=4:=q
   match us,q,e,h with
   |[a,b,c,d],_,e,⟨o,O,C,p⟩=>
    have s:T.get 0=a:=e 0 a rfl;have t:T.get 1=b:=e 1 b rfl;have u:T.get 2=c:=e 2 c rfl;have v:T.get 3=d:=e 3 d rfl;replace g:T.get 0= .list (T.get 0).toL:=g;replace i:T.get 1= .list (T.get 1).toL:=i;replace j:T.get 2= .int (T.get 2).toI:=j;replace k:T.get 3= .int (T.get 3).toI:=k;rw[s] at g;rw[t] at i;rw[u] at j;rw[v] at k;replace o:a.toL=bZ:=o;replace O:b.toL=bO:=O;replace C:c.toI=0:=C;replace p:d.toI=100:=p;rw[o] at g;rw[O] at i;rw[C] at j;rw[p] at k;rw[g,i,j,k];rfl)
  sy rd rL qk
end
section
open Go Go.Eng Go.Proofs
set_option maxHeartbeats 4000000
set_option maxRecDepth 100000
def KO:List U->Bool:=fun us=>(true)
def Ny:Bf:={ sh:=[],blks:=[],outs:=[(.s "works3.0",Jx KO)],c:= .b 0,m':=[],pre:=[] }
def dM:List En:=[⟨0,.row 3 3 [.s,.i,.i,.s,.i,.i,.s,.i,.i],[.c (.str ⟨#[97,110,110]⟩),.c (.int 2000),.c (.int 0),.c (.str ⟨#[98,111,98]⟩),.c (.int 1500),.c (.int 10),.c (.str ⟨#[99,97,116]⟩),.c (.int 1000),.c (.int 20)]⟩,
 ⟨1,.id .i,[.c (.int 1)]⟩,
 ABY 2 0 1,
 ABJ 3 0 1,
 ABK 4 0 1,
 ⟨5,.id .i,[.c (.int 0)]⟩,
 ABY 6 0 5,
 ABJ 7 0 5,
 ABK 8 0 5,
 ⟨9,.outS "Count.0" OK,[.e 2,.e 3,.e 4,.e 6,.e 7,.e 8,.c (.bool true)]⟩,
 ⟨10,.outI "Count.1" yR,[.e 2,.e 3,.e 4,.e 6,.e 7,.e 8,.c (.bool true)]⟩,
 ⟨11,.outI "Count.2" OF,[.e 2,.e 3,.e 4,.e 6,.e 7,.e 8,.c (.bool true)]⟩,
 ⟨12,.outS "Count.3" Oo,[.e 2,.e 3,.e 4,.e 6,.e 7,.e 8,.c (.bool true)]⟩,
 ⟨13,.outI "Count.4" OY,[.e 2,.e 3,.e 4,.e 6,.e 7,.e 8,.c (.bool true)]⟩,
 ⟨14,.outI "Count.5" Oi,[.e 2,.e 3,.e 4,.e 6,.e 7,.e 8,.c (.bool true)]⟩,
 ⟨15,.outI "Count.6" OE,[.e 2,.e 3,.e 4,.e 6,.e 7,.e 8,.c (.bool true)]⟩]
def dJ:List En:=[⟨16,.row 3 9 [.i,.i,.i,.b,.s,.s,.b,.i,.i,.i,.i,.i,.b,.s,.s,.b,.i,.i,.i,.i,.i,.b,.s,.s,.b,.i,.i],[.c (.int 1),.c (.int 0),.c (.int 5),.c (.bool false),.c (.str ⟨#[97,110,110]⟩),.c (.str ⟨#[98,111,98]⟩),.c (.bool true),.c (.int 26),.c (.int 20),.c (.int 2),.c (.int 0),.c (.int 6),.c (.bool false),.c (.str ⟨#[98,111,98]⟩),.c (.str ⟨#[99,97,116]⟩),.c (.bool true),.c (.int 26),.c (.int 3),.c (.int 3),.c (.int 0),.c (.int 7),.c (.bool false),.c (.str ⟨#[99,97,116]⟩),.c (.str ⟨#[97,110,110]⟩),.c (.bool true),.c (.int 26),.c (.int 25)]⟩,
 ⟨17,.outL "Table3.0" VL,[.e 0,.e 16,.c (.int 0),.c (.int 100)]⟩,
 ⟨18,.outI "Table3.1" V3,[.e 0,.e 16,.c (.int 0),.c (.int 100)]⟩,
 ABV 19 15 18,
 ⟨20,.eq,[.e 19,.c (.int 0)]⟩,
 ABU 21 20,
 ⟨22,.eqs [.s,.i,.i],[.e 9,.c (.str ⟨#[98,111,98]⟩),.e 10,.c (.int 1514),.e 11,.c (.int 10)]⟩,
 nl 23 20 22,
 ABU 24 23,
 ⟨25,.eqs [.s,.i,.i],[.e 12,.c (.str ⟨#[97,110,110]⟩),.e 13,.c (.int 1986),.e 14,.c (.int 0)]⟩,
 nl 26 23 25,
 ABU 27 26,
 ABL 28 17,
 ⟨29,.eq,[.e 28,.c (.int 3)]⟩,
 nl 30 26 29,
 ABU 31 30]
def dy:List En:=[⟨32,.id .i,[.c (.int 0)]⟩,
 ABY 33 17 32,
 ABJ 34 17 32,
 ABK 35 17 32,
 ⟨36,.get .i 3,[.e 17,.e 32]⟩,
 ⟨37,.get .i 4,[.e 17,.e 32]⟩,
 ⟨38,.get .i 5,[.e 17,.e 32]⟩,
 ⟨39,.eqs [.s,.i,.i,.i,.i,.i],[.e 33,.c (.str ⟨#[98,111,98]⟩),.e 34,.c (.int 1),.e 35,.c (.int 1),.e 36,.c (.int 1),.e 37,.c (.int 17),.e 38,.c (.int 1)]⟩,
 nl 40 30 39]
def VZ:List En:=dM++(dJ++(dy))
def sN:List ObE:=[⟨some 31,.inl,[.c (.int 0),.e 17]⟩,
 ⟨none,.pre "Table3.p0" Q9,[.e 0,.e 16,.c (.int 0),.c (.int 100)]⟩,
 ⟨none,.inl,[.c (.int 0),.e 0]⟩,
 ⟨none,.inl,[.c (.int 1),.e 0]⟩]
def df:List Rf:=[.e 40]
theorem tF:Ny.sees df (Ny.run Try.prog [(16,Pp),(30,Ks)] Bp 3000 20 15)=some ((VZ).map En.be,sN.map ObE.be,[]):=by kernel_rfl
theorem sv {T:Tab}(c:BV T VZ):
  ((B T 40)=(true))/\
  (B T 31=true->0<=(0:Int)/\(0:Int) < ((L T 17)).length)/\
  ((L T 0)=bZ/\L T 16=bO/\(0:Int)=0/\(100:Int)=100)/\
  (0<=(0:Int)/\(0:Int) < ((L T 0)).length)/\
  (0<=(1:Int)/\(1:Int) < ((L T 0)).length):=by
 obtain⟨s,c⟩:=c.cut;obtain⟨t,c⟩:=c.cut;have F2:=c;clear c;have aw:((S T 2)=UK/\I T 3=1500/\I T 4=10)/\S T 6=Xk/\I T 7=2000/\I T 8=0:=by
  obtain⟨a,l,E,P,X,p,Z,e7,e8,-⟩:=s;simp only[BS,BZ,zR,zL,zS,uR,Cp,zW] at a l E P X p Z e7 e8;refine⟨⟨?_,?_,?_⟩,?_,?_,?_⟩
  .rw[E,l,a];rfl
  .rw[P,l,a];rfl
  .rw[X,l,a];rfl
  .rw[Z,p,a];rfl
  .rw[e7,p,a];rfl
  .rw[e8,p,a];rfl
 have r:(L T 0)=bZ/\L T 16=bO:=by
  obtain⟨a,-⟩:=s;obtain⟨C,-⟩:=t;simp only[BS,zC,zR,zL,zS,uR,Cp,zW] at a C;exact⟨by rw[a];rfl,by rw[C];rfl⟩
 refine⟨?_,?_,?_,?_,?_⟩
 .obtain⟨-,-,-,-,-,-,-,-,-,k,e,g,h,i,j,o,-⟩:=s;obtain⟨-,b,u,D,F,-,H,J,-,K,M,-,N,O,Q,-⟩:=t;obtain⟨V,v,w,x,y,z,A,W,Y,-⟩:=F2;replace k:S T 9=(if Cq (S T 2) (I T 3) (I T 4) (S T 6) (I T 7) (I T 8)=0 then (S T 2) else (⟨#[]⟩:ByteArray)):=k;replace e:I T 10=(if Cq (S T 2) (I T 3) (I T 4) (S T 6) (I T 7) (I T 8)=0 then B9 (I T 3) (CJ (I T 3) (I T 7) true) else 0):=e;replace g:I T 11=(if Cq (S T 2) (I T 3) (I T 4) (S T 6) (I T 7) (I T 8)=0 then Cz (B9 (I T 3) (CJ (I T 3) (I T 7) true)) (I T 4) else 0):=g;replace h:S T 12=(if Cq (S T 2) (I T 3) (I T 4) (S T 6) (I T 7) (I T 8)=0 then (S T 6) else (⟨#[]⟩:ByteArray)):=h;replace i:I T 13=(if Cq (S T 2) (I T 3) (I T 4) (S T 6) (I T 7) (I T 8)=0 then B9 (I T 7) (-(CJ (I T 3) (I T 7) true)) else 0):=i;replace j:I T 14=(if Cq (S T 2) (I T 3) (I T 4) (S T 6) (I T 7) (I T 8)=0 then Cz (B9 (I T 7) (-(CJ (I T 3) (I T 7) true))) (I T 8) else 0):=j;replace o:I T 15=(Cq (S T 2) (I T 3) (I T 4) (S T 6) (I T 7) (I T 8)):=o;replace b:L T 17=(In):=b;replace u:I T 18=((0:Int)):=u;simp only[BS,BZ,zR,Dw,and_true,w2P,zL,zS] at D F H J K M N O Q V v w x y z A W Y;obtain⟨⟨q2,q3,q4⟩,q6,q7,q8⟩:=aw;obtain⟨d,q⟩:=r;rw[q2,q3,q4,q6,q7,q8] at k e g h i j o;rw[BH gb] at k e g h i j;have ag:(L T 17)=In:=b;have bm:(I T 18)=0:=u;have bl:(I T 15)=0:=o.trans gb;have bi:=o2' D (by omega);have ao:=F.2 (by omega);have ax:=H.2 ⟨k,e.trans ex_i,g.trans ex_g⟩;have a0:=K.2 ⟨h,i.trans ex_j,j.trans ex_h⟩;have a1:(I T 28)=3:=by rw[N,ag,nF];rfl
  have a2:=Q.2 ⟨M.2 ⟨J.2 ⟨ao,ax⟩,a0⟩,O.2 a1⟩;rw[ag,V] at v w x y z A;obtain⟨r0,aB,aJ,r3,r4,r5⟩:=wR;exact Y.2 ⟨a2,W.2 ⟨v.trans r0,w.trans aB,x.trans aJ,y.trans r3,z.trans r4,A.trans r5⟩⟩
 .obtain⟨-,b,-⟩:=t;replace b:L T 17=(In):=b;intro _;rw[show (L T 17)=In from b,nF];decide
 .obtain⟨d,q⟩:=r;exact⟨d,q,rfl,rfl⟩
 .obtain⟨d,q⟩:=r;rw[d];decide
 .obtain⟨d,q⟩:=r;rw[d];decide
theorem pA:Bl Try.prog 15 Ny:=by
 refine B7 (l:=[(16,Pp),(30,Ks)]) CP (by simp only[AW];exact⟨tD,pC,fun _ h=>absurd h (by simp)⟩) tF (by kernel_rfl) fun T us g p i e b c=>?_;change us.length=0 at i;clear b;clear g
 skip
 obtain⟨a,d⟩:=B8 (A:=[.b]) (ah:=df) e (by kernel_rfl) c;obtain⟨j,k,aB,aJ,o⟩:=sv a;refine⟨⟨k,(fun _=>aB),(fun _=>aJ),(fun _=>o),trivial⟩,d.trans ?_⟩;exact (lc (by show U.bool (B T 40)= .bool (KO us);unfold KO;exact BI U.bool j) rfl)
def AAF:List Kd:=[.list [.str,k64,k64],.list [k64,k64,k64,.bool,.str,.str,.bool,k64,k64],.int .u8 (0) (255),k64,k64,k64,.bool,.str,.str,.bool,k64,k64,.bool]
def AAR:List AC:=((MC Try.prog 9 Try.f5.params.toList 0).map (·.1)).getD []
abbrev zy (T:Tab)(a:Int)(b:Int)(c:List (List U)):Prop:=0<=a/\a<=((L T 1)).length/\b=upK (AAE (I T 42)) (L T 1) a.toNat 0/\c=upK (AAA (I T 42)) (L T 1) a.toNat []
def AAW:List En:=[⟨13,.outB "long.0" Q8,[.e 0,.e 1,.c (.int 30)]⟩,
 ABH 14 13,
 ABL 15 1,
 ⟨16,.lt,[.c (.int 30),.e 15]⟩,
 ABG 17 13 16,
 ABH 18 17,
 ABL 19 1,
 ⟨20,.eq,[.e 19,.c (.int 0)]⟩,
 ABG 21 17 20,
 ABH 22 21,
 ⟨23,.slen,[.e 7]⟩,
 ⟨24,.lt,[.c (.int 100),.e 23]⟩,
 ABG 25 21 24,
 ABH 26 25,
 ⟨27,.slen,[.e 8]⟩,
 ⟨28,.lt,[.c (.int 100),.e 27]⟩]
def AAZ:List En:=[ABG 29 25 28,
 ABH 30 29,
 ⟨31,.outI "rCheckP.0" G2,[.e 0]⟩,
 ⟨32,.ne,[.e 31,.c (.int 0)]⟩,
 ABG 33 29 32,
 ABH 34 33,
 ⟨35,.outI "rCheckL.0" LE,[.e 1]⟩,
 ⟨36,.ne,[.e 35,.c (.int 0)]⟩,
 ABG 37 33 36,
 ⟨38,.outB "works3.0" KO,[]⟩,
 ABH 39 37,
 ABL 40 1,
 ⟨41,.o2 .tmod,[.e 2,.e 40]⟩,
 ABM 42 1 41,
 ⟨43,.id .l,[.c (.list [])]⟩]
def AAC:List En:=AAW++(AAZ)
def AAX:List En:=[ABL 47 1,
 ABI 48 44 47,
 nl 49 39 48,
 ABF 50 39 48,
 ABM 51 1 44,
 ⟨52,.ne,[.e 51,.e 42]⟩,
 nl 53 49 52,
 ABM 54 1 44,
 ABJ 55 1 44,
 ABK 56 1 44,
 ABP 57 1 44,
 ABN 58 1 44,
 ABO 59 1 44,
 ABQ 60 1 44,
 ABR 61 1 44,
 ABS 62 1 44]
def AAV:List En:=[⟨63,.row 1 9 [.i,.i,.i,.b,.s,.s,.b,.i,.i],[.e 54,.e 55,.e 56,.e 57,.e 58,.e 59,.e 60,.e 61,.e 62]⟩,
 ⟨64,.app,[.e 46,.e 63]⟩,
 ABF 65 49 52,
 ABJ 66 1 44,
 ⟨67,.w2 .i64 .add,[.e 66,.c (.int 1)]⟩,
 ⟨68,.o2 .max,[.e 45,.e 67]⟩,
 ABT 69 52 45 68,
 ABX 70 52 64 46,
 ⟨71,.ite .l,[.e 52,.e 63,.c (.list [])]⟩,
 ⟨72,.w2 .i64 .add,[.e 44,.c (.int 1)]⟩]
def an:List En:=AAX++(AAV)
def AAO:List ObE:=[⟨some 65,.inl,[.e 44,.e 1]⟩,⟨some 53,.fits 88,[.e 46,.e 63]⟩,⟨some 53,.inl,[.e 44,.e 1]⟩,⟨some 49,.inl,[.e 44,.e 1]⟩]
def AAB:Bs:=mkD 44 3 an 49 [.e 72,.e 69,.e 70] AAO [1,42,39]
def AAH:List Rf:=[.e 1,.e 42,.e 39,.c (.int 0),.c (.int 0),.e 43]
def AAc:List En:=[⟨73,.outI "rCheckSh.0" KK,[.e 42,.e 45,.e 5,.e 12,.e 7,.e 8,.e 9,.e 10,.e 11]⟩,
 ⟨74,.ne,[.e 73,.c (.int 0)]⟩,
 nl 75 50 74,
 ⟨76,.outB "works3.0" KO,[]⟩,
 ABF 77 50 74,
 ⟨78,.id .l,[.c (.list [])]⟩,
 ⟨79,.app,[.e 78,.e 1]⟩,
 ⟨80,.row 1 9 [.i,.i,.i,.b,.s,.s,.b,.i,.i],[.e 42,.e 45,.e 5,.e 12,.e 7,.e 8,.e 9,.e 10,.e 11]⟩,
 ⟨81,.app,[.e 79,.e 80]⟩,
 ⟨82,.outL "Books.0" yg,[.e 81]⟩,
 ⟨83,.outI "Books.1" yf,[.e 81]⟩,
 ⟨84,.id .l,[.c (.list [])]⟩,
 ⟨85,.app,[.e 84,.e 1]⟩,
 ⟨86,.row 1 9 [.i,.i,.i,.b,.s,.s,.b,.i,.i],[.e 42,.e 45,.e 5,.e 12,.e 7,.e 8,.e 9,.e 10,.e 11]⟩,
 ⟨87,.app,[.e 85,.e 86]⟩,
 ⟨88,.outL "Settle.0" Dt,[.e 0,.e 87]⟩]
def AAU:List En:=[⟨89,.outI "Settle.1" Dz,[.e 0,.e 87]⟩,
 nl 90 77 12,
 ABF 91 77 12,
 ⟨92,.row 1 9 [.i,.i,.i,.b,.s,.s,.b,.i,.i],[.e 42,.e 45,.e 5,.e 12,.e 7,.e 8,.e 9,.e 10,.e 11]⟩,
 ⟨93,.app,[.e 46,.e 92]⟩,
 ABX 94 12 46 93,
 ⟨95,.ite .l,[.e 12,.c (.list []),.e 92]⟩,
 ⟨96,.outL "Books.0" yg,[.e 94]⟩,
 ⟨97,.outI "Books.1" yf,[.e 94]⟩,
 ⟨98,.outL "Settle.0" Dt,[.e 0,.e 94]⟩,
 ⟨99,.outI "Settle.1" Dz,[.e 0,.e 94]⟩,
 ⟨100,.eq,[.e 83,.c (.int 0)]⟩,
 nl 101 77 100,
 ⟨102,.eq,[.e 89,.c (.int 0)]⟩,
 nl 103 100 102,
 nl 104 77 103]
def AAa:List En:=[⟨105,.eq,[.e 97,.c (.int 0)]⟩,
 nl 106 103 105,
 nl 107 77 106,
 ⟨108,.eq,[.e 99,.c (.int 0)]⟩,
 nl 109 106 108,
 nl 110 77 109,
 ⟨111,.outB "sameSh.0" AAL,[.e 82,.e 96]⟩,
 nl 112 109 111,
 nl 113 77 112,
 ⟨114,.outB "samePl.0" Mf,[.e 88,.e 98]⟩,
 nl 115 112 114,
 nl 116 77 115,
 ⟨117,.outB "works3.0" KO,[]⟩,
 nl 118 115 117,
 ABX 119 75 46 94,
 ⟨120,.ite .l,[.e 75,.c (.list []),.e 81]⟩]
def AAY:List En:=[⟨121,.ite .l,[.e 75,.c (.list []),.e 87]⟩,
 ⟨122,.ite .l,[.e 75,.c (.list []),.e 95]⟩,
 ⟨123,.ite .b,[.e 75,.e 76,.e 118]⟩,
 ABG 124 75 77,
 ABT 125 37 3 42,
 ABT 126 37 4 45,
 ⟨127,.ite .b,[.e 37,.e 6,.e 12]⟩,
 ⟨128,.ite .l,[.e 37,.c (.list []),.e 119]⟩,
 ⟨129,.ite .l,[.e 37,.c (.list []),.e 120]⟩,
 ⟨130,.ite .l,[.e 37,.c (.list []),.e 121]⟩,
 ⟨131,.ite .l,[.e 37,.c (.list []),.e 122]⟩,
 ⟨132,.ite .b,[.e 37,.e 38,.e 123]⟩,
 ABG 133 37 124]
def AAI:List En:=AAc++(AAU++(AAa++(AAY)))
def AAS:List ObE:=[⟨some 77,.pre "Settle.p0" Vg,[.e 0,.e 94]⟩,
 ⟨some 77,.pre "Books.p0" yb,[.e 94]⟩,
 ⟨some 91,.fits 88,[.e 46,.e 92]⟩,
 ⟨some 77,.pre "Settle.p0" Vg,[.e 0,.e 87]⟩,
 ⟨some 77,.fits 88,[.e 85,.e 86]⟩,
 ⟨some 77,.fits 88,[.e 84,.e 1]⟩,
 ⟨some 77,.pre "Books.p0" yb,[.e 81]⟩,
 ⟨some 77,.fits 88,[.e 79,.e 80]⟩,
 ⟨some 77,.fits 88,[.e 78,.e 1]⟩,
 ⟨some 39,.owes AAB,[.e 1,.e 42,.e 39,.c (.int 0),.c (.int 0),.e 43]⟩,
 ⟨some 39,.inl,[.e 41,.e 1]⟩,
 ⟨some 39,.nez,[.e 40]⟩]
def AAu:List Rf:=[.e 132]
end
end Go.Eng
end
