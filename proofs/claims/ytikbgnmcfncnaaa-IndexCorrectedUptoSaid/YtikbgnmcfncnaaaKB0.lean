/-
  A part of the proof: the evaluator of code and its soundness.
-/
import Derived.Test.YtikbgnmcfncnaaaE4
import Derived.Test.YtikbgnmcfncnaaaE5
import Derived.WalkKit
import Derived.Shelf.GgClosure.StringsIndexFuncTop
set_option linter.unusedVariables false
set_option linter.unusedSimpArgs false
noncomputable section
namespace Go.Eng
section
open Go Go.Eng Go.Proofs
set_option maxHeartbeats 4000000
set_option maxRecDepth 100000
def Q8:List U->Bool:=fun us=>(HL (aL us 0) (aL us 1) (aI us 2))
def No:Bf:={ sh:=[.one (.list [.str,k64,k64]),.one (.list [k64,k64,k64,.bool,.str,.str,.bool,k64,k64]),.one (k64)],blks:=[],outs:=[(.s "long.0",Jx Q8)],c:= .b 3,m':=[],pre:=[] }
def mL:List En:=[ABL 3 0,
 ⟨4,.lt,[.c (.int 30),.e 3]⟩,
 ABH 5 4,
 ABL 6 1,
 ABI 7 2 6,
 nl 8 5 7,
 ABL 9 1,
 ⟨10,.le,[.e 9,.c (.int 200)]⟩,
 nl 11 7 10,
 ABG 12 4 11,
 ABH 13 12,
 ABL 14 1,
 ⟨15,.lt,[.c (.int 210),.e 14]⟩,
 ABG 16 12 15,
 ABH 17 16]
def RK:List En:=mL
def kI:List En:=[ABL 19 0,
 ABI 20 18 19,
 nl 21 17 20,
 ABF 22 17 20,
 ABY 23 0 18,
 ⟨24,.slen,[.e 23]⟩,
 ⟨25,.lt,[.c (.int 100),.e 24]⟩,
 nl 26 21 25,
 ABF 27 21 25,
 ⟨28,.w2 .i64 .add,[.e 18,.c (.int 1)]⟩]
def Hv:List En:=kI
def bf:List ObE:=[⟨some 21,.inl,[.e 18,.e 0]⟩]
def RN:Bs:=mkD 18 1 Hv 27 [.e 28] bf [0,17]
def Ub:List Rf:=[.e 0,.e 17,.c (.int 0)]
def eh:List En:=[]
def jc:List En:=[ABL 30 1,
 ABI 31 29 30,
 nl 32 22 31,
 ABF 33 22 31,
 ABN 34 1 29,
 ⟨35,.slen,[.e 34]⟩,
 ⟨36,.lt,[.c (.int 100),.e 35]⟩,
 ABF 37 32 36,
 ABO 38 1 29,
 ⟨39,.slen,[.e 38]⟩,
 ⟨40,.lt,[.c (.int 100),.e 39]⟩,
 ABG 41 36 40,
 nl 42 32 41,
 ABF 43 32 41,
 ⟨44,.w2 .i64 .add,[.e 29,.c (.int 1)]⟩]
def JB:List En:=jc
def aC:List ObE:=[⟨some 37,.inl,[.e 29,.e 1]⟩,⟨some 32,.inl,[.e 29,.e 1]⟩]
def Qi:Bs:=mkD 29 1 JB 43 [.e 44] aC [1,22]
def Uv:List Rf:=[.e 1,.e 22,.c (.int 0)]
def jX:List En:=[⟨45,.ite .b,[.e 42,.c (.bool true),.c (.bool false)]⟩,
 ABG 46 42 33,
 ⟨47,.ite .b,[.e 26,.c (.bool true),.e 45]⟩,
 ABG 48 26 46,
 ⟨49,.ite .b,[.e 16,.c (.bool true),.e 47]⟩,
 ABG 50 16 48]
def fA:List En:=jX
def xV:List ObE:=[⟨some 22,.owes Qi,[.e 1,.e 22,.c (.int 0)]⟩,
 ⟨some 17,.owes RN,[.e 0,.e 17,.c (.int 0)]⟩]
def oB:List Rf:=[.e 49]
theorem wi:No.sees oB (No.run Try.prog [] Bp 3000 20 19)=some ((RK++((B5 RN [.i] Ub)++(Hv++(eh++((B5 Qi [.i] Uv)++(JB++(fA))))))).map En.be,xV.map ObE.be,[]):=by kernel_rfl
abbrev ae(T:Tab)(a:Int):Prop:=0<=a/\a <=((L T 0)).length/\¬(((L T 0)).take a.toNat).any Ol=true
abbrev fz(T:Tab):Prop:=(L T 0).length<=140737488355328
variable{T:Tab}
theorem qj (Q:fz T)(x:Ba T (Bh (CA 0 No.ks) RK))(v:Bi T (Hv.map En.be))(w:Bi T ((B5 RN [.i] Ub).map En.be)):
  (RN).owes (Ub.map (Rf.eval T))/\Ba T (hds 18 [.i])/\(ae T (I T 18))/\¬B T 27=true:=by
 refine CK (nh:=18) (k:=1) (pcn:=27) (R:=29) (b:=Hv) (K:=bf) (nxt:=[.e 28]) (H:=[.c (.int 0)]) (fv:=[0,17]) (A:=[.i]) (by kernel_rfl) rfl rfl rfl rfl x (by kernel_rfl) (by kernel_rfl) v (B6 w) (fun s=>ae T (aI s 0)) (fun s=>(((L T 0)).length - (aI s 0)).toNat) ?_ ?_
 .show ae T (0:Int);grind
 .intro J o i p;replace p:ae T (I J 18):=p;clear x v w;replace i:BV J Hv:=i;have l:=i;clear i;have u:=fvL (o 0 (by decide));have P:=fvB (o 17 (by decide));clear o
  suffices D:(B J 21=true->0<=I J 18/\I J 18 < ((L J 0)).length)/\(B J 27=true->(ae T (I J 28)))/\(B J 27=true->(((L T 0)).length - (I J 28)).toNat < (((L T 0)).length - (I J 18)).toNat) from
   let⟨M,F,E⟩:=D;⟨⟨M,trivial⟩,fun j=>⟨F j,E j⟩⟩
  refine⟨?_,?_,?_⟩
  .obtain⟨a,c,d,-⟩:=l;simp only[BS,BZ,zR,zL] at a c d;grind
  .obtain⟨a,c,d,-,q,r,t,-,e,g,-⟩:=l;simp only[BS,BZ,zN,zR,w2P,zL,zS] at a c d q r t e g;obtain⟨V,W,N⟩:=p;intro j;have z:=e.1 j;have y:=c.1 (d.1 z.1).2;rw[a,u] at y;have O:=o2' g (by omega);have C:(I J 18).toNat < ((L T 0)).length:=by omega
   refine⟨by omega,by omega,?_⟩;rw[O,show ((I J 18)+1).toNat=(I J 18).toNat+1 by omega,D6 C,dN];rintro (h|h)
   .exact N h
   .have h:=of_decide_eq_true h;have:(B J 25)=true:=t.2 (by rw[r,q,u];exact Int.ofNat_lt.2 h);grind
  .obtain⟨a,c,d,-,-,-,-,-,e,g,-⟩:=l;simp only[BS,BZ,zN,zR,w2P,zL] at a c d e g;grind
abbrev ct(T:Tab)(a:Int):Prop:=0<=a/\a <=((L T 1)).length/\¬(((L T 1)).take a.toNat).any LW=true
theorem th (Z:(L T 1).length<=140737488355328)(E:Ba T (Bh (Bh (hds 18 [.i]++(Bh (CA 0 No.ks) RK)) Hv) eh))(C:Bi T (JB.map En.be))(D:Bi T ((B5 Qi [.i] Uv).map En.be)):
  (Qi).owes (Uv.map (Rf.eval T))/\Ba T (hds 29 [.i])/\(ct T (I T 29))/\¬B T 43=true:=by
 refine CK (nh:=29) (k:=1) (pcn:=43) (R:=45) (b:=JB) (K:=aC) (nxt:=[.e 44]) (H:=[.c (.int 0)]) (fv:=[1,22]) (A:=[.i]) (by kernel_rfl) rfl rfl rfl rfl E (by kernel_rfl) (by kernel_rfl) C (B6 D) (fun s=>ct T (aI s 0)) (fun s=>(((L T 1)).length - (aI s 0)).toNat) ?_ ?_
 .show ct T (0:Int);grind
 .intro J r j t;replace t:ct T (I J 29):=t;clear E C D;replace j:BV J JB:=j;have e:=j;clear j;have q:=fvL (r 1 (by decide));have Y:=fvB (r 22 (by decide));clear r
  suffices O:(B J 37=true->0<=I J 29/\I J 29 < ((L J 1)).length)/\(B J 32=true->0<=I J 29/\I J 29 < ((L J 1)).length)/\(B J 43=true->(ct T (I J 44)))/\(B J 43=true->(((L T 1)).length - (I J 44)).toNat < (((L T 1)).length - (I J 29)).toNat) from
   let⟨V,aB,Q,P⟩:=O;⟨⟨V,aB,trivial⟩,fun l=>⟨Q l,P l⟩⟩
  refine⟨?_,?_,?_,?_⟩
  .obtain⟨a,c,d,-,-,-,-,o,-⟩:=e;simp only[BS,BZ,zN,zR,zL] at a c d o;grind
  .obtain⟨a,c,d,-,-,-,-,o,-⟩:=e;simp only[BS,BZ,zN,zR,zL] at a c d o;grind
  .obtain⟨a,c,d,-,u,v,w,-,x,y,z,p,-,g,i,-⟩:=e;simp only[BS,BZ,zN,zR,w2P,zL,zS] at a c d u v w x y z p g i;obtain⟨v1,v2,W⟩:=t;intro l;have M:=g.1 l;have F:=c.1 (d.1 M.1).2;rw[a,q] at F;have X:=o2' i (by omega);have N:(I J 29).toNat < ((L T 1)).length:=by omega
   refine⟨by omega,by omega,?_⟩;rw[X,show ((I J 29)+1).toNat=(I J 29).toNat+1 by omega,D6 N,dN];rintro (h|h)
   .exact W h
   .have:(B J 41)=true:=by
     unfold LW at h;rw[Ah,decide_eq_true_eq,decide_eq_true_eq] at h;rcases h with h|h
     .exact p.2 (.inl (w.2 (by rw[v,u,q];exact Int.ofNat_lt.2 h)))
     .exact p.2 (.inr (z.2 (by rw[y,x,q];exact Int.ofNat_lt.2 h)))
    grind
  .obtain⟨a,c,d,-,-,-,-,-,-,-,-,-,-,g,i,-⟩:=e;simp only[BS,BZ,zN,zR,w2P,zL] at a c d g i;grind
theorem xa (b3:fz T)(b1:∀u∈(L T 0),Bb BT KP u)(b4:(L T 1).length<=140737488355328)(b2:∀u∈(L T 1),Bb BT KB u)(bi:ae T (I T 18))(b7:¬B T 27=true)(bl:ct T (I T 29))(b8:¬B T 43=true)(j:BV T RK)(o:BV T Hv)(q:BV T JB)(k:BV T fA):
  ((B T 49)=(HL (L T 0) (L T 1) (I T 2))):=by
 have Q:=j;clear j;have V:=o;clear o;have W:=q;clear q;have X:=k;clear k
 .obtain⟨e3,e4,-,e6,e7,-,e9,Y,Z,ab,-,ad,ag,al,r,-⟩:=Q;obtain⟨b,c,s,t,v,w,x,y,ao,-⟩:=V;obtain⟨d,e,z,-,A,C,D,-,E,F,H,J,K,a0,-⟩:=W;obtain⟨a1,-,a2,-,a3,-⟩:=X;simp only[BS,BZ,zN,zC,zR,zL,zS] at e3 e4 e6 e7 e9 Y Z ab ad ag al r b c s t v w x y ao d e z A C D E F H J K a0 a1 a2 a3;obtain⟨v1,v2,v3⟩:=bi;obtain⟨aN,w2,w3⟩:=bl;have b6:(B T 49)=true↔HL (L T 0) (L T 1) (I T 2)=true:=by
   unfold HL;rw[Ah,Ah,Ah,Ah,AB,decide_eq_true_eq,decide_eq_true_eq,decide_eq_true_eq,decide_eq_true_eq];have bm:(B T 16)=true↔((30 < ((L T 0)).length\/((I T 2) < ((L T 1)).length/\((L T 1)).length<=200))\/210 < ((L T 1)).length):=by
    grind
   rw[<-bm];have bs:(B T 49)=true↔((B T 16)=true\/((B T 26)=true\/B T 42=true)):=by
    grind
   rw[bs];by_cases M:(B T 16)=true
   .simp[M]
   .have a7:=r.2 (by simpa using M);by_cases O:(B T 26)=true
    .obtain⟨a8,a⟩:=y.1 O;have N:=c.1 (s.1 a8).2;rw[b] at N;have a:=x.1 a;rw[w,v] at a;have:=xE (p:=Ol) (l:=L T 0) (i:=(I T 18).toNat) (by omega) (decide_eq_true (Int.ofNat_lt.1 a));simp[O,this]
    .have g:(B T 20)=false:=Bool.eq_false_iff.2 fun N=>by
      grind
     have b0:=t.2 ⟨a7,g⟩;have hl:¬I T 18 < ((L T 0)).length:=fun h=>by have:=c.2 (by rw[b];exact h);rw[this] at g;cases g
     rw[show (I T 18).toNat=((L T 0)).length by omega,BD] at v3;by_cases bb:(B T 42)=true
     .obtain⟨a9,ba⟩:=K.1 bb;have P:=e.1 (z.1 a9).2;rw[d] at P;have hw:LW (((L T 1)).getD (I T 29).toNat [])=true:=by
       unfold LW;rw[Ah,decide_eq_true_eq,decide_eq_true_eq];rcases J.1 ba with h|h
       .have h:=D.1 h;rw[C,A] at h;exact .inl (Int.ofNat_lt.1 h)
       .have h:=H.1 h;rw[F,E] at h;exact .inr (Int.ofNat_lt.1 h)
      grind
     .have bo:¬B T 31=true:=fun P=>by
       grind
      have hl:¬I T 29 < ((L T 1)).length:=fun h=>bo (e.2 (by rw[d];exact h));rw[show (I T 29).toNat=((L T 1)).length by omega,BD] at w3;grind
  grind
theorem ue:Bl Try.prog 19 No:=by
 refine B7 (l:=[]) CP (by intro p h;exact absurd h (by simp)) wi (by kernel_rfl) fun T us O t r g C a=>?_;change us.length=3 at r;obtain⟨⟨o,J⟩,⟨q,K⟩,-⟩:=C;replace o:(L T 0).length<=140737488355328:=o;have M:∀u∈(L T 0),Bb BT KP u:=fun u v=>by
  obtain⟨i,ab⟩:=Ac.1 v;exact J i u ab
 replace q:(L T 1).length<=140737488355328:=q;have N:∀u∈(L T 1),Bb BT KB u:=fun u v=>by
  obtain⟨i,ab⟩:=Ac.1 v;exact K i u ab
 have E:=inL (j:=0) t r (by decide);have F:=inL (j:=1) t r (by decide);have H:=inI (j:=2) t r (by decide);clear O;rw[AL,AL,AL,AL,AL,AL] at a;obtain⟨d,a⟩:=cutB a;obtain⟨e,a⟩:=cutB a;obtain⟨b,a⟩:=cutB a;obtain⟨w,c⟩:=Be g (by kernel_rfl) d;obtain⟨X,k,P,V⟩:=qj o c b e;have s:=(Be (k.append c) (l:=Hv) (by kernel_rfl) b);obtain⟨y,g⟩:=s;clear d b e c k;obtain⟨d,a⟩:=cutB a;obtain⟨e,a⟩:=cutB a;obtain⟨b,a⟩:=cutB a;obtain⟨A1,c⟩:=Be g (by kernel_rfl) d;obtain⟨Y,k,Q,W⟩:=th q c b e;have s:=(Be (k.append c) (l:=JB) (by kernel_rfl) b);obtain⟨z,g⟩:=s;clear d b e c k;obtain⟨x,D⟩:=B8 (A:=[.b]) (ah:=oB) g (by kernel_rfl) a;have Z:=xa o M q N P V Q W w y z x;refine⟨⟨(fun _=>Y),(fun _=>X),trivial⟩,D.trans ?_⟩;exact (lc (by show U.bool (B T 49)= .bool (Q8 us);unfold Q8;rw[E,F,H];exact BI U.bool Z) rfl)
def IC:List U->Bool:=fun us=>(Dn (aS us 0))
def HP:Bf:={ sh:=[.one (.str)],blks:=[],outs:=[(.s "xnamed.0",Jx IC)],c:= .b 1,m':=[],pre:=[] }
def cR:List En:=[⟨1,.slen,[.e 0]⟩,
 ⟨2,.lt,[.e 1,.c (.int 1)]⟩,
 ABH 3 2,
 ⟨4,.slen,[.e 0]⟩,
 ⟨5,.lt,[.c (.int 20),.e 4]⟩,
 ABG 6 2 5,
 ABH 7 6]
def Qr:List En:=cR
def ak:List En:=[⟨9,.slen,[.e 0]⟩,
 ABI 10 8 9,
 nl 11 7 10,
 ABF 12 7 10,
 ⟨13,.sat,[.e 0,.e 8]⟩,
 ⟨14,.le,[.c (.int 97),.e 13]⟩,
 nl 15 11 14,
 ⟨16,.sat,[.e 0,.e 8]⟩,
 ⟨17,.le,[.e 16,.c (.int 122)]⟩,
 nl 18 14 17,
 ABF 19 11 18,
 ⟨20,.sat,[.e 0,.e 8]⟩,
 ⟨21,.le,[.c (.int 48),.e 20]⟩,
 nl 22 19 21,
 ⟨23,.sat,[.e 0,.e 8]⟩,
 ⟨24,.le,[.e 23,.c (.int 57)]⟩]
def cw:List En:=[nl 25 21 24,
 ABG 26 18 25,
 nl 27 11 26,
 ABF 28 11 26,
 ⟨29,.w2 .i64 .add,[.e 8,.c (.int 1)]⟩]
def Ge:List En:=ak++(cw)
def Wf:List ObE:=[⟨some 22,.ins,[.e 0,.e 8]⟩,⟨some 19,.ins,[.e 0,.e 8]⟩,⟨some 15,.ins,[.e 0,.e 8]⟩,⟨some 11,.ins,[.e 0,.e 8]⟩]
def Mj:Bs:=mkD 8 1 Ge 27 [.e 29] Wf [0,7]
def Qb:List Rf:=[.e 0,.e 7,.c (.int 0)]
def eM:List En:=[⟨30,.ite .b,[.e 28,.c (.bool false),.c (.bool true)]⟩,
 ABG 31 28 12,
 ⟨32,.ite .b,[.e 6,.c (.bool false),.e 30]⟩,
 ABG 33 6 31]
def WQ:List En:=eM
def tW:List ObE:=[⟨some 7,.owes Mj,[.e 0,.e 7,.c (.int 0)]⟩]
def bg:List Rf:=[.e 32]
theorem rK:HP.sees bg (HP.run Try.prog [] Bp 3000 20 64)=some ((Qr++((B5 Mj [.i] Qb)++(Ge++(WQ)))).map En.be,tW.map ObE.be,[]):=by kernel_rfl
abbrev cL(T:Tab)(a:Int):Prop:=0<=a/\a <=((S T 0)).size/\(∀j:Nat,(j:Int) <a ->okB (S T 0) j)
abbrev fC(T:Tab):Prop:=(S T 0).size<=140737488355328
theorem l6 (a5:fC T)(N:Ba T (Bh (CA 0 HP.ks) Qr))(F:Bi T (Ge.map En.be))(M:Bi T ((B5 Mj [.i] Qb).map En.be)):
  (Mj).owes (Qb.map (Rf.eval T))/\Ba T (hds 8 [.i])/\(cL T (I T 8))/\¬B T 27=true:=by
 refine CK (nh:=8) (k:=1) (pcn:=27) (R:=30) (b:=Ge) (K:=Wf) (nxt:=[.e 29]) (H:=[.c (.int 0)]) (fv:=[0,7]) (A:=[.i]) (by kernel_rfl) rfl rfl rfl rfl N (by kernel_rfl) (by kernel_rfl) F (B6 M) (fun s=>cL T (aI s 0)) (fun s=>(((S T 0)).size - (aI s 0)).toNat) ?_ ?_
 .show cL T (0:Int);clear N F M;exact⟨by omega,by omega,fun j X=>absurd X (by omega)⟩
 .intro J O r o;replace o:cL T (I J 8):=o;clear N F M;replace r:BV J Ge:=r;obtain⟨q,r⟩:=r.cut;have P:=r;clear r;have a:=fvS (O 0 (by decide));have a3:=fvB (O 7 (by decide));clear O
  suffices hz:(B J 22=true->0<=I J 8/\I J 8 < ((S J 0)).size)/\(B J 19=true->0<=I J 8/\I J 8 < ((S J 0)).size)/\(B J 15=true->0<=I J 8/\I J 8 < ((S J 0)).size)/\(B J 11=true->0<=I J 8/\I J 8 < ((S J 0)).size)/\(B J 27=true->(cL T (I J 29)))/\(B J 27=true->(((S T 0)).size - (I J 29)).toNat < (((S T 0)).size - (I J 8)).toNat) from
   let⟨r0,aB,aJ,r3,nx,mz⟩:=hz;⟨⟨r0,aB,aJ,r3,trivial⟩,fun l=>⟨nx l,mz l⟩⟩
  refine⟨?_,?_,?_,?_,?_,?_⟩
  .obtain⟨g,c,d,-,t,w,-,x,y,z,Y,C,Q,a2,-⟩:=q;simp only[BS,BZ,zN,zR,zS] at*;obtain⟨u,v,i⟩:=o;intro l;have p:(B J 11)=true:=by clear i;grind
   have h:=c.1 (d.1 p).2;rw[g,a] at h;rw[a];omega
  .obtain⟨g,c,d,-,t,w,-,x,y,z,Y,-⟩:=q;simp only[BS,BZ,zN,zR,zS] at*;obtain⟨u,v,i⟩:=o;intro l;have p:(B J 11)=true:=by clear i;grind
   have h:=c.1 (d.1 p).2;rw[g,a] at h;rw[a];omega
  .obtain⟨g,c,d,-,t,w,a1,-⟩:=q;simp only[BS,BZ,zR,zS] at*;obtain⟨u,v,i⟩:=o;intro l;have p:(B J 11)=true:=by clear i;grind
   have h:=c.1 (d.1 p).2;rw[g,a] at h;rw[a];omega
  .obtain⟨g,c,d,-⟩:=q;simp only[BS,BZ,zR,zS] at g c d;obtain⟨u,v,i⟩:=o;intro l;have p:(B J 11)=true:=by clear i;grind
   have h:=c.1 (d.1 p).2;rw[g,a] at h;rw[a];omega
  .obtain⟨g,c,d,-,t,w,-,x,y,z,-,C,Q,-,V,Z,-⟩:=q;obtain⟨ab,ad,D,-,E,-⟩:=P;simp only[BS,BZ,zR,w2P,zS] at*;obtain⟨u,v,i⟩:=o;intro l;have W:=D.1 l;have h:=c.1 (d.1 W.1).2;rw[g,a] at h;have e:(I J 29)=I J 8+1:=o2' E (by omega);refine⟨by omega,by omega,fun j X=>?_⟩;by_cases ag:(j:Int) < I J 8
   .exact i j ag
   .obtain rfl:j=(I J 8).toNat:=by omega
    unfold okB;have a6:(I J 13)=C4 (S T 0) (I J 8).toNat:=by rw[t,a]
    have a7:(I J 16)=C4 (S T 0) (I J 8).toNat:=by rw[x,a]
    have a8:(I J 20)=C4 (S T 0) (I J 8).toNat:=by rw[C,a]
    have a9:(I J 23)=C4 (S T 0) (I J 8).toNat:=by rw[V,a]
    have a4:=W.2;clear i;grind
  .obtain⟨g,c,d,-,t,w,-,x,y,z,-,C,Q,-,V,Z,-⟩:=q;obtain⟨ab,ad,D,-,E,-⟩:=P;simp only[BS,BZ,zR,w2P,zS] at*;obtain⟨u,v,i⟩:=o;intro l;have h:=c.1 (d.1 (D.1 l).1).2;rw[g,a] at h;have e:(I J 29)=I J 8+1:=o2' E (by omega);omega
theorem sU (a0:fC T)(F:cL T (I T 8))(H:¬B T 27=true)(d:BV T Qr)(c:BV T Ge)(e:BV T WQ):
  ((B T 32)=(Dn (S T 0))):=by
 have o:=d;clear d;obtain⟨p,c⟩:=c.cut;have q:=c;clear c;have r:=e;clear e
 .obtain⟨J,P,-,e4,e5,e6,e7,-⟩:=o;obtain⟨i,g,s,-,t,K,-,u,M,N,-,v,Q,-,w,V,-⟩:=p;obtain⟨W,X,x,Y,-⟩:=q;obtain⟨Z,-,ab,-⟩:=r;simp only[BS,BZ,zN,zC,zR,zL,zS] at*;obtain⟨aN,w2,a⟩:=F;refine Bool.eq_iff_iff.2 (Iff.trans ?_ tG.symm);have a1:(I T 13)=C4 (S T 0) (I T 8).toNat:=t;have a2:(I T 16)=C4 (S T 0) (I T 8).toNat:=u;have a3:(I T 20)=C4 (S T 0) (I T 8).toNat:=v;have a4:(I T 23)=C4 (S T 0) (I T 8).toNat:=w;constructor
  .intro h;have D:¬B T 6=true:=by clear a;grind
   have A:¬B T 28=true:=by clear a;grind
   have l:¬B T 11=true:=fun h=>by
    have y:(B T 26)=true:=by clear a;grind
    have z:=x.2 ⟨h,y⟩;simp[H] at z
   have k:¬B T 10=true:=by clear a;grind
   have hn:¬I T 8 < ((S T 0)).size:=fun h=>k (g.2 (by rw[i];exact h));refine⟨by clear a;grind,by clear a;grind,fun j hj=>a j (by omega)⟩
  .rintro⟨O,C,b⟩;have D:¬B T 6=true:=by clear a b;grind
   have A:¬B T 28=true:=fun h=>by
    have l:(B T 11)=true:=by clear a b;grind
    have k:(I T 8) < ((S T 0)).size:=by have:=g.1 (s.1 l).2;rw[i] at this;exact this
    have E:=b (I T 8).toNat (by omega);unfold okB at E;clear a b;grind
   clear a b;grind
theorem ZI:Bl Try.prog 64 HP:=by
 refine B7 (l:=[]) CP (by intro p h;exact absurd h (by simp)) rK (by kernel_rfl) fun T us y w o d t a=>?_;change us.length=1 at o;obtain⟨b,-⟩:=t;replace b:(S T 0).size<=140737488355328:=b;have x:=inS (j:=0) w o (by decide);clear y;rw[AL,AL,AL] at a;obtain⟨g,a⟩:=cutB a;obtain⟨i,a⟩:=cutB a;obtain⟨c,a⟩:=cutB a;obtain⟨q,e⟩:=Be d (by kernel_rfl) g;obtain⟨D,k,z,C⟩:=l6 b e c i;have u:=(Be (k.append e) (l:=Ge) (by kernel_rfl) c);obtain⟨s,d⟩:=u;clear g c i e k;obtain⟨r,v⟩:=B8 (A:=[.b]) (ah:=bg) d (by kernel_rfl) a;have E:=sU b z C q s r;refine⟨⟨(fun _=>D),trivial⟩,v.trans ?_⟩;exact (lc (by show U.bool (B T 32)= .bool (IC us);unfold IC;rw[x];exact BI U.bool E) rfl)
def LP:List U->Bool:=fun us=>(Dl (aS us 0) (aI us 1) (aI us 2))
def Lq:Bf:={ sh:=[.agg [.str,k64,k64]],blks:=[],outs:=[(.s "rplayer.0",Jx LP)],c:= .b 3,m':=[],pre:=[] }
def Zt:List En:=[⟨3,.outB "xnamed.0" IC,[.e 0]⟩,
 ABU 4 3,
 ⟨5,.le,[.c (.int (-10000)),.e 1]⟩,
 nl 6 4 5,
 ⟨7,.le,[.e 1,.c (.int 10000)]⟩,
 nl 8 5 7,
 nl 9 3 8,
 ABU 10 9,
 ⟨11,.le,[.c (.int (-12)),.e 2]⟩,
 nl 12 9 11,
 ABU 13 12,
 ⟨14,.le,[.e 2,.c (.int 48)]⟩,
 nl 15 12 14]
def Tl:List En:=Zt
def pV:List ObE:=[]
def Y7:List Rf:=[.e 15]
theorem nS:Lq.sees Y7 (Lq.run Try.prog [(64,HP)] Bp 3000 20 61)=some ((Tl).map En.be,pV.map ObE.be,[]):=by kernel_rfl
theorem oV (q:fC T)(d:BV T Tl):
  ((B T 15)=(Dl (S T 0) (I T 1) (I T 2))):=by
 have p:=d;clear d
 .obtain⟨a,-,j,-,k,l,o,-,e,g,-,h,i,-⟩:=p;replace a:B T 3=(Dn (S T 0)):=a;simp only[BS,BZ,zR] at j k l o e g h i;refine Bool.eq_iff_iff.2 (Iff.trans ?_ G9.symm);rw[<-a,i,g,o,l,j,k,e,h];constructor
  .rintro⟨⟨⟨O,C⟩,b⟩,c⟩;exact⟨O,C,b,c⟩
  .rintro⟨O,C,b,c⟩;exact⟨⟨⟨O,C⟩,b⟩,c⟩
theorem lW:Bl Try.prog 61 Lq:=by
 refine B7 (l:=[(64,HP)]) CP (by simp only[AW];exact⟨ZI,fun _ h=>absurd h (by simp)⟩) nS (by kernel_rfl) fun T us r b a k e g=>?_;change us.length=3 at a;obtain⟨c,-⟩:=e;replace c:(S T 0).size<=140737488355328:=c;have o:=inS (j:=0) b a (by decide);have p:=inI (j:=1) b a (by decide);have q:=inI (j:=2) b a (by decide);clear r
 skip
 obtain⟨d,i⟩:=B8 (A:=[.b]) (ah:=Y7) k (by kernel_rfl) g;have s:=oV c d;refine⟨trivial,i.trans ?_⟩;exact (lc (by show U.bool (B T 15)= .bool (LP us);unfold LP;rw[o,p,q];exact BI U.bool s) rfl)
def G2:List U->Int:=fun us=>(BW (aL us 0))
def D9:Bf:={ sh:=[.one (.list [.str,k64,k64])],blks:=[],outs:=[(.s "rCheckP.0",CW G2)],c:=(Cy 1),m':=[],pre:=[] }
def ZQ:List En:=[ABL 1 0,
 ⟨2,.lt,[.c (.int 24),.e 1]⟩,
 ABH 3 2]
def Fj:List En:=ZQ
def Zk:List En:=[ABL 5 0,
 ABI 6 4 5,
 nl 7 3 6,
 ABF 8 3 6,
 ABY 9 0 4,
 ABJ 10 0 4,
 ABK 11 0 4,
 ⟨12,.outB "rplayer.0" LP,[.e 9,.e 10,.e 11]⟩,
 nl 13 7 12,
 ABF 14 7 12,
 ⟨15,.w2 .i64 .add,[.e 4,.c (.int 1)]⟩]
def Df:List En:=Zk
def TY:List ObE:=[⟨some 7,.inl,[.e 4,.e 0]⟩]
def LF:Bs:=mkD 4 1 Df 13 [.e 15] TY [0,3]
def O9:List Rf:=[.e 0,.e 3,.c (.int 0)]
def IX:List En:=[]
def Ve:List En:=[ABL 17 0,
 ABI 18 16 17,
 nl 19 8 18,
 ABF 20 8 18]
def FT:List En:=Ve
def Zb:List En:=[ABI 22 21 16,
 nl 23 19 22,
 ABF 24 19 22,
 ABY 25 0 16,
 ABY 26 0 21,
 ⟨27,.eqs [.s],[.e 25,.e 26]⟩,
 nl 28 23 27,
 ABF 29 23 27,
 ⟨30,.w2 .i64 .add,[.e 21,.c (.int 1)]⟩]
def EU:List En:=Zb
def TU:List ObE:=[⟨some 23,.inl,[.e 21,.e 0]⟩,⟨some 23,.inl,[.e 16,.e 0]⟩]
def Ii:Bs:=mkD 21 1 EU 29 [.e 30] TU [0,16,19]
def La:List Rf:=[.e 0,.e 16,.e 19,.c (.int 0)]
def Vr:List En:=[⟨31,.w2 .i64 .add,[.e 16,.c (.int 1)]⟩]
def Im:List En:=Vr
def G8:List En:=FT++((B5 Ii [.i] La)++(EU++(Im)))
def UG:List ObE:=[⟨some 19,.owes Ii,[.e 0,.e 16,.e 19,.c (.int 0)]⟩]
def LQ:Bs:=mkD 16 1 G8 24 [.e 31] UG [0,8]
def PA:List Rf:=[.e 0,.e 8,.c (.int 0)]
def ZW:List En:=[⟨32,.ite .i,[.e 28,.c (.int 12),.c (.int 0)]⟩,
 ABG 33 28 20,
 ⟨34,.ite .i,[.e 14,.c (.int 2),.e 32]⟩,
 ABG 35 14 33,
 ⟨36,.ite .i,[.e 2,.c (.int 6),.e 34]⟩,
 ABG 37 2 35]
def UE:List En:=ZW
def oG:List ObE:=[⟨some 8,.owes LQ,[.e 0,.e 8,.c (.int 0)]⟩,
 ⟨some 3,.owes LF,[.e 0,.e 3,.c (.int 0)]⟩]
def Yw:List Rf:=[.e 36]
theorem qG:D9.sees Yw (D9.run Try.prog [(61,Lq)] Bp 3000 20 20)=some ((Fj++((B5 LF [.i] O9)++(Df++(IX++((B5 LQ [.i] PA)++(G8++(UE))))))).map En.be,oG.map ObE.be,[]):=by kernel_rfl
abbrev cS(T:Tab)(a:Int):Prop:=0<=a/\a <=((L T 0)).length/\(((L T 0)).take a.toNat).all Dk=true
theorem fB (V:fz T)(z:Ba T (Bh (CA 0 D9.ks) Fj))(x:Bi T (Df.map En.be))(y:Bi T ((B5 LF [.i] O9).map En.be)):
  (LF).owes (O9.map (Rf.eval T))/\Ba T (hds 4 [.i])/\(cS T (I T 4))/\¬B T 13=true:=by
 refine CK (nh:=4) (k:=1) (pcn:=13) (R:=16) (b:=Df) (K:=TY) (nxt:=[.e 15]) (H:=[.c (.int 0)]) (fv:=[0,3]) (A:=[.i]) (by kernel_rfl) rfl rfl rfl rfl z (by kernel_rfl) (by kernel_rfl) x (B6 y) (fun s=>cS T (aI s 0)) (fun s=>(((L T 0)).length - (aI s 0)).toNat) ?_ ?_
 .show cS T (0:Int);grind
 .intro J o h p;replace p:cS T (I J 4):=p;clear z x y;replace h:BV J Df:=h;have j:=h;clear h;have u:=fvL (o 0 (by decide));have Q:=fvB (o 3 (by decide));clear o
  suffices E:(B J 7=true->0<=I J 4/\I J 4 < ((L J 0)).length)/\(B J 13=true->(cS T (I J 15)))/\(B J 13=true->(((L T 0)).length - (I J 15)).toNat < (((L T 0)).length - (I J 4)).toNat) from
   let⟨N,M,F⟩:=E;⟨⟨N,trivial⟩,fun i=>⟨M i,F i⟩⟩
  refine⟨?_,?_,?_⟩
  .obtain⟨a,c,d,-⟩:=j;simp only[BS,BZ,zR,zL] at a c d;grind
  .obtain⟨a,c,d,-,t,q,r,l,e,-,g,-⟩:=j;replace l:B J 12=(Dl (S J 9) (I J 10) (I J 11)):=l;simp only[BS,BZ,zR,w2P,zL] at a c d t q r e g;obtain⟨W,X,O⟩:=p;intro i;have w:=e.1 i;have C:=c.1 (d.1 w.1).2;rw[a,u] at C;have P:=o2' g (by omega);have D:(I J 4).toNat < ((L T 0)).length:=by omega
   refine⟨by omega,by omega,?_⟩;rw[P,show ((I J 4)+1).toNat=(I J 4).toNat+1 by omega,D6 D,RB];refine⟨O,?_⟩;have v:=w.2;rw[l,t,q,r,u] at v;exact v
  .obtain⟨a,c,d,-,-,-,-,-,e,-,g,-⟩:=j;simp only[BS,BZ,zR,w2P,zL] at a c d e g;grind
abbrev fE(T:Tab):Prop:=0<=I T 16/\I T 16<=((L T 0)).length/\((L T 0)).length<=140737488355328
theorem aj (h:fE T)(a:BV T FT):
  ((B T 19)=true->I T 16 < ((L T 0)).length):=by
 have b:=a;clear a;have g:(B T 19)=true->I T 16 < ((L T 0)).length:=by
  obtain⟨c,d,e,-⟩:=b;simp only[BS,BZ,zR,zL] at c d e;grind
 exact g
abbrev dc(T:Tab)(a:Int):Prop:=0<=a/\a <=I T 16/\∀q:Nat,(q:Int) <a ->¬uS (((L T 0)).getD (I T 16).toNat []) 0=uS (((L T 0)).getD q []) 0
abbrev fF(T:Tab):Prop:=(B T 19)=true->I T 16 < ((L T 0)).length
theorem gC (z:fE T)(W:fF T)(x:Ba T (Bh (hds 16 [.i]++GC [0,8] (Bh (Bh (hds 4 [.i]++(Bh (CA 0 D9.ks) Fj)) Df) IX)) FT))(v:Bi T (EU.map En.be))(w:Bi T ((B5 Ii [.i] La).map En.be)):
  (Ii).owes (La.map (Rf.eval T))/\Ba T (hds 21 [.i])/\(dc T (I T 21))/\¬B T 29=true:=by
 refine CK (nh:=21) (k:=1) (pcn:=29) (R:=31) (b:=EU) (K:=TU) (nxt:=[.e 30]) (H:=[.c (.int 0)]) (fv:=[0,16,19]) (A:=[.i]) (by kernel_rfl) rfl rfl rfl rfl x (by kernel_rfl) (by kernel_rfl) v (B6 w) (fun s=>dc T (aI s 0)) (fun s=>((I T 16) - (aI s 0)).toNat) ?_ ?_
 .show dc T (0:Int);grind
 .intro J j i o;replace o:dc T (I J 21):=o;clear x v w;replace i:BV J EU:=i;have d:=i;clear i;have y:=fvL (j 0 (by decide));have u:=fvI (j 16 (by decide));have V:=fvB (j 19 (by decide));clear j
  suffices M:(B J 23=true->0<=I J 21/\I J 21 < ((L J 0)).length)/\(B J 23=true->0<=I J 16/\I J 16 < ((L J 0)).length)/\(B J 29=true->(dc T (I J 30)))/\(B J 29=true->((I T 16) - (I J 30)).toNat < ((I T 16) - (I J 21)).toNat) from
   let⟨P,aB,O,N⟩:=M;⟨⟨P,aB,trivial⟩,fun l=>⟨O l,N l⟩⟩
  refine⟨?_,?_,?_,?_⟩
  .obtain⟨a,c,-⟩:=d;simp only[BS,BZ,zR] at a c;grind
  .obtain⟨a,c,-⟩:=d;simp only[BS,BZ,zR] at a c;grind
  .obtain⟨a,c,-,p,r,t,-,e,g,-⟩:=d;simp only[BS,BZ,zN,zR,Dw,and_true,w2P,zL,zS] at a c p r t e g;obtain⟨v1,v2,Q⟩:=o;obtain⟨Y,Z,q3⟩:=z;intro l;have D:=e.1 l;have C:=a.1 (c.1 D.1).2;rw[u] at C;have al:=o2' g (by omega);refine⟨by omega,by omega,fun q X=>?_⟩;rcases Int.lt_or_le (q:Int) (I J 21) with h|h
   .exact Q q h
   .have F:q=(I J 21).toNat:=by omega
    rw[F];intro E;have:(B J 27)=true:=t.2 (by rw[p,r,y,u];exact E);grind
  .obtain⟨a,c,-,-,-,-,-,e,g,-⟩:=d;simp only[BS,BZ,zN,zR,w2P] at a c e g;grind
theorem Tn (e:fE T)(c:Ba T (hds 16 [.i]++GC [0,8] (Bh (Bh (hds 4 [.i]++(Bh (CA 0 D9.ks) Fj)) Df) IX)))(a:Bi T (G8.map En.be)):
  (BV T FT)/\((B T 19)=true->I T 16 < ((L T 0)).length)/\((Ii).owes (La.map (Rf.eval T)))/\(dc T (I T 21))/\(¬B T 29=true)/\(BV T EU)/\(BV T Im)/\Ba T (Bh (Bh (hds 21 [.i]++(Bh (hds 16 [.i]++GC [0,8] (Bh (Bh (hds 4 [.i]++(Bh (CA 0 D9.ks) Fj)) Df) IX)) FT)) EU) Im):=by
 unfold G8 at a;rw[AL,AL,AL] at a;obtain⟨g,a⟩:=cutB a;obtain⟨h,a⟩:=cutB a;obtain⟨b,a⟩:=cutB a;obtain⟨j,d⟩:=Be c (by kernel_rfl) g;have k:=aj e j;obtain⟨u,i,s,t⟩:=gC e k d b h;have o:=(Be (i.append d) (l:=EU) (by kernel_rfl) b);obtain⟨p,c⟩:=o;clear g b h d i;obtain⟨q,r⟩:=Be c (by kernel_rfl) a;grind
abbrev dq(T:Tab)(a:Int):Prop:=0<=a/\a <=((L T 0)).length/\∀p q:Nat,q < p->(p:Int) <a ->¬uS (((L T 0)).getD p []) 0=uS (((L T 0)).getD q []) 0
theorem fy (W:fz T)(v:Ba T (Bh (Bh (hds 4 [.i]++(Bh (CA 0 D9.ks) Fj)) Df) IX))(r:Bi T (G8.map En.be))(u:Bi T ((B5 LQ [.i] PA).map En.be)):
  (LQ).owes (PA.map (Rf.eval T))/\Ba T (hds 16 [.i])/\(dq T (I T 16))/\¬B T 24=true:=by
 refine NT (nh:=16) (k:=1) (pcn:=24) (R:=32) (b:=G8) (K:=UG) (nxt:=[.e 31]) (H:=[.c (.int 0)]) (fv:=[0,8]) (A:=[.i]) (by kernel_rfl) rfl rfl rfl rfl v (by kernel_rfl) r (B6 u) (fun s=>dq T (aI s 0)) (fun s=>(((L T 0)).length - (aI s 0)).toNat) ?_ ?_
 .show dq T (0:Int);grind
 .intro J h w t z;replace z:dq T (I J 16):=z;have P:=fvL (h 0 (by decide));have Q:=fvB (h 8 (by decide));clear h;clear v r u;have D:0<=I J 16/\I J 16<=((L J 0)).length/\((L J 0)).length<=140737488355328:=by
   grind
  obtain⟨j,V,O,X,Y,i,l,x⟩:=Tn D w t;clear w t;have E:=DK x (au:=[.i]) (ah:=[.e 31]) (by kernel_rfl);clear x;have o:=j;clear j;have p:=i;clear i;have q:=l;clear l
  suffices F:(B J 24=true->(dq T (I J 31)))/\(B J 24=true->(((L T 0)).length - (I J 31)).toNat < (((L T 0)).length - (I J 16)).toNat) from
   let⟨N,M⟩:=F;⟨E,⟨(fun _=>O),trivial⟩,fun y=>⟨N y,M y⟩⟩
  refine⟨?_,?_⟩
  .obtain⟨a,c,d,-⟩:=o;obtain⟨C,-,e,-⟩:=p;obtain⟨g,-⟩:=q;simp only[BS,BZ,zN,zR,w2P,zL] at a c d C e g;grind
  .obtain⟨a,c,d,-⟩:=o;obtain⟨-,-,e,-⟩:=p;obtain⟨g,-⟩:=q;simp only[BS,BZ,zN,zR,w2P,zL] at a c d e g;grind
theorem nc (b7:fz T)(b5:∀u∈(L T 0),Bb BT KP u)(bi:cS T (I T 4))(bx:¬B T 13=true)(bl:dq T (I T 16))(b9:¬B T 24=true)(ag:fF T)(bm:dc T (I T 21))(ca:¬B T 29=true)(g1:fE T)(v:BV T Fj)(x:BV T Df)(z:BV T FT)(y:BV T EU)(A:BV T Im)(w:BV T UE):
  ((I T 36)=(BW (L T 0))):=by
 have F0:=v;clear v;have F1:=x;clear x;have F2:=z;clear z;have F3:=y;clear y;have F4:=A;clear A;have F5:=w;clear w
 .obtain⟨D,K,W,-⟩:=F0;obtain⟨o,r,s,e8,e9,E,F,e,H,J,-⟩:=F1;obtain⟨i,j,k,-⟩:=F2;obtain⟨M,l,a5,N,P,Q,V,a7,-⟩:=F3;obtain⟨X,-,Y,-,Z,-⟩:=F5;replace e:B T 12=(Dl (S T 9) (I T 10) (I T 11)):=e;simp only[BS,BZ,zN,zR,Dw,and_true,zL,zS] at D K W o r s e8 e9 E F H J i j k M l a5 N P Q V a7 X Y Z;obtain⟨v1,v2,v3⟩:=bi;obtain⟨aN,w2,w3⟩:=bl;obtain⟨u1,u2,u3⟩:=bm;unfold BW;rw[Z];by_cases C:(B T 2)=true
  .grind
  .have g:¬24 < I T 1:=fun a=>C (K.2 a);rw[D] at g;have h3:=W.2 (by simpa using C);rw[BG C,BG (by omega),Y];by_cases d:(I T 4) < I T 5
   .have bb:(I T 4).toNat < ((L T 0)).length:=by rw[o] at d;omega
    have h7:=s.2 ⟨h3,r.2 d⟩;have b:(B T 12)=false:=Bool.eq_false_iff.2 fun h=>bx (H.2 ⟨h7,h⟩);have a6:¬((L T 0)).all Dk=true:=fun a=>by
     have O:=Ae.1 a _ (Ca bb);rw[e,e9,E,F] at b;have b:Dk (((L T 0)).getD (I T 4).toNat [])=false:=b;rw[b] at O;cases O
    grind
   .have n6:(B T 6)=false:=Bool.eq_false_iff.2 fun a=>d (r.1 a);have bo:¬B T 14=true:=fun a=>by have:=(s.1 (J.1 a).1).2;rw[n6] at this;cases this
    have ei:(I T 4).toNat=((L T 0)).length:=by rw[o] at d;omega
    rw[ei,BD] at v3;rw[BG bo,BG (fun a=>a v3),X];have h8:=e8.2 ⟨h3,n6⟩;by_cases t:(B T 28)=true
    .obtain⟨al,c⟩:=V.1 t;have b4:=M.1 (l.1 al).2;have ag:=j.1 (k.1 (l.1 al).1).2;rw[i] at ag;have c:=Q.1 c;rw[N,P] at c;have nd:¬DD (L T 0):=fun hd=>hd (I T 16).toNat (I T 21).toNat (by omega) (by omega) c;rw[BH t,BH (Sn.2 nd)]
    .have bs:¬B T 19=true:=fun b3=>by
      grind
     have hl:¬I T 16 < ((L T 0)).length:=fun h=>bs (k.2 ⟨h8,j.2 (by rw[i];exact h)⟩);have hd:DD (L T 0):=fun p q hq hp=>w3 p q hq (by omega);rw[BG t,BG (fun a=>(Sn.1 a) hd)]
theorem V9:Bl Try.prog 20 D9:=by
 refine B7 (l:=[(61,Lq)]) CP (by simp only[AW];exact⟨lW,fun _ h=>absurd h (by simp)⟩) qG (by kernel_rfl) fun T us M F r g C a=>?_;change us.length=1 at r;obtain⟨⟨o,J⟩,-⟩:=C;replace o:(L T 0).length<=140737488355328:=o;have K:∀u∈(L T 0),Bb BT KP u:=fun u N=>by
  obtain⟨i,ab⟩:=Ac.1 N;exact J i u ab
 have H:=inL (j:=0) F r (by decide);clear M;rw[AL,AL,AL,AL,AL,AL] at a;obtain⟨d,a⟩:=cutB a;obtain⟨e,a⟩:=cutB a;obtain⟨c,a⟩:=cutB a;obtain⟨s,b⟩:=Be g (by kernel_rfl) d;obtain⟨Y,k,O,V⟩:=fB o b c e;have D:=(Be (k.append b) (l:=Df) (by kernel_rfl) c);obtain⟨v,g⟩:=D;clear d c e b k;obtain⟨d,a⟩:=cutB a;obtain⟨e,a⟩:=cutB a;obtain⟨c,a⟩:=cutB a;obtain⟨A1,b⟩:=Be g (by kernel_rfl) d;obtain⟨Z,k,P,W⟩:=fy o b c e;have p:0<=I T 16/\I T 16<=((L T 0)).length/\((L T 0)).length<=140737488355328:=by
  grind
 obtain⟨x,z,al,Q,X,w,y,q⟩:=Tn p (k.append (EO (fun _ _=>rfl) b)) c;have g:=q.append b;clear d c e b k q;obtain⟨t,E⟩:=B8 (A:=[.i]) (ah:=Yw) g (by kernel_rfl) a;have q0:=nc o K O V P W z Q X p s v x w y t;refine⟨⟨(fun _=>Z),(fun _=>Y),trivial⟩,E.trans ?_⟩;exact (lc (by show U.int (I T 36)= .int (G2 us);unfold G2;rw[H];exact BI U.int q0) rfl)
def KK:List U->Int:=fun us=>(Gw (aI us 0) (aI us 1) (aI us 2) (aS us 4) (aS us 5) (aI us 7) (aI us 8))
def Jl:Bf:={ sh:=[.agg [k64,k64,k64,.bool,.str,.str,.bool,k64,k64]],blks:=[],outs:=[(.s "rCheckSh.0",CW KK)],c:=(Cy 9),m':=[],pre:=[] }
def W7:List En:=[⟨9,.le,[.c (.int 0),.e 0]⟩,
 ABU 10 9,
 ⟨11,.le,[.e 0,.c (.int 1099511627776)]⟩,
 nl 12 9 11,
 ABU 13 12,
 ⟨14,.lt,[.e 1,.c (.int 0)]⟩,
 ⟨15,.or,[.n 12,.e 14]⟩,
 ABH 16 15,
 ⟨17,.lt,[.c (.int 1048576),.e 1]⟩,
 ABG 18 15 17,
 ABH 19 18,
 ⟨20,.le,[.c (.int 0),.e 2]⟩,
 nl 21 19 20,
 ⟨22,.le,[.e 2,.c (.int 1099511627776)]⟩,
 nl 23 20 22,
 ⟨24,.or,[.e 18,.n 23]⟩]
def Xv:List En:=[ABH 25 24,
 ⟨26,.outB "xnamed.0" IC,[.e 4]⟩,
 ⟨27,.or,[.e 24,.n 26]⟩,
 ABH 28 27,
 ⟨29,.outB "xnamed.0" IC,[.e 5]⟩,
 ⟨30,.or,[.e 27,.n 29]⟩,
 ABH 31 30,
 ⟨32,.eqs [.s],[.e 4,.e 5]⟩,
 ABG 33 30 32,
 ABH 34 33,
 ⟨35,.lt,[.e 8,.c (.int 0)]⟩,
 ABF 36 34 35,
 ABI 37 7 8,
 ABG 38 35 37,
 ABF 39 34 38,
 ⟨40,.lt,[.c (.int 26),.e 7]⟩]
def XV:List En:=[ABG 41 38 40,
 nl 42 34 41,
 ABF 43 34 41,
 ⟨44,.ite .i,[.e 42,.c (.int 2),.c (.int 0)]⟩,
 ABG 45 42 43,
 ⟨46,.ite .i,[.e 33,.c (.int 2),.e 44]⟩,
 ABG 47 33 45]
def Sd:List En:=W7++(Xv++(XV))
def kT:List ObE:=[]
def VJ:List Rf:=[.e 46]
theorem kU:Jl.sees VJ (Jl.run Try.prog [(64,HP)] Bp 3000 20 22)=some ((Sd).map En.be,kT.map ObE.be,[]):=by kernel_rfl
theorem kV (P:(S T 4).size<=140737488355328)(Q:(S T 5).size<=140737488355328)(b:BV T Sd):
  ((I T 46)=(Gw (I T 0) (I T 1) (I T 2) (S T 4) (S T 5) (I T 7) (I T 8))):=by
 obtain⟨j,b⟩:=b.cut;obtain⟨k,b⟩:=b.cut;have l:=b;clear b
 .obtain⟨O,-,o,p,-,q,r,-,s,t,-,u,-,v,w,x,-⟩:=j;obtain⟨-,c,y,-,d,z,-,A,D,E,F,-,H,J,-,K,-⟩:=k;obtain⟨M,N,-,e,-,g,-⟩:=l;replace c:B T 26=(Dn (S T 4)):=c;replace d:B T 29=(Dn (S T 5)):=d;simp only[BS,BZ,zN,zR,Dw,and_true,zL,zS] at O o p q r s t u v w x y z A D E F H J K M N e g;unfold Gw;rw[g,e];have i:((B T 33)=true\/B T 42=true)↔¬(KY (I T 0) 0 1099511627776&&KY (I T 2) 0 1099511627776&&KY (I T 1) 0 1048576&&Dn (S T 4)&&Dn (S T 5)&& !decide ((S T 4)=S T 5)&&decide (0<=I T 8)&&decide ((I T 8)<=I T 7)&&decide ((I T 7)<=26))=true:=by
   rw[<-c,<-d];simp only[AB,RH,Bool.not_eq_true',decide_eq_false_iff_not,decide_eq_true_eq];clear c d g e;grind
  by_cases h:(B T 33)=true
  .rw[BH h,BG (i.1 (.inl h))]
  .rw[BG h];by_cases C:(B T 42)=true
   .rw[BH C,BG (i.1 (.inr C))]
   .rw[BG C,BH (At fun a=>(i.2 a).elim h C)]
theorem fH:Bl Try.prog 22 Jl:=by
 refine B7 (l:=[(64,HP)]) CP (by simp only[AW];exact⟨ZI,fun _ h=>absurd h (by simp)⟩) kU (by kernel_rfl) fun T us w b a o g i=>?_;change us.length=9 at a;obtain⟨-,-,-,c,d,-⟩:=g;replace c:(S T 4).size<=140737488355328:=c;replace d:(S T 5).size<=140737488355328:=d;have p:=inI (j:=0) b a (by decide);have q:=inI (j:=1) b a (by decide);have r:=inI (j:=2) b a (by decide);have s:=inS (j:=4) b a (by decide);have t:=inS (j:=5) b a (by decide);have u:=inI (j:=7) b a (by decide);have v:=inI (j:=8) b a (by decide);clear w
 skip
 obtain⟨e,k⟩:=B8 (A:=[.i]) (ah:=VJ) o (by kernel_rfl) i;have x:=kV c d e;refine⟨trivial,k.trans ?_⟩;exact (lc (by show U.int (I T 46)= .int (KK us);unfold KK;rw[p,q,r,s,t,u,v];exact BI U.int x) rfl)
def MQ:List U->Bool:=fun us=>(EZ (aL us 0))
def Ga:Bf:={ sh:=[.one (.list [k64,k64,k64,.bool,.str,.str,.bool,k64,k64])],blks:=[],outs:=[(.s "rsound.0",Jx MQ)],c:= .b 1,m':=[],pre:=[] }
def KN:List En:=[]
def W3:List En:=[ABL 2 0,
 ABI 3 1 2,
 ABH 4 3]
def GP:List En:=W3
def eU:List En:=[ABI 6 5 1,
 nl 7 3 6,
 ABF 8 3 6,
 ABM 9 0 1,
 ABM 10 0 5,
 ⟨11,.eq,[.e 9,.e 10]⟩,
 nl 12 7 11,
 nl 13 7 11,
 ABJ 14 0 1,
 nl 15 7 11,
 nl 16 7 11,
 ABJ 17 0 5,
 ⟨18,.eq,[.e 14,.e 17]⟩,
 nl 19 11 18,
 nl 20 7 19,
 nl 21 7 19]
def am:List En:=[ABM 22 0 1,
 ABJ 23 0 1,
 ABK 24 0 1,
 ABP 25 0 1,
 ABN 26 0 1,
 ABO 27 0 1,
 ABQ 28 0 1,
 ABR 29 0 1,
 ABS 30 0 1,
 nl 31 7 19,
 nl 32 7 19,
 ABM 33 0 5,
 ABJ 34 0 5,
 ABK 35 0 5,
 ABP 36 0 5,
 ABN 37 0 5]
def cz:List En:=[ABO 38 0 5,
 ABQ 39 0 5,
 ABR 40 0 5,
 ABS 41 0 5,
 ⟨42,.nes [.i,.i,.i,.b,.s,.s,.b,.i,.i],[.e 22,.e 33,.e 23,.e 34,.e 24,.e 35,.e 25,.e 36,.e 26,.e 37,.e 27,.e 38,.e 28,.e 39,.e 29,.e 40,.e 30,.e 41]⟩,
 nl 43 19 42,
 nl 44 7 43,
 ABF 45 7 43,
 ⟨46,.w2 .i64 .add,[.e 5,.c (.int 1)]⟩]
def Eu:List En:=eU++(am++(cz))
def WD:List ObE:=[⟨some 32,.inl,[.e 5,.e 0]⟩,⟨some 21,.inl,[.e 1,.e 0]⟩,⟨some 16,.inl,[.e 5,.e 0]⟩,⟨some 13,.inl,[.e 1,.e 0]⟩,⟨some 7,.inl,[.e 5,.e 0]⟩,⟨some 7,.inl,[.e 1,.e 0]⟩]
def J4:Bs:=mkD 5 1 Eu 45 [.e 46] WD [0,1,3]
def Mv:List Rf:=[.e 0,.e 1,.e 3,.c (.int 0)]
def W5:List En:=[⟨47,.w2 .i64 .add,[.e 1,.c (.int 1)]⟩]
def Jp:List En:=W5
def IH:List En:=GP++((B5 J4 [.i] Mv)++(Eu++(Jp)))
def VG:List ObE:=[⟨some 3,.owes J4,[.e 0,.e 1,.e 3,.c (.int 0)]⟩]
def MT:Bs:=mkD 1 1 IH 8 [.e 47] VG [0]
def Qe:List Rf:=[.e 0,.c (.int 0)]
def bW:List En:=[⟨48,.ite .b,[.e 44,.c (.bool false),.c (.bool true)]⟩,
 ABG 49 44 4]
def Vm:List En:=bW
def qZ:List ObE:=[⟨none,.owes MT,[.e 0,.c (.int 0)]⟩]
def cm:List Rf:=[.e 48]
theorem tc:Ga.sees cm (Ga.run Try.prog [] Bp 3000 20 62)=some ((KN++((B5 MT [.i] Qe)++(IH++(Vm)))).map En.be,qZ.map ObE.be,[]):=by kernel_rfl
abbrev fR(T:Tab):Prop:=0<=I T 1/\I T 1<=((L T 0)).length/\∀p q:Nat,q < p->(p:Int) < I T 1->okP (L T 0) p q
abbrev fU(T:Tab):Prop:=((L T 0)).length<=140737488355328/\∀u∈(L T 0),Bb BT KB u
theorem gO (g:fR T)(aw:fU T)(a:BV T GP):
  ((B T 3)=true->I T 1 < ((L T 0)).length):=by
 have b:=a;clear a;have e:(B T 3)=true->I T 1 < ((L T 0)).length:=by
  obtain⟨c,d,-⟩:=b;simp only[BS,zR,zL] at c d;grind
 exact e
abbrev dD(T:Tab)(a:Int):Prop:=0<=a/\a <=I T 1/\∀q:Nat,(q:Int) <a ->okP (L T 0) (I T 1).toNat q
abbrev fW(T:Tab):Prop:=(B T 3)=true->I T 1 < ((L T 0)).length
theorem jn (g1:fR T)(aw:fU T)(h3:fW T)(hS:Ba T (Bh (hds 1 [.i]++GC [0] (Bh (CA 0 Ga.ks) KN)) GP))(hB:Bi T (Eu.map En.be))(hH:Bi T ((B5 J4 [.i] Mv).map En.be)):
  (J4).owes (Mv.map (Rf.eval T))/\Ba T (hds 5 [.i])/\(dD T (I T 5))/\¬B T 45=true:=by
 refine CK (nh:=5) (k:=1) (pcn:=45) (R:=47) (b:=Eu) (K:=WD) (nxt:=[.e 46]) (H:=[.c (.int 0)]) (fv:=[0,1,3]) (A:=[.i]) (by kernel_rfl) rfl rfl rfl rfl hS (by kernel_rfl) (by kernel_rfl) hB (B6 hH) (fun s=>dD T (aI s 0)) (fun s=>((I T 1) - (aI s 0)).toNat) ?_ ?_
 .show dD T (0:Int);grind
 .intro J Z l al;replace al:dD T (I J 5):=al;clear hS hB hH;replace l:BV J Eu:=l;obtain⟨j,l⟩:=l.cut;obtain⟨o,l⟩:=l.cut;have F2:=l;clear l;have bb:=fvL (Z 0 (by decide));have a3:=fvI (Z 1 (by decide));have bc:=fvB (Z 3 (by decide));clear Z
  suffices hz:(B J 32=true->0<=I J 5/\I J 5 < ((L J 0)).length)/\(B J 21=true->0<=I J 1/\I J 1 < ((L J 0)).length)/\(B J 16=true->0<=I J 5/\I J 5 < ((L J 0)).length)/\(B J 13=true->0<=I J 1/\I J 1 < ((L J 0)).length)/\(B J 7=true->0<=I J 5/\I J 5 < ((L J 0)).length)/\(B J 7=true->0<=I J 1/\I J 1 < ((L J 0)).length)/\(B J 45=true->(dD T (I J 46)))/\(B J 45=true->((I T 1) - (I J 46)).toNat < ((I T 1) - (I J 5)).toNat) from
   let⟨r0,aB,aJ,r3,r4,r5,nx,mz⟩:=hz;⟨⟨r0,aB,aJ,r3,r4,r5,trivial⟩,fun hp=>⟨nx hp,mz hp⟩⟩
  refine⟨?_,?_,?_,?_,?_,?_,?_,?_⟩
  .obtain⟨a,c,-,-,-,-,-,d,-,-,e,-,-,-,-,g,-⟩:=j;obtain⟨-,-,-,-,-,-,-,-,-,-,i,-⟩:=o;simp only[BS,BZ,zR] at a c d e g i;grind
  .obtain⟨a,c,-,-,-,-,-,d,-,-,e,-,-,-,-,g,-⟩:=j;obtain⟨-,-,-,-,-,-,-,-,-,-,i,-⟩:=o;simp only[BS,BZ,zR] at a c d e g i;grind
  .obtain⟨a,c,-,-,-,-,-,d,-,-,e,-,-,-,-,g,-⟩:=j;obtain⟨-,-,-,-,-,-,-,-,-,-,i,-⟩:=o;simp only[BS,BZ,zR] at a c d e g i;grind
  .obtain⟨a,c,-,-,-,-,-,d,-,-,e,-,-,-,-,g,-⟩:=j;obtain⟨-,-,-,-,-,-,-,-,-,-,i,-⟩:=o;simp only[BS,BZ,zR] at a c d e g i;grind
  .obtain⟨a,c,-,-,-,-,-,d,-,-,e,-,-,-,-,g,-⟩:=j;obtain⟨-,-,-,-,-,-,-,-,-,-,i,-⟩:=o;simp only[BS,BZ,zR] at a c d e g i;grind
  .obtain⟨a,c,-,-,-,-,-,d,-,-,e,-,-,-,-,g,-⟩:=j;obtain⟨-,-,-,-,-,-,-,-,-,-,i,-⟩:=o;simp only[BS,BZ,zR] at a c d e g i;grind
  .obtain⟨a,c,-,Y,ad,ax,-,-,C,-,-,ag,a0,a1,-⟩:=j;obtain⟨p,r,t,u,v,w,x,y,z,-,-,D,E,F,M,N,-⟩:=o;obtain⟨O,P,Q,V,a2,ba,-,W,X,-⟩:=F2;simp only[BS,BZ,zN,zR,Dw,and_true,w2P,zL,zS] at a c Y ad ax C ag a0 a1 p r t u v w x y z D E F M N O P Q V a2 ba W X;obtain⟨v1,v2,v3⟩:=al;obtain⟨ce,a8⟩:=aw;intro hp;have bl:=W.1 hp;have h7:=c.1 bl.1;have h6:=a.1 h7.2;rw[a3] at h6;have hh:=h3 (by rw[<-bc];exact h7.1);have cj:=o2' X (by omega);have bo:(I T 1).toNat < ((L T 0)).length:=by omega
   have bs:(I J 5).toNat < ((L T 0)).length:=by omega
   have aC:=Q0 (show TyB ((L T 0)) from a8) (show TyB ((L T 0)) from a8) bo bs;refine⟨by omega,by omega,fun q hq=>?_⟩;rcases Int.lt_or_le (q:Int) (I J 5) with h|h
   .exact v3 q h
   .have bt:q=(I J 5).toNat:=by omega
    rw[bt];intro k0 k1;refine aC.1 (At fun hn=>?_);have zz:True:=by have _:=p;have _:=r;have _:=t;have _:=u;have _:=v;have _:=w;have _:=x;have _:=y;have _:=z;have _:=D;have _:=E;have _:=F;have _:=M;have _:=N;have _:=O;have _:=P;have _:=Q;have _:=V;trivial
    rw[bb] at Y ad C ag p r t u v w x y z D E F M N O P Q V;rw[a3] at Y C p r t u v w x y z;rw[<-p,<-r,<-t,<-u,<-v,<-w,<-x,<-y,<-z,<-D,<-E,<-F,<-M,<-N,<-O,<-P,<-Q,<-V] at hn;have cb:=a2.2 hn;have ca:=a1.2 ⟨ax.2 (by rw[Y,ad];exact k0),a0.2 (by rw[C,ag];exact k1)⟩;grind
  .obtain⟨a,c,-⟩:=j;obtain⟨-,-,-,-,-,-,-,W,X,-⟩:=F2;simp only[BS,BZ,zN,zR,w2P] at a c W X;grind
theorem Vc (e:fR T)(aw:fU T)(c:Ba T (hds 1 [.i]++GC [0] (Bh (CA 0 Ga.ks) KN)))(a:Bi T (IH.map En.be)):
  (BV T GP)/\((B T 3)=true->I T 1 < ((L T 0)).length)/\((J4).owes (Mv.map (Rf.eval T)))/\(dD T (I T 5))/\(¬B T 45=true)/\(BV T Eu)/\(BV T Jp)/\Ba T (Bh (Bh (hds 5 [.i]++(Bh (hds 1 [.i]++GC [0] (Bh (CA 0 Ga.ks) KN)) GP)) Eu) Jp):=by
 unfold IH at a;rw[AL,AL,AL] at a;obtain⟨g,a⟩:=cutB a;obtain⟨h,a⟩:=cutB a;obtain⟨b,a⟩:=cutB a;obtain⟨j,d⟩:=Be c (by kernel_rfl) g;have k:=gO e aw j;obtain⟨u,i,s,t⟩:=jn e aw k d b h;have o:=(Be (i.append d) (l:=Eu) (by kernel_rfl) b);obtain⟨p,c⟩:=o;clear g b h d i;obtain⟨q,r⟩:=Be c (by kernel_rfl) a;grind
abbrev dF(T:Tab)(a:Int):Prop:=0<=a/\a <=((L T 0)).length/\∀p q:Nat,q < p->(p:Int) <a ->okP (L T 0) p q
theorem lD (ab:fz T)(Z:∀u∈(L T 0),Bb BT KB u)(x:Ba T (Bh (CA 0 Ga.ks) KN))(t:Bi T (IH.map En.be))(w:Bi T ((B5 MT [.i] Qe).map En.be)):
  (MT).owes (Qe.map (Rf.eval T))/\Ba T (hds 1 [.i])/\(dF T (I T 1))/\¬B T 8=true:=by
 refine NT (nh:=1) (k:=1) (pcn:=8) (R:=48) (b:=IH) (K:=VG) (nxt:=[.e 47]) (H:=[.c (.int 0)]) (fv:=[0]) (A:=[.i]) (by kernel_rfl) rfl rfl rfl rfl x (by kernel_rfl) t (B6 w) (fun s=>dF T (aI s 0)) (fun s=>(((L T 0)).length - (aI s 0)).toNat) ?_ ?_
 .show dF T (0:Int);grind
 .intro J C y v h;replace h:dF T (I J 1):=h;have F:=fvL (C 0 (by decide));clear C;clear x t w;have M:0<=I J 1/\I J 1<=((L J 0)).length/\∀p q:Nat,q < p->(p:Int) < I J 1->okP (L J 0) p q:=by
   rw[F];exact h
  have aw:((L J 0)).length<=140737488355328/\∀u∈(L J 0),Bb BT KB u:=by
   grind
  obtain⟨i,Y,V,ad,ag,a,j,z⟩:=Vc M aw y v;clear y v;have N:=DK z (au:=[.i]) (ah:=[.e 47]) (by kernel_rfl);clear z;have l:=i;clear i;obtain⟨o,a⟩:=a.cut;obtain⟨W,a⟩:=a.cut;have X:=a;clear a;have r:=j;clear j
  suffices O:(B J 8=true->(dF T (I J 47)))/\(B J 8=true->(((L T 0)).length - (I J 47)).toNat < (((L T 0)).length - (I J 1)).toNat) from
   let⟨Q,P⟩:=O;⟨N,⟨(fun _=>V),trivial⟩,fun D=>⟨Q D,P D⟩⟩
  refine⟨?_,?_⟩
  .obtain⟨c,d,-⟩:=l;obtain⟨E,-,g,-⟩:=o;obtain⟨e,-⟩:=r;simp only[BS,BZ,zN,zR,w2P,zL] at c d E g e;grind
  .obtain⟨c,d,-⟩:=l;obtain⟨-,-,g,-⟩:=o;obtain⟨e,-⟩:=r;simp only[BS,BZ,zN,zR,w2P,zL] at c d g e;grind
theorem sr (bm:fz T)(C:∀u∈(L T 0),Bb BT KB u)(ba:dF T (I T 1))(bs:¬B T 8=true)(h3:fW T)(bb:dD T (I T 5))(bt:¬B T 45=true)(g1:dF T (I T 1))(aw:fU T)(E:BV T GP)(a:BV T Eu)(F:BV T Jp)(D:BV T Vm):
  ((B T 48)=(EZ (L T 0))):=by
 have F0:=E;clear E;obtain⟨F1,a⟩:=a.cut;obtain⟨F2,a⟩:=a.cut;have F3:=a;clear a;have F4:=F;clear F;have F5:=D;clear D
 .obtain⟨O,P,-⟩:=F0;obtain⟨Y,A,e8,Z,H,J,-,-,K,-,-,M,N,c,-⟩:=F1;obtain⟨d,e,g,i,j,k,l,o,p,-,-,q,r,s,t,v,-⟩:=F2;obtain⟨w,x,y,z,Q,V,W,a6,-⟩:=F3;obtain⟨X,-⟩:=F5;simp only[BS,BZ,zN,zC,zR,Dw,and_true,zL,zS] at O P Y A e8 Z H J K M N c d e g i j k l o p q r s t v w x y z Q V W a6 X;obtain⟨v1,v2,v3⟩:=ba;obtain⟨aN,w2,w3⟩:=bb;have zz:True:=by have _:=d;have _:=e;have _:=g;have _:=i;have _:=j;have _:=k;have _:=l;have _:=o;have _:=p;have _:=q;have _:=r;have _:=s;have _:=t;have _:=v;have _:=w;have _:=x;have _:=y;have _:=z;trivial
  have bo:(B T 48)=true↔EZ (L T 0)=true:=by
   rw[X,Rz (show TyB ((L T 0)) from C),mE];by_cases ag:(B T 44)=true
   .obtain⟨h7,a8⟩:=W.1 ag;have h6:=Y.1 (A.1 h7).2;have h3:=P.1 (A.1 h7).1;rw[O] at h3;have ao:(I T 1).toNat < ((L T 0)).length:=by omega
    have a9:(I T 5).toNat < ((L T 0)).length:=by omega
    have aC:=Q0 (show TyB ((L T 0)) from C) (show TyB ((L T 0)) from C) ao a9;obtain⟨ab,b⟩:=V.1 a8;have b:=Q.1 b;rw[d,e,g,i,j,k,l,o,p,q,r,s,t,v,w,x,y,z] at b;have k0:=J.1 (c.1 ab).1;have k1:=N.1 (c.1 ab).2;rw[Z,H] at k0;rw[K,M] at k1;refine⟨fun h=>absurd ag (by simpa using h),fun h=>absurd (aC.2 (h (I T 1).toNat (I T 5).toNat (by omega) ao k0 k1)) b⟩
   .grind
  grind
theorem oA:Bl Try.prog 62 Ga:=by
 refine B7 (l:=[]) CP (by intro p h;exact absurd h (by simp)) tc (by kernel_rfl) fun T us J E t e C a=>?_;change us.length=1 at t;obtain⟨⟨c,H⟩,-⟩:=C;replace c:(L T 0).length<=140737488355328:=c;have s:∀u∈(L T 0),Bb BT KB u:=fun u K=>by
  obtain⟨i,ab⟩:=Ac.1 K;exact H i u ab
 have F:=inL (j:=0) E t (by decide);clear J;rw[AL,AL,AL] at a;obtain⟨k,a⟩:=cutB a;obtain⟨o,a⟩:=cutB a;obtain⟨d,a⟩:=cutB a;obtain⟨W,b⟩:=Be e (by kernel_rfl) k;obtain⟨Q,q,M,O⟩:=lD c s b d o;have g:dF T (I T 1):=by
  grind
 have aw:((L T 0)).length<=140737488355328/\∀u∈(L T 0),Bb BT KB u:=by
  grind
 obtain⟨x,z,X,N,P,w,y,r⟩:=Vc g aw (q.append (EO (fun _ _=>rfl) b)) d;have e:=r.append b;clear k d o b q r;obtain⟨v,D⟩:=B8 (A:=[.b]) (ah:=cm) e (by kernel_rfl) a;have V:=sr c s M O z N P g aw x w y v;refine⟨⟨(fun _=>Q),trivial⟩,D.trans ?_⟩;exact (lc (by show U.bool (B T 48)= .bool (MQ us);unfold MQ;rw[F];exact BI U.bool V) rfl)
def LE:List U->Int:=fun us=>(Bc (aL us 0))
def Je:Bf:={ sh:=[.one (.list [k64,k64,k64,.bool,.str,.str,.bool,k64,k64])],blks:=[],outs:=[(.s "rCheckL.0",CW LE)],c:=(Cy 1),m':=[],pre:=[] }
def ZY:List En:=[ABL 1 0,
 ⟨2,.lt,[.c (.int 200),.e 1]⟩,
 ABH 3 2]
def O7:List En:=ZY
def Za:List En:=[ABL 5 0,
 ABI 6 4 5,
 nl 7 3 6,
 ABF 8 3 6,
 ABM 9 0 4,
 ABJ 10 0 4,
 ABK 11 0 4,
 ABP 12 0 4,
 ABN 13 0 4,
 ABO 14 0 4,
 ABQ 15 0 4,
 ABR 16 0 4,
 ABS 17 0 4,
 ⟨18,.outI "rCheckSh.0" KK,[.e 9,.e 10,.e 11,.e 12,.e 13,.e 14,.e 15,.e 16,.e 17]⟩,
 ⟨19,.ne,[.e 18,.c (.int 0)]⟩,
 nl 20 7 19]
def ZR:List En:=[ABF 21 7 19,
 ⟨22,.w2 .i64 .add,[.e 4,.c (.int 1)]⟩]
def Fh:List En:=Za++(ZR)
def Tz:List ObE:=[⟨some 7,.inl,[.e 4,.e 0]⟩]
def LI:Bs:=mkD 4 1 Fh 21 [.e 22] Tz [0,3]
def PI:List Rf:=[.e 0,.e 3,.c (.int 0)]
def Zg:List En:=[⟨23,.outB "rsound.0" MQ,[.e 0]⟩,
 nl 24 8 23,
 ABF 25 8 23,
 ⟨26,.ite .i,[.e 25,.c (.int 12),.c (.int 0)]⟩,
 ABG 27 25 24,
 ⟨28,.ite .i,[.e 20,.c (.int 2),.e 26]⟩,
 ABG 29 20 27,
 ⟨30,.ite .i,[.e 2,.c (.int 6),.e 28]⟩,
 ABG 31 2 29]
def UF:List En:=Zg
def nz:List ObE:=[⟨some 3,.owes LI,[.e 0,.e 3,.c (.int 0)]⟩]
def YL:List Rf:=[.e 30]
theorem qF:Je.sees YL (Je.run Try.prog [(22,Jl),(62,Ga)] Bp 3000 20 21)=some ((O7++((B5 LI [.i] PI)++(Fh++(UF)))).map En.be,nz.map ObE.be,[]):=by kernel_rfl
abbrev dK(T:Tab)(a:Int):Prop:=0<=a/\a <=((L T 0)).length/\(((L T 0)).take a.toNat).all Ed=true
theorem fk (aw:fz T)(E:Ba T (Bh (CA 0 Je.ks) O7))(C:Bi T (Fh.map En.be))(D:Bi T ((B5 LI [.i] PI).map En.be)):
  (LI).owes (PI.map (Rf.eval T))/\Ba T (hds 4 [.i])/\(dK T (I T 4))/\¬B T 21=true:=by
 refine CK (nh:=4) (k:=1) (pcn:=21) (R:=23) (b:=Fh) (K:=Tz) (nxt:=[.e 22]) (H:=[.c (.int 0)]) (fv:=[0,3]) (A:=[.i]) (by kernel_rfl) rfl rfl rfl rfl E (by kernel_rfl) (by kernel_rfl) C (B6 D) (fun s=>dK T (aI s 0)) (fun s=>(((L T 0)).length - (aI s 0)).toNat) ?_ ?_
 .show dK T (0:Int);clear E C D;exact⟨by omega,by omega,by simp⟩
 .intro J F h o;replace o:dK T (I J 4):=o;clear E C D;replace h:BV J Fh:=h;obtain⟨p,h⟩:=h.cut;have N:=h;clear h;have z:=fvL (F 0 (by decide));have ao:=fvB (F 3 (by decide));clear F
  suffices hz:(B J 7=true->0<=I J 4/\I J 4 < ((L J 0)).length)/\(B J 21=true->(dK T (I J 22)))/\(B J 21=true->(((L T 0)).length - (I J 22)).toNat < (((L T 0)).length - (I J 4)).toNat) from
   let⟨r0,nx,mz⟩:=hz;⟨⟨r0,trivial⟩,fun g=>⟨nx g,mz g⟩⟩
  refine⟨?_,?_,?_⟩
  .obtain⟨c,d,e,-⟩:=p;simp only[BS,BZ,zR,zL] at c d e;obtain⟨V,W,M⟩:=o;intro g;have l:=d.1 (e.1 g).2;rw[c] at l;omega
  .obtain⟨c,d,e,-,y,q,r,-,t,u,-,v,w,x,O,-⟩:=p;obtain⟨i,j,-⟩:=N;replace x:I J 18=(Gw (I J 9) (I J 10) (I J 11) (S J 13) (S J 14) (I J 16) (I J 17)):=x;simp only[BS,BZ,zN,zR,w2P,zL] at c d e y q r t u v w O i j;obtain⟨V,W,M⟩:=o;intro g;have Q:=i.1 g;have l:=d.1 (e.1 Q.1).2;rw[c,z] at l;have X:=o2' j (by omega);have Z:(I J 4).toNat < ((L T 0)).length:=by omega
   rw[z] at y q r t u v w;refine⟨by omega,by omega,?_⟩;rw[X,show ((I J 4)+1).toNat=(I J 4).toNat+1 by omega,D6 Z,RB];refine⟨M,?_⟩;have Y:¬ ¬I J 18=0:=fun a=>by
    have:=O.2 a;simp[this] at Q
   have P:(I J 18)=0:=At Y;rw[x,y,q,r,t,u,v,w] at P;exact decide_eq_true P
  .obtain⟨c,d,e,-⟩:=p;obtain⟨i,j,-⟩:=N;simp only[BS,BZ,zN,zR,w2P,zL] at c d e i j;obtain⟨V,W,M⟩:=o;intro g;have l:=d.1 (e.1 (i.1 g).1).2;rw[c,z] at l;have X:=o2' j (by omega);omega
theorem nA (a1:fz T)(a0:∀u∈(L T 0),Bb BT KB u)(ao:dK T (I T 4))(ax:¬B T 21=true)(r:BV T O7)(c:BV T Fh)(s:BV T UF):
  ((I T 30)=(Bc (L T 0))):=by
 have X:=r;clear r;obtain⟨Y,c⟩:=c.cut;have Z:=c;clear c;have F3:=s;clear s
 .obtain⟨h,j,H,-⟩:=X;obtain⟨o,p,q,K,M,t,v,-,w,x,-,y,z,i,A,k,-⟩:=Y;obtain⟨D,-⟩:=Z;obtain⟨d,-,l,E,-,F,-,J,-⟩:=F3;replace i:I T 18=(Gw (I T 9) (I T 10) (I T 11) (S T 13) (S T 14) (I T 16) (I T 17)):=i;replace d:B T 23=(EZ (L T 0)):=d;simp only[BS,BZ,zN,zR,zL,zS] at h j H o p q K M t v w x y z A k D l E F J;obtain⟨v1,v2,W⟩:=ao;unfold Bc;rw[J];by_cases C:(B T 2)=true
  .have g:=j.1 C;rw[h] at g;rw[BH C,BH (by omega)]
  .have g:¬200 < I T 1:=fun a=>C (j.2 a);rw[h] at g;have P:=H.2 (by simpa using C);rw[BG C,BG (by omega),F];by_cases e:(I T 4) < I T 5
   .have al:(I T 4).toNat < ((L T 0)).length:=by rw[o] at e;omega
    have Q:=q.2 ⟨P,p.2 e⟩;have b:(B T 19)=true:=by
     by_cases b:(B T 19)=true
     .exact b
     .exact absurd (D.2 ⟨Q,by simpa using b⟩) ax
    have a6:¬((L T 0)).all Ed=true:=fun a=>by
     have O:=of_decide_eq_true (Ae.1 a _ (Ca al));have N:=A.1 b;rw[i,M,t,v,w,x,y,z] at N;exact N O
    rw[BH (k.2 ⟨Q,b⟩),BH a6]
   .have V:(B T 6)=false:=Bool.eq_false_iff.2 fun a=>e (p.1 a);have aw:¬B T 20=true:=fun a=>by have:=(q.1 (k.1 a).1).2;rw[V] at this;cases this
    have ei:(I T 4).toNat=((L T 0)).length:=by rw[o] at e;omega
    rw[ei,BD] at W;rw[BG aw,BG (fun a=>a W),E];have h8:=K.2 ⟨P,V⟩;by_cases aa:EZ (L T 0)=true
    .rw[BH aa,BG (fun a=>by have:=(l.1 a).2;rw[d,aa] at this;cases this)]
    .rw[BG aa,BH (l.2 ⟨h8,by rw[d];simpa using aa⟩)]
theorem jM:Bl Try.prog 21 Je:=by
 refine B7 (l:=[(22,Jl),(62,Ga)]) CP (by simp only[AW];exact⟨fH,oA,fun _ h=>absurd h (by simp)⟩) qF (by kernel_rfl) fun T us D x p d t a=>?_;change us.length=1 at p;obtain⟨⟨b,z⟩,-⟩:=t;replace b:(L T 0).length<=140737488355328:=b;have C:∀u∈(L T 0),Bb BT KB u:=fun u E=>by
  obtain⟨i,ab⟩:=Ac.1 E;exact z i u ab
 have y:=inL (j:=0) x p (by decide);clear D;rw[AL,AL,AL] at a;obtain⟨g,a⟩:=cutB a;obtain⟨k,a⟩:=cutB a;obtain⟨c,a⟩:=cutB a;obtain⟨q,e⟩:=Be d (by kernel_rfl) g;obtain⟨J,o,F,H⟩:=fk b e c k;have v:=(Be (o.append e) (l:=Fh) (by kernel_rfl) c);obtain⟨s,d⟩:=v;clear g c k e o;obtain⟨r,w⟩:=B8 (A:=[.i]) (ah:=YL) d (by kernel_rfl) a;have K:=nA b C F H q s r;refine⟨⟨(fun _=>J),trivial⟩,w.trans ?_⟩;exact (lc (by show U.int (I T 30)= .int (LE us);unfold LE;rw[y];exact BI U.int K) rfl)
end
section
open Go Go.Eng Go.Proofs Go.Shelf Go.RowKit Go.Lib
def KR:List U->Bool:=fun us=>(Dn (aS us 0))
def NM:Bf:={ sh:=[.one (.str)],blks:=[],outs:=[(.s "xvname.0",Jx KR)],c:= .b 1,m':=[],pre:=[] }
def mA:Go.Shelf.Ren:=⟨fun|17=>110|15=>130|20=>142|n=>n,fun|9=>9|23=>159|4=>4|3=>3|0=>0|21=>21|n=>n,fun|n=>n⟩
theorem lQ:Go.Proofs.LaysGw.n17 Try.prog mA:={
 mixed:=by kernel_rfl
 f15:=Try.func130.trans (BI some (by kernel_rfl))
 f17:=Try.func110.trans (BI some (by kernel_rfl))
 f20:=Try.func142.trans (BI some (by kernel_rfl))
 t0:=Try.underlying0
 a0:=Try.isAgg0
 z0:=Try.sizeOf0
 v0:=Try.zeroValue0
 i0:=by kernel_rfl
 t3:=Try.underlying3
 a3:=Try.isAgg3
 z3:=Try.sizeOf3
 v3:=Try.zeroValue3
 i3:=by kernel_rfl
 t4:=Try.underlying4
 a4:=Try.isAgg4
 z4:=Try.sizeOf4
 v4:=Try.zeroValue4
 i4:=by kernel_rfl
 t9:=Try.underlying9
 a9:=Try.isAgg9
 z9:=Try.sizeOf9
 v9:=Try.zeroValue9
 i9:=by kernel_rfl
 t21:=Try.underlying21
 a21:=Try.isAgg21
 z21:=Try.sizeOf21
 v21:=Try.zeroValue21
 i21:=by kernel_rfl
 t23:=Try.underlying159
 a23:=Try.isAgg159
 z23:=Try.sizeOf159
 v23:=Try.zeroValue159
 i23:=by kernel_rfl }
theorem ff (w:World):PredAt Try.prog 111 #[] encR EI w:=fun W r _=>by
 unfold FnGives EI;by_cases O:97<=r<;>by_cases C:r<=122<;>by_cases b:48<=r<;>by_cases c:r<=57
 all_goals
  have d:(r:Int) < 97↔r < 97:=by omega
  have e:(122:Int) < (r:Int)↔122 < r:=by omega
  have g:(r:Int) < 48↔r < 48:=by omega
  have h:(57:Int) < (r:Int)↔57 < r:=by omega
  go_enter Try.func111,Try.ntmps111
  go_wp2
  all_goals first|(exfalso;omega)|(go_ret;exact⟨by first|(simp;done)|(simp;omega),0,rfl⟩)
set_option maxHeartbeats 1000000 in
theorem dS (s:ByteArray)(aa:s.size<=BT)(w:World):Calls Try.prog 83 #[.string s] w fun e ac=>e= .returned (.bool (Dn s))/\Below w.heap.size w ac:=by
 have a:=Any.strings_ContainsFunc lQ 111 #[] (enters_of Try.func111 (by kernel_rfl) rfl) EI s w (ff w);change Calls Try.prog 110 _ _ _ at a;rw[jd];obtain⟨d,hd⟩:∃d,decide (0<=Lib.idxFunc EI true s)=d:=⟨_,rfl⟩;rw[hd] at a⊢;clear hd;unfold BT at aa;by_cases O:1<=s.size<;>by_cases C:s.size<=20
 all_goals
  go_enter Try.func83,Try.ntmps83
  go_wp2_with (go_at_call 110;refine a.mono ?_;rintro e ac ⟨rfl,b⟩)
  all_goals (go_ret;exact⟨by simp[O,C],by first|exact b|exact Below.refl _ _⟩)
theorem YG:Bl Try.prog 83 NM:=by
 refine WF rfl rfl ⟨Try.f83,Try.func83,by kernel_rfl,by kernel_rfl⟩ fun T us d a j W w Y h=>?_;obtain⟨v,k,rfl,⟨_,s,aa,rfl,i⟩,rfl⟩:=h;have g:us.length=1:=d;refine (dS s i w).mono fun e ac ⟨O,C⟩=>⟨_,O,C,show 1 < 2 by decide,Dn s,?_,rfl⟩;have b:aS us 0=s:=by
  have:=a 0 us[0] (by unfold Bf.us;rw[AR (by omega)];exact AF (by omega));rw[aa] at this;unfold aS;rw[AY,AF (show 0 < us.length by omega),Option.getD_some,<-this];rfl
 have c:=a 1 (Jx KR us) (by unfold Bf.us;rw[AS (by omega),g];rfl);rw[c];show U.bool (Dn (aS us 0))=_;rw[b]
end
section
open Go Go.Eng Go.Proofs
set_option maxHeartbeats 4000000
set_option maxRecDepth 100000
def LV:List U->Int:=fun us=>(Gw (aI us 0) (aI us 1) (aI us 2) (aS us 4) (aS us 5) (aI us 7) (aI us 8))
def Lp:Bf:={ sh:=[.agg [k64,k64,k64,.bool,.str,.str,.bool,k64,k64]],blks:=[],outs:=[(.s "checkSh.0",CW LV)],c:=(Cy 9),m':=[],pre:=[] }
def Zu:List En:=[⟨9,.le,[.c (.int 0),.e 0]⟩,
 ABU 10 9,
 ⟨11,.le,[.e 0,.c (.int 1099511627776)]⟩,
 nl 12 9 11,
 ABU 13 12,
 ⟨14,.le,[.c (.int 0),.e 2]⟩,
 nl 15 13 14,
 ⟨16,.le,[.e 2,.c (.int 1099511627776)]⟩,
 nl 17 14 16,
 ⟨18,.or,[.n 12,.n 17]⟩,
 ABH 19 18,
 ⟨20,.lt,[.e 1,.c (.int 0)]⟩,
 ABG 21 18 20,
 ABH 22 21,
 ⟨23,.lt,[.c (.int 1048576),.e 1]⟩,
 ABG 24 21 23]
def Zm:List En:=[ABH 25 24,
 ⟨26,.outB "xvname.0" KR,[.e 4]⟩,
 nl 27 25 26,
 ⟨28,.outB "xvname.0" KR,[.e 5]⟩,
 ⟨29,.or,[.n 26,.n 28]⟩,
 ABF 30 25 29,
 ⟨31,.eqs [.s],[.e 4,.e 5]⟩,
 ABG 32 29 31,
 nl 33 25 32,
 ABF 34 25 32,
 ⟨35,.lt,[.e 8,.c (.int 0)]⟩,
 ABF 36 34 35,
 ABI 37 7 8,
 ABG 38 35 37,
 ABF 39 34 38,
 ⟨40,.lt,[.c (.int 26),.e 7]⟩]
def Ze:List En:=[ABG 41 38 40,
 nl 42 34 41,
 ABF 43 34 41,
 ABG 44 33 42,
 ABG 45 24 44,
 ⟨46,.ite .i,[.e 45,.c (.int 2),.c (.int 0)]⟩,
 ABG 47 45 43]
def UC:List En:=Zu++(Zm++(Ze))
def m8:List ObE:=[]
def Yu:List Rf:=[.e 46]
theorem nC:Lp.sees Yu (Lp.run Try.prog [(83,NM)] Bp 3000 20 43)=some ((UC).map En.be,m8.map ObE.be,[]):=by kernel_rfl
theorem nf {T:Tab}(Q:(S T 4).size<=140737488355328)(V:(S T 5).size<=140737488355328)(b:BV T UC):
  ((I T 46)=(Gw (I T 0) (I T 1) (I T 2) (S T 4) (S T 5) (I T 7) (I T 8))):=by
 obtain⟨i,b⟩:=b.cut;obtain⟨j,b⟩:=b.cut;have k:=b;clear b
 .obtain⟨P,-,l,o,-,p,-,q,r,s,-,t,u,-,v,w,-⟩:=i;obtain⟨x,c,-,d,y,-,z,A,C,D,E,-,F,H,-,J,-⟩:=j;obtain⟨K,M,-,N,O,e,-⟩:=k;replace c:B T 26=(Dn (S T 4)):=c;replace d:B T 28=(Dn (S T 5)):=d;simp only[BS,BZ,zN,zR,Dw,and_true,zL,zS] at P l o p q r s t u v w x y z A C D E F H J K M N O e;unfold Gw;rw[e];have g:(B T 45)=true↔¬(KY (I T 0) 0 1099511627776&&KY (I T 2) 0 1099511627776&&KY (I T 1) 0 1048576&&Dn (S T 4)&&Dn (S T 5)&& !decide ((S T 4)=S T 5)&&decide (0<=I T 8)&&decide ((I T 8)<=I T 7)&&decide ((I T 7)<=26))=true:=by
   rw[<-c,<-d];simp only[AB,RH,Bool.not_eq_true',decide_eq_false_iff_not,decide_eq_true_eq];clear c d e;grind
  by_cases h:(B T 45)=true
  .rw[BH h,BG (g.1 h)]
  .rw[BG h,BH (At fun a=>h (g.2 a))]
theorem jU:Bl Try.prog 43 Lp:=by
 refine B7 (l:=[(83,NM)]) CP (by simp only[AW];exact⟨YG,fun _ h=>absurd h (by simp)⟩) nC (by kernel_rfl) fun T us w b a o g i=>?_;change us.length=9 at a;obtain⟨-,-,-,c,d,-⟩:=g;replace c:(S T 4).size<=140737488355328:=c;replace d:(S T 5).size<=140737488355328:=d;have p:=inI (j:=0) b a (by decide);have q:=inI (j:=1) b a (by decide);have r:=inI (j:=2) b a (by decide);have s:=inS (j:=4) b a (by decide);have t:=inS (j:=5) b a (by decide);have u:=inI (j:=7) b a (by decide);have v:=inI (j:=8) b a (by decide);clear w
 skip
 obtain⟨e,k⟩:=B8 (A:=[.i]) (ah:=Yu) o (by kernel_rfl) i;have x:=nf c d e;refine⟨trivial,k.trans ?_⟩;exact (lc (by show U.int (I T 46)= .int (LV us);unfold LV;rw[p,q,r,s,t,u,v];exact BI U.int x) rfl)
def Md:List U->Bool:=fun us=>(EZ (aL us 0))
def K3:Bf:={ sh:=[.one (.list [k64,k64,k64,.bool,.str,.str,.bool,k64,k64])],blks:=[],outs:=[(.s "soundB.0",Jx Md)],c:= .b 1,m':=[],pre:=[] }
def bz:List En:=[⟨1,.id .l,[.c (.list [])]⟩,
 ABL 2 0]
def MN:List En:=bz
def aJ:List En:=[ABI 5 3 2,
 ABH 6 5,
 ABM 7 0 3,
 ABJ 8 0 3,
 ABK 9 0 3,
 ABP 10 0 3,
 ABN 11 0 3,
 ABO 12 0 3,
 ABQ 13 0 3,
 ABR 14 0 3,
 ABS 15 0 3,
 ⟨16,.mget .i 2 0 [.i,.i],[.e 4,.c (.int 0),.e 7,.e 8]⟩,
 ⟨17,.mget .i 2 1 [.i,.i],[.e 4,.c (.int 0),.e 7,.e 8]⟩,
 ⟨18,.mget .i 2 2 [.i,.i],[.e 4,.c (.int 0),.e 7,.e 8]⟩,
 ⟨19,.mget .b 2 3 [.i,.i],[.e 4,.c (.bool false),.e 7,.e 8]⟩,
 ⟨20,.mget .s 2 4 [.i,.i],[.e 4,.c (.str ⟨#[]⟩),.e 7,.e 8]⟩]
def eT:List En:=[⟨21,.mget .s 2 5 [.i,.i],[.e 4,.c (.str ⟨#[]⟩),.e 7,.e 8]⟩,
 ⟨22,.mget .b 2 6 [.i,.i],[.e 4,.c (.bool false),.e 7,.e 8]⟩,
 ⟨23,.mget .i 2 7 [.i,.i],[.e 4,.c (.int 0),.e 7,.e 8]⟩,
 ⟨24,.mget .i 2 8 [.i,.i],[.e 4,.c (.int 0),.e 7,.e 8]⟩,
 ⟨25,.mhas 2 [.i,.i],[.e 4,.e 7,.e 8]⟩,
 nl 26 5 25,
 ⟨27,.nes [.i,.i,.i,.b,.s,.s,.b,.i,.i],[.e 16,.e 7,.e 17,.e 8,.e 18,.e 9,.e 19,.e 10,.e 20,.e 11,.e 21,.e 12,.e 22,.e 13,.e 23,.e 14,.e 24,.e 15]⟩,
 nl 28 25 27,
 nl 29 5 28,
 ABF 30 5 28,
 ⟨31,.mset 2 [.i,.i,.i,.i,.i,.b,.s,.s,.b,.i,.i],[.e 4,.e 7,.e 8,.e 7,.e 8,.e 9,.e 10,.e 11,.e 12,.e 13,.e 14,.e 15]⟩,
 ⟨32,.w2 .i64 .add,[.e 3,.c (.int 1)]⟩]
def Gp:List En:=aJ++(eT)
def Vw:List ObE:=[⟨some 30,.fits 1,[.e 4,.c (.list [[]])]⟩,⟨some 5,.inl,[.e 3,.e 0]⟩]
def Mb:Bs:=mkD 3 2 Gp 30 [.e 32,.e 31] Vw [0,2]
def RO:List Rf:=[.e 0,.e 2,.c (.int 0),.e 1]
def dX:List En:=[⟨33,.ite .b,[.e 29,.c (.bool false),.c (.bool true)]⟩,
 ABG 34 29 6]
def Vz:List En:=dX
def tf:List ObE:=[⟨none,.owes Mb,[.e 0,.e 2,.c (.int 0),.e 1]⟩]
def cG:List Rf:=[.e 33]
end
end Go.Eng
end
