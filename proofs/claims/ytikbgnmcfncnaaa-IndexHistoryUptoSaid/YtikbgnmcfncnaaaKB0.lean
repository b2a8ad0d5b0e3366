/-
  A part of the proof: the evaluator of code and its soundness.
-/
import Derived.Test.YtikbgnmcfncnaaaE4
import Derived.Test.YtikbgnmcfncnaaaE5
import Derived.WalkKit
import Derived.Shelf.GgClosure.StringsIndexFuncTop
set_option linter.unusedVariables false
set_option linter.unusedSimpArgs false
noncomputable section
namespace Go.Eng
section
open Go Go.Eng Go.Proofs
set_option maxHeartbeats 4000000
set_option maxRecDepth 100000
def Q8:List U->Bool:=fun us=>(HL (aL us 0) (aL us 1) (aI us 2))
def No:Bf:={ sh:=[.one (.list [.str,k64,k64]),.one (.list [k64,k64,k64,.bool,.str,.str,.bool,k64,k64]),.one (k64)],blks:=[],outs:=[(.s "long.0",Jx Q8)],c:= .b 3,m':=[],pre:=[] }
def mL:List En:=[ABL 3 0,
 ⟨4,.lt,[.c (.int 30),.e 3]⟩,
 ABM 5 4,
 ABL 6 1,
 ABI 7 2 6,
 ABF 8 5 7,
 ABL 9 1,
 ⟨10,.le,[.e 9,.c (.int 200)]⟩,
 ABF 11 7 10,
 ABH 12 4 11,
 ABM 13 12,
 ABL 14 1,
 ⟨15,.lt,[.c (.int 210),.e 14]⟩,
 ABH 16 12 15,
 ABM 17 16]
def RK:List En:=mL
def kI:List En:=[ABL 19 0,
 ABI 20 18 19,
 ABF 21 17 20,
 ABG 22 17 20,
 ABZ 23 0 18,
 ⟨24,.slen,[.e 23]⟩,
 ⟨25,.lt,[.c (.int 100),.e 24]⟩,
 ABF 26 21 25,
 ABG 27 21 25,
 ⟨28,.w2 .i64 .add,[.e 18,.c (.int 1)]⟩]
def Hv:List En:=kI
def bf:List ObE:=[⟨some 21,.inl,[.e 18,.e 0]⟩]
def RN:Bs:=mkD 18 1 Hv 27 [.e 28] bf [0,17]
def Ub:List Rf:=[.e 0,.e 17,.c (.int 0)]
def eh:List En:=[]
def jc:List En:=[ABL 30 1,
 ABI 31 29 30,
 ABF 32 22 31,
 ABG 33 22 31,
 ABO 34 1 29,
 ⟨35,.slen,[.e 34]⟩,
 ⟨36,.lt,[.c (.int 100),.e 35]⟩,
 ABG 37 32 36,
 ABP 38 1 29,
 ⟨39,.slen,[.e 38]⟩,
 ⟨40,.lt,[.c (.int 100),.e 39]⟩,
 ABH 41 36 40,
 ABF 42 32 41,
 ABG 43 32 41,
 ⟨44,.w2 .i64 .add,[.e 29,.c (.int 1)]⟩]
def JB:List En:=jc
def aC:List ObE:=[⟨some 37,.inl,[.e 29,.e 1]⟩,⟨some 32,.inl,[.e 29,.e 1]⟩]
def Qi:Bs:=mkD 29 1 JB 43 [.e 44] aC [1,22]
def Uv:List Rf:=[.e 1,.e 22,.c (.int 0)]
def jX:List En:=[⟨45,.ite .b,[.e 42,.c (.bool true),.c (.bool false)]⟩,
 ABH 46 42 33,
 ⟨47,.ite .b,[.e 26,.c (.bool true),.e 45]⟩,
 ABH 48 26 46,
 ⟨49,.ite .b,[.e 16,.c (.bool true),.e 47]⟩,
 ABH 50 16 48]
def fA:List En:=jX
def xV:List ObE:=[⟨some 22,.owes Qi,[.e 1,.e 22,.c (.int 0)]⟩,
 ⟨some 17,.owes RN,[.e 0,.e 17,.c (.int 0)]⟩]
def oB:List Rf:=[.e 49]
theorem wi:No.sees oB (No.run Try.prog [] Bp 3000 20 19)=some ((RK++((B5 RN [.i] Ub)++(Hv++(eh++((B5 Qi [.i] Uv)++(JB++(fA))))))).map En.be,xV.map ObE.be,[]):=by kernel_rfl
abbrev ae(T:Tab)(a:Int):Prop:=0<=a/\a <=((L T 0)).length/\¬(((L T 0)).take a.toNat).any Ol=true
abbrev dF(T:Tab):Prop:=(L T 0).length<=140737488355328
variable{T:Tab}
theorem qj (Q:dF T)(x:Ba T (Bh (CA 0 No.ks) RK))(v:Bi T (Hv.map En.be))(w:Bi T ((B5 RN [.i] Ub).map En.be)):
  (RN).owes (Ub.map (Rf.eval T))/\Ba T (hds 18 [.i])/\(ae T (I T 18))/\¬B T 27=true:=by
 refine CK (nh:=18) (k:=1) (pcn:=27) (aF:=29) (b:=Hv) (K:=bf) (nxt:=[.e 28]) (H:=[.c (.int 0)]) (fv:=[0,17]) (A:=[.i]) (by kernel_rfl) rfl rfl rfl rfl x (by kernel_rfl) (by kernel_rfl) v (B6 w) (fun s=>ae T (aI s 0)) (fun s=>(((L T 0)).length - (aI s 0)).toNat) ?_ ?_
 .show ae T (0:Int);grind
 .intro J o i p;replace p:ae T (I J 18):=p;clear x v w;replace i:BV J Hv:=i;have l:=i;clear i;have u:=fvL (o 0 (by decide));have P:=fvB (o 17 (by decide));clear o
  suffices D:(B J 21=true->0<=I J 18/\I J 18 < ((L J 0)).length)/\(B J 27=true->(ae T (I J 28)))/\(B J 27=true->(((L T 0)).length - (I J 28)).toNat < (((L T 0)).length - (I J 18)).toNat) from
   let⟨M,F,E⟩:=D;⟨⟨M,trivial⟩,fun j=>⟨F j,E j⟩⟩
  refine⟨?_,?_,?_⟩
  .obtain⟨a,c,d,-⟩:=l;simp only[BS,BZ,zR,zL] at a c d;grind
  .obtain⟨a,c,d,-,q,r,t,-,e,g,-⟩:=l;simp only[BS,BZ,zN,zR,w2P,zL,zS] at a c d q r t e g;obtain⟨V,W,N⟩:=p;intro j;have z:=e.1 j;have y:=c.1 (d.1 z.1).2;rw[a,u] at y;have O:=o2' g (by omega);have C:(I J 18).toNat < ((L T 0)).length:=by omega
   refine⟨by omega,by omega,?_⟩;rw[O,show ((I J 18)+1).toNat=(I J 18).toNat+1 by omega,D6 C,dN];rintro (h|h)
   .exact N h
   .have h:=of_decide_eq_true h;have:(B J 25)=true:=t.2 (by rw[r,q,u];exact Int.ofNat_lt.2 h);grind
  .obtain⟨a,c,d,-,-,-,-,-,e,g,-⟩:=l;simp only[BS,BZ,zN,zR,w2P,zL] at a c d e g;grind
abbrev aj(T:Tab)(a:Int):Prop:=0<=a/\a <=((L T 1)).length/\¬(((L T 1)).take a.toNat).any LW=true
theorem th (Z:(L T 1).length<=140737488355328)(E:Ba T (Bh (Bh (hds 18 [.i]++(Bh (CA 0 No.ks) RK)) Hv) eh))(C:Bi T (JB.map En.be))(D:Bi T ((B5 Qi [.i] Uv).map En.be)):
  (Qi).owes (Uv.map (Rf.eval T))/\Ba T (hds 29 [.i])/\(aj T (I T 29))/\¬B T 43=true:=by
 refine CK (nh:=29) (k:=1) (pcn:=43) (aF:=45) (b:=JB) (K:=aC) (nxt:=[.e 44]) (H:=[.c (.int 0)]) (fv:=[1,22]) (A:=[.i]) (by kernel_rfl) rfl rfl rfl rfl E (by kernel_rfl) (by kernel_rfl) C (B6 D) (fun s=>aj T (aI s 0)) (fun s=>(((L T 1)).length - (aI s 0)).toNat) ?_ ?_
 .show aj T (0:Int);grind
 .intro J r j t;replace t:aj T (I J 29):=t;clear E C D;replace j:BV J JB:=j;have e:=j;clear j;have q:=fvL (r 1 (by decide));have Y:=fvB (r 22 (by decide));clear r
  suffices O:(B J 37=true->0<=I J 29/\I J 29 < ((L J 1)).length)/\(B J 32=true->0<=I J 29/\I J 29 < ((L J 1)).length)/\(B J 43=true->(aj T (I J 44)))/\(B J 43=true->(((L T 1)).length - (I J 44)).toNat < (((L T 1)).length - (I J 29)).toNat) from
   let⟨V,aB,Q,P⟩:=O;⟨⟨V,aB,trivial⟩,fun l=>⟨Q l,P l⟩⟩
  refine⟨?_,?_,?_,?_⟩
  .obtain⟨a,c,d,-,-,-,-,o,-⟩:=e;simp only[BS,BZ,zN,zR,zL] at a c d o;grind
  .obtain⟨a,c,d,-,-,-,-,o,-⟩:=e;simp only[BS,BZ,zN,zR,zL] at a c d o;grind
  .obtain⟨a,c,d,-,u,v,w,-,x,y,z,p,-,g,i,-⟩:=e;simp only[BS,BZ,zN,zR,w2P,zL,zS] at a c d u v w x y z p g i;obtain⟨v1,v2,W⟩:=t;intro l;have M:=g.1 l;have F:=c.1 (d.1 M.1).2;rw[a,q] at F;have X:=o2' i (by omega);have N:(I J 29).toNat < ((L T 1)).length:=by omega
   refine⟨by omega,by omega,?_⟩;rw[X,show ((I J 29)+1).toNat=(I J 29).toNat+1 by omega,D6 N,dN];rintro (h|h)
   .exact W h
   .have:(B J 41)=true:=by
     unfold LW at h;rw[Ah,decide_eq_true_eq,decide_eq_true_eq] at h;rcases h with h|h
     .exact p.2 (.inl (w.2 (by rw[v,u,q];exact Int.ofNat_lt.2 h)))
     .exact p.2 (.inr (z.2 (by rw[y,x,q];exact Int.ofNat_lt.2 h)))
    grind
  .obtain⟨a,c,d,-,-,-,-,-,-,-,-,-,-,g,i,-⟩:=e;simp only[BS,BZ,zN,zR,w2P,zL] at a c d g i;grind
theorem xa (b2:dF T)(b0:∀u∈(L T 0),Bb BT KP u)(b3:(L T 1).length<=140737488355328)(b1:∀u∈(L T 1),Bb BT KB u)(bc:ae T (I T 18))(b6:¬B T 27=true)(bi:aj T (I T 29))(b7:¬B T 43=true)(j:BV T RK)(o:BV T Hv)(q:BV T JB)(k:BV T fA):
  ((B T 49)=(HL (L T 0) (L T 1) (I T 2))):=by
 have Q:=j;clear j;have V:=o;clear o;have W:=q;clear q;have X:=k;clear k
 .obtain⟨e3,e4,-,e6,e7,-,e9,Y,Z,ab,-,ad,ag,al,r,-⟩:=Q;obtain⟨b,c,s,t,v,w,x,y,an,-⟩:=V;obtain⟨d,e,z,-,A,C,D,-,E,F,H,J,K,ax,-⟩:=W;obtain⟨a0,-,a1,-,a2,-⟩:=X;simp only[BS,BZ,zN,zC,zR,zL,zS] at e3 e4 e6 e7 e9 Y Z ab ad ag al r b c s t v w x y an d e z A C D E F H J K ax a0 a1 a2;obtain⟨v1,v2,v3⟩:=bc;obtain⟨aS,w2,w3⟩:=bi;have b5:(B T 49)=true↔HL (L T 0) (L T 1) (I T 2)=true:=by
   unfold HL;rw[Ah,Ah,Ah,Ah,AB,decide_eq_true_eq,decide_eq_true_eq,decide_eq_true_eq,decide_eq_true_eq];have bl:(B T 16)=true↔((30 < ((L T 0)).length\/((I T 2) < ((L T 1)).length/\((L T 1)).length<=200))\/210 < ((L T 1)).length):=by
    grind
   rw[<-bl];have bo:(B T 49)=true↔((B T 16)=true\/((B T 26)=true\/B T 42=true)):=by
    grind
   rw[bo];by_cases M:(B T 16)=true
   .simp[M]
   .have a6:=r.2 (by simpa using M);by_cases O:(B T 26)=true
    .obtain⟨a7,a⟩:=y.1 O;have N:=c.1 (s.1 a7).2;rw[b] at N;have a:=x.1 a;rw[w,v] at a;have:=xE (p:=Ol) (l:=L T 0) (i:=(I T 18).toNat) (by omega) (decide_eq_true (Int.ofNat_lt.1 a));simp[O,this]
    .have g:(B T 20)=false:=Bool.eq_false_iff.2 fun N=>by
      grind
     have bx:=t.2 ⟨a6,g⟩;have hl:¬I T 18 < ((L T 0)).length:=fun h=>by have:=c.2 (by rw[b];exact h);rw[this] at g;cases g
     rw[show (I T 18).toNat=((L T 0)).length by omega,BD] at v3;by_cases ba:(B T 42)=true
     .obtain⟨a8,a9⟩:=K.1 ba;have P:=e.1 (z.1 a8).2;rw[d] at P;have hw:LW (((L T 1)).getD (I T 29).toNat [])=true:=by
       unfold LW;rw[Ah,decide_eq_true_eq,decide_eq_true_eq];rcases J.1 a9 with h|h
       .have h:=D.1 h;rw[C,A] at h;exact .inl (Int.ofNat_lt.1 h)
       .have h:=H.1 h;rw[F,E] at h;exact .inr (Int.ofNat_lt.1 h)
      grind
     .have bm:¬B T 31=true:=fun P=>by
       grind
      have hl:¬I T 29 < ((L T 1)).length:=fun h=>bm (e.2 (by rw[d];exact h));rw[show (I T 29).toNat=((L T 1)).length by omega,BD] at w3;grind
  grind
theorem ue:Bl Try.prog 19 No:=by
 refine B7 (l:=[]) CP (by intro p h;exact absurd h (by simp)) wi (by kernel_rfl) fun T us O t r g C a=>?_;change us.length=3 at r;obtain⟨⟨o,J⟩,⟨q,K⟩,-⟩:=C;replace o:(L T 0).length<=140737488355328:=o;have M:∀u∈(L T 0),Bb BT KP u:=fun u v=>by
  obtain⟨i,ab⟩:=Ac.1 v;exact J i u ab
 replace q:(L T 1).length<=140737488355328:=q;have N:∀u∈(L T 1),Bb BT KB u:=fun u v=>by
  obtain⟨i,ab⟩:=Ac.1 v;exact K i u ab
 have E:=inL (j:=0) t r (by decide);have F:=inL (j:=1) t r (by decide);have H:=inI (j:=2) t r (by decide);clear O;rw[AL,AL,AL,AL,AL,AL] at a;obtain⟨d,a⟩:=cutB a;obtain⟨e,a⟩:=cutB a;obtain⟨b,a⟩:=cutB a;obtain⟨w,c⟩:=Be g (by kernel_rfl) d;obtain⟨X,k,P,V⟩:=qj o c b e;have s:=(Be (k.append c) (l:=Hv) (by kernel_rfl) b);obtain⟨y,g⟩:=s;clear d b e c k;obtain⟨d,a⟩:=cutB a;obtain⟨e,a⟩:=cutB a;obtain⟨b,a⟩:=cutB a;obtain⟨A1,c⟩:=Be g (by kernel_rfl) d;obtain⟨Y,k,Q,W⟩:=th q c b e;have s:=(Be (k.append c) (l:=JB) (by kernel_rfl) b);obtain⟨z,g⟩:=s;clear d b e c k;obtain⟨x,D⟩:=B8 (A:=[.b]) (ag:=oB) g (by kernel_rfl) a;have Z:=xa o M q N P V Q W w y z x;refine⟨⟨(fun _=>Y),(fun _=>X),trivial⟩,D.trans ?_⟩;exact (lc (by show U.bool (B T 49)= .bool (Q8 us);unfold Q8;rw[E,F,H];exact BI U.bool Z) rfl)
end
section
open Go Go.Eng Go.Proofs Go.Shelf Go.RowKit Go.Lib
def KR:List U->Bool:=fun us=>(Dn (aS us 0))
def NM:Bf:={ sh:=[.one (.str)],blks:=[],outs:=[(.s "xvname.0",Jx KR)],c:= .b 1,m':=[],pre:=[] }
def mA:Go.Shelf.Ren:=⟨fun|17=>110|15=>130|20=>142|n=>n,fun|9=>9|23=>159|4=>4|3=>3|0=>0|21=>21|n=>n,fun|n=>n⟩
theorem lQ:Go.Proofs.LaysGw.n17 Try.prog mA:={
 mixed:=by kernel_rfl
 f15:=Try.func130.trans (BI some (by kernel_rfl))
 f17:=Try.func110.trans (BI some (by kernel_rfl))
 f20:=Try.func142.trans (BI some (by kernel_rfl))
 t0:=Try.underlying0
 a0:=Try.isAgg0
 z0:=Try.sizeOf0
 v0:=Try.zeroValue0
 i0:=by kernel_rfl
 t3:=Try.underlying3
 a3:=Try.isAgg3
 z3:=Try.sizeOf3
 v3:=Try.zeroValue3
 i3:=by kernel_rfl
 t4:=Try.underlying4
 a4:=Try.isAgg4
 z4:=Try.sizeOf4
 v4:=Try.zeroValue4
 i4:=by kernel_rfl
 t9:=Try.underlying9
 a9:=Try.isAgg9
 z9:=Try.sizeOf9
 v9:=Try.zeroValue9
 i9:=by kernel_rfl
 t21:=Try.underlying21
 a21:=Try.isAgg21
 z21:=Try.sizeOf21
 v21:=Try.zeroValue21
 i21:=by kernel_rfl
 t23:=Try.underlying159
 a23:=Try.isAgg159
 z23:=Try.sizeOf159
 v23:=Try.zeroValue159
 i23:=by kernel_rfl }
theorem ff (w:World):PredAt Try.prog 111 #[] encR EI w:=fun W r _=>by
 unfold FnGives EI;by_cases O:97<=r<;>by_cases C:r<=122<;>by_cases b:48<=r<;>by_cases c:r<=57
 all_goals
  have d:(r:Int) < 97↔r < 97:=by omega
  have e:(122:Int) < (r:Int)↔122 < r:=by omega
  have g:(r:Int) < 48↔r < 48:=by omega
  have h:(57:Int) < (r:Int)↔57 < r:=by omega
  go_enter Try.func111,Try.ntmps111
  go_wp2
  all_goals first|(exfalso;omega)|(go_ret;exact⟨by first|(simp;done)|(simp;omega),0,rfl⟩)
set_option maxHeartbeats 1000000 in
theorem dS (s:ByteArray)(ad:s.size<=BT)(w:World):Calls Try.prog 83 #[.string s] w fun e aa=>e= .returned (.bool (Dn s))/\Below w.heap.size w aa:=by
 have a:=Any.strings_ContainsFunc lQ 111 #[] (enters_of Try.func111 (by kernel_rfl) rfl) EI s w (ff w);change Calls Try.prog 110 _ _ _ at a;rw[jd];obtain⟨d,hd⟩:∃d,decide (0<=Lib.idxFunc EI true s)=d:=⟨_,rfl⟩;rw[hd] at a⊢;clear hd;unfold BT at ad;by_cases O:1<=s.size<;>by_cases C:s.size<=20
 all_goals
  go_enter Try.func83,Try.ntmps83
  go_wp2_with (go_at_call 110;refine a.mono ?_;rintro e aa ⟨rfl,b⟩)
  all_goals (go_ret;exact⟨by simp[O,C],by first|exact b|exact Below.refl _ _⟩)
theorem YG:Bl Try.prog 83 NM:=by
 refine WF rfl rfl ⟨Try.f83,Try.func83,by kernel_rfl,by kernel_rfl⟩ fun T us d a j W w Y h=>?_;obtain⟨v,k,rfl,⟨_,s,ad,rfl,i⟩,rfl⟩:=h;have g:us.length=1:=d;refine (dS s i w).mono fun e aa ⟨O,C⟩=>⟨_,O,C,show 1 < 2 by decide,Dn s,?_,rfl⟩;have b:aS us 0=s:=by
  have:=a 0 us[0] (by unfold Bf.us;rw[AR (by omega)];exact AF (by omega));rw[ad] at this;unfold aS;rw[AY,AF (show 0 < us.length by omega),Option.getD_some,<-this];rfl
 have c:=a 1 (Jx KR us) (by unfold Bf.us;rw[AS (by omega),g];rfl);rw[c];show U.bool (Dn (aS us 0))=_;rw[b]
end
section
open Go Go.Eng Go.Proofs
set_option maxHeartbeats 4000000
set_option maxRecDepth 100000
def HA:List U->Bool:=fun us=>(Dl (aS us 0) (aI us 1) (aI us 2))
def Ho:Bf:={ sh:=[.agg [.str,k64,k64]],blks:=[],outs:=[(.s "vplayer.0",Jx HA)],c:= .b 3,m':=[],pre:=[] }
def Zp:List En:=[⟨3,.outB "xvname.0" KR,[.e 0]⟩,
 ABY 4 3,
 ⟨5,.le,[.c (.int (-10000)),.e 1]⟩,
 ABF 6 4 5,
 ⟨7,.le,[.e 1,.c (.int 10000)]⟩,
 ABF 8 5 7,
 ABF 9 3 8,
 ABY 10 9,
 ⟨11,.le,[.c (.int (-12)),.e 2]⟩,
 ABF 12 9 11,
 ABY 13 12,
 ⟨14,.le,[.e 2,.c (.int 48)]⟩,
 ABF 15 12 14]
def Td:List En:=Zp
def qS:List ObE:=[]
def YS:List Rf:=[.e 15]
theorem nZ:Ho.sees YS (Ho.run Try.prog [(83,NM)] Bp 3000 20 82)=some ((Td).map En.be,qS.map ObE.be,[]):=by kernel_rfl
variable{T:Tab}
theorem pk (q:(S T 0).size<=140737488355328)(d:BV T Td):
  ((B T 15)=(Dl (S T 0) (I T 1) (I T 2))):=by
 have p:=d;clear d
 .obtain⟨a,-,j,-,k,l,o,-,e,g,-,h,i,-⟩:=p;replace a:B T 3=(Dn (S T 0)):=a;simp only[BS,BZ,zR] at j k l o e g h i;refine Bool.eq_iff_iff.2 (Iff.trans ?_ G9.symm);rw[<-a,i,g,o,l,j,k,e,h];constructor
  .rintro⟨⟨⟨O,C⟩,b⟩,c⟩;exact⟨O,C,b,c⟩
  .rintro⟨O,C,b,c⟩;exact⟨⟨⟨O,C⟩,b⟩,c⟩
theorem Vi:Bl Try.prog 82 Ho:=by
 refine B7 (l:=[(83,NM)]) CP (by simp only[AW];exact⟨YG,fun _ h=>absurd h (by simp)⟩) nZ (by kernel_rfl) fun T us r b a k e g=>?_;change us.length=3 at a;obtain⟨c,-⟩:=e;replace c:(S T 0).size<=140737488355328:=c;have o:=inS (j:=0) b a (by decide);have p:=inI (j:=1) b a (by decide);have q:=inI (j:=2) b a (by decide);clear r
 skip
 obtain⟨d,i⟩:=B8 (A:=[.b]) (ag:=YS) k (by kernel_rfl) g;have s:=pk c d;refine⟨trivial,i.trans ?_⟩;exact (lc (by show U.bool (B T 15)= .bool (HA us);unfold HA;rw[o,p,q];exact BI U.bool s) rfl)
def MS:List U->Int:=fun us=>(BW (aL us 0))
def Iz:Bf:={ sh:=[.one (.list [.str,k64,k64])],blks:=[],outs:=[(.s "checkP.0",CW MS)],c:=(Cy 1),m':=[],pre:=[] }
def bT:List En:=[ABL 1 0,
 ⟨2,.lt,[.c (.int 24),.e 1]⟩,
 ABM 3 2,
 ⟨4,.id .l,[.c (.list [])]⟩,
 ABL 5 0]
def MP:List En:=bT
def aT:List En:=[ABI 8 6 5,
 ABF 9 3 8,
 ABG 10 3 8,
 ABZ 11 0 6,
 ABJ 12 0 6,
 ABK 13 0 6,
 ⟨14,.outB "vplayer.0" HA,[.e 11,.e 12,.e 13]⟩,
 ABF 15 9 14,
 ABG 16 9 14,
 ⟨17,.mset 1 [.s,.b],[.e 7,.e 11,.c (.bool true)]⟩,
 ⟨18,.w2 .i64 .add,[.e 6,.c (.int 1)]⟩]
def Gk:List En:=aT
def VU:List ObE:=[⟨some 15,.fits 1,[.e 7,.c (.list [[]])]⟩,⟨some 9,.inl,[.e 6,.e 0]⟩]
def Mg:Bs:=mkD 6 2 Gk 15 [.e 18,.e 17] VU [0,3,5]
def QL:List Rf:=[.e 0,.e 3,.e 5,.c (.int 0),.e 4]
def bw:List En:=[ABL 19 7,
 ABL 20 0,
 ABI 21 19 20,
 ABF 22 10 21,
 ABG 23 10 21,
 ⟨24,.ite .i,[.e 22,.c (.int 12),.c (.int 0)]⟩,
 ABH 25 22 23,
 ⟨26,.ite .i,[.e 16,.c (.int 2),.e 24]⟩,
 ABH 27 16 25,
 ⟨28,.ite .i,[.e 2,.c (.int 6),.e 26]⟩,
 ABH 29 2 27]
def Vy:List En:=bw
def rm:List ObE:=[⟨some 3,.owes Mg,[.e 0,.e 3,.e 5,.c (.int 0),.e 4]⟩]
def eK:List Rf:=[.e 28]
theorem tT:Iz.sees eK (Iz.run Try.prog [(82,Ho)] Bp 3000 20 41)=some ((MP++((B5 Mg [.i,.l] QL)++(Gk++(Vy)))).map En.be,rm.map ObE.be,[]):=by kernel_rfl
theorem fG (i:dF T)(h:∀u∈(L T 0),Bb BT KP u)(a:BV T MP):
  ((I T 5)=((L T 0)).length)/\((L T 4)=[]):=by
 have b:=a;clear a;have g:(I T 5)=((L T 0)).length:=by
  obtain⟨-,-,-,-,d,-⟩:=b;simp only[BS,zR,zL] at d;exact d
 have e:(L T 4)=[]:=by
  obtain⟨-,-,-,c,-⟩:=b;simp only[BS,zR,zL,zS] at c;exact c
 exact⟨g,e⟩
abbrev ak(T:Tab)(a:Int)(b:List (List U)):Prop:=0<=a/\a <=((L T 0)).length/\(((L T 0)).take a.toNat).all Dk=true/\b=Cl (((L T 0)).take a.toNat)
theorem mO (al:dF T)(h5:(I T 5)=((L T 0)).length)(V:(L T 4)=[])(C:Ba T (Bh (CA 0 Iz.ks) MP))(y:Bi T (Gk.map En.be))(z:Bi T ((B5 Mg [.i,.l] QL).map En.be)):
  (Mg).owes (QL.map (Rf.eval T))/\Ba T (hds 6 [.i,.l])/\(ak T (I T 6) (L T 7))/\¬B T 15=true:=by
 refine CK (nh:=6) (k:=2) (pcn:=15) (aF:=19) (b:=Gk) (K:=VU) (nxt:=[.e 18,.e 17]) (H:=[.c (.int 0),.e 4]) (fv:=[0,3,5]) (A:=[.i,.l]) (by kernel_rfl) rfl rfl rfl rfl C (by kernel_rfl) (by kernel_rfl) y (B6 z) (fun s=>ak T (aI s 0) (aL s 1)) (fun s=>(((L T 0)).length - (aI s 0)).toNat) ?_ ?_
 .show ak T (0:Int) (L T 4);clear C y z;exact⟨by omega,by omega,by simp,by rw[show (0:Int).toNat=0 from rfl,List.take_zero];exact V⟩
 .intro J t r h;replace h:ak T (I J 6) (L J 7):=h;clear C y z;replace r:BV J Gk:=r;have o:=r;clear r;have N:=fvL (t 0 (by decide));have ad:=fvB (t 3 (by decide));have q:=fvI (t 5 (by decide));clear t
  suffices X:(B J 15=true->(((L J 7)).length+(([[]]:List (List U))).length)*1<=140737488355328)/\(B J 9=true->0<=I J 6/\I J 6 < ((L J 0)).length)/\(B J 15=true->(ak T (I J 18) (L J 17)))/\(B J 15=true->(((L T 0)).length - (I J 18)).toNat < (((L T 0)).length - (I J 6)).toNat) from
   let⟨r0,aB,Z,Y⟩:=X;⟨⟨r0,aB,trivial⟩,fun d=>⟨Z d,Y d⟩⟩
  refine⟨?_,?_,?_,?_⟩
  .obtain⟨a,c,-,-,-,-,-,e,-⟩:=o;simp only[BS,BZ,zR] at a c e;obtain⟨D,E,u,j⟩:=h;intro d;have g:=a.1 (c.1 (e.1 d).1).2;rw[q] at g;have W:=Ql (l:=((L T 0)).take (I J 6).toNat);rw[<-j,Ao] at W;show (((L J 7)).length+1)*1<=_;omega
  .obtain⟨a,c,-⟩:=o;simp only[BS,BZ,zR] at a c;obtain⟨D,E,u,j⟩:=h;intro d;have g:=a.1 (c.1 d).2;rw[q] at g;rw[N];omega
  .obtain⟨a,c,-,p,v,w,x,e,-,M,i,-⟩:=o;replace x:B J 14=(Dl (S J 11) (I J 12) (I J 13)):=x;simp only[BS,BZ,zC,zR,w2P,zL,zS,uR,zW] at a c p v w e M i;obtain⟨D,E,u,j⟩:=h;intro d;have P:=e.1 d;have g:=a.1 (c.1 P.1).2;rw[q] at g;have F:=o2' i (by omega);have Q:(I J 6).toNat < ((L T 0)).length:=by omega
   rw[N] at p v w;refine⟨by omega,by omega,?_,?_⟩
   .rw[F,show ((I J 6)+1).toNat=(I J 6).toNat+1 by omega,D6 Q,RB];refine⟨u,?_⟩;have O:=P.2;rw[x,p,v,w] at O;exact O
   .rw[F,show ((I J 6)+1).toNat=(I J 6).toNat+1 by omega,D6 Q,PP,<-j,M,p];rfl
  .obtain⟨a,c,-,-,-,-,-,e,-,-,i,-⟩:=o;simp only[BS,BZ,zR,w2P] at a c e i;obtain⟨D,E,u,j⟩:=h;intro d;have g:=a.1 (c.1 (e.1 d).1).2;rw[q] at g;have F:=o2' i (by omega);omega
theorem uA (aw:dF T)(ao:∀u∈(L T 0),Bb BT KP u)(h5:(I T 5)=((L T 0)).length)(h4:(L T 4)=[])(ab:ak T (I T 6) (L T 7))(ag:¬B T 15=true)(r:BV T MP)(t:BV T Gk)(s:BV T Vy):
  ((I T 28)=(BW (L T 0))):=by
 have O:=r;clear r;have P:=t;clear t;have Q:=s;clear s
 .obtain⟨b,g,F,-,V,-⟩:=O;obtain⟨k,l,v,w,x,y,c,z,d,-⟩:=P;obtain⟨e,h,i,j,-,A,-,D,-,E,-⟩:=Q;replace c:B T 14=(Dl (S T 11) (I T 12) (I T 13)):=c;simp only[BS,BZ,zN,zR,zL,zS] at b g F V k l v w x y z d e h i j A D E;obtain⟨v1,v2,N,q⟩:=ab;unfold BW;rw[E];by_cases C:24 < ((L T 0)).length
  .rw[BH C,BH (g.2 (by rw[b];omega))]
  .have aC:¬B T 2=true:=fun a=>by have:=g.1 a;rw[b] at this;omega
   rw[BG C,BG aC,D];have H:=F.2 (by simpa using aC);by_cases J:(I T 6) < I T 5
   .have Y:=k.2 J;have K:=l.2 ⟨H,Y⟩;have p:¬B T 14=true:=fun a=>ag (z.2 ⟨K,a⟩);have Z:(I T 6).toNat < ((L T 0)).length:=by omega
    have a8:¬((L T 0)).all Dk=true:=fun a=>by
     have:=Ae.1 a _ (Ca Z);rw[c,w,x,y] at p;exact p this
    rw[BH a8,BH (d.2 ⟨K,by simpa using p⟩)]
   .have M:¬B T 8=true:=fun a=>J (k.1 a);have X:=v.2 ⟨H,by simpa using M⟩;have ad:¬B T 16=true:=fun a=>M (l.1 (d.1 a).1).2;have W:(I T 6).toNat=((L T 0)).length:=by omega
    rw[W,BD] at N q;rw[BG ad,BG (fun a=>a N),A];by_cases o:(Cl ((L T 0))).length < ((L T 0)).length
    .rw[BH o,BH (j.2 ⟨X,i.2 (by rw[e,h,q];omega)⟩)]
    .rw[BG o,BG (fun a=>o (by have:=i.1 (j.1 a).2;rw[e,h,q] at this;omega))]
theorem SM:Bl Try.prog 41 Iz:=by
 refine B7 (l:=[(82,Ho)]) CP (by simp only[AW];exact⟨Vi,fun _ h=>absurd h (by simp)⟩) tT (by kernel_rfl) fun T us F C t d x a=>?_;change us.length=1 at t;obtain⟨⟨b,E⟩,-⟩:=x;replace b:(L T 0).length<=140737488355328:=b;have s:∀u∈(L T 0),Bb BT KP u:=fun u H=>by
  obtain⟨i,ab⟩:=Ac.1 H;exact E i u ab
 have D:=inL (j:=0) C t (by decide);clear F;rw[AL,AL,AL] at a;obtain⟨p,a⟩:=cutB a;obtain⟨q,a⟩:=cutB a;obtain⟨c,a⟩:=cutB a;obtain⟨g,e⟩:=Be d (by kernel_rfl) p;obtain⟨o,k⟩:=fG b s g;obtain⟨M,r,J,K⟩:=mO b o k e c q;have y:=(Be (r.append e) (l:=Gk) (by kernel_rfl) c);obtain⟨w,d⟩:=y;clear p c q e r;obtain⟨v,z⟩:=B8 (A:=[.i]) (ag:=eK) d (by kernel_rfl) a;have N:=uA b s o k J K g w v;refine⟨⟨(fun _=>M),trivial⟩,z.trans ?_⟩;exact (lc (by show U.int (I T 28)= .int (MS us);unfold MS;rw[D];exact BI U.int N) rfl)
end
section
open Go Go.Eng Go.Proofs
def Ig:List U->Int:=fun us=>(BW (aL us 0))
def G4:List U->Prop:=fun us=>BW (aL us 0)=0
def Ea:Bf:={ sh:=Iz.sh,blks:=[],outs:=[(.s "checkPk.0",CW Ig)],c:= .ci .i64 0,m':=[],pre:=[(.s "checkPk.p0",G4)] }
theorem Jk:Bl Try.prog 41 Ea:=Yg SM rfl rfl rfl rfl rfl (fun _=>rfl) rfl rfl fun us b c=>by
 have a:=c _ (Al.2 rfl);replace a:BW (aL us 0)=0:=a;have b:us.length=1:=b
 match us,b,a with
 |[u],_,a=>exact⟨BI (fun z=>some (U.int z)) a,fun q d=>by cases d⟩
end
section
open Go Go.Eng Go.Proofs
set_option maxHeartbeats 4000000
set_option maxRecDepth 100000
def LV:List U->Int:=fun us=>(Gw (aI us 0) (aI us 1) (aI us 2) (aS us 4) (aS us 5) (aI us 7) (aI us 8))
def Lp:Bf:={ sh:=[.agg [k64,k64,k64,.bool,.str,.str,.bool,k64,k64]],blks:=[],outs:=[(.s "checkSh.0",CW LV)],c:=(Cy 9),m':=[],pre:=[] }
def Zu:List En:=[⟨9,.le,[.c (.int 0),.e 0]⟩,
 ABY 10 9,
 ⟨11,.le,[.e 0,.c (.int 1099511627776)]⟩,
 ABF 12 9 11,
 ABY 13 12,
 ⟨14,.le,[.c (.int 0),.e 2]⟩,
 ABF 15 13 14,
 ⟨16,.le,[.e 2,.c (.int 1099511627776)]⟩,
 ABF 17 14 16,
 ⟨18,.or,[.n 12,.n 17]⟩,
 ABM 19 18,
 ⟨20,.lt,[.e 1,.c (.int 0)]⟩,
 ABH 21 18 20,
 ABM 22 21,
 ⟨23,.lt,[.c (.int 1048576),.e 1]⟩,
 ABH 24 21 23]
def Zm:List En:=[ABM 25 24,
 ⟨26,.outB "xvname.0" KR,[.e 4]⟩,
 ABF 27 25 26,
 ⟨28,.outB "xvname.0" KR,[.e 5]⟩,
 ⟨29,.or,[.n 26,.n 28]⟩,
 ABG 30 25 29,
 ⟨31,.eqs [.s],[.e 4,.e 5]⟩,
 ABH 32 29 31,
 ABF 33 25 32,
 ABG 34 25 32,
 ⟨35,.lt,[.e 8,.c (.int 0)]⟩,
 ABG 36 34 35,
 ABI 37 7 8,
 ABH 38 35 37,
 ABG 39 34 38,
 ⟨40,.lt,[.c (.int 26),.e 7]⟩]
def Ze:List En:=[ABH 41 38 40,
 ABF 42 34 41,
 ABG 43 34 41,
 ABH 44 33 42,
 ABH 45 24 44,
 ⟨46,.ite .i,[.e 45,.c (.int 2),.c (.int 0)]⟩,
 ABH 47 45 43]
def UC:List En:=Zu++(Zm++(Ze))
def m8:List ObE:=[]
def Yu:List Rf:=[.e 46]
theorem nC:Lp.sees Yu (Lp.run Try.prog [(83,NM)] Bp 3000 20 43)=some ((UC).map En.be,m8.map ObE.be,[]):=by kernel_rfl
variable{T:Tab}
theorem nf (Q:(S T 4).size<=140737488355328)(V:(S T 5).size<=140737488355328)(b:BV T UC):
  ((I T 46)=(Gw (I T 0) (I T 1) (I T 2) (S T 4) (S T 5) (I T 7) (I T 8))):=by
 obtain⟨i,b⟩:=b.cut;obtain⟨j,b⟩:=b.cut;have k:=b;clear b
 .obtain⟨P,-,l,o,-,p,-,q,r,s,-,t,u,-,v,w,-⟩:=i;obtain⟨x,c,-,d,y,-,z,A,C,D,E,-,F,H,-,J,-⟩:=j;obtain⟨K,M,-,N,O,e,-⟩:=k;replace c:B T 26=(Dn (S T 4)):=c;replace d:B T 28=(Dn (S T 5)):=d;simp only[BS,BZ,zN,zR,Dw,and_true,zL,zS] at P l o p q r s t u v w x y z A C D E F H J K M N O e;unfold Gw;rw[e];have g:(B T 45)=true↔¬(KY (I T 0) 0 1099511627776&&KY (I T 2) 0 1099511627776&&KY (I T 1) 0 1048576&&Dn (S T 4)&&Dn (S T 5)&& !decide ((S T 4)=S T 5)&&decide (0<=I T 8)&&decide ((I T 8)<=I T 7)&&decide ((I T 7)<=26))=true:=by
   rw[<-c,<-d];simp only[AB,RH,Bool.not_eq_true',decide_eq_false_iff_not,decide_eq_true_eq];clear c d e;grind
  by_cases h:(B T 45)=true
  .rw[BH h,BG (g.1 h)]
  .rw[BG h,BH (At fun a=>h (g.2 a))]
theorem jU:Bl Try.prog 43 Lp:=by
 refine B7 (l:=[(83,NM)]) CP (by simp only[AW];exact⟨YG,fun _ h=>absurd h (by simp)⟩) nC (by kernel_rfl) fun T us w b a o g i=>?_;change us.length=9 at a;obtain⟨-,-,-,c,d,-⟩:=g;replace c:(S T 4).size<=140737488355328:=c;replace d:(S T 5).size<=140737488355328:=d;have p:=inI (j:=0) b a (by decide);have q:=inI (j:=1) b a (by decide);have r:=inI (j:=2) b a (by decide);have s:=inS (j:=4) b a (by decide);have t:=inS (j:=5) b a (by decide);have u:=inI (j:=7) b a (by decide);have v:=inI (j:=8) b a (by decide);clear w
 skip
 obtain⟨e,k⟩:=B8 (A:=[.i]) (ag:=Yu) o (by kernel_rfl) i;have x:=nf c d e;refine⟨trivial,k.trans ?_⟩;exact (lc (by show U.int (I T 46)= .int (LV us);unfold LV;rw[p,q,r,s,t,u,v];exact BI U.int x) rfl)
def Md:List U->Bool:=fun us=>(EZ (aL us 0))
def K3:Bf:={ sh:=[.one (.list [k64,k64,k64,.bool,.str,.str,.bool,k64,k64])],blks:=[],outs:=[(.s "soundB.0",Jx Md)],c:= .b 1,m':=[],pre:=[] }
def bz:List En:=[⟨1,.id .l,[.c (.list [])]⟩,
 ABL 2 0]
def MN:List En:=bz
def aJ:List En:=[ABI 5 3 2,
 ABM 6 5,
 ABN 7 0 3,
 ABJ 8 0 3,
 ABK 9 0 3,
 ABQ 10 0 3,
 ABO 11 0 3,
 ABP 12 0 3,
 ABR 13 0 3,
 ABS 14 0 3,
 ABT 15 0 3,
 ⟨16,.mget .i 2 0 [.i,.i],[.e 4,.c (.int 0),.e 7,.e 8]⟩,
 ⟨17,.mget .i 2 1 [.i,.i],[.e 4,.c (.int 0),.e 7,.e 8]⟩,
 ⟨18,.mget .i 2 2 [.i,.i],[.e 4,.c (.int 0),.e 7,.e 8]⟩,
 ⟨19,.mget .b 2 3 [.i,.i],[.e 4,.c (.bool false),.e 7,.e 8]⟩,
 ⟨20,.mget .s 2 4 [.i,.i],[.e 4,.c (.str ⟨#[]⟩),.e 7,.e 8]⟩]
def eT:List En:=[⟨21,.mget .s 2 5 [.i,.i],[.e 4,.c (.str ⟨#[]⟩),.e 7,.e 8]⟩,
 ⟨22,.mget .b 2 6 [.i,.i],[.e 4,.c (.bool false),.e 7,.e 8]⟩,
 ⟨23,.mget .i 2 7 [.i,.i],[.e 4,.c (.int 0),.e 7,.e 8]⟩,
 ⟨24,.mget .i 2 8 [.i,.i],[.e 4,.c (.int 0),.e 7,.e 8]⟩,
 ⟨25,.mhas 2 [.i,.i],[.e 4,.e 7,.e 8]⟩,
 ABF 26 5 25,
 ⟨27,.nes [.i,.i,.i,.b,.s,.s,.b,.i,.i],[.e 16,.e 7,.e 17,.e 8,.e 18,.e 9,.e 19,.e 10,.e 20,.e 11,.e 21,.e 12,.e 22,.e 13,.e 23,.e 14,.e 24,.e 15]⟩,
 ABF 28 25 27,
 ABF 29 5 28,
 ABG 30 5 28,
 ⟨31,.mset 2 [.i,.i,.i,.i,.i,.b,.s,.s,.b,.i,.i],[.e 4,.e 7,.e 8,.e 7,.e 8,.e 9,.e 10,.e 11,.e 12,.e 13,.e 14,.e 15]⟩,
 ⟨32,.w2 .i64 .add,[.e 3,.c (.int 1)]⟩]
def Gp:List En:=aJ++(eT)
def Vw:List ObE:=[⟨some 30,.fits 1,[.e 4,.c (.list [[]])]⟩,⟨some 5,.inl,[.e 3,.e 0]⟩]
def Mb:Bs:=mkD 3 2 Gp 30 [.e 32,.e 31] Vw [0,2]
def RO:List Rf:=[.e 0,.e 2,.c (.int 0),.e 1]
def dX:List En:=[⟨33,.ite .b,[.e 29,.c (.bool false),.c (.bool true)]⟩,
 ABH 34 29 6]
def Vz:List En:=dX
def tf:List ObE:=[⟨none,.owes Mb,[.e 0,.e 2,.c (.int 0),.e 1]⟩]
def cG:List Rf:=[.e 33]
theorem sV:K3.sees cG (K3.run Try.prog [] Bp 3000 20 85)=some ((MN++((B5 Mb [.i,.l] RO)++(Gp++(Vz)))).map En.be,tf.map ObE.be,[]):=by kernel_rfl
theorem gR (g:dF T)(e:∀u∈(L T 0),Bb BT KB u)(a:BV T MN):
  ((I T 2)=((L T 0)).length)/\((L T 1)=[]):=by
 have b:=a;clear a;have C:(I T 2)=((L T 0)).length:=by
  obtain⟨-,d,-⟩:=b;simp only[BS,zR,zL] at d;exact d
 have O:(L T 1)=[]:=by
  obtain⟨c,-⟩:=b;simp only[BS,zR,zL,zS] at c;exact c
 exact⟨C,O⟩
abbrev am(T:Tab)(a:Int)(b:List (List U)):Prop:=0<=a/\a <=((L T 0)).length/\b.length<=a/\Dv [] ((L T 0))=Dv b (((L T 0)).drop a.toNat)
abbrev dK(T:Tab):Prop:=(I T 2)=((L T 0)).length
theorem lf (bo:dF T)(ba:∀u∈(L T 0),Bb BT KB u)(C:dK T)(O:(L T 1)=[])(N:Ba T (Bh (CA 0 K3.ks) MN))(F:Bi T (Gp.map En.be))(M:Bi T ((B5 Mb [.i,.l] RO).map En.be)):
  (Mb).owes (RO.map (Rf.eval T))/\Ba T (hds 3 [.i,.l])/\(am T (I T 3) (L T 4))/\¬B T 30=true:=by
 refine CK (nh:=3) (k:=2) (pcn:=30) (aF:=33) (b:=Gp) (K:=Vw) (nxt:=[.e 32,.e 31]) (H:=[.c (.int 0),.e 1]) (fv:=[0,2]) (A:=[.i,.l]) (by kernel_rfl) rfl rfl rfl rfl N (by kernel_rfl) (by kernel_rfl) F (B6 M) (fun s=>am T (aI s 0) (aL s 1)) (fun s=>(((L T 0)).length - (aI s 0)).toNat) ?_ ?_
 .show am T (0:Int) (L T 1);clear N F M;exact⟨by omega,by omega,by rw[O];exact Aw _,by rw[O,show (0:Int).toNat=0 from rfl,List.drop_zero]⟩
 .intro J Q g h;replace h:am T (I J 3) (L J 4):=h;clear N F M;replace g:BV J Gp:=g;obtain⟨o,g⟩:=g.cut;have E:=g;clear g;have a3:=fvL (Q 0 (by decide));have z:=fvI (Q 2 (by decide));clear Q
  suffices hz:(B J 30=true->(((L J 4)).length+(([[]]:List (List U))).length)*1<=140737488355328)/\(B J 5=true->0<=I J 3/\I J 3 < ((L J 0)).length)/\(B J 30=true->(am T (I J 32) (L J 31)))/\(B J 30=true->(((L T 0)).length - (I J 32)).toNat < (((L T 0)).length - (I J 3)).toNat) from
   let⟨r0,aB,nx,mz⟩:=hz;⟨⟨r0,aB,trivial⟩,fun c=>⟨nx c,mz c⟩⟩
  refine⟨?_,?_,?_,?_⟩
  .obtain⟨a,-⟩:=o;obtain⟨-,-,-,-,-,-,-,-,-,d,-⟩:=E;simp only[BS,BZ,zN,zR] at a d;obtain⟨V,W,X,D⟩:=h;intro c;have e:=a.1 (d.1 c).1;rw[z] at e;show (((L J 4)).length+1)*1<=_;omega
  .obtain⟨a,-⟩:=o;simp only[BS,zR] at a;obtain⟨V,W,X,D⟩:=h;intro c;have e:=a.1 c;rw[z] at e;rw[a3];omega
  .obtain⟨a,-,j,l,y,p,q,r,t,w,x,Y,Z,ab,ad,ag,-⟩:=o;obtain⟨al,an,ao,aw,ax,-,a0,a1,-,d,a2,i,-⟩:=E;simp only[BS,BZ,zN,zC,zR,Dw,and_true,w2P,zL,zS,uR,zW] at a j l y p q r t w x Y Z ab ad ag al an ao aw ax a0 a1 d a2 i;obtain⟨V,W,X,D⟩:=h;intro c;have a4:=d.1 c;have e:=a.1 a4.1;rw[z] at e;have a8:=o2' i (by omega);have a7:(I J 3).toNat < ((L T 0)).length:=by omega
   rw[a3] at j l y p q r t w x;have hu:=ba _ (Ca a7);have hk:[U.int (I J 7),U.int (I J 8)]=DT (((L T 0)).getD (I J 3).toNat []):=by rw[j,l];rfl
   have a5:(L J 31)=Cb 2 ((L J 4)) (DT (((L T 0)).getD (I J 3).toNat [])) (((L T 0)).getD (I J 3).toNat []):=by
    rw[a2];show Cb 2 _ [U.int (I J 7),U.int (I J 8)] [U.int (I J 7),U.int (I J 8),U.int (I J 9),U.bool (B J 10),U.str (S J 11),U.str (S J 12),U.bool (B J 13),U.int (I J 14),U.int (I J 15)]=_;rw[hk,j,l,y,p,q,r,t,w,x];exact BI (Cb 2 _ _) (Nd hu)
   have P:¬LU ((L J 4)) (((L T 0)).getD (I J 3).toNat [])=true:=fun P=>by
    have a9:(B J 28)=true:=(cA (a1.trans (and_congr ax a0)) hk Y Z ab ad ag al an ao aw j l y p q r t w x).2 P;simp[a9] at a4
   refine⟨by omega,by omega,?_,?_⟩
   .rw[a5];have:=MZ (G:=2) (m:=L J 4) (k:=DT (((L T 0)).getD (I J 3).toNat [])) (v:=((L T 0)).getD (I J 3).toNat []);omega
   .rw[D,T3 a7,BG P,a5,a8,show ((I J 3)+1).toNat=(I J 3).toNat+1 by omega]
  .obtain⟨a,-⟩:=o;obtain⟨-,-,-,-,-,-,-,-,-,d,-,i,-⟩:=E;simp only[BS,BZ,zN,zR,w2P] at a d i;obtain⟨V,W,X,D⟩:=h;intro c;have e:=a.1 (d.1 c).1;rw[z] at e;have a8:=o2' i (by omega);omega
theorem sY (a1:dF T)(a0:∀u∈(L T 0),Bb BT KB u)(C:dK T)(O:(L T 1)=[])(al:am T (I T 3) (L T 4))(aw:¬B T 30=true)(i:BV T MN)(b:BV T Gp)(j:BV T Vz):
  ((B T 33)=(EZ (L T 0))):=by
 have V:=i;clear i;obtain⟨W,b⟩:=b.cut;have X:=b;clear b;have Y:=j;clear j
 .obtain⟨-,Z,-⟩:=V;obtain⟨d,-,e,g,M,k,l,o,p,q,r,s,t,v,w,x,-⟩:=W;obtain⟨y,z,A,D,E,-,F,H,c,J,-⟩:=X;obtain⟨K,-⟩:=Y;simp only[BS,BZ,zN,zC,zR,Dw,and_true,zL,zS,uR,zW] at Z d e g M k l o p q r s t v w x y z A D E F H c J K;obtain⟨v1,v2,v3,v4⟩:=al;unfold EZ;rw[v4];refine Bool.eq_iff_iff.2 ?_;rw[K];by_cases P:(I T 3) < I T 2
  .have Q:=d.2 P;have ag:(I T 3).toNat < ((L T 0)).length:=by omega
   have N:(B T 28)=true:=by
    by_cases h:(B T 28)=true
    .exact h
    .exact absurd (J.2 ⟨Q,by simpa using h⟩) aw
   have hk:[U.int (I T 7),U.int (I T 8)]=DT (((L T 0)).getD (I T 3).toNat []):=by rw[e,g];rfl
   have hc:LU ((L T 4)) (((L T 0)).getD (I T 3).toNat [])=true:=(cA (H.trans (and_congr E F)) hk s t v w x y z A D e g M k l o p q r).1 N;rw[T3 ag,BH hc];have:=c.2 ⟨Q,N⟩;simp[this]
  .have n5:¬B T 5=true:=fun a=>P (d.1 a);have an:¬B T 29=true:=fun a=>n5 (c.1 a).1;rw[show (I T 3).toNat=((L T 0)).length by omega,List.drop_length];simp[an,Dv]
theorem pJ:Bl Try.prog 85 K3:=by
 refine B7 (l:=[]) CP (by intro p h;exact absurd h (by simp)) sV (by kernel_rfl) fun T us F z s d w a=>?_;change us.length=1 at s;obtain⟨⟨b,E⟩,-⟩:=w;replace b:(L T 0).length<=140737488355328:=b;have g:∀u∈(L T 0),Bb BT KB u:=fun u H=>by
  obtain⟨i,ab⟩:=Ac.1 H;exact E i u ab
 have D:=inL (j:=0) z s (by decide);clear F;rw[AL,AL,AL] at a;obtain⟨o,a⟩:=cutB a;obtain⟨q,a⟩:=cutB a;obtain⟨c,a⟩:=cutB a;obtain⟨k,e⟩:=Be d (by kernel_rfl) o;obtain⟨C,O⟩:=gR b g k;obtain⟨M,r,J,K⟩:=lf b g C O e c q;have x:=(Be (r.append e) (l:=Gp) (by kernel_rfl) c);obtain⟨v,d⟩:=x;clear o c q e r;obtain⟨t,y⟩:=B8 (A:=[.b]) (ag:=cG) d (by kernel_rfl) a;have N:=sY b g C O J K k v t;refine⟨⟨(fun _=>M),trivial⟩,y.trans ?_⟩;exact (lc (by show U.bool (B T 33)= .bool (Md us);unfold Md;rw[D];exact BI U.bool N) rfl)
def RL:List U->Int:=fun us=>(Bc (aL us 0))
def Nh:Bf:={ sh:=[.one (.list [k64,k64,k64,.bool,.str,.str,.bool,k64,k64])],blks:=[],outs:=[(.s "checkL.0",CW RL)],c:=(Cy 1),m':=[],pre:=[] }
def cO:List En:=[ABL 1 0,
 ⟨2,.lt,[.c (.int 200),.e 1]⟩,
 ABM 3 2,
 ABL 4 0]
def Mx:List En:=cO
def dW:List En:=[ABI 6 5 4,
 ABF 7 3 6,
 ABG 8 3 6,
 ABN 9 0 5,
 ABJ 10 0 5,
 ABK 11 0 5,
 ABQ 12 0 5,
 ABO 13 0 5,
 ABP 14 0 5,
 ABR 15 0 5,
 ABS 16 0 5,
 ABT 17 0 5,
 ⟨18,.outI "checkSh.0" LV,[.e 9,.e 10,.e 11,.e 12,.e 13,.e 14,.e 15,.e 16,.e 17]⟩,
 ⟨19,.ne,[.e 18,.c (.int 0)]⟩,
 ABF 20 7 19,
 ABG 21 7 19]
def cU:List En:=[⟨22,.w2 .i64 .add,[.e 5,.c (.int 1)]⟩]
def Gm:List En:=dW++(cU)
def Wb:List ObE:=[⟨some 7,.inl,[.e 5,.e 0]⟩]
def Mq:Bs:=mkD 5 1 Gm 21 [.e 22] Wb [0,3,4]
def QK:List Rf:=[.e 0,.e 3,.e 4,.c (.int 0)]
def aW:List En:=[⟨23,.ite .i,[.e 20,.e 5,.c (.int (-1))]⟩,
 ABH 24 20 8,
 ⟨25,.le,[.c (.int 0),.e 23]⟩,
 ABF 26 3 25,
 ABG 27 3 25,
 ⟨28,.outB "soundB.0" Md,[.e 0]⟩,
 ABF 29 27 28,
 ABG 30 27 28,
 ⟨31,.ite .i,[.e 25,.c (.int 2),.c (.int 12)]⟩,
 ABH 32 26 30,
 ⟨33,.ite .i,[.e 2,.c (.int 6),.e 31]⟩,
 ABH 34 2 32,
 ⟨35,.ite .i,[.e 34,.e 33,.c (.int 0)]⟩,
 ABH 36 34 29]
def Wq:List En:=aW
def tN:List ObE:=[⟨some 3,.owes Mq,[.e 0,.e 3,.e 4,.c (.int 0)]⟩]
def bJ:List Rf:=[.e 35]
theorem qg:Nh.sees bJ (Nh.run Try.prog [(43,Lp),(85,K3)] Bp 3000 20 47)=some ((Mx++((B5 Mq [.i] QK)++(Gm++(Wq)))).map En.be,tN.map ObE.be,[]):=by kernel_rfl
theorem fQ (g:dF T)(e:∀u∈(L T 0),Bb BT KB u)(a:BV T Mx):
  ((I T 4)=((L T 0)).length):=by
 have c:=a;clear a;have d:(I T 4)=((L T 0)).length:=by
  obtain⟨-,-,-,b,-⟩:=c;simp only[BS,zR,zL] at b;exact b
 exact d
abbrev az(T:Tab)(a:Int):Prop:=0<=a/\a <=((L T 0)).length/\(((L T 0)).take a.toNat).all Ed=true
theorem lS (aw:dF T)(h4:(I T 4)=((L T 0)).length)(E:Ba T (Bh (CA 0 Nh.ks) Mx))(C:Bi T (Gm.map En.be))(D:Bi T ((B5 Mq [.i] QK).map En.be)):
  (Mq).owes (QK.map (Rf.eval T))/\Ba T (hds 5 [.i])/\(az T (I T 5))/\¬B T 21=true:=by
 refine CK (nh:=5) (k:=1) (pcn:=21) (aF:=23) (b:=Gm) (K:=Wb) (nxt:=[.e 22]) (H:=[.c (.int 0)]) (fv:=[0,3,4]) (A:=[.i]) (by kernel_rfl) rfl rfl rfl rfl E (by kernel_rfl) (by kernel_rfl) C (B6 D) (fun s=>az T (aI s 0)) (fun s=>(((L T 0)).length - (aI s 0)).toNat) ?_ ?_
 .show az T (0:Int);clear E C D;exact⟨by omega,by omega,by simp⟩
 .intro J o g l;replace l:az T (I J 5):=l;clear E C D;replace g:BV J Gm:=g;obtain⟨p,g⟩:=g.cut;have M:=g;clear g;have O:=fvL (o 0 (by decide));have an:=fvB (o 3 (by decide));have z:=fvI (o 4 (by decide));clear o
  suffices hz:(B J 7=true->0<=I J 5/\I J 5 < ((L J 0)).length)/\(B J 21=true->(az T (I J 22)))/\(B J 21=true->(((L T 0)).length - (I J 22)).toNat < (((L T 0)).length - (I J 5)).toNat) from
   let⟨r0,nx,mz⟩:=hz;⟨⟨r0,trivial⟩,fun e=>⟨nx e,mz e⟩⟩
  refine⟨?_,?_,?_⟩
  .obtain⟨c,d,-⟩:=p;simp only[BS,BZ,zR] at c d;obtain⟨V,W,F⟩:=l;intro e;have j:=c.1 (d.1 e).2;rw[z] at j;rw[O];omega
  .obtain⟨c,d,-,y,q,r,-,t,u,-,v,w,x,N,-,h,-⟩:=p;obtain⟨i,-⟩:=M;replace x:I J 18=(Gw (I J 9) (I J 10) (I J 11) (S J 13) (S J 14) (I J 16) (I J 17)):=x;simp only[BS,BZ,zN,zR,w2P,zL] at c d y q r t u v w N h i;obtain⟨V,W,F⟩:=l;intro e;have Q:=h.1 e;have j:=c.1 (d.1 Q.1).2;rw[z] at j;have X:=o2' i (by omega);have Z:(I J 5).toNat < ((L T 0)).length:=by omega
   rw[O] at y q r t u v w;refine⟨by omega,by omega,?_⟩;rw[X,show ((I J 5)+1).toNat=(I J 5).toNat+1 by omega,D6 Z,RB];refine⟨F,?_⟩;have Y:¬ ¬I J 18=0:=fun a=>by
    have:=N.2 a;simp[this] at Q
   have P:(I J 18)=0:=At Y;rw[x,y,q,r,t,u,v,w] at P;exact decide_eq_true P
  .obtain⟨c,d,-,-,-,-,-,-,-,-,-,-,-,-,-,h,-⟩:=p;obtain⟨i,-⟩:=M;simp only[BS,BZ,zN,zR,w2P] at c d h i;obtain⟨V,W,F⟩:=l;intro e;have j:=c.1 (d.1 (h.1 e).1).2;rw[z] at j;have X:=o2' i (by omega);omega
theorem tq (bc:dF T)(bb:∀u∈(L T 0),Bb BT KB u)(h4:(I T 4)=((L T 0)).length)(a3:az T (I T 5))(a6:¬B T 21=true)(w:BV T Mx)(c:BV T Gm)(x:BV T Wq):
  ((I T 35)=(Bc (L T 0))):=by
 have F0:=w;clear w;obtain⟨F1,c⟩:=c.cut;have F2:=c;clear c;have F3:=x;clear x
 .obtain⟨e,h,M,e4,-⟩:=F0;obtain⟨r,s,-,Q,y,z,-,A,D,-,E,F,g,H,i,J,-⟩:=F1;obtain⟨j,-,k,l,K,o,-,p,N,d,q,b,P,-⟩:=F3;replace g:I T 18=(Gw (I T 9) (I T 10) (I T 11) (S T 13) (S T 14) (I T 16) (I T 17)):=g;replace o:B T 28=(EZ (L T 0)):=o;simp only[BS,BZ,zN,zR,zL,zS] at e h M e4 r s Q y z A D E F H i J j k l K p N d q b P;obtain⟨v1,v2,v3⟩:=a3;unfold Bc;rw[P];by_cases C:200 < ((L T 0)).length
  .have aw:=h.2 (by rw[e];omega);rw[BH C,BH (b.2 (.inl aw)),q,BH aw]
  .have aC:¬B T 2=true:=fun a=>by have:=h.1 a;rw[e] at this;omega
   have t:=M.2 (by simpa using aC);rw[BG C,q,BG aC,N];by_cases Z:(I T 5) < I T 4
   .have h7:=s.2 ⟨t,r.2 Z⟩;have V:(B T 19)=true:=by
     by_cases Y:(B T 19)=true
     .exact Y
     .exact absurd (J.2 ⟨h7,by simpa using Y⟩) a6
    have a2:(I T 5).toNat < ((L T 0)).length:=by omega
    have a8:¬((L T 0)).all Ed=true:=fun a=>by
     have O:=of_decide_eq_true (Ae.1 a _ (Ca a2));have X:=H.1 V;rw[g,Q,y,z,A,D,E,F] at X;exact X O
    have W:(B T 25)=true:=k.2 (by rw[j,BH (i.2 ⟨h7,V⟩)];omega);rw[BH a8,BH (b.2 (.inr (d.2 (.inl (l.2 ⟨t,W⟩))))),BH W]
   .have n6:¬B T 6=true:=fun a=>Z (r.1 a);have a4:¬B T 20=true:=fun a=>n6 (s.1 (i.1 a).1).2;have v:¬B T 25=true:=fun a=>by have:=k.1 a;rw[j,BG a4] at this;omega
    have ei:(I T 5).toNat=((L T 0)).length:=by omega
    rw[ei,BD] at v3;have nv:¬ ¬((L T 0)).all Ed=true:=fun a=>a v3;rw[BG nv,BG v,<-o];have a1:=K.2 ⟨t,by simpa using v⟩;by_cases ad:(B T 28)=true
    .rw[BH ad,BG];intro a;rcases b.1 a with a|a
     .exact aC a
     .rcases d.1 a with a|a
      .exact v (l.1 a).2
      .have:=(p.1 a).2;simp[ad] at this
    .rw[BG ad,BH (b.2 (.inr (d.2 (.inr (p.2 ⟨a1,by simpa using ad⟩)))))]
theorem YU:Bl Try.prog 47 Nh:=by
 refine B7 (l:=[(43,Lp),(85,K3)]) CP (by simp only[AW];exact⟨jU,pJ,fun _ h=>absurd h (by simp)⟩) qg (by kernel_rfl) fun T us E z s d w a=>?_;change us.length=1 at s;obtain⟨⟨b,D⟩,-⟩:=w;replace b:(L T 0).length<=140737488355328:=b;have r:∀u∈(L T 0),Bb BT KB u:=fun u F=>by
  obtain⟨i,ab⟩:=Ac.1 F;exact D i u ab
 have C:=inL (j:=0) z s (by decide);clear E;rw[AL,AL,AL] at a;obtain⟨o,a⟩:=cutB a;obtain⟨p,a⟩:=cutB a;obtain⟨c,a⟩:=cutB a;obtain⟨g,e⟩:=Be d (by kernel_rfl) o;have k:=fQ b r g;obtain⟨K,q,H,J⟩:=lS b k e c p;have x:=(Be (q.append e) (l:=Gm) (by kernel_rfl) c);obtain⟨v,d⟩:=x;clear o c p e q;obtain⟨t,y⟩:=B8 (A:=[.i]) (ag:=bJ) d (by kernel_rfl) a;have M:=tq b r k H J g v t;refine⟨⟨(fun _=>K),trivial⟩,y.trans ?_⟩;exact (lc (by show U.int (I T 35)= .int (RL us);unfold RL;rw[C];exact BI U.int M) rfl)
end
section
open Go Go.Eng Go.Proofs
def PS:List U->Int:=fun us=>(Bc (aL us 0))
def LO:List U->Prop:=fun us=>Bc (aL us 0)=0
def Hd:Bf:={ sh:=Nh.sh,blks:=[],outs:=[(.s "checkLk.0",CW PS)],c:= .ci .i64 0,m':=[],pre:=[(.s "checkLk.p0",LO)] }
theorem RF:Bl Try.prog 47 Hd:=Yg YU rfl rfl rfl rfl rfl (fun _=>rfl) rfl rfl fun us b c=>by
 have a:=c _ (Al.2 rfl);replace a:Bc (aL us 0)=0:=a;have b:us.length=1:=b
 match us,b,a with
 |[u],_,a=>exact⟨BI (fun z=>some (U.int z)) a,fun q d=>by cases d⟩
end
section
open Go Go.Eng Go.Proofs
set_option maxHeartbeats 4000000
set_option maxRecDepth 100000
def QH:List U->List (List U):=fun us=>(CI (aL us 0))
def I8:Bf:={ sh:=[.one (.list [k64,k64,k64,.bool,.str,.str,.bool,k64,k64])],blks:=[],outs:=[(.s "books1.0",D1 QH)],c:= .ro 1 [k64,k64,k64,k64,.bool,.str,.str,.bool,k64,k64],m':=[],pre:=[] }
def bh:List En:=[⟨1,.id .l,[.c (.list [])]⟩,
 ABL 2 0]
def KC:List En:=bh
def ez:List En:=[ABI 5 3 2,
 ABM 6 5,
 ABN 7 0 3,
 ABJ 8 0 3,
 ABK 9 0 3,
 ABQ 10 0 3,
 ABO 11 0 3,
 ABP 12 0 3,
 ABR 13 0 3,
 ABS 14 0 3,
 ABT 15 0 3,
 ⟨16,.mget .i 1 0 [.i],[.e 4,.c (.int 0),.e 7]⟩,
 ⟨17,.mget .i 1 1 [.i],[.e 4,.c (.int 0),.e 7]⟩,
 ⟨18,.mget .i 1 2 [.i],[.e 4,.c (.int 0),.e 7]⟩,
 ⟨19,.mget .b 1 3 [.i],[.e 4,.c (.bool false),.e 7]⟩,
 ⟨20,.mget .s 1 4 [.i],[.e 4,.c (.str ⟨#[]⟩),.e 7]⟩]
def eg:List En:=[⟨21,.mget .s 1 5 [.i],[.e 4,.c (.str ⟨#[]⟩),.e 7]⟩,
 ⟨22,.mget .b 1 6 [.i],[.e 4,.c (.bool false),.e 7]⟩,
 ⟨23,.mget .i 1 7 [.i],[.e 4,.c (.int 0),.e 7]⟩,
 ⟨24,.mget .i 1 8 [.i],[.e 4,.c (.int 0),.e 7]⟩,
 ⟨25,.mhas 1 [.i],[.e 4,.e 7]⟩,
 ABF 26 5 25,
 ABI 27 17 8,
 ⟨28,.or,[.n 25,.e 27]⟩,
 ABF 29 5 28,
 ⟨30,.mset 1 [.i,.i,.i,.i,.b,.s,.s,.b,.i,.i],[.e 4,.e 7,.e 7,.e 8,.e 9,.e 10,.e 11,.e 12,.e 13,.e 14,.e 15]⟩,
 ABG 31 5 28,
 ABW 32 28 30 4,
 ⟨33,.w2 .i64 .add,[.e 3,.c (.int 1)]⟩]
def Fd:List En:=ez++(eg)
def VW:List ObE:=[⟨some 29,.fits 1,[.e 4,.c (.list [[]])]⟩,⟨some 5,.inl,[.e 3,.e 0]⟩]
def J2:Bs:=mkD 3 2 Fd 5 [.e 33,.e 32] VW [0,2]
def Mc:List Rf:=[.e 0,.e 2,.c (.int 0),.e 1]
def V2:List En:=[]
def bd:List ObE:=[⟨none,.owes J2,[.e 0,.e 2,.c (.int 0),.e 1]⟩]
def eZ:List Rf:=[.e 4]
variable{T:Tab}
theorem gN (g:dF T)(e:∀u∈(L T 0),Bb BT KB u)(a:BV T KC):
  ((I T 2)=((L T 0)).length)/\((L T 1)=[]):=by
 have b:=a;clear a;have C:(I T 2)=((L T 0)).length:=by
  obtain⟨-,d,-⟩:=b;simp only[BS,zR,zL] at d;exact d
 have O:(L T 1)=[]:=by
  obtain⟨c,-⟩:=b;simp only[BS,zR,zL,zS] at c;exact c
 exact⟨C,O⟩
abbrev aN(T:Tab)(a:Int)(b:List (List U)):Prop:=0<=a/\a <=((L T 0)).length/\b=CI (((L T 0)).take a.toNat)
theorem jC (a7:dF T)(a1:∀u∈(L T 0),Bb BT KB u)(C:dK T)(O:(L T 1)=[])(P:Ba T (Bh (CA 0 I8.ks) KC))(M:Bi T (Fd.map En.be))(N:Bi T ((B5 J2 [.i,.l] Mc).map En.be)):
  (J2).owes (Mc.map (Rf.eval T))/\Ba T (hds 3 [.i,.l])/\(aN T (I T 3) (L T 4))/\¬B T 5=true:=by
 refine CK (nh:=3) (k:=2) (pcn:=5) (aF:=34) (b:=Fd) (K:=VW) (nxt:=[.e 33,.e 32]) (H:=[.c (.int 0),.e 1]) (fv:=[0,2]) (A:=[.i,.l]) (by kernel_rfl) rfl rfl rfl rfl P (by kernel_rfl) (by kernel_rfl) M (B6 N) (fun s=>aN T (aI s 0) (aL s 1)) (fun s=>(((L T 0)).length - (aI s 0)).toNat) ?_ ?_
 .show aN T (0:Int) (L T 1);clear P M N;exact⟨by omega,by omega,by rw[show (0:Int).toNat=0 from rfl,List.take_zero];exact O⟩
 .intro J Q g h;replace h:aN T (I J 3) (L J 4):=h;clear P M N;replace g:BV J Fd:=g;obtain⟨o,g⟩:=g.cut;have v:=g;clear g;have an:=fvL (Q 0 (by decide));have r:=fvI (Q 2 (by decide));clear Q
  suffices hz:(B J 29=true->(((L J 4)).length+(([[]]:List (List U))).length)*1<=140737488355328)/\(B J 5=true->0<=I J 3/\I J 3 < ((L J 0)).length)/\(B J 5=true->(aN T (I J 33) (L J 32)))/\(B J 5=true->(((L T 0)).length - (I J 33)).toNat < (((L T 0)).length - (I J 3)).toNat) from
   let⟨r0,aB,nx,mz⟩:=hz;⟨⟨r0,aB,trivial⟩,fun d=>⟨nx d,mz d⟩⟩
  refine⟨?_,?_,?_,?_⟩
  .obtain⟨c,-⟩:=o;obtain⟨-,-,-,-,-,-,-,-,ad,-⟩:=v;simp only[BS,BZ,zR] at c ad;obtain⟨V,W,j⟩:=h;intro d;have e:=c.1 (ad.1 d).1;rw[r] at e;have h6:=bK (l:=((L T 0)).take (I J 3).toNat);rw[<-j,Ao] at h6;show (((L J 4)).length+1)*1<=_;omega
  .obtain⟨c,-⟩:=o;simp only[BS,zR] at c;obtain⟨V,W,j⟩:=h;intro d;have e:=c.1 d;rw[r] at e;rw[an];omega
  .obtain⟨c,-,p,q,F,w,x,y,z,D,E,-,X,-⟩:=o;obtain⟨-,-,-,-,Y,-,Z,ab,-,ag,-,al,i,-⟩:=v;simp only[BS,BZ,zN,zR,w2P,zL,zS,uR,zW,zC] at c p q F w x y z D E X Y Z ab ag al i;obtain⟨V,W,j⟩:=h;intro d;have e:=c.1 d;rw[r] at e;have ax:=o2' i (by omega);refine⟨by omega,by omega,?_⟩;have aw:(I J 3).toNat < ((L T 0)).length:=by omega
   rw[ax,show ((I J 3)+1).toNat=(I J 3).toNat+1 by omega,D6 aw,WN,<-j];have hu:=a1 _ (Ca aw);rw[an] at p q F w x y z D E;unfold I5;have hb:(B J 28)=true↔(¬O2 ((L J 4)) (uI (((L T 0)).getD (I J 3).toNat []) 0)\/Xp ((L J 4)) (uI (((L T 0)).getD (I J 3).toNat []) 0) < uI (((L T 0)).getD (I J 3).toNat []) 1):=by
    rw[ab,<-Bool.not_eq_true,Y,Z,X,p,q];exact Iff.rfl
   rw[al];by_cases t:(B J 28)=true
   .rw[BH t,BH (hb.1 t),ag];show Cb 1 _ [U.int (I J 7)] [U.int (I J 7),U.int (I J 8),U.int (I J 9),U.bool (B J 10),U.str (S J 11),U.str (S J 12),U.bool (B J 13),U.int (I J 14),U.int (I J 15)]=_;rw[p,q,F,w,x,y,z,D,E];exact BI (Cb 1 _ _) (Nd hu)
   .rw[BG t,BG (fun a=>t (hb.2 a))]
  .obtain⟨c,-⟩:=o;obtain⟨-,-,-,-,-,-,-,-,-,-,-,-,i,-⟩:=v;simp only[BS,zR,w2P] at c i;obtain⟨V,W,j⟩:=h;intro d;have e:=c.1 d;rw[r] at e;have ax:=o2' i (by omega);omega
theorem sc (p:dF T)(o:∀u∈(L T 0),Bb BT KB u)(C:dK T)(O:(L T 1)=[])(g:aN T (I T 3) (L T 4))(h:¬B T 5=true)(c:BV T KC)(b:BV T Fd):
  ((L T 4)=(CI (L T 0))):=by
 have j:=c;clear c;obtain⟨e,b⟩:=b.cut;have k:=b;clear b
 .obtain⟨d,-⟩:=e;simp only[BS,zR] at d;obtain⟨q,r,i⟩:=g;have l:¬I T 3 < I T 2:=fun a=>h (d.2 a);rw[i,show (I T 3).toNat=((L T 0)).length by omega,BD]
theorem nE:∀(T:Tab) (us:List U),(∀p∈I8.pre,p.2 us)->(∀j u,us[j]? =some u->T j=u)->us.length=I8.n->Ba T (CA 0 I8.ks)->Bnd T 0 I8.ks->Bi T ((KC++((B5 J2 [.i,.l] Mc)++(Fd++(V2)))).map En.be)->J6 T bd/\eZ.map (Rf.eval T)=I8.outs.map fun o=>o.2 us:=by
 intro T us E y s d v a;change us.length=1 at s;obtain⟨⟨b,D⟩,-⟩:=v;replace b:(L T 0).length<=140737488355328:=b;have g:∀u∈(L T 0),Bb BT KB u:=fun u F=>by
  obtain⟨i,ab⟩:=Ac.1 F;exact D i u ab
 have z:=inL (j:=0) y s (by decide);clear E;rw[AL,AL,AL] at a;obtain⟨k,a⟩:=cutB a;obtain⟨q,a⟩:=cutB a;obtain⟨c,a⟩:=cutB a;obtain⟨h,e⟩:=Be d (by kernel_rfl) k;obtain⟨C,O⟩:=gN b g h;obtain⟨K,r,H,J⟩:=jC b g C O e c q;have w:=(Be (r.append e) (l:=Fd) (by kernel_rfl) c);obtain⟨t,d⟩:=w;clear k c q e r;obtain⟨N,x⟩:=B8 (A:=[.l]) (ag:=eZ) d (by kernel_rfl) a;have M:=sc b g C O H J h t;refine⟨⟨(fun _=>K),trivial⟩,x.trans ?_⟩;exact (lc (by show U.list (L T 4)= .list (QH us);unfold QH;rw[z];exact BI U.list M) rfl)
def NI:List U->Int:=fun us=>(DC (aI us 0) (aI us 1))
def Si:Bf:={ sh:=[.one (k64),.one (k64)],blks:=[],outs:=[(.s "cmpI.0",CW NI)],c:=(Cy 2),m':=[],pre:=[] }
def jq:List En:=[ABI 2 0 1,
 ABM 3 2,
 ABI 4 1 0,
 ABF 5 3 4,
 ABG 6 3 4,
 ⟨7,.ite .i,[.e 5,.c (.int 1),.c (.int 0)]⟩,
 ABH 8 5 6,
 ⟨9,.ite .i,[.e 2,.c (.int (-1)),.e 7]⟩,
 ABH 10 2 8]
def ar:List En:=jq
def wU:List ObE:=[]
def nI:List Rf:=[.e 9]
theorem w7:Si.sees nI (Si.run Try.prog [] Bp 3000 20 103)=some ((ar).map En.be,wU.map ObE.be,[]):=by kernel_rfl
theorem xU (g:BV T ar):
  ((I T 9)=(DC (I T 0) (I T 1))):=by
 have k:=g;clear g
 .obtain⟨c,h,d,e,-,i,-,j,-⟩:=k;simp only[BS,BZ,zR,zL,zS] at c h d e i j;unfold DC;rw[j,i];by_cases O:(I T 0) < I T 1
  .rw[BH (c.2 O),BH O]
  .have C:¬B T 2=true:=fun a=>O (c.1 a);rw[BG C,BG O];by_cases b:(I T 1) < I T 0
   .rw[BH (e.2 ⟨h.2 C,d.2 b⟩),BH b]
   .rw[BG (fun a=>b (d.1 (e.1 a).2)),BG b]
theorem uj:Bl Try.prog 103 Si:=by
 refine B7 (l:=[]) CP (by intro p h;exact absurd h (by simp)) w7 (by kernel_rfl) fun T us q b a i d e=>?_;change us.length=2 at a;clear d;have k:=inI (j:=0) b a (by decide);have o:=inI (j:=1) b a (by decide);clear q
 skip
 obtain⟨c,g⟩:=B8 (A:=[.i]) (ag:=nI) i (by kernel_rfl) e;have r:=xU c;refine⟨trivial,g.trans ?_⟩;exact (lc (by show U.int (I T 9)= .int (NI us);unfold NI;rw[k,o];exact BI U.int r) rfl)
def It:List U->Int:=fun us=>(if DC (aI us 2) (aI us 11)=0 then DC (aI us 0) (aI us 9) else DC (aI us 2) (aI us 11))
def NK:Bf:={ sh:=[.agg [k64,k64,k64,.bool,.str,.str,.bool,k64,k64],.agg [k64,k64,k64,.bool,.str,.str,.bool,k64,k64]],blks:=[],outs:=[(.s "cmpB.0",CW It)],c:=(Cy 18),m':=[],pre:=[] }
def jy:List En:=[⟨18,.outI "cmpI.0" NI,[.e 2,.e 11]⟩,
 ⟨19,.outI "cmpI.0" NI,[.e 0,.e 9]⟩,
 ⟨20,.ne,[.e 18,.c (.int 0)]⟩,
 ABM 21 20,
 ⟨22,.ne,[.e 19,.c (.int 0)]⟩,
 ABF 23 21 22,
 ABG 24 21 22,
 ABU 25 20 18 19,
 ABU 26 20 18 19,
 ⟨27,.ite .i,[.e 20,.c (.int 0),.c (.int 1)]⟩,
 ⟨28,.ite .b,[.e 20,.e 20,.e 22]⟩,
 ABH 29 20 23,
 ABU 30 29 25 19,
 ⟨31,.ite .b,[.e 29,.c (.bool true),.c (.bool false)]⟩,
 ⟨32,.ite .i,[.e 29,.e 26,.c (.int 0)]⟩,
 ⟨33,.ite .i,[.e 29,.e 27,.c (.int 2)]⟩]
def l8:List En:=[⟨34,.ite .b,[.e 29,.e 28,.e 22]⟩,
 ABH 35 29 24]
def bP:List En:=jy++(l8)
def xR:List ObE:=[]
def pi:List Rf:=[.e 32]
theorem wu:NK.sees pi (NK.run Try.prog [(103,Si)] Bp 3000 20 101)=some ((bP).map En.be,xR.map ObE.be,[]):=by kernel_rfl
theorem wg (t:(S T 4).size<=140737488355328)(u:(S T 5).size<=140737488355328)(r:(S T 13).size<=140737488355328)(s:(S T 14).size<=140737488355328)(b:BV T bP):
  ((I T 32)=(if DC (I T 2) (I T 11)=0 then DC (I T 0) (I T 9) else DC (I T 2) (I T 11))):=by
 obtain⟨p,b⟩:=b.cut;have q:=b;clear b
 .obtain⟨d,e,c,h,i,j,-,-,k,-,-,g,-,-,l,-⟩:=p;replace d:I T 18=(DC (I T 2) (I T 11)):=d;replace e:I T 19=(DC (I T 0) (I T 9)):=e;simp only[BS,BZ,zR,zL,zS] at c h i j k g l;rw[l,k,<-d,<-e];by_cases O:(I T 18)=0
  .have C:¬B T 20=true:=fun a=>(c.1 a) O;rw[BH O,BG C];by_cases o:(I T 19)=0
   .rw[o];split<;>rfl
   .rw[BH (g.2 (.inr (j.2 ⟨h.2 C,i.2 o⟩)))]
  .rw[BG O,BH (c.2 O),BH (g.2 (.inl (c.2 O)))]
theorem gj:Bl Try.prog 101 NK:=by
 refine B7 (l:=[(103,Si)]) CP (by simp only[AW];exact⟨uj,fun _ h=>absurd h (by simp)⟩) wu (by kernel_rfl) fun T us v b a q k o=>?_;change us.length=18 at a;obtain⟨-,-,-,e,g,-,-,-,-,-,c,d,-⟩:=k;replace e:(S T 4).size<=140737488355328:=e;replace g:(S T 5).size<=140737488355328:=g;replace c:(S T 13).size<=140737488355328:=c;replace d:(S T 14).size<=140737488355328:=d;have r:=inI (j:=0) b a (by decide);have t:=inI (j:=2) b a (by decide);have u:=inI (j:=9) b a (by decide);have s:=inI (j:=11) b a (by decide);clear v
 skip
 obtain⟨i,p⟩:=B8 (A:=[.i]) (ag:=pi) q (by kernel_rfl) o;have w:=wg e g c d i;refine⟨trivial,p.trans ?_⟩;exact (lc (by show U.int (I T 32)= .int (It us);unfold It;rw[r,s,t,u];exact BI U.int w) rfl)
def NR:List U->List (List U):=fun us=>(Br ltB (aL us 0) (aI us 2).toNat (aI us 3).toNat)
def Ku:List U->Prop:=fun us=>((aL us 0)).length=(aI us 1)/\0<=(aI us 2)/\(aI us 2)<=(aI us 3)/\(aI us 3)<=(aI us 1)
def yQ:Bf:={ sh:=[.one (k64),.one (k64),.cst (.fn (.func 101) [] [])],blks:=[],outs:=[(.s "insB.0",D1 NR)],c:= .tup [],m':=[.mrow 4 1 [k64,k64,k64,.bool,.str,.str,.bool,k64,k64] 38],pre:=[(.s "insB.p0",Ku)],row:=some ([k64,k64,k64,.bool,.str,.str,.bool,k64,k64],38) }
def s9:List Rf:=[.e 15,.e 16,.e 17,.e 18,.e 19,.e 20,.e 21,.e 22,.e 23,.e 27,.e 28,.e 29,.e 30,.e 31,.e 32,.e 33,.e 34,.e 35]
def jD:List En:=[⟨4,.w2 .i64 .add,[.e 2,.c (.int 1)]⟩]
def JH:List En:=jD
def cD:List En:=[ABI 7 5 3,
 ABM 8 7]
def IG:List En:=cD
def mF:List En:=[ABI 11 2 9,
 ABF 12 7 11,
 ABF 13 7 11,
 ABF 14 7 11,
 ABN 15 10 9,
 ABJ 16 10 9,
 ABK 17 10 9,
 ABQ 18 10 9,
 ABO 19 10 9,
 ABP 20 10 9,
 ABR 21 10 9,
 ABS 22 10 9,
 ABT 23 10 9,
 ABF 24 7 11,
 ABF 25 7 11,
 ⟨26,.w2 .i64 .sub,[.e 9,.c (.int 1)]⟩]
def iz:List En:=[ABN 27 10 26,
 ABJ 28 10 26,
 ABK 29 10 26,
 ABQ 30 10 26,
 ABO 31 10 26,
 ABP 32 10 26,
 ABR 33 10 26,
 ABS 34 10 26,
 ABT 35 10 26,
 ⟨36,.outI "cmpB.0" It,s9⟩,
 ⟨37,.lt,[.e 36,.c (.int 0)]⟩,
 ABF 38 11 37,
 ABF 39 7 38,
 ABG 40 7 38,
 ⟨41,.w2 .i64 .sub,[.e 9,.c (.int 1)]⟩,
 ⟨42,.w2 .i64 .sub,[.e 9,.c (.int 1)]⟩]
def lY:List En:=[ABN 43 10 42,
 ABJ 44 10 42,
 ABK 45 10 42,
 ABQ 46 10 42,
 ABO 47 10 42,
 ABP 48 10 42,
 ABR 49 10 42,
 ABS 50 10 42,
 ABT 51 10 42,
 ABN 52 10 9,
 ABJ 53 10 9,
 ABK 54 10 9,
 ABQ 55 10 9,
 ABO 56 10 9,
 ABP 57 10 9,
 ABR 58 10 9]
def jO:List En:=[ABS 59 10 9,
 ABT 60 10 9,
 ⟨61,.rset 0 [.i,.i,.i,.b,.s,.s,.b,.i,.i],[.e 10,.e 9,.e 43,.e 44,.e 45,.e 46,.e 47,.e 48,.e 49,.e 50,.e 51]⟩,
 ⟨62,.rset 0 [.i,.i,.i,.b,.s,.s,.b,.i,.i],[.e 61,.e 41,.e 52,.e 53,.e 54,.e 55,.e 56,.e 57,.e 58,.e 59,.e 60]⟩,
 ⟨63,.w2 .i64 .sub,[.e 9,.c (.int 1)]⟩]
def GZ:List En:=mF++(iz++(lY++(jO)))
def dH:List ObE:=[⟨some 39,.inr,[.e 41,.e 1]⟩,⟨some 39,.inr,[.e 9,.e 1]⟩,⟨some 39,.inr,[.e 9,.e 1]⟩,⟨some 39,.inr,[.e 42,.e 1]⟩,⟨some 25,.inr,[.e 26,.e 1]⟩,⟨some 14,.inr,[.e 9,.e 1]⟩]
def N0:Bs:=mkD 9 2 GZ 39 [.e 63,.e 62] dH [7,2,1]
def QG:List Rf:=[.e 7,.e 2,.e 1,.e 5,.e 6]
def ap:List En:=[⟨64,.w2 .i64 .add,[.e 5,.c (.int 1)]⟩]
def Mh:List En:=ap
def K9:List En:=IG++((B5 N0 [.i,.l] QG)++(GZ++(Mh)))
def af:List ObE:=[⟨some 7,.owes N0,[.e 7,.e 2,.e 1,.e 5,.e 6]⟩]
def RI:Bs:=mkD 5 2 K9 40 [.e 64,.e 10] af [2,1,3]
def U2:List Rf:=[.e 2,.e 1,.e 3,.e 4,.e 0]
def uC:List En:=[]
def wl:List ObE:=[⟨none,.owes RI,[.e 2,.e 1,.e 3,.e 4,.e 0]⟩]
def mn:List Rf:=[.e 6]
end
end Go.Eng
end
