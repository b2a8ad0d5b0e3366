/-
  A part of the proof: the evaluator of code and its soundness.
-/
import Derived.Test.YtikbgnmcfncnaaaE4
import Derived.Test.YtikbgnmcfncnaaaE5
import Derived.WalkKit
import Derived.Shelf.GgClosure.StringsIndexFuncTop
set_option linter.unusedVariables false
set_option linter.unusedSimpArgs false
noncomputable section
namespace Go.Eng
section
open Go Go.Eng Go.Proofs
set_option maxHeartbeats 4000000
set_option maxRecDepth 100000
def LG:List U->Bool:=fun us=>(Og (aL us 0) (aL us 1) (aI us 2))
def Li:AZ:={ sh:=[.one (.list [.str,k64,k64]),.one (.list [k64,k64,k64,.bool,.str,.str,.bool,k64,k64]),.one (k64)],blks:=[],outs:=[(.s "long.0",JM LG)],c:= .b 3,m':=[],pre:=[] }
def eV:List En:=[vT 3 0,
 ⟨4,.lt,[.c (.int 30),.e 3]⟩,
 vQ 5 4,
 vT 6 1,
 vO 7 2 6,
 vK 8 5 7,
 vT 9 1,
 ⟨10,.le,[.e 9,.c (.int 200)]⟩,
 vK 11 7 10,
 vN 12 4 11,
 vQ 13 12,
 vT 14 1,
 ⟨15,.lt,[.c (.int 210),.e 14]⟩,
 vN 16 12 15,
 vQ 17 16]
def Ou:List En:=eV
def da:List En:=[vT 19 0,
 vO 20 18 19,
 vK 21 17 20,
 vM 22 17 20,
 vm 23 0 18,
 ⟨24,.slen,[.e 23]⟩,
 ⟨25,.lt,[.c (.int 100),.e 24]⟩,
 vK 26 21 25,
 vM 27 21 25,
 ⟨28,.w2 .i64 .add,[.e 18,.c (.int 1)]⟩]
def Fo:List En:=da
def Xy:List ObE:=[⟨some 21,.inl,[.e 18,.e 0]⟩]
def OH:Ac:=mkD 18 1 Fo 27 [.e 28] Xy [0,17]
def R3:List Rf:=[.e 0,.e 17,.c (.int 0)]
def Xp:List En:=[]
def gS:List En:=[vT 30 1,
 vO 31 29 30,
 vK 32 22 31,
 vM 33 22 31,
 vV 34 1 29,
 ⟨35,.slen,[.e 34]⟩,
 ⟨36,.lt,[.c (.int 100),.e 35]⟩,
 vM 37 32 36,
 vW 38 1 29,
 ⟨39,.slen,[.e 38]⟩,
 ⟨40,.lt,[.c (.int 100),.e 39]⟩,
 vN 41 36 40,
 vK 42 32 41,
 vM 43 32 41,
 ⟨44,.w2 .i64 .add,[.e 29,.c (.int 1)]⟩]
def HN:List En:=gS
def aN:List ObE:=[⟨some 37,.inl,[.e 29,.e 1]⟩,⟨some 32,.inl,[.e 29,.e 1]⟩]
def OU:Ac:=mkD 29 1 HN 43 [.e 44] aN [1,22]
def Rx:List Rf:=[.e 1,.e 22,.c (.int 0)]
def eA:List En:=[⟨45,.ite .b,[.e 42,.c (.bool true),.c (.bool false)]⟩,
 vN 46 42 33,
 ⟨47,.ite .b,[.e 26,.c (.bool true),.e 45]⟩,
 vN 48 26 46,
 ⟨49,.ite .b,[.e 16,.c (.bool true),.e 47]⟩,
 vN 50 16 48]
def YZ:List En:=eA
def sM:List ObE:=[⟨some 22,.owes OU,[.e 1,.e 22,.c (.int 0)]⟩,
 ⟨some 17,.owes OH,[.e 0,.e 17,.c (.int 0)]⟩]
def lA:List Rf:=[.e 49]
theorem rM:Li.sees lA (Li.run Try.prog [] Aa 3000 20 19)=some ((Ou++((Ag OH [.i] R3)++(Fo++(Xp++((Ag OU [.i] Rx)++(HN++(YZ))))))).map En.be,sM.map ObE.be,[]):=by kernel_rfl
abbrev vo(T:Tab)(a:Int):Prop:=0<=a/\a <=((L T 0)).length/\¬(((L T 0)).take a.toNat).any Lv=true
abbrev wK(T:Tab):Prop:=(L T 0).length<=140737488355328
variable{T:Tab}
theorem nz (V:wK T)(u:AJ T (AM (Ak 0 Li.ks) Ou))(r:AU T (Fo.map En.be))(t:AU T ((Ag OH [.i] R3).map En.be)):
  (OH).owes (R3.map (Rf.eval T))/\AJ T (hds 18 [.i])/\(vo T (I T 18))/\¬B T 27=true:=by
 refine Ax (nh:=18) (k:=1) (pcn:=27) (aO:=29) (y:=Fo) (J:=Xy) (nxt:=[.e 28]) (H:=[.c (.int 0)]) (fv:=[0,17]) (R:=[.i]) (by kernel_rfl) rfl rfl rfl rfl u (by kernel_rfl) (by kernel_rfl) r (Ai t) (fun s=>vo T (aI s 0)) (fun s=>(((L T 0)).length - (aI s 0)).toNat) ?_ ?_
 .show vo T (0:Int);clear u r t;exact⟨uf _,by omega,by simp⟩
 .intro A v o l;replace l:vo T (I A 18):=l;clear u r t;replace o:AF A Fo:=o;have p:=o;clear o;have i:L A 0=L T 0:=fvL (v 0 (by decide));have Q:B A 17=B T 17:=fvB (v 17 (by decide));clear v
  suffices M:(B A 21=true->0<=I A 18/\I A 18 < ((L A 0)).length)/\(B A 27=true->(vo T (I A 28)))/\(B A 27=true->(((L T 0)).length - (I A 28)).toNat < (((L T 0)).length - (I A 18)).toNat) from
   let⟨P,O,N⟩:=M;⟨⟨P,trivial⟩,fun d=>⟨O d,N d⟩⟩
  refine⟨?_,?_,?_⟩
  .obtain⟨a,b,c,-⟩:=p;simp only[AE,AI,zR,zL] at a b c;obtain⟨D,E,w⟩:=l;intro d;have j:=b.1 (c.1 d).2;rw[a,i] at j;rw[i];omega
  .obtain⟨a,b,c,-,x,z,C,-,e,g,-⟩:=p;simp only[AE,AI,zN,zR,w2P,zL,zS] at a b c x z C e g;obtain⟨D,E,w⟩:=l;intro d;have q:=e.1 d;have j:=b.1 (c.1 q.1).2;rw[a,i] at j;have F:=g (by omega) (by omega);have K:(I A 18).toNat < ((L T 0)).length:=by omega
   refine⟨by omega,by omega,?_⟩;rw[F,show ((I A 18)+1).toNat=(I A 18).toNat+1 by omega,Co K,Xe];rintro (h|h)
   .exact w h
   .have h:=of_decide_eq_true h;have:(B A 25)=true:=C.2 (by rw[z,x,i];exact Int.ofNat_lt.2 h);rw[this] at q;cases q.2
  .obtain⟨a,b,c,-,-,-,-,-,e,g,-⟩:=p;simp only[AE,AI,zN,zR,w2P,zL] at a b c e g;obtain⟨D,E,w⟩:=l;intro d;have j:=b.1 (c.1 (e.1 d).1).2;rw[a,i] at j;have F:=g (by omega) (by omega);omega
abbrev vp(T:Tab)(a:Int):Prop:=0<=a/\a <=((L T 1)).length/\¬(((L T 1)).take a.toNat).any H6=true
abbrev wL(T:Tab):Prop:=(L T 1).length<=140737488355328
theorem nG (ad:wL T)(z:AJ T (AM (AM (hds 18 [.i]++(AM (Ak 0 Li.ks) Ou)) Fo) Xp))(w:AU T (HN.map En.be))(x:AU T ((Ag OU [.i] Rx).map En.be)):
  (OU).owes (Rx.map (Rf.eval T))/\AJ T (hds 29 [.i])/\(vp T (I T 29))/\¬B T 43=true:=by
 refine Ax (nh:=29) (k:=1) (pcn:=43) (aO:=45) (y:=HN) (J:=aN) (nxt:=[.e 44]) (H:=[.c (.int 0)]) (fv:=[1,22]) (R:=[.i]) (by kernel_rfl) rfl rfl rfl rfl z (by kernel_rfl) (by kernel_rfl) w (Ai x) (fun s=>vp T (aI s 0)) (fun s=>(((L T 1)).length - (aI s 0)).toNat) ?_ ?_
 .show vp T (0:Int);clear z w x;exact⟨uf _,by omega,by simp⟩
 .intro A C q i;replace i:vp T (I A 29):=i;clear z w x;replace q:AF A HN:=q;have p:=q;clear q;have e:L A 1=L T 1:=fvL (C 1 (by decide));have ab:B A 22=B T 22:=fvB (C 22 (by decide));clear C
  suffices W:(B A 37=true->0<=I A 29/\I A 29 < ((L A 1)).length)/\(B A 32=true->0<=I A 29/\I A 29 < ((L A 1)).length)/\(B A 43=true->(vp T (I A 44)))/\(B A 43=true->(((L T 1)).length - (I A 44)).toNat < (((L T 1)).length - (I A 29)).toNat) from
   let⟨Z,ax,Y,X⟩:=W;⟨⟨Z,ax,trivial⟩,fun a=>⟨Y a,X a⟩⟩
  refine⟨?_,?_,?_,?_⟩
  .obtain⟨b,c,d,-,-,-,-,j,-⟩:=p;simp only[AE,AI,zN,zR,zL] at b c d j;obtain⟨D,E,r⟩:=i;intro a;have u:(B A 32)=true:=by first|exact a|exact (j.1 a).1
   have g:=c.1 (d.1 u).2;rw[b,e] at g;rw[e];omega
  .obtain⟨b,c,d,-,-,-,-,j,-⟩:=p;simp only[AE,AI,zN,zR,zL] at b c d j;obtain⟨D,E,r⟩:=i;intro a;have u:(B A 32)=true:=by first|exact a|exact (j.1 a).1
   have g:=c.1 (d.1 u).2;rw[b,e] at g;rw[e];omega
  .obtain⟨b,c,d,-,F,K,M,-,N,O,P,t,-,l,o,-⟩:=p;simp only[AE,AI,zN,zR,w2P,zL,zS] at b c d F K M N O P t l o;obtain⟨D,E,r⟩:=i;intro a;have v:=l.1 a;have g:=c.1 (d.1 v.1).2;rw[b,e] at g;have Q:=o (by omega) (by omega);have V:(I A 29).toNat < ((L T 1)).length:=by omega
   refine⟨by omega,by omega,?_⟩;rw[Q,show ((I A 29)+1).toNat=(I A 29).toNat+1 by omega,Co V,Xe];rintro (h|h)
   .exact r h
   .have:(B A 41)=true:=by
     unfold H6 at h;rw[uN,decide_eq_true_eq,decide_eq_true_eq] at h;rcases h with h|h
     .exact t.2 (.inl (M.2 (by rw[K,F,e];exact Int.ofNat_lt.2 h)))
     .exact t.2 (.inr (P.2 (by rw[O,N,e];exact Int.ofNat_lt.2 h)))
    rw[this] at v;cases v.2
  .obtain⟨b,c,d,-,-,-,-,-,-,-,-,-,-,l,o,-⟩:=p;simp only[AE,AI,zN,zR,w2P,zL] at b c d l o;obtain⟨D,E,r⟩:=i;intro a;have g:=c.1 (d.1 (l.1 a).1).2;rw[b,e] at g;have Q:=o (by omega) (by omega);omega
theorem rW (ca:wK T)(b7:∀u∈(L T 0),AK AD KP u)(cb:wL T)(b8:∀u∈(L T 1),AK AD KB u)(b0:vo T (I T 18))(b4:¬B T 27=true)(b1:vp T (I T 29))(b5:¬B T 43=true)(A:AF T Ou)(D:AF T Fo)(E:AF T HN)(C:AF T YZ):
  ((B T 49)=(Og (L T 0) (L T 1) (I T 2))):=by
 have F0:=A;clear A;have F1:=D;clear D;have F2:=E;clear E;have F3:=C;clear C
 .obtain⟨Y,e4,-,e6,e7,-,e9,F,H,J,-,K,M,N,O,-⟩:=F0;obtain⟨j,k,o,P,Q,V,W,q,X,-⟩:=F1;obtain⟨r,s,t,-,Z,ab,ad,-,ag,al,a0,a1,v,a2,-⟩:=F2;obtain⟨a3,-,a4,-,a5,-⟩:=F3;simp only[AE,AI,zN,zC,zR,zL,zS] at Y e4 e6 e7 e9 F H J K M N O j k o P Q V W q X r s t Z ab ad ag al a0 a1 v a2 a3 a4 a5;obtain⟨v1,v2,v3⟩:=b0;obtain⟨aJ,w2,w3⟩:=b1;have ba:(B T 49)=true↔Og (L T 0) (L T 1) (I T 2)=true:=by
   unfold Og;rw[uN,uN,uN,uN,tV,decide_eq_true_eq,decide_eq_true_eq,decide_eq_true_eq,decide_eq_true_eq];have b2:(B T 16)=true↔((30 < ((L T 0)).length\/((I T 2) < ((L T 1)).length/\((L T 1)).length<=200))\/210 < ((L T 1)).length):=by
    rw[N,J,e4,H,e7,F,M,Y,e6,e9,K];omega
   rw[<-b2];have b6:(B T 49)=true↔((B T 16)=true\/((B T 26)=true\/B T 42=true)):=by
    rw[a5,a4,a3];cases (B T 16)<;>cases (B T 26)<;>cases (B T 42)<;>simp
   rw[b6];by_cases w:(B T 16)=true
   .simp[w]
   .have a9:=O.2 (by simpa using w);by_cases c:(B T 26)=true
    .obtain⟨b,a⟩:=q.1 c;have x:=k.1 (o.1 b).2;rw[j] at x;have a:=W.1 a;rw[V,Q] at a;have:=im (p:=Lv) (l:=L T 0) (i:=(I T 18).toNat) (by omega) (decide_eq_true (Int.ofNat_lt.1 a));simp[c,this]
    .have z:(B T 20)=false:=Bool.eq_false_iff.2 fun x=>by
      have b:=o.2 ⟨a9,x⟩;by_cases a:(B T 25)=true
      .exact c (q.2 ⟨b,a⟩)
      .exact b4 (X.2 ⟨b,by simpa using a⟩)
     have bs:=P.2 ⟨a9,z⟩;have hl:¬I T 18 < ((L T 0)).length:=fun h=>by have:=k.2 (by rw[j];exact h);rw[this] at z;cases z
     rw[show (I T 18).toNat=((L T 0)).length by omega,uz] at v3;by_cases g:(B T 42)=true
     .obtain⟨d,e⟩:=v.1 g;have y:=s.1 (t.1 d).2;rw[r] at y;have hw:H6 (((L T 1)).getD (I T 29).toNat [])=true:=by
       unfold H6;rw[uN,decide_eq_true_eq,decide_eq_true_eq];rcases a1.1 e with h|h
       .have h:=ad.1 h;rw[ab,Z] at h;exact .inl (Int.ofNat_lt.1 h)
       .have h:=a0.1 h;rw[al,ag] at h;exact .inr (Int.ofNat_lt.1 h)
      have:=im (p:=H6) (l:=L T 1) (i:=(I T 29).toNat) (by omega) hw;simp[g,this]
     .have b3:¬B T 31=true:=fun y=>by
       have d:=t.2 ⟨bs,y⟩;by_cases e:(B T 41)=true
       .exact g (v.2 ⟨d,e⟩)
       .exact b5 (a2.2 ⟨d,by simpa using e⟩)
      have hl:¬I T 29 < ((L T 1)).length:=fun h=>b3 (s.2 (by rw[r];exact h));rw[show (I T 29).toNat=((L T 1)).length by omega,uz] at w3;simp[w,c,g,v3,w3]
  first|exact ba|exact Bool.eq_iff_iff.2 ba
theorem rB:Ae Try.prog 19 Li:=by
 refine Aq (l:=[]) BU (by intro p h;exact absurd h (by simp)) rM (by kernel_rfl) fun T us M s q g z a=>?_;change us.length=3 at q;obtain⟨⟨k,F⟩,⟨o,H⟩,-⟩:=z;replace k:(L T 0).length<=140737488355328:=k;have J:∀u∈(L T 0),AK AD KP u:=fun u t=>by
  obtain⟨i,Y⟩:=uH.1 t;exact F i u Y
 replace o:(L T 1).length<=140737488355328:=o;have K:∀u∈(L T 1),AK AD KB u:=fun u t=>by
  obtain⟨i,Y⟩:=uH.1 t;exact H i u Y
 have C:aL us 0=L T 0:=inL s q (by decide);have D:aL us 1=L T 1:=inL s q (by decide);have E:aI us 2=I T 2:=inI s q (by decide);clear M;rw[ti,ti,ti,ti,ti,ti] at a;have d:=a.left;replace a:=a.right;have e:=a.left;replace a:=a.right;have b:=a.left;replace a:=a.right;obtain⟨v,c⟩:=AN g (by kernel_rfl) d;obtain⟨V,j,N,P⟩:=nz k c b e;have r:=(AN (j.append c) (l:=Fo) (by kernel_rfl) b);obtain⟨x,g⟩:=r;clear d b e c j;have d:=a.left;replace a:=a.right;have e:=a.left;replace a:=a.right;have b:=a.left;replace a:=a.right;obtain⟨Z,c⟩:=AN g (by kernel_rfl) d;obtain⟨W,j,O,Q⟩:=nG o c b e;have r:=(AN (j.append c) (l:=HN) (by kernel_rfl) b);obtain⟨y,g⟩:=r;clear d b e c j;obtain⟨w,A⟩:=At (R:=[.b]) (rs:=lA) g (by kernel_rfl) a;have X:=rW k J o K N P O Q v x y w;refine⟨⟨(fun _=>W),(fun _=>V),trivial⟩,A.trans ?_⟩;exact (lc (by show U.bool (B T 49)= .bool (LG us);unfold LG;rw[C,D,E];exact vD U.bool X) rfl)
end
section
open Go Go.Eng Go.Proofs Go.Shelf Go.RowKit Go.Lib
def H5:List U->Bool:=fun us=>(Ch (aS us 0))
def LD:AZ:={ sh:=[.one (.str)],blks:=[],outs:=[(.s "xvname.0",JM H5)],c:= .b 1,m':=[],pre:=[] }
def fA:Go.Shelf.Ren:=⟨fun|17=>110|15=>130|20=>142|n=>n,fun|9=>9|23=>159|4=>4|3=>3|0=>0|21=>21|n=>n,fun|n=>n⟩
theorem gE:Go.Proofs.LaysGw.n17 Try.prog fA:={
 mixed:=by kernel_rfl
 f15:=Try.func130.trans (vD some (by kernel_rfl))
 f17:=Try.func110.trans (vD some (by kernel_rfl))
 f20:=Try.func142.trans (vD some (by kernel_rfl))
 t0:=Try.underlying0
 a0:=Try.isAgg0
 z0:=Try.sizeOf0
 v0:=Try.zeroValue0
 i0:=by kernel_rfl
 t3:=Try.underlying3
 a3:=Try.isAgg3
 z3:=Try.sizeOf3
 v3:=Try.zeroValue3
 i3:=by kernel_rfl
 t4:=Try.underlying4
 a4:=Try.isAgg4
 z4:=Try.sizeOf4
 v4:=Try.zeroValue4
 i4:=by kernel_rfl
 t9:=Try.underlying9
 a9:=Try.isAgg9
 z9:=Try.sizeOf9
 v9:=Try.zeroValue9
 i9:=by kernel_rfl
 t21:=Try.underlying21
 a21:=Try.isAgg21
 z21:=Try.sizeOf21
 v21:=Try.zeroValue21
 i21:=by kernel_rfl
 t23:=Try.underlying159
 a23:=Try.isAgg159
 z23:=Try.sizeOf159
 v23:=Try.zeroValue159
 i23:=by kernel_rfl }
theorem ac (w:World):PredAt Try.prog 111 #[] encR C1 w:=fun W r _=>by
 unfold FnGives C1;by_cases C:97<=r<;>by_cases O:r<=122<;>by_cases b:48<=r<;>by_cases c:r<=57
 all_goals
  have d:(r:Int) < 97↔r < 97:=by omega
  have e:(122:Int) < (r:Int)↔122 < r:=by omega
  have g:(r:Int) < 48↔r < 48:=by omega
  have h:(57:Int) < (r:Int)↔57 < r:=by omega
  go_enter Try.func111,Try.ntmps111
  go_wp2
  all_goals first|(exfalso;omega)|(go_ret;exact⟨by first|(simp;done)|(simp;omega),0,rfl⟩)
set_option maxHeartbeats 1000000 in
theorem Xj (s:ByteArray)(aa:s.size<=AD)(w:World):Calls Try.prog 83 #[.string s] w fun e Z=>e= .returned (.bool (Ch s))/\Below w.heap.size w Z:=by
 have a:=Any.strings_ContainsFunc gE 111 #[] (enters_of Try.func111 (by kernel_rfl) rfl) C1 s w (ac w);change Calls Try.prog 110 _ _ _ at a;rw[gT];obtain⟨d,hd⟩:∃d,decide (0<=Lib.idxFunc C1 true s)=d:=⟨_,rfl⟩;rw[hd] at a⊢;clear hd;unfold AD at aa;by_cases C:1<=s.size<;>by_cases O:s.size<=20
 all_goals
  go_enter Try.func83,Try.ntmps83
  go_wp2_with (go_at_call 110;refine a.mono ?_;rintro e Z ⟨rfl,b⟩)
  all_goals (go_ret;exact⟨by simp[C,O],by first|exact b|exact Below.refl _ _⟩)
theorem WL:Ae Try.prog 83 LD:=by
 refine S8 rfl rfl ⟨Try.f83,Try.func83,by kernel_rfl,by kernel_rfl⟩ fun T us d a j V w W h=>?_;obtain⟨v,k,rfl,⟨_,s,aa,rfl,i⟩,rfl⟩:=h;have g:us.length=1:=d;refine (Xj s i w).mono fun e Z ⟨C,O⟩=>⟨_,C,O,show 1 < 2 by decide,Ch s,?_,rfl⟩;have b:aS us 0=s:=by
  have:=a 0 us[0] (by unfold AZ.us;rw[tv (by omega)];exact tZ (by omega));rw[aa] at this;unfold aS;rw[uD,tZ (show 0 < us.length by omega),Option.getD_some,<-this];rfl
 have c:=a 1 (JM H5 us) (by unfold AZ.us;rw[tw (by omega),g];rfl);rw[c];show U.bool (Ch (aS us 0))=_;rw[b]
end
section
open Go Go.Eng Go.Proofs
set_option maxHeartbeats 4000000
set_option maxRecDepth 100000
def Gh:List U->Int:=fun us=>(Eh (aI us 0) (aI us 1) (aI us 2) (aS us 4) (aS us 5) (aI us 7) (aI us 8))
def Fj:AZ:={ sh:=[.agg [k64,k64,k64,.bool,.str,.str,.bool,k64,k64]],blks:=[],outs:=[(.s "checkSh.0",Bm Gh)],c:=(DK 9),m':=[],pre:=[] }
def Ww:List En:=[⟨9,.le,[.c (.int 0),.e 0]⟩,
 vh 10 9,
 ⟨11,.le,[.e 0,.c (.int 1099511627776)]⟩,
 vK 12 9 11,
 vh 13 12,
 ⟨14,.le,[.c (.int 0),.e 2]⟩,
 vK 15 13 14,
 ⟨16,.le,[.e 2,.c (.int 1099511627776)]⟩,
 vK 17 14 16,
 ⟨18,.or,[.n 12,.n 17]⟩,
 vQ 19 18,
 ⟨20,.lt,[.e 1,.c (.int 0)]⟩,
 vN 21 18 20,
 vQ 22 21,
 ⟨23,.lt,[.c (.int 1048576),.e 1]⟩,
 vN 24 21 23]
def Wu:List En:=[vQ 25 24,
 ⟨26,.outB "xvname.0" H5,[.e 4]⟩,
 vK 27 25 26,
 ⟨28,.outB "xvname.0" H5,[.e 5]⟩,
 ⟨29,.or,[.n 26,.n 28]⟩,
 vM 30 25 29,
 ⟨31,.eqs [.s],[.e 4,.e 5]⟩,
 vN 32 29 31,
 vK 33 25 32,
 vM 34 25 32,
 ⟨35,.lt,[.e 8,.c (.int 0)]⟩,
 vM 36 34 35,
 vO 37 7 8,
 vN 38 35 37,
 vM 39 34 38,
 ⟨40,.lt,[.c (.int 26),.e 7]⟩]
def Wq:List En:=[vN 41 38 40,
 vK 42 34 41,
 vM 43 34 41,
 vN 44 33 42,
 vN 45 24 44,
 ⟨46,.ite .i,[.e 45,.c (.int 2),.c (.int 0)]⟩,
 vN 47 45 43]
def RT:List En:=Ww++(Wu++(Wq))
def ja:List ObE:=[]
def WX:List Rf:=[.e 46]
theorem kD:Fj.sees WX (Fj.run Try.prog [(83,LD)] Aa 3000 20 43)=some ((RT).map En.be,ja.map ObE.be,[]):=by kernel_rfl
variable{T:Tab}
theorem kF (Q:(S T 4).size<=140737488355328)(V:(S T 5).size<=140737488355328)(b:AF T RT):
  ((I T 46)=(Eh (I T 0) (I T 1) (I T 2) (S T 4) (S T 5) (I T 7) (I T 8))):=by
 obtain⟨i,b⟩:=b.cut;obtain⟨j,b⟩:=b.cut;have k:=b;clear b
 .obtain⟨P,-,l,o,-,p,-,q,r,s,-,t,u,-,v,w,-⟩:=i;obtain⟨x,c,-,d,y,-,z,A,C,D,E,-,F,H,-,J,-⟩:=j;obtain⟨K,M,-,N,O,e,-⟩:=k;replace c:B T 26=(Ch (S T 4)):=c;replace d:B T 28=(Ch (S T 5)):=d;simp only[AE,AI,zN,zR,DU,and_true,zL,zS] at P l o p q r s t u v w x y z A C D E F H J K M N O e;unfold Eh;rw[e];have g:(B T 45)=true↔¬(In (I T 0) 0 1099511627776&&In (I T 2) 0 1099511627776&&In (I T 1) 0 1048576&&Ch (S T 4)&&Ch (S T 5)&& !decide ((S T 4)=S T 5)&&decide (0<=I T 8)&&decide ((I T 8)<=I T 7)&&decide ((I T 7)<=26))=true:=by
   rw[<-c,<-d];simp only[tV,Ny,Bool.not_eq_true',decide_eq_false_iff_not,decide_eq_true_eq];clear c d e;grind
  by_cases h:(B T 45)=true
  .rw[vC h,vA (g.1 h)]
  .rw[vA h,vC (uc fun a=>h (g.2 a))]
theorem Tn:Ae Try.prog 43 Fj:=by
 refine Aq (l:=[(83,LD)]) BU (by simp only[uA];exact⟨WL,fun _ h=>absurd h (by simp)⟩) kD (by kernel_rfl) fun T us v b a k g i=>?_;change us.length=9 at a;obtain⟨-,-,-,c,d,-⟩:=g;replace c:(S T 4).size<=140737488355328:=c;replace d:(S T 5).size<=140737488355328:=d;have o:aI us 0=I T 0:=inI b a (by decide);have p:aI us 1=I T 1:=inI b a (by decide);have q:aI us 2=I T 2:=inI b a (by decide);have r:aS us 4=S T 4:=inS b a (by decide);have s:aS us 5=S T 5:=inS b a (by decide);have t:aI us 7=I T 7:=inI b a (by decide);have u:aI us 8=I T 8:=inI b a (by decide);clear v
 skip
 obtain⟨e,j⟩:=At (R:=[.i]) (rs:=WX) k (by kernel_rfl) i;have w:=kF c d e;refine⟨trivial,j.trans ?_⟩;exact (lc (by show U.int (I T 46)= .int (Gh us);unfold Gh;rw[o,p,q,r,s,t,u];exact vD U.int w) rfl)
def Hw:List U->Bool:=fun us=>(Ch (aS us 0))
def Ie:AZ:={ sh:=[.one (.str)],blks:=[],outs:=[(.s "xnamed.0",JM Hw)],c:= .b 1,m':=[],pre:=[] }
def Yd:List En:=[⟨1,.slen,[.e 0]⟩,
 ⟨2,.lt,[.e 1,.c (.int 1)]⟩,
 vQ 3 2,
 ⟨4,.slen,[.e 0]⟩,
 ⟨5,.lt,[.c (.int 20),.e 4]⟩,
 vN 6 2 5,
 vQ 7 6]
def OZ:List En:=Yd
def Xl:List En:=[⟨9,.slen,[.e 0]⟩,
 vO 10 8 9,
 vK 11 7 10,
 vM 12 7 10,
 ⟨13,.sat,[.e 0,.e 8]⟩,
 ⟨14,.le,[.c (.int 97),.e 13]⟩,
 vK 15 11 14,
 ⟨16,.sat,[.e 0,.e 8]⟩,
 ⟨17,.le,[.e 16,.c (.int 122)]⟩,
 vK 18 14 17,
 vM 19 11 18,
 ⟨20,.sat,[.e 0,.e 8]⟩,
 ⟨21,.le,[.c (.int 48),.e 20]⟩,
 vK 22 19 21,
 ⟨23,.sat,[.e 0,.e 8]⟩,
 ⟨24,.le,[.e 23,.c (.int 57)]⟩]
def Yn:List En:=[vK 25 21 24,
 vN 26 18 25,
 vK 27 11 26,
 vM 28 11 26,
 ⟨29,.w2 .i64 .add,[.e 8,.c (.int 1)]⟩]
def Ez:List En:=Xl++(Yn)
def Sz:List ObE:=[⟨some 22,.ins,[.e 0,.e 8]⟩,⟨some 19,.ins,[.e 0,.e 8]⟩,⟨some 15,.ins,[.e 0,.e 8]⟩,⟨some 11,.ins,[.e 0,.e 8]⟩]
def KV:Ac:=mkD 8 1 Ez 27 [.e 29] Sz [0,7]
def ON:List Rf:=[.e 0,.e 7,.c (.int 0)]
def ZB:List En:=[⟨30,.ite .b,[.e 28,.c (.bool false),.c (.bool true)]⟩,
 vN 31 28 12,
 ⟨32,.ite .b,[.e 6,.c (.bool false),.e 30]⟩,
 vN 33 6 31]
def TS:List En:=ZB
def mw:List ObE:=[⟨some 7,.owes KV,[.e 0,.e 7,.c (.int 0)]⟩]
def Zp:List Rf:=[.e 32]
theorem lg:Ie.sees Zp (Ie.run Try.prog [] Aa 3000 20 64)=some ((OZ++((Ag KV [.i] ON)++(Ez++(TS)))).map En.be,mw.map ObE.be,[]):=by kernel_rfl
abbrev vq(T:Tab)(a:Int):Prop:=0<=a/\a <=((S T 0)).size/\(∀j:Nat,(j:Int) <a ->okB (S T 0) j)
theorem gK (a6:(S T 0).size<=140737488355328)(M:AJ T (AM (Ak 0 Ie.ks) OZ))(F:AU T (Ez.map En.be))(K:AU T ((Ag KV [.i] ON).map En.be)):
  (KV).owes (ON.map (Rf.eval T))/\AJ T (hds 8 [.i])/\(vq T (I T 8))/\¬B T 27=true:=by
 refine Ax (nh:=8) (k:=1) (pcn:=27) (aO:=30) (y:=Ez) (J:=Sz) (nxt:=[.e 29]) (H:=[.c (.int 0)]) (fv:=[0,7]) (R:=[.i]) (by kernel_rfl) rfl rfl rfl rfl M (by kernel_rfl) (by kernel_rfl) F (Ai K) (fun s=>vq T (aI s 0)) (fun s=>(((S T 0)).size - (aI s 0)).toNat) ?_ ?_
 .show vq T (0:Int);clear M F K;exact⟨by omega,by omega,fun j W=>absurd W (by omega)⟩
 .intro A N q l;replace l:vq T (I A 8):=l;clear M F K;replace q:AF A Ez:=q;obtain⟨p,q⟩:=q.cut;have O:=q;clear q;have a:S A 0=S T 0:=fvS (N 0 (by decide));have a4:B A 7=B T 7:=fvB (N 7 (by decide));clear N
  suffices hz:(B A 22=true->0<=I A 8/\I A 8 < ((S A 0)).size)/\(B A 19=true->0<=I A 8/\I A 8 < ((S A 0)).size)/\(B A 15=true->0<=I A 8/\I A 8 < ((S A 0)).size)/\(B A 11=true->0<=I A 8/\I A 8 < ((S A 0)).size)/\(B A 27=true->(vq T (I A 29)))/\(B A 27=true->(((S T 0)).size - (I A 29)).toNat < (((S T 0)).size - (I A 8)).toNat) from
   let⟨r0,ax,aE,r3,nx,mz⟩:=hz;⟨⟨r0,ax,aE,r3,trivial⟩,fun i=>⟨nx i,mz i⟩⟩
  refine⟨?_,?_,?_,?_,?_,?_⟩
  .obtain⟨d,b,c,-,r,v,-,w,x,z,X,C,P,a3,-⟩:=p;simp only[AE,AI,zN,zR,zS] at*;obtain⟨t,u,h⟩:=l;intro i;have o:(B A 11)=true:=by clear h;grind
   have g:=b.1 (c.1 o).2;rw[d,a] at g;rw[a];omega
  .obtain⟨d,b,c,-,r,v,-,w,x,z,X,-⟩:=p;simp only[AE,AI,zN,zR,zS] at*;obtain⟨t,u,h⟩:=l;intro i;have o:(B A 11)=true:=by clear h;grind
   have g:=b.1 (c.1 o).2;rw[d,a] at g;rw[a];omega
  .obtain⟨d,b,c,-,r,v,a2,-⟩:=p;simp only[AE,AI,zR,zS] at*;obtain⟨t,u,h⟩:=l;intro i;have o:(B A 11)=true:=by clear h;grind
   have g:=b.1 (c.1 o).2;rw[d,a] at g;rw[a];omega
  .obtain⟨d,b,c,-⟩:=p;simp only[AE,AI,zR,zS] at d b c;obtain⟨t,u,h⟩:=l;intro i;have o:(B A 11)=true:=by clear h;grind
   have g:=b.1 (c.1 o).2;rw[d,a] at g;rw[a];omega
  .obtain⟨d,b,c,-,r,v,-,w,x,z,-,C,P,-,Q,Y,-⟩:=p;obtain⟨Z,ab,D,-,E,-⟩:=O;simp only[AE,AI,zR,w2P,zS] at*;obtain⟨t,u,h⟩:=l;intro i;have V:=D.1 i;have g:=b.1 (c.1 V.1).2;rw[d,a] at g;have e:(I A 29)=I A 8+1:=E (by omega) (by omega);refine⟨by omega,by omega,fun j W=>?_⟩;by_cases ad:(j:Int) < I A 8
   .exact h j ad
   .obtain rfl:j=(I A 8).toNat:=by omega
    unfold okB;have a7:(I A 13)=Bn (S T 0) (I A 8).toNat:=by rw[r,a]
    have a8:(I A 16)=Bn (S T 0) (I A 8).toNat:=by rw[w,a]
    have a9:(I A 20)=Bn (S T 0) (I A 8).toNat:=by rw[C,a]
    have ba:(I A 23)=Bn (S T 0) (I A 8).toNat:=by rw[Q,a]
    have a5:=V.2;clear h;grind
  .obtain⟨d,b,c,-,r,v,-,w,x,z,-,C,P,-,Q,Y,-⟩:=p;obtain⟨Z,ab,D,-,E,-⟩:=O;simp only[AE,AI,zR,w2P,zS] at*;obtain⟨t,u,h⟩:=l;intro i;have g:=b.1 (c.1 (D.1 i).1).2;rw[d,a] at g;have e:(I A 29)=I A 8+1:=E (by omega) (by omega);omega
theorem oI (a2:(S T 0).size<=140737488355328)(F:vq T (I T 8))(H:¬B T 27=true)(d:AF T OZ)(c:AF T Ez)(e:AF T TS):
  ((B T 32)=(Ch (S T 0))):=by
 have o:=d;clear d;obtain⟨p,c⟩:=c.cut;have q:=c;clear c;have r:=e;clear e
 .obtain⟨J,P,-,e4,e5,e6,e7,-⟩:=o;obtain⟨i,g,s,-,t,K,-,u,M,N,-,v,Q,-,w,V,-⟩:=p;obtain⟨W,X,x,Y,-⟩:=q;obtain⟨Z,-,ab,-⟩:=r;simp only[AE,AI,zN,zC,zR,zL,zS] at*;obtain⟨aJ,w2,a⟩:=F;refine Bool.eq_iff_iff.2 (Iff.trans ?_ pN.symm);have a3:(I T 13)=Bn (S T 0) (I T 8).toNat:=t;have a4:(I T 16)=Bn (S T 0) (I T 8).toNat:=u;have a5:(I T 20)=Bn (S T 0) (I T 8).toNat:=v;have a6:(I T 23)=Bn (S T 0) (I T 8).toNat:=w;constructor
  .intro h;have D:¬B T 6=true:=by clear a;grind
   have A:¬B T 28=true:=by clear a;grind
   have l:¬B T 11=true:=fun h=>by
    have y:(B T 26)=true:=by clear a;grind
    have z:=x.2 ⟨h,y⟩;simp[H] at z
   have k:¬B T 10=true:=by clear a;grind
   have hn:¬I T 8 < ((S T 0)).size:=fun h=>k (g.2 (by rw[i];exact h));refine⟨by clear a;grind,by clear a;grind,fun j hj=>a j (by omega)⟩
  .rintro⟨C,O,b⟩;have D:¬B T 6=true:=by clear a b;grind
   have A:¬B T 28=true:=fun h=>by
    have l:(B T 11)=true:=by clear a b;grind
    have k:(I T 8) < ((S T 0)).size:=by have:=g.1 (s.1 l).2;rw[i] at this;exact this
    have E:=b (I T 8).toNat (by omega);unfold okB at E;clear a b;grind
   clear a b;grind
theorem lI:Ae Try.prog 64 Ie:=by
 refine Aq (l:=[]) BU (by intro p h;exact absurd h (by simp)) lg (by kernel_rfl) fun T us x v k d s a=>?_;change us.length=1 at k;obtain⟨b,-⟩:=s;replace b:(S T 0).size<=140737488355328:=b;have w:aS us 0=S T 0:=inS v k (by decide);clear x;rw[ti,ti,ti] at a;have g:=a.left;replace a:=a.right;have i:=a.left;replace a:=a.right;have c:=a.left;replace a:=a.right;obtain⟨o,e⟩:=AN d (by kernel_rfl) g;obtain⟨A,j,y,z⟩:=gK b e c i;have t:=(AN (j.append e) (l:=Ez) (by kernel_rfl) c);obtain⟨r,d⟩:=t;clear g c i e j;obtain⟨q,u⟩:=At (R:=[.b]) (rs:=Zp) d (by kernel_rfl) a;have C:=oI b y z o r q;refine⟨⟨(fun _=>A),trivial⟩,u.trans ?_⟩;exact (lc (by show U.bool (B T 32)= .bool (Hw us);unfold Hw;rw[w];exact vD U.bool C) rfl)
def Fq:List U->Int:=fun us=>(Eh (aI us 0) (aI us 1) (aI us 2) (aS us 4) (aS us 5) (aI us 7) (aI us 8))
def Ey:AZ:={ sh:=[.agg [k64,k64,k64,.bool,.str,.str,.bool,k64,k64]],blks:=[],outs:=[(.s "rCheckSh.0",Bm Fq)],c:=(DK 9),m':=[],pre:=[] }
def VH:List En:=[⟨9,.le,[.c (.int 0),.e 0]⟩,
 vh 10 9,
 ⟨11,.le,[.e 0,.c (.int 1099511627776)]⟩,
 vK 12 9 11,
 vh 13 12,
 ⟨14,.lt,[.e 1,.c (.int 0)]⟩,
 ⟨15,.or,[.n 12,.e 14]⟩,
 vQ 16 15,
 ⟨17,.lt,[.c (.int 1048576),.e 1]⟩,
 vN 18 15 17,
 vQ 19 18,
 ⟨20,.le,[.c (.int 0),.e 2]⟩,
 vK 21 19 20,
 ⟨22,.le,[.e 2,.c (.int 1099511627776)]⟩,
 vK 23 20 22,
 ⟨24,.or,[.e 18,.n 23]⟩]
def Uh:List En:=[vQ 25 24,
 ⟨26,.outB "xnamed.0" Hw,[.e 4]⟩,
 ⟨27,.or,[.e 24,.n 26]⟩,
 vQ 28 27,
 ⟨29,.outB "xnamed.0" Hw,[.e 5]⟩,
 ⟨30,.or,[.e 27,.n 29]⟩,
 vQ 31 30,
 ⟨32,.eqs [.s],[.e 4,.e 5]⟩,
 vN 33 30 32,
 vQ 34 33,
 ⟨35,.lt,[.e 8,.c (.int 0)]⟩,
 vM 36 34 35,
 vO 37 7 8,
 vN 38 35 37,
 vM 39 34 38,
 ⟨40,.lt,[.c (.int 26),.e 7]⟩]
def Up:List En:=[vN 41 38 40,
 vK 42 34 41,
 vM 43 34 41,
 ⟨44,.ite .i,[.e 42,.c (.int 2),.c (.int 0)]⟩,
 vN 45 42 43,
 ⟨46,.ite .i,[.e 33,.c (.int 2),.e 44]⟩,
 vN 47 33 45]
def QC:List En:=VH++(Uh++(Up))
def g9:List ObE:=[]
def S9:List Rf:=[.e 46]
theorem fm:Ey.sees S9 (Ey.run Try.prog [(64,Ie)] Aa 3000 20 22)=some ((QC).map En.be,g9.map ObE.be,[]):=by kernel_rfl
theorem fK (P:(S T 4).size<=140737488355328)(Q:(S T 5).size<=140737488355328)(b:AF T QC):
  ((I T 46)=(Eh (I T 0) (I T 1) (I T 2) (S T 4) (S T 5) (I T 7) (I T 8))):=by
 obtain⟨j,b⟩:=b.cut;obtain⟨k,b⟩:=b.cut;have l:=b;clear b
 .obtain⟨N,-,o,p,-,q,r,-,s,t,-,u,-,v,w,x,-⟩:=j;obtain⟨-,c,y,-,d,z,-,A,C,D,E,-,F,H,-,J,-⟩:=k;obtain⟨K,M,-,e,-,g,-⟩:=l;replace c:B T 26=(Ch (S T 4)):=c;replace d:B T 29=(Ch (S T 5)):=d;simp only[AE,AI,zN,zR,DU,and_true,zL,zS] at N o p q r s t u v w x y z A C D E F H J K M e g;unfold Eh;rw[g,e];have i:((B T 33)=true\/B T 42=true)↔¬(In (I T 0) 0 1099511627776&&In (I T 2) 0 1099511627776&&In (I T 1) 0 1048576&&Ch (S T 4)&&Ch (S T 5)&& !decide ((S T 4)=S T 5)&&decide (0<=I T 8)&&decide ((I T 8)<=I T 7)&&decide ((I T 7)<=26))=true:=by
   rw[<-c,<-d];simp only[tV,Ny,Bool.not_eq_true',decide_eq_false_iff_not,decide_eq_true_eq];clear c d g e;grind
  by_cases h:(B T 33)=true
  .rw[vC h,vA (i.1 (.inl h))]
  .rw[vA h];by_cases O:(B T 42)=true
   .rw[vC O,vA (i.1 (.inr O))]
   .rw[vA O,vC (uc fun a=>(i.2 a).elim h O)]
theorem RU:Ae Try.prog 22 Ey:=by
 refine Aq (l:=[(64,Ie)]) BU (by simp only[uA];exact⟨lI,fun _ h=>absurd h (by simp)⟩) fm (by kernel_rfl) fun T us v b a k g i=>?_;change us.length=9 at a;obtain⟨-,-,-,c,d,-⟩:=g;replace c:(S T 4).size<=140737488355328:=c;replace d:(S T 5).size<=140737488355328:=d;have o:aI us 0=I T 0:=inI b a (by decide);have p:aI us 1=I T 1:=inI b a (by decide);have q:aI us 2=I T 2:=inI b a (by decide);have r:aS us 4=S T 4:=inS b a (by decide);have s:aS us 5=S T 5:=inS b a (by decide);have t:aI us 7=I T 7:=inI b a (by decide);have u:aI us 8=I T 8:=inI b a (by decide);clear v
 skip
 obtain⟨e,j⟩:=At (R:=[.i]) (rs:=S9) k (by kernel_rfl) i;have w:=fK c d e;refine⟨trivial,j.trans ?_⟩;exact (lc (by show U.int (I T 46)= .int (Fq us);unfold Fq;rw[o,p,q,r,s,t,u];exact vD U.int w) rfl)
def Ht:List U->Bool:=fun us=>(CT (aL us 0))
def Fu:AZ:={ sh:=[.one (.list [k64,k64,k64,.bool,.str,.str,.bool,k64,k64])],blks:=[],outs:=[(.s "soundB.0",JM Ht)],c:= .b 1,m':=[],pre:=[] }
def Xc:List En:=[⟨1,.id .l,[.c (.list [])]⟩,
 vT 2 0]
def Kg:List En:=Xc
def aD:List En:=[vO 5 3 2,
 vQ 6 5,
 vU 7 0 3,
 vP 8 0 3,
 vR 9 0 3,
 vX 10 0 3,
 vV 11 0 3,
 vW 12 0 3,
 vY 13 0 3,
 vZ 14 0 3,
 vd 15 0 3,
 ⟨16,.mget .i 2 0 [.i,.i],[.e 4,.c (.int 0),.e 7,.e 8]⟩,
 ⟨17,.mget .i 2 1 [.i,.i],[.e 4,.c (.int 0),.e 7,.e 8]⟩,
 ⟨18,.mget .i 2 2 [.i,.i],[.e 4,.c (.int 0),.e 7,.e 8]⟩,
 ⟨19,.mget .b 2 3 [.i,.i],[.e 4,.c (.bool false),.e 7,.e 8]⟩,
 ⟨20,.mget .s 2 4 [.i,.i],[.e 4,.c (.str ⟨#[]⟩),.e 7,.e 8]⟩]
def aK:List En:=[⟨21,.mget .s 2 5 [.i,.i],[.e 4,.c (.str ⟨#[]⟩),.e 7,.e 8]⟩,
 ⟨22,.mget .b 2 6 [.i,.i],[.e 4,.c (.bool false),.e 7,.e 8]⟩,
 ⟨23,.mget .i 2 7 [.i,.i],[.e 4,.c (.int 0),.e 7,.e 8]⟩,
 ⟨24,.mget .i 2 8 [.i,.i],[.e 4,.c (.int 0),.e 7,.e 8]⟩,
 ⟨25,.mhas 2 [.i,.i],[.e 4,.e 7,.e 8]⟩,
 vK 26 5 25,
 ⟨27,.nes [.i,.i,.i,.b,.s,.s,.b,.i,.i],[.e 16,.e 7,.e 17,.e 8,.e 18,.e 9,.e 19,.e 10,.e 20,.e 11,.e 21,.e 12,.e 22,.e 13,.e 23,.e 14,.e 24,.e 15]⟩,
 vK 28 25 27,
 vK 29 5 28,
 vM 30 5 28,
 ⟨31,.mset 2 [.i,.i,.i,.i,.i,.b,.s,.s,.b,.i,.i],[.e 4,.e 7,.e 8,.e 7,.e 8,.e 9,.e 10,.e 11,.e 12,.e 13,.e 14,.e 15]⟩,
 ⟨32,.w2 .i64 .add,[.e 3,.c (.int 1)]⟩]
def E6:List En:=aD++(aK)
def TC:List ObE:=[⟨some 30,.fits 1,[.e 4,.c (.list [[]])]⟩,⟨some 5,.inl,[.e 3,.e 0]⟩]
def J3:Ac:=mkD 3 2 E6 30 [.e 32,.e 31] TC [0,2]
def Oq:List Rf:=[.e 0,.e 2,.c (.int 0),.e 1]
def X3:List En:=[⟨33,.ite .b,[.e 29,.c (.bool false),.c (.bool true)]⟩,
 vN 34 29 6]
def T8:List En:=X3
def oA:List ObE:=[⟨none,.owes J3,[.e 0,.e 2,.c (.int 0),.e 1]⟩]
def Y2:List Rf:=[.e 33]
theorem pG:Fu.sees Y2 (Fu.run Try.prog [] Aa 3000 20 85)=some ((Kg++((Ag J3 [.i,.l] Oq)++(E6++(T8)))).map En.be,oA.map ObE.be,[]):=by kernel_rfl
theorem bN (g:wK T)(e:∀u∈(L T 0),AK AD KB u)(a:AF T Kg):
  ((I T 2)=((L T 0)).length)/\((L T 1)=[]):=by
 have b:=a;clear a;have O:(I T 2)=((L T 0)).length:=by
  obtain⟨-,d,-⟩:=b;simp only[AE,zR,zL] at d;exact d
 have C:(L T 1)=[]:=by
  obtain⟨c,-⟩:=b;simp only[AE,zR,zL,zS] at c;exact c
 exact⟨O,C⟩
abbrev vr(T:Tab)(a:Int)(b:List (List U)):Prop:=0<=a/\a <=((L T 0)).length/\b.length<=a/\Ci [] ((L T 0))=Ci b (((L T 0)).drop a.toNat)
theorem fx (bt:wK T)(bc:∀u∈(L T 0),AK AD KB u)(O:(I T 2)=((L T 0)).length)(C:(L T 1)=[])(M:AJ T (AM (Ak 0 Fu.ks) Kg))(F:AU T (E6.map En.be))(K:AU T ((Ag J3 [.i,.l] Oq).map En.be)):
  (J3).owes (Oq.map (Rf.eval T))/\AJ T (hds 3 [.i,.l])/\(vr T (I T 3) (L T 4))/\¬B T 30=true:=by
 refine Ax (nh:=3) (k:=2) (pcn:=30) (aO:=33) (y:=E6) (J:=TC) (nxt:=[.e 32,.e 31]) (H:=[.c (.int 0),.e 1]) (fv:=[0,2]) (R:=[.i,.l]) (by kernel_rfl) rfl rfl rfl rfl M (by kernel_rfl) (by kernel_rfl) F (Ai K) (fun s=>vr T (aI s 0) (aL s 1)) (fun s=>(((L T 0)).length - (aI s 0)).toNat) ?_ ?_
 .show vr T (0:Int) (L T 1);clear M F K;exact⟨by omega,by omega,by rw[C];exact uf _,by rw[C,show (0:Int).toNat=0 from rfl,List.drop_zero]⟩
 .intro A P e g;replace g:vr T (I A 3) (L A 4):=g;clear M F K;replace e:AF A E6:=e;obtain⟨l,e⟩:=e.cut;have E:=e;clear e;have a5:L A 0=L T 0:=fvL (P 0 (by decide));have z:I A 2=I T 2:=fvI (P 2 (by decide));clear P
  suffices hz:(B A 30=true->(((L A 4)).length+(([[]]:List (List U))).length)*1<=140737488355328)/\(B A 5=true->0<=I A 3/\I A 3 < ((L A 0)).length)/\(B A 30=true->(vr T (I A 32) (L A 31)))/\(B A 30=true->(((L T 0)).length - (I A 32)).toNat < (((L T 0)).length - (I A 3)).toNat) from
   let⟨r0,ax,nx,mz⟩:=hz;⟨⟨r0,ax,trivial⟩,fun b=>⟨nx b,mz b⟩⟩
  refine⟨?_,?_,?_,?_⟩
  .obtain⟨a,-⟩:=l;obtain⟨-,-,-,-,-,-,-,-,-,c,-⟩:=E;simp only[AE,AI,zN,zR] at a c;obtain⟨Q,V,W,D⟩:=g;intro b;have d:=a.1 (c.1 b).1;rw[z] at d;show (((L A 4)).length+1)*1<=_;omega
  .obtain⟨a,-⟩:=l;simp only[AE,zR] at a;obtain⟨Q,V,W,D⟩:=g;intro b;have d:=a.1 b;rw[z] at d;rw[a5];omega
  .obtain⟨a,-,i,j,x,o,p,q,r,t,w,X,Y,Z,ab,ad,-⟩:=l;obtain⟨ag,al,ao,a0,a1,-,a2,a3,-,c,a4,h,-⟩:=E;simp only[AE,AI,zN,zC,zR,DU,and_true,w2P,zL,zS,uR,zW] at a i j x o p q r t w X Y Z ab ad ag al ao a0 a1 a2 a3 c a4 h;obtain⟨Q,V,W,D⟩:=g;intro b;have a6:=c.1 b;have d:=a.1 a6.1;rw[z] at d;have ba:=h (by omega) (by omega);have a9:(I A 3).toNat < ((L T 0)).length:=by omega
   rw[a5] at i j x o p q r t w;have hu:=bc _ (Az a9);have hk:[U.int (I A 7),U.int (I A 8)]=CG (((L T 0)).getD (I A 3).toNat []):=by rw[i,j];rfl
   have a7:(L A 31)=BG 2 ((L A 4)) (CG (((L T 0)).getD (I A 3).toNat [])) (((L T 0)).getD (I A 3).toNat []):=by
    rw[a4];show BG 2 _ [U.int (I A 7),U.int (I A 8)] [U.int (I A 7),U.int (I A 8),U.int (I A 9),U.bool (B A 10),U.str (S A 11),U.str (S A 12),U.bool (B A 13),U.int (I A 14),U.int (I A 15)]=_;rw[hk,i,j,x,o,p,q,r,t,w];exact vD (BG 2 _ _) (FI hu)
   have N:¬JI ((L A 4)) (((L T 0)).getD (I A 3).toNat [])=true:=fun N=>by
    have bb:(B A 28)=true:=(ZK (a3.trans (and_congr a1 a2)) hk X Y Z ab ad ag al ao a0 i j x o p q r t w).2 N;simp[bb] at a6
   refine⟨by omega,by omega,?_,?_⟩
   .rw[a7];have:=J9 (G:=2) (m:=L A 4) (k:=CG (((L T 0)).getD (I A 3).toNat [])) (v:=((L T 0)).getD (I A 3).toNat []);omega
   .rw[D,Q4 a9,vA N,a7,ba,show ((I A 3)+1).toNat=(I A 3).toNat+1 by omega]
  .obtain⟨a,-⟩:=l;obtain⟨-,-,-,-,-,-,-,-,-,c,-,h,-⟩:=E;simp only[AE,AI,zN,zR,w2P] at a c h;obtain⟨Q,V,W,D⟩:=g;intro b;have d:=a.1 (c.1 b).1;rw[z] at d;have ba:=h (by omega) (by omega);omega
theorem pJ (a4:wK T)(a3:∀u∈(L T 0),AK AD KB u)(O:(I T 2)=((L T 0)).length)(C:(L T 1)=[])(al:vr T (I T 3) (L T 4))(a1:¬B T 30=true)(i:AF T Kg)(b:AF T E6)(j:AF T T8):
  ((B T 33)=(CT (L T 0))):=by
 have V:=i;clear i;obtain⟨W,b⟩:=b.cut;have X:=b;clear b;have Y:=j;clear j
 .obtain⟨-,Z,-⟩:=V;obtain⟨d,-,e,g,M,k,l,o,p,q,r,s,t,v,w,x,-⟩:=W;obtain⟨y,z,A,D,E,-,F,H,c,J,-⟩:=X;obtain⟨K,-⟩:=Y;simp only[AE,AI,zN,zC,zR,DU,and_true,zL,zS,uR,zW] at Z d e g M k l o p q r s t v w x y z A D E F H c J K;obtain⟨v1,v2,v3,v4⟩:=al;unfold CT;rw[v4];refine Bool.eq_iff_iff.2 ?_;rw[K];by_cases P:(I T 3) < I T 2
  .have Q:=d.2 P;have ag:(I T 3).toNat < ((L T 0)).length:=by omega
   have N:(B T 28)=true:=by
    by_cases h:(B T 28)=true
    .exact h
    .exact absurd (J.2 ⟨Q,by simpa using h⟩) a1
   have hk:[U.int (I T 7),U.int (I T 8)]=CG (((L T 0)).getD (I T 3).toNat []):=by rw[e,g];rfl
   have hc:JI ((L T 4)) (((L T 0)).getD (I T 3).toNat [])=true:=(ZK (H.trans (and_congr E F)) hk s t v w x y z A D e g M k l o p q r).1 N;rw[Q4 ag,vC hc];have:=c.2 ⟨Q,N⟩;simp[this]
  .have n5:¬B T 5=true:=fun a=>P (d.1 a);have ao:¬B T 29=true:=fun a=>n5 (c.1 a).1;rw[show (I T 3).toNat=((L T 0)).length by omega,List.drop_length];simp[ao,Ci]
theorem Vw:Ae Try.prog 85 Fu:=by
 refine Aq (l:=[]) BU (by intro p h;exact absurd h (by simp)) pG (by kernel_rfl) fun T us D y r d v a=>?_;change us.length=1 at r;obtain⟨⟨b,A⟩,-⟩:=v;replace b:(L T 0).length<=140737488355328:=b;have g:∀u∈(L T 0),AK AD KB u:=fun u E=>by
  obtain⟨i,Y⟩:=uH.1 E;exact A i u Y
 have z:aL us 0=L T 0:=inL y r (by decide);clear D;rw[ti,ti,ti] at a;have k:=a.left;replace a:=a.right;have o:=a.left;replace a:=a.right;have c:=a.left;replace a:=a.right;obtain⟨j,e⟩:=AN d (by kernel_rfl) k;obtain⟨O,C⟩:=bN b g j;obtain⟨J,q,F,H⟩:=fx b g O C e c o;have w:=(AN (q.append e) (l:=E6) (by kernel_rfl) c);obtain⟨t,d⟩:=w;clear k c o e q;obtain⟨s,x⟩:=At (R:=[.b]) (rs:=Y2) d (by kernel_rfl) a;have K:=pJ b g O C F H j t s;refine⟨⟨(fun _=>J),trivial⟩,x.trans ?_⟩;exact (lc (by show U.bool (B T 33)= .bool (Ht us);unfold Ht;rw[z];exact vD U.bool K) rfl)
def Et:List U->Int:=fun us=>(AO (aL us 0))
def Dy:AZ:={ sh:=[.one (.list [k64,k64,k64,.bool,.str,.str,.bool,k64,k64])],blks:=[],outs:=[(.s "checkL.0",Bm Et)],c:=(DK 1),m':=[],pre:=[] }
def XL:List En:=[vT 1 0,
 ⟨2,.lt,[.c (.int 200),.e 1]⟩,
 vQ 3 2,
 vT 4 0]
def Jw:List En:=XL
def Yu:List En:=[vO 6 5 4,
 vK 7 3 6,
 vM 8 3 6,
 vU 9 0 5,
 vP 10 0 5,
 vR 11 0 5,
 vX 12 0 5,
 vV 13 0 5,
 vW 14 0 5,
 vY 15 0 5,
 vZ 16 0 5,
 vd 17 0 5,
 ⟨18,.outI "checkSh.0" Gh,[.e 9,.e 10,.e 11,.e 12,.e 13,.e 14,.e 15,.e 16,.e 17]⟩,
 ⟨19,.ne,[.e 18,.c (.int 0)]⟩,
 vK 20 7 19,
 vM 21 7 19]
def aU:List En:=[⟨22,.w2 .i64 .add,[.e 5,.c (.int 1)]⟩]
def Es:List En:=Yu++(aU)
def UM:List ObE:=[⟨some 7,.inl,[.e 5,.e 0]⟩]
def Jv:Ac:=mkD 5 1 Es 21 [.e 22] UM [0,3,4]
def O2:List Rf:=[.e 0,.e 3,.e 4,.c (.int 0)]
def Zd:List En:=[⟨23,.ite .i,[.e 20,.e 5,.c (.int (-1))]⟩,
 vN 24 20 8,
 ⟨25,.le,[.c (.int 0),.e 23]⟩,
 vK 26 3 25,
 vM 27 3 25,
 ⟨28,.outB "soundB.0" Ht,[.e 0]⟩,
 vK 29 27 28,
 vM 30 27 28,
 ⟨31,.ite .i,[.e 25,.c (.int 2),.c (.int 12)]⟩,
 vN 32 26 30,
 ⟨33,.ite .i,[.e 2,.c (.int 6),.e 31]⟩,
 vN 34 2 32,
 ⟨35,.ite .i,[.e 34,.e 33,.c (.int 0)]⟩,
 vN 36 34 29]
def St:List En:=Zd
def mM:List ObE:=[⟨some 3,.owes Jv,[.e 0,.e 3,.e 4,.c (.int 0)]⟩]
def Xk:List Rf:=[.e 35]
theorem mJ:Dy.sees Xk (Dy.run Try.prog [(43,Fj),(85,Fu)] Aa 3000 20 47)=some ((Jw++((Ag Jv [.i] O2)++(Es++(St)))).map En.be,mM.map ObE.be,[]):=by kernel_rfl
theorem bf (g:wK T)(e:∀u∈(L T 0),AK AD KB u)(a:AF T Jw):
  ((I T 4)=((L T 0)).length):=by
 have c:=a;clear a;have d:(I T 4)=((L T 0)).length:=by
  obtain⟨-,-,-,b,-⟩:=c;simp only[AE,zR,zL] at b;exact b
 exact d
abbrev vt(T:Tab)(a:Int):Prop:=0<=a/\a <=((L T 0)).length/\(((L T 0)).take a.toNat).all DV=true
theorem eE (a0:wK T)(h4:(I T 4)=((L T 0)).length)(E:AJ T (AM (Ak 0 Dy.ks) Jw))(C:AU T (Es.map En.be))(D:AU T ((Ag Jv [.i] O2).map En.be)):
  (Jv).owes (O2.map (Rf.eval T))/\AJ T (hds 5 [.i])/\(vt T (I T 5))/\¬B T 21=true:=by
 refine Ax (nh:=5) (k:=1) (pcn:=21) (aO:=23) (y:=Es) (J:=UM) (nxt:=[.e 22]) (H:=[.c (.int 0)]) (fv:=[0,3,4]) (R:=[.i]) (by kernel_rfl) rfl rfl rfl rfl E (by kernel_rfl) (by kernel_rfl) C (Ai D) (fun s=>vt T (aI s 0)) (fun s=>(((L T 0)).length - (aI s 0)).toNat) ?_ ?_
 .show vt T (0:Int);clear E C D;exact⟨by omega,by omega,by simp⟩
 .intro A l e j;replace j:vt T (I A 5):=j;clear E C D;replace e:AF A Es:=e;obtain⟨o,e⟩:=e.cut;have K:=e;clear e;have N:L A 0=L T 0:=fvL (l 0 (by decide));have al:B A 3=B T 3:=fvB (l 3 (by decide));have z:I A 4=I T 4:=fvI (l 4 (by decide));clear l
  suffices Z:(B A 7=true->0<=I A 5/\I A 5 < ((L A 0)).length)/\(B A 21=true->(vt T (I A 22)))/\(B A 21=true->(((L T 0)).length - (I A 22)).toNat < (((L T 0)).length - (I A 5)).toNat) from
   let⟨r0,nx,mz⟩:=Z;⟨⟨r0,trivial⟩,fun d=>⟨nx d,mz d⟩⟩
  refine⟨?_,?_,?_⟩
  .obtain⟨b,c,-⟩:=o;simp only[AE,AI,zR] at b c;obtain⟨Q,V,F⟩:=j;intro d;have i:=b.1 (c.1 d).2;rw[z] at i;rw[N];omega
  .obtain⟨b,c,-,x,p,q,-,r,t,-,u,v,w,M,-,g,-⟩:=o;obtain⟨h,-⟩:=K;replace w:I A 18=(Eh (I A 9) (I A 10) (I A 11) (S A 13) (S A 14) (I A 16) (I A 17)):=w;simp only[AE,AI,zN,zR,w2P,zL] at b c x p q r t u v M g h;obtain⟨Q,V,F⟩:=j;intro d;have P:=g.1 d;have i:=b.1 (c.1 P.1).2;rw[z] at i;have W:=h (by omega) (by omega);have Y:(I A 5).toNat < ((L T 0)).length:=by omega
   rw[N] at x p q r t u v;refine⟨by omega,by omega,?_⟩;rw[W,show ((I A 5)+1).toNat=(I A 5).toNat+1 by omega,Co Y,R2];refine⟨F,?_⟩;have X:¬ ¬I A 18=0:=fun a=>by
    have:=M.2 a;simp[this] at P
   have O:(I A 18)=0:=uc X;rw[w,x,p,q,r,t,u,v] at O;exact decide_eq_true O
  .obtain⟨b,c,-,-,-,-,-,-,-,-,-,-,-,-,-,g,-⟩:=o;obtain⟨h,-⟩:=K;simp only[AE,AI,zN,zR,w2P] at b c g h;obtain⟨Q,V,F⟩:=j;intro d;have i:=b.1 (c.1 (g.1 d).1).2;rw[z] at i;have W:=h (by omega) (by omega);omega
theorem mY (bj:wK T)(bi:∀u∈(L T 0),AK AD KB u)(h4:(I T 4)=((L T 0)).length)(a6:vt T (I T 5))(a9:¬B T 21=true)(w:AF T Jw)(c:AF T Es)(x:AF T St):
  ((I T 35)=(AO (L T 0))):=by
 have F0:=w;clear w;obtain⟨F1,c⟩:=c.cut;have F2:=c;clear c;have F3:=x;clear x
 .obtain⟨e,h,M,e4,-⟩:=F0;obtain⟨r,s,-,Q,y,z,-,A,D,-,E,F,g,H,i,J,-⟩:=F1;obtain⟨j,-,k,l,K,o,-,p,N,d,q,b,P,-⟩:=F3;replace g:I T 18=(Eh (I T 9) (I T 10) (I T 11) (S T 13) (S T 14) (I T 16) (I T 17)):=g;replace o:B T 28=(CT (L T 0)):=o;simp only[AE,AI,zN,zR,zL,zS] at e h M e4 r s Q y z A D E F H i J j k l K p N d q b P;obtain⟨v1,v2,v3⟩:=a6;unfold AO;rw[P];by_cases O:200 < ((L T 0)).length
  .have ao:=h.2 (by rw[e];omega);rw[vC O,vC (b.2 (.inl ao)),q,vC ao]
  .have ay:¬B T 2=true:=fun a=>by have:=h.1 a;rw[e] at this;omega
   have t:=M.2 (by simpa using ay);rw[vA O,q,vA ay,N];by_cases Z:(I T 5) < I T 4
   .have h7:=s.2 ⟨t,r.2 Z⟩;have V:(B T 19)=true:=by
     by_cases Y:(B T 19)=true
     .exact Y
     .exact absurd (J.2 ⟨h7,by simpa using Y⟩) a9
    have a4:(I T 5).toNat < ((L T 0)).length:=by omega
    have a5:¬((L T 0)).all DV=true:=fun a=>by
     have C:=of_decide_eq_true (uK.1 a _ (Az a4));have X:=H.1 V;rw[g,Q,y,z,A,D,E,F] at X;exact X C
    have W:(B T 25)=true:=k.2 (by rw[j,vC (i.2 ⟨h7,V⟩)];omega);rw[vC a5,vC (b.2 (.inr (d.2 (.inl (l.2 ⟨t,W⟩))))),vC W]
   .have n6:¬B T 6=true:=fun a=>Z (r.1 a);have a7:¬B T 20=true:=fun a=>n6 (s.1 (i.1 a).1).2;have v:¬B T 25=true:=fun a=>by have:=k.1 a;rw[j,vA a7] at this;omega
    have ei:(I T 5).toNat=((L T 0)).length:=by omega
    rw[ei,uz] at v3;have nv:¬ ¬((L T 0)).all DV=true:=fun a=>a v3;rw[vA nv,vA v,<-o];have a3:=K.2 ⟨t,by simpa using v⟩;by_cases aa:(B T 28)=true
    .rw[vC aa,vA];intro a;rcases b.1 a with a|a
     .exact ay a
     .rcases d.1 a with a|a
      .exact v (l.1 a).2
      .have:=(p.1 a).2;simp[aa] at this
    .rw[vA aa,vC (b.2 (.inr (d.2 (.inr (p.2 ⟨a3,by simpa using aa⟩)))))]
theorem Ly:Ae Try.prog 47 Dy:=by
 refine Aq (l:=[(43,Fj),(85,Fu)]) BU (by simp only[uA];exact⟨Tn,Vw,fun _ h=>absurd h (by simp)⟩) mJ (by kernel_rfl) fun T us C y r d v a=>?_;change us.length=1 at r;obtain⟨⟨b,A⟩,-⟩:=v;replace b:(L T 0).length<=140737488355328:=b;have q:∀u∈(L T 0),AK AD KB u:=fun u D=>by
  obtain⟨i,Y⟩:=uH.1 D;exact A i u Y
 have z:aL us 0=L T 0:=inL y r (by decide);clear C;rw[ti,ti,ti] at a;have k:=a.left;replace a:=a.right;have o:=a.left;replace a:=a.right;have c:=a.left;replace a:=a.right;obtain⟨g,e⟩:=AN d (by kernel_rfl) k;have j:=bf b q g;obtain⟨H,p,E,F⟩:=eE b j e c o;have w:=(AN (p.append e) (l:=Es) (by kernel_rfl) c);obtain⟨t,d⟩:=w;clear k c o e p;obtain⟨s,x⟩:=At (R:=[.i]) (rs:=Xk) d (by kernel_rfl) a;have J:=mY b q j E F g t s;refine⟨⟨(fun _=>H),trivial⟩,x.trans ?_⟩;exact (lc (by show U.int (I T 35)= .int (Et us);unfold Et;rw[z];exact vD U.int J) rfl)
def Ka:List U->List (List U):=fun us=>(Cn (aL us 0))
def IL:List U->Prop:=fun us=>((aL us 0)).length<=4
def IC:List U->Prop:=fun us=>(∀j:Nat,(G0 (aL us 0) j 0).length<=1000)
def E1:AZ:={ sh:=[.one (.list [.list [k64,k64,k64,.bool,.str,.str,.bool,k64,k64]])],blks:=[],outs:=[(.s "concat.0",Cw Ka)],c:= .ro 1 [k64,k64,k64,.bool,.str,.str,.bool,k64,k64],m':=[],pre:=[(.s "concat.p0",IL),(.s "concat.p1",IC)] }
def YG:List En:=[vT 1 0]
def GK:List En:=YG
def Zm:List En:=[vO 4 3 1,
 vQ 5 4,
 ⟨6,.get .l 0,[.e 0,.e 3]⟩,
 vT 7 6,
 ⟨8,.o2 .add,[.e 2,.e 7]⟩,
 ⟨9,.w2 .i64 .add,[.e 3,.c (.int 1)]⟩]
def Da:List En:=Zm
def TZ:List ObE:=[⟨some 4,.inl,[.e 3,.e 0]⟩,⟨none,.btw (0) (1000000),[.e 2]⟩]
def KN:Ac:=mkD 2 2 Da 4 [.e 8,.e 9] TZ [0,1]
def Ns:List Rf:=[.e 0,.e 1,.c (.int 0),.c (.int 0)]
def Z4:List En:=[⟨10,.lt,[.c (.int 0),.e 2]⟩,
 vK 11 5 10,
 ⟨12,.id .l,[.c (.list [])]⟩,
 vM 13 5 10,
 ⟨14,.ite .l,[.e 10,.e 12,.c (.list [])]⟩,
 vT 15 0]
def KW:List En:=Z4
def aQ:List En:=[vO 18 16 15,
 vK 19 5 18,
 vM 20 5 18,
 ⟨21,.get .l 0,[.e 0,.e 16]⟩,
 vl 22 17 21,
 ⟨23,.w2 .i64 .add,[.e 16,.c (.int 1)]⟩]
def E9:List En:=aQ
def To:List ObE:=[⟨some 19,.fits 88,[.e 17,.e 21]⟩,⟨some 19,.inl,[.e 16,.e 0]⟩]
def KF:Ac:=mkD 16 2 E9 19 [.e 23,.e 22] To [0,5,15]
def Ox:List Rf:=[.e 0,.e 5,.e 15,.c (.int 0),.e 14]
def df:List En:=[]
def lf:List ObE:=[⟨some 5,.owes KF,[.e 0,.e 5,.e 15,.c (.int 0),.e 14]⟩,
 ⟨some 11,.btw (0) (68719476736),[.e 2]⟩,
 ⟨none,.owes KN,[.e 0,.e 1,.c (.int 0),.c (.int 0)]⟩]
def Xh:List Rf:=[.e 17]
theorem lu:E1.sees Xh (E1.run Try.prog [] Aa 3000 20 84)=some ((GK++((Ag KN [.i,.i] Ns)++(Da++(KW++((Ag KF [.i,.l] Ox)++(E9++(df))))))).map En.be,lf.map ObE.be,[]):=by kernel_rfl
abbrev wM(T:Tab):Prop:=(∀j:Nat,(G0 (L T 0) j 0).length<=1000)
theorem aw (d:wK T)(e:((L T 0)).length<=4)(g:wM T)(a:AF T GK):
  ((I T 1)=((L T 0)).length):=by
 have c:=a;clear a;have C:(I T 1)=((L T 0)).length:=by
  obtain⟨b,-⟩:=c;simp only[AE,zR,zL] at b;exact b
 exact C
abbrev vu(T:Tab)(b:Int)(a:Int):Prop:=0<=a/\a <=((L T 0)).length/\0<=b/\b <=1000*a
abbrev wN(T:Tab):Prop:=(I T 1)=((L T 0)).length
theorem fz (P:((L T 0)).length<=4)(M:wM T)(C:wN T)(l:AJ T (AM (Ak 0 E1.ks) GK))(i:AU T (Da.map En.be))(j:AU T ((Ag KN [.i,.i] Ns).map En.be)):
  (KN).owes (Ns.map (Rf.eval T))/\AJ T (hds 2 [.i,.i])/\(vu T (I T 2) (I T 3))/\¬B T 4=true:=by
 refine Ax (nh:=2) (k:=2) (pcn:=4) (aO:=10) (y:=Da) (J:=TZ) (nxt:=[.e 8,.e 9]) (H:=[.c (.int 0),.c (.int 0)]) (fv:=[0,1]) (R:=[.i,.i]) (by kernel_rfl) rfl rfl rfl rfl l (by kernel_rfl) (by kernel_rfl) i (Ai j) (fun s=>vu T (aI s 0) (aI s 1)) (fun s=>(((L T 0)).length - (aI s 1)).toNat) ?_ ?_
 .show vu T (0:Int) (0:Int);clear l i j;exact⟨by omega,by omega,by omega,by omega⟩
 .intro A o g c;replace c:vu T (I A 2) (I A 3):=c;clear l i j;replace g:AF A Da:=g;have h:=g;clear g;have x:L A 0=L T 0:=fvL (o 0 (by decide));have O:I A 1=I T 1:=fvI (o 1 (by decide));clear o
  suffices E:(B A 4=true->0<=I A 3/\I A 3 < ((L A 0)).length)/\(0<=I A 2/\I A 2<=1000000)/\(B A 4=true->(vu T (I A 8) (I A 9)))/\(B A 4=true->(((L T 0)).length - (I A 9)).toNat < (((L T 0)).length - (I A 3)).toNat) from
   let⟨N,ax,K,F⟩:=E;⟨⟨N,(fun _=>ax),trivial⟩,fun b=>⟨K b,F b⟩⟩
  refine⟨?_,?_,?_,?_⟩
  .obtain⟨a,-⟩:=h;simp only[AE,zR] at a;obtain⟨p,q,r,t⟩:=c;intro b;have z:=a.1 b;rw[x];omega
  .obtain⟨p,q,r,t⟩:=c;omega
  .obtain⟨a,-,u,v,w,d,-⟩:=h;simp only[AE,zR,D1,w2P,zL] at a u v w d;obtain⟨p,q,r,t⟩:=c;intro b;have z:=a.1 b;have e:(I A 9)=I A 3+1:=d (by omega) (by omega);have D:=M (I A 3).toNat;rw[<-x,<-u] at D;have Q:True:=by have _:=w;have _:=v;trivial
   exact⟨by omega,by omega,by omega,by omega⟩
  .obtain⟨a,-,-,-,-,d,-⟩:=h;simp only[AE,zR,w2P] at a d;obtain⟨p,q,r,t⟩:=c;intro b;have z:=a.1 b;have e:(I A 9)=I A 3+1:=d (by omega) (by omega);omega
theorem bM (o:wK T)(r:((L T 0)).length<=4)(s:wM T)(C:wN T)(p:vu T (I T 2) (I T 3))(q:¬B T 4=true)(a:AF T GK)(c:AF T Da)(b:AF T KW):
  ((I T 15)=((L T 0)).length)/\((L T 14)=[]):=by
 have k:=a;clear a;have l:=c;clear c;have d:=b;clear b;have j:(I T 15)=((L T 0)).length:=by
  obtain⟨-,-,-,-,-,h,-⟩:=d;simp only[AE,zR,zL] at h;exact h
 have i:(L T 14)=[]:=by
  obtain⟨-,-,e,-,g,-⟩:=d;simp only[AE,AI,zR,zL,zS] at e g;rw[g,e];split<;>rfl
 exact⟨j,i⟩
abbrev vw(T:Tab)(a:Int)(b:List (List U)):Prop:=0<=a/\a <=((L T 0)).length/\b=Cn (((L T 0)).take a.toNat)
theorem eP (V:((L T 0)).length<=4)(z:wM T)(O:(I T 15)=((L T 0)).length)(C:(L T 14)=[])(u:AJ T (AM (AM (hds 2 [.i,.i]++(AM (Ak 0 E1.ks) GK)) Da) KW))(r:AU T (E9.map En.be))(t:AU T ((Ag KF [.i,.l] Ox).map En.be)):
  (KF).owes (Ox.map (Rf.eval T))/\AJ T (hds 16 [.i,.l])/\(vw T (I T 16) (L T 17))/\¬B T 19=true:=by
 refine Ax (nh:=16) (k:=2) (pcn:=19) (aO:=24) (y:=E9) (J:=To) (nxt:=[.e 23,.e 22]) (H:=[.c (.int 0),.e 14]) (fv:=[0,5,15]) (R:=[.i,.l]) (by kernel_rfl) rfl rfl rfl rfl u (by kernel_rfl) (by kernel_rfl) r (Ai t) (fun s=>vw T (aI s 0) (aL s 1)) (fun s=>(((L T 0)).length - (aI s 0)).toNat) ?_ ?_
 .show vw T (0:Int) (L T 14);clear u r t;exact⟨by omega,by omega,by rw[C];rfl⟩
 .intro A o l d;replace d:vw T (I A 16) (L A 17):=d;clear u r t;replace l:AF A E9:=l;have j:=l;clear l;have p:L A 0=L T 0:=fvL (o 0 (by decide));have N:B A 5=B T 5:=fvB (o 5 (by decide));have M:I A 15=I T 15:=fvI (o 15 (by decide));clear o
  suffices D:(B A 19=true->(((L A 17)).length+((L A 21)).length)*88<=140737488355328)/\(B A 19=true->0<=I A 16/\I A 16 < ((L A 0)).length)/\(B A 19=true->(vw T (I A 23) (L A 22)))/\(B A 19=true->(((L T 0)).length - (I A 23)).toNat < (((L T 0)).length - (I A 16)).toNat) from
   let⟨K,ax,F,E⟩:=D;⟨⟨K,ax,trivial⟩,fun c=>⟨F c,E c⟩⟩
  refine⟨?_,?_,?_,?_⟩
  .obtain⟨a,b,-,g,-⟩:=j;simp only[AE,AI,zR,zL] at a b g;obtain⟨v,w,i⟩:=d;intro c;have q:=a.1 (b.1 c).2;have Q:=z (I A 16).toNat;have P:=S6 z (I A 16).toNat (by omega);rw[i,g,p];omega
  .obtain⟨a,b,-⟩:=j;simp only[AE,AI,zR] at a b;obtain⟨v,w,i⟩:=d;intro c;have q:=a.1 (b.1 c).2;rw[p];omega
  .obtain⟨a,b,-,g,x,h,-⟩:=j;simp only[AE,AI,zR,w2P,zL] at a b g x h;obtain⟨v,w,i⟩:=d;intro c;have q:=a.1 (b.1 c).2;have e:(I A 23)=I A 16+1:=h (by omega) (by omega);refine⟨by omega,by omega,?_⟩;rw[x,i,g,p,e,show ((I A 16)+1).toNat=(I A 16).toNat+1 by omega,RJ (by omega)]
  .obtain⟨a,b,-,-,-,h,-⟩:=j;simp only[AE,AI,zR,w2P] at a b h;obtain⟨v,w,i⟩:=d;intro c;have q:=a.1 (b.1 c).2;have e:(I A 23)=I A 16+1:=h (by omega) (by omega);omega
theorem nA (A:wK T)(D:((L T 0)).length<=4)(E:wM T)(C:wN T)(r:vu T (I T 2) (I T 3))(u:¬B T 4=true)(q:(I T 15)=((L T 0)).length)(y:(L T 14)=[])(s:vw T (I T 16) (L T 17))(v:¬B T 19=true)(a:AF T GK)(c:AF T Da)(b:AF T KW)(d:AF T E9):
  ((L T 17)=(Cn (L T 0)))/\
  (B T 11=true->0<=I T 2/\I T 2<=68719476736):=by
 have x:=a;clear a;have l:=c;clear c;have o:=b;clear b;have p:=d;clear d;refine⟨?_,?_⟩
 .obtain⟨-,j,-⟩:=l;obtain⟨-,-,-,-,-,e,-⟩:=o;obtain⟨g,i,-⟩:=p;simp only[AE,AI,zR,zL] at j e g i;obtain⟨aJ,w,k⟩:=s;have t:¬B T 4=true:=u;have z:¬I T 16 < I T 15:=fun h=>v (i.2 ⟨j.2 (by simpa using t),g.2 h⟩);have q:=e;rw[k,List.take_of_length_le (by omega)]
 .obtain⟨aJ,w,k,F⟩:=r;intro h;omega
theorem jV:Ae Try.prog 84 E1:=by
 refine Aq (l:=[]) BU (by intro p h;exact absurd h (by simp)) lu (by kernel_rfl) fun T us u J z g F a=>?_;change us.length=1 at z;obtain⟨⟨k,W⟩,-⟩:=F;replace k:(L T 0).length<=140737488355328:=k;have t:aL us 0=L T 0:=inL J z (by decide);have o:((L T 0)).length<=4:=by
  have h:=u (.s "concat.p0",IL) (by simp[E1]);change IL us at h;unfold IL at h;simp only[t] at h;exact h
 have q:(∀j:Nat,(G0 (L T 0) j 0).length<=1000):=by
  have h:=u (.s "concat.p1",IC) (by simp[E1]);change IC us at h;unfold IC at h;simp only[t] at h;exact h
 clear u;rw[ti,ti,ti,ti,ti,ti] at a;have d:=a.left;replace a:=a.right;have e:=a.left;replace a:=a.right;have b:=a.left;replace a:=a.right;obtain⟨r,c⟩:=AN g (by kernel_rfl) d;have C:=aw k o q r;obtain⟨N,i,A,D⟩:=fz o q C c b e;have s:=(AN (i.append c) (l:=Da) (by kernel_rfl) b);obtain⟨w,g⟩:=s;clear d b e c i;have d:=a.left;replace a:=a.right;have e:=a.left;replace a:=a.right;have b:=a.left;replace a:=a.right;obtain⟨v,c⟩:=AN g (by kernel_rfl) d;obtain⟨y,x⟩:=bM k o q C A D r w v;obtain⟨O,i,K,M⟩:=eP o q y x c b e;have s:=(AN (i.append c) (l:=E9) (by kernel_rfl) b);obtain⟨E,g⟩:=s;clear d b e c i;obtain⟨V,H⟩:=At (R:=[.l]) (rs:=Xh) g (by kernel_rfl) a;obtain⟨P,Q⟩:=nA k o q C A D y x K M r w v E;refine⟨⟨(fun _=>O),Q,(fun _=>N),trivial⟩,H.trans ?_⟩;exact (lc (by show U.list (L T 17)= .list (Ka us);unfold Ka;rw[t];exact vD U.list P) rfl)
def MA:List U->List (List U):=fun us=>(Ji (aL us 0) (aL us 1))
def L3:List U->Int:=fun us=>(Fr (aL us 0) (aL us 1))
def Kr:AZ:={ sh:=[.one (.list [k64,k64,k64,.bool,.str,.str,.bool,k64,k64]),.one (.list [k64,k64,k64,.bool,.str,.str,.bool,k64,k64])],blks:=[],outs:=[(.s "Merge.0",Cw MA),(.s "Merge.1",Bm L3)],c:= .tup [.ro 2 [k64,k64,k64,.bool,.str,.str,.bool,k64,k64],(DK 3)],m':=[],pre:=[] }
def ak:List En:=[⟨2,.outI "checkL.0" Et,[.e 0]⟩,
 ⟨3,.ne,[.e 2,.c (.int 0)]⟩,
 vQ 4 3,
 ⟨5,.outI "checkL.0" Et,[.e 1]⟩,
 ⟨6,.ne,[.e 5,.c (.int 0)]⟩,
 vK 7 4 6,
 vM 8 4 6,
 vf 9 3 0 1,
 ve 10 3 2 5,
 ⟨11,.ite .i,[.e 3,.c (.int 0),.c (.int 1)]⟩,
 ve 12 3 2 5,
 vn 13 3 3 6,
 vN 14 3 7,
 ⟨15,.id .l,[.c (.list [])]⟩,
 ⟨16,.row 2 1 [.l,.l],[.e 0,.e 1]⟩,
 ⟨17,.outL "concat.0" Ka,[.e 16]⟩]
def bL:List En:=[vT 18 17,
 ⟨19,.id .l,[.c (.list [])]⟩]
def MM:List En:=ak++(bL)
def ai:List En:=[vO 23 20 18,
 vK 24 8 23,
 vM 25 8 23,
 vU 26 17 20,
 vP 27 17 20,
 vR 28 17 20,
 vX 29 17 20,
 vV 30 17 20,
 vW 31 17 20,
 vY 32 17 20,
 vZ 33 17 20,
 vd 34 17 20,
 ⟨35,.mget .b 9 0 [.i,.i,.i,.b,.s,.s,.b,.i,.i],[.e 21,.c (.bool false),.e 26,.e 27,.e 28,.e 29,.e 30,.e 31,.e 32,.e 33,.e 34]⟩,
 vK 36 24 35,
 vM 37 24 35,
 ⟨38,.mset 9 [.i,.i,.i,.b,.s,.s,.b,.i,.i,.b],[.e 21,.e 26,.e 27,.e 28,.e 29,.e 30,.e 31,.e 32,.e 33,.e 34,.c (.bool true)]⟩]
def aX:List En:=[⟨39,.row 1 9 [.i,.i,.i,.b,.s,.s,.b,.i,.i],[.e 26,.e 27,.e 28,.e 29,.e 30,.e 31,.e 32,.e 33,.e 34]⟩,
 vl 40 22 39,
 vf 41 35 21 38,
 vf 42 35 22 40,
 ⟨43,.ite .l,[.e 35,.c (.list []),.e 39]⟩,
 ⟨44,.w2 .i64 .add,[.e 20,.c (.int 1)]⟩]
def Fy:List En:=ai++(aX)
def Vu:List ObE:=[⟨some 37,.fits 88,[.e 22,.e 39]⟩,⟨some 37,.fits 1,[.e 21,.c (.list [[]])]⟩,⟨some 24,.inl,[.e 20,.e 17]⟩]
def MV:Ac:=mkD 20 3 Fy 24 [.e 44,.e 41,.e 42] Vu [17,8,18]
def QD:List Rf:=[.e 17,.e 8,.e 18,.c (.int 0),.e 15,.e 19]
def bG:List En:=[vT 45 22,
 ⟨46,.lt,[.c (.int 200),.e 45]⟩,
 vK 47 25 46,
 vM 48 25 46,
 ⟨49,.outB "soundB.0" Ht,[.e 22]⟩,
 vK 50 48 49,
 vM 51 48 49,
 ⟨52,.ite .i,[.e 46,.c (.int 6),.c (.int 12)]⟩,
 vN 53 47 51,
 ⟨54,.ite .i,[.e 53,.e 52,.c (.int 0)]⟩,
 ⟨55,.ite .l,[.e 53,.c (.list []),.e 22]⟩,
 vN 56 53 50,
 ⟨57,.ite .l,[.e 14,.c (.list []),.e 16]⟩,
 ⟨58,.ite .l,[.e 14,.c (.list []),.e 22]⟩,
 vf 59 14 9 1,
 ve 60 14 10 54]
def bp:List En:=[⟨61,.ite .i,[.e 14,.e 11,.c (.int 2)]⟩,
 ⟨62,.ite .l,[.e 14,.c (.list []),.e 55]⟩,
 ve 63 14 12 5,
 vn 64 14 13 6,
 ⟨65,.ite .b,[.e 14,.c (.bool true),.c (.bool false)]⟩,
 vN 66 14 56]
def VS:List En:=bG++(bp)
def qr:List ObE:=[⟨some 8,.owes MV,[.e 17,.e 8,.e 18,.c (.int 0),.e 15,.e 19]⟩,
 ⟨some 8,.pre "concat.p0" IL,[.e 16]⟩,
 ⟨some 8,.pre "concat.p1" IC,[.e 16]⟩]
def dM:List Rf:=[.e 62,.e 60]
theorem qU:Kr.sees dM (Kr.run Try.prog [(47,Dy),(85,Fu),(84,E1)] sJ 3000 20 44)=some ((MM++((Ag MV [.i,.l,.l] QD)++(Fy++(VS)))).map En.be,qr.map ObE.be,[]):=by kernel_rfl
theorem eL (N:wK T)(F:∀u∈(L T 0),AK AD KB u)(O:wL T)(H:∀u∈(L T 1),AK AD KB u)(b:AF T MM):
  ((I T 18)=((L T 17)).length)/\((L T 15)=[])/\((L T 19)=[])/\((L T 17)=L T 0++L T 1/\(∀u∈(L T 17),AK AD KB u)/\((L T 17)).length<=281474976710656)/\((B T 8)=true->AO (L T 0)=0/\AO (L T 1)=0/\((L T 17)).length<=400):=by
 obtain⟨c,b⟩:=b.cut;have o:=b;clear b;have E:(I T 18)=((L T 17)).length:=by
  obtain⟨q,-⟩:=o;simp only[AE,zR,zL] at q;exact q
 have z:(L T 15)=[]:=by
  obtain⟨-,-,-,-,-,-,-,-,-,-,-,-,-,p,-⟩:=c;simp only[AE,zR,zL,zS] at p;exact p
 have A:(L T 19)=[]:=by
  obtain⟨-,r,-⟩:=o;simp only[AE,zR,zL,zS] at r;exact r
 have x:(L T 17)=L T 0++L T 1/\(∀u∈(L T 17),AK AD KB u)/\((L T 17)).length<=281474976710656:=by
  obtain⟨-,-,-,-,-,-,-,-,-,-,-,-,-,-,i,j,-⟩:=c;replace j:L T 17=(Cn (L T 16)):=j;simp only[AE,AI,zR,zL,zS,uR,Bh,zW] at i;have h:=i;have e:(L T 17)=L T 0++L T 1:=by
   rw[j,i];exact rC _ _
  rw[e];exact⟨rfl,fun u J=>(uY.1 J).elim (F u) (H u),by rw[tq];omega⟩
 have y:(B T 8)=true->AO (L T 0)=0/\AO (L T 1)=0/\((L T 17)).length<=400:=by
  obtain⟨k,s,t,l,v,-,w,-⟩:=c;replace k:I T 2=(AO (L T 0)):=k;replace l:I T 5=(AO (L T 1)):=l;simp only[AE,AI,zN,zR] at s t v w;intro h;obtain⟨C,D⟩:=w.1 h;have K:¬B T 3=true:=by simpa using t.1 C
  have M:¬B T 6=true:=by simpa using D
  have d:(I T 2)=0:=uc fun a=>K (s.2 a);have g:(I T 5)=0:=uc fun a=>M (v.2 a);rw[k] at d;rw[l] at g;have:=EF d;have:=EF g;refine⟨d,g,?_⟩;rw[x.1,tq];omega
 exact⟨E,z,A,x,y⟩
abbrev vx(T:Tab)(a:Int)(c:List (List U))(b:List (List U)):Prop:=0<=a/\a <=((L T 17)).length/\b=ddS (((L T 17)).take a.toNat)/\c=mkT b
abbrev wO(T:Tab):Prop:=(L T 17)=L T 0++L T 1/\(∀u∈(L T 17),AK AD KB u)/\((L T 17)).length<=281474976710656
abbrev wP(T:Tab):Prop:=(B T 8)=true->AO (L T 0)=0/\AO (L T 1)=0/\((L T 17)).length<=400
theorem iE (X:(I T 18)=((L T 17)).length)(bj:(L T 15)=[])(bb:(L T 19)=[])(bc:wO T)(ba:wP T)(W:AJ T (AM (Ak 0 Kr.ks) MM))(Q:AU T (Fy.map En.be))(V:AU T ((Ag MV [.i,.l,.l] QD).map En.be)):
  (MV).owes (QD.map (Rf.eval T))/\AJ T (hds 20 [.i,.l,.l])/\(vx T (I T 20) (L T 21) (L T 22))/\¬B T 24=true:=by
 refine Ax (nh:=20) (k:=3) (pcn:=24) (aO:=45) (y:=Fy) (J:=Vu) (nxt:=[.e 44,.e 41,.e 42]) (H:=[.c (.int 0),.e 15,.e 19]) (fv:=[17,8,18]) (R:=[.i,.l,.l]) (by kernel_rfl) rfl rfl rfl rfl W (by kernel_rfl) (by kernel_rfl) Q (Ai V) (fun s=>vx T (aI s 0) (aL s 1) (aL s 2)) (fun s=>(((L T 17)).length - (aI s 0)).toNat) ?_ ?_
 .show vx T (0:Int) (L T 15) (L T 19);clear W Q V;exact⟨uf _,by omega,by rw[bb];rfl,by rw[bj,bb];rfl⟩
 .intro A C r p;replace p:vx T (I A 20) (L A 21) (L A 22):=p;clear W Q V;replace r:AF A Fy:=r;obtain⟨t,r⟩:=r.cut;have K:=r;clear r;have a8:L A 17=L T 17:=fvL (C 17 (by decide));have a9:B A 8=B T 8:=fvB (C 8 (by decide));have z:I A 18=I T 18:=fvI (C 18 (by decide));clear C
  suffices hz:(B A 37=true->(((L A 22)).length+((L A 39)).length)*88<=140737488355328)/\(B A 37=true->(((L A 21)).length+(([[]]:List (List U))).length)*1<=140737488355328)/\(B A 24=true->0<=I A 20/\I A 20 < ((L A 17)).length)/\(B A 24=true->(vx T (I A 44) (L A 41) (L A 42)))/\(B A 24=true->(((L T 17)).length - (I A 44)).toNat < (((L T 17)).length - (I A 20)).toNat) from
   let⟨r0,ax,aE,nx,mz⟩:=hz;⟨⟨r0,ax,aE,trivial⟩,fun b=>⟨nx b,mz b⟩⟩
  refine⟨?_,?_,?_,?_,?_⟩
  .obtain⟨-,a,-,-,-,-,-,-,-,-,-,-,-,-,v,-⟩:=t;obtain⟨q,-⟩:=K;simp only[AE,AI,zN,zR,zL,zS,uR,Bh,zW] at a v q;obtain⟨E,F,i,j⟩:=p;intro b;obtain⟨P,o⟩:=a.1 (v.1 b).1;have g:=(ba (by rw[<-a9];exact P)).2.2;have:=NK (l:=((L T 17)).take (I A 20).toNat);rw[uX] at this;rw[i,q];show ((ddS (((L T 17)).take (I A 20).toNat)).length+1)*88<=_;omega
  .obtain⟨-,a,-,-,-,-,-,-,-,-,-,-,-,-,v,-⟩:=t;simp only[AE,AI,zN,zR] at a v;obtain⟨E,F,i,j⟩:=p;intro b;obtain⟨P,o⟩:=a.1 (v.1 b).1;have g:=(ba (by rw[<-a9];exact P)).2.2;have:=NK (l:=((L T 17)).take (I A 20).toNat);rw[uX] at this;have e:((L A 21)).length=(ddS (((L T 17)).take (I A 20).toNat)).length:=by rw[j,i];unfold mkT;rw[List.length_map]
   rw[e];show ((ddS (((L T 17)).take (I A 20).toNat)).length+1)*1<=_;omega
  .obtain⟨d,a,-⟩:=t;simp only[AE,AI,zR] at d a;obtain⟨E,F,i,j⟩:=p;intro b;have o:=d.1 (a.1 b).2;rw[z] at o;have Y:(I T 18)=((L T 17)).length:=X;rw[a8];omega
  .obtain⟨d,a,-,ad,ag,al,ao,a0,a1,a2,a3,a4,a5,-,-,a6,-⟩:=t;obtain⟨q,N,a7,O,-,w,-⟩:=K;simp only[AE,AI,zC,zR,w2P,zL,zS,uR,Bh,zW] at d a ad ag al ao a0 a1 a2 a3 a4 a5 a6 q N a7 O w;obtain⟨E,F,i,j⟩:=p;obtain⟨p1,D,p3⟩:=bc;intro b;have o:=d.1 (a.1 b).2;have b1:=z;rw[z] at o;have Y:(I T 18)=((L T 17)).length:=X;have bi:=w (by omega) (by omega);have Z:(I A 20).toNat < ((L T 17)).length:=by omega
   have M:[U.int (I A 26),U.int (I A 27),U.int (I A 28),U.bool (B A 29),U.str (S A 30),U.str (S A 31),U.bool (B A 32),U.int (I A 33),U.int (I A 34)]=((L T 17)).getD (I A 20).toNat []:=by
    rw[ad,ag,al,ao,a0,a1,a2,a3,a4,a8];exact FI (D _ (Az Z))
   have hd:∀u∈(L A 22),AK AD KB u:=fun u x=>by rw[i] at x;exact D u (List.mem_of_mem_take (dG.1 x))
   have x:=D _ (Az Z);have ab:(B A 35)=true↔((L T 17)).getD (I A 20).toNat []∈(L A 22):=by
    rw[<-pj (show TyB ((L A 22)) from hd) x,<-j,<-M,a5];exact Iff.rfl
   refine⟨by omega,by omega,?_,?_⟩
   .rw[bi,show ((I A 20)+1).toNat=(I A 20).toNat+1 by omega,Zk Z,<-i,O];by_cases c:(B A 35)=true
    .rw[vC c,Zx (ab.1 c)]
    .rw[vA c,Us (fun h=>c (ab.2 h)),N,q];show (L A 22)++[[U.int (I A 26),U.int (I A 27),U.int (I A 28),U.bool (B A 29),U.str (S A 30),U.str (S A 31),U.bool (B A 32),U.int (I A 33),U.int (I A 34)]]=_;rw[M]
   .rw[a7,O];by_cases c:(B A 35)=true
    .rw[vC c,vC c,j]
    .rw[vA c,vA c,a6,N,q];show BG 9 ((L A 21)) [U.int (I A 26),U.int (I A 27),U.int (I A 28),U.bool (B A 29),U.str (S A 30),U.str (S A 31),U.bool (B A 32),U.int (I A 33),U.int (I A 34)] [.bool true]=mkT ((L A 22)++[[U.int (I A 26),U.int (I A 27),U.int (I A 28),U.bool (B A 29),U.str (S A 30),U.str (S A 31),U.bool (B A 32),U.int (I A 33),U.int (I A 34)]]);rw[M,j];exact pf (show TyB ((L A 22)) from hd) x (fun h=>c (ab.2 h))
  .obtain⟨d,a,-⟩:=t;obtain⟨-,-,-,-,-,w,-⟩:=K;simp only[AE,AI,zR,w2P] at d a w;obtain⟨E,F,i,j⟩:=p;obtain⟨p1,D,p3⟩:=bc;intro b;have o:=d.1 (a.1 b).2;rw[z] at o;have Y:(I T 18)=((L T 17)).length:=X;have bi:=w (by omega) (by omega);omega
theorem qK (b3:wK T)(b1:∀u∈(L T 0),AK AD KB u)(b4:wL T)(b2:∀u∈(L T 1),AK AD KB u)(ba:(I T 18)=((L T 17)).length)(bx:(L T 15)=[])(b0:(L T 19)=[])(bc:wO T)(a8:wP T)(bb:vx T (I T 20) (L T 21) (L T 22))(bj:¬B T 24=true)(A:AF T MM)(D:AF T Fy)(C:AF T VS):
  ((L T 62)=(Ji (L T 0) (L T 1)))/\
  ((I T 60)=(Fr (L T 0) (L T 1)))/\
  (B T 8=true->((L T 16)).length<=4)/\
  (B T 8=true->(∀j:Nat,(G0 (L T 16) j 0).length<=1000)):=by
 obtain⟨E,A⟩:=A.cut;have F1:=A;clear A;obtain⟨F2,D⟩:=D.cut;have F3:=D;clear D;obtain⟨F4,C⟩:=C.cut;have F5:=C;clear C;have a2:(B T 8)=true->B T 25=true/\L T 22=ddS ((L T 0)++L T 1):=by
  obtain⟨ag,al,ao,-⟩:=F2;simp only[AE,AI,zN,zR] at ag al ao;obtain⟨v1,v2,v3,v4⟩:=bb;obtain⟨p1,p2,p3⟩:=bc;intro h8;have Z:(B T 23)=false:=Bool.eq_false_iff.2 fun a9=>bj (al.2 ⟨h8,a9⟩);have h:¬I T 20 < I T 18:=fun h=>by have:=ag.2 h;rw[this] at Z;cases Z
  rw[ba] at h;refine⟨ao.2 ⟨h8,Z⟩,?_⟩;rw[v3,<-p1,show (I T 20).toNat=((L T 17)).length by omega,uz]
 have Y:(I T 60)=Fr (L T 0) (L T 1):=by
  obtain⟨d,t,v,e,x,k,y,-,q,-,-,-,c,-⟩:=E;obtain⟨O,P,Q,a0,F,-,V,r,H,w,-,-,-,-,-,i,-⟩:=F4;replace d:I T 2=(AO (L T 0)):=d;replace e:I T 5=(AO (L T 1)):=e;replace F:B T 49=(CT (L T 22)):=F;simp only[AE,AI,zN,zR,zL,zS] at t v x k y q c O P Q a0 V r H w i;have M:(B T 3)=true↔¬AO (L T 0)=0:=by rw[t,d]
  have N:(B T 6)=true↔¬AO (L T 1)=0:=by rw[x,e]
  unfold Fr;by_cases b:(B T 3)=true
  .rw[i,vC (c.2 (.inl b)),q,vC b,vC (M.1 b)];exact d
  .have a6:=uc fun a=>b (M.2 a);have z:=v.2 (by simpa using b);rw[vA (fun a=>a a6)];by_cases p:(B T 6)=true
   .rw[i,vC (c.2 (.inr (k.2 ⟨z,p⟩))),q,vA b,vC (N.1 p)];exact e
   .have a7:=uc fun a=>p (N.2 a);obtain⟨X,ab⟩:=a2 (y.2 ⟨z,by simpa using p⟩);rw[i,vA (fun h=>(c.1 h).elim b fun h=>p (k.1 h).2),vA (fun a=>a a7),<-ab,w];by_cases o:(B T 46)=true
    .have:=P.1 o;rw[O] at this;rw[vC (H.2 (.inl (Q.2 ⟨X,o⟩))),r,vC o,vC (by omega)]
    .have n:¬200 < I T 45:=fun a=>o (P.2 a);rw[O] at n;rw[vA (show¬200 < ((L T 22)).length by omega)];have bi:¬B T 47=true:=fun h=>o (Q.1 h).2;by_cases J:(B T 49)=true
     .rw[vA (fun h=>(H.1 h).elim bi fun h=>by have:=(V.1 h).2;rw[J] at this;cases this),vC (by rw[<-F];exact J)]
     .rw[vC (H.2 (.inr (V.2 ⟨a0.2 ⟨X,by simpa using o⟩,by simpa using J⟩))),r,vA o,vA (by rw[<-F];exact J)]
 refine⟨?_,?_,?_,?_⟩
 .obtain⟨d,t,v,e,x,k,y,-,q,-,-,-,c,-⟩:=E;obtain⟨-,-,-,-,-,-,-,r,-,w,a1,-,-,-,-,i,-⟩:=F4;obtain⟨-,W,-⟩:=F5;replace d:I T 2=(AO (L T 0)):=d;replace e:I T 5=(AO (L T 1)):=e;simp only[AE,AI,zN,zR,zL,zS] at t v x k y q c r w a1 i W;have M:(B T 3)=true↔¬AO (L T 0)=0:=by rw[t,d]
  have N:(B T 6)=true↔¬AO (L T 1)=0:=by rw[x,e]
  unfold Ji;by_cases l:(B T 14)=true
  .rw[W,vC l,vA];rw[<-Y,i,vC l,q];by_cases b:(B T 3)=true
   .rw[vC b,d];exact M.1 b
   .rw[vA b,e];exact N.1 (k.1 ((c.1 l).resolve_left b)).2
  .have b:¬B T 3=true:=fun h=>l (c.2 (.inl h));have z:=v.2 (by simpa using b);have p:¬B T 6=true:=fun h=>l (c.2 (.inr (k.2 ⟨z,h⟩)));obtain⟨X,ab⟩:=a2 (y.2 ⟨z,by simpa using p⟩);rw[W,vA l,<-ab,<-Y,i,vA l,a1,w];by_cases K:(B T 53)=true
   .rw[vC K,vC K,vA];rw[r];split<;>decide
   .rw[vA K,vA K,vC rfl]
 .exact Y
 .obtain⟨-,-,-,-,-,-,-,-,-,-,-,-,-,-,s,-⟩:=E;simp only[AE,AI,zR,zL,zS,uR,Bh,zW] at s;intro h;rw[s];show (2:Nat)<=4;decide
 .obtain⟨-,-,-,-,-,-,-,-,-,-,-,-,-,-,s,-⟩:=E;simp only[AE,AI,zR,zL,zS,uR,Bh,zW] at s;intro h;have g:=a8 h;have n0:=EF g.1;have am:=EF g.2.1;intro j;rw[s]
  match j with
  |0=>show ((L T 0)).length<=1000;omega
  |1=>show ((L T 1)).length<=1000;omega
  |j+2=>show (0:Nat)<=1000;omega
theorem mR:Ae Try.prog 44 Kr:=by
 refine Aq (l:=[(47,Dy),(85,Fu),(84,E1)]) BU (by simp only[uA];exact⟨Ly,Vw,jV,fun _ h=>absurd h (by simp)⟩) qU (by kernel_rfl) fun T us O w k e H a=>?_;change us.length=2 at k;obtain⟨⟨b,M⟩,⟨c,N⟩,-⟩:=H;replace b:(L T 0).length<=140737488355328:=b;have A:∀u∈(L T 0),AK AD KB u:=fun u j=>by
  obtain⟨i,Y⟩:=uH.1 j;exact M i u Y
 replace c:(L T 1).length<=140737488355328:=c;have C:∀u∈(L T 1),AK AD KB u:=fun u j=>by
  obtain⟨i,Y⟩:=uH.1 j;exact N i u Y
 have x:aL us 0=L T 0:=inL w k (by decide);have y:aL us 1=L T 1:=inL w k (by decide);clear O;rw[ti,ti,ti] at a;have s:=a.left;replace a:=a.right;have t:=a.left;replace a:=a.right;have d:=a.left;replace a:=a.right;obtain⟨o,g⟩:=AN e (by kernel_rfl) s;obtain⟨z,q,r,D,p⟩:=eL b A c C o;obtain⟨V,v,P,Q⟩:=iE z q r D p g d t;have J:=(AN (v.append g) (l:=Fy) (by kernel_rfl) d);obtain⟨F,e⟩:=J;clear s d t g v;obtain⟨E,K⟩:=At (R:=[.l,.i]) (rs:=dM) e (by kernel_rfl) a;obtain⟨W,X,Z,ax⟩:=qK b A c C z q r D p P Q o F E;refine⟨⟨(fun _=>V),Z,ax,trivial⟩,K.trans ?_⟩;exact (lc (by show U.list (L T 62)= .list (MA us);unfold MA;rw[x,y];exact vD U.list W) (lc (by show U.int (I T 60)= .int (L3 us);unfold L3;rw[x,y];exact vD U.int X) rfl))
end
end Go.Eng
end
