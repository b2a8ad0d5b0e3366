/-
  A part of the proof: the evaluator of code and its soundness.
-/
import Derived.Test.YtikbgnmcfncnaaaKB3
import Derived.Test.YtikbgnmcfncnaaaE4
import Derived.Test.YtikbgnmcfncnaaaE5
set_option linter.unusedVariables false
set_option linter.unusedSimpArgs false
noncomputable section
namespace Go.Eng
section
open Go Go.Eng Go.Proofs
set_option maxHeartbeats 4000000
set_option maxRecDepth 100000
theorem qG:D9.sees Yw (D9.run Try.prog [(61,Lq)] Bp 3000 20 20)=some ((Fj++((B5 LF [.i] O9)++(Df++(IX++((B5 LQ [.i] PA)++(G8++(UE))))))).map En.be,oG.map ObE.be,[]):=by kernel_rfl
abbrev yx(T:Tab)(a:Int):Prop:=0<=a/\a <=((L T 0)).length/\(((L T 0)).take a.toNat).all Dk=true
abbrev zP(T:Tab):Prop:=(L T 0).length<=140737488355328
variable{T:Tab}
theorem fB (V:zP T)(z:Ba T (Bh (CA 0 D9.ks) Fj))(x:Bi T (Df.map En.be))(y:Bi T ((B5 LF [.i] O9).map En.be)):
  (LF).owes (O9.map (Rf.eval T))/\Ba T (hds 4 [.i])/\(yx T (I T 4))/\¬B T 13=true:=by
 refine CK (nh:=4) (k:=1) (pcn:=13) (R:=16) (b:=Df) (K:=TY) (nxt:=[.e 15]) (H:=[.c (.int 0)]) (fv:=[0,3]) (A:=[.i]) (by kernel_rfl) rfl rfl rfl rfl z (by kernel_rfl) (by kernel_rfl) x (B6 y) (fun s=>yx T (aI s 0)) (fun s=>(((L T 0)).length - (aI s 0)).toNat) ?_ ?_
 .show yx T (0:Int);grind
 .intro J o h p;replace p:yx T (I J 4):=p;clear z x y;replace h:BV J Df:=h;have j:=h;clear h;have u:=fvL (o 0 (by decide));have Q:=fvB (o 3 (by decide));clear o
  suffices E:(B J 7=true->0<=I J 4/\I J 4 < ((L J 0)).length)/\(B J 13=true->(yx T (I J 15)))/\(B J 13=true->(((L T 0)).length - (I J 15)).toNat < (((L T 0)).length - (I J 4)).toNat) from
   let⟨N,M,F⟩:=E;⟨⟨N,trivial⟩,fun i=>⟨M i,F i⟩⟩
  refine⟨?_,?_,?_⟩
  .obtain⟨a,c,d,-⟩:=j;simp only[BS,BZ,zR,zL] at a c d;grind
  .obtain⟨a,c,d,-,t,q,r,l,e,-,g,-⟩:=j;replace l:B J 12=(Dl (S J 9) (I J 10) (I J 11)):=l;simp only[BS,BZ,zR,w2P,zL] at a c d t q r e g;obtain⟨W,X,O⟩:=p;intro i;have w:=e.1 i;have C:=c.1 (d.1 w.1).2;rw[a,u] at C;have P:=o2' g (by omega);have D:(I J 4).toNat < ((L T 0)).length:=by omega
   refine⟨by omega,by omega,?_⟩;rw[P,show ((I J 4)+1).toNat=(I J 4).toNat+1 by omega,D6 D,RB];refine⟨O,?_⟩;have v:=w.2;rw[l,t,q,r,u] at v;exact v
  .obtain⟨a,c,d,-,-,-,-,-,e,-,g,-⟩:=j;simp only[BS,BZ,zR,w2P,zL] at a c d e g;grind
abbrev zQ(T:Tab):Prop:=0<=I T 16/\I T 16<=((L T 0)).length/\((L T 0)).length<=140737488355328
theorem aj (h:zQ T)(a:BV T FT):
  ((B T 19)=true->I T 16 < ((L T 0)).length):=by
 have b:=a;clear a;have g:(B T 19)=true->I T 16 < ((L T 0)).length:=by
  obtain⟨c,d,e,-⟩:=b;simp only[BS,BZ,zR,zL] at c d e;grind
 exact g
abbrev yy(T:Tab)(a:Int):Prop:=0<=a/\a <=I T 16/\∀q:Nat,(q:Int) <a ->¬uS (((L T 0)).getD (I T 16).toNat []) 0=uS (((L T 0)).getD q []) 0
abbrev zT(T:Tab):Prop:=(B T 19)=true->I T 16 < ((L T 0)).length
theorem gC (z:zQ T)(W:zT T)(x:Ba T (Bh (hds 16 [.i]++GC [0,8] (Bh (Bh (hds 4 [.i]++(Bh (CA 0 D9.ks) Fj)) Df) IX)) FT))(v:Bi T (EU.map En.be))(w:Bi T ((B5 Ii [.i] La).map En.be)):
  (Ii).owes (La.map (Rf.eval T))/\Ba T (hds 21 [.i])/\(yy T (I T 21))/\¬B T 29=true:=by
 refine CK (nh:=21) (k:=1) (pcn:=29) (R:=31) (b:=EU) (K:=TU) (nxt:=[.e 30]) (H:=[.c (.int 0)]) (fv:=[0,16,19]) (A:=[.i]) (by kernel_rfl) rfl rfl rfl rfl x (by kernel_rfl) (by kernel_rfl) v (B6 w) (fun s=>yy T (aI s 0)) (fun s=>((I T 16) - (aI s 0)).toNat) ?_ ?_
 .show yy T (0:Int);grind
 .intro J j i o;replace o:yy T (I J 21):=o;clear x v w;replace i:BV J EU:=i;have d:=i;clear i;have y:=fvL (j 0 (by decide));have u:=fvI (j 16 (by decide));have V:=fvB (j 19 (by decide));clear j
  suffices M:(B J 23=true->0<=I J 21/\I J 21 < ((L J 0)).length)/\(B J 23=true->0<=I J 16/\I J 16 < ((L J 0)).length)/\(B J 29=true->(yy T (I J 30)))/\(B J 29=true->((I T 16) - (I J 30)).toNat < ((I T 16) - (I J 21)).toNat) from
   let⟨P,ay,O,N⟩:=M;⟨⟨P,ay,trivial⟩,fun l=>⟨O l,N l⟩⟩
  refine⟨?_,?_,?_,?_⟩
  .obtain⟨a,c,-⟩:=d;simp only[BS,BZ,zR] at a c;grind
  .obtain⟨a,c,-⟩:=d;simp only[BS,BZ,zR] at a c;grind
  .obtain⟨a,c,-,p,r,t,-,e,g,-⟩:=d;simp only[BS,BZ,zN,zR,Dw,and_true,w2P,zL,zS] at a c p r t e g;obtain⟨v1,v2,Q⟩:=o;obtain⟨Y,Z,q3⟩:=z;intro l;have D:=e.1 l;have C:=a.1 (c.1 D.1).2;rw[u] at C;have al:=o2' g (by omega);refine⟨by omega,by omega,fun q X=>?_⟩;rcases Int.lt_or_le (q:Int) (I J 21) with h|h
   .exact Q q h
   .have F:q=(I J 21).toNat:=by omega
    rw[F];intro E;have:(B J 27)=true:=t.2 (by rw[p,r,y,u];exact E);grind
  .obtain⟨a,c,-,-,-,-,-,e,g,-⟩:=d;simp only[BS,BZ,zN,zR,w2P] at a c e g;grind
theorem Tn (e:zQ T)(c:Ba T (hds 16 [.i]++GC [0,8] (Bh (Bh (hds 4 [.i]++(Bh (CA 0 D9.ks) Fj)) Df) IX)))(a:Bi T (G8.map En.be)):
  (BV T FT)/\((B T 19)=true->I T 16 < ((L T 0)).length)/\((Ii).owes (La.map (Rf.eval T)))/\(yy T (I T 21))/\(¬B T 29=true)/\(BV T EU)/\(BV T Im)/\Ba T (Bh (Bh (hds 21 [.i]++(Bh (hds 16 [.i]++GC [0,8] (Bh (Bh (hds 4 [.i]++(Bh (CA 0 D9.ks) Fj)) Df) IX)) FT)) EU) Im):=by
 unfold G8 at a;rw[AL,AL,AL] at a;obtain⟨g,a⟩:=cutB a;obtain⟨h,a⟩:=cutB a;obtain⟨b,a⟩:=cutB a;obtain⟨j,d⟩:=Be c (by kernel_rfl) g;have k:=aj e j;obtain⟨u,i,s,t⟩:=gC e k d b h;have o:=(Be (i.append d) (l:=EU) (by kernel_rfl) b);obtain⟨p,c⟩:=o;clear g b h d i;obtain⟨q,r⟩:=Be c (by kernel_rfl) a;grind
abbrev yz(T:Tab)(a:Int):Prop:=0<=a/\a <=((L T 0)).length/\∀p q:Nat,q < p->(p:Int) <a ->¬uS (((L T 0)).getD p []) 0=uS (((L T 0)).getD q []) 0
theorem fy (W:zP T)(v:Ba T (Bh (Bh (hds 4 [.i]++(Bh (CA 0 D9.ks) Fj)) Df) IX))(r:Bi T (G8.map En.be))(u:Bi T ((B5 LQ [.i] PA).map En.be)):
  (LQ).owes (PA.map (Rf.eval T))/\Ba T (hds 16 [.i])/\(yz T (I T 16))/\¬B T 24=true:=by
 refine NT (nh:=16) (k:=1) (pcn:=24) (R:=32) (b:=G8) (K:=UG) (nxt:=[.e 31]) (H:=[.c (.int 0)]) (fv:=[0,8]) (A:=[.i]) (by kernel_rfl) rfl rfl rfl rfl v (by kernel_rfl) r (B6 u) (fun s=>yz T (aI s 0)) (fun s=>(((L T 0)).length - (aI s 0)).toNat) ?_ ?_
 .show yz T (0:Int);grind
 .intro J h w t z;replace z:yz T (I J 16):=z;have P:=fvL (h 0 (by decide));have Q:=fvB (h 8 (by decide));clear h;clear v r u;have D:0<=I J 16/\I J 16<=((L J 0)).length/\((L J 0)).length<=140737488355328:=by
   grind
  obtain⟨j,V,O,X,Y,i,l,x⟩:=Tn D w t;clear w t;have E:=DK x (ax:=[.i]) (ag:=[.e 31]) (by kernel_rfl);clear x;have o:=j;clear j;have p:=i;clear i;have q:=l;clear l
  suffices F:(B J 24=true->(yz T (I J 31)))/\(B J 24=true->(((L T 0)).length - (I J 31)).toNat < (((L T 0)).length - (I J 16)).toNat) from
   let⟨N,M⟩:=F;⟨E,⟨(fun _=>O),trivial⟩,fun y=>⟨N y,M y⟩⟩
  refine⟨?_,?_⟩
  .obtain⟨a,c,d,-⟩:=o;obtain⟨C,-,e,-⟩:=p;obtain⟨g,-⟩:=q;simp only[BS,BZ,zN,zR,w2P,zL] at a c d C e g;grind
  .obtain⟨a,c,d,-⟩:=o;obtain⟨-,-,e,-⟩:=p;obtain⟨g,-⟩:=q;simp only[BS,BZ,zN,zR,w2P,zL] at a c d e g;grind
theorem nc (b6:zP T)(b4:∀u∈(L T 0),Bb BT KP u)(bc:yx T (I T 4))(bt:¬B T 13=true)(bi:yz T (I T 16))(b8:¬B T 24=true)(ag:zT T)(bl:yy T (I T 21))(b9:¬B T 29=true)(g1:zQ T)(v:BV T Fj)(x:BV T Df)(z:BV T FT)(y:BV T EU)(A:BV T Im)(w:BV T UE):
  ((I T 36)=(BW (L T 0))):=by
 have F0:=v;clear v;have F1:=x;clear x;have F2:=z;clear z;have F3:=y;clear y;have F4:=A;clear A;have F5:=w;clear w
 .obtain⟨D,K,W,-⟩:=F0;obtain⟨o,r,s,e8,e9,E,F,e,H,J,-⟩:=F1;obtain⟨i,j,k,-⟩:=F2;obtain⟨M,l,a4,N,P,Q,V,a6,-⟩:=F3;obtain⟨X,-,Y,-,Z,-⟩:=F5;replace e:B T 12=(Dl (S T 9) (I T 10) (I T 11)):=e;simp only[BS,BZ,zN,zR,Dw,and_true,zL,zS] at D K W o r s e8 e9 E F H J i j k M l a4 N P Q V a6 X Y Z;obtain⟨v1,v2,v3⟩:=bc;obtain⟨aO,w2,w3⟩:=bi;obtain⟨u1,u2,u3⟩:=bl;unfold BW;rw[Z];by_cases C:(B T 2)=true
  .grind
  .have g:¬24 < I T 1:=fun a=>C (K.2 a);rw[D] at g;have h3:=W.2 (by simpa using C);rw[BG C,BG (by omega),Y];by_cases d:(I T 4) < I T 5
   .have ba:(I T 4).toNat < ((L T 0)).length:=by rw[o] at d;omega
    have h7:=s.2 ⟨h3,r.2 d⟩;have b:(B T 12)=false:=Bool.eq_false_iff.2 fun h=>bt (H.2 ⟨h7,h⟩);have a5:¬((L T 0)).all Dk=true:=fun a=>by
     have O:=Ae.1 a _ (Ca ba);rw[e,e9,E,F] at b;have b:Dk (((L T 0)).getD (I T 4).toNat [])=false:=b;rw[b] at O;cases O
    grind
   .have n6:(B T 6)=false:=Bool.eq_false_iff.2 fun a=>d (r.1 a);have bm:¬B T 14=true:=fun a=>by have:=(s.1 (J.1 a).1).2;rw[n6] at this;cases this
    have ei:(I T 4).toNat=((L T 0)).length:=by rw[o] at d;omega
    rw[ei,BD] at v3;rw[BG bm,BG (fun a=>a v3),X];have h8:=e8.2 ⟨h3,n6⟩;by_cases t:(B T 28)=true
    .obtain⟨al,c⟩:=V.1 t;have b3:=M.1 (l.1 al).2;have ag:=j.1 (k.1 (l.1 al).1).2;rw[i] at ag;have c:=Q.1 c;rw[N,P] at c;have nd:¬DD (L T 0):=fun hd=>hd (I T 16).toNat (I T 21).toNat (by omega) (by omega) c;rw[BH t,BH (Sn.2 nd)]
    .have bo:¬B T 19=true:=fun b2=>by
      grind
     have hl:¬I T 16 < ((L T 0)).length:=fun h=>bo (k.2 ⟨h8,j.2 (by rw[i];exact h)⟩);have hd:DD (L T 0):=fun p q hq hp=>w3 p q hq (by omega);rw[BG t,BG (fun a=>(Sn.1 a) hd)]
theorem V9:Bl Try.prog 20 D9:=by
 refine B7 (l:=[(61,Lq)]) CP (by simp only[AW];exact⟨lW,fun _ h=>absurd h (by simp)⟩) qG (by kernel_rfl) fun T us M F r g C a=>?_;change us.length=1 at r;obtain⟨⟨o,J⟩,-⟩:=C;replace o:(L T 0).length<=140737488355328:=o;have K:∀u∈(L T 0),Bb BT KP u:=fun u N=>by
  obtain⟨i,Z⟩:=Ac.1 N;exact J i u Z
 have H:=inL (j:=0) F r (by decide);clear M;rw[AL,AL,AL,AL,AL,AL] at a;obtain⟨d,a⟩:=cutB a;obtain⟨e,a⟩:=cutB a;obtain⟨c,a⟩:=cutB a;obtain⟨s,b⟩:=Be g (by kernel_rfl) d;obtain⟨Y,k,O,V⟩:=fB o b c e;have D:=(Be (k.append b) (l:=Df) (by kernel_rfl) c);obtain⟨v,g⟩:=D;clear d c e b k;obtain⟨d,a⟩:=cutB a;obtain⟨e,a⟩:=cutB a;obtain⟨c,a⟩:=cutB a;obtain⟨A1,b⟩:=Be g (by kernel_rfl) d;obtain⟨ab,k,P,W⟩:=fy o b c e;have p:0<=I T 16/\I T 16<=((L T 0)).length/\((L T 0)).length<=140737488355328:=by
  grind
 obtain⟨x,z,an,Q,X,w,y,q⟩:=Tn p (k.append (EO (fun _ _=>rfl) b)) c;have g:=q.append b;clear d c e b k q;obtain⟨t,E⟩:=B8 (A:=[.i]) (ag:=Yw) g (by kernel_rfl) a;have q0:=nc o K O V P W z Q X p s v x w y t;refine⟨⟨(fun _=>ab),(fun _=>Y),trivial⟩,E.trans ?_⟩;exact (lc (by show U.int (I T 36)= .int (G2 us);unfold G2;rw[H];exact BI U.int q0) rfl)
def KK:List U->Int:=fun us=>(Gw (aI us 0) (aI us 1) (aI us 2) (aS us 4) (aS us 5) (aI us 7) (aI us 8))
def Jl:Bf:={ sh:=[.agg [k64,k64,k64,.bool,.str,.str,.bool,k64,k64]],blks:=[],outs:=[(.s "rCheckSh.0",CW KK)],c:=(Cy 9),m':=[],pre:=[] }
def W7:List En:=[⟨9,.le,[.c (.int 0),.e 0]⟩,
 ABU 10 9,
 ⟨11,.le,[.e 0,.c (.int 1099511627776)]⟩,
 ABE 12 9 11,
 ABU 13 12,
 ⟨14,.lt,[.e 1,.c (.int 0)]⟩,
 ⟨15,.or,[.n 12,.e 14]⟩,
 ABI 16 15,
 ⟨17,.lt,[.c (.int 1048576),.e 1]⟩,
 ABG 18 15 17,
 ABI 19 18,
 ⟨20,.le,[.c (.int 0),.e 2]⟩,
 ABE 21 19 20,
 ⟨22,.le,[.e 2,.c (.int 1099511627776)]⟩,
 ABE 23 20 22,
 ⟨24,.or,[.e 18,.n 23]⟩]
def Xv:List En:=[ABI 25 24,
 ⟨26,.outB "xnamed.0" IC,[.e 4]⟩,
 ⟨27,.or,[.e 24,.n 26]⟩,
 ABI 28 27,
 ⟨29,.outB "xnamed.0" IC,[.e 5]⟩,
 ⟨30,.or,[.e 27,.n 29]⟩,
 ABI 31 30,
 ⟨32,.eqs [.s],[.e 4,.e 5]⟩,
 ABG 33 30 32,
 ABI 34 33,
 ⟨35,.lt,[.e 8,.c (.int 0)]⟩,
 ABF 36 34 35,
 ABH 37 7 8,
 ABG 38 35 37,
 ABF 39 34 38,
 ⟨40,.lt,[.c (.int 26),.e 7]⟩]
def XV:List En:=[ABG 41 38 40,
 ABE 42 34 41,
 ABF 43 34 41,
 ⟨44,.ite .i,[.e 42,.c (.int 2),.c (.int 0)]⟩,
 ABG 45 42 43,
 ⟨46,.ite .i,[.e 33,.c (.int 2),.e 44]⟩,
 ABG 47 33 45]
def Sd:List En:=W7++(Xv++(XV))
def kT:List ObE:=[]
def VJ:List Rf:=[.e 46]
theorem kU:Jl.sees VJ (Jl.run Try.prog [(64,HP)] Bp 3000 20 22)=some ((Sd).map En.be,kT.map ObE.be,[]):=by kernel_rfl
theorem kV (P:(S T 4).size<=140737488355328)(Q:(S T 5).size<=140737488355328)(b:BV T Sd):
  ((I T 46)=(Gw (I T 0) (I T 1) (I T 2) (S T 4) (S T 5) (I T 7) (I T 8))):=by
 obtain⟨j,b⟩:=b.cut;obtain⟨k,b⟩:=b.cut;have l:=b;clear b
 .obtain⟨O,-,o,p,-,q,r,-,s,t,-,u,-,v,w,x,-⟩:=j;obtain⟨-,c,y,-,d,z,-,A,D,E,F,-,H,J,-,K,-⟩:=k;obtain⟨M,N,-,e,-,g,-⟩:=l;replace c:B T 26=(Dn (S T 4)):=c;replace d:B T 29=(Dn (S T 5)):=d;simp only[BS,BZ,zN,zR,Dw,and_true,zL,zS] at O o p q r s t u v w x y z A D E F H J K M N e g;unfold Gw;rw[g,e];have i:((B T 33)=true\/B T 42=true)↔¬(KY (I T 0) 0 1099511627776&&KY (I T 2) 0 1099511627776&&KY (I T 1) 0 1048576&&Dn (S T 4)&&Dn (S T 5)&& !decide ((S T 4)=S T 5)&&decide (0<=I T 8)&&decide ((I T 8)<=I T 7)&&decide ((I T 7)<=26))=true:=by
   rw[<-c,<-d];simp only[AB,RH,Bool.not_eq_true',decide_eq_false_iff_not,decide_eq_true_eq];clear c d g e;grind
  by_cases h:(B T 33)=true
  .rw[BH h,BG (i.1 (.inl h))]
  .rw[BG h];by_cases C:(B T 42)=true
   .rw[BH C,BG (i.1 (.inr C))]
   .rw[BG C,BH (At fun a=>(i.2 a).elim h C)]
theorem fH:Bl Try.prog 22 Jl:=by
 refine B7 (l:=[(64,HP)]) CP (by simp only[AW];exact⟨ZI,fun _ h=>absurd h (by simp)⟩) kU (by kernel_rfl) fun T us w b a o g i=>?_;change us.length=9 at a;obtain⟨-,-,-,c,d,-⟩:=g;replace c:(S T 4).size<=140737488355328:=c;replace d:(S T 5).size<=140737488355328:=d;have p:=inI (j:=0) b a (by decide);have q:=inI (j:=1) b a (by decide);have r:=inI (j:=2) b a (by decide);have s:=inS (j:=4) b a (by decide);have t:=inS (j:=5) b a (by decide);have u:=inI (j:=7) b a (by decide);have v:=inI (j:=8) b a (by decide);clear w
 skip
 obtain⟨e,k⟩:=B8 (A:=[.i]) (ag:=VJ) o (by kernel_rfl) i;have x:=kV c d e;refine⟨trivial,k.trans ?_⟩;exact (lc (by show U.int (I T 46)= .int (KK us);unfold KK;rw[p,q,r,s,t,u,v];exact BI U.int x) rfl)
def MQ:List U->Bool:=fun us=>(EZ (aL us 0))
def Ga:Bf:={ sh:=[.one (.list [k64,k64,k64,.bool,.str,.str,.bool,k64,k64])],blks:=[],outs:=[(.s "rsound.0",Jx MQ)],c:= .b 1,m':=[],pre:=[] }
def KN:List En:=[]
def W3:List En:=[ABL 2 0,
 ABH 3 1 2,
 ABI 4 3]
def GP:List En:=W3
def eU:List En:=[ABH 6 5 1,
 ABE 7 3 6,
 ABF 8 3 6,
 ABM 9 0 1,
 ABM 10 0 5,
 ⟨11,.eq,[.e 9,.e 10]⟩,
 ABE 12 7 11,
 ABE 13 7 11,
 ABJ 14 0 1,
 ABE 15 7 11,
 ABE 16 7 11,
 ABJ 17 0 5,
 ⟨18,.eq,[.e 14,.e 17]⟩,
 ABE 19 11 18,
 ABE 20 7 19,
 ABE 21 7 19]
def am:List En:=[ABM 22 0 1,
 ABJ 23 0 1,
 ABK 24 0 1,
 ABQ 25 0 1,
 ABN 26 0 1,
 ABO 27 0 1,
 ABP 28 0 1,
 ABR 29 0 1,
 ABS 30 0 1,
 ABE 31 7 19,
 ABE 32 7 19,
 ABM 33 0 5,
 ABJ 34 0 5,
 ABK 35 0 5,
 ABQ 36 0 5,
 ABN 37 0 5]
def cz:List En:=[ABO 38 0 5,
 ABP 39 0 5,
 ABR 40 0 5,
 ABS 41 0 5,
 ⟨42,.nes [.i,.i,.i,.b,.s,.s,.b,.i,.i],[.e 22,.e 33,.e 23,.e 34,.e 24,.e 35,.e 25,.e 36,.e 26,.e 37,.e 27,.e 38,.e 28,.e 39,.e 29,.e 40,.e 30,.e 41]⟩,
 ABE 43 19 42,
 ABE 44 7 43,
 ABF 45 7 43,
 ⟨46,.w2 .i64 .add,[.e 5,.c (.int 1)]⟩]
def Eu:List En:=eU++(am++(cz))
def WD:List ObE:=[⟨some 32,.inl,[.e 5,.e 0]⟩,⟨some 21,.inl,[.e 1,.e 0]⟩,⟨some 16,.inl,[.e 5,.e 0]⟩,⟨some 13,.inl,[.e 1,.e 0]⟩,⟨some 7,.inl,[.e 5,.e 0]⟩,⟨some 7,.inl,[.e 1,.e 0]⟩]
def J4:Bs:=mkD 5 1 Eu 45 [.e 46] WD [0,1,3]
def Mv:List Rf:=[.e 0,.e 1,.e 3,.c (.int 0)]
def W5:List En:=[⟨47,.w2 .i64 .add,[.e 1,.c (.int 1)]⟩]
def Jp:List En:=W5
def IH:List En:=GP++((B5 J4 [.i] Mv)++(Eu++(Jp)))
def VG:List ObE:=[⟨some 3,.owes J4,[.e 0,.e 1,.e 3,.c (.int 0)]⟩]
def MT:Bs:=mkD 1 1 IH 8 [.e 47] VG [0]
def Qe:List Rf:=[.e 0,.c (.int 0)]
def bW:List En:=[⟨48,.ite .b,[.e 44,.c (.bool false),.c (.bool true)]⟩,
 ABG 49 44 4]
def Vm:List En:=bW
def qZ:List ObE:=[⟨none,.owes MT,[.e 0,.c (.int 0)]⟩]
def cm:List Rf:=[.e 48]
theorem tc:Ga.sees cm (Ga.run Try.prog [] Bp 3000 20 62)=some ((KN++((B5 MT [.i] Qe)++(IH++(Vm)))).map En.be,qZ.map ObE.be,[]):=by kernel_rfl
abbrev zU(T:Tab):Prop:=0<=I T 1/\I T 1<=((L T 0)).length/\∀p q:Nat,q < p->(p:Int) < I T 1->okP (L T 0) p q
abbrev zV(T:Tab):Prop:=((L T 0)).length<=140737488355328/\∀u∈(L T 0),Bb BT KB u
theorem gO (g:zU T)(aw:zV T)(a:BV T GP):
  ((B T 3)=true->I T 1 < ((L T 0)).length):=by
 have b:=a;clear a;have e:(B T 3)=true->I T 1 < ((L T 0)).length:=by
  obtain⟨c,d,-⟩:=b;simp only[BS,zR,zL] at c d;grind
 exact e
abbrev yS(T:Tab)(a:Int):Prop:=0<=a/\a <=I T 1/\∀q:Nat,(q:Int) <a ->okP (L T 0) (I T 1).toNat q
abbrev zX(T:Tab):Prop:=(B T 3)=true->I T 1 < ((L T 0)).length
theorem jn (g1:zU T)(aw:zV T)(h3:zX T)(hS:Ba T (Bh (hds 1 [.i]++GC [0] (Bh (CA 0 Ga.ks) KN)) GP))(hB:Bi T (Eu.map En.be))(hH:Bi T ((B5 J4 [.i] Mv).map En.be)):
  (J4).owes (Mv.map (Rf.eval T))/\Ba T (hds 5 [.i])/\(yS T (I T 5))/\¬B T 45=true:=by
 refine CK (nh:=5) (k:=1) (pcn:=45) (R:=47) (b:=Eu) (K:=WD) (nxt:=[.e 46]) (H:=[.c (.int 0)]) (fv:=[0,1,3]) (A:=[.i]) (by kernel_rfl) rfl rfl rfl rfl hS (by kernel_rfl) (by kernel_rfl) hB (B6 hH) (fun s=>yS T (aI s 0)) (fun s=>((I T 1) - (aI s 0)).toNat) ?_ ?_
 .show yS T (0:Int);grind
 .intro J Z l al;replace al:yS T (I J 5):=al;clear hS hB hH;replace l:BV J Eu:=l;obtain⟨j,l⟩:=l.cut;obtain⟨o,l⟩:=l.cut;have F2:=l;clear l;have ba:=fvL (Z 0 (by decide));have a2:=fvI (Z 1 (by decide));have bb:=fvB (Z 3 (by decide));clear Z
  suffices hz:(B J 32=true->0<=I J 5/\I J 5 < ((L J 0)).length)/\(B J 21=true->0<=I J 1/\I J 1 < ((L J 0)).length)/\(B J 16=true->0<=I J 5/\I J 5 < ((L J 0)).length)/\(B J 13=true->0<=I J 1/\I J 1 < ((L J 0)).length)/\(B J 7=true->0<=I J 5/\I J 5 < ((L J 0)).length)/\(B J 7=true->0<=I J 1/\I J 1 < ((L J 0)).length)/\(B J 45=true->(yS T (I J 46)))/\(B J 45=true->((I T 1) - (I J 46)).toNat < ((I T 1) - (I J 5)).toNat) from
   let⟨r0,ay,aG,r3,r4,r5,nx,mz⟩:=hz;⟨⟨r0,ay,aG,r3,r4,r5,trivial⟩,fun hp=>⟨nx hp,mz hp⟩⟩
  refine⟨?_,?_,?_,?_,?_,?_,?_,?_⟩
  .obtain⟨a,c,-,-,-,-,-,d,-,-,e,-,-,-,-,g,-⟩:=j;obtain⟨-,-,-,-,-,-,-,-,-,-,i,-⟩:=o;simp only[BS,BZ,zR] at a c d e g i;grind
  .obtain⟨a,c,-,-,-,-,-,d,-,-,e,-,-,-,-,g,-⟩:=j;obtain⟨-,-,-,-,-,-,-,-,-,-,i,-⟩:=o;simp only[BS,BZ,zR] at a c d e g i;grind
  .obtain⟨a,c,-,-,-,-,-,d,-,-,e,-,-,-,-,g,-⟩:=j;obtain⟨-,-,-,-,-,-,-,-,-,-,i,-⟩:=o;simp only[BS,BZ,zR] at a c d e g i;grind
  .obtain⟨a,c,-,-,-,-,-,d,-,-,e,-,-,-,-,g,-⟩:=j;obtain⟨-,-,-,-,-,-,-,-,-,-,i,-⟩:=o;simp only[BS,BZ,zR] at a c d e g i;grind
  .obtain⟨a,c,-,-,-,-,-,d,-,-,e,-,-,-,-,g,-⟩:=j;obtain⟨-,-,-,-,-,-,-,-,-,-,i,-⟩:=o;simp only[BS,BZ,zR] at a c d e g i;grind
  .obtain⟨a,c,-,-,-,-,-,d,-,-,e,-,-,-,-,g,-⟩:=j;obtain⟨-,-,-,-,-,-,-,-,-,-,i,-⟩:=o;simp only[BS,BZ,zR] at a c d e g i;grind
  .obtain⟨a,c,-,Y,ad,ao,-,-,C,-,-,ag,ax,a0,-⟩:=j;obtain⟨p,r,t,u,v,w,x,y,z,-,-,D,E,F,M,N,-⟩:=o;obtain⟨O,P,Q,V,a1,a9,-,W,X,-⟩:=F2;simp only[BS,BZ,zN,zR,Dw,and_true,w2P,zL,zS] at a c Y ad ao C ag ax a0 p r t u v w x y z D E F M N O P Q V a1 a9 W X;obtain⟨v1,v2,v3⟩:=al;obtain⟨cc,a7⟩:=aw;intro hp;have bi:=W.1 hp;have h7:=c.1 bi.1;have h6:=a.1 h7.2;rw[a2] at h6;have hh:=h3 (by rw[<-bb];exact h7.1);have ci:=o2' X (by omega);have bm:(I T 1).toNat < ((L T 0)).length:=by omega
   have bo:(I J 5).toNat < ((L T 0)).length:=by omega
   have aC:=Q0 (show TyB ((L T 0)) from a7) (show TyB ((L T 0)) from a7) bm bo;refine⟨by omega,by omega,fun q hq=>?_⟩;rcases Int.lt_or_le (q:Int) (I J 5) with h|h
   .exact v3 q h
   .have bs:q=(I J 5).toNat:=by omega
    rw[bs];intro k0 k1;refine aC.1 (At fun hn=>?_);have zz:True:=by have _:=p;have _:=r;have _:=t;have _:=u;have _:=v;have _:=w;have _:=x;have _:=y;have _:=z;have _:=D;have _:=E;have _:=F;have _:=M;have _:=N;have _:=O;have _:=P;have _:=Q;have _:=V;trivial
    rw[ba] at Y ad C ag p r t u v w x y z D E F M N O P Q V;rw[a2] at Y C p r t u v w x y z;rw[<-p,<-r,<-t,<-u,<-v,<-w,<-x,<-y,<-z,<-D,<-E,<-F,<-M,<-N,<-O,<-P,<-Q,<-V] at hn;have ca:=a1.2 hn;have b9:=a0.2 ⟨ao.2 (by rw[Y,ad];exact k0),ax.2 (by rw[C,ag];exact k1)⟩;grind
  .obtain⟨a,c,-⟩:=j;obtain⟨-,-,-,-,-,-,-,W,X,-⟩:=F2;simp only[BS,BZ,zN,zR,w2P] at a c W X;grind
theorem Vc (e:zU T)(aw:zV T)(c:Ba T (hds 1 [.i]++GC [0] (Bh (CA 0 Ga.ks) KN)))(a:Bi T (IH.map En.be)):
  (BV T GP)/\((B T 3)=true->I T 1 < ((L T 0)).length)/\((J4).owes (Mv.map (Rf.eval T)))/\(yS T (I T 5))/\(¬B T 45=true)/\(BV T Eu)/\(BV T Jp)/\Ba T (Bh (Bh (hds 5 [.i]++(Bh (hds 1 [.i]++GC [0] (Bh (CA 0 Ga.ks) KN)) GP)) Eu) Jp):=by
 unfold IH at a;rw[AL,AL,AL] at a;obtain⟨g,a⟩:=cutB a;obtain⟨h,a⟩:=cutB a;obtain⟨b,a⟩:=cutB a;obtain⟨j,d⟩:=Be c (by kernel_rfl) g;have k:=gO e aw j;obtain⟨u,i,s,t⟩:=jn e aw k d b h;have o:=(Be (i.append d) (l:=Eu) (by kernel_rfl) b);obtain⟨p,c⟩:=o;clear g b h d i;obtain⟨q,r⟩:=Be c (by kernel_rfl) a;grind
abbrev yT(T:Tab)(a:Int):Prop:=0<=a/\a <=((L T 0)).length/\∀p q:Nat,q < p->(p:Int) <a ->okP (L T 0) p q
theorem lD (ab:zP T)(Z:∀u∈(L T 0),Bb BT KB u)(x:Ba T (Bh (CA 0 Ga.ks) KN))(t:Bi T (IH.map En.be))(w:Bi T ((B5 MT [.i] Qe).map En.be)):
  (MT).owes (Qe.map (Rf.eval T))/\Ba T (hds 1 [.i])/\(yT T (I T 1))/\¬B T 8=true:=by
 refine NT (nh:=1) (k:=1) (pcn:=8) (R:=48) (b:=IH) (K:=VG) (nxt:=[.e 47]) (H:=[.c (.int 0)]) (fv:=[0]) (A:=[.i]) (by kernel_rfl) rfl rfl rfl rfl x (by kernel_rfl) t (B6 w) (fun s=>yT T (aI s 0)) (fun s=>(((L T 0)).length - (aI s 0)).toNat) ?_ ?_
 .show yT T (0:Int);grind
 .intro J C y v h;replace h:yT T (I J 1):=h;have F:=fvL (C 0 (by decide));clear C;clear x t w;have M:0<=I J 1/\I J 1<=((L J 0)).length/\∀p q:Nat,q < p->(p:Int) < I J 1->okP (L J 0) p q:=by
   rw[F];exact h
  have aw:((L J 0)).length<=140737488355328/\∀u∈(L J 0),Bb BT KB u:=by
   grind
  obtain⟨i,Y,V,ad,al,a,j,z⟩:=Vc M aw y v;clear y v;have N:=DK z (ax:=[.i]) (ag:=[.e 47]) (by kernel_rfl);clear z;have l:=i;clear i;obtain⟨o,a⟩:=a.cut;obtain⟨W,a⟩:=a.cut;have X:=a;clear a;have r:=j;clear j
  suffices O:(B J 8=true->(yT T (I J 47)))/\(B J 8=true->(((L T 0)).length - (I J 47)).toNat < (((L T 0)).length - (I J 1)).toNat) from
   let⟨Q,P⟩:=O;⟨N,⟨(fun _=>V),trivial⟩,fun D=>⟨Q D,P D⟩⟩
  refine⟨?_,?_⟩
  .obtain⟨c,d,-⟩:=l;obtain⟨E,-,g,-⟩:=o;obtain⟨e,-⟩:=r;simp only[BS,BZ,zN,zR,w2P,zL] at c d E g e;grind
  .obtain⟨c,d,-⟩:=l;obtain⟨-,-,g,-⟩:=o;obtain⟨e,-⟩:=r;simp only[BS,BZ,zN,zR,w2P,zL] at c d g e;grind
theorem sr (bl:zP T)(C:∀u∈(L T 0),Bb BT KB u)(a9:yT T (I T 1))(bo:¬B T 8=true)(h3:zX T)(ba:yS T (I T 5))(bs:¬B T 45=true)(g1:yT T (I T 1))(aw:zV T)(E:BV T GP)(a:BV T Eu)(F:BV T Jp)(D:BV T Vm):
  ((B T 48)=(EZ (L T 0))):=by
 have F0:=E;clear E;obtain⟨F1,a⟩:=a.cut;obtain⟨F2,a⟩:=a.cut;have F3:=a;clear a;have F4:=F;clear F;have F5:=D;clear D
 .obtain⟨O,P,-⟩:=F0;obtain⟨Y,A,e8,Z,H,J,-,-,K,-,-,M,N,c,-⟩:=F1;obtain⟨d,e,g,i,j,k,l,o,p,-,-,q,r,s,t,v,-⟩:=F2;obtain⟨w,x,y,z,Q,V,W,a5,-⟩:=F3;obtain⟨X,-⟩:=F5;simp only[BS,BZ,zN,zC,zR,Dw,and_true,zL,zS] at O P Y A e8 Z H J K M N c d e g i j k l o p q r s t v w x y z Q V W a5 X;obtain⟨v1,v2,v3⟩:=a9;obtain⟨aO,w2,w3⟩:=ba;have zz:True:=by have _:=d;have _:=e;have _:=g;have _:=i;have _:=j;have _:=k;have _:=l;have _:=o;have _:=p;have _:=q;have _:=r;have _:=s;have _:=t;have _:=v;have _:=w;have _:=x;have _:=y;have _:=z;trivial
  have bm:(B T 48)=true↔EZ (L T 0)=true:=by
   rw[X,Rz (show TyB ((L T 0)) from C),mE];by_cases ag:(B T 44)=true
   .obtain⟨h7,a7⟩:=W.1 ag;have h6:=Y.1 (A.1 h7).2;have h3:=P.1 (A.1 h7).1;rw[O] at h3;have an:(I T 1).toNat < ((L T 0)).length:=by omega
    have a8:(I T 5).toNat < ((L T 0)).length:=by omega
    have aC:=Q0 (show TyB ((L T 0)) from C) (show TyB ((L T 0)) from C) an a8;obtain⟨ab,b⟩:=V.1 a7;have b:=Q.1 b;rw[d,e,g,i,j,k,l,o,p,q,r,s,t,v,w,x,y,z] at b;have k0:=J.1 (c.1 ab).1;have k1:=N.1 (c.1 ab).2;rw[Z,H] at k0;rw[K,M] at k1;refine⟨fun h=>absurd ag (by simpa using h),fun h=>absurd (aC.2 (h (I T 1).toNat (I T 5).toNat (by omega) an k0 k1)) b⟩
   .grind
  grind
theorem oA:Bl Try.prog 62 Ga:=by
 refine B7 (l:=[]) CP (by intro p h;exact absurd h (by simp)) tc (by kernel_rfl) fun T us J E t e C a=>?_;change us.length=1 at t;obtain⟨⟨c,H⟩,-⟩:=C;replace c:(L T 0).length<=140737488355328:=c;have s:∀u∈(L T 0),Bb BT KB u:=fun u K=>by
  obtain⟨i,Z⟩:=Ac.1 K;exact H i u Z
 have F:=inL (j:=0) E t (by decide);clear J;rw[AL,AL,AL] at a;obtain⟨k,a⟩:=cutB a;obtain⟨o,a⟩:=cutB a;obtain⟨d,a⟩:=cutB a;obtain⟨W,b⟩:=Be e (by kernel_rfl) k;obtain⟨Q,q,M,O⟩:=lD c s b d o;have g:yT T (I T 1):=by
  grind
 have aw:((L T 0)).length<=140737488355328/\∀u∈(L T 0),Bb BT KB u:=by
  grind
 obtain⟨x,z,X,N,P,w,y,r⟩:=Vc g aw (q.append (EO (fun _ _=>rfl) b)) d;have e:=r.append b;clear k d o b q r;obtain⟨v,D⟩:=B8 (A:=[.b]) (ag:=cm) e (by kernel_rfl) a;have V:=sr c s M O z N P g aw x w y v;refine⟨⟨(fun _=>Q),trivial⟩,D.trans ?_⟩;exact (lc (by show U.bool (B T 48)= .bool (MQ us);unfold MQ;rw[F];exact BI U.bool V) rfl)
def LE:List U->Int:=fun us=>(Bc (aL us 0))
def Je:Bf:={ sh:=[.one (.list [k64,k64,k64,.bool,.str,.str,.bool,k64,k64])],blks:=[],outs:=[(.s "rCheckL.0",CW LE)],c:=(Cy 1),m':=[],pre:=[] }
def ZY:List En:=[ABL 1 0,
 ⟨2,.lt,[.c (.int 200),.e 1]⟩,
 ABI 3 2]
def O7:List En:=ZY
def Za:List En:=[ABL 5 0,
 ABH 6 4 5,
 ABE 7 3 6,
 ABF 8 3 6,
 ABM 9 0 4,
 ABJ 10 0 4,
 ABK 11 0 4,
 ABQ 12 0 4,
 ABN 13 0 4,
 ABO 14 0 4,
 ABP 15 0 4,
 ABR 16 0 4,
 ABS 17 0 4,
 ⟨18,.outI "rCheckSh.0" KK,[.e 9,.e 10,.e 11,.e 12,.e 13,.e 14,.e 15,.e 16,.e 17]⟩,
 ⟨19,.ne,[.e 18,.c (.int 0)]⟩,
 ABE 20 7 19]
def ZR:List En:=[ABF 21 7 19,
 ⟨22,.w2 .i64 .add,[.e 4,.c (.int 1)]⟩]
def Fh:List En:=Za++(ZR)
def Tz:List ObE:=[⟨some 7,.inl,[.e 4,.e 0]⟩]
def LI:Bs:=mkD 4 1 Fh 21 [.e 22] Tz [0,3]
def PI:List Rf:=[.e 0,.e 3,.c (.int 0)]
def Zg:List En:=[⟨23,.outB "rsound.0" MQ,[.e 0]⟩,
 ABE 24 8 23,
 ABF 25 8 23,
 ⟨26,.ite .i,[.e 25,.c (.int 12),.c (.int 0)]⟩,
 ABG 27 25 24,
 ⟨28,.ite .i,[.e 20,.c (.int 2),.e 26]⟩,
 ABG 29 20 27,
 ⟨30,.ite .i,[.e 2,.c (.int 6),.e 28]⟩,
 ABG 31 2 29]
def UF:List En:=Zg
def nz:List ObE:=[⟨some 3,.owes LI,[.e 0,.e 3,.c (.int 0)]⟩]
def YL:List Rf:=[.e 30]
theorem qF:Je.sees YL (Je.run Try.prog [(22,Jl),(62,Ga)] Bp 3000 20 21)=some ((O7++((B5 LI [.i] PI)++(Fh++(UF)))).map En.be,nz.map ObE.be,[]):=by kernel_rfl
abbrev yU(T:Tab)(a:Int):Prop:=0<=a/\a <=((L T 0)).length/\(((L T 0)).take a.toNat).all Ed=true
theorem fk (ao:zP T)(E:Ba T (Bh (CA 0 Je.ks) O7))(C:Bi T (Fh.map En.be))(D:Bi T ((B5 LI [.i] PI).map En.be)):
  (LI).owes (PI.map (Rf.eval T))/\Ba T (hds 4 [.i])/\(yU T (I T 4))/\¬B T 21=true:=by
 refine CK (nh:=4) (k:=1) (pcn:=21) (R:=23) (b:=Fh) (K:=Tz) (nxt:=[.e 22]) (H:=[.c (.int 0)]) (fv:=[0,3]) (A:=[.i]) (by kernel_rfl) rfl rfl rfl rfl E (by kernel_rfl) (by kernel_rfl) C (B6 D) (fun s=>yU T (aI s 0)) (fun s=>(((L T 0)).length - (aI s 0)).toNat) ?_ ?_
 .show yU T (0:Int);clear E C D;exact⟨by omega,by omega,by simp⟩
 .intro J F h o;replace o:yU T (I J 4):=o;clear E C D;replace h:BV J Fh:=h;obtain⟨p,h⟩:=h.cut;have N:=h;clear h;have z:=fvL (F 0 (by decide));have an:=fvB (F 3 (by decide));clear F
  suffices hz:(B J 7=true->0<=I J 4/\I J 4 < ((L J 0)).length)/\(B J 21=true->(yU T (I J 22)))/\(B J 21=true->(((L T 0)).length - (I J 22)).toNat < (((L T 0)).length - (I J 4)).toNat) from
   let⟨r0,nx,mz⟩:=hz;⟨⟨r0,trivial⟩,fun g=>⟨nx g,mz g⟩⟩
  refine⟨?_,?_,?_⟩
  .obtain⟨c,d,e,-⟩:=p;simp only[BS,BZ,zR,zL] at c d e;obtain⟨V,W,M⟩:=o;intro g;have l:=d.1 (e.1 g).2;rw[c] at l;omega
  .obtain⟨c,d,e,-,y,q,r,-,t,u,-,v,w,x,O,-⟩:=p;obtain⟨i,j,-⟩:=N;replace x:I J 18=(Gw (I J 9) (I J 10) (I J 11) (S J 13) (S J 14) (I J 16) (I J 17)):=x;simp only[BS,BZ,zN,zR,w2P,zL] at c d e y q r t u v w O i j;obtain⟨V,W,M⟩:=o;intro g;have Q:=i.1 g;have l:=d.1 (e.1 Q.1).2;rw[c,z] at l;have X:=o2' j (by omega);have Z:(I J 4).toNat < ((L T 0)).length:=by omega
   rw[z] at y q r t u v w;refine⟨by omega,by omega,?_⟩;rw[X,show ((I J 4)+1).toNat=(I J 4).toNat+1 by omega,D6 Z,RB];refine⟨M,?_⟩;have Y:¬ ¬I J 18=0:=fun a=>by
    have:=O.2 a;simp[this] at Q
   have P:(I J 18)=0:=At Y;rw[x,y,q,r,t,u,v,w] at P;exact decide_eq_true P
  .obtain⟨c,d,e,-⟩:=p;obtain⟨i,j,-⟩:=N;simp only[BS,BZ,zN,zR,w2P,zL] at c d e i j;obtain⟨V,W,M⟩:=o;intro g;have l:=d.1 (e.1 (i.1 g).1).2;rw[c,z] at l;have X:=o2' j (by omega);omega
theorem nA (a0:zP T)(ax:∀u∈(L T 0),Bb BT KB u)(an:yU T (I T 4))(aw:¬B T 21=true)(r:BV T O7)(c:BV T Fh)(s:BV T UF):
  ((I T 30)=(Bc (L T 0))):=by
 have X:=r;clear r;obtain⟨Y,c⟩:=c.cut;have Z:=c;clear c;have F3:=s;clear s
 .obtain⟨h,j,H,-⟩:=X;obtain⟨o,p,q,K,M,t,v,-,w,x,-,y,z,i,A,k,-⟩:=Y;obtain⟨D,-⟩:=Z;obtain⟨d,-,l,E,-,F,-,J,-⟩:=F3;replace i:I T 18=(Gw (I T 9) (I T 10) (I T 11) (S T 13) (S T 14) (I T 16) (I T 17)):=i;replace d:B T 23=(EZ (L T 0)):=d;simp only[BS,BZ,zN,zR,zL,zS] at h j H o p q K M t v w x y z A k D l E F J;obtain⟨v1,v2,W⟩:=an;unfold Bc;rw[J];by_cases C:(B T 2)=true
  .have g:=j.1 C;rw[h] at g;rw[BH C,BH (by omega)]
  .have g:¬200 < I T 1:=fun a=>C (j.2 a);rw[h] at g;have P:=H.2 (by simpa using C);rw[BG C,BG (by omega),F];by_cases e:(I T 4) < I T 5
   .have al:(I T 4).toNat < ((L T 0)).length:=by rw[o] at e;omega
    have Q:=q.2 ⟨P,p.2 e⟩;have b:(B T 19)=true:=by
     by_cases b:(B T 19)=true
     .exact b
     .exact absurd (D.2 ⟨Q,by simpa using b⟩) aw
    have a5:¬((L T 0)).all Ed=true:=fun a=>by
     have O:=of_decide_eq_true (Ae.1 a _ (Ca al));have N:=A.1 b;rw[i,M,t,v,w,x,y,z] at N;exact N O
    rw[BH (k.2 ⟨Q,b⟩),BH a5]
   .have V:(B T 6)=false:=Bool.eq_false_iff.2 fun a=>e (p.1 a);have ao:¬B T 20=true:=fun a=>by have:=(q.1 (k.1 a).1).2;rw[V] at this;cases this
    have ei:(I T 4).toNat=((L T 0)).length:=by rw[o] at e;omega
    rw[ei,BD] at W;rw[BG ao,BG (fun a=>a W),E];have h8:=K.2 ⟨P,V⟩;by_cases ac:EZ (L T 0)=true
    .rw[BH ac,BG (fun a=>by have:=(l.1 a).2;rw[d,ac] at this;cases this)]
    .rw[BG ac,BH (l.2 ⟨h8,by rw[d];simpa using ac⟩)]
theorem jM:Bl Try.prog 21 Je:=by
 refine B7 (l:=[(22,Jl),(62,Ga)]) CP (by simp only[AW];exact⟨fH,oA,fun _ h=>absurd h (by simp)⟩) qF (by kernel_rfl) fun T us D x p d t a=>?_;change us.length=1 at p;obtain⟨⟨b,z⟩,-⟩:=t;replace b:(L T 0).length<=140737488355328:=b;have C:∀u∈(L T 0),Bb BT KB u:=fun u E=>by
  obtain⟨i,Z⟩:=Ac.1 E;exact z i u Z
 have y:=inL (j:=0) x p (by decide);clear D;rw[AL,AL,AL] at a;obtain⟨g,a⟩:=cutB a;obtain⟨k,a⟩:=cutB a;obtain⟨c,a⟩:=cutB a;obtain⟨q,e⟩:=Be d (by kernel_rfl) g;obtain⟨J,o,F,H⟩:=fk b e c k;have v:=(Be (o.append e) (l:=Fh) (by kernel_rfl) c);obtain⟨s,d⟩:=v;clear g c k e o;obtain⟨r,w⟩:=B8 (A:=[.i]) (ag:=YL) d (by kernel_rfl) a;have K:=nA b C F H q s r;refine⟨⟨(fun _=>J),trivial⟩,w.trans ?_⟩;exact (lc (by show U.int (I T 30)= .int (LE us);unfold LE;rw[y];exact BI U.int K) rfl)
def Hm:List U->Int:=fun us=>(if¬BW (aL us 0)=0 then BW (aL us 0) else Bc (aL us 1))
def KX:Bf:={ sh:=[.one (.list [.str,k64,k64]),.one (.list [k64,k64,k64,.bool,.str,.str,.bool,k64,k64])],blks:=[],outs:=[(.s "rboth.0",CW Hm)],c:=(Cy 2),m':=[],pre:=[] }
def fj:List En:=[⟨2,.outI "rCheckP.0" G2,[.e 0]⟩,
 ⟨3,.ne,[.e 2,.c (.int 0)]⟩,
 ⟨4,.outI "rCheckP.0" G2,[.e 0]⟩,
 ABI 5 3,
 ⟨6,.outI "rCheckL.0" LE,[.e 1]⟩,
 ABT 7 3 4 6,
 ABG 8 3 5]
def Yk:List En:=fj
def uv:List ObE:=[]
def hJ:List Rf:=[.e 7]
theorem vd:KX.sees hJ (KX.run Try.prog [(20,D9),(21,Je)] Bp 3000 20 79)=some ((Yk).map En.be,uv.map ObE.be,[]):=by kernel_rfl
theorem v8 (p:zP T)(l:∀u∈(L T 0),Bb BT KP u)(q:(L T 1).length<=140737488355328)(o:∀u∈(L T 1),Bb BT KB u)(e:BV T Yk):
  ((I T 7)=(if¬BW (L T 0)=0 then BW (L T 0) else Bc (L T 1))):=by
 have j:=e;clear e
 .obtain⟨b,g,c,-,d,i,-⟩:=j;replace b:I T 2=(BW (L T 0)):=b;replace c:I T 4=(BW (L T 0)):=c;replace d:I T 6=(Bc (L T 1)):=d;simp only[BS,BZ,zR,zL,zS] at g i;have k:(B T 3)=true↔¬BW (L T 0)=0:=by rw[g,b]
  rw[i];by_cases h:(B T 3)=true
  .rw[BH h,BH (k.1 h),c]
  .rw[BG h,BG (fun a=>h (k.2 a)),d]
theorem dV:Bl Try.prog 79 KX:=by
 refine B7 (l:=[(20,D9),(21,Je)]) CP (by simp only[AW];exact⟨V9,jM,fun _ h=>absurd h (by simp)⟩) vd (by kernel_rfl) fun T us y e d q k o=>?_;change us.length=2 at d;obtain⟨⟨a,t⟩,⟨b,v⟩,-⟩:=k;replace a:(L T 0).length<=140737488355328:=a;have w:∀u∈(L T 0),Bb BT KP u:=fun u c=>by
  obtain⟨i,Z⟩:=Ac.1 c;exact t i u Z
 replace b:(L T 1).length<=140737488355328:=b;have x:∀u∈(L T 1),Bb BT KB u:=fun u c=>by
  obtain⟨i,Z⟩:=Ac.1 c;exact v i u Z
 have r:=inL (j:=0) e d (by decide);have s:=inL (j:=1) e d (by decide);clear y
 skip
 obtain⟨g,p⟩:=B8 (A:=[.i]) (ag:=hJ) q (by kernel_rfl) o;have z:=v8 a w b x g;refine⟨trivial,p.trans ?_⟩;exact (lc (by show U.int (I T 7)= .int (Hm us);unfold Hm;rw[r,s];exact BI U.int z) rfl)
def L3:List U->Int:=fun us=>(Bm (aL us 0) (aS us 2))
def JJ:List U->Prop:=fun us=>((aL us 0)).length=(aI us 1)
def Ko:Bf:={ sh:=[.one (.str)],blks:=[],outs:=[(.s "findR.0",CW L3)],c:=(Cy 3),m':=[.mrow 0 1 [.str,k64,k64] 23],pre:=[(.s "findR.p0",JJ)],row:=some ([.str,k64,k64],23) }
abbrev Ji (T:Tab)(a:Int):Prop:=0<=a/\a<=I T 1/\∀j:Nat,(j:Int) < a->¬uS (((L T 0)).getD j []) 0=S T 2
def Yt:List En:=[]
def fe:List En:=[ABH 4 3 1,
 ABI 5 4,
 ABX 6 0 3,
 ⟨7,.eqs [.s],[.e 6,.e 2]⟩,
 ABE 8 4 7,
 ABF 9 4 7,
 ⟨10,.w2 .i64 .add,[.e 3,.c (.int 1)]⟩]
def Hu:List En:=fe
def Yx:List ObE:=[⟨some 4,.inr,[.e 3,.e 1]⟩]
def Oe:Bs:=mkD 3 1 Hu 9 [.e 10] Yx [2,0,1]
def SJ:List Rf:=[.e 2,.e 0,.e 1,.c (.int 0)]
def fW:List En:=[⟨11,.ite .i,[.e 8,.e 3,.c (.int (-1))]⟩,
 ABG 12 8 5]
def Yh:List En:=fW
def uY:List ObE:=[⟨none,.owes Oe,[.e 2,.e 0,.e 1,.c (.int 0)]⟩]
def iq:List Rf:=[.e 11]
theorem vN:Ko.sees iq (Ko.run Try.prog [] Bp 3000 20 76)=some ((Yt++((B5 Oe [.i] SJ)++(Hu++(Yh)))).map En.be,uY.map ObE.be,[]):=by kernel_rfl
theorem pn (Y:0<=I T 1)(W:I T 1<=140737488355328)(v:Ba T (Bh (CA 0 Ko.ks) Yt))(t:Bi T (Hu.map En.be))(u:Bi T ((B5 Oe [.i] SJ).map En.be)):
  (Oe).owes (SJ.map (Rf.eval T))/\Ba T (hds 3 [.i])/\(Ji T (I T 3))/\¬B T 9=true:=by
 refine CK (nh:=3) (k:=1) (pcn:=9) (R:=11) (b:=Hu) (K:=Yx) (nxt:=[.e 10]) (H:=[.c (.int 0)]) (fv:=[2,0,1]) (A:=[.i]) (by kernel_rfl) rfl rfl rfl rfl v (by kernel_rfl) (by kernel_rfl) t (B6 u) (fun s=>Ji T (aI s 0)) (fun s=>((I T 1) - (aI s 0)).toNat) ?_ ?_
 .show Ji T (0:Int);clear v t u;exact⟨Aw _,by omega,fun j h=>by omega⟩
 .intro J p o i;replace i:Ji T (I J 3):=i;clear v t u;replace o:BV J Hu:=o;have q:=o;clear o;have F:=fvS (p 2 (by decide));have E:=fvL (p 0 (by decide));have l:=fvI (p 1 (by decide));clear p
  suffices N:(B J 4=true->0<=I J 3/\I J 3 < I J 1)/\(B J 9=true->(Ji T (I J 10)))/\(B J 9=true->((I T 1) - (I J 10)).toNat < ((I T 1) - (I J 3)).toNat) from
   let⟨Q,P,O⟩:=N;⟨⟨Q,trivial⟩,fun c=>⟨P c,O c⟩⟩
  refine⟨?_,?_,?_⟩
  .obtain⟨a,-⟩:=q;simp only[BS,zR] at a;obtain⟨z,C,w⟩:=i;intro c;have g:=a.1 c;rw[l] at g;rw[l];omega
  .obtain⟨a,-,x,y,-,e,d,-⟩:=q;simp only[BS,BZ,zN,zR,Dw,and_true,w2P,zL,zS] at a x y e d;obtain⟨z,C,w⟩:=i;intro c;have r:=e.1 c;have g:=a.1 r.1;rw[l] at g;have V:=o2' d (by omega);refine⟨by omega,by omega,fun j X=>?_⟩;rcases Int.lt_or_le (j:Int) (I J 3) with h|h
   .exact w j h
   .have D:j=(I J 3).toNat:=by omega
    rw[D];intro M;have:(B J 7)=true:=y.2 (by rw[x,E,F];exact M);rw[this] at r;cases r.2
  .obtain⟨a,-,-,-,-,e,d,-⟩:=q;simp only[BS,BZ,zN,zR,w2P] at a e d;obtain⟨z,C,w⟩:=i;intro c;have g:=a.1 (e.1 c).1;rw[l] at g;have V:=o2' d (by omega);omega
theorem uo (D:zP T)(A:∀u∈(L T 0),Bb BT KP u)(F:0<=I T 1)(z:I T 1<=140737488355328)(E:(S T 2).size<=140737488355328)(H:((L T 0)).length=I T 1)(w:Ji T (I T 3))(y:¬B T 9=true)(l:BV T Hu)(k:BV T Yh):
  ((I T 11)=(Bm (L T 0) (S T 2))):=by
 have s:=l;clear l;have t:=k;clear k
 .obtain⟨e,-,o,p,g,q,-⟩:=s;obtain⟨d,-⟩:=t;simp only[BS,BZ,zN,zR,Dw,and_true,zL,zS] at e o p g q d;obtain⟨J,K,r⟩:=w;by_cases c:(B T 8)=true
  .obtain⟨b,a⟩:=g.1 c;have b:=e.1 b;have a:=p.1 a;rw[o] at a;rw[d,BH c,ig (i:=(I T 3).toNat) (by omega) (fun j v=>r j (by omega)) a];omega
  .have x:¬B T 4=true:=fun b=>by
    by_cases a:(B T 7)=true
    .exact c (g.2 ⟨b,a⟩)
    .exact y (q.2 ⟨b,by simpa using a⟩)
   have C:¬I T 3 < I T 1:=fun h=>x (e.2 (by exact h));rw[d,BG c,Yi fun j v=>r j (by omega)]
theorem qx:Bl Try.prog 76 Ko:=by
 refine B7 (l:=[]) CP (by intro p h;exact absurd h (by simp)) vN (by kernel_rfl) fun T us x o c g C a=>?_;change us.length=3 at c;obtain⟨⟨q,J⟩,⟨d,b⟩,r,-⟩:=C;replace q:(L T 0).length<=140737488355328:=q;have K:∀u∈(L T 0),Bb BT KP u:=fun u M=>by
  obtain⟨i,Z⟩:=Ac.1 M;exact J i u Z
 replace d:0<=I T 1:=d;replace b:I T 1<=140737488355328:=b;replace r:(S T 2).size<=140737488355328:=r;have w:=inL (j:=0) o c (by decide);have F:=inI (j:=1) o c (by decide);have H:=inS (j:=2) o c (by decide);have Q:((L T 0)).length=I T 1:=by
  have h:=x (.s "findR.p0",JJ) (by simp[Ko]);change JJ us at h;unfold JJ at h;simp only[w,F] at h;exact h
 clear x;rw[AL,AL,AL] at a;obtain⟨s,a⟩:=cutB a;obtain⟨t,a⟩:=cutB a;obtain⟨e,a⟩:=cutB a;obtain⟨W,k⟩:=Be g (by kernel_rfl) s;obtain⟨P,v,N,O⟩:=pn d b k e t;have D:=(Be (v.append k) (l:=Hu) (by kernel_rfl) e);obtain⟨z,g⟩:=D;clear s e t k v;obtain⟨y,E⟩:=B8 (A:=[.i]) (ag:=iq) g (by kernel_rfl) a;have V:=uo q K d b r Q N O z y;refine⟨⟨(fun _=>P),trivial⟩,E.trans ?_⟩;exact (lc (by show U.int (I T 11)= .int (L3 us);unfold L3;rw[w,H];exact BI U.int V) rfl)
def OV:List U->Int:=fun us=>(CJ (aI us 0) (aI us 1) (aB us 2))
def Lk:List U->Prop:=fun us=> -10000<=(aI us 0)/\(aI us 0)<=10000/\ -10000<=(aI us 1)/\(aI us 1)<=10000
def Mz:Bf:={ sh:=[.one (k64),.one (k64),.one (.bool)],blks:=[],outs:=[(.s "rgain.0",CW OV)],c:=(Cy 3),m':=[],pre:=[(.s "rgain.p0",Lk)] }
def fE:List En:=[⟨3,.row 20 1 [.i,.i,.i,.i,.i,.i,.i,.i,.i,.i,.i,.i,.i,.i,.i,.i,.i,.i,.i,.i],[.c (.int 10),.c (.int 9),.c (.int 8),.c (.int 7),.c (.int 6),.c (.int 6),.c (.int 5),.c (.int 5),.c (.int 4),.c (.int 4),.c (.int 3),.c (.int 3),.c (.int 3),.c (.int 2),.c (.int 2),.c (.int 2),.c (.int 1),.c (.int 1),.c (.int 1),.c (.int 1)]⟩,
 ABY 4 0 1,
 ⟨5,.le,[.c (.int 0),.e 4]⟩,
 ABE 6 2 5,
 ⟨7,.o2 .tdiv,[.e 4,.c (.int 100)]⟩,
 ⟨8,.o2 .min,[.e 7,.c (.int 19)]⟩,
 ABM 9 3 8,
 ABF 10 2 5,
 ⟨11,.wneg .i64,[.e 4]⟩,
 ⟨12,.o2 .tdiv,[.e 11,.c (.int 100)]⟩,
 ⟨13,.o2 .min,[.e 12,.c (.int 19)]⟩,
 ABM 14 3 13,
 ⟨15,.o2 .sub,[.c (.int 20),.e 14]⟩,
 ABT 16 5 9 15,
 ABG 17 6 10,
 ABI 18 2]
def fF:List En:=[⟨19,.ite .i,[.e 2,.e 16,.c (.int 10)]⟩,
 ABG 20 17 18]
def X8:List En:=fE++(fF)
def u4:List ObE:=[⟨some 10,.inl,[.e 13,.e 3]⟩,
 ⟨some 6,.inl,[.e 8,.e 3]⟩]
def gi:List Rf:=[.e 19]
theorem um:Mz.sees gi (Mz.run Try.prog [] Bp 3000 20 89)=some ((X8).map En.be,u4.map ObE.be,[]):=by kernel_rfl
theorem uZ (u: -10000<=I T 0/\I T 0<=10000/\ -10000<=I T 1/\I T 1<=10000)(p:BV T X8):
  ((I T 19)=(CJ (I T 0) (I T 1) (B T 2)))/\
  (B T 10=true->0<=I T 13/\I T 13 < ((L T 3)).length)/\
  (B T 6=true->0<=I T 8/\I T 8 < ((L T 3)).length):=by
 obtain⟨r,p⟩:=p.cut;have J:=p;clear p;refine⟨?_,?_,?_⟩
 .obtain⟨c,d,b,-,l,o,A,-,i,j,k,w,x,y,-⟩:=r;obtain⟨s,-⟩:=J;simp only[BS,BZ,zR,EK,w2P,wnP,zL,zS,uR,Cp,zW] at c d b l o A i j k w x y s;obtain⟨C,D,E,F⟩:=u;have g:(L T 3)=Sq:=c;have H:=o2' d (by omega);unfold CJ;by_cases q:(B T 2)=true
  .rw[s,BH q,BH q,y];by_cases e:(B T 5)=true
   .have t:=b.1 e;have O:(I T 7)=(I T 4) / 100:=by rw[l,BH (by omega)]
    have P:(I T 8)=min (((I T 0) - (I T 1)) / 100) 19:=by
     rw[o];split<;>omega
    rw[BH e,BG (by omega),A,g,ed (by omega) (by omega),P]
   .have t:¬0<=I T 4:=fun a=>e (b.2 a);have K:=o2' i.1 (by omega);have M:(I T 12)=(I T 11) / 100:=by rw[j,BH (by omega)]
    have N:(I T 13)=min (((I T 1) - (I T 0)) / 100) 19:=by
     rw[k];split<;>omega
    rw[BG e,BH (by omega),x,w,g,ed (by omega) (by omega),N]
  .rw[s,BG q,BG q]
 .obtain⟨c,d,b,-,-,-,-,v,i,j,k,-⟩:=r;simp only[BS,BZ,zN,zR,EK,w2P,wnP,zL,zS,uR,Cp,zW] at c d b v i j k;intro h;obtain⟨C,D,E,F⟩:=u;have g:(L T 3)=Sq:=c;have H:=o2' d (by omega);have e:¬B T 5=true:=fun a=>by
   have:=(v.1 h).2;simp[a] at this
  have t:¬0<=I T 4:=fun a=>e (b.2 a);have K:=o2' i.1 (by omega);have M:(I T 12)=(I T 11) / 100:=by rw[j,BH (by omega)]
  rw[g,k];show 0<=_/\_ < ((20:Nat):Int);split<;>omega
 .obtain⟨c,d,b,z,l,o,-⟩:=r;simp only[BS,BZ,zR,EK,w2P,zL,zS,uR,Cp,zW] at c d b z l o;intro h;obtain⟨C,D,E,F⟩:=u;have g:(L T 3)=Sq:=c;have H:=o2' d (by omega);have t:=b.1 (z.1 h).2;have O:(I T 7)=(I T 4) / 100:=by rw[l,BH (by omega)]
  rw[g,o];show 0<=_/\_ < ((20:Nat):Int);split<;>omega
theorem tZ:Bl Try.prog 89 Mz:=by
 refine B7 (l:=[]) CP (by intro p h;exact absurd h (by simp)) um (by kernel_rfl) fun T us e b a q i k=>?_;change us.length=3 at a;clear i;have c:=inI (j:=0) b a (by decide);have d:=inI (j:=1) b a (by decide);have r:=inB (j:=2) b a (by decide);have s: -10000<=I T 0/\I T 0<=10000/\ -10000<=I T 1/\I T 1<=10000:=by
  have h:=e (.s "rgain.p0",Lk) (by simp[Mz]);change Lk us at h;unfold Lk at h;simp only[c,d] at h;exact h
 clear e
 skip
 obtain⟨g,o⟩:=B8 (A:=[.i]) (ag:=gi) q (by kernel_rfl) k;obtain⟨t,u,ay⟩:=uZ s g;refine⟨⟨u,ay,trivial⟩,o.trans ?_⟩;exact (lc (by show U.int (I T 19)= .int (OV us);unfold OV;rw[c,d,r];exact BI U.int t) rfl)
def L2:List U->Int:=fun us=>(Dp (aI us 0))
def JL:List U->Prop:=fun us=> -100<=(aI us 0)/\(aI us 0)<=100
def M0:Bf:={ sh:=[.one (k64)],blks:=[],outs:=[(.s "rtrig.0",CW L2)],c:=(Cy 1),m':=[],pre:=[(.s "rtrig.p0",JL)] }
def fC:List En:=[⟨1,.le,[.e 0,.c (.int 0)]⟩,
 ⟨2,.w2 .i64 .mul,[.c (.int 40),.e 0]⟩,
 ⟨3,.w2 .i64 .sub,[.c (.int 2000),.e 2]⟩,
 ABI 4 1,
 ⟨5,.w2 .i64 .mul,[.c (.int 50),.e 0]⟩,
 ⟨6,.w2 .i64 .sub,[.c (.int 2000),.e 5]⟩,
 ABT 7 1 3 6,
 ABG 8 1 4]
def Ye:List En:=fC
def uX:List ObE:=[]
def iP:List Rf:=[.e 7]
theorem vW:M0.sees iP (M0.run Try.prog [] Bp 3000 20 90)=some ((Ye).map En.be,uX.map ObE.be,[]):=by kernel_rfl
theorem vT (l: -100<=I T 0/\I T 0<=100)(c:BV T Ye):
  ((I T 7)=(Dp (I T 0))):=by
 have k:=c;clear c
 .obtain⟨b,d,e,-,g,i,j,-⟩:=k;simp only[BS,BZ,zR,w2P,zL,zS] at b d e g i j;unfold Dp;have aw:=o2' d (by omega);have o:=o2' e (by omega);have p:=o2' g (by omega);have q:=o2' i (by omega);rw[j];by_cases h:(I T 0)<=0
  .rw[BH (b.2 h),BH h];omega
  .rw[BG (fun a=>h (b.1 a)),BG h];omega
theorem sE:Bl Try.prog 90 M0:=by
 refine B7 (l:=[]) CP (by intro p h;exact absurd h (by simp)) vW (by kernel_rfl) fun T us b o c k e g=>?_;change us.length=1 at c;clear e;have a:=inI (j:=0) o c (by decide);have q: -100<=I T 0/\I T 0<=100:=by
  have h:=b (.s "rtrig.p0",JL) (by simp[M0]);change JL us at h;unfold JL at h;simp only[a] at h;exact h
 clear b
 skip
 obtain⟨d,i⟩:=B8 (A:=[.i]) (ag:=iP) k (by kernel_rfl) g;have r:=vT q d;refine⟨trivial,i.trans ?_⟩;exact (lc (by show U.int (I T 7)= .int (L2 us);unfold L2;rw[a];exact BI U.int r) rfl)
def Ll:List U->Int:=fun us=>(B9 (aI us 1) (aI us 3))
def L8:List U->Int:=fun us=>(Cz (B9 (aI us 1) (aI us 3)) (aI us 2))
def JM:List U->Prop:=fun us=> -10000<=(aI us 1)/\(aI us 1)<=10000/\ -12<=(aI us 2)/\(aI us 2)<=48/\ -100<=(aI us 3)/\(aI us 3)<=100
def JP:Bf:={ sh:=[.agg [.str,k64,k64],.one (k64)],blks:=[],outs:=[(.s "rmove.0",CW Ll),(.s "rmove.1",CW L8)],c:= .agg [.s 0,(Cy 4),(Cy 5)],m':=[],pre:=[(.s "rmove.p0",JM)] }
def fz:List En:=[ABW 4 1 3,
 ⟨5,.o2 .min,[.e 4,.c (.int 10000)]⟩,
 ⟨6,.o2 .max,[.c (.int (-10000)),.e 5]⟩]
def JX:List En:=fz
def fm:List En:=[⟨8,.lt,[.c (.int (-12)),.e 7]⟩,
 ABU 9 8,
 ABU 10 8,
 ⟨11,.w2 .i64 .sub,[.e 7,.c (.int 1)]⟩,
 ⟨12,.outI "rtrig.0" L2,[.e 11]⟩,
 ⟨13,.le,[.e 12,.e 6]⟩,
 ABE 14 8 13,
 ABI 15 14,
 ⟨16,.w2 .i64 .sub,[.e 7,.c (.int 1)]⟩]
def FV:List En:=fm
def YO:List ObE:=[⟨some 10,.pre "rtrig.p0" JL,[.e 11]⟩]
def N8:Bs:=mkD 7 1 FV 14 [.e 16] YO [6]
def SK:List Rf:=[.e 6,.e 2]
def Yy:List En:=[]
def gM:List En:=[⟨18,.lt,[.e 17,.c (.int 48)]⟩,
 ABE 19 15 18,
 ABE 20 15 18,
 ⟨21,.w2 .i64 .add,[.e 17,.c (.int 1)]⟩,
 ⟨22,.outI "rtrig.0" L2,[.e 21]⟩,
 ⟨23,.le,[.e 6,.e 22]⟩,
 ABE 24 18 23,
 ABE 25 15 24,
 ABF 26 15 24,
 ⟨27,.w2 .i64 .add,[.e 17,.c (.int 1)]⟩]
def Hs:List En:=gM
def Y0:List ObE:=[⟨some 20,.pre "rtrig.p0" JL,[.e 21]⟩]
def N7:Bs:=mkD 17 1 Hs 25 [.e 27] Y0 [15,6]
def Rn:List Rf:=[.e 15,.e 6,.e 7]
def nT:List En:=[]
def wF:List ObE:=[⟨some 15,.owes N7,[.e 15,.e 6,.e 7]⟩,
 ⟨none,.owes N8,[.e 6,.e 2]⟩]
def gc:List Rf:=[.e 6,.e 17]
theorem vK:JP.sees gc (JP.run Try.prog [(90,M0)] Bp 3000 20 114)=some ((JX++((B5 N8 [.i] SK)++(FV++(Yy++((B5 N7 [.i] Rn)++(Hs++(nT))))))).map En.be,wF.map ObE.be,[]):=by kernel_rfl
abbrev zY(T:Tab):Prop:=(S T 0).size<=140737488355328
abbrev zZ(T:Tab):Prop:=-10000<=I T 1/\I T 1<=10000/\ -12<=I T 2/\I T 2<=48/\ -100<=I T 3/\I T 3<=100
theorem mC (b:zY T)(c:zZ T)(a:BV T JX):
  (-12<=I T 2/\I T 2<=48):=by
 grind
abbrev yV(T:Tab)(a:Int):Prop:=-12<=a/\a <=48/\Cg (I T 6) a=Cg (I T 6) (I T 2)
theorem p9 (N: -12<=I T 2/\I T 2<=48)(u:Ba T (Bh (CA 0 JP.ks) JX))(r:Bi T (FV.map En.be))(t:Bi T ((B5 N8 [.i] SK).map En.be)):
  (N8).owes (SK.map (Rf.eval T))/\Ba T (hds 7 [.i])/\(yV T (I T 7))/\¬B T 14=true:=by
 refine CK (nh:=7) (k:=1) (pcn:=14) (R:=17) (b:=FV) (K:=YO) (nxt:=[.e 16]) (H:=[.e 2]) (fv:=[6]) (A:=[.i]) (by kernel_rfl) rfl rfl rfl rfl u (by kernel_rfl) (by kernel_rfl) r (B6 t) (fun s=> yV T (aI s 0)) (fun s=>((aI s 0)+12).toNat) ?_ ?_
 .show yV T (I T 2);grind
 .intro J v g l;replace l: yV T (I J 7):=l;clear u r t;replace g:BV J FV:=g;have i:=g;clear g;have w:=fvI (v 6 (by decide));clear v
  suffices y:(B J 10=true-> -100<=I J 11/\I J 11<=100)/\(B J 14=true->(yV T (I J 16)))/\(B J 14=true->((I J 16)+12).toNat < ((I J 7)+12).toNat) from
   let⟨D,C,z⟩:=y;⟨⟨D,trivial⟩,fun h=>⟨C h,z h⟩⟩
  refine⟨?_,?_,?_⟩
  .obtain⟨-,-,-,a,-⟩:=i;simp only[BS,zR,w2P] at a;grind
  .obtain⟨e,-,-,a,j,o,c,-,d,-⟩:=i;replace j:I J 12=(Dp (I J 11)):=j;simp only[BS,BZ,zR,w2P] at e a o c d;obtain⟨O,P,E⟩:=l;intro h;have q:=c.1 h;have x:=e.1 q.1;have p:=o.1 q.2;have F:=o2' a (by omega);have M:=o2' d (by omega);rw[j,F,w] at p;refine⟨by omega,by omega,?_⟩;rw[M,<-E];exact (Sc x p).symm
  .obtain⟨e,-,-,-,-,-,c,-,d,-⟩:=i;simp only[BS,BZ,zR,w2P] at e c d;grind
theorem kM (d:zY T)(h:zZ T)(c: -12<=I T 2/\I T 2<=48)(e: yV T (I T 7))(g:¬B T 14=true)(a:BV T JX)(b:BV T FV):
  (-12<=I T 7/\I T 7<=48):=by
 grind
abbrev yW(T:Tab)(a:Int):Prop:=-12<=a/\a <=48/\upG (I T 6) a=upG (I T 6) (I T 7)
theorem qI (P: -12<=I T 7/\I T 7<=48)(w:Ba T (Bh (Bh (hds 7 [.i]++(Bh (CA 0 JP.ks) JX)) FV) Yy))(u:Bi T (Hs.map En.be))(v:Bi T ((B5 N7 [.i] Rn).map En.be)):
  (N7).owes (Rn.map (Rf.eval T))/\Ba T (hds 17 [.i])/\(yW T (I T 17))/\¬B T 25=true:=by
 refine CK (nh:=17) (k:=1) (pcn:=25) (R:=28) (b:=Hs) (K:=Y0) (nxt:=[.e 27]) (H:=[.e 7]) (fv:=[15,6]) (A:=[.i]) (by kernel_rfl) rfl rfl rfl rfl w (by kernel_rfl) (by kernel_rfl) u (B6 v) (fun s=> yW T (aI s 0)) (fun s=>(48 - (aI s 0)).toNat) ?_ ?_
 .show yW T (I T 7);grind
 .intro J o h p;replace p: yW T (I J 17):=p;clear w u v;replace h:BV J Hs:=h;have j:=h;clear h;have O:=fvB (o 15 (by decide));have x:=fvI (o 6 (by decide));clear o
  suffices z:(B J 20=true-> -100<=I J 21/\I J 21<=100)/\(B J 25=true->(yW T (I J 27)))/\(B J 25=true->(48 - (I J 27)).toNat < (48 - (I J 17)).toNat) from
   let⟨E,D,C⟩:=z;⟨⟨E,trivial⟩,fun i=>⟨D i,C i⟩⟩
  refine⟨?_,?_,?_⟩
  .obtain⟨-,-,-,c,-⟩:=j;simp only[BS,zR,w2P] at c;grind
  .obtain⟨a,-,-,c,l,q,d,e,-,g,-⟩:=j;replace l:I J 22=(Dp (I J 21)):=l;simp only[BS,BZ,zR,w2P] at a c q d e g;obtain⟨Q,V,F⟩:=p;intro i;have t:=d.1 (e.1 i).2;have y:=a.1 t.1;have r:=q.1 t.2;have M:=o2' c (by omega);have N:=o2' g (by omega);rw[l,M,x] at r;refine⟨by omega,by omega,?_⟩;rw[N,<-F];exact (XH y r).symm
  .obtain⟨a,-,-,-,-,-,d,e,-,g,-⟩:=j;simp only[BS,BZ,zR,w2P] at a d e g;grind
theorem uk (W:zY T)(p:zZ T)(V: -12<=I T 2/\I T 2<=48)(D: yV T (I T 7))(X:¬B T 14=true)(Q: -12<=I T 7/\I T 7<=48)(E: yW T (I T 17))(Y:¬B T 25=true)(h:BV T JX)(i:BV T FV)(j:BV T Hs):
  ((I T 6)=(B9 (I T 1) (I T 3)))/\
  ((I T 17)=(Cz (B9 (I T 1) (I T 3)) (I T 2))):=by
 have k:=h;clear h;have q:=i;clear i;have r:=j;clear j;refine⟨?_,?_⟩
 .obtain⟨b,c,d,-⟩:=k;simp only[BS,zR,EK,w2P] at b c d;obtain⟨F,H,J,K,M,N⟩:=p;have g:=o2' b (by omega);have e:(I T 6)=B9 (I T 1) (I T 3):=by
   unfold B9;rw[d,c,g];omega
  exact e
 .obtain⟨b,c,d,-⟩:=k;obtain⟨C,-,-,s,l,t,u,v,-⟩:=q;obtain⟨w,-,-,x,o,y,z,A,-⟩:=r;replace l:I T 12=(Dp (I T 11)):=l;replace o:I T 22=(Dp (I T 21)):=o;simp only[BS,BZ,zR,EK,w2P] at b c d C s t u v w x y z A;obtain⟨F,H,J,K,M,N⟩:=p;have g:=o2' b (by omega);have e:(I T 6)=B9 (I T 1) (I T 3):=by
   unfold B9;rw[d,c,g];omega
  obtain⟨Z,v2,O⟩:=D;obtain⟨aO,w2,P⟩:=E;rw[<-e];unfold Cz;have hd:Cg (I T 6) (I T 2)=I T 7:=by
   rw[<-O];refine Sg fun a=>?_;grind
  rw[hd,<-P];refine (XW fun a=>?_).symm;grind
theorem rG:Bl Try.prog 114 JP:=by
 refine B7 (l:=[(90,M0)]) CP (by simp only[AW];exact⟨sE,fun _ h=>absurd h (by simp)⟩) vK (by kernel_rfl) fun T us y r o g E a=>?_;change us.length=4 at o;obtain⟨k,-⟩:=E;replace k:(S T 0).size<=140737488355328:=k;have v:=inI (j:=1) r o (by decide);have H:=inI (j:=2) r o (by decide);have w:=inI (j:=3) r o (by decide);have t: -10000<=I T 1/\I T 1<=10000/\ -12<=I T 2/\I T 2<=48/\ -100<=I T 3/\I T 3<=100:=by
  have h:=y (.s "rmove.p0",JM) (by simp[JP]);change JM us at h;unfold JM at h;grind
 clear y;rw[AL,AL,AL,AL,AL,AL] at a;obtain⟨d,a⟩:=cutB a;obtain⟨e,a⟩:=cutB a;obtain⟨b,a⟩:=cutB a;obtain⟨p,c⟩:=Be g (by kernel_rfl) d;have s:=mC k t p;obtain⟨M,i,z,C⟩:=p9 s c b e;have q:=(Be (i.append c) (l:=FV) (by kernel_rfl) b);obtain⟨u,g⟩:=q;clear d b e c i;obtain⟨d,a⟩:=cutB a;obtain⟨e,a⟩:=cutB a;obtain⟨b,a⟩:=cutB a;obtain⟨Q,c⟩:=Be g (by kernel_rfl) d;have x:=kM k t s z C p u;obtain⟨N,i,J,K⟩:=qI x c b e;have q:=(Be (i.append c) (l:=Hs) (by kernel_rfl) b);obtain⟨D,g⟩:=q;clear d b e c i;obtain⟨V,F⟩:=B8 (A:=[.i,.i]) (ag:=gc) g (by kernel_rfl) a;obtain⟨O,P⟩:=uk k t s z C x J K p u D;refine⟨⟨(fun _=>N),(fun _=>M),trivial⟩,F.trans ?_⟩;exact (lc (by show U.int (I T 6)= .int (Ll us);unfold Ll;rw[v,w];exact BI U.int O) (lc (by show U.int (I T 17)= .int (L8 us);unfold L8;rw[v,H,w];exact BI U.int P) rfl))
def MM:List U->Int:=fun us=>(B9 (aI us 1) (CJ (aI us 1) (aI us 4) (aB us 6)))
def Mw:List U->Int:=fun us=>(Cz (B9 (aI us 1) (CJ (aI us 1) (aI us 4) (aB us 6))) (aI us 2))
def Mk:List U->Int:=fun us=>(B9 (aI us 4) (-(CJ (aI us 1) (aI us 4) (aB us 6))))
def Me:List U->Int:=fun us=>(Cz (B9 (aI us 4) (-(CJ (aI us 1) (aI us 4) (aB us 6)))) (aI us 5))
def KW:List U->Prop:=fun us=> -10000<=(aI us 1)/\(aI us 1)<=10000/\ -12<=(aI us 2)/\(aI us 2)<=48
def KL:List U->Prop:=fun us=> -10000<=(aI us 4)/\(aI us 4)<=10000/\ -12<=(aI us 5)/\(aI us 5)<=48
def I3:Bf:={ sh:=[.agg [.str,k64,k64],.agg [.str,k64,k64],.one (.bool)],blks:=[],outs:=[(.s "rcount.0",CW MM),(.s "rcount.1",CW Mw),(.s "rcount.2",CW Mk),(.s "rcount.3",CW Me)],c:= .tup [.agg [.s 0,(Cy 7),(Cy 8)],.agg [.s 3,(Cy 9),(Cy 10)]],m':=[],pre:=[(.s "rcount.p0",KW),(.s "rcount.p1",KL)] }
def dc:List En:=[⟨7,.outI "rgain.0" OV,[.e 1,.e 4,.e 6]⟩,
 ⟨8,.outI "rmove.0" Ll,[.e 0,.e 1,.e 2,.e 7]⟩,
 ⟨9,.outI "rmove.1" L8,[.e 0,.e 1,.e 2,.e 7]⟩,
 ⟨10,.wneg .i64,[.e 7]⟩,
 ⟨11,.outI "rmove.0" Ll,[.e 3,.e 4,.e 5,.e 10]⟩,
 ⟨12,.outI "rmove.1" L8,[.e 3,.e 4,.e 5,.e 10]⟩]
def WH:List En:=dc
def rh:List ObE:=[⟨none,.pre "rmove.p0" JM,[.e 3,.e 4,.e 5,.e 10]⟩,
 ⟨none,.pre "rmove.p0" JM,[.e 0,.e 1,.e 2,.e 7]⟩,
 ⟨none,.pre "rgain.p0" Lk,[.e 1,.e 4,.e 6]⟩]
def dR:List Rf:=[.e 8,.e 9,.e 11,.e 12]
theorem tR:I3.sees dR (I3.run Try.prog [(89,Mz),(114,JP)] Bp 3000 20 92)=some ((WH).map En.be,rh.map ObE.be,[]):=by kernel_rfl
theorem tX (x:zY T)(y:(S T 3).size<=140737488355328)(g: -10000<=I T 1/\I T 1<=10000/\ -12<=I T 2/\I T 2<=48)(h: -10000<=I T 4/\I T 4<=10000/\ -12<=I T 5/\I T 5<=48)(w:BV T WH):
  ((I T 8)=(B9 (I T 1) (CJ (I T 1) (I T 4) (B T 6))))/\
  ((I T 9)=(Cz (B9 (I T 1) (CJ (I T 1) (I T 4) (B T 6))) (I T 2)))/\
  ((I T 11)=(B9 (I T 4) (-(CJ (I T 1) (I T 4) (B T 6)))))/\
  ((I T 12)=(Cz (B9 (I T 4) (-(CJ (I T 1) (I T 4) (B T 6)))) (I T 5)))/\
  (-10000<=I T 4/\I T 4<=10000/\ -12<=I T 5/\I T 5<=48/\ -100<=I T 10/\I T 10<=100)/\
  (-10000<=I T 1/\I T 1<=10000/\ -12<=I T 2/\I T 2<=48/\ -100<=I T 7/\I T 7<=100)/\
  (-10000<=I T 1/\I T 1<=10000/\ -10000<=I T 4/\I T 4<=10000):=by
 have d:=w;clear w;refine⟨?_,?_,?_,?_,?_,?_,?_⟩
 .obtain⟨a,u,-⟩:=d;replace a:I T 7=(CJ (I T 1) (I T 4) (B T 6)):=a;replace u:I T 8=(B9 (I T 1) (I T 7)):=u;rw[u,a]
 .obtain⟨a,-,v,-⟩:=d;replace a:I T 7=(CJ (I T 1) (I T 4) (B T 6)):=a;replace v:I T 9=(Cz (B9 (I T 1) (I T 7)) (I T 2)):=v;rw[v,a]
 .obtain⟨a,-,-,b,s,-⟩:=d;replace a:I T 7=(CJ (I T 1) (I T 4) (B T 6)):=a;replace s:I T 11=(B9 (I T 4) (I T 10)):=s;simp only[BS,zR,w2P,wnP] at b;obtain⟨i,j,k,l⟩:=g;obtain⟨o,p,q,r⟩:=h;have c:=EH (I T 1) (I T 4) (B T 6);rw[<-a] at c;have e:=o2' b.1 (by omega);rw[s,e,a]
 .obtain⟨a,-,-,b,-,t,-⟩:=d;replace a:I T 7=(CJ (I T 1) (I T 4) (B T 6)):=a;replace t:I T 12=(Cz (B9 (I T 4) (I T 10)) (I T 5)):=t;simp only[BS,zR,w2P,wnP] at b;obtain⟨i,j,k,l⟩:=g;obtain⟨o,p,q,r⟩:=h;have c:=EH (I T 1) (I T 4) (B T 6);rw[<-a] at c;have e:=o2' b.1 (by omega);rw[t,e,a]
 .obtain⟨a,-,-,b,-⟩:=d;replace a:I T 7=(CJ (I T 1) (I T 4) (B T 6)):=a;simp only[BS,zR,w2P,wnP] at b;obtain⟨i,j,k,l⟩:=g;obtain⟨o,p,q,r⟩:=h;have c:=EH (I T 1) (I T 4) (B T 6);rw[<-a] at c;have e:=o2' b.1 (by omega);omega
 .obtain⟨a,-,-,b,-⟩:=d;replace a:I T 7=(CJ (I T 1) (I T 4) (B T 6)):=a;simp only[BS,zR,w2P,wnP] at b;obtain⟨i,j,k,l⟩:=g;obtain⟨o,p,q,r⟩:=h;have c:=EH (I T 1) (I T 4) (B T 6);rw[<-a] at c;have e:=o2' b.1 (by omega);omega
 .obtain⟨a,-,-,b,-⟩:=d;replace a:I T 7=(CJ (I T 1) (I T 4) (B T 6)):=a;simp only[BS,zR,w2P,wnP] at b;obtain⟨i,j,k,l⟩:=g;obtain⟨o,p,q,r⟩:=h;have c:=EH (I T 1) (I T 4) (B T 6);rw[<-a] at c;have e:=o2' b.1 (by omega);omega
theorem px:Bl Try.prog 92 I3:=by
 refine B7 (l:=[(89,Mz),(114,JP)]) CP (by simp only[AW];exact⟨tZ,rG,fun _ h=>absurd h (by simp)⟩) tR (by kernel_rfl) fun T us g b a u r s=>?_;change us.length=7 at a;obtain⟨i,-,-,k,-⟩:=r;replace i:(S T 0).size<=140737488355328:=i;replace k:(S T 3).size<=140737488355328:=k;have c:=inI (j:=1) b a (by decide);have o:=inI (j:=2) b a (by decide);have d:=inI (j:=4) b a (by decide);have p:=inI (j:=5) b a (by decide);have e:=inB (j:=6) b a (by decide);have v: -10000<=I T 1/\I T 1<=10000/\ -12<=I T 2/\I T 2<=48:=by
  have h:=g (.s "rcount.p0",KW) (by simp[I3]);change KW us at h;unfold KW at h;simp only[c,o] at h;exact h
 have w: -10000<=I T 4/\I T 4<=10000/\ -12<=I T 5/\I T 5<=48:=by
  have h:=g (.s "rcount.p1",KL) (by simp[I3]);change KL us at h;unfold KL at h;simp only[d,p] at h;exact h
 clear g
 skip
 obtain⟨q,t⟩:=B8 (A:=[.i,.i,.i,.i]) (ag:=dR) u (by kernel_rfl) s;obtain⟨x,y,z,C,D,ay,aG⟩:=tX i k v w q;refine⟨⟨(fun _=>D),(fun _=>ay),(fun _=>aG),trivial⟩,t.trans ?_⟩;exact (lc (by show U.int (I T 8)= .int (MM us);unfold MM;rw[c,d,e];exact BI U.int x) (lc (by show U.int (I T 9)= .int (Mw us);unfold Mw;rw[c,o,d,e];exact BI U.int y) (lc (by show U.int (I T 11)= .int (Mk us);unfold Mk;rw[c,d,e];exact BI U.int z) (lc (by show U.int (I T 12)= .int (Me us);unfold Me;rw[c,d,p,e];exact BI U.int C) rfl))))
def Mi:List U->List (List U):=fun us=>(CH (aL us 0))
def KS:List U->Prop:=fun us=>((aL us 0)).length<=200/\EZ (aL us 0)=true
def FB:Bf:={ sh:=[.one (.list [k64,k64,k64,.bool,.str,.str,.bool,k64,k64])],blks:=[],outs:=[(.s "rbooks.0",D1 Mi)],c:= .ro 1 [k64,k64,k64,.bool,.str,.str,.bool,k64,k64],m':=[],pre:=[(.s "rbooks.p0",KS)] }
def IJ:List En:=[]
def Xd:List En:=[ABL 3 0,
 ABH 4 1 3,
 ABI 5 4,
 ABM 6 0 1,
 ABJ 7 0 1,
 ABK 8 0 1,
 ABQ 9 0 1,
 ABN 10 0 1,
 ABO 11 0 1,
 ABP 12 0 1,
 ABR 13 0 1,
 ABS 14 0 1]
def Ef:List En:=Xd
def eB:List En:=[ABL 17 0,
 ABH 18 15 17,
 ABE 19 4 18,
 ABF 20 4 18,
 ABM 21 0 15,
 ⟨22,.eq,[.e 21,.e 6]⟩,
 ABE 23 19 22,
 ABE 24 19 22,
 ABJ 25 0 15,
 ABE 26 19 22,
 ABH 27 7 25,
 ABF 28 26 27,
 ABF 29 26 27,
 ABM 30 0 15,
 ABJ 31 0 15,
 ABK 32 0 15]
def dq:List En:=[ABQ 33 0 15,
 ABN 34 0 15,
 ABO 35 0 15,
 ABP 36 0 15,
 ABR 37 0 15,
 ABS 38 0 15,
 ABF 39 26 27,
 ⟨40,.eqs [.i,.i,.i,.b,.s,.s,.b,.i,.i],[.e 30,.e 6,.e 31,.e 7,.e 32,.e 8,.e 33,.e 9,.e 34,.e 10,.e 35,.e 11,.e 36,.e 12,.e 37,.e 13,.e 38,.e 14]⟩,
 ABE 41 39 40,
 ABE 42 39 40,
 ABH 43 15 1,
 ABE 44 40 43,
 ABG 45 27 44,
 ABE 46 22 45,
 ABE 47 19 46,
 ABF 48 19 46]
def ct:List En:=[⟨49,.ite .b,[.e 46,.c (.bool false),.e 16]⟩,
 ⟨50,.w2 .i64 .add,[.e 15,.c (.int 1)]⟩]
def Du:List En:=eB++(dq++(ct))
def V7:List ObE:=[⟨some 29,.inl,[.e 15,.e 0]⟩,⟨some 24,.inl,[.e 15,.e 0]⟩,⟨some 19,.inl,[.e 15,.e 0]⟩]
def KG:Bs:=mkD 15 2 Du 19 [.e 50,.e 49] V7 [1,6,7,8,9,10,11,12,13,14,0,4]
def MV:List Rf:=[.e 1,.e 6,.e 7,.e 8,.e 9,.e 10,.e 11,.e 12,.e 13,.e 14,.e 0,.e 4,.c (.int 0),.n 9]
def Xe:List En:=[ABE 51 20 16,
 ABF 52 20 16]
def GG:List En:=Xe
def dD:List En:=[ABL 54 2,
 ABH 55 53 54,
 ABE 56 51 55,
 ABE 57 51 55,
 ABK 58 2 53,
 ABE 59 51 55,
 ABH 60 58 8,
 ABF 61 59 60,
 ABF 62 59 60,
 ABK 63 2 53,
 ABF 64 59 60,
 ⟨65,.eq,[.e 63,.e 8]⟩,
 ABE 66 64 65,
 ABE 67 64 65,
 ABM 68 2 53,
 ABE 69 64 65]
def dK:List En:=[ABH 70 68 6,
 ABE 71 65 70,
 ABG 72 60 71,
 ABE 73 55 72,
 ABE 74 51 73,
 ABF 75 51 73,
 ⟨76,.w2 .i64 .add,[.e 53,.c (.int 1)]⟩]
def Ey:List En:=dD++(dK)
def WP:List ObE:=[⟨some 67,.inl,[.e 53,.e 2]⟩,⟨some 62,.inl,[.e 53,.e 2]⟩,⟨some 57,.inl,[.e 53,.e 2]⟩]
def Jz:Bs:=mkD 53 1 Ey 74 [.e 76] WP [51,6,2,8]
def Mu:List Rf:=[.e 51,.e 6,.e 2,.e 8,.c (.int 0)]
def XU:List En:=[⟨77,.id .l,[.c (.list [])]⟩,
 ⟨78,.take,[.e 2,.e 53]⟩,
 ABZ 79 77 78,
 ⟨80,.row 1 9 [.i,.i,.i,.b,.s,.s,.b,.i,.i],[.e 6,.e 7,.e 8,.e 9,.e 10,.e 11,.e 12,.e 13,.e 14]⟩,
 ABZ 81 79 80,
 ⟨82,.drop,[.e 2,.e 53]⟩,
 ABZ 83 81 82,
 ⟨84,.ite .l,[.e 52,.c (.list []),.e 83]⟩,
 ABV 85 52 2 83,
 ABG 86 52 75,
 ⟨87,.w2 .i64 .add,[.e 1,.c (.int 1)]⟩]
def KA:List En:=XU
def II:List En:=Ef++((B5 KG [.i,.b] MV)++(Du++(GG++((B5 Jz [.i] Mu)++(Ey++(KA))))))
def Vl:List ObE:=[⟨some 75,.fits 88,[.e 81,.e 82]⟩,⟨some 75,.take,[.e 2,.e 53]⟩,⟨some 75,.fits 88,[.e 79,.e 80]⟩,⟨some 75,.fits 88,[.e 77,.e 78]⟩,⟨some 75,.take,[.e 2,.e 53]⟩,⟨some 51,.owes Jz,[.e 51,.e 6,.e 2,.e 8,.c (.int 0)]⟩,⟨some 4,.owes KG,[.e 1,.e 6,.e 7,.e 8,.e 9,.e 10,.e 11,.e 12,.e 13,.e 14,.e 0,.e 4,.c (.int 0),.n 9]⟩,⟨some 4,.inl,[.e 1,.e 0]⟩]
def MO:Bs:=mkD 1 2 II 86 [.e 87,.e 85] Vl [0]
def QI:List Rf:=[.e 0,.c (.int 0),.c (.list [])]
def jV:List En:=[]
def rc:List ObE:=[⟨none,.owes MO,[.e 0,.c (.int 0),.c (.list [])]⟩]
def ea:List Rf:=[.e 2]
end
end Go.Eng
end
