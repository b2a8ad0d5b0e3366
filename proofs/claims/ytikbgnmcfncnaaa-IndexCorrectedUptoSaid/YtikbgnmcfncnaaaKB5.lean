/-
  A part of the proof: K_lCorrected.
-/
import Derived.Test.YtikbgnmcfncnaaaKB4
set_option linter.unusedVariables false
set_option linter.unusedSimpArgs false
noncomputable section
namespace Go.Eng
section
open Go Go.Eng Go.Proofs
set_option maxHeartbeats 4000000
set_option maxRecDepth 100000
theorem AAv:ko 13 (pQ Try.prog [(19,No),(20,D9),(21,Je),(22,Jl),(23,yc),(24,P6),(25,AAJ),(26,K7),(15,Ny)] ABD 3000 20 5 AAR 13)=some (132,(AAC++((B5 AAB [.i,.i,.l] AAH)++(an++(AAI)))).map En.be,AAS.map ObE.be):=by kernel_rfl
variable{T:Tab}
theorem AAd (V:(L T 0).length<=140737488355328)(P:∀u∈(L T 0),Bb BT KP u)(W:(L T 1).length<=140737488355328)(Q:∀u∈(L T 1),Bb BT KB u)(Z:0<=I T 2)(O:I T 2<=255)(X:(S T 7).size<=140737488355328)(Y:(S T 8).size<=140737488355328)(M:(L T 0).length<=1048576)(N:(L T 1).length<=1048576)(b:BV T AAC):
  ((L T 43)=[])/\((B T 39)=true->Bc (L T 1)=0/\((L T 1)).length<=30/\¬((L T 1)).length=0):=by
 obtain⟨y,b⟩:=b.cut;have g:=b;clear b;have J:(L T 43)=[]:=by
  obtain⟨-,-,-,-,-,-,-,-,-,-,-,-,-,-,v,-⟩:=g;simp only[BS,zR,zL,zS] at v;rw[v]
 have K:(B T 39)=true->Bc (L T 1)=0/\((L T 1)).length<=30/\¬((L T 1)).length=0:=by
  obtain⟨-,-,i,j,k,-,l,o,c,-,-,-,p,-⟩:=y;obtain⟨q,-,-,-,r,-,d,s,e,-,t,-⟩:=g;replace d:I T 35=(Bc (L T 1)):=d;simp only[BS,BZ,zR,zL] at i j k l o c p q r s e t;intro h;have x:¬B T 37=true:=by simpa using t.1 h
  have H:¬B T 36=true:=fun a=>x (e.2 (.inr a));have E:¬B T 33=true:=fun a=>x (e.2 (.inl a));have w:¬B T 21=true:=fun a=>E (r.2 (.inl (q.2 (.inl (p.2 (.inl a))))));have A:¬B T 16=true:=fun a=>w (c.2 (.inl (k.2 (.inr a))));have D:¬B T 20=true:=fun a=>w (c.2 (.inr a));have z:¬30 < I T 15:=fun a=>A (j.2 a);have C:¬I T 19=0:=fun a=>D (o.2 a);rw[i] at z;rw[l] at C;have F:(I T 35)=0:=At fun a=>H (s.2 a);exact⟨d.symm.trans F,by omega,by omega⟩
 exact⟨J,K⟩
abbrev l7(T:Tab):Prop:=(B T 39)=true->Bc (L T 1)=0/\((L T 1)).length<=30/\¬((L T 1)).length=0
theorem AAk (bs:∀u∈(L T 1),Bb BT KB u)(bm:(L T 43)=[])(D:l7 T)(hS:Ba T (Bh (CA 0 AAF) AAC))(Y:Bi T (an.map En.be))(Z:Bi T ((B5 AAB [.i,.i,.l] AAH).map En.be)):
  (AAB).owes (AAH.map (Rf.eval T))/\Ba T (hds 44 [.i,.i,.l])/\(zy T (I T 44) (I T 45) (L T 46))/\¬B T 49=true:=by
 refine CK (nh:=44) (k:=3) (pcn:=49) (R:=73) (b:=an) (K:=AAO) (nxt:=[.e 72,.e 69,.e 70]) (H:=[.c (.int 0),.c (.int 0),.e 43]) (fv:=[1,42,39]) (A:=[.i,.i,.l]) (by kernel_rfl) rfl rfl rfl rfl hS (by kernel_rfl) (by kernel_rfl) Y (B6 Z) (fun s=>zy T (aI s 0) (aI s 1) (aL s 2)) (fun s=>(((L T 1)).length - (aI s 0)).toNat) ?_ ?_
 .show zy T (0:Int) (0:Int) (L T 43);clear hS Y Z;exact⟨Aw _,by omega,rfl,by rw[bm];rfl⟩
 .intro J V C r;replace r:zy T (I J 44) (I J 45) (L J 46):=r;clear hS Y Z;replace C:BV J an:=C;obtain⟨x,C⟩:=C.cut;have Q:=C;clear C;have j:=fvL (V 1 (by decide));have bi:=fvI (V 42 (by decide));have y:=fvB (V 39 (by decide));clear V
  suffices hz:(B J 65=true->0<=I J 44/\I J 44 < ((L J 1)).length)/\(B J 53=true->(((L J 46)).length+((L J 63)).length)*88<=140737488355328)/\(B J 53=true->0<=I J 44/\I J 44 < ((L J 1)).length)/\(B J 49=true->0<=I J 44/\I J 44 < ((L J 1)).length)/\(B J 49=true->(zy T (I J 72) (I J 69) (L J 70)))/\(B J 49=true->(((L T 1)).length - (I J 72)).toNat < (((L T 1)).length - (I J 44)).toNat) from
   let⟨r0,aB,aJ,r3,nx,mz⟩:=hz;⟨⟨r0,aB,aJ,r3,trivial⟩,fun i=>⟨nx i,mz i⟩⟩
  refine⟨?_,?_,?_,?_,?_,?_⟩
  .obtain⟨d,e,c,-⟩:=x;obtain⟨-,-,a7,-⟩:=Q;simp only[BS,BZ,zN,zR,zL] at d e c a7;obtain⟨O,P,v,w⟩:=r;intro i;rw[y] at c;have g:(B J 49)=true:=(a7.1 i).1;have o:=(c.1 g).1;have p:=e.1 (c.1 g).2;rw[d,j] at p;obtain⟨q,aw,N⟩:=D o;rw[j];omega
  .obtain⟨d,e,c,-,-,-,E,-⟩:=x;obtain⟨F,-⟩:=Q;simp only[BS,BZ,zR,zL,zS,uR,Cp,zW] at d e c E F;obtain⟨O,P,v,w⟩:=r;intro i;rw[y] at c;have g:(B J 49)=true:=(E.1 i).1;have o:=(c.1 g).1;have p:=e.1 (c.1 g).2;rw[d,j] at p;obtain⟨q,aw,N⟩:=D o;have hr:=AAQ (l:=L T 1) (n:=I T 42) (I J 44).toNat;rw[<-w] at hr;have bl:((L J 63)).length=1:=by rw[F];rfl
   omega
  .obtain⟨d,e,c,-,-,-,E,-⟩:=x;simp only[BS,BZ,zR,zL] at d e c E;obtain⟨O,P,v,w⟩:=r;intro i;rw[y] at c;have g:(B J 49)=true:=(E.1 i).1;have o:=(c.1 g).1;have p:=e.1 (c.1 g).2;rw[d,j] at p;obtain⟨q,aw,N⟩:=D o;rw[j];omega
  .obtain⟨d,e,c,-⟩:=x;simp only[BS,BZ,zR,zL] at d e c;obtain⟨O,P,v,w⟩:=r;intro i;rw[y] at c;have g:(B J 49)=true:=i;have o:=(c.1 g).1;have p:=e.1 (c.1 g).2;rw[d,j] at p;obtain⟨q,aw,N⟩:=D o;rw[j];omega
  .obtain⟨d,e,c,-,W,t,-,al,ao,ax,a0,a1,a2,a3,a4,a5,-⟩:=x;obtain⟨F,a6,-,a8,a9,ba,bb,bc,-,M,-⟩:=Q;simp only[BS,BZ,zR,EK,w2P,zL,zS,uR,Cp,zW] at d e c W t al ao ax a0 a1 a2 a3 a4 a5 F a6 a8 a9 ba bb bc M;obtain⟨O,P,v,w⟩:=r;intro i;rw[y] at c;have g:(B J 49)=true:=i;have o:=(c.1 g).1;have p:=e.1 (c.1 g).2;rw[d,j] at p;obtain⟨q,aw,N⟩:=D o;have ag:=o2' M (by omega);have hv:=AA3 (n:=I T 42) (AAg q) (by decide) (I J 44).toNat (by omega);rw[<-v] at hv;have hm:((L T 1)).getD (I J 44).toNat []∈(L T 1):=Ca (by omega);have hu:=AAg q _ hm;refine⟨by omega,by omega,?_,?_⟩
   .rw[ag,show ((I J 44)+1).toNat=(I J 44).toNat+1 by omega];show _=AAE (I T 42) (upK (AAE (I T 42)) (L T 1) (I J 44).toNat 0) (((L T 1)).getD (I J 44).toNat []);rw[<-v];have bo:(I J 66)=uI (((L T 1)).getD (I J 44).toNat []) 1:=by rw[a8,j];rfl
    have X:(I J 51)=uI (((L T 1)).getD (I J 44).toNat []) 0:=by rw[W,j];rfl
    have b6:=AA4 q _ hm;have b5:=o2' a9 (by omega);unfold AAE;rw[bb,ba,b5,bo,<-X,Int.max_def];rw[bi] at t;by_cases h:(B J 52)=true
    .rw[BH h,BG (t.1 h)]
    .rw[BG h,BH (At fun a=>h (t.2 a))]
   .rw[ag,show ((I J 44)+1).toNat=(I J 44).toNat+1 by omega];show _=AAA (I T 42) (upK (AAA (I T 42)) (L T 1) (I J 44).toNat []) (((L T 1)).getD (I J 44).toNat []);rw[<-w];have X:(I J 51)=uI (((L T 1)).getD (I J 44).toNat []) 0:=by rw[W,j];rfl
    have bl:(L J 63)=[((L T 1)).getD (I J 44).toNat []]:=by
     rw[F,al,ao,ax,a0,a1,a2,a3,a4,a5,j];exact BI (fun z=>[z]) (Nd (bs _ hm))
    unfold AAA;rw[bc,a6,bl,<-X];rw[bi] at t;by_cases h:(B J 52)=true
    .rw[BH h,BG (t.1 h)]
    .rw[BG h,BH (At fun a=>h (t.2 a))]
  .obtain⟨d,e,c,-⟩:=x;obtain⟨-,-,-,-,-,-,-,-,-,M,-⟩:=Q;simp only[BS,BZ,zR,w2P,zL] at d e c M;obtain⟨O,P,v,w⟩:=r;intro i;rw[y] at c;have g:(B J 49)=true:=i;have o:=(c.1 g).1;have p:=e.1 (c.1 g).2;rw[d,j] at p;obtain⟨q,aw,N⟩:=D o;have ag:=o2' M (by omega);omega
theorem AAp (eq:(L T 0).length<=140737488355328)(eo:∀u∈(L T 0),Bb BT KP u)(er:(L T 1).length<=140737488355328)(c5:∀u∈(L T 1),Bb BT KB u)(db:0<=I T 2)(en:I T 2<=255)(c8:(S T 7).size<=140737488355328)(c9:(S T 8).size<=140737488355328)(el:(L T 0).length<=1048576)(em:(L T 1).length<=1048576)(d5:(L T 43)=[])(hn:l7 T)(a5:zy T (I T 44) (I T 45) (L T 46))(dd:¬B T 49=true)(E:BV T AAC)(F:BV T an)(k:BV T AAI):
  ((B T 132)=(true))/\
  (B T 77=true->((L T 94)).length<=40\/200 < ((L T 94)).length)/\
  (B T 77=true->((L T 94)).length<=40\/200 < ((L T 94)).length)/\
  (B T 91=true->(((L T 46)).length+((L T 92)).length)*88<=140737488355328)/\
  (B T 77=true->((L T 87)).length<=40\/200 < ((L T 87)).length)/\
  (B T 77=true->(((L T 85)).length+((L T 86)).length)*88<=140737488355328)/\
  (B T 77=true->(((L T 84)).length+((L T 1)).length)*88<=140737488355328)/\
  (B T 77=true->((L T 81)).length<=40\/200 < ((L T 81)).length)/\
  (B T 77=true->(((L T 79)).length+((L T 80)).length)*88<=140737488355328)/\
  (B T 77=true->(((L T 78)).length+((L T 1)).length)*88<=140737488355328)/\
  (B T 39=true->0<=I T 41/\I T 41 < ((L T 1)).length)/\
  (B T 39=true->¬I T 40=0):=by
 obtain⟨F0,E⟩:=E.cut;have K:=E;clear E;obtain⟨F2,F⟩:=F.cut;have F3:=F;clear F;obtain⟨o,k⟩:=k.cut;obtain⟨H,k⟩:=k.cut;obtain⟨F6,k⟩:=k.cut;have F7:=k;clear k;have es:(L T 80).length<=1:=by
  obtain⟨-,-,-,-,-,-,-,q,-⟩:=o;simp only[BS,BZ,zR,zL,zS,uR,Cp,zW] at q;rw[q];exact AE _
 have et:(L T 86).length<=1:=by
  obtain⟨-,-,-,-,-,-,-,-,-,-,-,-,-,s,-⟩:=o;simp only[BS,BZ,zR,zL,zS,uR,Cp,zW] at s;rw[s];exact AE _
 have eu:(L T 92).length<=1:=by
  obtain⟨-,-,-,t,-⟩:=H;simp only[BS,BZ,zR,zL,zS,uR,Cp,zW] at t;rw[t];exact AE _
 have i:(B T 77)=true->((L T 1)).length<=30/\L T 81=L T 1++[[.int (I T 42),.int (I T 45),.int (I T 5),.bool (B T 12),.str (S T 7),.str (S T 8),.bool (B T 9),.int (I T 10),.int (I T 11)]]/\L T 87=L T 1++[[.int (I T 42),.int (I T 45),.int (I T 5),.bool (B T 12),.str (S T 7),.str (S T 8),.bool (B T 9),.int (I T 10),.int (I T 11)]]/\Bc ((L T 1)++[[.int (I T 42),.int (I T 45),.int (I T 5),.bool (B T 12),.str (S T 7),.str (S T 8),.bool (B T 9),.int (I T 10),.int (I T 11)]])=0/\((L T 94)).length<=31/\Bc (L T 94)=0/\CH ((L T 1)++[[.int (I T 42),.int (I T 45),.int (I T 5),.bool (B T 12),.str (S T 7),.str (S T 8),.bool (B T 9),.int (I T 10),.int (I T 11)]])=CH (L T 94):=by
  obtain⟨b3,b4,-,v,-⟩:=F2;obtain⟨W,b6,-,-,w,p,A,q,b8,-,-,r,C,s,b9,-⟩:=o;obtain⟨-,-,-,t,cb,cc,-⟩:=H;replace W:I T 73=(Gw (I T 42) (I T 45) (I T 5) (S T 7) (S T 8) (I T 10) (I T 11)):=W;simp only[BS,BZ,zN,zR,zL,zS,uR,Cp,zW] at b3 b4 v b6 w p A q b8 r C s b9 t cb cc;intro h;have cf:=(w.1 h).1;have c3:¬B T 74=true:=by rw[(w.1 h).2];exact Bool.false_ne_true
  have c2:(I T 73)=0:=At fun a=>c3 (b6.2 a);have y:=(v.1 cf).1;have c1:¬B T 48=true:=by rw[(v.1 cf).2];exact Bool.false_ne_true
  have a3:¬I T 44 < ((L T 1)).length:=fun a=>c1 (b4.2 (by rw[b3];exact a));obtain⟨g1,aw,g3⟩:=hn y;obtain⟨v1,v2,v3,v4⟩:=a5;rw[show (I T 44).toNat=((L T 1)).length by omega] at v3 v4;have d1:(L T 81)=L T 1++[[.int (I T 42),.int (I T 45),.int (I T 5),.bool (B T 12),.str (S T 7),.str (S T 8),.bool (B T 9),.int (I T 10),.int (I T 11)]]:=by rw[b8,A,p,q];rfl
  have d2:(L T 87)=L T 1++[[.int (I T 42),.int (I T 45),.int (I T 5),.bool (B T 12),.str (S T 7),.str (S T 8),.bool (B T 9),.int (I T 10),.int (I T 11)]]:=by rw[b9,C,r,s];rfl
  refine⟨aw,d1,d2,?_⟩;exact AA8 c5 g1 aw v3 v4 c8 c9 (W.symm.trans c2) rfl (by rw[cc,cb,t])
 refine⟨?_,?_,?_,?_,?_,?_,?_,?_,?_,?_,?_,?_⟩
 .obtain⟨-,-,P,bx,b0,-,-,-,b1,Q,V,-⟩:=K;obtain⟨-,-,b5,v,-⟩:=F2;obtain⟨-,-,b7,X,w,-,-,-,-,Y,Z,-,-,-,-,ab,-⟩:=o;obtain⟨ad,-,-,-,-,-,-,ag,al,ao,ax,a7,-,a8,a9,-⟩:=H;obtain⟨ba,bb,-,bc,bi,-,M,bl,-,N,bm,-,O,bo,-⟩:=F6;obtain⟨-,-,bs,-,-,-,-,-,-,-,-,bt,-⟩:=F7;replace P:I T 31=(BW (L T 0)):=P;replace Q:B T 38=(true):=Q;replace X:B T 76=(true):=X;replace Y:L T 82=(if Bc (L T 81)=0 then CH (L T 81) else []):=Y;replace Z:I T 83=(Bc (L T 81)):=Z;replace ab:L T 88=(if (if¬BW (L T 0)=0 then BW (L T 0) else Bc (L T 87))=0 then FP (L T 0) (L T 87) else []):=ab;replace ad:I T 89=((if¬BW (L T 0)=0 then BW (L T 0) else Bc (L T 87))):=ad;replace ag:L T 96=(if Bc (L T 94)=0 then CH (L T 94) else []):=ag;replace al:I T 97=(Bc (L T 94)):=al;replace ao:L T 98=(if (if¬BW (L T 0)=0 then BW (L T 0) else Bc (L T 94))=0 then FP (L T 0) (L T 94) else []):=ao;replace ax:I T 99=((if¬BW (L T 0)=0 then BW (L T 0) else Bc (L T 94))):=ax;replace M:B T 111=(AAN (L T 82) (L T 96)):=M;replace N:B T 114=(Lz (L T 88) (L T 98)):=N;replace O:B T 117=(true):=O;simp only[BS,BZ,zN,zR,zL,zS] at bx b0 b1 V b5 v b7 w a7 a8 a9 ba bb bc bi bl bm bo bs bt;have dv:=Q;have d0:=X;have ds:=O;have cx:(B T 77)=true->B T 118=true:=by
   intro h;obtain⟨aN,d,e,b,j,c,g⟩:=i h;have y:=(v.1 (w.1 h).1).1;have D:¬B T 37=true:=by simpa using V.1 y
   have c0:¬B T 32=true:=fun a=>D (b1.2 (.inl (b0.2 (.inr a))));have cy:(I T 31)=0:=At fun a=>c0 (bx.2 a);have hP:BW (L T 0)=0:=P.symm.trans cy;have dj:(I T 83)=0:=by rw[Z,d];exact b
   have J:∀x,Bc x=0->(if¬BW (L T 0)=0 then BW (L T 0) else Bc x)=0:=fun x hx=>by rw[BG (fun a=>a hP)];exact hx
   have dk:(I T 89)=0:=by rw[ad,e];exact J _ b
   have dm:(I T 97)=0:=by rw[al];exact c
   have dn:(I T 99)=0:=by rw[ax];exact J _ c
   have de:(B T 111)=true:=by
    rw[M,Y,ag,d,BH b,BH c,g];exact AAz
   have di:(B T 114)=true:=by
    rw[N,ab,ao,e,BH (J _ b),BH (J _ c)];unfold FP;rw[g];exact gH
   exact bo.2 ⟨bm.2 ⟨bl.2 ⟨bi.2 ⟨bb.2 ⟨a9.2 ⟨a7.2 dj,a8.2 dk⟩,ba.2 dm⟩,bc.2 dn⟩,de⟩,di⟩,ds⟩
  have cj:=bs;have cl:=bt;by_cases D:(B T 37)=true
  .exact cl.2 (.inl ⟨D,dv⟩)
  .have cv:(B T 37)=false:=by simpa using D
   refine cl.2 (.inr ⟨cv,?_⟩);have y:(B T 39)=true:=V.2 (by simpa using D);have a3:(B T 50)=true:=by
    refine v.2 ⟨y,?_⟩;cases hb:(B T 48) with
    |false=>rfl
    |true=>exact absurd (b5.2 ⟨y,hb⟩) dd
   by_cases a1:(B T 75)=true
   .exact cj.2 (.inl ⟨a1,d0⟩)
   .refine cj.2 (.inr ⟨by simpa using a1,cx (w.2 ⟨a3,?_⟩)⟩);cases hb:(B T 74) with
    |false=>rfl
    |true=>exact absurd (b7.2 ⟨a3,hb⟩) a1
 .intro h;obtain⟨aN,d,e,b,j,c,g⟩:=i h;omega
 .intro h;obtain⟨aN,d,e,b,j,c,g⟩:=i h;omega
 .obtain⟨-,-,ca,t,-⟩:=H;simp only[BS,BZ,zN,zR,zL,zS,uR,Cp,zW] at ca t;intro h;obtain⟨aN,d,e,b,j,c,g⟩:=i (ca.1 h).1;have ej:((L T 92)).length=1:=by rw[t];rfl
  have hr:=AAQ (l:=L T 1) (n:=I T 42) (I T 44).toNat;rw[<-a5.2.2.2] at hr;have:=a5.2.1;omega
 .intro h;obtain⟨aN,d,e,b,j,c,g⟩:=i h;rw[e,AP];simp only[Ad,As];omega
 .obtain⟨-,-,-,-,-,-,-,-,-,-,-,r,C,s,-⟩:=o;simp only[BS,BZ,zR,zL,zS,uR,Cp,zW] at r C s;intro h;obtain⟨aN,d,e,b,j,c,g⟩:=i h;have ei:((L T 86)).length=1:=by rw[s];rfl
  have ee:((L T 85)).length=((L T 1)).length:=by rw[C,r];rfl
  omega
 .obtain⟨-,-,-,-,-,-,-,-,-,-,-,r,-⟩:=o;simp only[BS,zR,zL,zS] at r;intro h;obtain⟨aN,d,e,b,j,c,g⟩:=i h;have d9:((L T 84)).length=0:=by rw[r];rfl
  omega
 .intro h;obtain⟨aN,d,e,b,j,c,g⟩:=i h;rw[d,AP];simp only[Ad,As];omega
 .obtain⟨-,-,-,-,-,p,A,q,-⟩:=o;simp only[BS,BZ,zR,zL,zS,uR,Cp,zW] at p A q;intro h;obtain⟨aN,d,e,b,j,c,g⟩:=i h;have d8:((L T 80)).length=1:=by rw[q];rfl
  have d7:((L T 79)).length=((L T 1)).length:=by rw[A,p];rfl
  omega
 .obtain⟨-,-,-,-,-,p,-⟩:=o;simp only[BS,zR,zL,zS] at p;intro h;obtain⟨aN,d,e,b,j,c,g⟩:=i h;have d6:((L T 78)).length=0:=by rw[p];rfl
  omega
 .obtain⟨-,-,-,-,-,-,-,-,-,-,-,z,b2,-⟩:=K;simp only[BS,zR,EK,zL] at z b2;intro h;obtain⟨g1,aw,g3⟩:=hn h;rw[b2,z,BH db];exact⟨Int.emod_nonneg _ (by omega),Int.emod_lt_of_pos _ (by omega)⟩
 .obtain⟨-,-,-,-,-,-,-,-,-,-,-,z,-⟩:=K;simp only[BS,zR,zL] at z;intro h;obtain⟨g1,aw,g3⟩:=hn h;rw[z];omega
theorem AAf:MC Try.prog 9 Try.f5.params.toList 0=some (AAR,AAF):=by kernel_rfl
theorem AAj:∀p∈([(19,No),(20,D9),(21,Je),(22,Jl),(23,yc),(24,P6),(25,AAJ),(26,K7),(15,Ny)]:List (FuncId × Bf)),Bl Try.prog p.1 p.2:=by simp only[AW];exact⟨ue,V9,jM,fH,zi,ABE,AA1,oX,pA,fun _ h=>absurd h (by simp)⟩
theorem AAm:∀T:Tab,Ba T (CA 0 AAF)->Bnd T 0 AAF->cd 1048576 T 0 AAF->Bi T ((AAC++((B5 AAB [.i,.i,.l] AAH)++(an++(AAI)))).map En.be)->J6 T AAS/\B T 132=true:=by
 intro T p F H a;obtain⟨⟨e,K⟩,⟨g,M⟩,⟨k,d⟩,-,-,-,h,j,-⟩:=F;replace e:(L T 0).length<=140737488355328:=e;have z:∀u∈(L T 0),Bb BT KP u:=fun u s=>by
  obtain⟨i,ab⟩:=Ac.1 s;exact K i u ab
 replace g:(L T 1).length<=140737488355328:=g;have r:∀u∈(L T 1),Bb BT KB u:=fun u s=>by
  obtain⟨i,ab⟩:=Ac.1 s;exact M i u ab
 replace k:0<=I T 2:=k;replace d:I T 2<=255:=d;replace h:(S T 7).size<=140737488355328:=h;replace j:(S T 8).size<=140737488355328:=j;obtain⟨b,c,-⟩:=H;replace b:(L T 0).length<=1048576:=b;replace c:(L T 1).length<=1048576:=c;rw[AL,AL,AL] at a;obtain⟨w,a⟩:=cutB a;obtain⟨x,a⟩:=cutB a;obtain⟨o,a⟩:=cutB a;obtain⟨t,q⟩:=Be p (by kernel_rfl) w;obtain⟨v,C⟩:=AAd e z g r k d h j b c t;obtain⟨P,y,N,O⟩:=AAk r v C q o x;have J:=(Be (y.append q) (l:=an) (by kernel_rfl) o);obtain⟨E,p⟩:=J;clear w o x q y;obtain⟨D,hO⟩:=B8 (A:=[.b]) (ah:=AAu) p (by kernel_rfl) a;obtain⟨Q,V,aB,aJ,X,Y,Z,r6,r7,r8,r9,W⟩:=AAp e z g r k d h j b c v C N O t E D;exact⟨⟨V,aB,aJ,X,Y,Z,r6,r7,r8,(fun _=>P),r9,W,trivial⟩,Q⟩
end
end Go.Eng
end
