/-
  A part of the proof: the evaluator of code and its soundness.
-/
import Derived.Test.YtikbgnmcfncnaaaE4
import Derived.Test.YtikbgnmcfncnaaaE5
import Derived.WalkKit
import Derived.Shelf.GgClosure.StringsIndexFuncTop
set_option linter.unusedVariables false
set_option linter.unusedSimpArgs false
noncomputable section
namespace Go.Eng
section
open Go Go.Eng Go.Proofs
set_option maxHeartbeats 4000000
set_option maxRecDepth 100000
def Po:List U->Bool:=fun us=>(Z9 (aL us 0) (aL us 1) (aI us 2))
def NS:AU:={ sh:=[.one (.list [.str,k64,k64]),.one (.list [k64,k64,k64,.bool,.str,.str,.bool,k64,k64]),.one (k64)],blks:=[],outs:=[(.s "long.0",HS Po)],c:= .b 3,m':=[],pre:=[] }
abbrev AC1 (T:Tab)(a:Int):Prop:=0<=a/\a<=(L T 0).length/\¬((L T 0).take a.toNat).any N9=true
abbrev AC0 (T:Tab)(a:Int):Prop:=0<=a/\a<=(L T 1).length/\¬((L T 1).take a.toNat).any KY=true
def nl:List En:=[ADB 3 0,
 ⟨4,.lt,[.c (.int 30),.e 3]⟩,
 ADA 5 4,
 ADB 6 1,
 AC7 7 2 6,
 AC4 8 5 7,
 ADB 9 1,
 ⟨10,.le,[.e 9,.c (.int 200)]⟩,
 AC4 11 7 10,
 AC6 12 4 11,
 ADA 13 12,
 ADB 14 1,
 ⟨15,.lt,[.c (.int 210),.e 14]⟩,
 AC6 16 12 15,
 ADA 17 16]
def RD:List En:=nl
def lg:List En:=[ADB 19 0,
 AC7 20 18 19,
 AC4 21 17 20,
 AC5 22 17 20,
 ADL 23 0 18,
 ⟨24,.slen,[.e 23]⟩,
 ⟨25,.lt,[.c (.int 100),.e 24]⟩,
 AC4 26 21 25,
 AC5 27 21 25,
 ⟨28,.w2 .i64 .add,[.e 18,.c (.int 1)]⟩]
def G0:List En:=lg
def dD:List ObE:=[⟨some 21,.inl,[.e 18,.e 0]⟩]
def RI:Aa:=mkD 18 1 G0 27 [.e 28] dD [0,17]
def Uj:List Rf:=[.e 0,.e 17,.c (.int 0)]
def fX:List En:=[]
def nu:List En:=[ADB 30 1,
 AC7 31 29 30,
 AC4 32 22 31,
 AC5 33 22 31,
 ADF 34 1 29,
 ⟨35,.slen,[.e 34]⟩,
 ⟨36,.lt,[.c (.int 100),.e 35]⟩,
 AC5 37 32 36,
 ADG 38 1 29,
 ⟨39,.slen,[.e 38]⟩,
 ⟨40,.lt,[.c (.int 100),.e 39]⟩,
 AC6 41 36 40,
 AC4 42 32 41,
 AC5 43 32 41,
 ⟨44,.w2 .i64 .add,[.e 29,.c (.int 1)]⟩]
def IK:List En:=nu
def bS:List ObE:=[⟨some 37,.inl,[.e 29,.e 1]⟩,⟨some 32,.inl,[.e 29,.e 1]⟩]
def QX:Aa:=mkD 29 1 IK 43 [.e 44] bS [1,22]
def Ut:List Rf:=[.e 1,.e 22,.c (.int 0)]
def kK:List En:=[⟨45,.ite .b,[.e 42,.c (.bool true),.c (.bool false)]⟩,
 AC6 46 42 33,
 ⟨47,.ite .b,[.e 26,.c (.bool true),.e 45]⟩,
 AC6 48 26 46,
 ⟨49,.ite .b,[.e 16,.c (.bool true),.e 47]⟩,
 AC6 50 16 48]
def bJ:List En:=kK
def AAc:List ObE:=[⟨some 22,.owes QX,[.e 1,.e 22,.c (.int 0)]⟩,
 ⟨some 17,.owes RI,[.e 0,.e 17,.c (.int 0)]⟩]
def qI:List Rf:=[.e 49]
theorem yz:NS.sees qI (NS.run Try.prog [] Ab 3000 20 19)=some ((RD++((Ad RI [.i] Uj)++(G0++(fX++((Ad QX [.i] Ut)++(IK++(bJ))))))).map En.be,AAc.map ObE.be,[]):=by kernel_rfl
theorem yC:AW Try.prog 19 NS:=by
 refine An (l:=[]) A8 (by intro p h;exact absurd h (by simp)) yz (by kernel_rfl) fun T us d3 hT a7 hS dk b=>?_;change us.length=3 at a7;obtain⟨⟨cy,d0⟩,⟨c0,d1⟩,-⟩:=dk;replace cy:(L T 0).length<=140737488355328:=cy;have eo:∀u∈(L T 0),AL AB KP u:=fun u hu=>by
  obtain⟨i,Y⟩:=ABZ.1 hu;exact d0 i u Y
 replace c0:(L T 1).length<=140737488355328:=c0;have eq:∀u∈(L T 1),AL AB KB u:=fun u hu=>by
  obtain⟨i,Y⟩:=ABZ.1 hu;exact d1 i u Y
 have dn:=inL (j:=0) hT a7 (by decide);have ds:=inL (j:=1) hT a7 (by decide);have dv:=inI (j:=2) hT a7 (by decide);clear d3;rw[ABI,ABI,ABI,ABI,ABI,ABI] at b;obtain⟨hA,b⟩:=cutB b;obtain⟨hH,b⟩:=cutB b;obtain⟨z,b⟩:=cutB b;obtain⟨A0,C⟩:=AN hS (by kernel_rfl) hA;refine ACw (Ap (nh:=18) (k:=1) (pcn:=27) (an:=29) (H:=G0) (K:=dD) (nxt:=[.e 28]) (A:=[.c (.int 0)]) (fv:=[0,17]) (R:=[.i]) (by kernel_rfl) rfl rfl rfl rfl C (by kernel_rfl) (by kernel_rfl) z (Ae hH) (fun s=>AC1 T (aI s 0)) (fun s=>((L T 0).length - (aI s 0)).toNat)) ?_ ?_ fun⟨d9,a2,b0,d7⟩=>?_
 .show AC1 T (0:Int);exact⟨ABt _,by omega,by simp⟩
 .intro J D q E;replace E:AC1 T (I J 18):=E;replace q:AE J G0:=q;have P:=q;clear q;have ao:=fvL (D 0 (by decide));have em:=fvB (D 17 (by decide));clear D;obtain⟨r,t,v,-,Q,V,W,-,F,a9,-⟩:=id P;simp only[AD,AG,zN,zR,w2P,zL,zS] at r t v Q V W F a9;obtain⟨v1,v2,O⟩:=E
  suffices hz:(B J 21=true->0<=I J 18/\I J 18 < (L J 0).length)/\(B J 27=true->(AC1 T (I J 28)))/\(B J 27=true->((L T 0).length - (I J 28)).toNat < ((L T 0).length - (I J 18)).toNat) from
   let⟨r0,nx,mz⟩:=hz;⟨⟨r0,trivial⟩,fun a=>⟨nx a,mz a⟩⟩
  refine⟨?_,?_,?_⟩
  .intro a;have o:=t.1 (v.1 a).2;rw[r,ao] at o;rw[ao];omega
  .intro a;have bk:=F.1 a;have o:=t.1 (v.1 bk.1).2;rw[r,ao] at o;have c5:=o2' a9 (by omega);have bs:(I J 18).toNat < (L T 0).length:=by omega
   refine⟨by omega,by omega,?_⟩;rw[c5,show (I J 18+1).toNat=(I J 18).toNat+1 by omega,CQ bs,bX];rintro (h|h)
   .exact O h
   .have h:=of_decide_eq_true h;have:B J 25=true:=W.2 (by rw[V,Q,ao];exact Int.ofNat_lt.2 h);rw[this] at bk;cases bk.2
  .intro a;have o:=t.1 (v.1 (F.1 a).1).2;rw[r,ao] at o;have c5:=o2' a9 (by omega);omega
 replace b0:0<=I T 18/\I T 18<=(L T 0).length/\¬((L T 0).take (I T 18).toNat).any N9=true:=b0;have bm:=(AN (a2.append C) (l:=G0) (by kernel_rfl) z);obtain⟨B0,hS⟩:=bm;clear hA z hH C a2;obtain⟨hA,b⟩:=cutB b;obtain⟨hH,b⟩:=cutB b;obtain⟨z,b⟩:=cutB b;obtain⟨A1,C⟩:=AN hS (by kernel_rfl) hA;refine ACw (Ap (nh:=29) (k:=1) (pcn:=43) (an:=45) (H:=IK) (K:=bS) (nxt:=[.e 44]) (A:=[.c (.int 0)]) (fv:=[1,22]) (R:=[.i]) (by kernel_rfl) rfl rfl rfl rfl C (by kernel_rfl) (by kernel_rfl) z (Ae hH) (fun s=>AC0 T (aI s 0)) (fun s=>((L T 1).length - (aI s 0)).toNat)) ?_ ?_ fun⟨ee,a2,b1,d8⟩=>?_
 .show AC0 T (0:Int);exact⟨ABt _,by omega,by simp⟩
 .intro J D q E;replace E:AC0 T (I J 29):=E;replace q:AE J IK:=q;have P:=q;clear q;have w:=fvL (D 1 (by decide));have en:=fvB (D 22 (by decide));clear D;obtain⟨d,e,g,-,X,Z,ab,ba,ad,ag,al,M,-,N,bc,-⟩:=id P;simp only[AD,AG,zN,zR,w2P,zL,zS] at d e g X Z ab ba ad ag al M N bc;obtain⟨v1,v2,O⟩:=E
  suffices hz:(B J 37=true->0<=I J 29/\I J 29 < (L J 1).length)/\(B J 32=true->0<=I J 29/\I J 29 < (L J 1).length)/\(B J 43=true->(AC0 T (I J 44)))/\(B J 43=true->((L T 1).length - (I J 44)).toNat < ((L T 1).length - (I J 29)).toNat) from
   let⟨r0,ax,nx,mz⟩:=hz;⟨⟨r0,ax,trivial⟩,fun a=>⟨nx a,mz a⟩⟩
  refine⟨?_,?_,?_,?_⟩
  iterate 2
   .intro a;have x:B J 32=true:=by first|exact a|exact (ba.1 a).1
    have c:=e.1 (g.1 x).2;rw[d,w] at c;rw[w];omega
  .intro a;have bl:=N.1 a;have c:=e.1 (g.1 bl.1).2;rw[d,w] at c;have c6:=o2' bc (by omega);have bs:(I J 29).toNat < (L T 1).length:=by omega
   refine⟨by omega,by omega,?_⟩;rw[c6,show (I J 29+1).toNat=(I J 29).toNat+1 by omega,CQ bs,bX];rintro (h|h)
   .exact O h
   .have:B J 41=true:=by
     unfold KY at h;rw[ABe,decide_eq_true_eq,decide_eq_true_eq] at h;rcases h with h|h
     .exact M.2 (.inl (ab.2 (by rw[Z,X,w];exact Int.ofNat_lt.2 h)))
     .exact M.2 (.inr (al.2 (by rw[ag,ad,w];exact Int.ofNat_lt.2 h)))
    rw[this] at bl;cases bl.2
  .intro a;have c:=e.1 (g.1 (N.1 a).1).2;rw[d,w] at c;have c6:=o2' bc (by omega);omega
 replace b1:0<=I T 29/\I T 29<=(L T 1).length/\¬((L T 1).take (I T 29).toNat).any KY=true:=b1;have bm:=(AN (a2.append C) (l:=IK) (by kernel_rfl) z);obtain⟨B1,hS⟩:=bm;clear hA z hH C a2;obtain⟨A2,hO⟩:=Ao (R:=[.b]) (ai:=qI) hS (by kernel_rfl) b;have P:=A0;have F1:=B0;have F2:=B1;have F3:=A2;obtain⟨e3,e4,-,e6,e7,-,e9,b6,b7,b8,-,b9,ca,cb,cc,-⟩:=id P;obtain⟨r,t,v,ce,Q,V,W,a8,F,-⟩:=id F1;obtain⟨d,e,g,-,X,Z,ab,-,ad,ag,al,M,bb,N,-⟩:=id F2;obtain⟨ci,-,cj,-,cl,-⟩:=id F3;simp only[AD,AG,zN,zC,zR,zL,zS] at e3 e4 e6 e7 e9 b6 b7 b8 b9 ca cb cc r t v ce Q V W a8 F d e g X Z ab ad ag al M bb N ci cj cl;have q0:B T 49=(Z9 (L T 0) (L T 1) (I T 2)):=by
  obtain⟨v1,v2,O⟩:=b0;obtain⟨aG,w2,w3⟩:=b1;have c1:B T 49=true↔Z9 (L T 0) (L T 1) (I T 2)=true:=by
   unfold Z9;rw[ABe,ABe,ABe,ABe,AA8,decide_eq_true_eq,decide_eq_true_eq,decide_eq_true_eq,decide_eq_true_eq];have d5:B T 16=true↔((30 < (L T 0).length\/(I T 2 < (L T 1).length/\(L T 1).length<=200))\/210 < (L T 1).length):=by
    rw[cb,b8,e4,b7,e7,b6,ca,e3,e6,e9,b9];omega
   rw[<-d5];have ej:B T 49=true↔(B T 16=true\/(B T 26=true\/B T 42=true)):=by
    rw[cl,cj,ci];cases (B T 16)<;>cases (B T 26)<;>cases (B T 42)<;>simp
   rw[ej];by_cases bi:B T 16=true
   .simp[bi]
   .have cx:=cc.2 (by simpa using bi);by_cases a4:B T 26=true
    .obtain⟨a3,y⟩:=a8.1 a4;have o:=t.1 (v.1 a3).2;rw[r] at o;have y:=W.1 y;rw[V,Q] at y;have:=zA (p:=N9) (l:=L T 0) (i:=(I T 18).toNat) (by omega) (decide_eq_true (Int.ofNat_lt.1 y));simp[a4,this]
    .have b3:B T 20=false:=Bool.eq_false_iff.2 fun o=>by
      have a3:=v.2 ⟨cx,o⟩;by_cases y:B T 25=true
      .exact a4 (a8.2 ⟨a3,y⟩)
      .exact d7 (F.2 ⟨a3,by simpa using y⟩)
     have dj:=ce.2 ⟨cx,b3⟩;have hl:¬I T 18 < (L T 0).length:=fun h=>by have:=t.2 (by rw[r];exact h);rw[this] at b3;cases b3
     rw[show (I T 18).toNat=(L T 0).length by omega,ACA] at O;by_cases a6:B T 42=true
     .obtain⟨x,a5⟩:=bb.1 a6;have c:=e.1 (g.1 x).2;rw[d] at c;have hw:KY ((L T 1).getD (I T 29).toNat [])=true:=by
       unfold KY;rw[ABe,decide_eq_true_eq,decide_eq_true_eq];rcases M.1 a5 with h|h
       .have h:=ab.1 h;rw[Z,X] at h;exact .inl (Int.ofNat_lt.1 h)
       .have h:=al.1 h;rw[ag,ad] at h;exact .inr (Int.ofNat_lt.1 h)
      have:=zA (p:=KY) (l:=L T 1) (i:=(I T 29).toNat) (by omega) hw;simp[a6,this]
     .have d6:¬B T 31=true:=fun c=>by
       have x:=g.2 ⟨dj,c⟩;by_cases a5:B T 41=true
       .exact a6 (bb.2 ⟨x,a5⟩)
       .exact d8 (N.2 ⟨x,by simpa using a5⟩)
      have hl:¬I T 29 < (L T 1).length:=fun h=>d6 (e.2 (by rw[d];exact h));rw[show (I T 29).toNat=(L T 1).length by omega,ACA] at w3;simp[bi,a4,a6,O,w3]
  first|exact c1|exact Bool.eq_iff_iff.2 c1
 refine⟨⟨(fun _=>ee),(fun _=>d9),trivial⟩,hO.trans ?_⟩;exact (lc (by show U.bool (B T 49)= .bool (Po us);unfold Po;rw[dn,ds,dv];exact ACF U.bool q0) rfl)
def HC:List U->Bool:=fun us=>(Cf (aS us 0))
def GP:AU:={ sh:=[.one (.str)],blks:=[],outs:=[(.s "xnamed.0",HS HC)],c:= .b 1,m':=[],pre:=[] }
abbrev ACX (T:Tab)(a:Int):Prop:=0<=a/\a<=(S T 0).size/\(∀j:Nat,(j:Int) < a->okB (S T 0) j)
def fR:List En:=[⟨1,.slen,[.e 0]⟩,
 ⟨2,.lt,[.e 1,.c (.int 1)]⟩,
 ADA 3 2,
 ⟨4,.slen,[.e 0]⟩,
 ⟨5,.lt,[.c (.int 20),.e 4]⟩,
 AC6 6 2 5,
 ADA 7 6]
def Qx:List En:=fR
def cA:List En:=[⟨9,.slen,[.e 0]⟩,
 AC7 10 8 9,
 AC4 11 7 10,
 AC5 12 7 10,
 ⟨13,.sat,[.e 0,.e 8]⟩,
 ⟨14,.le,[.c (.int 97),.e 13]⟩,
 AC4 15 11 14,
 ⟨16,.sat,[.e 0,.e 8]⟩,
 ⟨17,.le,[.e 16,.c (.int 122)]⟩,
 AC4 18 14 17,
 AC5 19 11 18,
 ⟨20,.sat,[.e 0,.e 8]⟩,
 ⟨21,.le,[.c (.int 48),.e 20]⟩,
 AC4 22 19 21,
 ⟨23,.sat,[.e 0,.e 8]⟩,
 ⟨24,.le,[.e 23,.c (.int 57)]⟩]
def br:List En:=[AC4 25 21 24,
 AC6 26 18 25,
 AC4 27 11 26,
 AC5 28 11 26,
 ⟨29,.w2 .i64 .add,[.e 8,.c (.int 1)]⟩]
def FS:List En:=cA++(br)
def W2:List ObE:=[⟨some 22,.ins,[.e 0,.e 8]⟩,⟨some 19,.ins,[.e 0,.e 8]⟩,⟨some 15,.ins,[.e 0,.e 8]⟩,⟨some 11,.ins,[.e 0,.e 8]⟩]
def Ly:Aa:=mkD 8 1 FS 27 [.e 29] W2 [0,7]
def QS:List Rf:=[.e 0,.e 7,.c (.int 0)]
def aO:List En:=[⟨30,.ite .b,[.e 28,.c (.bool false),.c (.bool true)]⟩,
 AC6 31 28 12,
 ⟨32,.ite .b,[.e 6,.c (.bool false),.e 30]⟩,
 AC6 33 6 31]
def Wh:List En:=aO
def ui:List ObE:=[⟨some 7,.owes Ly,[.e 0,.e 7,.c (.int 0)]⟩]
def fu:List Rf:=[.e 32]
theorem uu:GP.sees fu (GP.run Try.prog [] Ab 3000 20 64)=some ((Qx++((Ad Ly [.i] QS)++(FS++(Wh)))).map En.be,ui.map ObE.be,[]):=by kernel_rfl
variable{T:Tab}
theorem ln (a3:(S T 0).size<=140737488355328)(r:AK T (AO (Aj 0 GP.ks) Qx))(p:AR T (FS.map En.be))(q:AR T ((Ad Ly [.i] QS).map En.be)):
  (Ly).owes (QS.map (Rf.eval T))/\AK T (hds 8 [.i])/\(ACX T (I T 8))/\¬B T 27=true:=by
 refine Ap (nh:=8) (k:=1) (pcn:=27) (an:=30) (H:=FS) (K:=W2) (nxt:=[.e 29]) (A:=[.c (.int 0)]) (fv:=[0,7]) (R:=[.i]) (by kernel_rfl) rfl rfl rfl rfl r (by kernel_rfl) (by kernel_rfl) p (Ae q) (fun s=>ACX T (aI s 0)) (fun s=>((S T 0).size - (aI s 0)).toNat) ?_ ?_
 .show ACX T (0:Int);clear r p q;exact⟨by omega,by omega,fun j y=>absurd y (by omega)⟩
 .intro J t l u;replace u:ACX T (I J 8):=u;clear r p q;replace l:AE J FS:=l;obtain⟨z,l⟩:=l.cut;have C:=l;clear l;have a:=fvS (t 0 (by decide));have a1:=fvB (t 7 (by decide));clear t;obtain⟨i,g,h,-,D,X,Y,E,Z,ab,ad,F,ag,al,M,ao,-⟩:=id z;obtain⟨aw,a0,v,-,w,-⟩:=id C;simp only[AD,AG,zN,zR,w2P,zS] at*;obtain⟨v1,v2,o⟩:=u
  suffices O:(B J 22=true->0<=I J 8/\I J 8 < (S J 0).size)/\(B J 19=true->0<=I J 8/\I J 8 < (S J 0).size)/\(B J 15=true->0<=I J 8/\I J 8 < (S J 0).size)/\(B J 11=true->0<=I J 8/\I J 8 < (S J 0).size)/\(B J 27=true->(ACX T (I J 29)))/\(B J 27=true->((S T 0).size - (I J 29)).toNat < ((S T 0).size - (I J 8)).toNat) from
   let⟨V,ax,aK,W,Q,P⟩:=O;⟨⟨V,ax,aK,W,trivial⟩,fun c=>⟨Q c,P c⟩⟩
  refine⟨?_,?_,?_,?_,?_,?_⟩
  iterate 4
   .intro c;have d:B J 11=true:=by clear o;grind
    have b:=g.1 (h.1 d).2;rw[i,a] at b;rw[a];omega
  .intro c;have x:=v.1 c;have b:=g.1 (h.1 x.1).2;rw[i,a] at b;have e:I J 29=I J 8+1:=o2' w (by omega);refine⟨by omega,by omega,fun j y=>?_⟩;by_cases N:(j:Int) < I J 8
   .exact o j N
   .obtain rfl:j=(I J 8).toNat:=by omega
    unfold okB;have a4:I J 13=Br (S T 0) (I J 8).toNat:=by rw[D,a]
    have a5:I J 16=Br (S T 0) (I J 8).toNat:=by rw[E,a]
    have a6:I J 20=Br (S T 0) (I J 8).toNat:=by rw[F,a]
    have a7:I J 23=Br (S T 0) (I J 8).toNat:=by rw[M,a]
    have a2:=x.2;clear o;grind
  .intro c;have b:=g.1 (h.1 (v.1 c).1).2;rw[i,a] at b;have e:I J 29=I J 8+1:=o2' w (by omega);omega
theorem uN (a0:(S T 0).size<=140737488355328)(F:ACX T (I T 8))(H:¬B T 27=true)(d:AE T Qx)(c:AE T FS)(e:AE T Wh):
  (B T 32=(Cf (S T 0))):=by
 have o:=d;clear d;obtain⟨p,c⟩:=c.cut;have q:=c;clear c;have r:=e;clear e;obtain⟨J,P,-,e4,e5,e6,e7,-⟩:=id o;obtain⟨i,g,s,-,t,K,-,u,M,N,-,v,Q,-,w,V,-⟩:=id p;obtain⟨W,X,x,Y,-⟩:=id q;obtain⟨Z,-,ab,-⟩:=id r;simp only[AD,AG,zN,zC,zR,zL,zS] at*
 .obtain⟨aG,w2,a⟩:=F;refine Bool.eq_iff_iff.2 (Iff.trans ?_ vU.symm);have a1:I T 13=Br (S T 0) (I T 8).toNat:=t;have a2:I T 16=Br (S T 0) (I T 8).toNat:=u;have a3:I T 20=Br (S T 0) (I T 8).toNat:=v;have a4:I T 23=Br (S T 0) (I T 8).toNat:=w;constructor
  .intro h;have D:¬B T 6=true:=by clear a;grind
   have A:¬B T 28=true:=by clear a;grind
   have l:¬B T 11=true:=fun h=>by
    have y:B T 26=true:=by clear a;grind
    have z:=x.2 ⟨h,y⟩;simp[H] at z
   have k:¬B T 10=true:=by clear a;grind
   have hn:¬I T 8 < (S T 0).size:=fun h=>k (g.2 (by rw[i];exact h));refine⟨by clear a;grind,by clear a;grind,fun j hj=>a j (by omega)⟩
  .rintro⟨C,O,b⟩;have D:¬B T 6=true:=by clear a b;grind
   have A:¬B T 28=true:=fun h=>by
    have l:B T 11=true:=by clear a b;grind
    have k:I T 8 < (S T 0).size:=by have:=g.1 (s.1 l).2;rw[i] at this;exact this
    have E:=b (I T 8).toNat (by omega);unfold okB at E;clear a b;grind
   clear a b;grind
theorem X3:AW Try.prog 64 GP:=by
 refine An (l:=[]) A8 (by intro p h;exact absurd h (by simp)) uu (by kernel_rfl) fun T us y w o d t a=>?_;change us.length=1 at o;obtain⟨b,-⟩:=t;replace b:(S T 0).size<=140737488355328:=b;have x:=inS (j:=0) w o (by decide);clear y;rw[ABI,ABI,ABI] at a;obtain⟨g,a⟩:=cutB a;obtain⟨i,a⟩:=cutB a;obtain⟨c,a⟩:=cutB a;obtain⟨q,e⟩:=AN d (by kernel_rfl) g;obtain⟨C,k,z,A⟩:=ln b e c i;have u:=(AN (k.append e) (l:=FS) (by kernel_rfl) c);obtain⟨s,d⟩:=u;clear g c i e k;obtain⟨r,v⟩:=Ao (R:=[.b]) (ai:=fu) d (by kernel_rfl) a;have D:=uN b z A q s r;refine⟨⟨(fun _=>C),trivial⟩,v.trans ?_⟩;exact (lc (by show U.bool (B T 32)= .bool (HC us);unfold HC;rw[x];exact ACF U.bool D) rfl)
def KX:List U->Bool:=fun us=>(Cd (aS us 0) (aI us 1) (aI us 2))
def LV:AU:={ sh:=[.agg [.str,k64,k64]],blks:=[],outs:=[(.s "rplayer.0",HS KX)],c:= .b 3,m':=[],pre:=[] }
def Zl:List En:=[⟨3,.outB "xnamed.0" HC,[.e 0]⟩,
 ADO 4 3,
 ⟨5,.le,[.c (.int (-10000)),.e 1]⟩,
 AC4 6 4 5,
 ⟨7,.le,[.e 1,.c (.int 10000)]⟩,
 AC4 8 5 7,
 AC4 9 3 8,
 ADO 10 9,
 ⟨11,.le,[.c (.int (-12)),.e 2]⟩,
 AC4 12 9 11,
 ADO 13 12,
 ⟨14,.le,[.e 2,.c (.int 48)]⟩,
 AC4 15 12 14]
def Tj:List En:=Zl
def pR:List ObE:=[]
def ZF:List Rf:=[.e 15]
theorem pV:LV.sees ZF (LV.run Try.prog [(64,GP)] Ab 3000 20 61)=some ((Tj).map En.be,pR.map ObE.be,[]):=by kernel_rfl
theorem oH:AW Try.prog 61 LV:=by
 refine An (l:=[(64,GP)]) A8 (by simp only[ABT];exact⟨X3,fun _ h=>absurd h (by simp)⟩) pV (by kernel_rfl) fun T us F e a z w x=>?_;change us.length=3 at a;obtain⟨t,-⟩:=w;replace t:(S T 0).size<=140737488355328:=t;have A:=inS (j:=0) e a (by decide);have D:=inI (j:=1) e a (by decide);have E:=inI (j:=2) e a (by decide);clear F
 skip
 obtain⟨u,y⟩:=Ao (R:=[.b]) (ai:=ZF) z (by kernel_rfl) x;have v:=u;obtain⟨b,-,p,-,q,r,s,-,g,i,-,k,o,-⟩:=id v;replace b:B T 3=(Cf (S T 0)):=b;simp only[AD,AG,zR] at p q r s g i k o;have H:B T 15=(Cd (S T 0) (I T 1) (I T 2)):=by
  refine Bool.eq_iff_iff.2 (Iff.trans ?_ Fr.symm);rw[<-b,o,i,s,r,p,q,g,k];constructor
  .rintro⟨⟨⟨C,O⟩,c⟩,d⟩;exact⟨C,O,c,d⟩
  .rintro⟨C,O,c,d⟩;exact⟨⟨⟨C,O⟩,c⟩,d⟩
 refine⟨trivial,y.trans ?_⟩;exact (lc (by show U.bool (B T 15)= .bool (KX us);unfold KX;rw[A,D,E];exact ACF U.bool H) rfl)
def Ky:List U->Int:=fun us=>(AS (aL us 0))
def Dr:AU:={ sh:=[.one (.list [.str,k64,k64])],blks:=[],outs:=[(.s "rCheckP.0",Ba Ky)],c:=(Ch 1),m':=[],pre:=[] }
abbrev ACZ (T:Tab)(a:Int):Prop:=0<=a/\a<=(L T 0).length/\((L T 0).take a.toNat).all Cc=true
abbrev ACY (T:Tab)(a:Int):Prop:=0<=a/\a<=I T 16/\∀q:Nat,(q:Int) < a->¬uS ((L T 0).getD (I T 16).toNat []) 0=uS ((L T 0).getD q []) 0
abbrev ACa (T:Tab)(a:Int):Prop:=0<=a/\a<=(L T 0).length/\∀p q:Nat,q < p->(p:Int) < a->¬uS ((L T 0).getD p []) 0=uS ((L T 0).getD q []) 0
def ZV:List En:=[ADB 1 0,
 ⟨2,.lt,[.c (.int 24),.e 1]⟩,
 ADA 3 2]
def Ee:List En:=ZV
def Zy:List En:=[ADB 5 0,
 AC7 6 4 5,
 AC4 7 3 6,
 AC5 8 3 6,
 ADL 9 0 4,
 AC8 10 0 4,
 AC9 11 0 4,
 ⟨12,.outB "rplayer.0" KX,[.e 9,.e 10,.e 11]⟩,
 AC4 13 7 12,
 AC5 14 7 12,
 ⟨15,.w2 .i64 .add,[.e 4,.c (.int 1)]⟩]
def CX:List En:=Zy
def T7:List ObE:=[⟨some 7,.inl,[.e 4,.e 0]⟩]
def Kx:Aa:=mkD 4 1 CX 13 [.e 15] T7 [0,3]
def Oo:List Rf:=[.e 0,.e 3,.c (.int 0)]
def Hi:List En:=[]
def W1:List En:=[ADB 17 0,
 AC7 18 16 17,
 AC4 19 8 18,
 AC5 20 8 18]
def ED:List En:=W1
def Zs:List En:=[AC7 22 21 16,
 AC4 23 19 22,
 AC5 24 19 22,
 ADL 25 0 16,
 ADL 26 0 21,
 ⟨27,.eqs [.s],[.e 25,.e 26]⟩,
 AC4 28 23 27,
 AC5 29 23 27,
 ⟨30,.w2 .i64 .add,[.e 21,.c (.int 1)]⟩]
def DF:List En:=Zs
def UI:List ObE:=[⟨some 23,.inl,[.e 21,.e 0]⟩,⟨some 23,.inl,[.e 16,.e 0]⟩]
def Ha:Aa:=mkD 21 1 DF 29 [.e 30] UI [0,16,19]
def Ks:List Rf:=[.e 0,.e 16,.e 19,.c (.int 0)]
def Vj:List En:=[⟨31,.w2 .i64 .add,[.e 16,.c (.int 1)]⟩]
def Hu:List En:=Vj
def GA:List En:=ED++((Ad Ha [.i] Ks)++(DF++(Hu)))
def T8:List ObE:=[⟨some 19,.owes Ha,[.e 0,.e 16,.e 19,.c (.int 0)]⟩]
def Kt:Aa:=mkD 16 1 GA 24 [.e 31] T8 [0,8]
def Oe:List Rf:=[.e 0,.e 8,.c (.int 0)]
def ZX:List En:=[⟨32,.ite .i,[.e 28,.c (.int 12),.c (.int 0)]⟩,
 AC6 33 28 20,
 ⟨34,.ite .i,[.e 14,.c (.int 2),.e 32]⟩,
 AC6 35 14 33,
 ⟨36,.ite .i,[.e 2,.c (.int 6),.e 34]⟩,
 AC6 37 2 35]
def TP:List En:=ZX
def qR:List ObE:=[⟨some 8,.owes Kt,[.e 0,.e 8,.c (.int 0)]⟩,
 ⟨some 3,.owes Kx,[.e 0,.e 3,.c (.int 0)]⟩]
def YU:List Rf:=[.e 36]
theorem pg:Dr.sees YU (Dr.run Try.prog [(61,LV)] Ab 3000 20 20)=some ((Ee++((Ad Kx [.i] Oo)++(CX++(Hi++((Ad Kt [.i] Oe)++(GA++(TP))))))).map En.be,qR.map ObE.be,[]):=by kernel_rfl
abbrev cz(T:Tab):Prop:=0<=I T 16/\I T 16<=(L T 0).length/\(L T 0).length<=140737488355328
theorem fA (i:cz T)(a:AE T ED):
  (B T 19=true->I T 16 < (L T 0).length):=by
 have e:=a;clear a;have g:B T 19=true->I T 16 < (L T 0).length:=by
  obtain⟨b,c,d,-⟩:=e;simp only[AD,AG,zR,zL] at b c d;intro h;have:=c.1 (d.1 h).2;rw[b] at this;exact this
 exact g
theorem gW (r:cz T)(E:B T 19=true->I T 16 < (L T 0).length)(w:AK T (AO (hds 16 [.i]++EB [0,8] (AO (AO (hds 4 [.i]++(AO (Aj 0 Dr.ks) Ee)) CX) Hi)) ED))(u:AR T (DF.map En.be))(v:AR T ((Ad Ha [.i] Ks).map En.be)):
  (Ha).owes (Ks.map (Rf.eval T))/\AK T (hds 21 [.i])/\(ACY T (I T 21))/\¬B T 29=true:=by
 refine Ap (nh:=21) (k:=1) (pcn:=29) (an:=31) (H:=DF) (K:=UI) (nxt:=[.e 30]) (A:=[.c (.int 0)]) (fv:=[0,16,19]) (R:=[.i]) (by kernel_rfl) rfl rfl rfl rfl w (by kernel_rfl) (by kernel_rfl) u (Ae v) (fun s=>ACY T (aI s 0)) (fun s=>(I T 16 - (aI s 0)).toNat) ?_ ?_
 .show ACY T (0:Int);clear w u v;exact⟨ABt _,r.1,fun q h=>by omega⟩
 .intro J j i x;replace x:ACY T (I J 21):=x;clear w u v;replace i:AE J DF:=i;have F:=i;clear i;have p:=fvL (j 0 (by decide));have b:=fvI (j 16 (by decide));have D:=fvB (j 19 (by decide));clear j;obtain⟨d,e,-,y,z,C,-,l,o,-⟩:=id F;simp only[AD,AG,zN,zR,Cn,and_true,w2P,zL,zS] at d e y z C l o;obtain⟨v1,v2,v3⟩:=x
  suffices P:(B J 23=true->0<=I J 21/\I J 21 < (L J 0).length)/\(B J 23=true->0<=I J 16/\I J 16 < (L J 0).length)/\(B J 29=true->(ACY T (I J 30)))/\(B J 29=true->(I T 16 - (I J 30)).toNat < (I T 16 - (I J 21)).toNat) from
   let⟨Z,ax,V,Q⟩:=P;⟨⟨Z,ax,trivial⟩,fun a=>⟨V a,Q a⟩⟩
  refine⟨?_,?_,?_,?_⟩
  iterate 2
   .intro a;have g:=e.1 a;have c:=d.1 g.2;rw[b] at c;have N:=E (by rw[<-D];exact g.1);rw[p]
    try rw[b]
    omega
  .obtain⟨W,X,Y⟩:=r;intro a;have t:=l.1 a;have c:=d.1 (e.1 t.1).2;rw[b] at c;have ad:=o2' o (by omega);refine⟨by omega,by omega,fun q hq=>?_⟩;rcases Int.lt_or_le (q:Int) (I J 21) with h|h
   .exact v3 q h
   .have O:q=(I J 21).toNat:=by omega
    rw[O];intro M;have:B J 27=true:=C.2 (by rw[y,z,p,b];exact M);rw[this] at t;cases t.2
  .obtain⟨W,X,Y⟩:=r;intro a;have c:=d.1 (e.1 (l.1 a).1).2;rw[b] at c;have ad:=o2' o (by omega);omega
theorem TW (g:cz T)(c:AK T (hds 16 [.i]++EB [0,8] (AO (AO (hds 4 [.i]++(AO (Aj 0 Dr.ks) Ee)) CX) Hi)))(a:AR T (GA.map En.be)):
  (AE T ED)/\(B T 19=true->I T 16 < (L T 0).length)/\((Ha).owes (Ks.map (Rf.eval T)))/\(ACY T (I T 21))/\(¬B T 29=true)/\(AE T DF)/\(AE T Hu)/\AK T (AO (AO (hds 21 [.i]++(AO (hds 16 [.i]++EB [0,8] (AO (AO (hds 4 [.i]++(AO (Aj 0 Dr.ks) Ee)) CX) Hi)) ED)) DF) Hu):=by
 unfold GA at a;rw[ABI,ABI,ABI] at a;obtain⟨i,a⟩:=cutB a;obtain⟨j,a⟩:=cutB a;obtain⟨b,a⟩:=cutB a;obtain⟨e,d⟩:=AN c (by kernel_rfl) i;have h:=fA g e;obtain⟨u,k,s,t⟩:=gW g h d b j;have q:=(AN (k.append d) (l:=DF) (by kernel_rfl) b);obtain⟨o,c⟩:=q;clear i b j d k;obtain⟨p,r⟩:=AN c (by kernel_rfl) a;exact⟨e,h,u,s,t,o,p,r⟩
abbrev cD(T:Tab):Prop:=(L T 0).length<=140737488355328
theorem gM (Z:cD T)(t:AK T (AO (AO (hds 4 [.i]++(AO (Aj 0 Dr.ks) Ee)) CX) Hi))(o:AR T (GA.map En.be))(r:AR T ((Ad Kt [.i] Oe).map En.be)):
  (Kt).owes (Oe.map (Rf.eval T))/\AK T (hds 16 [.i])/\(ACa T (I T 16))/\¬B T 24=true:=by
 refine Jz (nh:=16) (k:=1) (pcn:=24) (an:=32) (H:=GA) (K:=T8) (nxt:=[.e 31]) (A:=[.c (.int 0)]) (fv:=[0,8]) (R:=[.i]) (by kernel_rfl) rfl rfl rfl rfl t (by kernel_rfl) o (Ae r) (fun s=>ACa T (aI s 0)) (fun s=>((L T 0).length - (aI s 0)).toNat) ?_ ?_
 .show ACa T (0:Int);clear t o r;exact⟨ABt _,by omega,fun p q _ h=>by omega⟩
 .intro J u E D d;replace d:ACa T (I J 16):=d;have b:=fvL (u 0 (by decide));have a1:=fvB (u 8 (by decide));clear u;clear t o r;have X:0<=I J 16/\I J 16<=(L J 0).length/\(L J 0).length<=140737488355328:=by
   obtain⟨M,N,O⟩:=d;rw[b];exact⟨M,N,Z⟩
  obtain⟨w,c,ax,al,a4,v,x,F⟩:=TW X E D;clear E D;have Y:=B9 F (ay:=[.i]) (ai:=[.e 31]) (by kernel_rfl);clear F;have Q:=w;clear w;have V:=v;clear v;have W:=x;clear x;obtain⟨e,g,i,-⟩:=id Q;obtain⟨y,-,j,-⟩:=id V;obtain⟨l,-⟩:=id W;simp only[AD,AG,zN,zR,w2P,zL] at e g i y j l;obtain⟨M,N,O⟩:=d
  suffices hz:(B J 24=true->(ACa T (I J 31)))/\(B J 24=true->((L T 0).length - (I J 31)).toNat < ((L T 0).length - (I J 16)).toNat) from
   let⟨nx,mz⟩:=hz;⟨Y,⟨(fun _=>ax),trivial⟩,fun a=>⟨nx a,mz a⟩⟩
  refine⟨?_,?_⟩
  .obtain⟨aG,w2,P⟩:=al;intro a;have z:=j.1 a;have c:=g.1 (i.1 z.1).2;rw[e,b] at c;have a3:¬I J 21 < I J 16:=fun h=>by have C:=z.2;rw[y.2 h] at C;cases C
   have a0:=o2' l (by omega);rw[b] at P;refine⟨by omega,by omega,fun p q hq a2=>?_⟩;rcases Int.lt_or_le (p:Int) (I J 16) with h|h
   .exact O p q hq h
   .have ab:p=(I J 16).toNat:=by omega
    rw[ab];exact P q (by omega)
  .intro a;have c:=g.1 (i.1 (j.1 a).1).2;rw[e,b] at c;have a0:=o2' l (by omega);omega
theorem lX:AW Try.prog 20 Dr:=by
 refine An (l:=[(61,LV)]) A8 (by simp only[ABT];exact⟨oH,fun _ h=>absurd h (by simp)⟩) pg (by kernel_rfl) fun T us c8 hT b9 V c2 b=>?_;change us.length=1 at b9;obtain⟨⟨al,c7⟩,-⟩:=c2;replace al:(L T 0).length<=140737488355328:=al;have ee:∀u∈(L T 0),AL AB KP u:=fun u hu=>by
  obtain⟨i,Y⟩:=ABZ.1 hu;exact c7 i u Y
 have c6:=inL (j:=0) hT b9 (by decide);clear c8;rw[ABI,ABI,ABI,ABI,ABI,ABI] at b;obtain⟨P,b⟩:=cutB b;obtain⟨Q,b⟩:=cutB b;obtain⟨z,b⟩:=cutB b;obtain⟨A0,v⟩:=AN V (by kernel_rfl) P;refine ACw (Ap (nh:=4) (k:=1) (pcn:=13) (an:=16) (H:=CX) (K:=T7) (nxt:=[.e 15]) (A:=[.c (.int 0)]) (fv:=[0,3]) (R:=[.i]) (by kernel_rfl) rfl rfl rfl rfl v (by kernel_rfl) (by kernel_rfl) z (Ae Q) (fun s=>ACZ T (aI s 0)) (fun s=>((L T 0).length - (aI s 0)).toNat)) ?_ ?_ fun⟨d1,W,ba,dn⟩=>?_
 .show ACZ T (0:Int);exact⟨ABt _,by omega,by simp⟩
 .intro J a7 hF X;replace X:ACZ T (I J 4):=X;replace hF:AE J CX:=hF;have F0:=hF;clear hF;have x:=fvL (a7 0 (by decide));have d8:=fvB (a7 3 (by decide));clear a7;obtain⟨e,o,r,-,M,E,F,w,D,-,a0,-⟩:=id F0;replace w:B J 12=(Cd (S J 9) (I J 10) (I J 11)):=w;simp only[AD,AG,zR,w2P,zL] at e o r M E F D a0;obtain⟨v1,v2,Z⟩:=X
  suffices hz:(B J 7=true->0<=I J 4/\I J 4 < (L J 0).length)/\(B J 13=true->(ACZ T (I J 15)))/\(B J 13=true->((L T 0).length - (I J 15)).toNat < ((L T 0).length - (I J 4)).toNat) from
   let⟨r0,nx,mz⟩:=hz;⟨⟨r0,trivial⟩,fun d=>⟨nx d,mz d⟩⟩
  refine⟨?_,?_,?_⟩
  .intro d;have c:=o.1 (r.1 d).2;rw[e,x] at c;rw[x];omega
  .intro d;have b3:=D.1 d;have c:=o.1 (r.1 b3.1).2;rw[e,x] at c;have cc:=o2' a0 (by omega);have a9:(I J 4).toNat < (L T 0).length:=by omega
   refine⟨by omega,by omega,?_⟩;rw[cc,show (I J 4+1).toNat=(I J 4).toNat+1 by omega,CQ a9,Qs];refine⟨Z,?_⟩;have t:=b3.2;rw[w,M,E,F,x] at t;exact t
  .intro d;have c:=o.1 (r.1 (D.1 d).1).2;rw[e,x] at c;have cc:=o2' a0 (by omega);omega
 replace ba:0<=I T 4/\I T 4<=(L T 0).length/\((L T 0).take (I T 4).toNat).all Cc=true:=ba;have c3:=(AN (W.append v) (l:=CX) (by kernel_rfl) z);obtain⟨B0,V⟩:=c3;clear P z Q v W;obtain⟨P,b⟩:=cutB b;obtain⟨Q,b⟩:=cutB b;obtain⟨z,b⟩:=cutB b;obtain⟨A1,v⟩:=AN V (by kernel_rfl) P;obtain⟨d2,W,ca,ds⟩:=gM al v z Q;have g1:0<=I T 16/\I T 16<=(L T 0).length/\(L T 0).length<=140737488355328:=by
  have x:L T 0=L T 0:=rfl;have d9:B T 8=B T 8:=rfl;have X:=ca;obtain⟨v1,v2,Z⟩:=X;rw[x];exact⟨v1,v2,al⟩
 obtain⟨cj,b4,el,de,dv,B2,cl,b8⟩:=TW g1 (W.append (Cj (fun _ _=>rfl) v)) z;have V:=b8.append v;clear P z Q v W b8;obtain⟨A3,hO⟩:=Ao (R:=[.i]) (ai:=YU) V (by kernel_rfl) b;have F0:=A0;have F1:=B0;have F2:=cj;have F3:=B2;have F4:=cl;have F5:=A3;obtain⟨e1,e2,e3,-⟩:=id F0;obtain⟨e,o,r,e8,M,E,F,w,D,ax,-⟩:=id F1;obtain⟨a1,a2,a3,-⟩:=id F2;obtain⟨bi,ab,bk,bl,bm,bo,a5,bs,-⟩:=id F3;obtain⟨bx,-,b0,-,b1,-⟩:=id F5;replace w:B T 12=(Cd (S T 9) (I T 10) (I T 11)):=w;simp only[AD,AG,zN,zR,Cn,and_true,zL,zS] at e1 e2 e3 e o r e8 M E F D ax a1 a2 a3 bi ab bk bl bm bo a5 bs bx b0 b1;have q0:I T 36=(AS (L T 0)):=by
  obtain⟨v1,v2,Z⟩:=ba;obtain⟨aG,w2,w3⟩:=ca;obtain⟨u1,u2,u3⟩:=de;unfold AS;rw[b1];by_cases O:B T 2=true
  .have g:=e2.1 O;rw[e1] at g;rw[ACE O,ACE (by omega)]
  .have g:¬24 < I T 1:=fun a=>O (e2.2 a);rw[e1] at g;have h3:=e3.2 (by simpa using O);rw[ACD O,ACD (by omega),b0];by_cases c:I T 4 < I T 5
   .have a9:(I T 4).toNat < (L T 0).length:=by rw[e] at c;omega
    have h7:=r.2 ⟨h3,o.2 c⟩;have t:B T 12=false:=Bool.eq_false_iff.2 fun h=>dn (D.2 ⟨h7,h⟩);have a8:¬(L T 0).all Cc=true:=fun a=>by
     have C:=ABb.1 a _ (Aq a9);rw[w,M,E,F] at t;have t:Cc ((L T 0).getD (I T 4).toNat [])=false:=t;rw[t] at C;cases C
    rw[ACE (ax.2 ⟨h7,t⟩),ACE a8]
   .have n6:B T 6=false:=Bool.eq_false_iff.2 fun a=>c (o.1 a);have dj:¬B T 14=true:=fun a=>by have:=(r.1 (ax.1 a).1).2;rw[n6] at this;cases this
    have ei:(I T 4).toNat=(L T 0).length:=by rw[e] at c;omega
    rw[ei,ACA] at Z;rw[ACD dj,ACD (fun a=>a Z),bx];have h8:=e8.2 ⟨h3,n6⟩;by_cases ad:B T 28=true
    .obtain⟨N,y⟩:=a5.1 ad;have a6:=bi.1 (ab.1 N).2;have b4:=a2.1 (a3.1 (ab.1 N).1).2;rw[a1] at b4;have y:=bo.1 y;rw[bl,bm] at y;have nd:¬Df (L T 0):=fun hd=>hd (I T 16).toNat (I T 21).toNat (by omega) (by omega) y;rw[ACE ad,ACE (Rx.2 nd)]
    .have dk:¬B T 19=true:=fun b5=>by
      by_cases a6:B T 22=true
      .have N:=ab.2 ⟨b5,a6⟩;by_cases y:B T 27=true
       .exact ad (a5.2 ⟨N,y⟩)
       .exact dv (bs.2 ⟨N,by simpa using y⟩)
      .exact ds (bk.2 ⟨b5,by simpa using a6⟩)
     have hl:¬I T 16 < (L T 0).length:=fun h=>dk (a3.2 ⟨h8,a2.2 (by rw[a1];exact h)⟩);have hd:Df (L T 0):=fun p q hq d=>w3 p q hq (by omega);rw[ACD ad,ACD (fun a=>(Rx.1 a) hd)]
 refine⟨⟨(fun _=>d2),(fun _=>d1),trivial⟩,hO.trans ?_⟩;exact (lc (by show U.int (I T 36)= .int (Ky us);unfold Ky;rw[c6];exact ACF U.int q0) rfl)
def Ji:List U->Int:=fun us=>(Fp (aI us 0) (aI us 1) (aI us 2) (aS us 4) (aS us 5) (aI us 7) (aI us 8))
def JV:AU:={ sh:=[.agg [k64,k64,k64,.bool,.str,.str,.bool,k64,k64]],blks:=[],outs:=[(.s "rCheckSh.0",Ba Ji)],c:=(Ch 9),m':=[],pre:=[] }
def XD:List En:=[⟨9,.le,[.c (.int 0),.e 0]⟩,
 ADO 10 9,
 ⟨11,.le,[.e 0,.c (.int 1099511627776)]⟩,
 AC4 12 9 11,
 ADO 13 12,
 ⟨14,.lt,[.e 1,.c (.int 0)]⟩,
 ⟨15,.or,[.n 12,.e 14]⟩,
 ADA 16 15,
 ⟨17,.lt,[.c (.int 1048576),.e 1]⟩,
 AC6 18 15 17,
 ADA 19 18,
 ⟨20,.le,[.c (.int 0),.e 2]⟩,
 AC4 21 19 20,
 ⟨22,.le,[.e 2,.c (.int 1099511627776)]⟩,
 AC4 23 20 22,
 ADT 24 18 23]
def Xi:List En:=[ADA 25 24,
 ⟨26,.outB "xnamed.0" HC,[.e 4]⟩,
 ADT 27 24 26,
 ADA 28 27,
 ⟨29,.outB "xnamed.0" HC,[.e 5]⟩,
 ADT 30 27 29,
 ADA 31 30,
 ⟨32,.eqs [.s],[.e 4,.e 5]⟩,
 AC6 33 30 32,
 ADA 34 33,
 ⟨35,.lt,[.e 8,.c (.int 0)]⟩,
 AC5 36 34 35,
 AC7 37 7 8,
 AC6 38 35 37,
 AC5 39 34 38,
 ⟨40,.lt,[.c (.int 26),.e 7]⟩]
def W8:List En:=[AC6 41 38 40,
 AC4 42 34 41,
 AC5 43 34 41,
 ⟨44,.ite .i,[.e 42,.c (.int 2),.c (.int 0)]⟩,
 AC6 45 42 43,
 ⟨46,.ite .i,[.e 33,.c (.int 2),.e 44]⟩,
 AC6 47 33 45]
def Rw:List En:=XD++(Xi++(W8))
def lA:List ObE:=[]
def Wu:List Rf:=[.e 46]
theorem oD:JV.sees Wu (JV.run Try.prog [(64,GP)] Ab 3000 20 22)=some ((Rw).map En.be,lA.map ObE.be,[]):=by kernel_rfl
theorem gc:AW Try.prog 22 JV:=by
 refine An (l:=[(64,GP)]) A8 (by simp only[ABT];exact⟨X3,fun _ h=>absurd h (by simp)⟩) oD (by kernel_rfl) fun T us a3 c b hS Z hE=>?_;change us.length=9 at b;obtain⟨-,-,-,p,q,-⟩:=Z;replace p:(S T 4).size<=140737488355328:=p;replace q:(S T 5).size<=140737488355328:=q;have al:=inI (j:=0) c b (by decide);have ao:=inI (j:=1) c b (by decide);have aw:=inI (j:=2) c b (by decide);have ax:=inS (j:=4) c b (by decide);have a0:=inS (j:=5) c b (by decide);have a1:=inI (j:=7) c b (by decide);have a2:=inI (j:=8) c b (by decide);clear a3
 skip
 obtain⟨d,hO⟩:=Ao (R:=[.i]) (ai:=Wu) hS (by kernel_rfl) hE;obtain⟨r,d⟩:=d.cut;obtain⟨s,d⟩:=d.cut;have t:=d;obtain⟨Y,-,u,v,-,w,x,-,y,z,-,A,-,C,D,E,-⟩:=id r;obtain⟨-,e,F,-,g,H,-,J,K,M,N,-,P,Q,-,V,-⟩:=id s;obtain⟨W,X,-,i,-,k,-⟩:=id t;replace e:B T 26=(Cf (S T 4)):=e;replace g:B T 29=(Cf (S T 5)):=g;simp only[AD,AG,zN,zR,Cn,and_true,zL,zS] at Y u v w x y z A C D E F H J K M N P Q V W X i k;have q0:I T 46=(Fp (I T 0) (I T 1) (I T 2) (S T 4) (S T 5) (I T 7) (I T 8)):=by
  unfold Fp;rw[k,i];have o:(B T 33=true\/B T 42=true)↔¬(KH (I T 0) 0 1099511627776&&KH (I T 2) 0 1099511627776&&KH (I T 1) 0 1048576&&Cf (S T 4)&&Cf (S T 5)&& !decide (S T 4=S T 5)&&decide (0<=I T 8)&&decide (I T 8<=I T 7)&&decide (I T 7<=26))=true:=by
   rw[<-e,<-g];simp only[AA8,Pm,Bool.not_eq_true',decide_eq_false_iff_not,decide_eq_true_eq];clear e g k i;grind
  by_cases h:B T 33=true
  .rw[ACE h,ACD (o.1 (.inl h))]
  .rw[ACD h];by_cases O:B T 42=true
   .rw[ACE O,ACD (o.1 (.inr O))]
   .rw[ACD O,ACE (ABq fun a=>(o.2 a).elim h O)]
 refine⟨trivial,hO.trans ?_⟩;exact (lc (by show U.int (I T 46)= .int (Ji us);unfold Ji;rw[al,ao,aw,ax,a0,a1,a2];exact ACF U.int q0) rfl)
def MI:List U->Bool:=fun us=>(EQ (aL us 0))
def Fj:AU:={ sh:=[.one (.list [k64,k64,k64,.bool,.str,.str,.bool,k64,k64])],blks:=[],outs:=[(.s "rsound.0",HS MI)],c:= .b 1,m':=[],pre:=[] }
def JJ:List En:=[]
def Xq:List En:=[ADB 2 0,
 AC7 3 1 2,
 ADA 4 3]
def Ey:List En:=Xq
def dg:List En:=[AC7 6 5 1,
 AC4 7 3 6,
 AC5 8 3 6,
 ADE 9 0 1,
 ADE 10 0 5,
 ⟨11,.eq,[.e 9,.e 10]⟩,
 AC4 12 7 11,
 AC4 13 7 11,
 AC8 14 0 1,
 AC4 15 7 11,
 AC4 16 7 11,
 AC8 17 0 5,
 ⟨18,.eq,[.e 14,.e 17]⟩,
 AC4 19 11 18,
 AC4 20 7 19,
 AC4 21 7 19]
def ed:List En:=[ADE 22 0 1,
 AC8 23 0 1,
 AC9 24 0 1,
 ADH 25 0 1,
 ADF 26 0 1,
 ADG 27 0 1,
 ADI 28 0 1,
 ADJ 29 0 1,
 ADK 30 0 1,
 AC4 31 7 19,
 AC4 32 7 19,
 ADE 33 0 5,
 AC8 34 0 5,
 AC9 35 0 5,
 ADH 36 0 5,
 ADF 37 0 5]
def fk:List En:=[ADG 38 0 5,
 ADI 39 0 5,
 ADJ 40 0 5,
 ADK 41 0 5,
 ⟨42,.nes [.i,.i,.i,.b,.s,.s,.b,.i,.i],[.e 22,.e 33,.e 23,.e 34,.e 24,.e 35,.e 25,.e 36,.e 26,.e 37,.e 27,.e 38,.e 28,.e 39,.e 29,.e 40,.e 30,.e 41]⟩,
 AC4 43 19 42,
 AC4 44 7 43,
 AC5 45 7 43,
 ⟨46,.w2 .i64 .add,[.e 5,.c (.int 1)]⟩]
def Dk:List En:=dg++(ed++(fk))
def Vu:List ObE:=[⟨some 32,.inl,[.e 5,.e 0]⟩,⟨some 21,.inl,[.e 1,.e 0]⟩,⟨some 16,.inl,[.e 5,.e 0]⟩,⟨some 13,.inl,[.e 1,.e 0]⟩,⟨some 7,.inl,[.e 5,.e 0]⟩,⟨some 7,.inl,[.e 1,.e 0]⟩]
def I9:Aa:=mkD 5 1 Dk 45 [.e 46] Vu [0,1,3]
def L9:List Rf:=[.e 0,.e 1,.e 3,.c (.int 0)]
def XM:List En:=[⟨47,.w2 .i64 .add,[.e 1,.c (.int 1)]⟩]
def JB:List En:=XM
def HG:List En:=Ey++((Ad I9 [.i] L9)++(Dk++(JB)))
def Vn:List ObE:=[⟨some 3,.owes I9,[.e 0,.e 1,.e 3,.c (.int 0)]⟩]
def Lt:Aa:=mkD 1 1 HG 8 [.e 47] Vn [0]
def QP:List Rf:=[.e 0,.c (.int 0)]
def cp:List En:=[⟨48,.ite .b,[.e 44,.c (.bool false),.c (.bool true)]⟩,
 AC6 49 44 4]
def Vl:List En:=cp
def vl:List ObE:=[⟨none,.owes Lt,[.e 0,.c (.int 0)]⟩]
def dO:List Rf:=[.e 48]
theorem uD:Fj.sees dO (Fj.run Try.prog [] Ab 3000 20 62)=some ((JJ++((Ad Lt [.i] QP)++(HG++(Vl)))).map En.be,vl.map ObE.be,[]):=by kernel_rfl
abbrev cP(T:Tab):Prop:=0<=I T 1/\I T 1<=(L T 0).length/\∀p q:Nat,q < p->(p:Int) < I T 1->okP (L T 0) p q
abbrev cV(T:Tab):Prop:=(L T 0).length<=140737488355328/\∀u∈(L T 0),AL AB KB u
theorem gz (g:cP T)(au:cV T)(a:AE T Ey):
  (B T 3=true->I T 1 < (L T 0).length):=by
 have b:=a;clear a;have e:B T 3=true->I T 1 < (L T 0).length:=by
  obtain⟨c,d,-⟩:=b;simp only[AD,zR,zL] at c d;grind
 exact e
abbrev ac(T:Tab)(a:Int):Prop:=0<=a/\a <=I T 1/\∀q:Nat,(q:Int) <a ->okP (L T 0) (I T 1).toNat q
abbrev dc(T:Tab):Prop:=B T 3=true->I T 1 < (L T 0).length
theorem oX (g1:cP T)(au:cV T)(h3:dc T)(hS:AK T (AO (hds 1 [.i]++EB [0] (AO (Aj 0 Fj.ks) JJ)) Ey))(hB:AR T (Dk.map En.be))(hH:AR T ((Ad I9 [.i] L9).map En.be)):
  (I9).owes (L9.map (Rf.eval T))/\AK T (hds 5 [.i])/\(ac T (I T 5))/\¬B T 45=true:=by
 refine Ap (nh:=5) (k:=1) (pcn:=45) (an:=47) (H:=Dk) (K:=Vu) (nxt:=[.e 46]) (A:=[.c (.int 0)]) (fv:=[0,1,3]) (R:=[.i]) (by kernel_rfl) rfl rfl rfl rfl hS (by kernel_rfl) (by kernel_rfl) hB (Ae hH) (fun s=>ac T (aI s 0)) (fun s=>(I T 1 - (aI s 0)).toNat) ?_ ?_
 .show ac T (0:Int);grind
 .intro J Y j ag;replace ag:ac T (I J 5):=ag;clear hS hB hH;replace j:AE J Dk:=j;obtain⟨i,j⟩:=j.cut;obtain⟨l,j⟩:=j.cut;have F2:=j;clear j;have ba:=fvL (Y 0 (by decide));have a2:=fvI (Y 1 (by decide));have bb:=fvB (Y 3 (by decide));clear Y
  suffices hz:(B J 32=true->0<=I J 5/\I J 5 < (L J 0).length)/\(B J 21=true->0<=I J 1/\I J 1 < (L J 0).length)/\(B J 16=true->0<=I J 5/\I J 5 < (L J 0).length)/\(B J 13=true->0<=I J 1/\I J 1 < (L J 0).length)/\(B J 7=true->0<=I J 5/\I J 5 < (L J 0).length)/\(B J 7=true->0<=I J 1/\I J 1 < (L J 0).length)/\(B J 45=true->(ac T (I J 46)))/\(B J 45=true->(I T 1 - (I J 46)).toNat < (I T 1 - (I J 5)).toNat) from
   let⟨r0,ax,aK,r3,r4,r5,nx,mz⟩:=hz;⟨⟨r0,ax,aK,r3,r4,r5,trivial⟩,fun Z=>⟨nx Z,mz Z⟩⟩
  refine⟨?_,?_,?_,?_,?_,?_,?_,?_⟩
  iterate 6
   .obtain⟨a,b,-,-,-,-,-,c,-,-,d,-,-,-,-,e,-⟩:=i;obtain⟨-,-,-,-,-,-,-,-,-,-,g,-⟩:=l;simp only[AD,AG,zR] at a b c d e g;grind
  .obtain⟨a,b,-,X,ab,ao,-,-,z,-,-,ad,aw,a0,-⟩:=i;obtain⟨o,p,r,t,u,v,w,x,y,-,-,C,D,E,F,M,-⟩:=l;obtain⟨N,O,P,Q,a1,a9,-,V,W,-⟩:=F2;simp only[AD,AG,zN,zR,Cn,and_true,w2P,zL,zS] at a b X ab ao z ad aw a0 o p r t u v w x y C D E F M N O P Q a1 a9 V W;obtain⟨v1,v2,v3⟩:=ag;obtain⟨cb,a7⟩:=au;intro Z;have bi:=V.1 Z;have h7:=b.1 bi.1;have h6:=a.1 h7.2;rw[a2] at h6;have hh:=h3 (by rw[<-bb];exact h7.1);have ch:=o2' W (by omega);have bl:(I T 1).toNat < (L T 0).length:=by omega
   have bm:(I J 5).toNat < (L T 0).length:=by omega
   have aD:=Wc (show TyB (L T 0) from a7) (show TyB (L T 0) from a7) bl bm;refine⟨by omega,by omega,fun q hq=>?_⟩;rcases Int.lt_or_le (q:Int) (I J 5) with h|h
   .exact v3 q h
   .have bo:q=(I J 5).toNat:=by omega
    rw[bo];intro k0 k1;refine aD.1 (ABq fun hn=>?_);have zz:True:=by have _:=o;have _:=p;have _:=r;have _:=t;have _:=u;have _:=v;have _:=w;have _:=x;have _:=y;have _:=C;have _:=D;have _:=E;have _:=F;have _:=M;have _:=N;have _:=O;have _:=P;have _:=Q;trivial
    rw[ba] at X ab z ad o p r t u v w x y C D E F M N O P Q;rw[a2] at X z o p r t u v w x y;rw[<-o,<-p,<-r,<-t,<-u,<-v,<-w,<-x,<-y,<-C,<-D,<-E,<-F,<-M,<-N,<-O,<-P,<-Q] at hn;have b9:=a1.2 hn;have b8:=a0.2 ⟨ao.2 (by rw[X,ab];exact k0),aw.2 (by rw[z,ad];exact k1)⟩;grind
  .obtain⟨a,b,-⟩:=i;obtain⟨-,-,-,-,-,-,-,V,W,-⟩:=F2;simp only[AD,AG,zN,zR,w2P] at a b V W;grind
theorem WA (e:cP T)(au:cV T)(c:AK T (hds 1 [.i]++EB [0] (AO (Aj 0 Fj.ks) JJ)))(a:AR T (HG.map En.be)):
  (AE T Ey)/\(B T 3=true->I T 1 < (L T 0).length)/\((I9).owes (L9.map (Rf.eval T)))/\(ac T (I T 5))/\(¬B T 45=true)/\(AE T Dk)/\(AE T JB)/\AK T (AO (AO (hds 5 [.i]++(AO (hds 1 [.i]++EB [0] (AO (Aj 0 Fj.ks) JJ)) Ey)) Dk) JB):=by
 unfold HG at a;rw[ABI,ABI,ABI] at a;obtain⟨g,a⟩:=cutB a;obtain⟨h,a⟩:=cutB a;obtain⟨b,a⟩:=cutB a;obtain⟨j,d⟩:=AN c (by kernel_rfl) g;have k:=gz e au j;obtain⟨u,i,s,t⟩:=oX e au k d b h;have o:=(AN (i.append d) (l:=Dk) (by kernel_rfl) b);obtain⟨p,c⟩:=o;clear g b h d i;obtain⟨q,r⟩:=AN c (by kernel_rfl) a;grind
abbrev aK(T:Tab)(a:Int):Prop:=0<=a/\a <=(L T 0).length/\∀p q:Nat,q < p->(p:Int) <a ->okP (L T 0) p q
theorem lB (Z:cD T)(Y:∀u∈(L T 0),AL AB KB u)(w:AK T (AO (Aj 0 Fj.ks) JJ))(r:AR T (HG.map En.be))(v:AR T ((Ad Lt [.i] QP).map En.be)):
  (Lt).owes (QP.map (Rf.eval T))/\AK T (hds 1 [.i])/\(aK T (I T 1))/\¬B T 8=true:=by
 refine Jz (nh:=1) (k:=1) (pcn:=8) (an:=48) (H:=HG) (K:=Vn) (nxt:=[.e 47]) (A:=[.c (.int 0)]) (fv:=[0]) (R:=[.i]) (by kernel_rfl) rfl rfl rfl rfl w (by kernel_rfl) r (Ae v) (fun s=>aK T (aI s 0)) (fun s=>((L T 0).length - (aI s 0)).toNat) ?_ ?_
 .show aK T (0:Int);grind
 .intro J z x t g;replace g:aK T (I J 1):=g;have E:=fvL (z 0 (by decide));clear z;clear w r v;have F:0<=I J 1/\I J 1<=(L J 0).length/\∀p q:Nat,q < p->(p:Int) < I J 1->okP (L J 0) p q:=by
   rw[E];exact g
  have au:(L J 0).length<=140737488355328/\∀u∈(L J 0),AL AB KB u:=by
   grind
  obtain⟨h,X,Q,ab,ad,a,i,y⟩:=WA F au x t;clear x t;have M:=B9 y (ay:=[.i]) (ai:=[.e 47]) (by kernel_rfl);clear y;have j:=h;clear h;obtain⟨l,a⟩:=a.cut;obtain⟨V,a⟩:=a.cut;have W:=a;clear a;have o:=i;clear i
  suffices N:(B J 8=true->(aK T (I J 47)))/\(B J 8=true->((L T 0).length - (I J 47)).toNat < ((L T 0).length - (I J 1)).toNat) from
   let⟨P,O⟩:=N;⟨M,⟨(fun _=>Q),trivial⟩,fun C=>⟨P C,O C⟩⟩
  refine⟨?_,?_⟩
  .obtain⟨b,c,-⟩:=j;obtain⟨D,-,e,-⟩:=l;obtain⟨d,-⟩:=o;simp only[AD,AG,zN,zR,w2P,zL] at b c D e d;grind
  .obtain⟨b,c,-⟩:=j;obtain⟨-,-,e,-⟩:=l;obtain⟨d,-⟩:=o;simp only[AD,AG,zN,zR,w2P,zL] at b c e d;grind
theorem uq (bk:cD T)(C:∀u∈(L T 0),AL AB KB u)(a9:aK T (I T 1))(bm:¬B T 8=true)(h3:dc T)(ba:ac T (I T 5))(bo:¬B T 45=true)(g1:aK T (I T 1))(au:cV T)(E:AE T Ey)(a:AE T Dk)(F:AE T JB)(D:AE T Vl):
  (B T 48=(EQ (L T 0))):=by
 have F0:=E;clear E;obtain⟨F1,a⟩:=a.cut;obtain⟨F2,a⟩:=a.cut;have F3:=a;clear a;have F4:=F;clear F;have F5:=D;clear D
 .obtain⟨O,P,-⟩:=F0;obtain⟨Y,A,e8,Z,H,J,-,-,K,-,-,M,N,c,-⟩:=F1;obtain⟨d,e,g,i,j,k,l,o,p,-,-,q,r,s,t,v,-⟩:=F2;obtain⟨w,x,y,z,Q,V,W,a5,-⟩:=F3;obtain⟨X,-⟩:=F5;simp only[AD,AG,zN,zC,zR,Cn,and_true,zL,zS] at O P Y A e8 Z H J K M N c d e g i j k l o p q r s t v w x y z Q V W a5 X;obtain⟨v1,v2,v3⟩:=a9;obtain⟨aG,w2,w3⟩:=ba;have zz:True:=by have _:=d;have _:=e;have _:=g;have _:=i;have _:=j;have _:=k;have _:=l;have _:=o;have _:=p;have _:=q;have _:=r;have _:=s;have _:=t;have _:=v;have _:=w;have _:=x;have _:=y;have _:=z;trivial
  have bl:B T 48=true↔EQ (L T 0)=true:=by
   rw[X,Yu (show TyB (L T 0) from C),ly];by_cases ag:B T 44=true
   .obtain⟨h7,a7⟩:=W.1 ag;have h6:=Y.1 (A.1 h7).2;have h3:=P.1 (A.1 h7).1;rw[O] at h3;have ao:(I T 1).toNat < (L T 0).length:=by omega
    have a8:(I T 5).toNat < (L T 0).length:=by omega
    have aD:=Wc (show TyB (L T 0) from C) (show TyB (L T 0) from C) ao a8;obtain⟨ab,b⟩:=V.1 a7;have b:=Q.1 b;rw[d,e,g,i,j,k,l,o,p,q,r,s,t,v,w,x,y,z] at b;have k0:=J.1 (c.1 ab).1;have k1:=N.1 (c.1 ab).2;rw[Z,H] at k0;rw[K,M] at k1;refine⟨fun h=>absurd ag (by simpa using h),fun h=>absurd (aD.2 (h (I T 1).toNat (I T 5).toNat (by omega) ao k0 k1)) b⟩
   .grind
  grind
theorem rj:AW Try.prog 62 Fj:=by
 refine An (l:=[]) A8 (by intro p h;exact absurd h (by simp)) uD (by kernel_rfl) fun T us H D t e A a=>?_;change us.length=1 at t;obtain⟨⟨c,F⟩,-⟩:=A;replace c:(L T 0).length<=140737488355328:=c;have s:∀u∈(L T 0),AL AB KB u:=fun u J=>by
  obtain⟨i,Y⟩:=ABZ.1 J;exact F i u Y
 have E:=inL (j:=0) D t (by decide);clear H;rw[ABI,ABI,ABI] at a;obtain⟨k,a⟩:=cutB a;obtain⟨o,a⟩:=cutB a;obtain⟨d,a⟩:=cutB a;obtain⟨V,b⟩:=AN e (by kernel_rfl) k;obtain⟨P,q,K,N⟩:=lB c s b d o;have g:aK T (I T 1):=by
  grind
 have au:(L T 0).length<=140737488355328/\∀u∈(L T 0),AL AB KB u:=by
  grind
 obtain⟨x,z,W,M,O,w,y,r⟩:=WA g au (q.append (Cj (fun _ _=>rfl) b)) d;have e:=r.append b;clear k d o b q r;obtain⟨v,C⟩:=Ao (R:=[.b]) (ai:=dO) e (by kernel_rfl) a;have Q:=uq c s K N z M O g au x w y v;refine⟨⟨(fun _=>P),trivial⟩,C.trans ?_⟩;exact (lc (by show U.bool (B T 48)= .bool (MI us);unfold MI;rw[E];exact ACF U.bool Q) rfl)
def KZ:List U->Int:=fun us=>(AM (aL us 0))
def IX:AU:={ sh:=[.one (.list [k64,k64,k64,.bool,.str,.str,.bool,k64,k64])],blks:=[],outs:=[(.s "rCheckL.0",Ba KZ)],c:=(Ch 1),m':=[],pre:=[] }
abbrev ACd (T:Tab)(a:Int):Prop:=0<=a/\a<=(L T 0).length/\((L T 0).take a.toNat).all C6=true
def Zj:List En:=[ADB 1 0,
 ⟨2,.lt,[.c (.int 200),.e 1]⟩,
 ADA 3 2]
def Og:List En:=Zj
def ZR:List En:=[ADB 5 0,
 AC7 6 4 5,
 AC4 7 3 6,
 AC5 8 3 6,
 ADE 9 0 4,
 AC8 10 0 4,
 AC9 11 0 4,
 ADH 12 0 4,
 ADF 13 0 4,
 ADG 14 0 4,
 ADI 15 0 4,
 ADJ 16 0 4,
 ADK 17 0 4,
 ⟨18,.outI "rCheckSh.0" Ji,[.e 9,.e 10,.e 11,.e 12,.e 13,.e 14,.e 15,.e 16,.e 17]⟩,
 ⟨19,.ne,[.e 18,.c (.int 0)]⟩,
 AC4 20 7 19]
def Zg:List En:=[AC5 21 7 19,
 ⟨22,.w2 .i64 .add,[.e 4,.c (.int 1)]⟩]
def Ej:List En:=ZR++(Zg)
def Ta:List ObE:=[⟨some 7,.inl,[.e 4,.e 0]⟩]
def Ka:Aa:=mkD 4 1 Ej 21 [.e 22] Ta [0,3]
def OW:List Rf:=[.e 0,.e 3,.c (.int 0)]
def Zm:List En:=[⟨23,.outB "rsound.0" MI,[.e 0]⟩,
 AC4 24 8 23,
 AC5 25 8 23,
 ⟨26,.ite .i,[.e 25,.c (.int 12),.c (.int 0)]⟩,
 AC6 27 25 24,
 ⟨28,.ite .i,[.e 20,.c (.int 2),.e 26]⟩,
 AC6 29 20 27,
 ⟨30,.ite .i,[.e 2,.c (.int 6),.e 28]⟩,
 AC6 31 2 29]
def Tl:List En:=Zm
def sv:List ObE:=[⟨some 3,.owes Ka,[.e 0,.e 3,.c (.int 0)]⟩]
def Yv:List Rf:=[.e 30]
theorem rc:IX.sees Yv (IX.run Try.prog [(22,JV),(62,Fj)] Ab 3000 20 21)=some ((Og++((Ad Ka [.i] OW)++(Ej++(Tl)))).map En.be,sv.map ObE.be,[]):=by kernel_rfl
theorem gy (ag:cD T)(z:AK T (AO (Aj 0 IX.ks) Og))(x:AR T (Ej.map En.be))(y:AR T ((Ad Ka [.i] OW).map En.be)):
  (Ka).owes (OW.map (Rf.eval T))/\AK T (hds 4 [.i])/\(ACd T (I T 4))/\¬B T 21=true:=by
 refine Ap (nh:=4) (k:=1) (pcn:=21) (an:=23) (H:=Ej) (K:=Ta) (nxt:=[.e 22]) (A:=[.c (.int 0)]) (fv:=[0,3]) (R:=[.i]) (by kernel_rfl) rfl rfl rfl rfl z (by kernel_rfl) (by kernel_rfl) x (Ae y) (fun s=>ACd T (aI s 0)) (fun s=>((L T 0).length - (aI s 0)).toNat) ?_ ?_
 .show ACd T (0:Int);clear z x y;exact⟨by omega,by omega,by simp⟩
 .intro J C c D;replace D:ACd T (I J 4):=D;clear z x y;replace c:AE J Ej:=c;obtain⟨O,c⟩:=c.cut;have P:=c;clear c;have w:=fvL (C 0 (by decide));have ad:=fvB (C 3 (by decide));clear C;obtain⟨e,g,h,-,v,i,j,-,l,o,-,p,q,r,E,-⟩:=id O;obtain⟨t,u,-⟩:=id P;replace r:I J 18=(Fp (I J 9) (I J 10) (I J 11) (S J 13) (S J 14) (I J 16) (I J 17)):=r;simp only[AD,AG,zN,zR,w2P,zL] at e g h v i j l o p q E t u;obtain⟨v1,v2,v3⟩:=D
  suffices W:(B J 7=true->0<=I J 4/\I J 4 < (L J 0).length)/\(B J 21=true->(ACd T (I J 22)))/\(B J 21=true->((L T 0).length - (I J 22)).toNat < ((L T 0).length - (I J 4)).toNat) from
   let⟨Z,Y,X⟩:=W;⟨⟨Z,trivial⟩,fun b=>⟨Y b,X b⟩⟩
  refine⟨?_,?_,?_⟩
  .intro b;have d:=g.1 (h.1 b).2;rw[e] at d;omega
  .intro b;have M:=t.1 b;have d:=g.1 (h.1 M.1).2;rw[e,w] at d;have N:=o2' u (by omega);have V:(I J 4).toNat < (L T 0).length:=by omega
   rw[w] at v i j l o p q;refine⟨by omega,by omega,?_⟩;rw[N,show (I J 4+1).toNat=(I J 4).toNat+1 by omega,CQ V,Qs];refine⟨v3,?_⟩;have Q:¬ ¬I J 18=0:=fun a=>by
    have:=E.2 a;simp[this] at M
   have F:I J 18=0:=ABq Q;rw[r,v,i,j,l,o,p,q] at F;exact decide_eq_true F
  .intro b;have d:=g.1 (h.1 (t.1 b).1).2;rw[e,w] at d;have N:=o2' u (by omega);omega
theorem tP (a1:cD T)(a0:∀u∈(L T 0),AL AB KB u)(ao:ACd T (I T 4))(ax:¬B T 21=true)(r:AE T Og)(c:AE T Ej)(s:AE T Tl):
  (I T 30=(AM (L T 0))):=by
 have X:=r;clear r;obtain⟨Y,c⟩:=c.cut;have Z:=c;clear c;have F3:=s;clear s;obtain⟨h,j,H,-⟩:=id X;obtain⟨o,p,q,K,M,t,v,-,w,x,-,y,z,i,A,k,-⟩:=id Y;obtain⟨D,-⟩:=id Z;obtain⟨d,-,l,E,-,F,-,J,-⟩:=id F3;replace i:I T 18=(Fp (I T 9) (I T 10) (I T 11) (S T 13) (S T 14) (I T 16) (I T 17)):=i;replace d:B T 23=(EQ (L T 0)):=d;simp only[AD,AG,zN,zR,zL,zS] at h j H o p q K M t v w x y z A k D l E F J
 .obtain⟨v1,v2,W⟩:=ao;unfold AM;rw[J];by_cases O:B T 2=true
  .have g:=j.1 O;rw[h] at g;rw[ACE O,ACE (by omega)]
  .have g:¬200 < I T 1:=fun a=>O (j.2 a);rw[h] at g;have P:=H.2 (by simpa using O);rw[ACD O,ACD (by omega),F];by_cases e:I T 4 < I T 5
   .have al:(I T 4).toNat < (L T 0).length:=by rw[o] at e;omega
    have Q:=q.2 ⟨P,p.2 e⟩;have b:B T 19=true:=by
     by_cases b:B T 19=true
     .exact b
     .exact absurd (D.2 ⟨Q,by simpa using b⟩) ax
    have a8:¬(L T 0).all C6=true:=fun a=>by
     have C:=of_decide_eq_true (ABb.1 a _ (Aq al));have N:=A.1 b;rw[i,M,t,v,w,x,y,z] at N;exact N C
    rw[ACE (k.2 ⟨Q,b⟩),ACE a8]
   .have V:B T 6=false:=Bool.eq_false_iff.2 fun a=>e (p.1 a);have aw:¬B T 20=true:=fun a=>by have:=(q.1 (k.1 a).1).2;rw[V] at this;cases this
    have ei:(I T 4).toNat=(L T 0).length:=by rw[o] at e;omega
    rw[ei,ACA] at W;rw[ACD aw,ACD (fun a=>a W),E];have h8:=K.2 ⟨P,V⟩;by_cases aa:EQ (L T 0)=true
    .rw[ACE aa,ACD (fun a=>by have:=(l.1 a).2;rw[d,aa] at this;cases this)]
    .rw[ACD aa,ACE (l.2 ⟨h8,by rw[d];simpa using aa⟩)]
theorem oq:AW Try.prog 21 IX:=by
 refine An (l:=[(22,JV),(62,Fj)]) A8 (by simp only[ABT];exact⟨gc,rj,fun _ h=>absurd h (by simp)⟩) rc (by kernel_rfl) fun T us C x p d t a=>?_;change us.length=1 at p;obtain⟨⟨b,z⟩,-⟩:=t;replace b:(L T 0).length<=140737488355328:=b;have A:∀u∈(L T 0),AL AB KB u:=fun u D=>by
  obtain⟨i,Y⟩:=ABZ.1 D;exact z i u Y
 have y:=inL (j:=0) x p (by decide);clear C;rw[ABI,ABI,ABI] at a;obtain⟨g,a⟩:=cutB a;obtain⟨k,a⟩:=cutB a;obtain⟨c,a⟩:=cutB a;obtain⟨q,e⟩:=AN d (by kernel_rfl) g;obtain⟨H,o,E,F⟩:=gy b e c k;have v:=(AN (o.append e) (l:=Ej) (by kernel_rfl) c);obtain⟨s,d⟩:=v;clear g c k e o;obtain⟨r,w⟩:=Ao (R:=[.i]) (ai:=Yv) d (by kernel_rfl) a;have J:=tP b A E F q s r;refine⟨⟨(fun _=>H),trivial⟩,w.trans ?_⟩;exact (lc (by show U.int (I T 30)= .int (KZ us);unfold KZ;rw[y];exact ACF U.int J) rfl)
def RB:List U->U':=fun us=>(Nw (aL us 0) (aL us 1))
def Mm:List U->Prop:=fun us=>((aL us 0)).length<=1048576
def NX:AU:={ sh:=[.one (.list [k64,k64,k64,.bool,.str,.str,.bool,k64,k64]),.one (.list [.int .u8 (0) (255)])],blks:=[],outs:=[(.s "shuf.0",CI RB)],c:= .ro 2 [k64,k64,k64,.bool,.str,.str,.bool,k64,k64],m':=[],pre:=[(.s "shuf.p0",Mm)] }
abbrev KI (T:Tab)(aZ:Int)(a:U'):Prop:=0<=aZ/\aZ<=(L T 0).length/\a=Ax (FH (L T 0) (L T 1)) aZ.toNat []
def bn:List En:=[]
def oZ:List En:=[ADB 4 0,
 AC7 5 2 4,
 ADA 6 5,
 ADB 7 1,
 AC7 8 2 7,
 AC4 9 5 8,
 ADE 10 1 2,
 ADB 11 3,
 ⟨12,.o2 .add,[.e 11,.c (.int 1)]⟩,
 ⟨13,.o2 .mod,[.e 10,.e 12]⟩,
 AC5 14 5 8,
 ⟨15,.ite .i,[.e 8,.e 13,.c (.int 0)]⟩,
 ⟨16,.id .l,[.c (.list [])]⟩,
 ⟨17,.take,[.e 3,.e 15]⟩,
 ADS 18 16 17,
 ADE 19 0 2]
def oK:List En:=[AC8 20 0 2,
 AC9 21 0 2,
 ADH 22 0 2,
 ADF 23 0 2,
 ADG 24 0 2,
 ADI 25 0 2,
 ADJ 26 0 2,
 ADK 27 0 2,
 ⟨28,.row 1 9 [.i,.i,.i,.b,.s,.s,.b,.i,.i],[.e 19,.e 20,.e 21,.e 22,.e 23,.e 24,.e 25,.e 26,.e 27]⟩,
 ADS 29 18 28,
 ⟨30,.drop,[.e 3,.e 15]⟩,
 ADS 31 29 30,
 ADB 32 1,
 AC7 33 2 32,
 AC4 34 5 33,
 ADE 35 1 2]
def oJ:List En:=[⟨36,.o2 .mod,[.e 35,.c (.int 5)]⟩,
 ⟨37,.eq,[.e 36,.c (.int 0)]⟩,
 AC4 38 33 37,
 AC4 39 5 38,
 ADE 40 0 2,
 AC8 41 0 2,
 AC9 42 0 2,
 ADH 43 0 2,
 ADF 44 0 2,
 ADG 45 0 2,
 ADI 46 0 2,
 ADJ 47 0 2,
 ADK 48 0 2,
 ⟨49,.row 1 9 [.i,.i,.i,.b,.s,.s,.b,.i,.i],[.e 40,.e 41,.e 42,.e 43,.e 44,.e 45,.e 46,.e 47,.e 48]⟩,
 ADS 50 31 49,
 AC5 51 5 38]
def nT:List En:=[ADD 52 38 50 31,
 ⟨53,.ite .l,[.e 38,.e 49,.c (.list [])]⟩,
 ⟨54,.w2 .i64 .add,[.e 2,.c (.int 1)]⟩]
def IU:List En:=oZ++(oK++(oJ++(nT)))
def aW:List ObE:=[⟨some 39,.fits 88,[.e 31,.e 49]⟩,⟨some 39,.inl,[.e 2,.e 0]⟩,⟨some 34,.inl,[.e 2,.e 1]⟩,⟨some 5,.fits 88,[.e 29,.e 30]⟩,⟨some 5,.take,[.e 3,.e 15]⟩,⟨some 5,.fits 88,[.e 18,.e 28]⟩,⟨some 5,.inl,[.e 2,.e 0]⟩,⟨some 5,.fits 88,[.e 16,.e 17]⟩,⟨some 5,.take,[.e 3,.e 15]⟩,⟨some 9,.inl,[.e 2,.e 1]⟩]
def RG:Aa:=mkD 2 2 IU 5 [.e 54,.e 52] aW [0,1]
def U8:List Rf:=[.e 0,.e 1,.c (.int 0),.c (.list [])]
def uG:List En:=[]
def zh:List ObE:=[⟨none,.owes RG,[.e 0,.e 1,.c (.int 0),.c (.list [])]⟩]
def qx:List Rf:=[.e 3]
theorem AAY:NX.sees qx (NX.run Try.prog [] qn 3000 20 54)=some ((bn++((Ad RG [.i,.l] U8)++(IU++(uG)))).map En.be,zh.map ObE.be,[]):=by kernel_rfl
theorem yM:AW Try.prog 54 NX:=by
 refine An (l:=[]) A8 (by intro p h;exact absurd h (by simp)) AAY (by kernel_rfl) fun T us di hT bk hS d5 y=>?_;change us.length=2 at bk;obtain⟨⟨db,d9⟩,⟨dd,e5⟩,-⟩:=d5;replace db:(L T 0).length<=140737488355328:=db;have c9:∀u∈(L T 0),AL AB KB u:=fun u hu=>by
  obtain⟨i,Y⟩:=ABZ.1 hu;exact d9 i u Y
 replace dd:(L T 1).length<=140737488355328:=dd;have c8:=inL (j:=0) hT bk (by decide);have d8:=inL (j:=1) hT bk (by decide);have e6:(L T 0).length<=1048576:=by
  have h:=di (.s "shuf.p0",Mm) (by simp[NX]);change Mm us at h;unfold Mm at h;simp only[c8] at h;exact h
 clear di;rw[ABI,ABI,ABI] at y;obtain⟨hA,y⟩:=cutB y;obtain⟨hH,y⟩:=cutB y;obtain⟨hB,y⟩:=cutB y;obtain⟨A0,bb⟩:=AN hS (by kernel_rfl) hA;refine ACw (Ap (nh:=2) (k:=2) (pcn:=5) (an:=55) (H:=IU) (K:=aW) (nxt:=[.e 54,.e 52]) (A:=[.c (.int 0),.c (.list [])]) (fv:=[0,1]) (R:=[.i,.l]) (by kernel_rfl) rfl rfl rfl rfl bb (by kernel_rfl) (by kernel_rfl) hB (Ae hH) (fun s=>KI T (aI s 0) (aL s 1)) (fun s=>((L T 0).length - (aI s 0)).toNat)) ?_ ?_ fun⟨en,c5,bl,el⟩=>?_
 .show KI T (0:Int) (([]:U'):U');exact⟨ABt _,by omega,rfl⟩
 .intro J bc v r;replace r:KI T (I J 2) (L J 3):=r;replace v:AE J IU:=v;obtain⟨E,v⟩:=v.cut;obtain⟨F1,v⟩:=v.cut;obtain⟨F2,v⟩:=v.cut;have F3:=v;clear v;have q:=fvL (bc 0 (by decide));have dk:=fvL (bc 1 (by decide));clear bc;have hl:(L J 3).length<=2*(I J 2).toNat:=by
   have hl:=Cp (l:=L T 0) (o:=L T 1) (I J 2).toNat;rw[<-r.2.2] at hl;exact hl
  have ha:0<=I J 15/\I J 15<=(L J 3).length:=by
   obtain⟨-,-,-,-,-,-,-,F,M,N,-,O,-⟩:=E;simp only[AD,AG,zR,BY,zL,zS] at F M N O;rw[O];by_cases h:B J 8=true
   .rw[ACE h,N,M,F];have:=Int.emod_nonneg (I J 10) (b:=((L J 3).length:Int)+1) (by omega);have:=Int.emod_lt_of_pos (I J 10) (b:=((L J 3).length:Int)+1) (by omega);omega
   .rw[ACD h];omega
  have hn:(L J 18).length=(I J 15).toNat/\(L J 28).length=1/\(L J 29).length=(I J 15).toNat+1/\(L J 31).length=(L J 3).length+1/\(L J 49).length=1/\(L J 16).length=0/\(L J 17).length=(I J 15).toNat:=by
   obtain⟨-,-,-,-,-,-,-,-,-,-,-,-,P,Q,V,-⟩:=E;obtain⟨-,-,-,-,-,-,-,-,W,X,D,Z,-⟩:=F1;obtain⟨-,-,-,-,-,-,-,-,-,-,-,-,-,ab,-⟩:=F2;simp only[AD,AG,zR,zL,zS,uR,Bv,zW] at P Q V W X D Z ab;have dv:(L J 17).length=(I J 15).toNat:=by rw[Q,ABl];omega
   have ds:(L J 16).length=0:=by rw[P];rfl
   have d0:(L J 18).length=(I J 15).toNat:=by rw[V,ABM];omega
   have a8:(L J 28).length=1:=by rw[W];rfl
   have c0:(L J 29).length=(I J 15).toNat+1:=by rw[X,ABM];omega
   refine⟨d0,a8,c0,?_,by rw[ab];rfl,ds,dv⟩;rw[Z,ABM,c0,D,ABs];omega
  obtain⟨c,g,-,e7,e8,e9,a0,F,M,N,-,O,P,Q,V,b1,-⟩:=id E;obtain⟨b2,b3,b4,b5,b6,b7,b8,b9,W,X,D,Z,ad,a1,a2,a3,-⟩:=id F1;obtain⟨ca,cb,cc,a4,ce,cf,ch,ci,cj,cl,cs,cu,cv,ab,cx,-⟩:=id F2;obtain⟨cy,-,a5,-⟩:=id F3;simp only[AD,AG,zR,BY,w2P,zL,zS,uR,Bv,zW] at c g e7 e8 e9 a0 F M N O P Q V b1 b2 b3 b4 b5 b6 b7 b8 b9 W X D Z ad a1 a2 a3 ca cb cc a4 ce cf ch ci cj cl cs cu cv ab cx cy a5
  suffices hz:(B J 39=true->((L J 31).length+(L J 49).length)*88<=140737488355328)/\(B J 39=true->0<=I J 2/\I J 2 < (L J 0).length)/\(B J 34=true->0<=I J 2/\I J 2 < (L J 1).length)/\(B J 5=true->((L J 29).length+(L J 30).length)*88<=140737488355328)/\(B J 5=true->0<=I J 15/\I J 15<=(L J 3).length)/\(B J 5=true->((L J 18).length+(L J 28).length)*88<=140737488355328)/\(B J 5=true->0<=I J 2/\I J 2 < (L J 0).length)/\(B J 5=true->((L J 16).length+(L J 17).length)*88<=140737488355328)/\(B J 5=true->0<=I J 15/\I J 15<=(L J 3).length)/\(B J 9=true->0<=I J 2/\I J 2 < (L J 1).length)/\(B J 5=true->(KI T (I J 54) (L J 52)))/\(B J 5=true->((L T 0).length - (I J 54)).toNat < ((L T 0).length - (I J 2)).toNat) from
   let⟨r0,ax,aK,r3,r4,r5,r6,r7,r8,r9,nx,mz⟩:=hz;⟨⟨r0,ax,aK,r3,r4,r5,r6,r7,r8,r9,trivial⟩,fun d=>⟨nx d,mz d⟩⟩
  refine⟨?_,?_,?_,?_,?_,?_,?_,?_,?_,?_,?_,?_⟩
  .obtain⟨w,x,t⟩:=r;intro d;rw[q] at c;have e:=g.1 ((a4.1 d).1);rw[c] at e;obtain⟨av,aB,n3,n4,n5,n6,n7⟩:=hn;omega
  .obtain⟨w,x,t⟩:=r;intro d;rw[q] at c;have e:=g.1 ((a4.1 d).1);rw[c] at e;rw[q];omega
  .obtain⟨w,x,t⟩:=r;intro d;rw[q] at c;have e:=g.1 ((a2.1 d).1);rw[c] at e;have d1:=a1.1 (a2.1 d).2;rw[ad] at d1;omega
  .obtain⟨w,x,t⟩:=r;intro d;rw[q] at c;have e:=g.1 (d);rw[c] at e;obtain⟨av,aB,n3,n4,n5,n6,n7⟩:=hn;have e4:(L J 30).length<=(L J 3).length:=by rw[D,ABs];omega
   omega
  .intro _;exact ha
  .obtain⟨w,x,t⟩:=r;intro d;rw[q] at c;have e:=g.1 (d);rw[c] at e;obtain⟨av,aB,n3,n4,n5,n6,n7⟩:=hn;omega
  .obtain⟨w,x,t⟩:=r;intro d;rw[q] at c;have e:=g.1 (d);rw[c] at e;rw[q];omega
  .obtain⟨w,x,t⟩:=r;intro d;rw[q] at c;have e:=g.1 (d);rw[c] at e;obtain⟨av,aB,n3,n4,n5,n6,n7⟩:=hn;omega
  .intro _;exact ha
  .obtain⟨w,x,t⟩:=r;intro d;rw[q] at c;have e:=g.1 ((e9.1 d).1);rw[c] at e;have h8:=e8.1 (e9.1 d).2;rw[e7] at h8;omega
  .obtain⟨w,x,t⟩:=r;intro d;rw[q] at c;have e:=g.1 (d);rw[c] at e;have dj:=o2' a5 (by omega);refine⟨by omega,by omega,?_⟩;rw[dj,show (I J 2+1).toNat=(I J 2).toNat+1 by omega];show _=FH (L T 0) (L T 1) (I J 2).toNat (Ax (FH (L T 0) (L T 1)) (I J 2).toNat []);rw[<-t];have hm:(L T 0).getD (I J 2).toNat []∈(L T 0):=Aq (by omega);have a8:L J 28=[(L T 0).getD (I J 2).toNat []]:=by
    rw[W,b1,b2,b3,b4,b5,b6,b7,b8,b9,q];exact ACF (fun z=>[z]) (Fq (c9 _ hm))
   have d3:L J 49=[(L T 0).getD (I J 2).toNat []]:=by
    rw[ab,ce,cf,ch,ci,cj,cl,cs,cu,cv,q];exact ACF (fun z=>[z]) (Fq (c9 _ hm))
   rw[dk] at e7 a0 ad a3;have dm:I J 10=AJ (L T 1) (I J 2).toNat 0:=a0;have d2:I J 35=AJ (L T 1) (I J 2).toNat 0:=a3;have dn:(I J 15).toNat=if (I J 2).toNat < (L T 1).length then (AJ (L T 1) (I J 2).toNat 0 % (((L J 3).length:Int)+1)).toNat else 0:=by
    rw[O];by_cases h:B J 8=true
    .have:=e8.1 h;rw[ACE h,ACE (by omega),N,M,F,dm]
    .have:¬I J 2 < I J 7:=fun a=>h (e8.2 a);rw[ACD h,ACD (by omega)];rfl
   have c1:L J 31=(L J 3).take (I J 15).toNat++([(L T 0).getD (I J 2).toNat []]++(L J 3).drop (I J 15).toNat):=by
    rw[Z,D,X,V,Q,P,a8];simp
   have c2:B J 38=true↔((I J 2).toNat < (L T 1).length/\AJ (L T 1) (I J 2).toNat 0 % 5=0):=by
    rw[cc,a1,ad,cb,ca,d2];exact and_congr (by omega) Iff.rfl
   unfold FH;simp only;rw[cy,<-dn];by_cases h:B J 38=true
   .rw[ACE h,ACE (c2.1 h),cx,d3,c1]
   .rw[ACD h,ACD (fun a=>h (c2.2 a)),c1]
  .obtain⟨w,x,t⟩:=r;intro d;rw[q] at c;have e:=g.1 (d);rw[c] at e;have dj:=o2' a5 (by omega);omega
 replace bl:0<=I T 2/\I T 2<=(L T 0).length/\L T 3=Ax (FH (L T 0) (L T 1)) (I T 2).toNat []:=bl;have d6:=(AN (c5.append bb) (l:=IU) (by kernel_rfl) hB);obtain⟨C,hS⟩:=d6;clear hA hB hH bb c5;obtain⟨A1,hO⟩:=Ao (R:=[.l]) (ai:=qx) hS (by kernel_rfl) y;obtain⟨E,C⟩:=C.cut;obtain⟨F1,C⟩:=C.cut;obtain⟨F2,C⟩:=C.cut;have F3:=C;obtain⟨c,g,-⟩:=id E;simp only[AD,zR,zL] at c g;have q0:L T 3=(Nw (L T 0) (L T 1)):=by
  obtain⟨w,x,t⟩:=bl;have e:¬I T 2 < I T 4:=fun h=>el (g.2 h);rw[c] at e;rw[t,show (I T 2).toNat=(L T 0).length by omega];rfl
 refine⟨⟨(fun _=>en),trivial⟩,hO.trans ?_⟩;exact (lc (by show U.list (L T 3)= .list (RB us);unfold RB;rw[c8,d8];exact ACF U.list q0) rfl)
end
section
open Go Go.Eng Go.Proofs Go.Shelf Go.RowKit Go.Lib
def JD:List U->Bool:=fun us=>(Cf (aS us 0))
def Mn:AU:={ sh:=[.one (.str)],blks:=[],outs:=[(.s "xvname.0",HS JD)],c:= .b 1,m':=[],pre:=[] }
def l9:Go.Shelf.Ren:=⟨fun|17=>110|15=>130|20=>142|n=>n,fun|9=>9|23=>159|4=>4|3=>3|0=>0|21=>21|n=>n,fun|n=>n⟩
theorem mY:Go.Proofs.LaysGw.n17 Try.prog l9:={
 mixed:=by kernel_rfl
 f15:=Try.func130.trans (ACF some (by kernel_rfl))
 f17:=Try.func110.trans (ACF some (by kernel_rfl))
 f20:=Try.func142.trans (ACF some (by kernel_rfl))
 t0:=Try.underlying0
 a0:=Try.isAgg0
 z0:=Try.sizeOf0
 v0:=Try.zeroValue0
 i0:=by kernel_rfl
 t3:=Try.underlying3
 a3:=Try.isAgg3
 z3:=Try.sizeOf3
 v3:=Try.zeroValue3
 i3:=by kernel_rfl
 t4:=Try.underlying4
 a4:=Try.isAgg4
 z4:=Try.sizeOf4
 v4:=Try.zeroValue4
 i4:=by kernel_rfl
 t9:=Try.underlying9
 a9:=Try.isAgg9
 z9:=Try.sizeOf9
 v9:=Try.zeroValue9
 i9:=by kernel_rfl
 t21:=Try.underlying21
 a21:=Try.isAgg21
 z21:=Try.sizeOf21
 v21:=Try.zeroValue21
 i21:=by kernel_rfl
 t23:=Try.underlying159
 a23:=Try.isAgg159
 z23:=Try.sizeOf159
 v23:=Try.zeroValue159
 i23:=by kernel_rfl }
theorem iQ (w:World):PredAt Try.prog 111 #[] encR C9 w:=fun W r _=>by
 unfold FnGives C9;by_cases C:97<=r<;>by_cases O:r<=122<;>by_cases b:48<=r<;>by_cases c:r<=57
 all_goals
  have d:(r:Int) < 97↔r < 97:=by omega
  have e:(122:Int) < (r:Int)↔122 < r:=by omega
  have g:(r:Int) < 48↔r < 48:=by omega
  have h:(57:Int) < (r:Int)↔57 < r:=by omega
  go_enter Try.func111,Try.ntmps111
  go_wp2
  all_goals first|(exfalso;omega)|(go_ret;exact⟨by first|(simp;done)|(simp;omega),0,rfl⟩)
set_option maxHeartbeats 1000000 in
theorem cr (s:ByteArray)(aa:s.size<=AB)(w:World):Calls Try.prog 83 #[.string s] w fun e ab=>e= .returned (.bool (Cf s))/\Below w.heap.size w ab:=by
 have a:=Any.strings_ContainsFunc mY 111 #[] (enters_of Try.func111 (by kernel_rfl) rfl) C9 s w (iQ w);change Calls Try.prog 110 _ _ _ at a;rw[nS];obtain⟨d,hd⟩:∃d,decide (0<=Lib.idxFunc C9 true s)=d:=⟨_,rfl⟩;rw[hd] at a⊢;clear hd;unfold AB at aa;by_cases C:1<=s.size<;>by_cases O:s.size<=20
 all_goals
  go_enter Try.func83,Try.ntmps83
  go_wp2_with (go_at_call 110;refine a.mono ?_;rintro e ab ⟨rfl,b⟩)
  all_goals (go_ret;exact⟨by simp[C,O],by first|exact b|exact Below.refl _ _⟩)
theorem X8:AW Try.prog 83 Mn:=by
 refine WU rfl rfl ⟨Try.f83,Try.func83,by kernel_rfl,by kernel_rfl⟩ fun T us d a j V w W h=>?_;obtain⟨v,k,rfl,⟨_,s,aa,rfl,i⟩,rfl⟩:=h;have g:us.length=1:=d;refine (cr s i w).mono fun e ab ⟨C,O⟩=>⟨_,C,O,show 1 < 2 by decide,Cf s,?_,rfl⟩;have b:aS us 0=s:=by
  have:=a 0 us[0] (by unfold AU.us;rw[ABO (by omega)];exact ABC (by omega));rw[aa] at this;unfold aS;rw[ABV,ABC (show 0 < us.length by omega),Option.getD_some,<-this];rfl
 have c:=a 1 (HS JD us) (by unfold AU.us;rw[ABP (by omega),g];rfl);rw[c];show U.bool (Cf (aS us 0))=_;rw[b]
end
section
open Go Go.Eng Go.Proofs
set_option maxHeartbeats 4000000
set_option maxRecDepth 100000
def Ku:List U->Int:=fun us=>(Fp (aI us 0) (aI us 1) (aI us 2) (aS us 4) (aS us 5) (aI us 7) (aI us 8))
def LE:AU:={ sh:=[.agg [k64,k64,k64,.bool,.str,.str,.bool,k64,k64]],blks:=[],outs:=[(.s "checkSh.0",Ba Ku)],c:=(Ch 9),m':=[],pre:=[] }
def Zt:List En:=[⟨9,.le,[.c (.int 0),.e 0]⟩,
 ADO 10 9,
 ⟨11,.le,[.e 0,.c (.int 1099511627776)]⟩,
 AC4 12 9 11,
 ADO 13 12,
 ⟨14,.le,[.c (.int 0),.e 2]⟩,
 AC4 15 13 14,
 ⟨16,.le,[.e 2,.c (.int 1099511627776)]⟩,
 AC4 17 14 16,
 ⟨18,.or,[.n 12,.n 17]⟩,
 ADA 19 18,
 ⟨20,.lt,[.e 1,.c (.int 0)]⟩,
 AC6 21 18 20,
 ADA 22 21,
 ⟨23,.lt,[.c (.int 1048576),.e 1]⟩,
 AC6 24 21 23]
def ZU:List En:=[ADA 25 24,
 ⟨26,.outB "xvname.0" JD,[.e 4]⟩,
 AC4 27 25 26,
 ⟨28,.outB "xvname.0" JD,[.e 5]⟩,
 ⟨29,.or,[.n 26,.n 28]⟩,
 AC5 30 25 29,
 ⟨31,.eqs [.s],[.e 4,.e 5]⟩,
 AC6 32 29 31,
 AC4 33 25 32,
 AC5 34 25 32,
 ⟨35,.lt,[.e 8,.c (.int 0)]⟩,
 AC5 36 34 35,
 AC7 37 7 8,
 AC6 38 35 37,
 AC5 39 34 38,
 ⟨40,.lt,[.c (.int 26),.e 7]⟩]
def Zi:List En:=[AC6 41 38 40,
 AC4 42 34 41,
 AC5 43 34 41,
 AC6 44 33 42,
 AC6 45 24 44,
 ⟨46,.ite .i,[.e 45,.c (.int 2),.c (.int 0)]⟩,
 AC6 47 45 43]
def UD:List En:=Zt++(ZU++(Zi))
def qN:List ObE:=[]
def Ye:List Rf:=[.e 46]
theorem pB:LE.sees Ye (LE.run Try.prog [(83,Mn)] Ab 3000 20 43)=some ((UD).map En.be,qN.map ObE.be,[]):=by kernel_rfl
theorem lE:AW Try.prog 43 LE:=by
 refine An (l:=[(83,Mn)]) A8 (by simp only[ABT];exact⟨X8,fun _ h=>absurd h (by simp)⟩) pB (by kernel_rfl) fun T us a4 c b hS ab hE=>?_;change us.length=9 at b;obtain⟨-,-,-,o,p,-⟩:=ab;replace o:(S T 4).size<=140737488355328:=o;replace p:(S T 5).size<=140737488355328:=p;have ao:=inI (j:=0) c b (by decide);have aw:=inI (j:=1) c b (by decide);have ax:=inI (j:=2) c b (by decide);have a0:=inS (j:=4) c b (by decide);have a1:=inS (j:=5) c b (by decide);have a2:=inI (j:=7) c b (by decide);have a3:=inI (j:=8) c b (by decide);clear a4
 skip
 obtain⟨d,hO⟩:=Ao (R:=[.i]) (ai:=Ye) hS (by kernel_rfl) hE;obtain⟨q,d⟩:=d.cut;obtain⟨r,d⟩:=d.cut;have s:=d;obtain⟨Z,-,t,u,-,v,-,w,x,y,-,z,A,-,C,D,-⟩:=id q;obtain⟨E,e,-,g,F,-,H,J,K,M,N,-,O,P,-,Q,-⟩:=id r;obtain⟨V,W,-,X,Y,i,-⟩:=id s;replace e:B T 26=(Cf (S T 4)):=e;replace g:B T 28=(Cf (S T 5)):=g;simp only[AD,AG,zN,zR,Cn,and_true,zL,zS] at Z t u v w x y z A C D E F H J K M N O P Q V W X Y i;have q0:I T 46=(Fp (I T 0) (I T 1) (I T 2) (S T 4) (S T 5) (I T 7) (I T 8)):=by
  unfold Fp;rw[i];have k:B T 45=true↔¬(KH (I T 0) 0 1099511627776&&KH (I T 2) 0 1099511627776&&KH (I T 1) 0 1048576&&Cf (S T 4)&&Cf (S T 5)&& !decide (S T 4=S T 5)&&decide (0<=I T 8)&&decide (I T 8<=I T 7)&&decide (I T 7<=26))=true:=by
   rw[<-e,<-g];simp only[AA8,Pm,Bool.not_eq_true',decide_eq_false_iff_not,decide_eq_true_eq];clear e g i;grind
  by_cases h:B T 45=true
  .rw[ACE h,ACD (k.1 h)]
  .rw[ACD h,ACE (ABq fun a=>h (k.2 a))]
 refine⟨trivial,hO.trans ?_⟩;exact (lc (by show U.int (I T 46)= .int (Ku us);unfold Ku;rw[ao,aw,ax,a0,a1,a2,a3];exact ACF U.int q0) rfl)
end
end Go.Eng
end
