/-
  A part of the proof: the evaluator of code and its soundness.
-/
import Derived.Test.YtikbgnmcfncnaaaKB2
import Derived.Test.YtikbgnmcfncnaaaKB1
import Derived.Test.YtikbgnmcfncnaaaE4
import Derived.Test.YtikbgnmcfncnaaaE5
import Derived.Test.YtikbgnmcfncnaaaKB0
set_option linter.unusedVariables false
set_option linter.unusedSimpArgs false
noncomputable section
namespace Go.Eng
section
open Go Go.Eng Go.Proofs
set_option maxHeartbeats 4000000
set_option maxRecDepth 100000
theorem wT:Pc.sees pf (Pc.runC Try.prog Gy [(137,GM)] Bp 3000 20 100)=some ((cV).map En.be,wW.map ObE.be,[]):=by kernel_rfl
abbrev ig(T:Tab):Prop:=(L T 0).length<=140737488355328
variable{T:Tab}
theorem xB (l:ig T)(k:∀u∈(L T 0),Bb BT KB u)(j:((L T 0)).length<=40/\(20 < ((L T 0)).length->Dst ltB (L T 0)))(i:BV T cV):
  ((L T 5)=(CX ltB (L T 0)))/\
  (((L T 3)).length=I T 4/\I T 4=I T 4/\I T 4<=40/\(20 < I T 4->Dst ltB (L T 3)))/\
  ((((L T 1)).length+((L T 0)).length)*88<=140737488355328):=by
 have e:=i;clear i;refine⟨?_,?_,?_⟩
 .obtain⟨a,-,c,b,g,-⟩:=e;replace g:L T 5=(Br ltB (L T 3) 0 (I T 4).toNat):=g;simp only[BS,BZ,zR,zL,zS] at a c b;have d:(L T 3)=L T 0:=by rw[c,a];rfl
  rw[g,b,d];exact UO (by omega)
 .obtain⟨a,-,c,b,-⟩:=e;simp only[BS,BZ,zR,zL,zS] at a c b;have d:(L T 3)=L T 0:=by rw[c,a];rfl
  refine⟨b.symm,rfl,?_,?_⟩
  .rw[b,d];omega
  .rw[b,d];exact fun h=>j.2 (by omega)
 .obtain⟨a,-⟩:=e;simp only[BS,zR,zL,zS] at a;rw[a];show (0+_)*_<=_;omega
theorem uu:Bl Try.prog 100 Pc:=by
 refine GX FU (l:=[(137,GM)]) CP (by simp only[AW];exact⟨sw,fun _ h=>absurd h (by simp)⟩) wT (by kernel_rfl) fun T us c q d p g k=>?_;change us.length=1 at d;obtain⟨⟨a,r⟩,-⟩:=g;replace a:(L T 0).length<=140737488355328:=a;have s:∀u∈(L T 0),Bb BT KB u:=fun u t=>by
  obtain⟨i,ab⟩:=Ac.1 t;exact r i u ab
 have b:=inL (j:=0) q d (by decide);have v:((L T 0)).length<=40/\(20 < ((L T 0)).length->Dst ltB (L T 0)):=by
  have h:=c (.s "ordB.p0",Ke) (by simp[Pc]);change Ke us at h;unfold Ke at h;simp only[b] at h;exact h
 clear c
 skip
 obtain⟨e,o⟩:=B8 (A:=[.l]) (ah:=pf) p (by kernel_rfl) k;obtain⟨w,x,aB⟩:=xB a s v e;refine⟨⟨(fun _=>x),(fun _=>aB),trivial⟩,o.trans ?_⟩;exact (lc (by show U.list (L T 5)= .list (Nj us);unfold Nj;rw[b];exact BI U.list w) rfl)
def OG:List U->List (List U):=fun us=>CH (aL us 0)
def Lu:List U->Prop:=fun us=>(aL us 0).length<=40
def FQ:Bf:={ sh:=[.one (.list [k64,k64,k64,.bool,.str,.str,.bool,k64,k64])],blks:=[],outs:=[(.s "books.0",D1 OG)],c:= .ro 1 [k64,k64,k64,.bool,.str,.str,.bool,k64,k64],m':=[],pre:=[(.s "books.p0",Lu)] }
def se:List En:=[nl 44 6 38,ABF 45 6 38,⟨46,.row 1 9 [.i,.i,.i,.b,.s,.s,.b,.i,.i],[.e 35,.e 36,.e 37,.e 38,.e 39,.e 40,.e 41,.e 42,.e 43]⟩,⟨47,.app,[.e 34,.e 46]⟩,ABX 48 38 34 47,⟨49,.ite .l,[.e 38,.c (.list []),.e 46]⟩]
def ri:List ObE:=[⟨some 45,.fits 88,[.e 34,.e 46]⟩]
def rY:List En:=[⟨35,.outL "ordB.0" Nj,[.e 34]⟩]
def sP:List ObE:=[⟨some 6,.pre "ordB.p0" Ke,[.e 34]⟩]
theorem vJ:(Z6 Try.prog (GN Try.prog (XB Try.prog Gy [(100,Pc)]) Bp 3000 20) (Bp 65) { Ys.none with mu:=(Bp 65).mu } 3000 rgB Try.f65 FQ.args FQ.m FQ.n).bind (cp FQ [.e 35])=
  some ((some 6,34,4,1),(some 6,48),((KC++((B5 J2 [.i,.l] Mc)++(Fd++(V2)))).map En.be,bd.map ObE.be),(se.map En.be,ri.map ObE.be),(rY.map En.be,sP.map ObE.be),[]):=by kernel_rfl
theorem oJ (l:List (List U)):((List.range l.length).map fun j=>l.getD j [])=l:=by
 refine List.ext_getElem? fun i=>?_;rw[Aj];rcases AQ i l.length with h|h
 .rw[List.getElem?_range h,AF h];simp[h]
 .rw[Ai (by simpa using h),Ai h];rfl
theorem U8:Bl Try.prog 65 FQ:=by
 refine fI (F:=Da) FU CP (l:=[(100,Pc)]) (by simp only[AW];exact⟨uu,fun _ h=>absurd h (by simp)⟩) wO Try.func65 tA (by kernel_rfl) vJ (by kernel_rfl) fun T us a9 A K hS z hE=>?_;obtain⟨O,C⟩:=nE T us (fun p hp=>absurd hp (by simp[I8])) A K hS z hE;have hx:T.get 4= .list (CI (aL us 0)):=(List.cons.inj C).1;have H:(T 4).toL=CI (aL us 0):=BI U.toL hx;have bs:(aL us 0).length<=40:=a9 (.s "books.p0",Lu) (by simp[FQ]);have a2:=inL (j:=0) A K (by decide);have a3:∀u∈L T 0,Bb BT KB u:=fun u o=>by
  obtain⟨i,ab⟩:=Ac.1 o;exact z.1.2 i u ab
 have bx:=bK (l:=aL us 0);refine⟨O,fun b1=>⟨fun M i r q x E Q k4 V W k7 k8 aw=>?_,fun M x E ax=>?_⟩⟩
 .rw[H] at Q V W;obtain⟨u,o,N⟩:=(JT (l:=aL us 0)).row r (List.mem_of_getElem? V);rw[a2] at N;have a4:=a3 u N;obtain⟨bl,bm,X,Y,Z,bo,_⟩:=aw;have v:T.get 34= .list q:=k7;have J:[T.get 35,T.get 36,T.get 37,T.get 38,T.get 39,T.get 40,T.get 41,T.get 42,T.get 43]=u:=by
   have ba:=rS a4;have hd:r.drop 1=u:=by rw[o];rfl
   have k:∀j,j < 9->T.get (35+j)=u.getD j default:=fun j hj=>by
    have D:j < u.length:=by omega
    have:=k8 j (u[j]) (by rw[hd];exact AF D);rw[show 35+j=34+1+j by omega,this];simp[D]
   rw[k 0 (by omega),k 1 (by omega),k 2 (by omega),k 3 (by omega),k 4 (by omega),k 5 (by omega),k 6 (by omega),k 7 (by omega),k 8 (by omega)]
   match u,ba with
   |[a,b,c,d,e,f,g,h,i],_=>rfl
  have y:T.get 46= .list [u]:=by
   rw[<-J];exact X
  have b0:q.length<=40:=by
   rw[W];have s:=Up (m:=M.map fun j=>(CI (aL us 0)).getD j []);rw[List.length_map] at s;have:=Nw _ M E Q;omega
  have a6:lR T (.e 46)=[u]:=by show (T.get 46).toL=_;rw[y];rfl
  have a5:lR T (.e 34)=q:=by show (T.get 34).toL=_;rw[v];rfl
  refine⟨⟨fun _=>?_,trivial⟩,?_⟩
  .show ((lR T (.e 34)).length+(lR T (.e 46)).length)*88<=_;rw[a5,a6];show (q.length+1)*88<=_;omega
  .have w:uB r 4=(T.get 38).toB:=by
    rw[o,<-J];rfl
   have ag:T.get 47= .list (q++[u]):=by
    have:T.get 47=U.list ((T.get 34).toL++(T.get 46).toL):=Y;rw[this,v,y];rfl
   have al:T.get 48=bif (T.get 38).toB then T.get 34 else T.get 47:=Z
   show T.get 48=_;rw[al];unfold Da;rw[w];cases (T.get 38).toB with
   |true=>simp only[cond_true,if_true];rw[v,yJ]
   |false=>
    simp only[cond_false,AZ,if_false];rw[ag,o];rfl
 .rw[H] at x E;have P:T.get 34= .list ((M.map fun j=>(CI (aL us 0)).getD j []).flatMap Da):=E;have t:((M.map fun j=>(CI (aL us 0)).getD j []).flatMap Da).Perm ((CI (aL us 0)).flatMap Da):=by
   have s:=x.map fun j=>(CI (aL us 0)).getD j [];rw[oJ] at s;exact s.flatMap_right Da
  have ad:T.get 35=D1 Nj [T.get 34]:=ax.1;have ho:T.get 35= .list (CH (aL us 0)):=by
   rw[ad,P];show U.list (CX ltB _)=_;exact BI U.list (qP t)
  refine⟨⟨fun _=>?_,trivial⟩,?_⟩
  .show Ke [T.get 34];rw[P];show ((M.map fun j=>(CI (aL us 0)).getD j []).flatMap Da).length<=40/\(20 < ((M.map fun j=>(CI (aL us 0)).getD j []).flatMap Da).length->Dst ltB ((M.map fun j=>(CI (aL us 0)).getD j []).flatMap Da));have:=t.length_eq;have:=Up (m:=CI (aL us 0));refine⟨by omega,fun _ a b ha w O C=>?_⟩;rw[K4] at O C;exact eJ JT (t.subset ha) (t.subset w) (by omega)
  .show [T.get 35]=[D1 OG us];rw[ho];rfl
def yg:List U->List (List U):=fun us=>(if Bc (aL us 0)=0 then CH (aL us 0) else [])
def yf:List U->Int:=fun us=>(Bc (aL us 0))
def yb:List U->Prop:=fun us=>((aL us 0)).length<=40\/200 < ((aL us 0)).length
def yc:Bf:={ sh:=[.one (.list [k64,k64,k64,.bool,.str,.str,.bool,k64,k64])],blks:=[],outs:=[(.s "Books.0",D1 yg),(.s "Books.1",CW yf)],c:= .tup [.ro 1 [k64,k64,k64,.bool,.str,.str,.bool,k64,k64],(Cy 2)],m':=[],pre:=[(.s "Books.p0",yb)] }
def zV:List En:=[⟨1,.outI "checkL.0" RL,[.e 0]⟩,
 ⟨2,.ne,[.e 1,.c (.int 0)]⟩,
 ABH 3 2,
 ⟨4,.outL "books.0" OG,[.e 0]⟩,
 ⟨5,.ite .i,[.e 2,.e 1,.c (.int 0)]⟩,
 ⟨6,.ite .l,[.e 2,.c (.list []),.e 4]⟩,
 ABG 7 2 3]
def zH:List En:=zV
def zo:List ObE:=[⟨some 3,.pre "books.p0" Lu,[.e 0]⟩]
def zX:List Rf:=[.e 6,.e 5]
theorem zm:yc.sees zX (yc.run Try.prog [(47,Nh),(65,FQ)] Bp 3000 20 23)=some ((zH).map En.be,zo.map ObE.be,[]):=by kernel_rfl
theorem zn (p:ig T)(o:∀u∈(L T 0),Bb BT KB u)(q:((L T 0)).length<=40\/200 < ((L T 0)).length)(j:BV T zH):
  ((L T 6)=(if Bc (L T 0)=0 then CH (L T 0) else []))/\
  ((I T 5)=(Bc (L T 0)))/\
  (B T 3=true->((L T 0)).length<=40):=by
 have d:=j;clear j;refine⟨?_,?_,?_⟩
 .obtain⟨b,c,-,e,-,i,-⟩:=d;replace b:I T 1=(Bc (L T 0)):=b;replace e:L T 4=(CH (L T 0)):=e;simp only[BS,BZ,zR,zL,zS] at c i;have k:(B T 2)=true↔¬Bc (L T 0)=0:=by rw[c,b]
  by_cases h:(B T 2)=true
  .rw[i,BH h,BG (k.1 h)]
  .rw[i,BG h,BH (At fun a=>h (k.2 a)),e]
 .obtain⟨b,c,-,-,g,-⟩:=d;replace b:I T 1=(Bc (L T 0)):=b;simp only[BS,BZ,zR,zL,zS] at c g;have k:(B T 2)=true↔¬Bc (L T 0)=0:=by rw[c,b]
  by_cases h:(B T 2)=true
  .rw[g,BH h,b]
  .rw[g,BG h];exact (At fun a=>h (k.2 a)).symm
 .obtain⟨b,c,l,-⟩:=d;replace b:I T 1=(Bc (L T 0)):=b;simp only[BS,BZ,zR] at c l;intro h;have k:(B T 2)=true↔¬Bc (L T 0)=0:=by rw[c,b]
  have n:¬B T 2=true:=by simpa using l.1 h
  have:=Mp (At fun a=>n (k.2 a));show ((L T 0)).length<=40;omega
theorem zi:Bl Try.prog 23 yc:=by
 refine B7 (l:=[(47,Nh),(65,FQ)]) CP (by simp only[AW];exact⟨YU,U8,fun _ h=>absurd h (by simp)⟩) zm (by kernel_rfl) fun T us c q d p g k=>?_;change us.length=1 at d;obtain⟨⟨b,r⟩,-⟩:=g;replace b:(L T 0).length<=140737488355328:=b;have s:∀u∈(L T 0),Bb BT KB u:=fun u t=>by
  obtain⟨i,ab⟩:=Ac.1 t;exact r i u ab
 have a:=inL (j:=0) q d (by decide);have v:((L T 0)).length<=40\/200 < ((L T 0)).length:=by
  have h:=c (.s "Books.p0",yb) (by simp[yc]);change yb us at h;unfold yb at h;simp only[a] at h;exact h
 clear c
 skip
 obtain⟨e,o⟩:=B8 (A:=[.l,.i]) (ah:=zX) p (by kernel_rfl) k;obtain⟨w,x,y⟩:=zn b s v e;refine⟨⟨y,trivial⟩,o.trans ?_⟩;exact (lc (by show U.list (L T 6)= .list (yg us);unfold yg;rw[a];exact BI U.list w) (lc (by show U.int (I T 5)= .int (yf us);unfold yf;rw[a];exact BI U.int x) rfl))
def HA:List U->Bool:=fun us=>(Dl (aS us 0) (aI us 1) (aI us 2))
def Ho:Bf:={ sh:=[.agg [.str,k64,k64]],blks:=[],outs:=[(.s "vplayer.0",Jx HA)],c:= .b 3,m':=[],pre:=[] }
def Zp:List En:=[⟨3,.outB "xvname.0" KR,[.e 0]⟩,
 ABU 4 3,
 ⟨5,.le,[.c (.int (-10000)),.e 1]⟩,
 nl 6 4 5,
 ⟨7,.le,[.e 1,.c (.int 10000)]⟩,
 nl 8 5 7,
 nl 9 3 8,
 ABU 10 9,
 ⟨11,.le,[.c (.int (-12)),.e 2]⟩,
 nl 12 9 11,
 ABU 13 12,
 ⟨14,.le,[.e 2,.c (.int 48)]⟩,
 nl 15 12 14]
def Td:List En:=Zp
def qS:List ObE:=[]
def YS:List Rf:=[.e 15]
theorem nZ:Ho.sees YS (Ho.run Try.prog [(83,NM)] Bp 3000 20 82)=some ((Td).map En.be,qS.map ObE.be,[]):=by kernel_rfl
theorem pk (q:(S T 0).size<=140737488355328)(d:BV T Td):
  ((B T 15)=(Dl (S T 0) (I T 1) (I T 2))):=by
 have p:=d;clear d
 .obtain⟨a,-,j,-,k,l,o,-,e,g,-,h,i,-⟩:=p;replace a:B T 3=(Dn (S T 0)):=a;simp only[BS,BZ,zR] at j k l o e g h i;refine Bool.eq_iff_iff.2 (Iff.trans ?_ G9.symm);rw[<-a,i,g,o,l,j,k,e,h];constructor
  .rintro⟨⟨⟨O,C⟩,b⟩,c⟩;exact⟨O,C,b,c⟩
  .rintro⟨O,C,b,c⟩;exact⟨⟨⟨O,C⟩,b⟩,c⟩
theorem Vi:Bl Try.prog 82 Ho:=by
 refine B7 (l:=[(83,NM)]) CP (by simp only[AW];exact⟨YG,fun _ h=>absurd h (by simp)⟩) nZ (by kernel_rfl) fun T us r b a k e g=>?_;change us.length=3 at a;obtain⟨c,-⟩:=e;replace c:(S T 0).size<=140737488355328:=c;have o:=inS (j:=0) b a (by decide);have p:=inI (j:=1) b a (by decide);have q:=inI (j:=2) b a (by decide);clear r
 skip
 obtain⟨d,i⟩:=B8 (A:=[.b]) (ah:=YS) k (by kernel_rfl) g;have s:=pk c d;refine⟨trivial,i.trans ?_⟩;exact (lc (by show U.bool (B T 15)= .bool (HA us);unfold HA;rw[o,p,q];exact BI U.bool s) rfl)
def MS:List U->Int:=fun us=>(BW (aL us 0))
def Iz:Bf:={ sh:=[.one (.list [.str,k64,k64])],blks:=[],outs:=[(.s "checkP.0",CW MS)],c:=(Cy 1),m':=[],pre:=[] }
def bT:List En:=[ABL 1 0,
 ⟨2,.lt,[.c (.int 24),.e 1]⟩,
 ABH 3 2,
 ⟨4,.id .l,[.c (.list [])]⟩,
 ABL 5 0]
def MP:List En:=bT
def aT:List En:=[ABI 8 6 5,
 nl 9 3 8,
 ABF 10 3 8,
 ABY 11 0 6,
 ABJ 12 0 6,
 ABK 13 0 6,
 ⟨14,.outB "vplayer.0" HA,[.e 11,.e 12,.e 13]⟩,
 nl 15 9 14,
 ABF 16 9 14,
 ⟨17,.mset 1 [.s,.b],[.e 7,.e 11,.c (.bool true)]⟩,
 ⟨18,.w2 .i64 .add,[.e 6,.c (.int 1)]⟩]
def Gk:List En:=aT
def VU:List ObE:=[⟨some 15,.fits 1,[.e 7,.c (.list [[]])]⟩,⟨some 9,.inl,[.e 6,.e 0]⟩]
def Mg:Bs:=mkD 6 2 Gk 15 [.e 18,.e 17] VU [0,3,5]
def QL:List Rf:=[.e 0,.e 3,.e 5,.c (.int 0),.e 4]
def bw:List En:=[ABL 19 7,
 ABL 20 0,
 ABI 21 19 20,
 nl 22 10 21,
 ABF 23 10 21,
 ⟨24,.ite .i,[.e 22,.c (.int 12),.c (.int 0)]⟩,
 ABG 25 22 23,
 ⟨26,.ite .i,[.e 16,.c (.int 2),.e 24]⟩,
 ABG 27 16 25,
 ⟨28,.ite .i,[.e 2,.c (.int 6),.e 26]⟩,
 ABG 29 2 27]
def Vy:List En:=bw
def rm:List ObE:=[⟨some 3,.owes Mg,[.e 0,.e 3,.e 5,.c (.int 0),.e 4]⟩]
def eK:List Rf:=[.e 28]
theorem tT:Iz.sees eK (Iz.run Try.prog [(82,Ho)] Bp 3000 20 41)=some ((MP++((B5 Mg [.i,.l] QL)++(Gk++(Vy)))).map En.be,rm.map ObE.be,[]):=by kernel_rfl
theorem fG (i:ig T)(h:∀u∈(L T 0),Bb BT KP u)(a:BV T MP):
  ((I T 5)=((L T 0)).length)/\((L T 4)=[]):=by
 have b:=a;clear a;have g:(I T 5)=((L T 0)).length:=by
  obtain⟨-,-,-,-,d,-⟩:=b;simp only[BS,zR,zL] at d;exact d
 have e:(L T 4)=[]:=by
  obtain⟨-,-,-,c,-⟩:=b;simp only[BS,zR,zL,zS] at c;exact c
 exact⟨g,e⟩
abbrev fl(T:Tab)(a:Int)(b:List (List U)):Prop:=0<=a/\a <=((L T 0)).length/\(((L T 0)).take a.toNat).all Dk=true/\b=Cl (((L T 0)).take a.toNat)
theorem mO (al:ig T)(h5:(I T 5)=((L T 0)).length)(V:(L T 4)=[])(C:Ba T (Bh (CA 0 Iz.ks) MP))(y:Bi T (Gk.map En.be))(z:Bi T ((B5 Mg [.i,.l] QL).map En.be)):
  (Mg).owes (QL.map (Rf.eval T))/\Ba T (hds 6 [.i,.l])/\(fl T (I T 6) (L T 7))/\¬B T 15=true:=by
 refine CK (nh:=6) (k:=2) (pcn:=15) (R:=19) (b:=Gk) (K:=VU) (nxt:=[.e 18,.e 17]) (H:=[.c (.int 0),.e 4]) (fv:=[0,3,5]) (A:=[.i,.l]) (by kernel_rfl) rfl rfl rfl rfl C (by kernel_rfl) (by kernel_rfl) y (B6 z) (fun s=>fl T (aI s 0) (aL s 1)) (fun s=>(((L T 0)).length - (aI s 0)).toNat) ?_ ?_
 .show fl T (0:Int) (L T 4);clear C y z;exact⟨by omega,by omega,by simp,by rw[show (0:Int).toNat=0 from rfl,List.take_zero];exact V⟩
 .intro J t r h;replace h:fl T (I J 6) (L J 7):=h;clear C y z;replace r:BV J Gk:=r;have o:=r;clear r;have N:=fvL (t 0 (by decide));have ad:=fvB (t 3 (by decide));have q:=fvI (t 5 (by decide));clear t
  suffices X:(B J 15=true->(((L J 7)).length+(([[]]:List (List U))).length)*1<=140737488355328)/\(B J 9=true->0<=I J 6/\I J 6 < ((L J 0)).length)/\(B J 15=true->(fl T (I J 18) (L J 17)))/\(B J 15=true->(((L T 0)).length - (I J 18)).toNat < (((L T 0)).length - (I J 6)).toNat) from
   let⟨r0,aB,Z,Y⟩:=X;⟨⟨r0,aB,trivial⟩,fun d=>⟨Z d,Y d⟩⟩
  refine⟨?_,?_,?_,?_⟩
  .obtain⟨a,c,-,-,-,-,-,e,-⟩:=o;simp only[BS,BZ,zR] at a c e;obtain⟨D,E,u,j⟩:=h;intro d;have g:=a.1 (c.1 (e.1 d).1).2;rw[q] at g;have W:=Ql (l:=((L T 0)).take (I J 6).toNat);rw[<-j,Ao] at W;show (((L J 7)).length+1)*1<=_;omega
  .obtain⟨a,c,-⟩:=o;simp only[BS,BZ,zR] at a c;obtain⟨D,E,u,j⟩:=h;intro d;have g:=a.1 (c.1 d).2;rw[q] at g;rw[N];omega
  .obtain⟨a,c,-,p,v,w,x,e,-,M,i,-⟩:=o;replace x:B J 14=(Dl (S J 11) (I J 12) (I J 13)):=x;simp only[BS,BZ,zC,zR,w2P,zL,zS,uR,zW] at a c p v w e M i;obtain⟨D,E,u,j⟩:=h;intro d;have P:=e.1 d;have g:=a.1 (c.1 P.1).2;rw[q] at g;have F:=o2' i (by omega);have Q:(I J 6).toNat < ((L T 0)).length:=by omega
   rw[N] at p v w;refine⟨by omega,by omega,?_,?_⟩
   .rw[F,show ((I J 6)+1).toNat=(I J 6).toNat+1 by omega,D6 Q,RB];refine⟨u,?_⟩;have O:=P.2;rw[x,p,v,w] at O;exact O
   .rw[F,show ((I J 6)+1).toNat=(I J 6).toNat+1 by omega,D6 Q,PP,<-j,M,p];rfl
  .obtain⟨a,c,-,-,-,-,-,e,-,-,i,-⟩:=o;simp only[BS,BZ,zR,w2P] at a c e i;obtain⟨D,E,u,j⟩:=h;intro d;have g:=a.1 (c.1 (e.1 d).1).2;rw[q] at g;have F:=o2' i (by omega);omega
theorem uA (ax:ig T)(aw:∀u∈(L T 0),Bb BT KP u)(h5:(I T 5)=((L T 0)).length)(h4:(L T 4)=[])(ab:fl T (I T 6) (L T 7))(ag:¬B T 15=true)(r:BV T MP)(t:BV T Gk)(s:BV T Vy):
  ((I T 28)=(BW (L T 0))):=by
 have O:=r;clear r;have P:=t;clear t;have Q:=s;clear s
 .obtain⟨b,g,F,-,V,-⟩:=O;obtain⟨k,l,v,w,x,y,c,z,d,-⟩:=P;obtain⟨e,h,i,j,-,A,-,D,-,E,-⟩:=Q;replace c:B T 14=(Dl (S T 11) (I T 12) (I T 13)):=c;simp only[BS,BZ,zN,zR,zL,zS] at b g F V k l v w x y z d e h i j A D E;obtain⟨v1,v2,N,q⟩:=ab;unfold BW;rw[E];by_cases C:24 < ((L T 0)).length
  .rw[BH C,BH (g.2 (by rw[b];omega))]
  .have aD:¬B T 2=true:=fun a=>by have:=g.1 a;rw[b] at this;omega
   rw[BG C,BG aD,D];have H:=F.2 (by simpa using aD);by_cases J:(I T 6) < I T 5
   .have Y:=k.2 J;have K:=l.2 ⟨H,Y⟩;have p:¬B T 14=true:=fun a=>ag (z.2 ⟨K,a⟩);have Z:(I T 6).toNat < ((L T 0)).length:=by omega
    have a6:¬((L T 0)).all Dk=true:=fun a=>by
     have:=Ae.1 a _ (Ca Z);rw[c,w,x,y] at p;exact p this
    rw[BH a6,BH (d.2 ⟨K,by simpa using p⟩)]
   .have M:¬B T 8=true:=fun a=>J (k.1 a);have X:=v.2 ⟨H,by simpa using M⟩;have ad:¬B T 16=true:=fun a=>M (l.1 (d.1 a).1).2;have W:(I T 6).toNat=((L T 0)).length:=by omega
    rw[W,BD] at N q;rw[BG ad,BG (fun a=>a N),A];by_cases o:(Cl ((L T 0))).length < ((L T 0)).length
    .rw[BH o,BH (j.2 ⟨X,i.2 (by rw[e,h,q];omega)⟩)]
    .rw[BG o,BG (fun a=>o (by have:=i.1 (j.1 a).2;rw[e,h,q] at this;omega))]
theorem SM:Bl Try.prog 41 Iz:=by
 refine B7 (l:=[(82,Ho)]) CP (by simp only[AW];exact⟨Vi,fun _ h=>absurd h (by simp)⟩) tT (by kernel_rfl) fun T us F C t d x a=>?_;change us.length=1 at t;obtain⟨⟨b,E⟩,-⟩:=x;replace b:(L T 0).length<=140737488355328:=b;have s:∀u∈(L T 0),Bb BT KP u:=fun u H=>by
  obtain⟨i,ab⟩:=Ac.1 H;exact E i u ab
 have D:=inL (j:=0) C t (by decide);clear F;rw[AL,AL,AL] at a;obtain⟨p,a⟩:=cutB a;obtain⟨q,a⟩:=cutB a;obtain⟨c,a⟩:=cutB a;obtain⟨g,e⟩:=Be d (by kernel_rfl) p;obtain⟨o,k⟩:=fG b s g;obtain⟨M,r,J,K⟩:=mO b o k e c q;have y:=(Be (r.append e) (l:=Gk) (by kernel_rfl) c);obtain⟨w,d⟩:=y;clear p c q e r;obtain⟨v,z⟩:=B8 (A:=[.i]) (ah:=eK) d (by kernel_rfl) a;have N:=uA b s o k J K g w v;refine⟨⟨(fun _=>M),trivial⟩,z.trans ?_⟩;exact (lc (by show U.int (I T 28)= .int (MS us);unfold MS;rw[D];exact BI U.int N) rfl)
end
section
open Go Go.Eng Go.Proofs
def Ig:List U->Int:=fun us=>(BW (aL us 0))
def G4:List U->Prop:=fun us=>BW (aL us 0)=0
def Ea:Bf:={ sh:=Iz.sh,blks:=[],outs:=[(.s "checkPk.0",CW Ig)],c:= .ci .i64 0,m':=[],pre:=[(.s "checkPk.p0",G4)] }
theorem Jk:Bl Try.prog 41 Ea:=Yg SM rfl rfl rfl rfl rfl (fun _=>rfl) rfl rfl fun us b c=>by
 have a:=c _ (Al.2 rfl);replace a:BW (aL us 0)=0:=a;have b:us.length=1:=b
 match us,b,a with
 |[u],_,a=>exact⟨BI (fun z=>some (U.int z)) a,fun q d=>by cases d⟩
def PS:List U->Int:=fun us=>(Bc (aL us 0))
def LO:List U->Prop:=fun us=>Bc (aL us 0)=0
def Hd:Bf:={ sh:=Nh.sh,blks:=[],outs:=[(.s "checkLk.0",CW PS)],c:= .ci .i64 0,m':=[],pre:=[(.s "checkLk.p0",LO)] }
theorem RF:Bl Try.prog 47 Hd:=Yg YU rfl rfl rfl rfl rfl (fun _=>rfl) rfl rfl fun us b c=>by
 have a:=c _ (Al.2 rfl);replace a:Bc (aL us 0)=0:=a;have b:us.length=1:=b
 match us,b,a with
 |[u],_,a=>exact⟨BI (fun z=>some (U.int z)) a,fun q d=>by cases d⟩
end
section
open Go Go.Eng Go.Proofs
set_option maxHeartbeats 4000000
set_option maxRecDepth 100000
def Nc:List U->Int:=fun us=>(CJ (aI us 0) (aI us 1) (aB us 2))
def K8:List U->Prop:=fun us=> -10000<=(aI us 0)/\(aI us 0)<=10000/\ -10000<=(aI us 1)/\(aI us 1)<=10000
def Ls:Bf:={ sh:=[.one (k64),.one (k64),.one (.bool)],blks:=[],outs:=[(.s "gain.0",CW Nc)],c:=(Cy 3),m':=[],pre:=[(.s "gain.p0",K8)] }
def ln:List En:=[ABH 3 2,
 ABI 4 0 1,
 nl 5 2 4,
 ABW 6 1 0,
 ⟨7,.o2 .tdiv,[.e 6,.c (.int 100)]⟩,
 ⟨8,.o2 .min,[.e 7,.c (.int 19)]⟩,
 ⟨9,.pick .i,[.e 8,.c (.int 10),.c (.int 9),.c (.int 8),.c (.int 7),.c (.int 6),.c (.int 6),.c (.int 5),.c (.int 5),.c (.int 4),.c (.int 4),.c (.int 3),.c (.int 3),.c (.int 3),.c (.int 2),.c (.int 2),.c (.int 2),.c (.int 1),.c (.int 1),.c (.int 1),.c (.int 1)]⟩,
 ⟨10,.o2 .sub,[.c (.int 20),.e 9]⟩,
 ABF 11 2 4,
 ABW 12 0 1,
 ⟨13,.o2 .tdiv,[.e 12,.c (.int 100)]⟩,
 ⟨14,.o2 .min,[.e 13,.c (.int 19)]⟩,
 ⟨15,.pick .i,[.e 14,.c (.int 10),.c (.int 9),.c (.int 8),.c (.int 7),.c (.int 6),.c (.int 6),.c (.int 5),.c (.int 5),.c (.int 4),.c (.int 4),.c (.int 3),.c (.int 3),.c (.int 3),.c (.int 2),.c (.int 2),.c (.int 2),.c (.int 1),.c (.int 1),.c (.int 1),.c (.int 1)]⟩,
 ABT 16 5 10 15,
 ABG 17 5 11,
 ⟨18,.ite .i,[.e 3,.c (.int 10),.e 16]⟩]
def jK:List En:=[ABG 19 3 17]
def cn:List En:=ln++(jK)
def wP:List ObE:=[⟨some 11,.inr,[.e 14,.c (.int 20)]⟩,
 ⟨some 5,.inr,[.e 8,.c (.int 20)]⟩]
def ml:List Rf:=[.e 18]
theorem xX:Ls.sees ml (Ls.run Try.prog [] Bp 3000 20 60)=some ((cn).map En.be,wP.map ObE.be,[]):=by kernel_rfl
variable{T:Tab}
theorem wN (v: -10000<=I T 0/\I T 0<=10000/\ -10000<=I T 1/\I T 1<=10000)(p:BV T cn):
  ((I T 18)=(CJ (I T 0) (I T 1) (B T 2)))/\
  (B T 11=true->0<=I T 14/\I T 14 < 20)/\
  (B T 5=true->0<=I T 8/\I T 8 < 20):=by
 obtain⟨q,p⟩:=p.cut;have W:=p;clear p;refine⟨?_,?_,?_⟩
 .obtain⟨t,b,c,j,k,l,z,w,-,e,g,i,y,r,-,s,-⟩:=q;simp only[BS,BZ,zR,TQ,Sz,and_false,or_false,EK,w2P,zL,zS] at t b c j k l z w e g i y r s;obtain⟨A,C,D,E⟩:=v;unfold CJ;by_cases o:(B T 2)=true
  .have F:¬B T 3=true:=fun a=>(t.1 a) o;rw[s,BG F,BH o];by_cases d:(I T 0) < I T 1
   .have u:=c.2 ⟨o,b.2 d⟩;have N:=o2' j (by omega);have Q:(I T 8)=min (((I T 1) - (I T 0)) / 100) 19:=by
     have P:(I T 7)=(I T 6) / 100:=by rw[k,BH (by omega)]
     rw[l];split<;>omega
    have V:(I T 9)=IE GF (I T 8):=by
     simp only[IE,GF];exact z
    rw[r,BH u,w,BH d,<-Q,V]
   .have u:¬B T 5=true:=fun a=>d (b.1 (c.1 a).2);have H:=o2' e (by omega);have K:(I T 14)=min (((I T 0) - (I T 1)) / 100) 19:=by
     have J:(I T 13)=(I T 12) / 100:=by rw[g,BH (by omega)]
     rw[i];split<;>omega
    have M:(I T 15)=IE GF (I T 14):=by
     simp only[IE,GF];exact y
    rw[r,BG u,BG d,<-K,M]
  .rw[s,BH (t.2 o),BG o]
 .obtain⟨-,b,-,-,-,-,-,-,x,e,g,i,-⟩:=q;simp only[BS,BZ,zN,zR,EK,w2P] at b x e g i;intro h;obtain⟨A,C,D,E⟩:=v;have O:=x.1 h;have d:¬I T 0 < I T 1:=fun a=>by
   have:=b.2 a;simp[this] at O
  have H:=o2' e (by omega);have J:(I T 13)=(I T 12) / 100:=by rw[g,BH (by omega)]
  rw[i];split<;>omega
 .obtain⟨-,b,c,j,k,l,-⟩:=q;simp only[BS,BZ,zR,EK,w2P] at b c j k l;intro h;obtain⟨A,C,D,E⟩:=v;have d:=b.1 (c.1 h).2;have N:=o2' j (by omega);have P:(I T 7)=(I T 6) / 100:=by rw[k,BH (by omega)]
  rw[l];split<;>omega
theorem iC:Bl Try.prog 60 Ls:=by
 refine B7 (l:=[]) CP (by intro p h;exact absurd h (by simp)) xX (by kernel_rfl) fun T us e b a q i k=>?_;change us.length=3 at a;clear i;have c:=inI (j:=0) b a (by decide);have d:=inI (j:=1) b a (by decide);have r:=inB (j:=2) b a (by decide);have s: -10000<=I T 0/\I T 0<=10000/\ -10000<=I T 1/\I T 1<=10000:=by
  have h:=e (.s "gain.p0",K8) (by simp[Ls]);change K8 us at h;unfold K8 at h;simp only[c,d] at h;exact h
 clear e
 skip
 obtain⟨g,o⟩:=B8 (A:=[.i]) (ah:=ml) q (by kernel_rfl) k;obtain⟨t,u,aB⟩:=wN s g;refine⟨⟨u,aB,trivial⟩,o.trans ?_⟩;exact (lc (by show U.int (I T 18)= .int (Nc us);unfold Nc;rw[c,d,r];exact BI U.int t) rfl)
def Iv:List U->Int:=fun us=>(Dp (aI us 0))
def Hb:List U->Prop:=fun us=> -100<=(aI us 0)/\(aI us 0)<=100
def Lw:Bf:={ sh:=[.one (k64)],blks:=[],outs:=[(.s "trig.0",CW Iv)],c:=(Cy 1),m':=[],pre:=[(.s "trig.p0",Hb)] }
def jb:List En:=[⟨1,.le,[.e 0,.c (.int 0)]⟩,
 ABH 2 1,
 ⟨3,.ite .i,[.e 1,.c (.int 40),.c (.int 50)]⟩,
 ⟨4,.w2 .i64 .mul,[.e 3,.e 0]⟩,
 ⟨5,.w2 .i64 .sub,[.c (.int 2000),.e 4]⟩]
def bF:List En:=jb
def wq:List ObE:=[]
def oR:List Rf:=[.e 5]
theorem wk:Lw.sees oR (Lw.run Try.prog [] Bp 3000 20 69)=some ((bF).map En.be,wq.map ObE.be,[]):=by kernel_rfl
theorem wz (o: -100<=I T 0/\I T 0<=100)(g:BV T bF):
  ((I T 5)=(Dp (I T 0))):=by
 have j:=g;clear g
 .obtain⟨d,-,i,b,e,-⟩:=j;simp only[BS,BZ,zR,w2P,zL,zS] at d i b e;unfold Dp;have c:=i;by_cases h:(I T 0)<=0
  .rw[BH (d.2 h)] at c;rw[c] at b;have k:=o2' b (by omega);have l:=o2' e (by omega);rw[BH h];omega
  .rw[BG (fun a=>h (d.1 a))] at c;rw[c] at b;have k:=o2' b (by omega);have l:=o2' e (by omega);rw[BG h];omega
theorem ib:Bl Try.prog 69 Lw:=by
 refine B7 (l:=[]) CP (by intro p h;exact absurd h (by simp)) wk (by kernel_rfl) fun T us b o c k e g=>?_;change us.length=1 at c;clear e;have a:=inI (j:=0) o c (by decide);have q: -100<=I T 0/\I T 0<=100:=by
  have h:=b (.s "trig.p0",Hb) (by simp[Lw]);change Hb us at h;unfold Hb at h;simp only[a] at h;exact h
 clear b
 skip
 obtain⟨d,i⟩:=B8 (A:=[.i]) (ah:=oR) k (by kernel_rfl) g;have r:=wz q d;refine⟨trivial,i.trans ?_⟩;exact (lc (by show U.int (I T 5)= .int (Iv us);unfold Iv;rw[a];exact BI U.int r) rfl)
def L7:List U->List (List U):=fun us=>(Dq (aL us 0) (aI us 2).toNat (aI us 3))
def JS:List U->Prop:=fun us=>((aL us 0)).length=(aI us 1)/\(aI us 2) < (aI us 1)/\ -100<=(aI us 3)/\(aI us 3)<=100/\ -10000<=BU (aL us 0) (aI us 2).toNat 1/\BU (aL us 0) (aI us 2).toNat 1<=10000/\ -12<=BU (aL us 0) (aI us 2).toNat 2/\BU (aL us 0) (aI us 2).toNat 2<=48
def JK:Bf:={ sh:=[.one (k64)],blks:=[],outs:=[(.s "moveR.0",D1 L7)],c:= .tup [],m':=[.mrow 4 1 [.str,k64,k64] 23],pre:=[(.s "moveR.p0",JS)],row:=some ([.str,k64,k64],23),ptrs:=1 }
abbrev HZ (T:Tab)(a:List (List U)):Prop:=a=DR (L T 0) (I T 2).toNat (I T 7) (BU a (I T 2).toNat 2)/\ -12<=BU a (I T 2).toNat 2/\BU a (I T 2).toNat 2<=48/\Cg (I T 7) (BU a (I T 2).toNat 2)=Cg (I T 7) (BU (L T 0) (I T 2).toNat 2)
abbrev JO (T:Tab)(a:List (List U)):Prop:=a=DR (L T 0) (I T 2).toNat (I T 7) (BU a (I T 2).toNat 2)/\ -12<=BU a (I T 2).toNat 2/\BU a (I T 2).toNat 2<=48/\upG (I T 7) (BU a (I T 2).toNat 2)=upG (I T 7) (BU (L T 9) (I T 2).toNat 2)
def fM:List En:=[ABJ 4 0 2,
 ABV 5 4 3,
 ⟨6,.o2 .max,[.e 5,.c (.int (-10000))]⟩,
 ⟨7,.o2 .min,[.e 6,.c (.int 10000)]⟩,
 ⟨8,.rset 1 [.i],[.e 0,.e 2,.e 7]⟩]
def JZ:List En:=fM
def fq:List En:=[ABK 10 9 2,
 ⟨11,.lt,[.c (.int (-12)),.e 10]⟩,
 ABU 12 11,
 ABJ 13 9 2,
 ABU 14 11,
 ABK 15 9 2,
 ⟨16,.w2 .i64 .sub,[.e 15,.c (.int 1)]⟩,
 ⟨17,.outI "trig.0" Iv,[.e 16]⟩,
 ⟨18,.le,[.e 17,.e 13]⟩,
 nl 19 11 18,
 ABH 20 19,
 ABK 21 9 2,
 ⟨22,.w2 .i64 .sub,[.e 21,.c (.int 1)]⟩,
 ⟨23,.rset 2 [.i],[.e 9,.e 2,.e 22]⟩]
def Fb:List En:=fq
def Yb:List ObE:=[⟨some 14,.pre "trig.p0" Hb,[.e 16]⟩]
def OB:Bs:=mkD 9 1 Fb 19 [.e 23] Yb [2]
def SN:List Rf:=[.e 2,.e 8]
def YV:List En:=[]
def fS:List En:=[ABK 25 24 2,
 ⟨26,.lt,[.e 25,.c (.int 48)]⟩,
 nl 27 20 26,
 ABJ 28 24 2,
 nl 29 20 26,
 ABK 30 24 2,
 ⟨31,.w2 .i64 .add,[.e 30,.c (.int 1)]⟩,
 ⟨32,.outI "trig.0" Iv,[.e 31]⟩,
 ⟨33,.le,[.e 28,.e 32]⟩,
 nl 34 26 33,
 nl 35 20 34,
 ABF 36 20 34,
 ABK 37 24 2,
 ⟨38,.w2 .i64 .add,[.e 37,.c (.int 1)]⟩,
 ⟨39,.rset 2 [.i],[.e 24,.e 2,.e 38]⟩]
def Hq:List En:=fS
def Y5:List ObE:=[⟨some 29,.pre "trig.p0" Hb,[.e 31]⟩]
def OT:Bs:=mkD 24 1 Hq 35 [.e 39] Y5 [2,20]
def Sj:List Rf:=[.e 2,.e 20,.e 9]
def nO:List En:=[]
def uz:List ObE:=[⟨some 20,.owes OT,[.e 2,.e 20,.e 9]⟩,
 ⟨none,.owes OB,[.e 2,.e 8]⟩]
def iG:List Rf:=[.e 24]
theorem vD:JK.sees iG (JK.run Try.prog [(69,Lw)] Bp 3000 20 98)=some ((JZ++((B5 OB [.l] SN)++(Fb++(YV++((B5 OT [.l] Sj)++(Hq++(nO))))))).map En.be,uz.map ObE.be,[]):=by kernel_rfl
abbrev iq(T:Tab):Prop:=((L T 0)).length=I T 1/\I T 2 < I T 1/\ -100<=I T 3/\I T 3<=100/\ -10000<=BU (L T 0) (I T 2).toNat 1/\BU (L T 0) (I T 2).toNat 1<=10000/\ -12<=BU (L T 0) (I T 2).toNat 2/\BU (L T 0) (I T 2).toNat 2<=48
theorem lA (j:ig T)(g:∀u∈(L T 0),Bb BT KP u)(k:0<=I T 1)(h:I T 1<=140737488355328)(l:0<=I T 2)(i:I T 2<=140737488355328)(o:iq T)(a:BV T JZ):
  ((0<=I T 2/\I T 2 < ((L T 0)).length)/\ -12<=BU (L T 0) (I T 2).toNat 2/\BU (L T 0) (I T 2).toNat 2<=48)/\((L T 8)=DR (L T 0) (I T 2).toNat (I T 7) (BU (L T 0) (I T 2).toNat 2)):=by
 have d:=a;clear a;have c:(0<=I T 2/\I T 2 < ((L T 0)).length)/\ -12<=BU (L T 0) (I T 2).toNat 2/\BU (L T 0) (I T 2).toNat 2<=48:=by
  grind
 have e:(L T 8)=DR (L T 0) (I T 2).toNat (I T 7) (BU (L T 0) (I T 2).toNat 2):=by
  obtain⟨-,-,-,-,b,-⟩:=d;simp only[BS,zR,zL,zS,uR,zW,BZ,zC] at b;rw[b];exact set1 g (by have:=c.1;omega)
 exact⟨c,e⟩
abbrev iA(T:Tab):Prop:=(0<=I T 2/\I T 2 < ((L T 0)).length)/\ -12<=BU (L T 0) (I T 2).toNat 2/\BU (L T 0) (I T 2).toNat 2<=48
abbrev iP(T:Tab):Prop:=(L T 8)=DR (L T 0) (I T 2).toNat (I T 7) (BU (L T 0) (I T 2).toNat 2)
theorem nu (E:iA T)(W:iP T)(D:Ba T (Bh (CA 0 JK.ks) JZ))(z:Bi T (Fb.map En.be))(C:Bi T ((B5 OB [.l] SN).map En.be)):
  (OB).owes (SN.map (Rf.eval T))/\Ba T (hds 9 [.l])/\(HZ T (L T 9))/\¬B T 19=true:=by
 refine CK (nh:=9) (k:=1) (pcn:=19) (R:=24) (b:=Fb) (K:=Yb) (nxt:=[.e 23]) (H:=[.e 8]) (fv:=[2]) (A:=[.l]) (by kernel_rfl) rfl rfl rfl rfl D (by kernel_rfl) (by kernel_rfl) z (B6 C) (fun s=>HZ T (aL s 0)) (fun s=>(BU (aL s 0) (I T 2).toNat 2+12).toNat) ?_ ?_
 .show HZ T (L T 8);clear D z C;have a:(I T 2).toNat < ((L T 0)).length:=by have:=E.1;omega
  have y:BU (L T 8) (I T 2).toNat 2=BU (L T 0) (I T 2).toNat 2:=by rw[W];exact PZ a
  grind
 .intro J Q q r;replace r:HZ T (L J 9):=r;clear D z C;replace q:BV J Fb:=q;have u:=q;clear q;have N:=fvI (Q 2 (by decide));clear Q
  suffices hz:(B J 14=true-> -100<=I J 16/\I J 16<=100)/\(B J 19=true->(HZ T (L J 23)))/\(B J 19=true->(BU (L J 23) (I T 2).toNat 2+12).toNat < (BU (L J 9) (I T 2).toNat 2+12).toNat) from
   let⟨r0,nx,mz⟩:=hz;⟨⟨r0,trivial⟩,fun g=>⟨nx g,mz g⟩⟩
  refine⟨?_,?_,?_⟩
  .obtain⟨-,-,-,-,-,j,p,-⟩:=u;simp only[BS,zR,w2P,zL] at j p;grind
  .obtain⟨e,i,-,v,-,j,p,w,M,l,-,c,o,d,-⟩:=u;replace w:I J 17=(Dp (I J 16)):=w;simp only[BS,BZ,zR,w2P,zL,zS,uR,zW,zC] at e i v j p M l c o d;obtain⟨h,v1,v2,V⟩:=r;obtain⟨⟨X,Y⟩,Z,ab⟩:=E;have a:(I T 2).toNat < ((L T 0)).length:=by omega
   intro g;rw[N] at e v j c d;have P:=l.1 g;have x:=i.1 P.1;have O:=M.1 P.2;have a0:(I J 13)=I T 7:=by rw[v,h];exact SV a
   have a1:=o2' p (by omega);have F:=o2' o (by omega);rw[w,a0,a1,j] at O;have t:(L J 23)=DR (L T 0) (I T 2).toNat (I T 7) (BU (L J 9) (I T 2).toNat 2 - 1):=by
    rw[d,F,c,h,mK a,<-h]
   have y:BU (L J 23) (I T 2).toNat 2=BU (L J 9) (I T 2).toNat 2 - 1:=by rw[t];exact PZ a
   refine⟨by rw[y];exact t,by omega,by omega,?_⟩;rw[<-V,y];exact (Sc (by rw[e] at x;exact x) O).symm
  .obtain⟨e,i,-,-,-,-,-,-,-,l,-,c,o,d,-⟩:=u;simp only[BS,BZ,zR,w2P,zL,zS,uR,zW,zC] at e i l c o d;obtain⟨h,v1,v2,V⟩:=r;obtain⟨⟨X,Y⟩,Z,ab⟩:=E;have a:(I T 2).toNat < ((L T 0)).length:=by omega
   intro g;rw[N] at e c d;have x:=i.1 (l.1 g).1;have F:=o2' o (by omega);have t:(L J 23)=DR (L T 0) (I T 2).toNat (I T 7) (BU (L J 9) (I T 2).toNat 2 - 1):=by
    rw[d,F,c,h,mK a,<-h]
   rw[t,PZ a];omega
theorem jr (h:ig T)(g:∀u∈(L T 0),Bb BT KP u)(k:0<=I T 1)(d:I T 1<=140737488355328)(l:0<=I T 2)(e:I T 2<=140737488355328)(p:iq T)(i:iA T)(c:iP T)(j:HZ T (L T 9))(o:¬B T 19=true)(a:BV T JZ)(b:BV T Fb):
  ((L T 9)=DR (L T 0) (I T 2).toNat (I T 7) (BU (L T 9) (I T 2).toNat 2)/\ -12<=BU (L T 9) (I T 2).toNat 2/\BU (L T 9) (I T 2).toNat 2<=48):=by
 grind
abbrev iT(T:Tab):Prop:=(L T 9)=DR (L T 0) (I T 2).toNat (I T 7) (BU (L T 9) (I T 2).toNat 2)/\ -12<=BU (L T 9) (I T 2).toNat 2/\BU (L T 9) (I T 2).toNat 2<=48
theorem oO (V:iA T)(h9:iT T)(Q:Ba T (Bh (Bh (hds 9 [.l]++(Bh (CA 0 JK.ks) JZ)) Fb) YV))(O:Bi T (Hq.map En.be))(P:Bi T ((B5 OT [.l] Sj).map En.be)):
  (OT).owes (Sj.map (Rf.eval T))/\Ba T (hds 24 [.l])/\(JO T (L T 24))/\¬B T 35=true:=by
 refine CK (nh:=24) (k:=1) (pcn:=35) (R:=40) (b:=Hq) (K:=Y5) (nxt:=[.e 39]) (H:=[.e 9]) (fv:=[2,20]) (A:=[.l]) (by kernel_rfl) rfl rfl rfl rfl Q (by kernel_rfl) (by kernel_rfl) O (B6 P) (fun s=>JO T (aL s 0)) (fun s=>(48 - BU (aL s 0) (I T 2).toNat 2).toNat) ?_ ?_
 .show JO T (L T 9);grind
 .intro J C r t;replace t:JO T (L J 24):=t;clear Q O P;replace r:BV J Hq:=r;have v:=r;clear r;have F:=fvI (C 2 (by decide));have a2:=fvB (C 20 (by decide));clear C
  suffices hz:(B J 29=true-> -100<=I J 31/\I J 31<=100)/\(B J 35=true->(JO T (L J 39)))/\(B J 35=true->(48 - BU (L J 39) (I T 2).toNat 2).toNat < (48 - BU (L J 24) (I T 2).toNat 2).toNat) from
   let⟨r0,nx,mz⟩:=hz;⟨⟨r0,trivial⟩,fun g=>⟨nx g,mz g⟩⟩
  refine⟨?_,?_,?_⟩
  .obtain⟨-,-,-,-,-,j,q,-⟩:=v;simp only[BS,zR,w2P,zL] at j q;grind
  .obtain⟨d,i,-,w,-,j,q,x,E,l,o,-,a,p,c,-⟩:=v;replace x:I J 32=(Dp (I J 31)):=x;simp only[BS,BZ,zR,w2P,zL,zS,uR,zW,zC] at d i w j q E l o a p c;obtain⟨h,v1,v2,W⟩:=t;obtain⟨⟨X,Y⟩,Z,ab⟩:=V;have e:(I T 2).toNat < ((L T 0)).length:=by omega
   intro g;rw[F] at d w j a c;have N:=l.1 (o.1 g).2;have z:=i.1 N.1;have M:=E.1 N.2;have a0:(I J 28)=I T 7:=by rw[w,h];exact SV e
   have a1:=o2' q (by omega);have D:=o2' p (by omega);rw[x,a0,a1,j] at M;have u:(L J 39)=DR (L T 0) (I T 2).toNat (I T 7) (BU (L J 24) (I T 2).toNat 2+1):=by
    rw[c,D,a,h,mK e,<-h]
   have y:BU (L J 39) (I T 2).toNat 2=BU (L J 24) (I T 2).toNat 2+1:=by rw[u];exact PZ e
   refine⟨by rw[y];exact u,by omega,by omega,?_⟩;rw[<-W,y];exact (XH (by rw[d] at z;exact z) M).symm
  .obtain⟨d,i,-,-,-,-,-,-,-,l,o,-,a,p,c,-⟩:=v;simp only[BS,BZ,zR,w2P,zL,zS,uR,zW,zC] at d i l o a p c;obtain⟨h,v1,v2,W⟩:=t;obtain⟨⟨X,Y⟩,Z,ab⟩:=V;have e:(I T 2).toNat < ((L T 0)).length:=by omega
   intro g;rw[F] at d a c;have z:=i.1 (l.1 (o.1 g).2).1;have D:=o2' p (by omega);have u:(L J 39)=DR (L T 0) (I T 2).toNat (I T 7) (BU (L J 24) (I T 2).toNat 2+1):=by
    rw[c,D,a,h,mK e,<-h]
   rw[u,PZ e];omega
theorem vY (ag:ig T)(ad:∀u∈(L T 0),Bb BT KP u)(ao:0<=I T 1)(Z:I T 1<=140737488355328)(aw:0<=I T 2)(ab:I T 2<=140737488355328)(P:iq T)(hq:iA T)(X:iP T)(N:HZ T (L T 9))(ax:¬B T 19=true)(Y:iT T)(O:JO T (L T 24))(a0:¬B T 35=true)(b:BV T JZ)(c:BV T Fb)(d:BV T Hq):
  ((L T 24)=(Dq (L T 0) (I T 2).toNat (I T 3))):=by
 have l:=b;clear b;have o:=c;clear c;have p:=d;clear d
 .obtain⟨H,j,J,K,-⟩:=l;obtain⟨q,r,-,e,-,s,t,g,v,w,x,-⟩:=o;obtain⟨y,z,-,h,-,A,C,i,D,E,F,-⟩:=p;replace g:I T 17=(Dp (I T 16)):=g;replace i:I T 32=(Dp (I T 31)):=i;simp only[BS,BZ,zR,EK,w2P,zL] at H j J K q r e s t v w x y z h A C D E F;obtain⟨p1,p2,p3,p4,p5,p6,p7,p8⟩:=P;have k:(I T 2).toNat < ((L T 0)).length:=by omega
  have x5:=o2' j (by omega);have M:(I T 7)=B9 (BU (L T 0) (I T 2).toNat 1) (I T 3):=by
   unfold B9;grind
  obtain⟨Q,v1,v2,V⟩:=N;obtain⟨aH,aN,w2,W⟩:=O;have bc:(I T 13)=I T 7:=by rw[e,Q];exact SV k
  have bi:(I T 28)=I T 7:=by rw[h,aH];exact SV k
  unfold Dq;rw[aH,<-M];congr 1;unfold Cz;have hd:Cg (I T 7) (BU (L T 0) (I T 2).toNat 2)=BU (L T 9) (I T 2).toNat 2:=by
   rw[<-V];refine Sg fun a=>?_;grind
  rw[hd,<-W];refine (XW fun a=>?_).symm;grind
theorem tl:Bl Try.prog 98 JK:=by
 refine B7 (l:=[(69,Lw)]) CP (by simp only[AW];exact⟨ib,fun _ h=>absurd h (by simp)⟩) vD (by kernel_rfl) fun T us H v r g N a=>?_;change us.length=4 at r;obtain⟨⟨q,W⟩,⟨s,o⟩,⟨t,p⟩,-⟩:=N;replace q:(L T 0).length<=140737488355328:=q;have C:∀u∈(L T 0),Bb BT KP u:=fun u X=>by
  obtain⟨i,ab⟩:=Ac.1 X;exact W i u ab
 replace s:0<=I T 1:=s;replace o:I T 1<=140737488355328:=o;replace t:0<=I T 2:=t;replace p:I T 2<=140737488355328:=p;have P:=inL (j:=0) v r (by decide);have ax:=inI (j:=1) v r (by decide);have Q:=inI (j:=2) v r (by decide);have V:=inI (j:=3) v r (by decide);have D:((L T 0)).length=I T 1/\I T 2 < I T 1/\ -100<=I T 3/\I T 3<=100/\ -10000<=BU (L T 0) (I T 2).toNat 1/\BU (L T 0) (I T 2).toNat 1<=10000/\ -12<=BU (L T 0) (I T 2).toNat 2/\BU (L T 0) (I T 2).toNat 2<=48:=by
  have h:=H (.s "moveR.p0",JS) (by simp[JK]);change JS us at h;unfold JS at h;grind
 clear H;rw[AL,AL,AL,AL,AL,AL] at a;obtain⟨d,a⟩:=cutB a;obtain⟨e,a⟩:=cutB a;obtain⟨b,a⟩:=cutB a;obtain⟨x,c⟩:=Be g (by kernel_rfl) d;obtain⟨w,y⟩:=lA q C s o t p D x;obtain⟨ad,k,J,K⟩:=nu w y c b e;have z:=(Be (k.append c) (l:=Fb) (by kernel_rfl) b);obtain⟨E,g⟩:=z;clear d b e c k;obtain⟨d,a⟩:=cutB a;obtain⟨e,a⟩:=cutB a;obtain⟨b,a⟩:=cutB a;obtain⟨A1,c⟩:=Be g (by kernel_rfl) d;have F:=jr q C s o t p D w y J K x E;obtain⟨ag,k,Y,Z⟩:=oO w F c b e;have z:=(Be (k.append c) (l:=Hq) (by kernel_rfl) b);obtain⟨M,g⟩:=z;clear d b e c k;obtain⟨A2,O⟩:=B8 (A:=[.l]) (ah:=iG) g (by kernel_rfl) a;have q0:=vY q C s o t p D w y J K F Y Z x E M;refine⟨⟨(fun _=>ag),(fun _=>ad),trivial⟩,O.trans ?_⟩;exact (lc (by show U.list (L T 24)= .list (L7 us);unfold L7;rw[P,Q,V];exact BI U.list q0) rfl)
def KQ:List U->List (List U):=fun us=>(FI (aL us 0) (aI us 2).toNat (aI us 3).toNat (aB us 4))
def H9:List U->Prop:=fun us=>((aL us 0)).length=(aI us 1)/\(aI us 2) < (aI us 1)/\(aI us 3) < (aI us 1)/\¬(aI us 2)=(aI us 3)/\ -10000<=BU (aL us 0) (aI us 2).toNat 1/\BU (aL us 0) (aI us 2).toNat 1<=10000/\ -12<=BU (aL us 0) (aI us 2).toNat 2/\BU (aL us 0) (aI us 2).toNat 2<=48
def IN:List U->Prop:=fun us=> -10000<=BU (aL us 0) (aI us 3).toNat 1/\BU (aL us 0) (aI us 3).toNat 1<=10000/\ -12<=BU (aL us 0) (aI us 3).toNat 2/\BU (aL us 0) (aI us 3).toNat 2<=48
def Gb:Bf:={ sh:=[.one (.bool)],blks:=[],outs:=[(.s "countR.0",D1 KQ)],c:= .tup [],m':=[.mrow 5 1 [.str,k64,k64] 23],pre:=[(.s "countR.p0",H9),(.s "countR.p1",IN)],row:=some ([.str,k64,k64],23),ptrs:=2 }
def bB:List En:=[ABJ 5 0 2,
 ABJ 6 0 3,
 ⟨7,.outI "gain.0" Nc,[.e 5,.e 6,.e 4]⟩,
 ⟨8,.outL "moveR.0" L7,[.e 0,.e 1,.e 2,.e 7]⟩,
 ⟨9,.wneg .i64,[.e 7]⟩,
 ⟨10,.outL "moveR.0" L7,[.e 8,.e 1,.e 3,.e 9]⟩]
def Vp:List En:=bB
def qh:List ObE:=[⟨none,.pre "moveR.p0" JS,[.e 8,.e 1,.e 3,.e 9]⟩,
 ⟨none,.pre "moveR.p0" JS,[.e 0,.e 1,.e 2,.e 7]⟩,
 ⟨none,.pre "gain.p0" K8,[.e 5,.e 6,.e 4]⟩]
def cF:List Rf:=[.e 10]
theorem rQ:Gb.sees cF (Gb.run Try.prog [(60,Ls),(98,JK)] Bp 3000 20 58)=some ((Vp).map En.be,qh.map ObE.be,[]):=by kernel_rfl
theorem tH (N:ig T)(M:∀u∈(L T 0),Bb BT KP u)(O:0<=I T 1)(H:I T 1<=140737488355328)(P:0<=I T 2)(J:I T 2<=140737488355328)(Q:0<=I T 3)(K:I T 3<=140737488355328)(j:((L T 0)).length=I T 1/\I T 2 < I T 1/\I T 3 < I T 1/\¬I T 2=I T 3/\ -10000<=BU (L T 0) (I T 2).toNat 1/\BU (L T 0) (I T 2).toNat 1<=10000/\ -12<=BU (L T 0) (I T 2).toNat 2/\BU (L T 0) (I T 2).toNat 2<=48)(x: -10000<=BU (L T 0) (I T 3).toNat 1/\BU (L T 0) (I T 3).toNat 1<=10000/\ -12<=BU (L T 0) (I T 3).toNat 2/\BU (L T 0) (I T 3).toNat 2<=48)(y:BV T Vp):
  ((L T 10)=(FI (L T 0) (I T 2).toNat (I T 3).toNat (B T 4)))/\
  (((L T 8)).length=I T 1/\I T 3 < I T 1/\ -100<=I T 9/\I T 9<=100/\ -10000<=BU (L T 8) (I T 3).toNat 1/\BU (L T 8) (I T 3).toNat 1<=10000/\ -12<=BU (L T 8) (I T 3).toNat 2/\BU (L T 8) (I T 3).toNat 2<=48)/\
  (((L T 0)).length=I T 1/\I T 2 < I T 1/\ -100<=I T 7/\I T 7<=100/\ -10000<=BU (L T 0) (I T 2).toNat 1/\BU (L T 0) (I T 2).toNat 1<=10000/\ -12<=BU (L T 0) (I T 2).toNat 2/\BU (L T 0) (I T 2).toNat 2<=48)/\
  (-10000<=I T 5/\I T 5<=10000/\ -10000<=I T 6/\I T 6<=10000):=by
 have i:=y;clear y;refine⟨?_,?_,?_,?_⟩
 .obtain⟨c,d,b,a,e,l,-⟩:=i;replace b:I T 7=(CJ (I T 5) (I T 6) (B T 4)):=b;replace a:L T 8=(Dq (L T 0) (I T 2).toNat (I T 7)):=a;replace l:L T 10=(Dq (L T 8) (I T 3).toNat (I T 9)):=l;simp only[BS,zR,w2P,wnP,zL] at c d e;obtain⟨o,p,q,r,s,t,v,w⟩:=j;have h:=EH (BU (L T 0) (I T 2).toNat 1) (BU (L T 0) (I T 3).toNat 1) (B T 4);rw[<-c,<-d,<-b] at h;have k:=o2' e.1 (by omega);unfold FI;rw[l,k,a,b,d,c]
 .obtain⟨c,d,b,a,e,-⟩:=i;replace b:I T 7=(CJ (I T 5) (I T 6) (B T 4)):=b;replace a:L T 8=(Dq (L T 0) (I T 2).toNat (I T 7)):=a;simp only[BS,zR,w2P,wnP,zL] at c d e;obtain⟨o,p,q,r,s,t,v,w⟩:=j;obtain⟨C,D,E,F⟩:=x;have h:=EH (I T 5) (I T 6) (B T 4);rw[<-b] at h;have k:=o2' e.1 (by omega);have z:((L T 8)).length=((L T 0)).length:=by rw[a];exact Vd
  have g:((L T 8)).getD (I T 3).toNat []=((L T 0)).getD (I T 3).toNat []:=by rw[a];exact Kp (by omega)
  have A:BU (L T 8) (I T 3).toNat 1=BU (L T 0) (I T 3).toNat 1:=Fv g;have _:=c;have _:=d;have o2:BU (L T 8) (I T 3).toNat 2=BU (L T 0) (I T 3).toNat 2:=Fv g;omega
 .obtain⟨c,d,b,a,e,-⟩:=i;replace b:I T 7=(CJ (I T 5) (I T 6) (B T 4)):=b;replace a:L T 8=(Dq (L T 0) (I T 2).toNat (I T 7)):=a;simp only[BS,zR,w2P,wnP,zL] at c d e;obtain⟨o,p,q,r,s,t,v,w⟩:=j;obtain⟨C,D,E,F⟩:=x;have h:=EH (I T 5) (I T 6) (B T 4);rw[<-b] at h;have k:=o2' e.1 (by omega);have z:((L T 8)).length=((L T 0)).length:=by rw[a];exact Vd
  have g:((L T 8)).getD (I T 3).toNat []=((L T 0)).getD (I T 3).toNat []:=by rw[a];exact Kp (by omega)
  have A:BU (L T 8) (I T 3).toNat 1=BU (L T 0) (I T 3).toNat 1:=Fv g;have _:=c;have _:=d;have o2:BU (L T 8) (I T 3).toNat 2=BU (L T 0) (I T 3).toNat 2:=Fv g;omega
 .obtain⟨c,d,b,a,e,-⟩:=i;replace b:I T 7=(CJ (I T 5) (I T 6) (B T 4)):=b;replace a:L T 8=(Dq (L T 0) (I T 2).toNat (I T 7)):=a;simp only[BS,zR,w2P,wnP,zL] at c d e;obtain⟨o,p,q,r,s,t,v,w⟩:=j;obtain⟨C,D,E,F⟩:=x;have h:=EH (I T 5) (I T 6) (B T 4);rw[<-b] at h;have k:=o2' e.1 (by omega);have z:((L T 8)).length=((L T 0)).length:=by rw[a];exact Vd
  have g:((L T 8)).getD (I T 3).toNat []=((L T 0)).getD (I T 3).toNat []:=by rw[a];exact Kp (by omega)
  have A:BU (L T 8) (I T 3).toNat 1=BU (L T 0) (I T 3).toNat 1:=Fv g;have _:=c;have _:=d;have o2:BU (L T 8) (I T 3).toNat 2=BU (L T 0) (I T 3).toNat 2:=Fv g;omega
theorem Yq:Bl Try.prog 58 Gb:=by
 refine B7 (l:=[(60,Ls),(98,JK)]) CP (by simp only[AW];exact⟨iC,tl,fun _ h=>absurd h (by simp)⟩) rQ (by kernel_rfl) fun T us p b a z w x=>?_;change us.length=5 at a;obtain⟨⟨o,E⟩,⟨q,e⟩,⟨r,g⟩,⟨s,k⟩,-⟩:=w;replace o:(L T 0).length<=140737488355328:=o;have F:∀u∈(L T 0),Bb BT KP u:=fun u H=>by
  obtain⟨i,ab⟩:=Ac.1 H;exact E i u ab
 replace q:0<=I T 1:=q;replace e:I T 1<=140737488355328:=e;replace r:0<=I T 2:=r;replace g:I T 2<=140737488355328:=g;replace s:0<=I T 3:=s;replace k:I T 3<=140737488355328:=k;have c:=inL (j:=0) b a (by decide);have C:=inI (j:=1) b a (by decide);have t:=inI (j:=2) b a (by decide);have d:=inI (j:=3) b a (by decide);have D:=inB (j:=4) b a (by decide);have J:((L T 0)).length=I T 1/\I T 2 < I T 1/\I T 3 < I T 1/\¬I T 2=I T 3/\ -10000<=BU (L T 0) (I T 2).toNat 1/\BU (L T 0) (I T 2).toNat 1<=10000/\ -12<=BU (L T 0) (I T 2).toNat 2/\BU (L T 0) (I T 2).toNat 2<=48:=by
  have h:=p (.s "countR.p0",H9) (by simp[Gb]);change H9 us at h;unfold H9 at h;simp only[c,C,t,d] at h;exact h
 have K: -10000<=BU (L T 0) (I T 3).toNat 1/\BU (L T 0) (I T 3).toNat 1<=10000/\ -12<=BU (L T 0) (I T 3).toNat 2/\BU (L T 0) (I T 3).toNat 2<=48:=by
  have h:=p (.s "countR.p1",IN) (by simp[Gb]);change IN us at h;unfold IN at h;simp only[c,d] at h;exact h
 clear p
 skip
 obtain⟨v,y⟩:=B8 (A:=[.l]) (ah:=cF) z (by kernel_rfl) x;obtain⟨M,N,aB,aJ⟩:=tH o F q e r g s k J K v;refine⟨⟨(fun _=>N),(fun _=>aB),(fun _=>aJ),trivial⟩,y.trans ?_⟩;exact (lc (by show U.list (L T 10)= .list (KQ us);unfold KQ;rw[c,t,d,D];exact BI U.list M) rfl)
def Fr:List U->List (List U):=fun us=>(FP (aL us 0) (aL us 1))
def Fu:List U->Int:=fun us=>((0:Int))
def LS:List U->Prop:=fun us=>BW (aL us 0)=0/\Bc (aL us 1)=0/\((aL us 1)).length<=40
def E0:Bf:={ sh:=[.one (.list [.str,k64,k64]),.one (.list [k64,k64,k64,.bool,.str,.str,.bool,k64,k64])],blks:=[],outs:=[(.s "SettleV.0",D1 Fr),(.s "SettleV.1",CW Fu)],c:= .tup [.ro 2 [.str,k64,k64],(Cy 3)],m':=[],pre:=[(.s "SettleV.p0",LS)] }
abbrev E3 (T:Tab)(a:Int)(b:List (List U)):Prop:=0<=a/\a<=((L T 0)).length/\b=Db (MG ((L T 0))) a.toNat []
abbrev Fm (T:Tab)(a:Int)(b:List (List U)):Prop:=0<=a/\a<=((L T 19)).length/\b=Db (C9 ((L T 11)) ((L T 19))) a.toNat []
abbrev HE (T:Tab)(a:Int)(b:List (List U)):Prop:=0<=a/\a<=((L T 23)).length/\b=upK (ctU (L T 11)) (L T 23) a.toNat (L T 0)
def ZO:List En:=[⟨2,.outI "checkPk.0" Ig,[.e 0]⟩,
 ⟨3,.outI "checkLk.0" PS,[.e 1]⟩,
 ⟨4,.id .l,[.c (.list [])]⟩,
 ⟨5,.id .i,[.c (.int 0)]⟩,
 ⟨6,.app,[.e 4,.e 0]⟩,
 ABL 7 6,
 ⟨8,.id .l,[.c (.list [])]⟩,
 ABL 9 0]
def E1:List En:=ZO
def Zi:List En:=[ABI 12 10 9,
 ABH 13 12,
 ABY 14 0 10,
 ABJ 15 0 10,
 ABK 16 0 10,
 ⟨17,.mset 1 [.s,.i],[.e 11,.e 14,.e 10]⟩,
 ⟨18,.w2 .i64 .add,[.e 10,.c (.int 1)]⟩]
def De:List En:=Zi
def Tv:List ObE:=[⟨some 12,.fits 1,[.e 11,.c (.list [[]])]⟩,⟨some 12,.inl,[.e 10,.e 0]⟩]
def LA:Bs:=mkD 10 2 De 12 [.e 18,.e 17] Tv [0,9]
def Ox:List Rf:=[.e 0,.e 9,.c (.int 0),.e 8]
def ZT:List En:=[⟨19,.outL "books.0" OG,[.e 1]⟩,
 ABL 20 19,
 ⟨21,.id .l,[.c (.list [])]⟩]
def HC:List En:=ZT
def ZK:List En:=[ABI 24 22 20,
 nl 25 13 24,
 ABF 26 13 24,
 ABM 27 19 22,
 ABJ 28 19 22,
 ABK 29 19 22,
 ABP 30 19 22,
 ABN 31 19 22,
 ABO 32 19 22,
 ABQ 33 19 22,
 ABR 34 19 22,
 ABS 35 19 22,
 ⟨36,.mget .i 1 0 [.s],[.e 11,.c (.int 0),.e 31]⟩,
 ⟨37,.mhas 1 [.s],[.e 11,.e 31]⟩,
 ⟨38,.mget .i 1 0 [.s],[.e 11,.c (.int 0),.e 32]⟩,
 ⟨39,.mhas 1 [.s],[.e 11,.e 32]⟩]
def Zf:List En:=[nl 40 25 37,
 nl 41 37 39,
 nl 42 25 41,
 ⟨43,.row 1 9 [.i,.i,.i,.b,.s,.s,.b,.i,.i],[.e 27,.e 28,.e 29,.e 30,.e 31,.e 32,.e 33,.e 34,.e 35]⟩,
 ⟨44,.app,[.e 23,.e 43]⟩,
 ABF 45 25 41,
 ABX 46 41 44 23,
 ABX 47 41 44 23,
 ⟨48,.w2 .i64 .add,[.e 22,.c (.int 1)]⟩]
def EP:List En:=ZK++(Zf)
def Ta:List ObE:=[⟨some 42,.fits 88,[.e 23,.e 43]⟩,⟨some 25,.inl,[.e 22,.e 19]⟩]
def LR:Bs:=mkD 22 2 EP 25 [.e 48,.e 47] Ta [11,19,13,20]
def O0:List Rf:=[.e 11,.e 19,.e 13,.e 20,.c (.int 0),.e 21]
def ZX:List En:=[ABL 49 23]
def LD:List En:=ZX
def ZJ:List En:=[ABI 52 50 49,
 ABH 53 52,
 ABM 54 23 50,
 ABJ 55 23 50,
 ABK 56 23 50,
 ABP 57 23 50,
 ABN 58 23 50,
 ABO 59 23 50,
 ABQ 60 23 50,
 ABR 61 23 50,
 ABS 62 23 50,
 ⟨63,.mget .i 1 0 [.s],[.e 11,.c (.int 0),.e 58]⟩,
 ⟨64,.mget .i 1 0 [.s],[.e 11,.c (.int 0),.e 59]⟩,
 ⟨65,.outL "countR.0" KQ,[.e 51,.e 7,.e 63,.e 64,.e 60]⟩,
 ⟨66,.w2 .i64 .add,[.e 50,.c (.int 1)]⟩]
def Fq:List En:=ZJ
def T9:List ObE:=[⟨some 52,.pre "countR.p0" H9,[.e 51,.e 7,.e 63,.e 64,.e 60]⟩,⟨some 52,.pre "countR.p1" IN,[.e 51,.e 7,.e 63,.e 64,.e 60]⟩,⟨some 52,.inr,[.e 64,.e 7]⟩,⟨some 52,.inr,[.e 63,.e 7]⟩,⟨some 52,.inl,[.e 50,.e 23]⟩]
def LH:Bs:=mkD 50 2 Fq 52 [.e 66,.e 65] T9 [7,11,23,49]
def PJ:List Rf:=[.e 7,.e 11,.e 23,.e 49,.c (.int 0),.e 6]
def fX:List En:=[]
def nB:List ObE:=[⟨none,.owes LH,[.e 7,.e 11,.e 23,.e 49,.c (.int 0),.e 6]⟩,
 ⟨some 13,.owes LR,[.e 11,.e 19,.e 13,.e 20,.c (.int 0),.e 21]⟩,
 ⟨some 13,.pre "books.p0" Lu,[.e 1]⟩,
 ⟨none,.owes LA,[.e 0,.e 9,.c (.int 0),.e 8]⟩,
 ⟨none,.fits 32,[.e 4,.e 0]⟩,
 ⟨none,.pre "checkLk.p0" LO,[.e 1]⟩,
 ⟨none,.pre "checkPk.p0" G4,[.e 0]⟩]
def YX:List Rf:=[.e 51,.c (.int 0)]
theorem oq:E0.sees YX (E0.runC Try.prog Gy [(41,Ea),(47,Hd),(65,FQ),(58,Gb)] NZ 3000 20 24)=some ((E1++((B5 LA [.i,.l] Ox)++(De++(HC++((B5 LR [.i,.l] O0)++(EP++(LD++((B5 LH [.i,.l] PJ)++(Fq++(fX)))))))))).map En.be,nB.map ObE.be,[]):=by kernel_rfl
abbrev jt(T:Tab):Prop:=(L T 1).length<=140737488355328
abbrev jL(T:Tab):Prop:=BW (L T 0)=0/\Bc (L T 1)=0/\((L T 1)).length<=40
theorem bC (k:ig T)(j:∀u∈(L T 0),Bb BT KP u)(l:jt T)(i:jL T)(a:BV T E1):
  ((I T 9)=((L T 0)).length)/\((L T 8)=[])/\(((L T 0)).length<=24):=by
 have b:=a;clear a;have h:(I T 9)=((L T 0)).length:=by
  obtain⟨-,-,-,-,-,-,-,d,-⟩:=b;simp only[BS,zR,zL] at d;exact d
 have g:(L T 8)=[]:=by
  obtain⟨-,-,-,-,-,-,c,-⟩:=b;simp only[BS,zR,zL,zS] at c;exact c
 have e:((L T 0)).length<=24:=by
  exact (Nm i.1).2.2
 exact⟨h,g,e⟩
abbrev jV(T:Tab):Prop:=(I T 9)=((L T 0)).length
theorem gD (Q:jL T)(N:jV T)(w:(L T 8)=[])(M:((L T 0)).length<=24)(l:Ba T (Bh (CA 0 E0.ks) E1))(i:Bi T (De.map En.be))(j:Bi T ((B5 LA [.i,.l] Ox).map En.be)):
  (LA).owes (Ox.map (Rf.eval T))/\Ba T (hds 10 [.i,.l])/\(E3 T (I T 10) (L T 11))/\¬B T 12=true:=by
 refine CK (nh:=10) (k:=2) (pcn:=12) (R:=19) (b:=De) (K:=Tv) (nxt:=[.e 18,.e 17]) (H:=[.c (.int 0),.e 8]) (fv:=[0,9]) (A:=[.i,.l]) (by kernel_rfl) rfl rfl rfl rfl l (by kernel_rfl) (by kernel_rfl) i (B6 j) (fun s=>E3 T (aI s 0) (aL s 1)) (fun s=>(((L T 0)).length - (aI s 0)).toNat) ?_ ?_
 .show E3 T (0:Int) (L T 8);clear l i j;exact⟨by omega,by omega,by rw[show (0:Int).toNat=0 from rfl];exact w⟩
 .intro J o g h;replace h:E3 T (I J 10) (L J 11):=h;clear l i j;replace g:BV J De:=g;have d:=g;clear g;have u:=fvL (o 0 (by decide));have r:=fvI (o 9 (by decide));clear o
  suffices x:(B J 12=true->(((L J 11)).length+(([[]]:List (List U))).length)*1<=140737488355328)/\(B J 12=true->0<=I J 10/\I J 10 < ((L J 0)).length)/\(B J 12=true->(E3 T (I J 18) (L J 17)))/\(B J 12=true->(((L T 0)).length - (I J 18)).toNat < (((L T 0)).length - (I J 10)).toNat) from
   let⟨C,aB,z,y⟩:=x;⟨⟨C,aB,trivial⟩,fun c=>⟨z c,y c⟩⟩
  refine⟨?_,?_,?_,?_⟩
  .obtain⟨a,-⟩:=d;simp only[BS,zR] at a;obtain⟨D,E,t⟩:=h;intro c;rw[r] at a;have v:=a.1 c;have O:=iE (P:=L T 0) (I J 10).toNat;grind
  .obtain⟨a,-⟩:=d;simp only[BS,zR] at a;grind
  .obtain⟨a,-,p,-,-,q,e,-⟩:=d;simp only[BS,zR,w2P,zL,zS,uR,zW,BZ,zC] at a p q e;obtain⟨D,E,t⟩:=h;intro c;rw[r] at a;have v:=a.1 c;have F:=o2' e (by omega);refine⟨by omega,by omega,?_⟩;rw[F,show ((I J 10)+1).toNat=(I J 10).toNat+1 by omega,q,p,t,u];show _=MG _ _ _;unfold MG;grind
  .obtain⟨a,-,-,-,-,-,e,-⟩:=d;simp only[BS,zR,w2P] at a e;grind
theorem aF (K:ig T)(J:∀u∈(L T 0),Bb BT KP u)(M:jt T)(t:jL T)(H:jV T)(F:(L T 8)=[])(w:((L T 0)).length<=24)(r:E3 T (I T 10) (L T 11))(s:¬B T 12=true)(c:BV T E1)(e:BV T De)(d:BV T HC):
  ((I T 20)=((L T 19)).length)/\((L T 21)=[])/\((L T 19)=CH ((L T 1)))/\(((L T 19)).length<=40)/\((L T 11)=CE ((L T 0)))/\((B T 13)=true)/\((L T 6)=L T 0):=by
 have p:=c;clear c;have g:=e;clear e;have b:=d;clear d;have C:(I T 20)=((L T 19)).length:=by
  obtain⟨-,j,-⟩:=b;simp only[BS,zR,zL] at j;exact j
 have D:(L T 21)=[]:=by
  obtain⟨-,-,k,-⟩:=b;simp only[BS,zR,zL,zS] at k;exact k
 have A:(L T 19)=CH ((L T 1)):=by
  obtain⟨a,-⟩:=b;replace a:L T 19=(CH (L T 1)):=a;exact a
 have x:((L T 19)).length<=40:=by
  obtain⟨a,-⟩:=b;replace a:L T 19=(CH (L T 1)):=a;rw[a];exact AV Jg t.2.2
 have y:(L T 11)=CE ((L T 0)):=by
  obtain⟨i,-⟩:=g;simp only[BS,zR] at i;obtain⟨O,P,v⟩:=r;have N:¬I T 10 < I T 9:=fun h=>s (i.2 h);rw[v,show (I T 10).toNat=((L T 0)).length by omega];rfl
 have z:(B T 13)=true:=by
  obtain⟨-,q,-⟩:=g;simp only[BS,BZ,zR] at q;grind
 have E:(L T 6)=L T 0:=by
  obtain⟨-,-,l,-,o,-⟩:=p;simp only[BS,BZ,zR,zL,zS] at l o;rw[o,l];rfl
 grind
abbrev jW(T:Tab):Prop:=(I T 20)=((L T 19)).length
theorem gU (a5:jW T)(ag:(L T 21)=[])(a4:((L T 19)).length<=40)(N:Ba T (Bh (Bh (hds 10 [.i,.l]++(Bh (CA 0 E0.ks) E1)) De) HC))(E:Bi T (EP.map En.be))(F:Bi T ((B5 LR [.i,.l] O0).map En.be)):
  (LR).owes (O0.map (Rf.eval T))/\Ba T (hds 22 [.i,.l])/\(Fm T (I T 22) (L T 23))/\¬B T 25=true:=by
 refine CK (nh:=22) (k:=2) (pcn:=25) (R:=49) (b:=EP) (K:=Ta) (nxt:=[.e 48,.e 47]) (H:=[.c (.int 0),.e 21]) (fv:=[11,19,13,20]) (A:=[.i,.l]) (by kernel_rfl) rfl rfl rfl rfl N (by kernel_rfl) (by kernel_rfl) E (B6 F) (fun s=>Fm T (aI s 0) (aL s 1)) (fun s=>(((L T 19)).length - (aI s 0)).toNat) ?_ ?_
 .show Fm T (0:Int) (L T 21);clear N E F;exact⟨by omega,by omega,by rw[show (0:Int).toNat=0 from rfl];exact ag⟩
 .intro J g d r;replace r:Fm T (I J 22) (L J 23):=r;clear N E F;replace d:BV J EP:=d;obtain⟨h,d⟩:=d.cut;have t:=d;clear d;have ab:=fvL (g 11 (by decide));have ad:=fvL (g 19 (by decide));have a3:=fvB (g 13 (by decide));have W:=fvI (g 20 (by decide));clear g
  suffices hz:(B J 42=true->(((L J 23)).length+((L J 43)).length)*88<=140737488355328)/\(B J 25=true->0<=I J 22/\I J 22 < ((L J 19)).length)/\(B J 25=true->(Fm T (I J 48) (L J 47)))/\(B J 25=true->(((L T 19)).length - (I J 48)).toNat < (((L T 19)).length - (I J 22)).toNat) from
   let⟨r0,aB,nx,mz⟩:=hz;⟨⟨r0,aB,trivial⟩,fun e=>⟨nx e,mz e⟩⟩
  refine⟨?_,?_,?_,?_⟩
  .obtain⟨a,c,-⟩:=h;obtain⟨-,-,P,p,-⟩:=t;simp only[BS,BZ,zR,zL,zS,uR,Cp,zW] at a c P p;obtain⟨v1,v2,Z⟩:=r;intro e;have D:=a.1 (c.1 (P.1 e).1).2;rw[W] at D;have hl:=On (M:=L T 11) (B:=L T 19) (I J 22).toNat;grind
  .obtain⟨a,c,-⟩:=h;simp only[BS,BZ,zR] at a c;grind
  .obtain⟨a,c,-,u,v,w,x,i,j,y,z,C,-,l,-,o,-⟩:=h;obtain⟨-,O,-,p,Q,-,-,V,q,-⟩:=t;simp only[BS,BZ,zR,w2P,zL,zS,uR,Cp,zW,zC] at a c u v w x i j y z C l o O p Q V q;obtain⟨v1,v2,Z⟩:=r;intro e;have D:=a.1 (c.1 e).2;rw[W] at D;have a2:=o2' q (by omega);refine⟨by omega,by omega,?_⟩;rw[a2,show ((I J 22)+1).toNat=(I J 22).toNat+1 by omega];refine Eq.trans ?_ (BI (C9 ((L T 11)) ((L T 19)) (I J 22).toNat) Z);unfold C9 MK;rw[ad] at u v w x i j y z C;rw[ab] at l o;rw[i] at l;rw[j] at o;by_cases Y:(B J 41)=true
   .have X:=O.1 Y;rw[V,BH Y,BH ⟨l.1 X.1,o.1 X.2⟩,Q,p,u,v,w,x,i,j,y,z,C];rfl
   .grind
  .obtain⟨a,c,-⟩:=h;obtain⟨-,-,-,-,-,-,-,-,q,-⟩:=t;simp only[BS,BZ,zR,w2P] at a c q;grind
theorem bE (a4:ig T)(a2:∀u∈(L T 0),Bb BT KP u)(a5:jt T)(Q:jL T)(h9:jV T)(h8:(L T 8)=[])(X:((L T 0)).length<=24)(a6:E3 T (I T 10) (L T 11))(H:¬B T 12=true)(ag:jW T)(al:(L T 21)=[])(ad:(L T 19)=CH ((L T 1)))(Y:((L T 19)).length<=40)(Z:(L T 11)=CE ((L T 0)))(ab:(B T 13)=true)(h6:(L T 6)=L T 0)(F:Fm T (I T 22) (L T 23))(J:¬B T 25=true)(c:BV T E1)(g:BV T De)(d:BV T HC)(a:BV T EP)(e:BV T LD):
  ((L T 11)=CE (L T 0)/\L T 6=L T 0/\I T 7=((L T 0)).length/\I T 49=((L T 23)).length)/\((L T 23)=Fg (CE (L T 0)) (CH (L T 1)))/\(DD (L T 0)/\OkR (L T 0)/\((L T 0)).length<=24/\((L T 23)).length<=40/\∀u∈(L T 23),MX (L T 0) u):=by
 have r:=c;clear c;have i:=g;clear g;have s:=d;clear d;obtain⟨t,a⟩:=a.cut;have W:=a;clear a;have v:=e;clear e;have p:(L T 11)=CE (L T 0)/\L T 6=L T 0/\I T 7=((L T 0)).length/\I T 49=((L T 23)).length:=by
  obtain⟨-,-,x,-,z,A,-,C,-⟩:=r;obtain⟨w,-⟩:=i;obtain⟨y,-⟩:=v;simp only[BS,BZ,zR,zL,zS] at x z A C w y;grind
 have q:(L T 23)=Fg (CE (L T 0)) (CH (L T 1)):=by
  obtain⟨-,j,-⟩:=i;obtain⟨b,k,-⟩:=s;obtain⟨l,o,-⟩:=t;replace b:L T 19=(CH (L T 1)):=b;simp only[BS,BZ,zR,zL] at j k l o;obtain⟨v1,v2,V⟩:=F;have D:=j.2 (by simpa using H);have a7:¬I T 22 < I T 20:=fun h=>J (o.2 ⟨D,l.2 h⟩);have ao:=k;rw[V,show (I T 22).toNat=((L T 19)).length by omega,p.1,b];rfl
 have E:DD (L T 0)/\OkR (L T 0)/\((L T 0)).length<=24/\((L T 23)).length<=40/\∀u∈(L T 23),MX (L T 0) u:=by
  obtain⟨O,P,p3⟩:=Q;obtain⟨K,o2,N⟩:=Nm O;have hl:=On (M:=CE (L T 0)) (B:=CH (L T 1)) (CH (L T 1)).length;have hb:=Jg (L:=L T 1);rw[q];exact⟨o2,K,N,by unfold Fg;omega,Mo o2 (UN P) _ (AE _)⟩
 exact⟨p,q,E⟩
abbrev j6(T:Tab):Prop:=(L T 11)=CE (L T 0)/\L T 6=L T 0/\I T 7=((L T 0)).length/\I T 49=((L T 23)).length
abbrev kw(T:Tab):Prop:=DD (L T 0)/\OkR (L T 0)/\((L T 0)).length<=24/\((L T 23)).length<=40/\∀u∈(L T 23),MX (L T 0) u
theorem fg (C:j6 T)(N:kw T)(hS:Ba T (Bh (Bh (hds 22 [.i,.l]++(Bh (Bh (hds 10 [.i,.l]++(Bh (CA 0 E0.ks) E1)) De) HC)) EP) LD))(hB:Bi T (Fq.map En.be))(hH:Bi T ((B5 LH [.i,.l] PJ).map En.be)):
  (LH).owes (PJ.map (Rf.eval T))/\Ba T (hds 50 [.i,.l])/\(HE T (I T 50) (L T 51))/\¬B T 52=true:=by
 refine CK (nh:=50) (k:=2) (pcn:=52) (R:=67) (b:=Fq) (K:=T9) (nxt:=[.e 66,.e 65]) (H:=[.c (.int 0),.e 6]) (fv:=[7,11,23,49]) (A:=[.i,.l]) (by kernel_rfl) rfl rfl rfl rfl hS (by kernel_rfl) (by kernel_rfl) hB (B6 hH) (fun s=>HE T (aI s 0) (aL s 1)) (fun s=>(((L T 23)).length - (aI s 0)).toNat) ?_ ?_
 .show HE T (0:Int) (L T 6);clear hS hB hH;exact⟨Aw _,by omega,C.2.1⟩
 .intro J O Y z;replace z:HE T (I J 50) (L J 51):=z;clear hS hB hH;replace Y:BV J Fq:=Y;have y:=Y;clear Y;have ba:=fvI (O 7 (by decide));have E:=fvL (O 11 (by decide));have F:=fvL (O 23 (by decide));have M:=fvI (O 49 (by decide));clear O
  suffices hz:(B J 52=true->((L J 51)).length=I J 7/\I J 63 < I J 7/\I J 64 < I J 7/\¬I J 63=I J 64/\ -10000<=BU (L J 51) (I J 63).toNat 1/\BU (L J 51) (I J 63).toNat 1<=10000/\ -12<=BU (L J 51) (I J 63).toNat 2/\BU (L J 51) (I J 63).toNat 2<=48)/\(B J 52=true-> -10000<=BU (L J 51) (I J 64).toNat 1/\BU (L J 51) (I J 64).toNat 1<=10000/\ -12<=BU (L J 51) (I J 64).toNat 2/\BU (L J 51) (I J 64).toNat 2<=48)/\(B J 52=true->0<=I J 64/\I J 64 < I J 7)/\(B J 52=true->0<=I J 63/\I J 63 < I J 7)/\(B J 52=true->0<=I J 50/\I J 50 < ((L J 23)).length)/\(B J 52=true->(HE T (I J 66) (L J 65)))/\(B J 52=true->(((L T 23)).length - (I J 66)).toNat < (((L T 23)).length - (I J 50)).toNat) from
   let⟨r0,aB,aJ,r3,r4,r,mz⟩:=hz;⟨⟨r0,aB,aJ,r3,r4,trivial⟩,fun q=>⟨r q,mz q⟩⟩
  refine⟨?_,?_,?_,?_,?_,?_,?_⟩
  .obtain⟨i,-,-,-,-,-,e,g,h,-,-,c,d,-⟩:=y;simp only[BS,zR,zL,uR,zW,BZ,zC,zS] at i e g h c d;obtain⟨v1,v2,u⟩:=z;obtain⟨ax,ai,Z,m4⟩:=C;obtain⟨o,aw,W,X,v⟩:=N;have p:(L J 51)=upK (ctU (L T 11)) (L T 23) (I J 50).toNat (L T 0):=u;have x:nmL ((L J 51))=nmL ((L T 0)):=by rw[p];exact IF _
   have q3:((L J 51)).length=((L T 0)).length:=DG x;have D:OkR ((L J 51)):=by rw[p];exact GK aw _
   intro q;have w:=(i.1 (q));rw[M] at w;rw[F] at e g h;rw[E,ax] at c d;have a:=v (((L T 23)).getD (I J 50).toNat []) (by rw[Dd (by omega)];exact yM _);have j:(S J 58)=uS (((L T 23)).getD (I J 50).toNat []) 4:=e;have l:(S J 59)=uS (((L T 23)).getD (I J 50).toNat []) 5:=g;have P:(I J 63)=Bv (L T 0) (S J 58):=Eq.trans c (CO o (by rw[j];exact a.1));have Q:(I J 64)=Bv (L T 0) (S J 59):=Eq.trans d (CO o (by rw[l];exact a.2.1));have t:=a.1;have r:=a.2.1;rw[<-j] at t;rw[<-l] at r;have ne:¬Bv (L T 0) (S J 58)=Bv (L T 0) (S J 59):=FD t r (by rw[j,l];exact a.2.2);have:=D (I J 63).toNat (by omega);omega
  .obtain⟨i,-,-,-,-,-,e,g,h,-,-,c,d,-⟩:=y;simp only[BS,zR,zL,uR,zW,BZ,zC,zS] at i e g h c d;obtain⟨v1,v2,u⟩:=z;obtain⟨ax,ai,Z,m4⟩:=C;obtain⟨o,aw,W,X,v⟩:=N;have p:(L J 51)=upK (ctU (L T 11)) (L T 23) (I J 50).toNat (L T 0):=u;have x:nmL ((L J 51))=nmL ((L T 0)):=by rw[p];exact IF _
   have q3:((L J 51)).length=((L T 0)).length:=DG x;have D:OkR ((L J 51)):=by rw[p];exact GK aw _
   intro q;have w:=(i.1 (q));rw[M] at w;rw[F] at e g h;rw[E,ax] at c d;have a:=v (((L T 23)).getD (I J 50).toNat []) (by rw[Dd (by omega)];exact yM _);have j:(S J 58)=uS (((L T 23)).getD (I J 50).toNat []) 4:=e;have l:(S J 59)=uS (((L T 23)).getD (I J 50).toNat []) 5:=g;have P:(I J 63)=Bv (L T 0) (S J 58):=Eq.trans c (CO o (by rw[j];exact a.1));have Q:(I J 64)=Bv (L T 0) (S J 59):=Eq.trans d (CO o (by rw[l];exact a.2.1));have t:=a.1;have r:=a.2.1;rw[<-j] at t;rw[<-l] at r;have ne:¬Bv (L T 0) (S J 58)=Bv (L T 0) (S J 59):=FD t r (by rw[j,l];exact a.2.2);have:=D (I J 64).toNat (by omega);exact this
  .obtain⟨i,-,-,-,-,-,e,g,h,-,-,c,d,-⟩:=y;simp only[BS,zR,zL,uR,zW,BZ,zC,zS] at i e g h c d;obtain⟨v1,v2,u⟩:=z;obtain⟨ax,ai,Z,m4⟩:=C;obtain⟨o,aw,W,X,v⟩:=N;have p:(L J 51)=upK (ctU (L T 11)) (L T 23) (I J 50).toNat (L T 0):=u;have x:nmL ((L J 51))=nmL ((L T 0)):=by rw[p];exact IF _
   have q3:((L J 51)).length=((L T 0)).length:=DG x;have D:OkR ((L J 51)):=by rw[p];exact GK aw _
   intro q;have w:=(i.1 (q));rw[M] at w;rw[F] at e g h;rw[E,ax] at c d;have a:=v (((L T 23)).getD (I J 50).toNat []) (by rw[Dd (by omega)];exact yM _);have j:(S J 58)=uS (((L T 23)).getD (I J 50).toNat []) 4:=e;have l:(S J 59)=uS (((L T 23)).getD (I J 50).toNat []) 5:=g;have P:(I J 63)=Bv (L T 0) (S J 58):=Eq.trans c (CO o (by rw[j];exact a.1));have Q:(I J 64)=Bv (L T 0) (S J 59):=Eq.trans d (CO o (by rw[l];exact a.2.1));have t:=a.1;have r:=a.2.1;grind
  .obtain⟨i,-,-,-,-,-,e,g,h,-,-,c,d,-⟩:=y;simp only[BS,zR,zL,uR,zW,BZ,zC,zS] at i e g h c d;obtain⟨v1,v2,u⟩:=z;obtain⟨ax,ai,Z,m4⟩:=C;obtain⟨o,aw,W,X,v⟩:=N;have p:(L J 51)=upK (ctU (L T 11)) (L T 23) (I J 50).toNat (L T 0):=u;have x:nmL ((L J 51))=nmL ((L T 0)):=by rw[p];exact IF _
   have q3:((L J 51)).length=((L T 0)).length:=DG x;have D:OkR ((L J 51)):=by rw[p];exact GK aw _
   intro q;have w:=(i.1 (q));rw[M] at w;rw[F] at e g h;rw[E,ax] at c d;have a:=v (((L T 23)).getD (I J 50).toNat []) (by rw[Dd (by omega)];exact yM _);have j:(S J 58)=uS (((L T 23)).getD (I J 50).toNat []) 4:=e;have l:(S J 59)=uS (((L T 23)).getD (I J 50).toNat []) 5:=g;have P:(I J 63)=Bv (L T 0) (S J 58):=Eq.trans c (CO o (by rw[j];exact a.1));have Q:(I J 64)=Bv (L T 0) (S J 59):=Eq.trans d (CO o (by rw[l];exact a.2.1));have t:=a.1;grind
  .obtain⟨i,-,-,-,-,-,e,g,h,-,-,c,d,-⟩:=y;simp only[BS,zR,zL,uR,zW,BZ,zC,zS] at i e g h c d;grind
  .obtain⟨i,-,-,-,-,-,e,g,h,-,-,c,d,ao,V,-⟩:=y;replace ao:L J 65=(FI (L J 51) (I J 63).toNat (I J 64).toNat (B J 60)):=ao;simp only[BS,zR,w2P,zL,uR,zW,BZ,zC,zS] at i e g h c d V;obtain⟨v1,v2,u⟩:=z;obtain⟨ax,ai,Z,m4⟩:=C;obtain⟨o,aw,W,X,v⟩:=N;have p:(L J 51)=upK (ctU (L T 11)) (L T 23) (I J 50).toNat (L T 0):=u;have x:nmL ((L J 51))=nmL ((L T 0)):=by rw[p];exact IF _
   have q3:((L J 51)).length=((L T 0)).length:=DG x;have D:OkR ((L J 51)):=by rw[p];exact GK aw _
   intro q;have w:=(i.1 (q));rw[M] at w;rw[F] at e g h;rw[E,ax] at c d;have a:=v (((L T 23)).getD (I J 50).toNat []) (by rw[Dd (by omega)];exact yM _);have j:(S J 58)=uS (((L T 23)).getD (I J 50).toNat []) 4:=e;have l:(S J 59)=uS (((L T 23)).getD (I J 50).toNat []) 5:=g;have P:(I J 63)=Bv (L T 0) (S J 58):=Eq.trans c (CO o (by rw[j];exact a.1));have Q:(I J 64)=Bv (L T 0) (S J 59):=Eq.trans d (CO o (by rw[l];exact a.2.1));have t:=a.1;have r:=a.2.1;rw[<-j] at t;rw[<-l] at r;have ne:¬Bv (L T 0) (S J 58)=Bv (L T 0) (S J 59):=FD t r (by rw[j,l];exact a.2.2);have xn:=o2' V (by omega);refine⟨by omega,by omega,?_⟩;rw[xn,show ((I J 50)+1).toNat=(I J 50).toNat+1 by omega];show _=ctU ((L T 11)) (upK (ctU (L T 11)) (L T 23) (I J 50).toNat (L T 0)) (((L T 23)).getD (I J 50).toNat []);rw[<-u,ao,c,d,j,l,h,ax];rfl
  .obtain⟨i,-,-,-,-,-,e,g,h,-,-,c,d,-,V,-⟩:=y;simp only[BS,zR,w2P,zL,uR,zW,BZ,zC,zS] at i e g h c d V;grind
theorem pK (Y:ig T)(X:∀u∈(L T 0),Bb BT KP u)(Z:jt T)(b:jL T)(W:jV T)(V:(L T 8)=[])(D:((L T 0)).length<=24)(ab:E3 T (I T 10) (L T 11))(a0:¬B T 12=true)(O:jW T)(P:(L T 21)=[])(N:(L T 19)=CH ((L T 1)))(E:((L T 19)).length<=40)(K:(L T 11)=CE ((L T 0)))(M:(B T 13)=true)(Q:(L T 6)=L T 0)(ad:Fm T (I T 22) (L T 23))(a1:¬B T 25=true)(r:j6 T)(s:(L T 23)=Fg (CE (L T 0)) (CH (L T 1)))(q:kw T)(t:HE T (I T 50) (L T 51))(v:¬B T 52=true)(c:BV T E1)(g:BV T De)(d:BV T HC)(a:BV T EP)(e:BV T LD)(i:BV T Fq):
  ((L T 51)=(FP (L T 0) (L T 1)))/\
  (0=((0:Int)))/\
  (B T 13=true->((L T 1)).length<=40)/\
  ((((L T 4)).length+((L T 0)).length)*32<=140737488355328)/\
  (Bc (L T 1)=0)/\
  (BW (L T 0)=0):=by
 have k:=c;clear c;have x:=g;clear g;have y:=d;clear d;obtain⟨z,a⟩:=a.cut;have A:=a;clear a;have C:=e;clear e;have l:=i;clear i;refine⟨?_,?_,?_,?_,?_,?_⟩
 .obtain⟨j,-⟩:=l;simp only[BS,zR] at j;obtain⟨v1,v2,w⟩:=t;obtain⟨ax,ai,m3,m4⟩:=r;obtain⟨p,aw,F,H,J⟩:=q;have ao:¬I T 50 < I T 49:=fun h=>v (j.2 h);rw[w,show (I T 50).toNat=((L T 23)).length by omega,ax,s];exact gS p
 .rfl
 .intro h;exact b.2.2
 .obtain⟨-,-,o,-⟩:=k;simp only[BS,zR,zL,zS] at o;grind
 .exact b.2.1
 .exact b.1
theorem kW:Bl Try.prog 24 E0:=by
 refine GX FU (l:=[(41,Ea),(47,Hd),(65,FQ),(58,Gb)]) CP (by simp only[AW];exact⟨Jk,RF,U8,Yq,fun _ h=>absurd h (by simp)⟩) oq (by kernel_rfl) fun T us Y X F k al a=>?_;change us.length=2 at F;obtain⟨⟨o,a1⟩,⟨p,bi⟩,-⟩:=al;replace o:(L T 0).length<=140737488355328:=o;have x:∀u∈(L T 0),Bb BT KP u:=fun u hu=>by
  obtain⟨i,ab⟩:=Ac.1 hu;exact a1 i u ab
 replace p:(L T 1).length<=140737488355328:=p;have ax:=inL (j:=0) X F (by decide);have a0:=inL (j:=1) X F (by decide);have r:BW (L T 0)=0/\Bc (L T 1)=0/\((L T 1)).length<=40:=by
  have h:=Y (.s "SettleV.p0",LS) (by simp[E0]);change LS us at h;unfold LS at h;grind
 clear Y;rw[AL,AL,AL,AL,AL,AL,AL,AL,AL] at a;obtain⟨d,a⟩:=cutB a;obtain⟨e,a⟩:=cutB a;obtain⟨b,a⟩:=cutB a;obtain⟨s,c⟩:=Be k (by kernel_rfl) d;obtain⟨w,v,t⟩:=bC o x p r s;obtain⟨a5,g,H,J⟩:=gD r w v t c b e;have q:=(Be (g.append c) (l:=De) (by kernel_rfl) b);obtain⟨z,k⟩:=q;clear d b e c g;obtain⟨d,a⟩:=cutB a;obtain⟨e,a⟩:=cutB a;obtain⟨b,a⟩:=cutB a;obtain⟨y,c⟩:=Be k (by kernel_rfl) d;obtain⟨D,E,P,C,N,O,Q⟩:=aF o x p r w v t H J s z y;obtain⟨a6,g,Z,ad⟩:=gU D E C c b e;have q:=(Be (g.append c) (l:=EP) (by kernel_rfl) b);obtain⟨M,k⟩:=q;clear d b e c g;obtain⟨d,a⟩:=cutB a;obtain⟨e,a⟩:=cutB a;obtain⟨b,a⟩:=cutB a;obtain⟨K,c⟩:=Be k (by kernel_rfl) d;obtain⟨W,hX,V⟩:=bE o x p r w v t H J D E P C N O Q Z ad s z y M K;obtain⟨a7,g,a3,a4⟩:=fg W V c b e;have q:=(Be (g.append c) (l:=Fq) (by kernel_rfl) b);obtain⟨B2,k⟩:=q;clear d b e c g;obtain⟨A3,hO⟩:=B8 (A:=[.l,.i]) (ah:=YX) k (by kernel_rfl) a;obtain⟨q0,q1,r0,aB,aJ,r3⟩:=pK o x p r w v t H J D E P C N O Q Z ad W hX V a3 a4 s z y M K B2;refine⟨⟨(fun _=>a7),(fun _=>a6),r0,(fun _=>a5),(fun _=>aB),(fun _=>aJ),(fun _=>r3),trivial⟩,hO.trans ?_⟩;exact (lc (by show U.list (L T 51)= .list (Fr us);unfold Fr;rw[ax,a0];exact BI U.list q0) (lc (by show U.int 0= .int (Fu us);unfold Fu;exact BI U.int q1) rfl))
end
section
open Go Go.Eng Go.Proofs
set_option maxRecDepth 100000
def PF:List U->Int:=fun us=>(BW (aL us 0))
def Oz:List U->Prop:=fun us=>¬BW (aL us 0)=0
def Lg:Bf:={ sh:=[.one (.list [.str,k64,k64])],blks:=[],outs:=[(.s "checkPn.0",CW PF)],c:= .i .i64 1 100 1,m':=[],pre:=[(.s "checkPn.p0",Oz)] }
theorem fL {l:List (List U)}(h:¬BW l=0):1<=BW l/\BW l<=100:=by
 unfold BW at h⊢;grind
theorem VR:Bl Try.prog 41 Lg:=eQ SM rfl rfl rfl rfl rfl (fun _=>rfl) rfl rfl fun us b c=>by
 have a:=c _ (Al.2 rfl);replace a:¬BW (aL us 0)=0:=a;have b:us.length=1:=b
 match us,b,a with
 |[u],_,a=>exact⟨⟨_,rfl,fL a⟩,fun q d=>by cases d⟩
end
section
open Go Go.Eng Go.Proofs
set_option maxHeartbeats 4000000
set_option maxRecDepth 100000
def G0:List U->Int:=fun us=>(BW (aL us 0))
def LK:List U->Prop:=fun us=>¬BW (aL us 0)=0
def MB:Bf:={ sh:=[.one (.list [.str,k64,k64]),.one (.list [k64,k64,k64,.bool,.str,.str,.bool,k64,k64])],blks:=[],outs:=[(.s "SettleP.0",CW G0)],c:= .tup [.cv .nilSlice,(Cy 2)],m':=[],pre:=[(.s "SettleP.p0",LK)] }
def Zn:List En:=[⟨2,.outI "checkPn.0" PF,[.e 0]⟩]
def UJ:List En:=Zn
def pY:List ObE:=[⟨none,.pre "checkPn.p0" Oz,[.e 0]⟩]
def X2:List Rf:=[.e 2]
theorem pZ:MB.sees X2 (MB.runC Try.prog Gy [(41,Lg)] NZ 3000 20 24)=some ((UJ).map En.be,pY.map ObE.be,[]):=by kernel_rfl
theorem qN {T:Tab}(e:ig T)(g:jt T)(d:¬BW (L T 0)=0)(b:BV T UJ):
  ((I T 2)=(BW (L T 0)))/\
  (¬BW (L T 0)=0):=by
 have c:=b;clear b;refine⟨?_,?_⟩
 .obtain⟨a,-⟩:=c;replace a:I T 2=(BW (L T 0)):=a;exact a
 .exact d
theorem lT:Bl Try.prog 24 MB:=by
 refine GX FU (l:=[(41,Lg)]) CP (by simp only[AW];exact⟨VR,fun _ h=>absurd h (by simp)⟩) pZ (by kernel_rfl) fun T us d q e p i k=>?_;change us.length=2 at e;obtain⟨⟨a,u⟩,⟨b,v⟩,-⟩:=i;replace a:(L T 0).length<=140737488355328:=a;replace b:(L T 1).length<=140737488355328:=b;have c:=inL (j:=0) q e (by decide);have r:¬BW (L T 0)=0:=by
  have h:=d (.s "SettleP.p0",LK) (by simp[MB]);change LK us at h;unfold LK at h;simp only[c] at h;exact h
 clear d
 skip
 obtain⟨g,o⟩:=B8 (A:=[.i]) (ah:=X2) p (by kernel_rfl) k;obtain⟨s,t⟩:=qN a b r g;refine⟨⟨(fun _=>t),trivial⟩,o.trans ?_⟩;exact (lc (by show U.int (I T 2)= .int (G0 us);unfold G0;rw[c];exact BI U.int s) rfl)
end
section
open Go Go.Eng Go.Proofs
set_option maxRecDepth 100000
def PG:List U->Int:=fun us=>(Bc (aL us 0))
def PK:List U->Prop:=fun us=>¬Bc (aL us 0)=0
def L6:Bf:={ sh:=[.one (.list [k64,k64,k64,.bool,.str,.str,.bool,k64,k64])],blks:=[],outs:=[(.s "checkLn.0",CW PG)],c:= .i .i64 1 100 1,m':=[],pre:=[(.s "checkLn.p0",PK)] }
theorem mJ {l:List (List U)}(h:¬Bc l=0):1<=Bc l/\Bc l<=100:=by
 unfold Bc at h⊢;grind
theorem Wy:Bl Try.prog 47 L6:=eQ YU rfl rfl rfl rfl rfl (fun _=>rfl) rfl rfl fun us b c=>by
 have a:=c _ (Al.2 rfl);replace a:¬Bc (aL us 0)=0:=a;have b:us.length=1:=b
 match us,b,a with
 |[u],_,a=>exact⟨⟨_,rfl,mJ a⟩,fun q d=>by cases d⟩
end
end Go.Eng
end
