/-
  A part of the proof: the evaluator of code and its soundness.
-/
import Derived.Test.YtikbgnmcfncnaaaKB1
import Derived.Test.YtikbgnmcfncnaaaKB3
import Derived.Test.YtikbgnmcfncnaaaE4
import Derived.Test.YtikbgnmcfncnaaaE5
import Derived.Test.YtikbgnmcfncnaaaKB0
set_option linter.unusedVariables false
set_option linter.unusedSimpArgs false
noncomputable section
namespace Go.Eng
section
open Go Go.Eng Go.Proofs
set_option maxHeartbeats 4000000
set_option maxRecDepth 100000
def L7:List U->List (List U):=fun us=>Bi (aL us 0)
def L1:List U->Prop:=fun us=>(aL us 0).length<=40
def FQ:AZ:={ sh:=[.one (.list [k64,k64,k64,.bool,.str,.str,.bool,k64,k64])],blks:=[],outs:=[(.s "books.0",Cw L7)],c:= .ro 1 [k64,k64,k64,.bool,.str,.str,.bool,k64,k64],m':=[],pre:=[(.s "books.p0",L1)] }
def mZ:List En:=[vK 44 6 38,vM 45 6 38,⟨46,.row 1 9 [.i,.i,.i,.b,.s,.s,.b,.i,.i],[.e 35,.e 36,.e 37,.e 38,.e 39,.e 40,.e 41,.e 42,.e 43]⟩,vl 47 34 46,vf 48 38 34 47,⟨49,.ite .l,[.e 38,.c (.list []),.e 46]⟩]
def ox:List ObE:=[⟨some 45,.fits 88,[.e 34,.e 46]⟩]
def oK:List En:=[⟨35,.outL "ordB.0" LK,[.e 34]⟩]
def mc:List ObE:=[⟨some 6,.pre "ordB.p0" If,[.e 34]⟩]
theorem rI:(W4 Try.prog (FL Try.prog (Xv Try.prog NP [(100,NO)]) Aa 3000 20) (Aa 65) { Ys.none with mu:=(Aa 65).mu } 3000 rgB Try.f65 FQ.args FQ.m FQ.n).bind (ZI FQ [.e 35])=
  some ((some 6,34,4,1),(some 6,48),((IB++((Ag IE [.i,.l] KD)++(D9++(TK)))).map En.be,ZD.map ObE.be),(mZ.map En.be,ox.map ObE.be),(oK.map En.be,mc.map ObE.be),[]):=by kernel_rfl
theorem iz (l:List (List U)):((List.range l.length).map fun j=>l.getD j [])=l:=by
 refine List.ext_getElem? fun i=>?_;rw[uP];rcases tu i l.length with h|h
 .rw[List.getElem?_range h,tZ h];simp[h]
 .rw[uO (by simpa using h),uO h];rfl
theorem ZT:Ae Try.prog 65 FQ:=by
 refine ah (F:=CQ) L9 BU (l:=[(100,NO)]) (by simp only[uA];exact⟨pu,fun _ h=>absurd h (by simp)⟩) su Try.func65 l7 (by kernel_rfl) rI (by kernel_rfl) fun T us ba A K hS z hE=>?_;obtain⟨C,O⟩:=ir T us (fun p hp=>absurd hp (by simp[HP])) A K hS z hE;have hx:T.get 4= .list (Ar (aL us 0)):=(List.cons.inj O).1;have H:(T 4).toL=Ar (aL us 0):=vD U.toL hx;have bt:(aL us 0).length<=40:=ba (.s "books.p0",L1) (by simp[FQ]);have a3:aL us 0=L T 0:=inL A K (by decide);have a4:∀u∈L T 0,AK AD KB u:=fun u o=>by
  obtain⟨i,Y⟩:=uH.1 o;exact z.1.2 i u Y
 have b0:=Yg (l:=aL us 0);refine⟨C,fun b2=>⟨fun au i r q x E P k4 Q V k7 k8 ao=>?_,fun au x E a0=>?_⟩⟩
 .rw[H] at P Q V;obtain⟨u,o,M⟩:=(JN (l:=aL us 0)).row r (List.mem_of_getElem? Q);rw[a3] at M;have a5:=a4 u M;obtain⟨bl,bm,W,X,Z,bs,_⟩:=ao;have v:T.get 34= .list q:=k7;have J:[T.get 35,T.get 36,T.get 37,T.get 38,T.get 39,T.get 40,T.get 41,T.get 42,T.get 43]=u:=by
   have bb:=Z3 a5;have hd:r.drop 1=u:=by rw[o];rfl
   have k:∀j,j < 9->T.get (35+j)=u.getD j default:=fun j hj=>by
    have D:j < u.length:=by omega
    have:=k8 j (u[j]) (by rw[hd];exact tZ D);rw[show 35+j=34+1+j by omega,this];simp[D]
   rw[k 0 (by omega),k 1 (by omega),k 2 (by omega),k 3 (by omega),k 4 (by omega),k 5 (by omega),k 6 (by omega),k 7 (by omega),k 8 (by omega)]
   match u,bb with
   |[a,b,c,d,e,f,g,h,i],_=>rfl
  have y:T.get 46= .list [u]:=by
   rw[<-J];exact W
  have b1:q.length<=40:=by
   rw[V];have s:=R6 (m:=au.map fun j=>(Ar (aL us 0)).getD j []);rw[List.length_map] at s;have:=Lk _ au E P;omega
  have a7:lR T (.e 46)=[u]:=by show (T.get 46).toL=_;rw[y];rfl
  have a6:lR T (.e 34)=q:=by show (T.get 34).toL=_;rw[v];rfl
  refine⟨⟨fun _=>?_,trivial⟩,?_⟩
  .show ((lR T (.e 34)).length+(lR T (.e 46)).length)*88<=_;rw[a6,a7];show (q.length+1)*88<=_;omega
  .have w:uB r 4=(T.get 38).toB:=by
    rw[o,<-J];rfl
   have ad:T.get 47= .list (q++[u]):=by
    have:T.get 47=U.list ((T.get 34).toL++(T.get 46).toL):=X;rw[this,v,y];rfl
   have ag:T.get 48=bif (T.get 38).toB then T.get 34 else T.get 47:=Z
   show T.get 48=_;rw[ag];unfold CQ;rw[w];cases (T.get 38).toB with
   |true=>simp only[cond_true,if_true];rw[v,uj]
   |false=>
    simp only[cond_false,uE,if_false];rw[ad,o];rfl
 .rw[H] at x E;have N:T.get 34= .list ((au.map fun j=>(Ar (aL us 0)).getD j []).flatMap CQ):=E;have t:((au.map fun j=>(Ar (aL us 0)).getD j []).flatMap CQ).Perm ((Ar (aL us 0)).flatMap CQ):=by
   have s:=x.map fun j=>(Ar (aL us 0)).getD j [];rw[iz] at s;exact s.flatMap_right CQ
  have ab:T.get 35=Cw LK [T.get 34]:=a0.1;have ho:T.get 35= .list (Bi (aL us 0)):=by
   rw[ab,N];show U.list (A6 ltB _)=_;exact vD U.list (ia t)
  refine⟨⟨fun _=>?_,trivial⟩,?_⟩
  .show If [T.get 34];rw[N];show ((au.map fun j=>(Ar (aL us 0)).getD j []).flatMap CQ).length<=40/\(20 < ((au.map fun j=>(Ar (aL us 0)).getD j []).flatMap CQ).length->Dst ltB ((au.map fun j=>(Ar (aL us 0)).getD j []).flatMap CQ));have:=t.length_eq;have:=R6 (m:=Ar (aL us 0));refine⟨by omega,fun _ a b ha w C O=>?_⟩;rw[IX] at C O;exact ZA JN (t.subset ha) (t.subset w) (by omega)
  .show [T.get 35]=[Cw L7 us];rw[ho];rfl
def Lz:List U->List (List U):=fun us=>(if AO (aL us 0)=0 then Bi (aL us 0) else [])
def MD:List U->Int:=fun us=>(AO (aL us 0))
def Jm:List U->Prop:=fun us=>((aL us 0)).length<=40\/200 < ((aL us 0)).length
def Ks:AZ:={ sh:=[.one (.list [k64,k64,k64,.bool,.str,.str,.bool,k64,k64])],blks:=[],outs:=[(.s "Books.0",Cw Lz),(.s "Books.1",Bm MD)],c:= .tup [.ro 1 [k64,k64,k64,.bool,.str,.str,.bool,k64,k64],(DK 2)],m':=[],pre:=[(.s "Books.p0",Jm)] }
def aq:List En:=[⟨1,.outI "checkL.0" Et,[.e 0]⟩,
 ⟨2,.ne,[.e 1,.c (.int 0)]⟩,
 vQ 3 2,
 ⟨4,.outL "books.0" L7,[.e 0]⟩,
 ⟨5,.ite .i,[.e 2,.e 1,.c (.int 0)]⟩,
 ⟨6,.ite .l,[.e 2,.c (.list []),.e 4]⟩,
 vN 7 2 3]
def WU:List En:=aq
def qo:List ObE:=[⟨some 3,.pre "books.p0" L1,[.e 0]⟩]
def cp:List Rf:=[.e 6,.e 5]
theorem rJ:Ks.sees cp (Ks.run Try.prog [(47,Dy),(65,FQ)] Aa 3000 20 23)=some ((WU).map En.be,qo.map ObE.be,[]):=by kernel_rfl
abbrev xm(T:Tab):Prop:=(L T 0).length<=140737488355328
variable{T:Tab}
theorem qz (p:xm T)(o:∀u∈(L T 0),AK AD KB u)(q:((L T 0)).length<=40\/200 < ((L T 0)).length)(j:AF T WU):
  ((L T 6)=(if AO (L T 0)=0 then Bi (L T 0) else []))/\
  ((I T 5)=(AO (L T 0)))/\
  (B T 3=true->((L T 0)).length<=40):=by
 have d:=j;clear j;refine⟨?_,?_,?_⟩
 .obtain⟨b,c,-,e,-,i,-⟩:=d;replace b:I T 1=(AO (L T 0)):=b;replace e:L T 4=(Bi (L T 0)):=e;simp only[AE,AI,zR,zL,zS] at c i;have k:(B T 2)=true↔¬AO (L T 0)=0:=by rw[c,b]
  by_cases h:(B T 2)=true
  .rw[i,vC h,vA (k.1 h)]
  .rw[i,vA h,vC (uc fun a=>h (k.2 a)),e]
 .obtain⟨b,c,-,-,g,-⟩:=d;replace b:I T 1=(AO (L T 0)):=b;simp only[AE,AI,zR,zL,zS] at c g;have k:(B T 2)=true↔¬AO (L T 0)=0:=by rw[c,b]
  by_cases h:(B T 2)=true
  .rw[g,vC h,b]
  .rw[g,vA h];exact (uc fun a=>h (k.2 a)).symm
 .obtain⟨b,c,l,-⟩:=d;replace b:I T 1=(AO (L T 0)):=b;simp only[AE,AI,zR] at c l;intro h;have k:(B T 2)=true↔¬AO (L T 0)=0:=by rw[c,b]
  have n:¬B T 2=true:=by simpa using l.1 h
  have:=EF (uc fun a=>n (k.2 a));show ((L T 0)).length<=40;omega
theorem oT:Ae Try.prog 23 Ks:=by
 refine Aq (l:=[(47,Dy),(65,FQ)]) BU (by simp only[uA];exact⟨Ly,ZT,fun _ h=>absurd h (by simp)⟩) rJ (by kernel_rfl) fun T us c p d o g j=>?_;change us.length=1 at d;obtain⟨⟨b,q⟩,-⟩:=g;replace b:(L T 0).length<=140737488355328:=b;have r:∀u∈(L T 0),AK AD KB u:=fun u s=>by
  obtain⟨i,Y⟩:=uH.1 s;exact q i u Y
 have a:aL us 0=L T 0:=inL p d (by decide);have t:((L T 0)).length<=40\/200 < ((L T 0)).length:=by
  have h:=c (.s "Books.p0",Jm) (by simp[Ks]);change Jm us at h;unfold Jm at h;simp only[a] at h;exact h
 clear c
 skip
 obtain⟨e,k⟩:=At (R:=[.l,.i]) (rs:=cp) o (by kernel_rfl) j;obtain⟨v,w,x⟩:=qz b r t e;refine⟨⟨x,trivial⟩,k.trans ?_⟩;exact (lc (by show U.list (L T 6)= .list (Lz us);unfold Lz;rw[a];exact vD U.list v) (lc (by show U.int (I T 5)= .int (MD us);unfold MD;rw[a];exact vD U.int w) rfl))
def KK:List U->List (List U):=fun us=>(Bi (aL us 0))
def Hp:List U->Prop:=fun us=>((aL us 0)).length<=200/\CT (aL us 0)=true
def Dx:AZ:={ sh:=[.one (.list [k64,k64,k64,.bool,.str,.str,.bool,k64,k64])],blks:=[],outs:=[(.s "rbooks.0",Cw KK)],c:= .ro 1 [k64,k64,k64,.bool,.str,.str,.bool,k64,k64],m':=[],pre:=[(.s "rbooks.p0",Hp)] }
def GR:List En:=[]
def VO:List En:=[vT 3 0,
 vO 4 1 3,
 vQ 5 4,
 vU 6 0 1,
 vP 7 0 1,
 vR 8 0 1,
 vX 9 0 1,
 vV 10 0 1,
 vW 11 0 1,
 vY 12 0 1,
 vZ 13 0 1,
 vd 14 0 1]
def DJ:List En:=VO
def XO:List En:=[vT 17 0,
 vO 18 15 17,
 vK 19 4 18,
 vM 20 4 18,
 vU 21 0 15,
 ⟨22,.eq,[.e 21,.e 6]⟩,
 vK 23 19 22,
 vK 24 19 22,
 vP 25 0 15,
 vK 26 19 22,
 vO 27 7 25,
 vM 28 26 27,
 vM 29 26 27,
 vU 30 0 15,
 vP 31 0 15,
 vR 32 0 15]
def XW:List En:=[vX 33 0 15,
 vV 34 0 15,
 vW 35 0 15,
 vY 36 0 15,
 vZ 37 0 15,
 vd 38 0 15,
 vM 39 26 27,
 ⟨40,.eqs [.i,.i,.i,.b,.s,.s,.b,.i,.i],[.e 30,.e 6,.e 31,.e 7,.e 32,.e 8,.e 33,.e 9,.e 34,.e 10,.e 35,.e 11,.e 36,.e 12,.e 37,.e 13,.e 38,.e 14]⟩,
 vK 41 39 40,
 vK 42 39 40,
 vO 43 15 1,
 vK 44 40 43,
 vN 45 27 44,
 vK 46 22 45,
 vK 47 19 46,
 vM 48 19 46]
def YA:List En:=[⟨49,.ite .b,[.e 46,.c (.bool false),.e 16]⟩,
 ⟨50,.w2 .i64 .add,[.e 15,.c (.int 1)]⟩]
def Cc:List En:=XO++(XW++(YA))
def Ss:List ObE:=[⟨some 29,.inl,[.e 15,.e 0]⟩,⟨some 24,.inl,[.e 15,.e 0]⟩,⟨some 19,.inl,[.e 15,.e 0]⟩]
def IN:Ac:=mkD 15 2 Cc 19 [.e 50,.e 49] Ss [1,6,7,8,9,10,11,12,13,14,0,4]
def Kj:List Rf:=[.e 1,.e 6,.e 7,.e 8,.e 9,.e 10,.e 11,.e 12,.e 13,.e 14,.e 0,.e 4,.c (.int 0),.n 9]
def VN:List En:=[vK 51 20 16,
 vM 52 20 16]
def Eg:List En:=VN
def XI:List En:=[vT 54 2,
 vO 55 53 54,
 vK 56 51 55,
 vK 57 51 55,
 vR 58 2 53,
 vK 59 51 55,
 vO 60 58 8,
 vM 61 59 60,
 vM 62 59 60,
 vR 63 2 53,
 vM 64 59 60,
 ⟨65,.eq,[.e 63,.e 8]⟩,
 vK 66 64 65,
 vK 67 64 65,
 vU 68 2 53,
 vK 69 64 65]
def X2:List En:=[vO 70 68 6,
 vK 71 65 70,
 vN 72 60 71,
 vK 73 55 72,
 vK 74 51 73,
 vM 75 51 73,
 ⟨76,.w2 .i64 .add,[.e 53,.c (.int 1)]⟩]
def Dd:List En:=XI++(X2)
def Sv:List ObE:=[⟨some 67,.inl,[.e 53,.e 2]⟩,⟨some 62,.inl,[.e 53,.e 2]⟩,⟨some 57,.inl,[.e 53,.e 2]⟩]
def Hs:Ac:=mkD 53 1 Dd 74 [.e 76] Sv [51,6,2,8]
def J1:List Rf:=[.e 51,.e 6,.e 2,.e 8,.c (.int 0)]
def Uc:List En:=[⟨77,.id .l,[.c (.list [])]⟩,
 ⟨78,.take,[.e 2,.e 53]⟩,
 vl 79 77 78,
 ⟨80,.row 1 9 [.i,.i,.i,.b,.s,.s,.b,.i,.i],[.e 6,.e 7,.e 8,.e 9,.e 10,.e 11,.e 12,.e 13,.e 14]⟩,
 vl 81 79 80,
 ⟨82,.drop,[.e 2,.e 53]⟩,
 vl 83 81 82,
 ⟨84,.ite .l,[.e 52,.c (.list []),.e 83]⟩,
 vf 85 52 2 83,
 vN 86 52 75,
 ⟨87,.w2 .i64 .add,[.e 1,.c (.int 1)]⟩]
def Hm:List En:=Uc
def GN:List En:=DJ++((Ag IN [.i,.b] Kj)++(Cc++(Eg++((Ag Hs [.i] J1)++(Dd++(Hm))))))
def TO:List ObE:=[⟨some 75,.fits 88,[.e 81,.e 82]⟩,⟨some 75,.take,[.e 2,.e 53]⟩,⟨some 75,.fits 88,[.e 79,.e 80]⟩,⟨some 75,.fits 88,[.e 77,.e 78]⟩,⟨some 75,.take,[.e 2,.e 53]⟩,⟨some 51,.owes Hs,[.e 51,.e 6,.e 2,.e 8,.c (.int 0)]⟩,⟨some 4,.owes IN,[.e 1,.e 6,.e 7,.e 8,.e 9,.e 10,.e 11,.e 12,.e 13,.e 14,.e 0,.e 4,.c (.int 0),.n 9]⟩,⟨some 4,.inl,[.e 1,.e 0]⟩]
def Ki:Ac:=mkD 1 2 GN 86 [.e 87,.e 85] TO [0]
def Oc:List Rf:=[.e 0,.c (.int 0),.c (.list [])]
def fG:List En:=[]
def mC:List ObE:=[⟨none,.owes Ki,[.e 0,.c (.int 0),.c (.list [])]⟩]
def X4:List Rf:=[.e 2]
theorem mH:Dx.sees X4 (Dx.run Try.prog [] Aa 3000 20 86)=some ((GR++((Ag Ki [.i,.l] Oc)++(GN++(fG)))).map En.be,mC.map ObE.be,[]):=by kernel_rfl
abbrev xn(T:Tab):Prop:=0<=I T 1/\I T 1<=((L T 0)).length/\((L T 0)).length<=200/\(∀u∈(L T 0),AK AD KB u)/\L T 2=A6 ltB (Ca (L T 0) (I T 1).toNat)
theorem af (t:xn T)(a:AF T DJ):
  ((B T 4)=true->I T 1 < ((L T 0)).length)/\((I T 6)=Ad (L T 0) (I T 1).toNat 0/\I T 7=Ad (L T 0) (I T 1).toNat 1/\I T 8=Ad (L T 0) (I T 1).toNat 2/\B T 9=Bx (L T 0) (I T 1).toNat 3/\S T 10=BL (L T 0) (I T 1).toNat 4/\S T 11=BL (L T 0) (I T 1).toNat 5/\B T 12=Bx (L T 0) (I T 1).toNat 6/\I T 13=Ad (L T 0) (I T 1).toNat 7/\I T 14=Ad (L T 0) (I T 1).toNat 8):=by
 have b:=a;clear a;have s:(B T 4)=true->I T 1 < ((L T 0)).length:=by
  obtain⟨j,k,-⟩:=b;simp only[AE,zR,zL] at j k;intro h;have:=k.1 h;rw[j] at this;exact this
 have r:(I T 6)=Ad (L T 0) (I T 1).toNat 0/\I T 7=Ad (L T 0) (I T 1).toNat 1/\I T 8=Ad (L T 0) (I T 1).toNat 2/\B T 9=Bx (L T 0) (I T 1).toNat 3/\S T 10=BL (L T 0) (I T 1).toNat 4/\S T 11=BL (L T 0) (I T 1).toNat 5/\B T 12=Bx (L T 0) (I T 1).toNat 6/\I T 13=Ad (L T 0) (I T 1).toNat 7/\I T 14=Ad (L T 0) (I T 1).toNat 8:=by
  obtain⟨-,-,-,l,o,p,q,c,d,e,g,i,-⟩:=b;simp only[AE,zR,zL] at l o p q c d e g i;exact⟨l,o,p,q,c,d,e,g,i⟩
 exact⟨s,r⟩
abbrev wt(T:Tab)(a:Int)(b:Bool):Prop:=0<=a/\a <=((L T 0)).length/\(b=true↔(uB (((L T 0)).getD (I T 1).toNat []) 3=false/\∀k:Nat,(k:Int) <a ->uI (((L T 0)).getD k []) 0=uI (((L T 0)).getD (I T 1).toNat []) 0->¬(uI (((L T 0)).getD (I T 1).toNat []) 1 < uI (((L T 0)).getD k []) 1)/\¬(((L T 0)).getD k []=(((L T 0)).getD (I T 1).toNat [])/\(k:Int) < I T 1)))
abbrev xp(T:Tab):Prop:=(B T 4)=true->I T 1 < ((L T 0)).length
abbrev xq(T:Tab):Prop:=(I T 6)=Ad (L T 0) (I T 1).toNat 0/\I T 7=Ad (L T 0) (I T 1).toNat 1/\I T 8=Ad (L T 0) (I T 1).toNat 2/\B T 9=Bx (L T 0) (I T 1).toNat 3/\S T 10=BL (L T 0) (I T 1).toNat 4/\S T 11=BL (L T 0) (I T 1).toNat 5/\B T 12=Bx (L T 0) (I T 1).toNat 6/\I T 13=Ad (L T 0) (I T 1).toNat 7/\I T 14=Ad (L T 0) (I T 1).toNat 8
theorem gx (g1:xn T)(h4:xp T)(v:xq T)(P:AJ T (AM (hds 1 [.i,.l]++DN [0] (AM (Ak 0 Dx.ks) GR)) DJ))(N:AU T (Cc.map En.be))(O:AU T ((Ag IN [.i,.b] Kj).map En.be)):
  (IN).owes (Kj.map (Rf.eval T))/\AJ T (hds 15 [.i,.b])/\(wt T (I T 15) (B T 16))/\¬B T 19=true:=by
 refine Ax (nh:=15) (k:=2) (pcn:=19) (aO:=51) (y:=Cc) (J:=Ss) (nxt:=[.e 50,.e 49]) (H:=[.c (.int 0),.n 9]) (fv:=[1,6,7,8,9,10,11,12,13,14,0,4]) (R:=[.i,.b]) (by kernel_rfl) rfl rfl rfl rfl P (by kernel_rfl) (by kernel_rfl) N (Ai O) (fun s=>wt T (aI s 0) (aB s 1)) (fun s=>(((L T 0)).length - (aI s 0)).toNat) ?_ ?_
 .show wt T (0:Int) (!B T 9);clear P N O;refine⟨uf _,by omega,?_⟩;obtain⟨v,K,Y,M,-⟩:=v;have ce:Bx ((L T 0)) (I T 1).toNat 3=uB (((L T 0)).getD (I T 1).toNat []) 3:=rfl;rw[M,ce];cases uB (((L T 0)).getD (I T 1).toNat []) 3 with
  |false=>exact⟨fun h=>⟨rfl,fun k Q=>absurd Q (by omega)⟩,fun h=>rfl⟩
  |true=>exact⟨fun h=>(by cases h),fun h=>(by cases h.1)⟩
 .intro A i t u;replace u:wt T (I A 15) (B A 16):=u;clear P N O;replace t:AF A Cc:=t;obtain⟨w,t⟩:=t.cut;obtain⟨F1,t⟩:=t.cut;have X:=t;clear t;have b8:I A 1=I T 1:=fvI (i 1 (by decide));have bi:I A 6=I T 6:=fvI (i 6 (by decide));have bj:I A 7=I T 7:=fvI (i 7 (by decide));have cj:I A 8=I T 8:=fvI (i 8 (by decide));have cl:B A 9=B T 9:=fvB (i 9 (by decide));have ca:S A 10=S T 10:=fvS (i 10 (by decide));have cb:S A 11=S T 11:=fvS (i 11 (by decide));have cc:B A 12=B T 12:=fvB (i 12 (by decide));have cf:I A 13=I T 13:=fvI (i 13 (by decide));have ch:I A 14=I T 14:=fvI (i 14 (by decide));have j:L A 0=L T 0:=fvL (i 0 (by decide));have ci:B A 4=B T 4:=fvB (i 4 (by decide));clear i
  suffices hz:(B A 29=true->0<=I A 15/\I A 15 < ((L A 0)).length)/\(B A 24=true->0<=I A 15/\I A 15 < ((L A 0)).length)/\(B A 19=true->0<=I A 15/\I A 15 < ((L A 0)).length)/\(B A 19=true->(wt T (I A 50) (B A 49)))/\(B A 19=true->(((L T 0)).length - (I A 50)).toNat < (((L T 0)).length - (I A 15)).toNat) from
   let⟨r0,ax,aE,nx,mz⟩:=hz;⟨⟨r0,ax,aE,trivial⟩,fun b=>⟨nx b,mz b⟩⟩
  refine⟨?_,?_,?_,?_,?_⟩
  .obtain⟨c,d,g,-,-,-,-,o,-,p,-,-,q,-⟩:=w;simp only[AE,AI,zN,zR,zL] at c d g o p q;obtain⟨E,F,D⟩:=u;intro b;have r:(B A 19)=true:=by first|exact b|exact (o.1 b).1|exact (p.1 (q.1 b).1).1
   have l:=d.1 (g.1 r).2;rw[c,j] at l;rw[j];omega
  .obtain⟨c,d,g,-,-,-,-,o,-,p,-,-,q,-⟩:=w;simp only[AE,AI,zN,zR,zL] at c d g o p q;obtain⟨E,F,D⟩:=u;intro b;have r:(B A 19)=true:=by first|exact b|exact (o.1 b).1|exact (p.1 (q.1 b).1).1
   have l:=d.1 (g.1 r).2;rw[c,j] at l;rw[j];omega
  .obtain⟨c,d,g,-,-,-,-,o,-,p,-,-,q,-⟩:=w;simp only[AE,AI,zN,zR,zL] at c d g o p q;obtain⟨E,F,D⟩:=u;intro b;have r:(B A 19)=true:=by first|exact b|exact (o.1 b).1|exact (p.1 (q.1 b).1).1
   have l:=d.1 (g.1 r).2;rw[c,j] at l;rw[j];omega
  .obtain⟨c,d,g,-,Z,ab,-,-,ad,-,ag,-,-,al,ao,a0,-⟩:=w;obtain⟨a1,a2,a3,a4,a5,a6,-,a7,-,-,a8,a9,ba,bb,-⟩:=F1;obtain⟨bc,z,-⟩:=X;simp only[AE,AI,zC,zR,DU,and_true,w2P,zL,zS] at c d g Z ab ad ag al ao a0 a1 a2 a3 a4 a5 a6 a7 a8 a9 ba bb bc z;obtain⟨E,F,D⟩:=u;obtain⟨q1,q2,q3,W,q5⟩:=g1;obtain⟨v,K,Y,M,bx,b0,b1,b2,b3⟩:=v;intro b;have r:=g.1 b;have l:=d.1 r.2;rw[c,j] at l;have hh:=h4 (by rw[<-ci];exact r.1);have c9:=z (by omega) (by omega);have cu:(I A 15).toNat < ((L T 0)).length:=by omega
   have av:=J7 (show TyB ((L T 0)) from W) (show TyB ((L T 0)) from W) cu (show (I T 1).toNat < ((L T 0)).length by omega);have cx:(B A 22)=true↔uI (((L T 0)).getD (I A 15).toNat []) 0=uI (((L T 0)).getD (I T 1).toNat []) 0:=by rw[ab,Z,j,bi,v];exact Iff.rfl
   have cy:(B A 27)=true↔uI (((L T 0)).getD (I T 1).toNat []) 1 < uI (((L T 0)).getD (I A 15).toNat []) 1:=by rw[ag,ad,j,bj,K];exact Iff.rfl
   have c0:(B A 40)=true↔((L T 0)).getD (I A 15).toNat []=(((L T 0)).getD (I T 1).toNat []):=by
    rw[<-av,a7,al,ao,a0,a1,a2,a3,a4,a5,a6,j,bi,bj,cj,cl,ca,cb,cc,cf,ch,v,K,Y,M,bx,b0,b1,b2,b3]
   have c1:(B A 43)=true↔I A 15 < I T 1:=by rw[a8,b8]
   have V:(B A 46)=true↔(uI (((L T 0)).getD (I A 15).toNat []) 0=uI (((L T 0)).getD (I T 1).toNat []) 0/\(uI (((L T 0)).getD (I T 1).toNat []) 1 < uI (((L T 0)).getD (I A 15).toNat []) 1\/((L T 0)).getD (I A 15).toNat []=(((L T 0)).getD (I T 1).toNat [])/\I A 15 < I T 1)):=by rw[bb,cx,ba,cy,a9,c0,c1]
   refine⟨by omega,by omega,?_⟩;rw[bc];by_cases C:(B A 46)=true
   .refine⟨fun h=>absurd C h.1,fun h=>?_⟩;exfalso;obtain⟨bt,x⟩:=V.1 C;obtain⟨d1,d2⟩:=h.2 (I A 15).toNat (by omega) bt;rcases x with x|x
    .exact absurd x d1
    .exact absurd ⟨x.1,by omega⟩ d2
   .refine Iff.trans ⟨fun h=>h.2,fun h=>⟨C,h⟩⟩ ?_;rw[D];refine and_congr_right fun _=>⟨fun h k Q e=>?_,fun h k Q e=>h k (by omega) e⟩;rcases Int.lt_or_le (k:Int) (I A 15) with hx|hx
    .exact h k hx e
    .have ek:k=(I A 15).toNat:=by omega
     rw[ek] at e⊢;refine⟨fun a=>C (V.2 ⟨e,.inl a⟩),fun a=>C (V.2 ⟨e,.inr ⟨a.1,by omega⟩⟩)⟩
  .obtain⟨c,d,g,-⟩:=w;obtain⟨-,z,-⟩:=X;simp only[AE,AI,zR,w2P,zL] at c d g z;obtain⟨E,F,D⟩:=u;obtain⟨q1,q2,q3,W,q5⟩:=g1;intro b;have l:=d.1 (g.1 b).2;rw[c,j] at l;have c9:=z (by omega) (by omega);omega
theorem bZ (d:xn T)(o:xp T)(k:xq T)(p:wt T (I T 15) (B T 16))(q:¬B T 19=true)(b:AF T DJ)(a:AF T Cc)(c:AF T Eg):
  (((L T 2)).length<=200):=by
 have e:=b;clear b;obtain⟨g,a⟩:=a.cut;obtain⟨h,a⟩:=a.cut;have i:=a;clear a;have j:=c;clear c;have E:((L T 2)).length<=200:=by
  have:=HZ (l:=L T 0) (n:=(I T 1).toNat);rw[d.2.2.2.2,CH];omega
 exact E
abbrev wu(T:Tab)(a:Int):Prop:=0<=a/\a <=((L T 2)).length/\∀q:Nat,(q:Int) <a ->ltB (((L T 2)).getD q []) (((L T 0)).getD (I T 1).toNat [])=true
theorem fY (g1:xn T)(N:xq T)(E:((L T 2)).length<=200)(Q:AJ T (AM (AM (hds 15 [.i,.b]++(AM (hds 1 [.i,.l]++DN [0] (AM (Ak 0 Dx.ks) GR)) DJ)) Cc) Eg))(O:AU T (Dd.map En.be))(P:AU T ((Ag Hs [.i] J1).map En.be)):
  (Hs).owes (J1.map (Rf.eval T))/\AJ T (hds 53 [.i])/\(wu T (I T 53))/\¬B T 74=true:=by
 refine Ax (nh:=53) (k:=1) (pcn:=74) (aO:=77) (y:=Dd) (J:=Sv) (nxt:=[.e 76]) (H:=[.c (.int 0)]) (fv:=[51,6,2,8]) (R:=[.i]) (by kernel_rfl) rfl rfl rfl rfl Q (by kernel_rfl) (by kernel_rfl) O (Ai P) (fun s=>wu T (aI s 0)) (fun s=>(((L T 2)).length - (aI s 0)).toNat) ?_ ?_
 .show wu T (0:Int);clear Q O P;exact⟨uf _,by omega,fun q h=>by omega⟩
 .intro A x r p;replace p:wu T (I A 53):=p;clear Q O P;replace r:AF A Dd:=r;obtain⟨t,r⟩:=r.cut;have V:=r;clear r;have a9:B A 51=B T 51:=fvB (x 51 (by decide));have a2:I A 6=I T 6:=fvI (x 6 (by decide));have g:L A 2=L T 2:=fvL (x 2 (by decide));have a0:I A 8=I T 8:=fvI (x 8 (by decide));clear x
  suffices hz:(B A 67=true->0<=I A 53/\I A 53 < ((L A 2)).length)/\(B A 62=true->0<=I A 53/\I A 53 < ((L A 2)).length)/\(B A 57=true->0<=I A 53/\I A 53 < ((L A 2)).length)/\(B A 74=true->(wu T (I A 76)))/\(B A 74=true->(((L T 2)).length - (I A 76)).toNat < (((L T 2)).length - (I A 53)).toNat) from
   let⟨r0,ax,aE,nx,mz⟩:=hz;⟨⟨r0,ax,aE,trivial⟩,fun a=>⟨nx a,mz a⟩⟩
  refine⟨?_,?_,?_,?_,?_⟩
  .obtain⟨c,d,-,i,-,e,-,-,j,-,l,-,-,o,-⟩:=t;simp only[AE,AI,zN,zR,zL] at c d i e j l o;obtain⟨K,M,z⟩:=p;intro a;have b:(B A 55)=true:=by first|exact (i.1 a).2|exact (e.1 (j.1 a).1).2|exact (e.1 (l.1 (o.1 a).1).1).2
   have b:=d.1 b;rw[c,g] at b;rw[g];omega
  .obtain⟨c,d,-,i,-,e,-,-,j,-,l,-,-,o,-⟩:=t;simp only[AE,AI,zN,zR,zL] at c d i e j l o;obtain⟨K,M,z⟩:=p;intro a;have b:(B A 55)=true:=by first|exact (i.1 a).2|exact (e.1 (j.1 a).1).2|exact (e.1 (l.1 (o.1 a).1).1).2
   have b:=d.1 b;rw[c,g] at b;rw[g];omega
  .obtain⟨c,d,-,i,-,e,-,-,j,-,l,-,-,o,-⟩:=t;simp only[AE,AI,zN,zR,zL] at c d i e j l o;obtain⟨K,M,z⟩:=p;intro a;have b:(B A 55)=true:=by first|exact (i.1 a).2|exact (e.1 (j.1 a).1).2|exact (e.1 (l.1 (o.1 a).1).1).2
   have b:=d.1 b;rw[c,g] at b;rw[g];omega
  .obtain⟨c,d,-,-,X,-,Y,-,-,Z,-,ab,-,-,ad,-⟩:=t;obtain⟨ag,al,ao,u,v,-,w,-⟩:=V;simp only[AE,AI,zR,w2P,zL] at c d X Y Z ab ad ag al ao u v w;obtain⟨K,M,z⟩:=p;obtain⟨N,c7,W,-⟩:=N;intro a;have F:=u.1 (v.1 a).2;have b:=d.1 F.1;rw[c,g] at b;have a7:=w (by omega) (by omega);refine⟨by omega,by omega,fun q hq=>?_⟩;rcases Int.lt_or_le (q:Int) (I A 53) with h|h
   .exact z q h
   .have eq:q=(I A 53).toNat:=by omega
    rw[eq,IX];rcases ao.1 F.2 with h|h
    .have h:=Y.1 h;rw[X,g,a0,W] at h;exact .inl h
    .obtain⟨C,D⟩:=al.1 h;have C:=ab.1 C;have D:=ag.1 D;rw[Z,g,a0,W] at C;rw[ad,g,a2,N] at D;exact .inr ⟨C,D⟩
  .obtain⟨c,d,-⟩:=t;obtain⟨-,-,-,u,v,-,w,-⟩:=V;simp only[AE,AI,zR,w2P,zL] at c d u v w;obtain⟨K,M,z⟩:=p;intro a;have F:=u.1 (v.1 a).2;have b:=d.1 F.1;rw[c,g] at b;have a7:=w (by omega) (by omega);omega
theorem Tt (j:xn T)(g:AJ T (hds 1 [.i,.l]++DN [0] (AM (Ak 0 Dx.ks) GR)))(a:AU T (GN.map En.be)):
  (AF T DJ)/\((B T 4)=true->I T 1 < ((L T 0)).length)/\((I T 6)=Ad (L T 0) (I T 1).toNat 0/\I T 7=Ad (L T 0) (I T 1).toNat 1/\I T 8=Ad (L T 0) (I T 1).toNat 2/\B T 9=Bx (L T 0) (I T 1).toNat 3/\S T 10=BL (L T 0) (I T 1).toNat 4/\S T 11=BL (L T 0) (I T 1).toNat 5/\B T 12=Bx (L T 0) (I T 1).toNat 6/\I T 13=Ad (L T 0) (I T 1).toNat 7/\I T 14=Ad (L T 0) (I T 1).toNat 8)/\((IN).owes (Kj.map (Rf.eval T)))/\(wt T (I T 15) (B T 16))/\(¬B T 19=true)/\(AF T Cc)/\(AF T Eg)/\(((L T 2)).length<=200)/\((Hs).owes (J1.map (Rf.eval T)))/\(wu T (I T 53))/\(¬B T 74=true)/\(AF T Dd)/\(AF T Hm)/\AJ T (AM (AM (hds 53 [.i]++(AM (AM (hds 15 [.i,.b]++(AM (hds 1 [.i,.l]++DN [0] (AM (Ak 0 Dx.ks) GR)) DJ)) Cc) Eg)) Dd) Hm):=by
 unfold GN at a;rw[ti,ti,ti,ti,ti,ti] at a;have d:=a.left;replace a:=a.right;have e:=a.left;replace a:=a.right;have b:=a.left;replace a:=a.right;obtain⟨k,c⟩:=AN g (by kernel_rfl) d;obtain⟨o,i⟩:=af j k;obtain⟨z,h,s,t⟩:=gx j o i c b e;have p:=(AN (h.append c) (l:=Cc) (by kernel_rfl) b);obtain⟨q,g⟩:=p;clear d b e c h;have d:=a.left;replace a:=a.right;have e:=a.left;replace a:=a.right;have b:=a.left;replace a:=a.right;obtain⟨r,c⟩:=AN g (by kernel_rfl) d;have E:=bZ j o i s t k q r;obtain⟨A,h,x,y⟩:=fY j i E c b e;have p:=(AN (h.append c) (l:=Dd) (by kernel_rfl) b);obtain⟨u,g⟩:=p;clear d b e c h;obtain⟨v,w⟩:=AN g (by kernel_rfl) a;exact⟨k,o,i,z,s,t,q,r,E,A,x,y,u,v,w⟩
abbrev ww(T:Tab)(a:Int)(b:List (List U)):Prop:=0<=a/\a <=((L T 0)).length/\b=A6 ltB (Ca (L T 0) a.toNat)
abbrev xr(T:Tab):Prop:=((L T 0)).length<=200/\CT (L T 0)=true
theorem eH (ek:xm T)(ba:∀u∈(L T 0),AK AD KB u)(K:xr T)(hS:AJ T (AM (Ak 0 Dx.ks) GR))(hB:AU T (GN.map En.be))(hH:AU T ((Ag Ki [.i,.l] Oc).map En.be)):
  (Ki).owes (Oc.map (Rf.eval T))/\AJ T (hds 1 [.i,.l])/\(ww T (I T 1) (L T 2))/\¬B T 86=true:=by
 refine HC (nh:=1) (k:=2) (pcn:=86) (aO:=88) (y:=GN) (J:=TO) (nxt:=[.e 87,.e 85]) (H:=[.c (.int 0),.c (.list [])]) (fv:=[0]) (R:=[.i,.l]) (by kernel_rfl) rfl rfl rfl rfl hS (by kernel_rfl) hB (Ai hH) (fun s=>ww T (aI s 0) (aL s 1)) (fun s=>(((L T 0)).length - (aI s 0)).toNat) ?_ ?_
 .show ww T (0:Int) (([]:List (List U)):List (List U));clear hS hB hH;exact⟨uf _,by omega,rfl⟩
 .intro A c2 cy hE D;replace D:ww T (I A 1) (L A 2):=D;have d:L A 0=L T 0:=fvL (c2 0 (by decide));clear c2;clear hS hB hH;have g1:0<=I A 1/\I A 1<=((L A 0)).length/\((L A 0)).length<=200/\(∀u∈(L A 0),AK AD KB u)/\L A 2=A6 ltB (Ca (L A 0) (I A 1).toNat):=by
   obtain⟨M,N,v⟩:=D;rw[d];exact⟨M,N,K.1,ba,v⟩
  obtain⟨bb,w,c6,d5,d0,em,X,bc,E,d6,V,en,B2,bi,c0⟩:=Tt g1 cy hE;clear cy hE;have hN:=Bp c0 (ar:=[.i,.l]) (rs:=[.e 87,.e 85]) (by kernel_rfl);clear c0;have O:=bb;clear bb;obtain⟨F1,X⟩:=X.cut;obtain⟨F2,X⟩:=X.cut;have F3:=X;clear X;have F4:=bc;clear bc;obtain⟨F5,B2⟩:=B2.cut;have F6:=B2;clear B2;have P:=bi;clear bi
  suffices hz:(B A 75=true->(((L A 81)).length+((L A 82)).length)*88<=140737488355328)/\(B A 75=true->0<=I A 53/\I A 53<=((L A 2)).length)/\(B A 75=true->(((L A 79)).length+((L A 80)).length)*88<=140737488355328)/\(B A 75=true->(((L A 77)).length+((L A 78)).length)*88<=140737488355328)/\(B A 75=true->0<=I A 53/\I A 53<=((L A 2)).length)/\(B A 4=true->0<=I A 1/\I A 1 < ((L A 0)).length)/\(B A 86=true->(ww T (I A 87) (L A 85)))/\(B A 86=true->(((L T 0)).length - (I A 87)).toNat < (((L T 0)).length - (I A 1)).toNat) from
   let⟨r0,ax,aE,r3,r4,r5,nx,mz⟩:=hz;⟨hN,⟨r0,ax,aE,r3,r4,(fun _=>d6),(fun _=>d5),r5,trivial⟩,fun t=>⟨nx t,mz t⟩⟩
  refine⟨?_,?_,?_,?_,?_,?_,?_,?_⟩
  .obtain⟨j,o,-⟩:=O;obtain⟨b,c,g,i,p,r,-⟩:=P;simp only[AE,AI,zR,zL,zS,uR,Bh,zW] at j o b c g i p r;obtain⟨M,N,v⟩:=D;obtain⟨u1,u2,x⟩:=V;obtain⟨W,Q⟩:=K;have z:=HZ (l:=L T 0) (n:=(I A 1).toNat);have ao:((L A 2)).length<=(I A 1).toNat:=by rw[v,CH];exact z
   intro t;have F:((L A 80)).length=1:=by rw[i];rfl
   rw[d] at x
   first
   |(have w:=o.1 t
     rw[j,d] at w;rw[d];omega)
   |(exact⟨u1,u2⟩)
   |(rw[p,r,g,c,b,i]
     simp only[tq,uX,ue,ub];have:([[U.int (I A 6),U.int (I A 7),U.int (I A 8),U.bool (B A 9),U.str (S A 10),U.str (S A 11),U.bool (B A 12),U.int (I A 13),U.int (I A 14)]]:List (List U)).length=1:=rfl;omega)
   |(rw[g,c,b,F]
     simp only[tq,uX,ub];omega)
   |(rw[c,b]
     simp only[uX,ub];omega)
  .obtain⟨j,o,-⟩:=O;obtain⟨b,c,g,i,p,r,-⟩:=P;simp only[AE,AI,zR,zL,zS,uR,Bh,zW] at j o b c g i p r;obtain⟨M,N,v⟩:=D;obtain⟨u1,u2,x⟩:=V;obtain⟨W,Q⟩:=K;have z:=HZ (l:=L T 0) (n:=(I A 1).toNat);have ao:((L A 2)).length<=(I A 1).toNat:=by rw[v,CH];exact z
   intro t;have F:((L A 80)).length=1:=by rw[i];rfl
   rw[d] at x
   first
   |(have w:=o.1 t
     rw[j,d] at w;rw[d];omega)
   |(exact⟨u1,u2⟩)
   |(rw[p,r,g,c,b,i]
     simp only[tq,uX,ue,ub];have:([[U.int (I A 6),U.int (I A 7),U.int (I A 8),U.bool (B A 9),U.str (S A 10),U.str (S A 11),U.bool (B A 12),U.int (I A 13),U.int (I A 14)]]:List (List U)).length=1:=rfl;omega)
   |(rw[g,c,b,F]
     simp only[tq,uX,ub];omega)
   |(rw[c,b]
     simp only[uX,ub];omega)
  .obtain⟨j,o,-⟩:=O;obtain⟨b,c,g,i,p,r,-⟩:=P;simp only[AE,AI,zR,zL,zS,uR,Bh,zW] at j o b c g i p r;obtain⟨M,N,v⟩:=D;obtain⟨u1,u2,x⟩:=V;obtain⟨W,Q⟩:=K;have z:=HZ (l:=L T 0) (n:=(I A 1).toNat);have ao:((L A 2)).length<=(I A 1).toNat:=by rw[v,CH];exact z
   intro t;have F:((L A 80)).length=1:=by rw[i];rfl
   rw[d] at x
   first
   |(have w:=o.1 t
     rw[j,d] at w;rw[d];omega)
   |(exact⟨u1,u2⟩)
   |(rw[p,r,g,c,b,i]
     simp only[tq,uX,ue,ub];have:([[U.int (I A 6),U.int (I A 7),U.int (I A 8),U.bool (B A 9),U.str (S A 10),U.str (S A 11),U.bool (B A 12),U.int (I A 13),U.int (I A 14)]]:List (List U)).length=1:=rfl;omega)
   |(rw[g,c,b,F]
     simp only[tq,uX,ub];omega)
   |(rw[c,b]
     simp only[uX,ub];omega)
  .obtain⟨j,o,-⟩:=O;obtain⟨b,c,g,i,p,r,-⟩:=P;simp only[AE,AI,zR,zL,zS,uR,Bh,zW] at j o b c g i p r;obtain⟨M,N,v⟩:=D;obtain⟨u1,u2,x⟩:=V;obtain⟨W,Q⟩:=K;have z:=HZ (l:=L T 0) (n:=(I A 1).toNat);have ao:((L A 2)).length<=(I A 1).toNat:=by rw[v,CH];exact z
   intro t;have F:((L A 80)).length=1:=by rw[i];rfl
   rw[d] at x
   first
   |(have w:=o.1 t
     rw[j,d] at w;rw[d];omega)
   |(exact⟨u1,u2⟩)
   |(rw[p,r,g,c,b,i]
     simp only[tq,uX,ue,ub];have:([[U.int (I A 6),U.int (I A 7),U.int (I A 8),U.bool (B A 9),U.str (S A 10),U.str (S A 11),U.bool (B A 12),U.int (I A 13),U.int (I A 14)]]:List (List U)).length=1:=rfl;omega)
   |(rw[g,c,b,F]
     simp only[tq,uX,ub];omega)
   |(rw[c,b]
     simp only[uX,ub];omega)
  .obtain⟨j,o,-⟩:=O;obtain⟨b,c,g,i,p,r,-⟩:=P;simp only[AE,AI,zR,zL,zS,uR,Bh,zW] at j o b c g i p r;obtain⟨M,N,v⟩:=D;obtain⟨u1,u2,x⟩:=V;obtain⟨W,Q⟩:=K;have z:=HZ (l:=L T 0) (n:=(I A 1).toNat);have ao:((L A 2)).length<=(I A 1).toNat:=by rw[v,CH];exact z
   intro t;have F:((L A 80)).length=1:=by rw[i];rfl
   rw[d] at x
   first
   |(have w:=o.1 t
     rw[j,d] at w;rw[d];omega)
   |(exact⟨u1,u2⟩)
   |(rw[p,r,g,c,b,i]
     simp only[tq,uX,ue,ub];have:([[U.int (I A 6),U.int (I A 7),U.int (I A 8),U.bool (B A 9),U.str (S A 10),U.str (S A 11),U.bool (B A 12),U.int (I A 13),U.int (I A 14)]]:List (List U)).length=1:=rfl;omega)
   |(rw[g,c,b,F]
     simp only[tq,uX,ub];omega)
   |(rw[c,b]
     simp only[uX,ub];omega)
  .obtain⟨j,o,-⟩:=O;obtain⟨b,c,g,i,p,r,-⟩:=P;simp only[AE,AI,zR,zL,zS,uR,Bh,zW] at j o b c g i p r;obtain⟨M,N,v⟩:=D;obtain⟨u1,u2,x⟩:=V;obtain⟨W,Q⟩:=K;have z:=HZ (l:=L T 0) (n:=(I A 1).toNat);have ao:((L A 2)).length<=(I A 1).toNat:=by rw[v,CH];exact z
   intro t;have F:((L A 80)).length=1:=by rw[i];rfl
   rw[d] at x
   first
   |(have w:=o.1 t
     rw[j,d] at w;rw[d];omega)
   |(exact⟨u1,u2⟩)
   |(rw[p,r,g,c,b,i]
     simp only[tq,uX,ue,ub];have:([[U.int (I A 6),U.int (I A 7),U.int (I A 8),U.bool (B A 9),U.str (S A 10),U.str (S A 11),U.bool (B A 12),U.int (I A 13),U.int (I A 14)]]:List (List U)).length=1:=rfl;omega)
   |(rw[g,c,b,F]
     simp only[tq,uX,ub];omega)
   |(rw[c,b]
     simp only[uX,ub];omega)
  .obtain⟨j,o,-,e6,e7,e8,e9,bs,bt,bx,b0,b1,-⟩:=O;obtain⟨b2,b3,-,Y,-⟩:=F1;obtain⟨Z,ab,-⟩:=F4;obtain⟨b4,b5,-,-,b6,-,b7,-,-,b8,-,ca,-,-,cb,-⟩:=F5;obtain⟨ce,cf,ch,ci,-,ad,-⟩:=F6;obtain⟨b,c,g,i,p,r,cj,-,cl,ag,al,-⟩:=P;simp only[AE,AI,zN,zR,w2P,zL,zS,uR,Bh,zW] at j o e6 e7 e8 e9 bs bt bx b0 b1 b2 b3 Y Z ab b4 b5 b6 b7 b8 ca cb ce cf ch ci ad b c g i p r cj cl ag al;obtain⟨M,N,v⟩:=D;obtain⟨aJ,w2,w3⟩:=d0;obtain⟨u1,u2,x⟩:=V;obtain⟨W,Q⟩:=K;intro t;have a2:(B A 20)=true:=(ag.1 t).elim (fun h=>(ab.1 h).1) (fun h=>(Z.1 (ad.1 h).1).1);have w:=o.1 (Y.1 a2).1;rw[j,d] at w;have d3:¬I A 15 < I A 17:=fun h=>by have C:=(Y.1 a2).2;rw[b3.2 h] at C;cases C
   rw[b2,d] at d3;rw[d] at w2 w3 x;have c5:=al (by omega) (by omega);have c1:(B A 16)=true↔VJ (L T 0) (I A 1).toNat:=by
    rw[w3];unfold VJ;refine and_congr_right fun _=>⟨fun h k hk e=>?_,fun h k hk e=>?_⟩
    .obtain⟨a1,a5⟩:=h k (by omega) e;exact⟨a1,fun a=>a5 ⟨a.1,by omega⟩⟩
    .obtain⟨a1,a5⟩:=h k (by omega) e;exact⟨a1,fun a=>a5 ⟨a.1,by omega⟩⟩
   refine⟨by omega,by omega,?_⟩;rw[c5,show ((I A 1)+1).toNat=(I A 1).toNat+1 by omega,cl];have dm:(I A 1).toNat < ((L T 0)).length:=by omega
   by_cases a3:(B A 52)=true
   .have d2:¬B A 16=true:=by simpa using (ab.1 a3).2
    rw[vC a3,qn (fun h=>d2 (c1.2 h))];exact v
   .have de:=(ag.1 t).resolve_left a3;obtain⟨db,cv⟩:=ad.1 de;have hc:=c1.1 (Z.1 db).2;have dn:=(Pg (show TyB ((L T 0)) from ba)).1 Q;have hd:=dH dn (n:=(I A 1).toNat+1) (by omega);rw[mj hc] at hd⊢;rw[vA a3,cj,r,p,i,g,c,b,<-mX wkB v (k:=(I A 53).toNat) (by omega) (fun q hq=>x q (by omega)) ?_ hd]
    .show (([]++((L A 2)).take (I A 53).toNat)++[[U.int (I A 6),U.int (I A 7),U.int (I A 8),U.bool (B A 9),U.str (S A 10),U.str (S A 11),U.bool (B A 12),U.int (I A 13),U.int (I A 14)]])++((L A 2)).drop (I A 53).toNat=_;have c7:[U.int (I A 6),U.int (I A 7),U.int (I A 8),U.bool (B A 9),U.str (S A 10),U.str (S A 11),U.bool (B A 12),U.int (I A 13),U.int (I A 14)]=((L T 0)).getD (I A 1).toNat []:=by
      rw[e6,e7,e8,e9,bs,bt,bx,b0,b1,d];exact FI (ba _ (Az dm))
     rw[c7,u9,uU];rfl
    .by_cases cu:(B A 55)=true
     .right;intro c3;rw[IX] at c3;have dd:(B A 72)=true:=by
       refine ch.2 ?_;rcases c3 with h|⟨h,h'⟩
       .exact .inl (b7.2 (by rw[b6,e8,d];exact h))
       .exact .inr (cf.2 ⟨ca.2 (by rw[b8,e8,d];exact h),ce.2 (by rw[cb,e6,d];exact h')⟩)
      have:=ci.2 ⟨cu,dd⟩;rw[this] at cv;cases cv
     .have:¬I A 53 < I A 54:=fun h=>cu (b5.2 h);rw[b4] at this;left;omega
  .obtain⟨j,o,-⟩:=O;obtain⟨-,-,-,Y,-⟩:=F1;obtain⟨Z,ab,-⟩:=F4;obtain⟨-,-,-,-,-,ad,-⟩:=F6;obtain⟨-,-,-,-,-,-,-,-,-,ag,al,-⟩:=P;simp only[AE,AI,zN,zR,w2P,zL] at j o Y Z ab ad ag al;obtain⟨M,N,v⟩:=D;obtain⟨W,Q⟩:=K;intro t;have a2:(B A 20)=true:=(ag.1 t).elim (fun h=>(ab.1 h).1) (fun h=>(Z.1 (ad.1 h).1).1);have w:=o.1 (Y.1 a2).1;rw[j,d] at w;have c5:=al (by omega) (by omega);omega
theorem pD (al:xm T)(z:∀u∈(L T 0),AK AD KB u)(W:xr T)(M:ww T (I T 1) (L T 2))(A:¬B T 86=true)(d:xp T)(c6:xq T)(N:wt T (I T 15) (B T 16))(P:¬B T 19=true)(E:((L T 2)).length<=200)(ao:wu T (I T 53))(Q:¬B T 74=true)(g1:xn T)(e:AF T DJ)(a:AF T Cc)(g:AF T Eg)(b:AF T Dd)(i:AF T Hm):
  ((L T 2)=(Bi (L T 0))):=by
 have C:=e;clear e;obtain⟨D,a⟩:=a.cut;obtain⟨Y,a⟩:=a.cut;have Z:=a;clear a;have F:=g;clear g;obtain⟨F5,b⟩:=b.cut;have H:=b;clear b;have J:=i;clear i
 .obtain⟨l,o,-⟩:=C;obtain⟨-,-,j,k,-⟩:=D;obtain⟨p,q,-⟩:=F;obtain⟨-,-,-,-,r,s,-⟩:=H;obtain⟨-,-,-,-,-,-,-,-,-,c,-⟩:=J;simp only[AE,AI,zN,zR,zL] at l o j k p q r s c;obtain⟨v1,v2,X⟩:=M;obtain⟨aJ,w2,w3⟩:=N;obtain⟨p1,V⟩:=W;have K:=(Pg (show TyB ((L T 0)) from z)).1 V;have O:¬B T 4=true:=fun d=>by
   by_cases v:(B T 18)=true
   .exact P (j.2 ⟨d,v⟩)
   .have w:=k.2 ⟨d,by simpa using v⟩;by_cases t:(B T 16)=true
    .have x:=p.2 ⟨w,t⟩;by_cases y:(B T 73)=true
     .exact Q (r.2 ⟨x,y⟩)
     .exact A (c.2 (.inr (s.2 ⟨x,by simpa using y⟩)))
    .exact A (c.2 (.inl (q.2 ⟨w,by simpa using t⟩)))
  have:¬I T 1 < I T 3:=fun h=>O (o.2 h);rw[l] at this;rw[X,show (I T 1).toNat=((L T 0)).length by omega];exact jT (show TyB ((L T 0)) from z) K
theorem kO:Ae Try.prog 86 Dx:=by
 refine Aq (l:=[]) BU (by intro p h;exact absurd h (by simp)) mH (by kernel_rfl) fun T us v N w e K a=>?_;change us.length=1 at w;obtain⟨⟨c,O⟩,-⟩:=K;replace c:(L T 0).length<=140737488355328:=c;have g:∀u∈(L T 0),AK AD KB u:=fun u P=>by
  obtain⟨i,Y⟩:=uH.1 P;exact O i u Y
 have t:aL us 0=L T 0:=inL N w (by decide);have j:((L T 0)).length<=200/\CT (L T 0)=true:=by
  have h:=v (.s "rbooks.p0",Hp) (by simp[Dx]);change Hp us at h;unfold Hp at h;simp only[t] at h;exact h
 clear v;rw[ti,ti,ti] at a;have o:=a.left;replace a:=a.right;have q:=a.left;replace a:=a.right;have d:=a.left;replace a:=a.right;obtain⟨A0,b⟩:=AN e (by kernel_rfl) o;obtain⟨ad,r,x,X⟩:=eH c g j b d q;have k:0<=I T 1/\I T 1<=((L T 0)).length/\((L T 0)).length<=200/\(∀u∈(L T 0),AK AD KB u)/\L T 2=A6 ltB (Ca (L T 0) (I T 1).toNat):=by
  have H:L T 0=L T 0:=rfl;have Q:=x;obtain⟨v1,v2,v3⟩:=Q;rw[H];exact⟨v1,v2,j.1,g,v3⟩
 obtain⟨A,J,F,a3,V,Z,y,C,E,a4,W,ab,z,D,s⟩:=Tt k (r.append (CM (fun _ _=>rfl) b)) d;have e:=s.append b;clear o d q b r s;obtain⟨A3,M⟩:=At (R:=[.l]) (rs:=X4) e (by kernel_rfl) a;have q0:=pD c g j x X J F V Z E W ab k A y C z D;refine⟨⟨(fun _=>ad),trivial⟩,M.trans ?_⟩;exact (lc (by show U.list (L T 2)= .list (KK us);unfold KK;rw[t];exact vD U.list q0) rfl)
def J0:List U->List (List U):=fun us=>(if AO (aL us 0)=0 then Bi (aL us 0) else [])
def KZ:List U->Int:=fun us=>(AO (aL us 0))
def Ll:AZ:={ sh:=[.one (.list [k64,k64,k64,.bool,.str,.str,.bool,k64,k64])],blks:=[],outs:=[(.s "rBooks.0",Cw J0),(.s "rBooks.1",Bm KZ)],c:= .tup [.ro 1 [k64,k64,k64,.bool,.str,.str,.bool,k64,k64],(DK 2)],m':=[],pre:=[] }
def Zr:List En:=[⟨1,.outI "rCheckL.0" Cb,[.e 0]⟩,
 ⟨2,.ne,[.e 1,.c (.int 0)]⟩,
 ⟨3,.outI "rCheckL.0" Cb,[.e 0]⟩,
 vQ 4 2,
 ⟨5,.outL "rbooks.0" KK,[.e 0]⟩,
 ⟨6,.ite .i,[.e 2,.e 3,.c (.int 0)]⟩,
 ⟨7,.ite .l,[.e 2,.c (.list []),.e 5]⟩,
 vN 8 2 4]
def T7:List En:=Zr
def oe:List ObE:=[⟨some 4,.pre "rbooks.p0" Hp,[.e 0]⟩]
def YD:List Rf:=[.e 7,.e 6]
theorem mV:Ll.sees YD (Ll.run Try.prog [(21,Di),(86,Dx)] Aa 3000 20 46)=some ((T7).map En.be,oe.map ObE.be,[]):=by kernel_rfl
theorem nu (s:xm T)(r:∀u∈(L T 0),AK AD KB u)(l:AF T T7):
  ((L T 7)=(if AO (L T 0)=0 then Bi (L T 0) else []))/\
  ((I T 6)=(AO (L T 0)))/\
  (B T 4=true->((L T 0)).length<=200/\CT (L T 0)=true):=by
 have d:=l;clear l;refine⟨?_,?_,?_⟩
 .obtain⟨b,c,-,-,g,-,j,-⟩:=d;replace b:I T 1=(AO (L T 0)):=b;replace g:L T 5=(Bi (L T 0)):=g;simp only[AE,AI,zR,zL,zS] at c j;have k:(B T 2)=true↔¬AO (L T 0)=0:=by rw[c,b]
  by_cases h:(B T 2)=true
  .rw[j,vC h,vA (k.1 h)]
  .rw[j,vA h,vC (uc fun a=>h (k.2 a)),g]
 .obtain⟨b,c,e,-,-,i,-⟩:=d;replace b:I T 1=(AO (L T 0)):=b;replace e:I T 3=(AO (L T 0)):=e;simp only[AE,AI,zR,zL,zS] at c i;have k:(B T 2)=true↔¬AO (L T 0)=0:=by rw[c,b]
  by_cases h:(B T 2)=true
  .rw[i,vC h,e]
  .rw[i,vA h];exact (uc fun a=>h (k.2 a)).symm
 .obtain⟨b,c,-,o,-⟩:=d;replace b:I T 1=(AO (L T 0)):=b;simp only[AE,AI,zR] at c o;intro h;have k:(B T 2)=true↔¬AO (L T 0)=0:=by rw[c,b]
  have q:=h;have n:¬B T 2=true:=by first|simpa using o.1 h|simpa using h
  have p:=uc fun a=>n (k.2 a);exact⟨EF p,ZV p⟩
theorem jW:Ae Try.prog 46 Ll:=by
 refine Aq (l:=[(21,Di),(86,Dx)]) BU (by simp only[uA];exact⟨PF,kO,fun _ h=>absurd h (by simp)⟩) mV (by kernel_rfl) fun T us r o c k e g=>?_;change us.length=1 at c;obtain⟨⟨a,p⟩,-⟩:=e;replace a:(L T 0).length<=140737488355328:=a;have q:∀u∈(L T 0),AK AD KB u:=fun u s=>by
  obtain⟨i,Y⟩:=uH.1 s;exact p i u Y
 have b:aL us 0=L T 0:=inL o c (by decide);clear r
 skip
 obtain⟨d,j⟩:=At (R:=[.l,.i]) (rs:=YD) k (by kernel_rfl) g;obtain⟨t,v,w⟩:=nu a q d;refine⟨⟨w,trivial⟩,j.trans ?_⟩;exact (lc (by show U.list (L T 7)= .list (J0 us);unfold J0;rw[b];exact vD U.list t) (lc (by show U.int (I T 6)= .int (KZ us);unfold KZ;rw[b];exact vD U.int v) rfl))
def Hu:List U->Bool:=fun us=>(J6 (aL us 0) (aL us 1))
def Is:AZ:={ sh:=[.one (.list [k64,k64,k64,.bool,.str,.str,.bool,k64,k64]),.one (.list [k64,k64,k64,.bool,.str,.str,.bool,k64,k64])],blks:=[],outs:=[(.s "sameSh.0",JM Hu)],c:= .b 2,m':=[],pre:=[] }
def Ym:List En:=[vT 2 0,
 vT 3 1,
 ⟨4,.ne,[.e 2,.e 3]⟩,
 vQ 5 4]
def KI:List En:=Ym
def YX:List En:=[vT 7 0,
 vO 8 6 7,
 vK 9 5 8,
 vM 10 5 8,
 vU 11 0 6,
 vP 12 0 6,
 vR 13 0 6,
 vX 14 0 6,
 vV 15 0 6,
 vW 16 0 6,
 vY 17 0 6,
 vZ 18 0 6,
 vd 19 0 6,
 vU 20 1 6,
 vP 21 1 6,
 vR 22 1 6]
def Ye:List En:=[vX 23 1 6,
 vV 24 1 6,
 vW 25 1 6,
 vY 26 1 6,
 vZ 27 1 6,
 vd 28 1 6,
 ⟨29,.nes [.i,.i,.i,.b,.s,.s,.b,.i,.i],[.e 11,.e 20,.e 12,.e 21,.e 13,.e 22,.e 14,.e 23,.e 15,.e 24,.e 16,.e 25,.e 17,.e 26,.e 18,.e 27,.e 19,.e 28]⟩,
 vK 30 9 29,
 vM 31 9 29,
 ⟨32,.w2 .i64 .add,[.e 6,.c (.int 1)]⟩]
def E7:List En:=YX++(Ye)
def TB:List ObE:=[⟨some 9,.inl,[.e 6,.e 1]⟩,⟨some 9,.inl,[.e 6,.e 0]⟩]
def Kb:Ac:=mkD 6 1 E7 31 [.e 32] TB [1,0,5]
def OL:List Rf:=[.e 1,.e 0,.e 5,.c (.int 0)]
def ZJ:List En:=[⟨33,.ite .b,[.e 30,.c (.bool false),.c (.bool true)]⟩,
 vN 34 30 10,
 ⟨35,.ite .b,[.e 4,.c (.bool false),.e 33]⟩,
 vN 36 4 34]
def Tv:List En:=ZJ
def pE:List ObE:=[⟨some 5,.owes Kb,[.e 1,.e 0,.e 5,.c (.int 0)]⟩]
def Zq:List Rf:=[.e 35]
theorem m8:Is.sees Zq (Is.run Try.prog [] Aa 3000 20 25)=some ((KI++((Ag Kb [.i] OL)++(E7++(Tv)))).map En.be,pE.map ObE.be,[]):=by kernel_rfl
theorem aY (o:xm T)(k:∀u∈(L T 0),AK AD KB u)(p:(L T 1).length<=140737488355328)(l:∀u∈(L T 1),AK AD KB u)(b:AF T KI):
  ((B T 5)=true->((L T 0)).length=((L T 1)).length):=by
 have i:=b;clear b;have j:(B T 5)=true->((L T 0)).length=((L T 1)).length:=by
  obtain⟨c,d,e,g,-⟩:=i;simp only[AE,AI,zR,zL] at c d e g;intro h;have n:¬ ¬I T 2=I T 3:=fun a=>absurd (e.2 a) (by simpa using g.1 h);have:=uc n;rw[c,d] at this;omega
 exact j
abbrev wy(T:Tab)(a:Int):Prop:=0<=a/\a <=((L T 0)).length/\∀j:Nat,(j:Int) <a ->D0 (((L T 0)).getD j []) (((L T 1)).getD j [])=true
abbrev xt(T:Tab):Prop:=(B T 5)=true->((L T 0)).length=((L T 1)).length
theorem dq (bj:xm T)(g5:xt T)(hS:AJ T (AM (Ak 0 Is.ks) KI))(hB:AU T (E7.map En.be))(hH:AU T ((Ag Kb [.i] OL).map En.be)):
  (Kb).owes (OL.map (Rf.eval T))/\AJ T (hds 6 [.i])/\(wy T (I T 6))/\¬B T 31=true:=by
 refine Ax (nh:=6) (k:=1) (pcn:=31) (aO:=33) (y:=E7) (J:=TB) (nxt:=[.e 32]) (H:=[.c (.int 0)]) (fv:=[1,0,5]) (R:=[.i]) (by kernel_rfl) rfl rfl rfl rfl hS (by kernel_rfl) (by kernel_rfl) hB (Ai hH) (fun s=>wy T (aI s 0)) (fun s=>(((L T 0)).length - (aI s 0)).toNat) ?_ ?_
 .show wy T (0:Int);clear hS hB hH;exact⟨uf _,by omega,fun j h=>by omega⟩
 .intro A u l o;replace o:wy T (I A 6):=o;clear hS hB hH;replace l:AF A E7:=l;obtain⟨t,l⟩:=l.cut;have F1:=l;clear l;have ab:L A 1=L T 1:=fvL (u 1 (by decide));have e:L A 0=L T 0:=fvL (u 0 (by decide));have a4:B A 5=B T 5:=fvB (u 5 (by decide));clear u
  suffices hz:(B A 9=true->0<=I A 6/\I A 6 < ((L A 1)).length)/\(B A 9=true->0<=I A 6/\I A 6 < ((L A 0)).length)/\(B A 31=true->(wy T (I A 32)))/\(B A 31=true->(((L T 0)).length - (I A 32)).toNat < (((L T 0)).length - (I A 6)).toNat) from
   let⟨r0,ax,nx,mz⟩:=hz;⟨⟨r0,ax,trivial⟩,fun d=>⟨nx d,mz d⟩⟩
  refine⟨?_,?_,?_,?_⟩
  .obtain⟨a,b,c,-⟩:=t;simp only[AE,AI,zR,zL] at a b c;obtain⟨v1,v2,v⟩:=o;intro d;have r:=c.1 d;have i:=b.1 r.2;rw[a,e] at i;have g:=g5 (by rw[<-a4];exact r.1)
   first|rw[e]|rw[ab]
   omega
  .obtain⟨a,b,c,-⟩:=t;simp only[AE,AI,zR,zL] at a b c;obtain⟨v1,v2,v⟩:=o;intro d;have r:=c.1 d;have i:=b.1 r.2;rw[a,e] at i;have g:=g5 (by rw[<-a4];exact r.1)
   first|rw[e]|rw[ab]
   omega
  .obtain⟨a,b,c,-,w,x,z,C,D,E,F,K,M,N,O,P,-⟩:=t;obtain⟨Q,V,W,X,Y,Z,a3,-,p,q,-⟩:=F1;simp only[AE,AI,zN,zR,DU,and_true,w2P,zL,zS] at a b c w x z C D E F K M N O P Q V W X Y Z a3 p q;obtain⟨v1,v2,v⟩:=o;intro d;have ad:=p.1 d;have i:=b.1 (c.1 ad.1).2;rw[a,e] at i;have bc:=q (by omega) (by omega);refine⟨by omega,by omega,fun j hj=>?_⟩;rcases Int.lt_or_le (j:Int) (I A 6) with h|h
   .exact v j h
   .have ej:j=(I A 6).toNat:=by omega
    rw[ej];refine RL.1 (uc fun hn=>?_);rw[e] at w x z C D E F K M;rw[ab] at N O P Q V W X Y Z;rw[<-w,<-x,<-z,<-C,<-D,<-E,<-F,<-K,<-M,<-N,<-O,<-P,<-Q,<-V,<-W,<-X,<-Y,<-Z] at hn;have:=a3.2 hn;rw[this] at ad;cases ad.2
  .obtain⟨a,b,c,-⟩:=t;obtain⟨-,-,-,-,-,-,-,-,p,q,-⟩:=F1;simp only[AE,AI,zN,zR,w2P,zL] at a b c p q;obtain⟨v1,v2,v⟩:=o;intro d;have i:=b.1 (c.1 (p.1 d).1).2;rw[a,e] at i;have bc:=q (by omega) (by omega);omega
theorem oZ (bi:xm T)(ba:∀u∈(L T 0),AK AD KB u)(bj:(L T 1).length<=140737488355328)(bb:∀u∈(L T 1),AK AD KB u)(g5:xt T)(a4:wy T (I T 6))(a7:¬B T 31=true)(k:AF T KI)(a:AF T E7)(l:AF T Tv):
  ((B T 35)=(J6 (L T 0) (L T 1))):=by
 have F0:=k;clear k;obtain⟨F1,a⟩:=a.cut;have F2:=a;clear a;have F3:=l;clear l
 .obtain⟨y,N,V,W,-⟩:=F0;obtain⟨e,g,i,-,o,p,q,r,s,t,v,w,x,z,A,C,-⟩:=F1;obtain⟨D,E,F,H,J,K,M,d,O,-⟩:=F2;obtain⟨P,-,Q,-⟩:=F3;simp only[AE,AI,zN,zC,zR,DU,and_true,zL,zS] at y N V W e g i o p q r s t v w x z A C D E F H J K M d O P Q;obtain⟨v1,v2,v3⟩:=a4;have ad:(B T 35)=true↔J6 (L T 0) (L T 1)=true:=by
   rw[jR,Q];by_cases b:(B T 4)=true
   .have:=V.1 b;rw[y,N] at this;refine⟨fun h=>?_,fun h=>absurd h.1 (by omega)⟩;have:=h.1;rw[b] at this;cases this
   .have Y:=W.2 (by simpa using b);have hl:=g5 Y;have a1:(B T 33)=true↔¬B T 30=true:=by rw[P];simp
    rw[a1];by_cases c:(I T 6) < I T 7
    .have Z:=i.2 ⟨Y,g.2 c⟩;have X:(B T 29)=true:=by
      by_cases h:(B T 29)=true
      .exact h
      .exact absurd (O.2 ⟨Z,by simpa using h⟩) a7
     have a3:=d.2 ⟨Z,X⟩;have hn:=M.1 X;rw[o,p,q,r,s,t,v,w,x,z,A,C,D,E,F,H,J,K] at hn;refine⟨fun h=>absurd a3 h.2,fun h=>absurd (RL.2 (h.2 (I T 6).toNat (by rw[e] at c;omega))) hn⟩
    .have n9:¬B T 9=true:=fun h=>c (g.1 (i.1 h).2);have a5:¬B T 30=true:=fun h=>n9 (d.1 h).1;rw[e] at c;refine⟨fun _=>⟨by omega,fun j hj=>v3 j (by omega)⟩,fun _=>⟨by simpa using b,a5⟩⟩
  first|exact ad|exact Bool.eq_iff_iff.2 ad
theorem iX:Ae Try.prog 25 Is:=by
 refine Aq (l:=[]) BU (by intro p h;exact absurd h (by simp)) m8 (by kernel_rfl) fun T us K v k e A a=>?_;change us.length=2 at k;obtain⟨⟨b,H⟩,⟨c,J⟩,-⟩:=A;replace b:(L T 0).length<=140737488355328:=b;have w:∀u∈(L T 0),AK AD KB u:=fun u j=>by
  obtain⟨i,Y⟩:=uH.1 j;exact H i u Y
 replace c:(L T 1).length<=140737488355328:=c;have x:∀u∈(L T 1),AK AD KB u:=fun u j=>by
  obtain⟨i,Y⟩:=uH.1 j;exact J i u Y
 have E:aL us 0=L T 0:=inL v k (by decide);have F:aL us 1=L T 1:=inL v k (by decide);clear K;rw[ti,ti,ti] at a;have r:=a.left;replace a:=a.right;have s:=a.left;replace a:=a.right;have d:=a.left;replace a:=a.right;obtain⟨o,g⟩:=AN e (by kernel_rfl) r;have q:=aY b w c x o;obtain⟨O,t,M,N⟩:=dq b q g d s;have C:=(AN (t.append g) (l:=E7) (by kernel_rfl) d);obtain⟨z,e⟩:=C;clear r d s g t;obtain⟨y,D⟩:=At (R:=[.b]) (rs:=Zq) e (by kernel_rfl) a;have P:=oZ b w c x q M N o z y;refine⟨⟨(fun _=>O),trivial⟩,D.trans ?_⟩;exact (lc (by show U.bool (B T 35)= .bool (Hu us);unfold Hu;rw[E,F];exact vD U.bool P) rfl)
def FN:List U->Bool:=fun us=>(Dm (aS us 0) (aI us 1) (aI us 2))
def Fc:AZ:={ sh:=[.agg [.str,k64,k64]],blks:=[],outs:=[(.s "vplayer.0",JM FN)],c:= .b 3,m':=[],pre:=[] }
def Wf:List En:=[⟨3,.outB "xvname.0" H5,[.e 0]⟩,
 vh 4 3,
 ⟨5,.le,[.c (.int (-10000)),.e 1]⟩,
 vK 6 4 5,
 ⟨7,.le,[.e 1,.c (.int 10000)]⟩,
 vK 8 5 7,
 vK 9 3 8,
 vh 10 9,
 ⟨11,.le,[.c (.int (-12)),.e 2]⟩,
 vK 12 9 11,
 vh 13 12,
 ⟨14,.le,[.e 2,.c (.int 48)]⟩,
 vK 15 12 14]
def RC:List En:=Wf
def jE:List ObE:=[]
def WQ:List Rf:=[.e 15]
theorem kH:Fc.sees WQ (Fc.run Try.prog [(83,LD)] Aa 3000 20 82)=some ((RC).map En.be,jE.map ObE.be,[]):=by kernel_rfl
theorem lC (q:(S T 0).size<=140737488355328)(d:AF T RC):
  ((B T 15)=(Dm (S T 0) (I T 1) (I T 2))):=by
 have p:=d;clear d
 .obtain⟨a,-,j,-,k,l,o,-,e,g,-,h,i,-⟩:=p;replace a:B T 3=(Ch (S T 0)):=a;simp only[AE,AI,zR] at j k l o e g h i;refine Bool.eq_iff_iff.2 (Iff.trans ?_ I9.symm);rw[<-a,i,g,o,l,j,k,e,h];constructor
  .rintro⟨⟨⟨C,O⟩,b⟩,c⟩;exact⟨C,O,b,c⟩
  .rintro⟨C,O,b,c⟩;exact⟨⟨⟨C,O⟩,b⟩,c⟩
theorem UI:Ae Try.prog 82 Fc:=by
 refine Aq (l:=[(83,LD)]) BU (by simp only[uA];exact⟨WL,fun _ h=>absurd h (by simp)⟩) kH (by kernel_rfl) fun T us q b a j e g=>?_;change us.length=3 at a;obtain⟨c,-⟩:=e;replace c:(S T 0).size<=140737488355328:=c;have k:aS us 0=S T 0:=inS b a (by decide);have o:aI us 1=I T 1:=inI b a (by decide);have p:aI us 2=I T 2:=inI b a (by decide);clear q
 skip
 obtain⟨d,i⟩:=At (R:=[.b]) (rs:=WQ) j (by kernel_rfl) g;have r:=lC c d;refine⟨trivial,i.trans ?_⟩;exact (lc (by show U.bool (B T 15)= .bool (FN us);unfold FN;rw[k,o,p];exact vD U.bool r) rfl)
def Oa:List U->Int:=fun us=>(Ba (aS us 0) (aI us 1) (aI us 2) (aS us 3) (aI us 4) (aI us 5))
def QP:AZ:={ sh:=[.agg [.str,k64,k64],.agg [.str,k64,k64]],blks:=[],outs:=[(.s "pair.0",Bm Oa)],c:=(DK 6),m':=[],pre:=[] }
def eD:List En:=[⟨6,.outB "vplayer.0" FN,[.e 0,.e 1,.e 2]⟩,
 vh 7 6,
 ⟨8,.outB "vplayer.0" FN,[.e 3,.e 4,.e 5]⟩,
 ⟨9,.or,[.n 6,.n 8]⟩,
 vQ 10 9,
 ⟨11,.eqs [.s],[.e 0,.e 3]⟩,
 vK 12 10 11,
 vM 13 10 11,
 ⟨14,.ite .i,[.e 9,.c (.int 2),.c (.int 12)]⟩,
 vN 15 9 12,
 ⟨16,.ite .i,[.e 15,.e 14,.c (.int 0)]⟩,
 vN 17 15 13]
def Yb:List En:=eD
def rg:List ObE:=[]
def iP:List Rf:=[.e 16]
theorem sC:QP.sees iP (QP.run Try.prog [(82,Fc)] Aa 3000 20 57)=some ((Yb).map En.be,rg.map ObE.be,[]):=by kernel_rfl
theorem sT (o:(S T 0).size<=140737488355328)(p:(S T 3).size<=140737488355328)(c:AF T Yb):
  ((I T 16)=(Ba (S T 0) (I T 1) (I T 2) (S T 3) (I T 4) (I T 5))):=by
 have d:=c;clear c
 .obtain⟨a,-,b,l,e,g,h,-,i,j,k,-⟩:=d;replace a:B T 6=(Dm (S T 0) (I T 1) (I T 2)):=a;replace b:B T 8=(Dm (S T 3) (I T 4) (I T 5)):=b;simp only[AE,AI,zN,zR,DU,and_true,zL,zS] at l e g h i j k;unfold Ba;rw[<-a,<-b];clear a b;grind
theorem qG:Ae Try.prog 57 QP:=by
 refine Aq (l:=[(82,Fc)]) BU (by simp only[uA];exact⟨UI,fun _ h=>absurd h (by simp)⟩) sC (by kernel_rfl) fun T us u b a k g i=>?_;change us.length=6 at a;obtain⟨c,-,-,d,-⟩:=g;replace c:(S T 0).size<=140737488355328:=c;replace d:(S T 3).size<=140737488355328:=d;have o:aS us 0=S T 0:=inS b a (by decide);have p:aI us 1=I T 1:=inI b a (by decide);have q:aI us 2=I T 2:=inI b a (by decide);have r:aS us 3=S T 3:=inS b a (by decide);have s:aI us 4=I T 4:=inI b a (by decide);have t:aI us 5=I T 5:=inI b a (by decide);clear u
 skip
 obtain⟨e,j⟩:=At (R:=[.i]) (rs:=iP) k (by kernel_rfl) i;have v:=sT c d e;refine⟨trivial,j.trans ?_⟩;exact (lc (by show U.int (I T 16)= .int (Oa us);unfold Oa;rw[o,p,q,r,s,t];exact vD U.int v) rfl)
def O3:List U->Int:=fun us=>(B5 (aI us 0) (aI us 1) (aB us 2))
def LM:List U->Prop:=fun us=> -10000<=(aI us 0)/\(aI us 0)<=10000/\ -10000<=(aI us 1)/\(aI us 1)<=10000
def M3:AZ:={ sh:=[.one (k64),.one (k64),.one (.bool)],blks:=[],outs:=[(.s "gain.0",Bm O3)],c:=(DK 3),m':=[],pre:=[(.s "gain.p0",LM)] }
def fe:List En:=[vQ 3 2,
 vO 4 0 1,
 vK 5 2 4,
 vi 6 1 0,
 ⟨7,.o2 .tdiv,[.e 6,.c (.int 100)]⟩,
 ⟨8,.o2 .min,[.e 7,.c (.int 19)]⟩,
 ⟨9,.pick .i,[.e 8,.c (.int 10),.c (.int 9),.c (.int 8),.c (.int 7),.c (.int 6),.c (.int 6),.c (.int 5),.c (.int 5),.c (.int 4),.c (.int 4),.c (.int 3),.c (.int 3),.c (.int 3),.c (.int 2),.c (.int 2),.c (.int 2),.c (.int 1),.c (.int 1),.c (.int 1),.c (.int 1)]⟩,
 ⟨10,.o2 .sub,[.c (.int 20),.e 9]⟩,
 vM 11 2 4,
 vi 12 0 1,
 ⟨13,.o2 .tdiv,[.e 12,.c (.int 100)]⟩,
 ⟨14,.o2 .min,[.e 13,.c (.int 19)]⟩,
 ⟨15,.pick .i,[.e 14,.c (.int 10),.c (.int 9),.c (.int 8),.c (.int 7),.c (.int 6),.c (.int 6),.c (.int 5),.c (.int 5),.c (.int 4),.c (.int 4),.c (.int 3),.c (.int 3),.c (.int 3),.c (.int 2),.c (.int 2),.c (.int 2),.c (.int 1),.c (.int 1),.c (.int 1),.c (.int 1)]⟩,
 ve 16 5 10 15,
 vN 17 5 11,
 ⟨18,.ite .i,[.e 3,.c (.int 10),.e 16]⟩]
def eu:List En:=[vN 19 3 17]
def Xf:List En:=fe++(eu)
def r8:List ObE:=[⟨some 11,.inr,[.e 14,.c (.int 20)]⟩,
 ⟨some 5,.inr,[.e 8,.c (.int 20)]⟩]
def je:List Rf:=[.e 18]
theorem sD:M3.sees je (M3.run Try.prog [] Aa 3000 20 60)=some ((Xf).map En.be,r8.map ObE.be,[]):=by kernel_rfl
theorem rm (v: -10000<=I T 0/\I T 0<=10000/\ -10000<=I T 1/\I T 1<=10000)(p:AF T Xf):
  ((I T 18)=(B5 (I T 0) (I T 1) (B T 2)))/\
  (B T 11=true->0<=I T 14/\I T 14 < 20)/\
  (B T 5=true->0<=I T 8/\I T 8 < 20):=by
 obtain⟨q,p⟩:=p.cut;have W:=p;clear p;refine⟨?_,?_,?_⟩
 .obtain⟨t,b,c,j,k,l,z,w,-,e,g,i,y,r,-,s,-⟩:=q;simp only[AE,AI,zR,Qw,Qs,and_false,or_false,D1,w2P,zL,zS] at t b c j k l z w e g i y r s;obtain⟨A,D,E,F⟩:=v;unfold B5;by_cases o:(B T 2)=true
  .have H:¬B T 3=true:=fun a=>(t.1 a) o;rw[s,vA H,vC o];by_cases d:(I T 0) < I T 1
   .have u:=c.2 ⟨o,b.2 d⟩;have O:=j (by omega) (by omega);have Q:(I T 8)=min (((I T 1) - (I T 0)) / 100) 19:=by
     have P:(I T 7)=(I T 6) / 100:=by rw[k,vC (by omega)]
     rw[l];split<;>omega
    have V:(I T 9)=ID Gk (I T 8):=by
     simp only[ID,Gk];exact z
    rw[r,vC u,w,vC d,<-Q,V]
   .have u:¬B T 5=true:=fun a=>d (b.1 (c.1 a).2);have J:=e (by omega) (by omega);have M:(I T 14)=min (((I T 0) - (I T 1)) / 100) 19:=by
     have K:(I T 13)=(I T 12) / 100:=by rw[g,vC (by omega)]
     rw[i];split<;>omega
    have N:(I T 15)=ID Gk (I T 14):=by
     simp only[ID,Gk];exact y
    rw[r,vA u,vA d,<-M,N]
  .rw[s,vC (t.2 o),vA o]
 .obtain⟨-,b,-,-,-,-,-,-,x,e,g,i,-⟩:=q;simp only[AE,AI,zN,zR,D1,w2P] at b x e g i;intro h;obtain⟨A,D,E,F⟩:=v;have C:=x.1 h;have d:¬I T 0 < I T 1:=fun a=>by
   have:=b.2 a;simp[this] at C
  have J:=e (by omega) (by omega);have K:(I T 13)=(I T 12) / 100:=by rw[g,vC (by omega)]
  rw[i];split<;>omega
 .obtain⟨-,b,c,j,k,l,-⟩:=q;simp only[AE,AI,zR,D1,w2P] at b c j k l;intro h;obtain⟨A,D,E,F⟩:=v;have d:=b.1 (c.1 h).2;have O:=j (by omega) (by omega);have P:(I T 7)=(I T 6) / 100:=by rw[k,vC (by omega)]
  rw[l];split<;>omega
theorem qy:Ae Try.prog 60 M3:=by
 refine Aq (l:=[]) BU (by intro p h;exact absurd h (by simp)) sD (by kernel_rfl) fun T us e b a o i j=>?_;change us.length=3 at a;clear i;have c:aI us 0=I T 0:=inI b a (by decide);have d:aI us 1=I T 1:=inI b a (by decide);have q:aB us 2=B T 2:=inB b a (by decide);have r: -10000<=I T 0/\I T 0<=10000/\ -10000<=I T 1/\I T 1<=10000:=by
  have h:=e (.s "gain.p0",LM) (by simp[M3]);change LM us at h;unfold LM at h;simp only[c,d] at h;exact h
 clear e
 skip
 obtain⟨g,k⟩:=At (R:=[.i]) (rs:=je) o (by kernel_rfl) j;obtain⟨s,t,ax⟩:=rm r g;refine⟨⟨t,ax,trivial⟩,k.trans ?_⟩;exact (lc (by show U.int (I T 18)= .int (O3 us);unfold O3;rw[c,d,q];exact vD U.int s) rfl)
def Lo:List U->Int:=fun us=>(GS (aI us 0))
def IU:List U->Prop:=fun us=> -100<=(aI us 0)/\(aI us 0)<=100
def NW:AZ:={ sh:=[.one (k64)],blks:=[],outs:=[(.s "trig.0",Bm Lo)],c:=(DK 1),m':=[],pre:=[(.s "trig.p0",IU)] }
def fZ:List En:=[⟨1,.le,[.e 0,.c (.int 0)]⟩,
 vQ 2 1,
 ⟨3,.ite .i,[.e 1,.c (.int 40),.c (.int 50)]⟩,
 ⟨4,.w2 .i64 .mul,[.e 3,.e 0]⟩,
 ⟨5,.w2 .i64 .sub,[.c (.int 2000),.e 4]⟩]
def YV:List En:=fZ
def sv:List ObE:=[]
def it:List Rf:=[.e 5]
theorem rQ:NW.sees it (NW.run Try.prog [] Aa 3000 20 69)=some ((YV).map En.be,sv.map ObE.be,[]):=by kernel_rfl
theorem rL (o: -100<=I T 0/\I T 0<=100)(g:AF T YV):
  ((I T 5)=(GS (I T 0))):=by
 have j:=g;clear g
 .obtain⟨d,-,i,b,e,-⟩:=j;simp only[AE,AI,zR,w2P,zL,zS] at d i b e;unfold GS;have c:=i;by_cases h:(I T 0)<=0
  .rw[vC (d.2 h)] at c;rw[c] at b;have k:=b (by omega) (by omega);have l:=e (by omega) (by omega);rw[vC h];omega
  .rw[vA (fun a=>h (d.1 a))] at c;rw[c] at b;have k:=b (by omega) (by omega);have l:=e (by omega) (by omega);rw[vA h];omega
theorem py:Ae Try.prog 69 NW:=by
 refine Aq (l:=[]) BU (by intro p h;exact absurd h (by simp)) rQ (by kernel_rfl) fun T us b k c j e g=>?_;change us.length=1 at c;clear e;have a:aI us 0=I T 0:=inI k c (by decide);have o: -100<=I T 0/\I T 0<=100:=by
  have h:=b (.s "trig.p0",IU) (by simp[NW]);change IU us at h;unfold IU at h;simp only[a] at h;exact h
 clear b
 skip
 obtain⟨d,i⟩:=At (R:=[.i]) (rs:=it) j (by kernel_rfl) g;have q:=rL o d;refine⟨trivial,i.trans ?_⟩;exact (lc (by show U.int (I T 5)= .int (Lo us);unfold Lo;rw[a];exact vD U.int q) rfl)
def Lc:List U->Int:=fun us=>(Bz (aI us 2) (aI us 0))
def LB:List U->Int:=fun us=>(GG (Bz (aI us 2) (aI us 0)) (aI us 3))
def IY:List U->Prop:=fun us=> -10000<=(aI us 2)/\(aI us 2)<=10000/\ -12<=(aI us 3)/\(aI us 3)<=48/\ -100<=(aI us 0)/\(aI us 0)<=100
def Jb:AZ:={ sh:=[.ptr 0 0,.one (k64)],blks:=[([.str,k64,k64],23)],outs:=[(.s "move.0",Bm Lc),(.s "move.1",Bm LB)],c:= .tup [],m':=[.cells [.s 1,(DK 4),(DK 5)] 23],pre:=[(.s "move.p0",IY)] }
def ef:List En:=[vg 4 2 0,
 ⟨5,.o2 .max,[.e 4,.c (.int (-10000))]⟩,
 ⟨6,.o2 .min,[.e 5,.c (.int 10000)]⟩]
def IZ:List En:=ef
def gP:List En:=[⟨8,.lt,[.c (.int (-12)),.e 7]⟩,
 vh 9 8,
 vh 10 8,
 ⟨11,.w2 .i64 .sub,[.e 7,.c (.int 1)]⟩,
 ⟨12,.outI "trig.0" Lo,[.e 11]⟩,
 ⟨13,.le,[.e 12,.e 6]⟩,
 vK 14 8 13,
 vQ 15 14,
 ⟨16,.w2 .i64 .sub,[.e 7,.c (.int 1)]⟩]
def E0:List En:=gP
def Xn:List ObE:=[⟨some 10,.pre "trig.p0" IU,[.e 11]⟩]
def OF:Ac:=mkD 7 1 E0 14 [.e 16] Xn [6]
def R8:List Rf:=[.e 6,.e 3]
def ZP:List En:=[]
def gy:List En:=[⟨18,.lt,[.e 17,.c (.int 48)]⟩,
 vK 19 15 18,
 vK 20 15 18,
 ⟨21,.w2 .i64 .add,[.e 17,.c (.int 1)]⟩,
 ⟨22,.outI "trig.0" Lo,[.e 21]⟩,
 ⟨23,.le,[.e 6,.e 22]⟩,
 vK 24 18 23,
 vK 25 15 24,
 vM 26 15 24,
 ⟨27,.w2 .i64 .add,[.e 17,.c (.int 1)]⟩]
def HJ:List En:=gy
def Z0:List ObE:=[⟨some 20,.pre "trig.p0" IU,[.e 21]⟩]
def PA:Ac:=mkD 17 1 HJ 25 [.e 27] Z0 [15,6]
def SI:List Rf:=[.e 15,.e 6,.e 7]
def oU:List En:=[]
def sK:List ObE:=[⟨some 15,.owes PA,[.e 15,.e 6,.e 7]⟩,
 ⟨none,.owes OF,[.e 6,.e 3]⟩]
def lZ:List Rf:=[.e 6,.e 17]
theorem rh:Jb.sees lZ (Jb.run Try.prog [(69,NW)] Aa 3000 20 98)=some ((IZ++((Ag OF [.i] R8)++(E0++(ZP++((Ag PA [.i] SI)++(HJ++(oU))))))).map En.be,sK.map ObE.be,[]):=by kernel_rfl
abbrev xu(T:Tab):Prop:=(S T 1).size<=140737488355328
abbrev xw(T:Tab):Prop:=-10000<=I T 2/\I T 2<=10000/\ -12<=I T 3/\I T 3<=48/\ -100<=I T 0/\I T 0<=100
theorem hZ (e:xu T)(b:xw T)(a:AF T IZ):
  (-12<=I T 3/\I T 3<=48):=by
 have d:=a;clear a;have c: -12<=I T 3/\I T 3<=48:=by
  exact⟨b.2.2.1,b.2.2.2.1⟩
 exact c
abbrev wz(T:Tab)(a:Int):Prop:=-12<=a/\a <=48/\C6 (I T 6) a=C6 (I T 6) (I T 3)
theorem mN (x: -12<=I T 3/\I T 3<=48)(p:AJ T (AM (Ak 0 Jb.ks) IZ))(l:AU T (E0.map En.be))(o:AU T ((Ag OF [.i] R8).map En.be)):
  (OF).owes (R8.map (Rf.eval T))/\AJ T (hds 7 [.i])/\(wz T (I T 7))/\¬B T 14=true:=by
 refine Ax (nh:=7) (k:=1) (pcn:=14) (aO:=17) (y:=E0) (J:=Xn) (nxt:=[.e 16]) (H:=[.e 3]) (fv:=[6]) (R:=[.i]) (by kernel_rfl) rfl rfl rfl rfl p (by kernel_rfl) (by kernel_rfl) l (Ai o) (fun s=> wz T (aI s 0)) (fun s=>((aI s 0)+12).toNat) ?_ ?_
 .show wz T (I T 3);clear p l o;exact⟨x.1,x.2,rfl⟩
 .intro A w h g;replace g: wz T (I A 7):=g;clear p l o;replace h:AF A E0:=h;have i:=h;clear h;have F:I A 6=I T 6:=fvI (w 6 (by decide));clear w
  suffices K:(B A 10=true-> -100<=I A 11/\I A 11<=100)/\(B A 14=true->(wz T (I A 16)))/\(B A 14=true->((I A 16)+12).toNat < ((I A 7)+12).toNat) from
   let⟨O,N,M⟩:=K;⟨⟨O,trivial⟩,fun a=>⟨N a,M a⟩⟩
  refine⟨?_,?_,?_⟩
  .obtain⟨-,-,-,b,-⟩:=i;simp only[AE,zR,w2P] at b;obtain⟨z,C,q⟩:=g;intro a;have D:=b (by omega) (by omega);omega
  .obtain⟨e,-,-,b,j,r,c,-,d,-⟩:=i;replace j:I A 12=(GS (I A 11)):=j;simp only[AE,AI,zR,w2P] at e b r c d;obtain⟨z,C,q⟩:=g;intro a;have u:=c.1 a;have v:=e.1 u.1;have t:=r.1 u.2;have D:=b (by omega) (by omega);have E:=d (by omega) (by omega);rw[j,D,F] at t;refine⟨by omega,by omega,?_⟩;rw[E,<-q];exact (lV v t).symm
  .obtain⟨e,-,-,-,-,-,c,-,d,-⟩:=i;simp only[AE,AI,zR,w2P] at e c d;obtain⟨z,C,q⟩:=g;intro a;have v:=e.1 (c.1 a).1;have E:=d (by omega) (by omega);omega
theorem iZ (i:xu T)(k:xw T)(h: -12<=I T 3/\I T 3<=48)(c: wz T (I T 7))(j:¬B T 14=true)(a:AF T IZ)(b:AF T E0):
  (-12<=I T 7/\I T 7<=48):=by
 have e:=a;clear a;have g:=b;clear b;have d: -12<=I T 7/\I T 7<=48:=by
  exact⟨c.1,c.2.1⟩
 exact d
abbrev wA(T:Tab)(a:Int):Prop:=-12<=a/\a <=48/\upG (I T 6) a=upG (I T 6) (I T 7)
theorem nK (z: -12<=I T 7/\I T 7<=48)(q:AJ T (AM (AM (hds 7 [.i]++(AM (Ak 0 Jb.ks) IZ)) E0) ZP))(o:AU T (HJ.map En.be))(p:AU T ((Ag PA [.i] SI).map En.be)):
  (PA).owes (SI.map (Rf.eval T))/\AJ T (hds 17 [.i])/\(wA T (I T 17))/\¬B T 25=true:=by
 refine Ax (nh:=17) (k:=1) (pcn:=25) (aO:=28) (y:=HJ) (J:=Z0) (nxt:=[.e 27]) (H:=[.e 7]) (fv:=[15,6]) (R:=[.i]) (by kernel_rfl) rfl rfl rfl rfl q (by kernel_rfl) (by kernel_rfl) o (Ai p) (fun s=> wA T (aI s 0)) (fun s=>(48 - (aI s 0)).toNat) ?_ ?_
 .show wA T (I T 7);clear q o p;exact⟨z.1,z.2,rfl⟩
 .intro A r i h;replace h: wA T (I A 17):=h;clear q o p;replace i:AF A HJ:=i;have j:=i;clear i;have Q:B A 15=B T 15:=fvB (r 15 (by decide));have K:I A 6=I T 6:=fvI (r 6 (by decide));clear r
  suffices M:(B A 20=true-> -100<=I A 21/\I A 21<=100)/\(B A 25=true->(wA T (I A 27)))/\(B A 25=true->(48 - (I A 27)).toNat < (48 - (I A 17)).toNat) from
   let⟨P,O,N⟩:=M;⟨⟨P,trivial⟩,fun a=>⟨O a,N a⟩⟩
  refine⟨?_,?_,?_⟩
  .obtain⟨-,-,-,c,-⟩:=j;simp only[AE,zR,w2P] at c;obtain⟨C,D,t⟩:=h;intro a;have E:=c (by omega) (by omega);omega
  .obtain⟨b,-,-,c,l,u,d,e,-,g,-⟩:=j;replace l:I A 22=(GS (I A 21)):=l;simp only[AE,AI,zR,w2P] at b c u d e g;obtain⟨C,D,t⟩:=h;intro a;have x:=d.1 (e.1 a).2;have v:=b.1 x.1;have w:=u.1 x.2;have E:=c (by omega) (by omega);have F:=g (by omega) (by omega);rw[l,E,K] at w;refine⟨by omega,by omega,?_⟩;rw[F,<-t];exact (pr v w).symm
  .obtain⟨b,-,-,-,-,-,d,e,-,g,-⟩:=j;simp only[AE,AI,zR,w2P] at b d e g;obtain⟨C,D,t⟩:=h;intro a;have v:=b.1 (d.1 (e.1 a).2).1;have F:=g (by omega) (by omega);omega
theorem rj (a0:xu T)(A:xw T)(ao: -12<=I T 3/\I T 3<=48)(M: wz T (I T 7))(z:¬B T 14=true)(al: -12<=I T 7/\I T 7<=48)(N: wA T (I T 17))(O:¬B T 25=true)(j:AF T IZ)(k:AF T E0)(l:AF T HJ):
  ((I T 6)=(Bz (I T 2) (I T 0)))/\
  ((I T 17)=(GG (Bz (I T 2) (I T 0)) (I T 3))):=by
 have o:=j;clear j;have C:=k;clear k;have D:=l;clear l;refine⟨?_,?_⟩
 .obtain⟨b,c,d,-⟩:=o;simp only[AE,zR,D1,w2P] at b c d;obtain⟨P,Q,V,W,X,Y⟩:=A;have i:=b (by omega) (by omega);have h:(I T 6)=Bz (I T 2) (I T 0):=by
   unfold Bz;rw[d,c,i];omega
  exact h
 .obtain⟨b,c,d,-⟩:=o;obtain⟨y,-,-,p,e,q,r,s,-⟩:=C;obtain⟨t,-,-,u,g,v,w,x,-⟩:=D;replace e:I T 12=(GS (I T 11)):=e;replace g:I T 22=(GS (I T 21)):=g;simp only[AE,AI,zR,D1,w2P] at b c d y p q r s t u v w x;obtain⟨P,Q,V,W,X,Y⟩:=A;have i:=b (by omega) (by omega);have h:(I T 6)=Bz (I T 2) (I T 0):=by
   unfold Bz;rw[d,c,i];omega
  obtain⟨v1,v2,Z⟩:=M;obtain⟨aJ,w2,w3⟩:=N;rw[<-h];unfold GG;have hd:C6 (I T 6) (I T 3)=I T 7:=by
   rw[<-Z];refine il fun a=>?_;have K:=y.2 a.1;have ad:=p (by omega) (by omega);have E:(B T 13)=true:=q.2 (by rw[e,ad];exact a.2);exact z (r.2 ⟨K,E⟩)
  rw[hd,<-w3];refine (qP fun a=>?_).symm;have H:=t.2 a.1;have ag:=u (by omega) (by omega);have J:(B T 23)=true:=v.2 (by rw[g,ag];exact a.2);have F:(B T 15)=true:=s.2 z;exact O (x.2 ⟨F,w.2 ⟨H,J⟩⟩)
theorem qm:Ae Try.prog 98 Jb:=by
 refine Aq (l:=[(69,NW)]) BU (by simp only[uA];exact⟨py,fun _ h=>absurd h (by simp)⟩) rh (by kernel_rfl) fun T us y q k g D a=>?_;change us.length=4 at k;obtain⟨-,j,-⟩:=D;replace j:(S T 1).size<=140737488355328:=j;have r:aI us 0=I T 0:=inI q k (by decide);have s:aI us 2=I T 2:=inI q k (by decide);have w:aI us 3=I T 3:=inI q k (by decide);have u: -10000<=I T 2/\I T 2<=10000/\ -12<=I T 3/\I T 3<=48/\ -100<=I T 0/\I T 0<=100:=by
  have h:=y (.s "move.p0",IY) (by simp[Jb]);change IY us at h;unfold IY at h;simp only[r,s,w] at h;exact h
 clear y;rw[ti,ti,ti,ti,ti,ti] at a;have d:=a.left;replace a:=a.right;have e:=a.left;replace a:=a.right;have b:=a.left;replace a:=a.right;obtain⟨o,c⟩:=AN g (by kernel_rfl) d;have t:=hZ j u o;obtain⟨J,i,z,A⟩:=mN t c b e;have p:=(AN (i.append c) (l:=E0) (by kernel_rfl) b);obtain⟨v,g⟩:=p;clear d b e c i;have d:=a.left;replace a:=a.right;have e:=a.left;replace a:=a.right;have b:=a.left;replace a:=a.right;obtain⟨O,c⟩:=AN g (by kernel_rfl) d;have x:=iZ j u t z A o v;obtain⟨K,i,F,H⟩:=nK x c b e;have p:=(AN (i.append c) (l:=HJ) (by kernel_rfl) b);obtain⟨C,g⟩:=p;clear d b e c i;obtain⟨P,E⟩:=At (R:=[.i,.i]) (rs:=lZ) g (by kernel_rfl) a;obtain⟨M,N⟩:=rj j u t z A x F H o v C;refine⟨⟨(fun _=>K),(fun _=>J),trivial⟩,E.trans ?_⟩;exact (lc (by show U.int (I T 6)= .int (Lc us);unfold Lc;rw[r,s];exact vD U.int M) (lc (by show U.int (I T 17)= .int (LB us);unfold LB;rw[r,s,w];exact vD U.int N) rfl))
end
end Go.Eng
end
