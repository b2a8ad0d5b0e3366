/-
  A part of the proof: the evaluator of code and its soundness.
-/
import Derived.Test.YtikbgnmcfncnaaaE5
import Derived.Test.YtikbgnmcfncnaaaE4
import Derived.WalkKit
import Derived.Lib.Strings
import Derived.Lib.Walk
import Derived.Lib.Bytealg
import Derived.Test.YtikbgnmcfncnaaaKB0
import Derived.Test.YtikbgnmcfncnaaaKB2
import Derived.Test.YtikbgnmcfncnaaaKB6
import Derived.Test.YtikbgnmcfncnaaaKB3
import Derived.Test.YtikbgnmcfncnaaaKB5
import Derived.Test.YtikbgnmcfncnaaaKB4
set_option linter.unusedVariables false
set_option linter.unusedSimpArgs false
noncomputable section
namespace Go.Eng
section
open Go Go.Eng Go.Proofs Go.RowKit Go.Lib
def WX:List U->Int:=fun us=>(aG (aS us 0) (aS us 1))
def Ud:Bf:={ sh:=[.one (.str),.one (.str)],blks:=[],outs:=[(.s "strcmp.0",CW WX)],c:=(.i .i64 (-1) 1 2),m':=[],pre:=[] }
set_option maxHeartbeats 1000000 in
set_option maxRecDepth 100000 in
theorem pN (a b:ByteArray)(w:World):
  Calls Try.prog 141 #[.string a,.string b] w fun e ab=>e= .returned (.int .i64 (Lib.compareBytes a.data.toList b.data.toList))/\ab=w:=by
 go_enter Try.func141,Try.ntmps141
 go_wp2
 rw[run_callFunc_extern Try.func147 (by kernel_rfl) (by kernel_rfl) (by kernel_rfl) (e:=Extern.BytealgCompare.compare) (by kernel_rfl),Lib.run_compareString];simp only[Result.andThen];rw[Oper.upon_value]
 go_wp2
 go_ret
 exact⟨rfl,rfl⟩
set_option maxHeartbeats 1000000 in
theorem cQ (a b:ByteArray)(w:World):
  Calls Try.prog 129 #[.string a,.string b] w fun e ab=>e= .returned (.int .i64 (Lib.compareBytes a.data.toList b.data.toList))/\ab=w:=by
 go_enter Try.func129,Try.ntmps129
 go_wp2_with (go_at_call 141;refine (pN _ _ _).mono ?_;rintro e ab ⟨rfl,rfl⟩)
 go_ret
 exact⟨rfl,rfl⟩
theorem oP:Bl Try.prog 129 Ud:=by
 refine WF rfl rfl ⟨Try.f129,Try.func129,by kernel_rfl,by kernel_rfl⟩ fun T us k c p W w Y o=>?_;obtain⟨v,x,rfl,⟨_,s,ac,rfl,q⟩,t,y,rfl,⟨_,b,l,rfl,r⟩,rfl⟩:=o;have d:us.length=2:=k;refine (cQ s b w).mono fun e ab ⟨O,C⟩=>⟨_,O,by rw[C];exact Below.refl _ _,show 2 < 3 by decide,aG s b,?_,rfl,?_⟩
 .have g:aS us 0=s:=inS (T:=T) (us:=us) (n:=2) (j:=0) (fun j u a=>c j u (by unfold Bf.us;rw[AR (AG.1 a).1];exact a)) d (by decide) |>.trans (by unfold S;rw[show T.get 0= .str s from ac];rfl)
  have h:aS us 1=b:=inS (T:=T) (us:=us) (n:=2) (j:=1) (fun j u a=>c j u (by unfold Bf.us;rw[AR (AG.1 a).1];exact a)) d (by decide) |>.trans (by unfold S;rw[show T.get 1= .str b from l];rfl)
  have i:=c 2 (CW WX us) (by unfold Bf.us;rw[AS (by omega),d];rfl);rw[i];show U.int (aG (aS us 0) (aS us 1))=_;rw[g,h]
 .exact uq s b
end
section
open Go Go.Eng Go.Proofs
set_option maxRecDepth 1000000
def VL:List U->List (List U):=fun us=>(In)
def V3:List U->Int:=fun us=>((0:Int))
def Q9:List U->Prop:=fun us=>(aL us 0)=bZ/\(aL us 1)=bO/\(aI us 2)=0/\(aI us 3)=100
def Ks:Bf:={ sh:=[.one (.list [.str,k64,k64]),.one (.list [k64,k64,k64,.bool,.str,.str,.bool,k64,k64]),.one (k64),.one (k64)],blks:=[],outs:=[(.s "Table3.0",D1 VL),(.s "Table3.1",CW V3)],c:= .tup [.ro 4 [.str,k64,k64,k64,k64,k64],(Cy 5)],m':=[],pre:=[(.s "Table3.p0",Q9)] }
def Kk:=Ks.runC Try.prog Gy [(41,Ea),(47,Hd),(65,FQ),(124,SG),(129,Ud)] oc 3000 20 30
def Q1:ObT:=[ob "in" .inr,ob "inl" .inl,ob "between 3 3" (.btw 3 3),ob "between 0 68719476736" (.btw 0 68719476736),ob "fits 88" (.fits 88),ob "fits 56" (.fits 56),ob "fits 32" (.fits 32),ob "fits 1" (.fits 1),
 ("books.p0",.pre "books.p0" Lu,fun us=>Nat.ble (aL us 0).length 40),("checkLk.p0",.pre "checkLk.p0" LO,fun us=>decide (Bc (aL us 0)=0)),("checkPk.p0",.pre "checkPk.p0" G4,fun us=>decide (BW (aL us 0)=0))]
def Qp:List U:=[.list bZ,.list bO,.int 0,.int 100]
def NG:List U:=(evC Qp (cg Kk)).getD []
theorem qe:Ks.sees [.e 609,.e 608] Kk=some (cg Kk,((bG Q1 Kk).map (·.1)).map ObE.be,[]):=by kernel_rfl
theorem sy:evC Qp (cg Kk)=some NG:=by kernel_rfl
theorem rd:(bG Q1 Kk).all (mj NG)=true:=by kernel_rfl
theorem rL:([.e 609,.e 608]:List Rf).all (rfC NG.length)=true:=by kernel_rfl
theorem qk:([.e 609,.e 608]:List Rf).map (Rf.eval (XQ NG))=Ks.outs.map fun o=>o.2 Qp:=by kernel_rfl
theorem pC:Bl Try.prog 30 Ks:=
 fK (E:=GN Try.prog (XB Try.prog Gy [(41,Ea),(47,Hd),(65,FQ),(124,SG),(129,Ud)]) oc 3000 20)
  (fun T=>Ht CP (Xm FU (by simp only[AW];exact⟨Jk,RF,U8,vq,oP,fun _ h=>absurd h (by simp)⟩)) 20 T) Q1 Qp NG rfl
  (by
   simp only[Q1,AW];exact⟨OQ,OQ,OQ,OQ,OQ,OQ,OQ,OQ,fun _ h=>Aa h,fun us h=>show Bc (aL us 0)=0 from of_decide_eq_true h,fun us h=>show BW (aL us 0)=0 from of_decide_eq_true h,fun _ h=>absurd h (by simp)⟩)
  qe (by kernel_rfl)
  (fun T us r e q l=>by
   have h:=r (.s "Table3.p0",Q9) (Al.2 rfl);have g:T.get 0=uV T .l 0:=Kb l (by kernel_rfl);have i:T.get 1=uV T .l 1:=Kb l (by kernel_rfl);have j:T.get 2=uV T .i 2:=Kb l (by kernel_rfl);have k:T.get 3=uV T .i 3:=Kb l (by kernel_rfl);replace q:us.length=4:=q
   match us,q,e,h with
   |[a,b,c,d],_,e,⟨o,O,C,p⟩=>
    have s:T.get 0=a:=e 0 a rfl;have t:T.get 1=b:=e 1 b rfl;have u:T.get 2=c:=e 2 c rfl;have v:T.get 3=d:=e 3 d rfl;replace g:T.get 0= .list (T.get 0).toL:=g;replace i:T.get 1= .list (T.get 1).toL:=i;replace j:T.get 2= .int (T.get 2).toI:=j;replace k:T.get 3= .int (T.get 3).toI:=k;rw[s] at g;rw[t] at i;rw[u] at j;rw[v] at k;replace o:a.toL=bZ:=o;replace O:b.toL=bO:=O;replace C:c.toI=0:=C;replace p:d.toI=100:=p;rw[o] at g;rw[O] at i;rw[C] at j;rw[p] at k;rw[g,i,j,k];rfl)
  sy rd rL qk
end
section
open Go Go.Eng Go.Proofs
set_option maxHeartbeats 4000000
set_option maxRecDepth 100000
def KO:List U->Bool:=fun us=>(true)
def Ny:Bf:={ sh:=[],blks:=[],outs:=[(.s "works3.0",Jx KO)],c:= .b 0,m':=[],pre:=[] }
def dM:List En:=[⟨0,.row 3 3 [.s,.i,.i,.s,.i,.i,.s,.i,.i],[.c (.str ⟨#[97,110,110]⟩),.c (.int 2000),.c (.int 0),.c (.str ⟨#[98,111,98]⟩),.c (.int 1500),.c (.int 10),.c (.str ⟨#[99,97,116]⟩),.c (.int 1000),.c (.int 20)]⟩,
 ⟨1,.id .i,[.c (.int 1)]⟩,
 ABX 2 0 1,
 ABJ 3 0 1,
 ABK 4 0 1,
 ⟨5,.id .i,[.c (.int 0)]⟩,
 ABX 6 0 5,
 ABJ 7 0 5,
 ABK 8 0 5,
 ⟨9,.outS "Count.0" OK,[.e 2,.e 3,.e 4,.e 6,.e 7,.e 8,.c (.bool true)]⟩,
 ⟨10,.outI "Count.1" yR,[.e 2,.e 3,.e 4,.e 6,.e 7,.e 8,.c (.bool true)]⟩,
 ⟨11,.outI "Count.2" OF,[.e 2,.e 3,.e 4,.e 6,.e 7,.e 8,.c (.bool true)]⟩,
 ⟨12,.outS "Count.3" Oo,[.e 2,.e 3,.e 4,.e 6,.e 7,.e 8,.c (.bool true)]⟩,
 ⟨13,.outI "Count.4" OY,[.e 2,.e 3,.e 4,.e 6,.e 7,.e 8,.c (.bool true)]⟩,
 ⟨14,.outI "Count.5" Oi,[.e 2,.e 3,.e 4,.e 6,.e 7,.e 8,.c (.bool true)]⟩,
 ⟨15,.outI "Count.6" OE,[.e 2,.e 3,.e 4,.e 6,.e 7,.e 8,.c (.bool true)]⟩]
def dJ:List En:=[⟨16,.row 3 9 [.i,.i,.i,.b,.s,.s,.b,.i,.i,.i,.i,.i,.b,.s,.s,.b,.i,.i,.i,.i,.i,.b,.s,.s,.b,.i,.i],[.c (.int 1),.c (.int 0),.c (.int 5),.c (.bool false),.c (.str ⟨#[97,110,110]⟩),.c (.str ⟨#[98,111,98]⟩),.c (.bool true),.c (.int 26),.c (.int 20),.c (.int 2),.c (.int 0),.c (.int 6),.c (.bool false),.c (.str ⟨#[98,111,98]⟩),.c (.str ⟨#[99,97,116]⟩),.c (.bool true),.c (.int 26),.c (.int 3),.c (.int 3),.c (.int 0),.c (.int 7),.c (.bool false),.c (.str ⟨#[99,97,116]⟩),.c (.str ⟨#[97,110,110]⟩),.c (.bool true),.c (.int 26),.c (.int 25)]⟩,
 ⟨17,.outL "Table3.0" VL,[.e 0,.e 16,.c (.int 0),.c (.int 100)]⟩,
 ⟨18,.outI "Table3.1" V3,[.e 0,.e 16,.c (.int 0),.c (.int 100)]⟩,
 ABW 19 15 18,
 ⟨20,.eq,[.e 19,.c (.int 0)]⟩,
 ABU 21 20,
 ⟨22,.eqs [.s,.i,.i],[.e 9,.c (.str ⟨#[98,111,98]⟩),.e 10,.c (.int 1514),.e 11,.c (.int 10)]⟩,
 ABE 23 20 22,
 ABU 24 23,
 ⟨25,.eqs [.s,.i,.i],[.e 12,.c (.str ⟨#[97,110,110]⟩),.e 13,.c (.int 1986),.e 14,.c (.int 0)]⟩,
 ABE 26 23 25,
 ABU 27 26,
 ABL 28 17,
 ⟨29,.eq,[.e 28,.c (.int 3)]⟩,
 ABE 30 26 29,
 ABU 31 30]
def dy:List En:=[⟨32,.id .i,[.c (.int 0)]⟩,
 ABX 33 17 32,
 ABJ 34 17 32,
 ABK 35 17 32,
 ⟨36,.get .i 3,[.e 17,.e 32]⟩,
 ⟨37,.get .i 4,[.e 17,.e 32]⟩,
 ⟨38,.get .i 5,[.e 17,.e 32]⟩,
 ⟨39,.eqs [.s,.i,.i,.i,.i,.i],[.e 33,.c (.str ⟨#[98,111,98]⟩),.e 34,.c (.int 1),.e 35,.c (.int 1),.e 36,.c (.int 1),.e 37,.c (.int 17),.e 38,.c (.int 1)]⟩,
 ABE 40 30 39]
def VZ:List En:=dM++(dJ++(dy))
def sN:List ObE:=[⟨some 31,.inl,[.c (.int 0),.e 17]⟩,
 ⟨none,.pre "Table3.p0" Q9,[.e 0,.e 16,.c (.int 0),.c (.int 100)]⟩,
 ⟨none,.inl,[.c (.int 0),.e 0]⟩,
 ⟨none,.inl,[.c (.int 1),.e 0]⟩]
def df:List Rf:=[.e 40]
theorem tF:Ny.sees df (Ny.run Try.prog [(16,Pp),(30,Ks)] Bp 3000 20 15)=some ((VZ).map En.be,sN.map ObE.be,[]):=by kernel_rfl
variable{T:Tab}
theorem sv (c:BV T VZ):
  ((B T 40)=(true))/\
  (B T 31=true->0<=(0:Int)/\(0:Int) < ((L T 17)).length)/\
  ((L T 0)=bZ/\L T 16=bO/\(0:Int)=0/\(100:Int)=100)/\
  (0<=(0:Int)/\(0:Int) < ((L T 0)).length)/\
  (0<=(1:Int)/\(1:Int) < ((L T 0)).length):=by
 obtain⟨s,c⟩:=c.cut;obtain⟨t,c⟩:=c.cut;have F2:=c;clear c;have aw:((S T 2)=UK/\I T 3=1500/\I T 4=10)/\S T 6=Xk/\I T 7=2000/\I T 8=0:=by
  obtain⟨a,l,E,P,X,p,Z,e7,e8,-⟩:=s;simp only[BS,BZ,zR,zL,zS,uR,Cp,zW] at a l E P X p Z e7 e8;refine⟨⟨?_,?_,?_⟩,?_,?_,?_⟩
  .rw[E,l,a];rfl
  .rw[P,l,a];rfl
  .rw[X,l,a];rfl
  .rw[Z,p,a];rfl
  .rw[e7,p,a];rfl
  .rw[e8,p,a];rfl
 have r:(L T 0)=bZ/\L T 16=bO:=by
  obtain⟨a,-⟩:=s;obtain⟨C,-⟩:=t;simp only[BS,zC,zR,zL,zS,uR,Cp,zW] at a C;exact⟨by rw[a];rfl,by rw[C];rfl⟩
 refine⟨?_,?_,?_,?_,?_⟩
 .obtain⟨-,-,-,-,-,-,-,-,-,k,e,g,h,i,j,o,-⟩:=s;obtain⟨-,b,u,D,F,-,H,J,-,K,M,-,N,O,Q,-⟩:=t;obtain⟨V,v,w,x,y,z,A,W,Y,-⟩:=F2;replace k:S T 9=(if Cq (S T 2) (I T 3) (I T 4) (S T 6) (I T 7) (I T 8)=0 then (S T 2) else (⟨#[]⟩:ByteArray)):=k;replace e:I T 10=(if Cq (S T 2) (I T 3) (I T 4) (S T 6) (I T 7) (I T 8)=0 then B9 (I T 3) (CJ (I T 3) (I T 7) true) else 0):=e;replace g:I T 11=(if Cq (S T 2) (I T 3) (I T 4) (S T 6) (I T 7) (I T 8)=0 then Cz (B9 (I T 3) (CJ (I T 3) (I T 7) true)) (I T 4) else 0):=g;replace h:S T 12=(if Cq (S T 2) (I T 3) (I T 4) (S T 6) (I T 7) (I T 8)=0 then (S T 6) else (⟨#[]⟩:ByteArray)):=h;replace i:I T 13=(if Cq (S T 2) (I T 3) (I T 4) (S T 6) (I T 7) (I T 8)=0 then B9 (I T 7) (-(CJ (I T 3) (I T 7) true)) else 0):=i;replace j:I T 14=(if Cq (S T 2) (I T 3) (I T 4) (S T 6) (I T 7) (I T 8)=0 then Cz (B9 (I T 7) (-(CJ (I T 3) (I T 7) true))) (I T 8) else 0):=j;replace o:I T 15=(Cq (S T 2) (I T 3) (I T 4) (S T 6) (I T 7) (I T 8)):=o;replace b:L T 17=(In):=b;replace u:I T 18=((0:Int)):=u;simp only[BS,BZ,zR,Dw,and_true,w2P,zL,zS] at D F H J K M N O Q V v w x y z A W Y;obtain⟨⟨q2,q3,q4⟩,q6,q7,q8⟩:=aw;obtain⟨d,q⟩:=r;rw[q2,q3,q4,q6,q7,q8] at k e g h i j o;rw[BH gb] at k e g h i j;have ag:(L T 17)=In:=b;have bl:(I T 18)=0:=u;have bi:(I T 15)=0:=o.trans gb;have bc:=o2' D (by omega);have an:=F.2 (by omega);have ao:=H.2 ⟨k,e.trans ex_i,g.trans ex_g⟩;have ax:=K.2 ⟨h,i.trans ex_j,j.trans ex_h⟩;have a0:(I T 28)=3:=by rw[N,ag,nF];rfl
  have a1:=Q.2 ⟨M.2 ⟨J.2 ⟨an,ao⟩,ax⟩,O.2 a0⟩;rw[ag,V] at v w x y z A;obtain⟨r0,ay,aG,r3,r4,r5⟩:=wR;exact Y.2 ⟨a1,W.2 ⟨v.trans r0,w.trans ay,x.trans aG,y.trans r3,z.trans r4,A.trans r5⟩⟩
 .obtain⟨-,b,-⟩:=t;replace b:L T 17=(In):=b;intro _;rw[show (L T 17)=In from b,nF];decide
 .obtain⟨d,q⟩:=r;exact⟨d,q,rfl,rfl⟩
 .obtain⟨d,q⟩:=r;rw[d];decide
 .obtain⟨d,q⟩:=r;rw[d];decide
theorem pA:Bl Try.prog 15 Ny:=by
 refine B7 (l:=[(16,Pp),(30,Ks)]) CP (by simp only[AW];exact⟨tD,pC,fun _ h=>absurd h (by simp)⟩) tF (by kernel_rfl) fun T us g p i e b c=>?_;change us.length=0 at i;clear b;clear g
 skip
 obtain⟨a,d⟩:=B8 (A:=[.b]) (ag:=df) e (by kernel_rfl) c;obtain⟨j,k,ay,aG,o⟩:=sv a;refine⟨⟨k,(fun _=>ay),(fun _=>aG),(fun _=>o),trivial⟩,d.trans ?_⟩;exact (lc (by show U.bool (B T 40)= .bool (KO us);unfold KO;exact BI U.bool j) rfl)
def J9:List Kd:=[.list [.str,k64,k64],.list [k64,k64,k64,.bool,.str,.str,.bool,k64,k64],.str]
def Ts:List AC:=((MC Try.prog 9 Try.f9.params.toList 0).map (·.1)).getD []
def Xy:List En:=[⟨3,.outB "long.0" Q8,[.e 0,.e 1,.c (.int 40)]⟩,
 ABI 4 3,
 ⟨5,.slen,[.e 2]⟩,
 ⟨6,.lt,[.c (.int 100),.e 5]⟩,
 ABG 7 3 6,
 ⟨8,.outB "works3.0" KO,[]⟩,
 ABI 9 7,
 ⟨10,.outL "Settle.0" Dt,[.e 0,.e 1]⟩,
 ⟨11,.outI "Settle.1" Dz,[.e 0,.e 1]⟩,
 ⟨12,.outL "rSetl.0" OH,[.e 0,.e 1]⟩,
 ⟨13,.outI "rSetl.1" Oh,[.e 0,.e 1]⟩,
 ⟨14,.outL "History.0" Dg,[.e 0,.e 1,.e 2]⟩,
 ⟨15,.outI "History.1" Dh,[.e 0,.e 1,.e 2]⟩,
 ⟨16,.outL "rHistory.0" J1,[.e 0,.e 1,.e 2]⟩,
 ⟨17,.outI "rHistory.1" J5,[.e 0,.e 1,.e 2]⟩,
 ⟨18,.outI "checkP.0" MS,[.e 0]⟩]
def Xs:List En:=[⟨19,.outI "rCheckP.0" G2,[.e 0]⟩,
 ⟨20,.ne,[.e 18,.e 19]⟩,
 ABF 21 9 20,
 ⟨22,.ne,[.e 11,.e 13]⟩,
 ABG 23 20 22,
 ABF 24 9 23,
 ⟨25,.ne,[.e 15,.e 17]⟩,
 ABG 26 23 25,
 ABF 27 9 26,
 ⟨28,.outB "samePl.0" Mf,[.e 10,.e 12]⟩,
 ⟨29,.or,[.e 26,.n 28]⟩,
 ABF 30 9 29,
 ABL 31 14,
 ABL 32 16,
 ⟨33,.ne,[.e 31,.e 32]⟩,
 ABG 34 29 33]
def Xb:List En:=[ABE 35 9 34,
 ABF 36 9 34]
def HQ:List En:=Xy++(Xs++(Xb))
def Xr:List En:=[ABL 38 14,
 ABH 39 37 38,
 ABE 40 36 39,
 ABF 41 36 39,
 ABM 42 14 37,
 ABM 43 16 37,
 ⟨44,.ne,[.e 42,.e 43]⟩,
 ABE 45 40 44,
 ABF 46 40 44,
 ⟨47,.w2 .i64 .add,[.e 37,.c (.int 1)]⟩]
def Ec:List En:=Xr
def St:List ObE:=[⟨some 40,.inl,[.e 37,.e 16]⟩,⟨some 40,.inl,[.e 37,.e 14]⟩]
def HV:Bs:=mkD 37 1 Ec 46 [.e 47] St [16,14,36]
def Jy:List Rf:=[.e 16,.e 14,.e 36,.c (.int 0)]
def Xt:List En:=[⟨48,.outB "works3.0" KO,[]⟩,
 ⟨49,.ite .b,[.e 45,.c (.bool false),.e 48]⟩,
 ABG 50 45 41,
 ⟨51,.ite .b,[.e 35,.c (.bool false),.e 49]⟩,
 ABG 52 35 50,
 ⟨53,.ite .b,[.e 7,.e 8,.e 51]⟩,
 ABG 54 7 52]
def NP:List En:=Xt
def VQ:List ObE:=[⟨some 36,.owes HV,[.e 16,.e 14,.e 36,.c (.int 0)]⟩,
 ⟨some 9,.pre "rHistory.p0" HN,[.e 0,.e 1,.e 2]⟩,
 ⟨some 9,.pre "History.p0" Th,[.e 0,.e 1,.e 2]⟩,
 ⟨some 9,.pre "rSetl.p0" Lh,[.e 0,.e 1]⟩,
 ⟨some 9,.pre "Settle.p0" Vg,[.e 0,.e 1]⟩]
def mX:List Rf:=[.e 53]
theorem mT:ko 3 (pQ Try.prog [(19,No),(24,P6),(38,M7),(39,Oc),(40,IA),(41,Iz),(20,D9),(26,K7),(15,Ny)] Bp 3000 20 9 Ts 3)=some (53,(HQ++((B5 HV [.i] Jy)++(Ec++(NP)))).map En.be,VQ.map ObE.be):=by kernel_rfl
theorem Zd (l:(L T 0).length<=140737488355328)(o:(L T 1).length<=140737488355328)(p:(S T 2).size<=140737488355328)(k:(L T 0).length<=1048576)(e:(L T 1).length<=1048576)(b:BV T HQ):
  ((L T 14)=L T 16)/\(((L T 14)).length<=1048577):=by
 obtain⟨d,b⟩:=b.cut;obtain⟨i,b⟩:=b.cut;have j:=b;clear b;have h:(L T 14)=L T 16:=by
  obtain⟨-,-,-,-,-,-,-,-,-,-,-,a,-,c,-⟩:=d;replace a:L T 14=(if (if¬BW (L T 0)=0 then BW (L T 0) else Bc (L T 1))=0/\¬Bm (L T 0) (S T 2) < 0 then (hsS (L T 0) (L T 1) (Bm (L T 0) (S T 2))).2 else []):=a;replace c:L T 16=(if (if¬BW (L T 0)=0 then BW (L T 0) else Bc (L T 1))=0/\¬Bm (L T 0) (S T 2) < 0 then (hsS (L T 0) (L T 1) (Bm (L T 0) (S T 2))).2 else []):=c;rw[a,c]
 have g:((L T 14)).length<=1048577:=by
  obtain⟨-,-,-,-,-,-,-,-,-,-,-,a,-⟩:=d;replace a:L T 14=(if (if¬BW (L T 0)=0 then BW (L T 0) else Bc (L T 1))=0/\¬Bm (L T 0) (S T 2) < 0 then (hsS (L T 0) (L T 1) (Bm (L T 0) (S T 2))).2 else []):=a;rw[a];have _:=e;exact wH (AV sC (by omega))
 exact⟨h,g⟩
theorem eO (y:(L T 14)=L T 16)(N:((L T 14)).length<=1048577)(u:Ba T (Bh (CA 0 J9) HQ))(r:Bi T (Ec.map En.be))(t:Bi T ((B5 HV [.i] Jy).map En.be)):
  (HV).owes (Jy.map (Rf.eval T))/\Ba T (hds 37 [.i])/\(0<=I T 37/\I T 37<=((L T 14)).length)/\¬B T 46=true:=by
 refine CK (nh:=37) (k:=1) (pcn:=46) (R:=48) (b:=Ec) (K:=St) (nxt:=[.e 47]) (H:=[.c (.int 0)]) (fv:=[16,14,36]) (A:=[.i]) (by kernel_rfl) rfl rfl rfl rfl u (by kernel_rfl) (by kernel_rfl) r (B6 t) (fun s=>0<=(aI s 0)/\(aI s 0)<=((L T 14)).length) (fun s=>(((L T 14)).length - (aI s 0)).toNat) ?_ ?_
 .show 0<=(0:Int)/\(0:Int)<=((L T 14)).length;clear u r t;exact⟨Aw _,by omega⟩
 .intro J q p h;replace h:0<=I J 37/\I J 37<=((L T 14)).length:=h;clear u r t;replace p:BV J Ec:=p;have o:=p;clear p;have x:=fvL (q 16 (by decide));have l:=fvL (q 14 (by decide));have M:=fvB (q 36 (by decide));clear q
  suffices z:(B J 40=true->0<=I J 37/\I J 37 < ((L J 16)).length)/\(B J 40=true->0<=I J 37/\I J 37 < ((L J 14)).length)/\(B J 46=true->(0<=I J 47/\I J 47<=((L T 14)).length))/\(B J 46=true->(((L T 14)).length - (I J 47)).toNat < (((L T 14)).length - (I J 37)).toNat) from
   let⟨E,ay,D,C⟩:=z;⟨⟨E,ay,trivial⟩,fun e=>⟨D e,C e⟩⟩
  refine⟨?_,?_,?_,?_⟩
  .obtain⟨a,c,d,-⟩:=o;simp only[BS,BZ,zR,zL] at a c d;obtain⟨v,w⟩:=h;intro e;have g:=c.1 (d.1 e).2;rw[a,l] at g;rw[x,<-y];omega
  .obtain⟨a,c,d,-⟩:=o;simp only[BS,BZ,zR,zL] at a c d;obtain⟨v,w⟩:=h;intro e;have g:=c.1 (d.1 e).2;rw[a,l] at g;rw[l];omega
  .obtain⟨a,c,d,-,-,-,-,-,i,j,-⟩:=o;simp only[BS,BZ,zN,zR,w2P,zL] at a c d i j;obtain⟨v,w⟩:=h;intro e;have g:=c.1 (d.1 (i.1 e).1).2;rw[a,l] at g;have F:=o2' j (by omega);omega
  .obtain⟨a,c,d,-,-,-,-,-,i,j,-⟩:=o;simp only[BS,BZ,zN,zR,w2P,zL] at a c d i j;obtain⟨v,w⟩:=h;intro e;have g:=c.1 (d.1 (i.1 e).1).2;rw[a,l] at g;have F:=o2' j (by omega);omega
theorem jL (a6:(L T 0).length<=140737488355328)(a7:(L T 1).length<=140737488355328)(a8:(S T 2).size<=140737488355328)(a3:(L T 0).length<=1048576)(a4:(L T 1).length<=1048576)(Z:(L T 14)=L T 16)(hc:((L T 14)).length<=1048577)(a9:0<=I T 37/\I T 37<=((L T 14)).length)(ba:¬B T 46=true)(i:BV T HQ)(y:BV T Ec)(x:BV T NP):
  ((B T 53)=(true))/\
  (B T 9=true->((L T 1)).length<=40\/200 < ((L T 1)).length)/\
  (B T 9=true->((L T 1)).length<=40\/200 < ((L T 1)).length)/\
  (B T 9=true->((L T 1)).length<=40\/200 < ((L T 1)).length)/\
  (B T 9=true->((L T 1)).length<=40\/200 < ((L T 1)).length):=by
 obtain⟨j,i⟩:=i.cut;obtain⟨F1,i⟩:=i.cut;have F2:=i;clear i;have F3:=y;clear y;have F4:=x;clear x;refine⟨?_,?_,?_,?_,?_⟩
 .obtain⟨-,-,-,-,-,w,-,k,l,o,p,-,q,-,r,s,-⟩:=j;obtain⟨t,z,-,A,C,-,D,E,-,u,F,-,H,J,K,M,-⟩:=F1;obtain⟨N,-⟩:=F2;obtain⟨-,-,-,-,O,P,Q,V,-⟩:=F3;obtain⟨v,W,-,X,-,Y,-⟩:=F4;replace w:B T 8=(true):=w;replace k:L T 10=(if (if¬BW (L T 0)=0 then BW (L T 0) else Bc (L T 1))=0 then FP (L T 0) (L T 1) else []):=k;replace l:I T 11=((if¬BW (L T 0)=0 then BW (L T 0) else Bc (L T 1))):=l;replace o:L T 12=(if (if¬BW (L T 0)=0 then BW (L T 0) else Bc (L T 1))=0 then FP (L T 0) (L T 1) else []):=o;replace p:I T 13=((if¬BW (L T 0)=0 then BW (L T 0) else Bc (L T 1))):=p;replace q:I T 15=(if (if¬BW (L T 0)=0 then BW (L T 0) else Bc (L T 1))=0 then (if Bm (L T 0) (S T 2) < 0 then 5 else 0) else (if¬BW (L T 0)=0 then BW (L T 0) else Bc (L T 1))):=q;replace r:I T 17=(if (if¬BW (L T 0)=0 then BW (L T 0) else Bc (L T 1))=0 then (if Bm (L T 0) (S T 2) < 0 then 5 else 0) else (if¬BW (L T 0)=0 then BW (L T 0) else Bc (L T 1))):=r;replace s:I T 18=(BW (L T 0)):=s;replace t:I T 19=(BW (L T 0)):=t;replace u:B T 28=(Lz (L T 10) (L T 12)):=u;replace v:B T 48=(true):=v;simp only[BS,BZ,zN,zC,zR,zL,zS] at z A C D E F H J K M N O P Q V W X Y;have x8:=w;have bb:=v;have an:¬B T 34=true:=fun h=>by
   rcases M.1 h with h|h
   .rcases F.1 h with h|h
    .rcases E.1 h with h|h
     .rcases C.1 h with h|h
      .exact (z.1 h) (by rw[s,t])
      .exact (A.1 h) (by rw[l,p])
     .exact (D.1 h) (by rw[q,r])
    .have:(B T 28)=true:=by rw[u,k,o];exact gH
     rw[this] at h;exact absurd h (by simp)
   .exact (K.1 h) (by rw[H,J,Z])
  have aw:¬B T 45=true:=fun h=>(Q.1 (V.1 h).2) (by rw[O,P,Z]);have ao:¬B T 35=true:=fun h=>an (N.1 h).2;have a0:(B T 45)=false:=by simpa using aw
  have ax:(B T 35)=false:=by simpa using ao
  have a1:(B T 49)=true:=by have:=W;simp_all
  have a2:(B T 51)=true:=by have:=X;simp_all
  have:=Y
  simp_all
 .obtain⟨b,-,-,-,c,-,d,-⟩:=j;replace b:B T 3=(HL (L T 0) (L T 1) (40:Int)):=b;simp only[BS,BZ,zR] at c d;intro h;have g:¬HL (L T 0) (L T 1) 40=true:=fun a=>by
   have e:(B T 7)=true:=c.2 (.inl (by rw[b];exact a));have:=d.1 h;rw[e] at this;exact absurd this (by simp)
  exact Qj g
 .obtain⟨b,-,-,-,c,-,d,-⟩:=j;replace b:B T 3=(HL (L T 0) (L T 1) (40:Int)):=b;simp only[BS,BZ,zR] at c d;intro h;have g:¬HL (L T 0) (L T 1) 40=true:=fun a=>by
   have e:(B T 7)=true:=c.2 (.inl (by rw[b];exact a));have:=d.1 h;rw[e] at this;exact absurd this (by simp)
  exact Qj g
 .obtain⟨b,-,-,-,c,-,d,-⟩:=j;replace b:B T 3=(HL (L T 0) (L T 1) (40:Int)):=b;simp only[BS,BZ,zR] at c d;intro h;have g:¬HL (L T 0) (L T 1) 40=true:=fun a=>by
   have e:(B T 7)=true:=c.2 (.inl (by rw[b];exact a));have:=d.1 h;rw[e] at this;exact absurd this (by simp)
  exact Qj g
 .obtain⟨b,-,-,-,c,-,d,-⟩:=j;replace b:B T 3=(HL (L T 0) (L T 1) (40:Int)):=b;simp only[BS,BZ,zR] at c d;intro h;have g:¬HL (L T 0) (L T 1) 40=true:=fun a=>by
   have e:(B T 7)=true:=c.2 (.inl (by rw[b];exact a));have:=d.1 h;rw[e] at this;exact absurd this (by simp)
  exact Qj g
theorem ZN:MC Try.prog 9 Try.f9.params.toList 0=some (Ts,J9):=by kernel_rfl
theorem eW:∀p∈([(19,No),(24,P6),(38,M7),(39,Oc),(40,IA),(41,Iz),(20,D9),(26,K7),(15,Ny)]:List (FuncId × Bf)),Bl Try.prog p.1 p.2:=by simp only[AW];exact⟨ue,nl,qp,jt,fR,SM,V9,oX,pA,fun _ h=>absurd h (by simp)⟩
theorem gF:∀T:Tab,Ba T (CA 0 J9)->Bnd T 0 J9->cd 1048576 T 0 J9->Bi T ((HQ++((B5 HV [.i] Jy)++(Ec++(NP)))).map En.be)->J6 T VQ/\B T 53=true:=by
 intro T i v w a;obtain⟨⟨d,J⟩,⟨e,K⟩,g,-⟩:=v;replace d:(L T 0).length<=140737488355328:=d;replace e:(L T 1).length<=140737488355328:=e;replace g:(S T 2).size<=140737488355328:=g;obtain⟨b,c,-⟩:=w;replace b:(L T 0).length<=1048576:=b;replace c:(L T 1).length<=1048576:=c;rw[AL,AL,AL] at a;obtain⟨o,a⟩:=cutB a;obtain⟨p,a⟩:=cutB a;obtain⟨h,a⟩:=cutB a;obtain⟨k,j⟩:=Be i (by kernel_rfl) o;obtain⟨s,r⟩:=Zd d e g b c k;obtain⟨C,q,y,z⟩:=eO s r j h p;have x:=(Be (q.append j) (l:=Ec) (by kernel_rfl) h);obtain⟨u,i⟩:=x;clear o h p j q;obtain⟨t,H⟩:=B8 (A:=[.b]) (ag:=mX) i (by kernel_rfl) a;obtain⟨D,E,ay,aG,F⟩:=jL d e g b c s r y z k u t;exact⟨⟨(fun _=>C),E,ay,aG,F,trivial⟩,D⟩
end
end Go.Eng
end
