/-
  A part of the proof: the evaluator of code and its soundness.
-/
import Derived.Test.YtikbgnmcfncnaaaKB5
import Derived.Test.YtikbgnmcfncnaaaE4
import Derived.Test.YtikbgnmcfncnaaaE5
import Derived.Test.YtikbgnmcfncnaaaKB3
import Derived.Test.YtikbgnmcfncnaaaKB0
import Derived.Test.YtikbgnmcfncnaaaKB1
import Derived.Test.YtikbgnmcfncnaaaKB2
set_option linter.unusedVariables false
set_option linter.unusedSimpArgs false
noncomputable section
namespace Go.Eng
section
open Go Go.Eng Go.Proofs
set_option maxHeartbeats 4000000
set_option maxRecDepth 100000
theorem AAI:LZ.sees pN (LZ.run Try.prog [(69,LG)] Ab 3000 20 98)=some ((J3++((Ad Pb [.i] Uf)++(FU++(dp++((Ad P6 [.i] Ur)++(IM++(vx))))))).map En.be,zM.map ObE.be,[]):=by kernel_rfl
theorem yj:AW Try.prog 98 LZ:=by
 refine An (l:=[(69,LG)]) A8 (by simp only[ABT];exact⟨jG,fun _ h=>absurd h (by simp)⟩) AAI (by kernel_rfl) fun T us bo hT Y M ca c=>?_;change us.length=4 at Y;obtain⟨-,bs,-⟩:=ca;replace bs:(S T 1).size<=140737488355328:=bs;have a1:=inI (j:=0) hT Y (by decide);have a2:=inI (j:=2) hT Y (by decide);have bk:=inI (j:=3) hT Y (by decide);have a8: -10000<=I T 2/\I T 2<=10000/\ -12<=I T 3/\I T 3<=48/\ -100<=I T 0/\I T 0<=100:=by
  have h:=bo (.s "move.p0",KD) (by simp[LZ]);change KD us at h;unfold KD at h;simp only[a1,a2,bk] at h;exact h
 clear bo;rw[ABI,ABI,ABI,ABI,ABI,ABI] at c;obtain⟨E,c⟩:=cutB c;obtain⟨F,c⟩:=cutB c;obtain⟨i,c⟩:=cutB c;obtain⟨A0,o⟩:=AN M (by kernel_rfl) E;have z:=A0;have bm: -12<=I T 3/\I T 3<=48:=by
  exact⟨a8.2.2.1,a8.2.2.2.1⟩
 refine ACw (Ap (nh:=7) (k:=1) (pcn:=14) (an:=17) (H:=FU) (K:=ec) (nxt:=[.e 16]) (A:=[.e 3]) (fv:=[6]) (R:=[.i]) (by kernel_rfl) rfl rfl rfl rfl o (by kernel_rfl) (by kernel_rfl) i (Ae F) (fun s=>ACm T (aI s 0)) (fun s=>((aI s 0)+12).toNat)) ?_ ?_ fun⟨ce,N,O,bt⟩=>?_
 .show ACm T (I T 3);exact⟨bm.1,bm.2,rfl⟩
 .intro J y d p;replace p:ACm T (I J 7):=p;replace d:AE J FU:=d;have z:=d;clear d;have aw:=fvI (y 6 (by decide));clear y;obtain⟨x,-,-,q,e,C,r,-,ad,-⟩:=id z;replace e:I J 12=(EI (I J 11)):=e;simp only[AD,AG,zR,w2P] at x q C r ad;obtain⟨v1,v2,P⟩:=p
  suffices hz:(B J 10=true-> -100<=I J 11/\I J 11<=100)/\(B J 14=true->(ACm T (I J 16)))/\(B J 14=true->(I J 16+12).toNat < (I J 7+12).toNat) from
   let⟨r0,nx,mz⟩:=hz;⟨⟨r0,trivial⟩,fun b=>⟨nx b,mz b⟩⟩
  refine⟨?_,?_,?_⟩
  .intro b;have Z:=o2' q (by omega);omega
  .intro b;have bc:=r.1 b;have X:=x.1 bc.1;have Q:=C.1 bc.2;have Z:=o2' q (by omega);have b1:=o2' ad (by omega);rw[e,Z,aw] at Q;refine⟨by omega,by omega,?_⟩;rw[b1,<-P];exact (ZJ X Q).symm
  .intro b;have X:=x.1 (r.1 b).1;have b1:=o2' ad (by omega);omega
 replace O: -12<=I T 7/\I T 7<=48/\CA (I T 6) (I T 7)=CA (I T 6) (I T 3):=O;have ax:=(AN (N.append o) (l:=FU) (by kernel_rfl) i);obtain⟨B0,M⟩:=ax;clear E i F o N;obtain⟨E,c⟩:=cutB c;obtain⟨F,c⟩:=cutB c;obtain⟨i,c⟩:=cutB c;obtain⟨A1,o⟩:=AN M (by kernel_rfl) E;have F1:=B0;have bl: -12<=I T 7/\I T 7<=48:=by
  exact⟨O.1,O.2.1⟩
 refine ACw (Ap (nh:=17) (k:=1) (pcn:=25) (an:=28) (H:=IM) (K:=cn) (nxt:=[.e 27]) (A:=[.e 7]) (fv:=[15,6]) (R:=[.i]) (by kernel_rfl) rfl rfl rfl rfl o (by kernel_rfl) (by kernel_rfl) i (Ae F) (fun s=>ACt T (aI s 0)) (fun s=>(48 - (aI s 0)).toNat)) ?_ ?_ fun⟨cf,N,a5,cc⟩=>?_
 .show ACt T (I T 7);exact⟨bl.1,bl.2,rfl⟩
 .intro J y d p;replace p:ACt T (I J 17):=p;replace d:AE J IM:=d;have z:=d;clear d;have cu:=fvB (y 15 (by decide));have aw:=fvI (y 6 (by decide));clear y;obtain⟨t,-,-,u,g,D,v,w,-,ag,-⟩:=id z;replace g:I J 22=(EI (I J 21)):=g;simp only[AD,AG,zR,w2P] at t u D v w ag;obtain⟨v1,v2,P⟩:=p
  suffices hz:(B J 20=true-> -100<=I J 21/\I J 21<=100)/\(B J 25=true->(ACt T (I J 27)))/\(B J 25=true->(48 - (I J 27)).toNat < (48 - (I J 17)).toNat) from
   let⟨r0,nx,mz⟩:=hz;⟨⟨r0,trivial⟩,fun b=>⟨nx b,mz b⟩⟩
  refine⟨?_,?_,?_⟩
  .intro b;have ab:=o2' u (by omega);omega
  .intro b;have bi:=v.1 (w.1 b).2;have V:=t.1 bi.1;have W:=D.1 bi.2;have ab:=o2' u (by omega);have b2:=o2' ag (by omega);rw[g,ab,aw] at W;refine⟨by omega,by omega,?_⟩;rw[b2,<-P];exact (jW V W).symm
  .intro b;have V:=t.1 (v.1 (w.1 b).2).1;have b2:=o2' ag (by omega);omega
 replace a5: -12<=I T 17/\I T 17<=48/\upG (I T 6) (I T 17)=upG (I T 6) (I T 7):=a5;have ax:=(AN (N.append o) (l:=IM) (by kernel_rfl) i);obtain⟨B1,M⟩:=ax;clear E i F o N;obtain⟨A2,hO⟩:=Ao (R:=[.i,.i]) (ai:=pN) M (by kernel_rfl) c;have F2:=B1;obtain⟨e4,e5,e6,-⟩:=id z;obtain⟨x,-,-,q,e,C,r,ba,-⟩:=id F1;obtain⟨t,-,-,u,g,D,v,w,-⟩:=id F2;replace e:I T 12=(EI (I T 11)):=e;replace g:I T 22=(EI (I T 21)):=g;simp only[AD,AG,zR,BY,w2P] at e4 e5 e6 x q C r ba t u D v w;obtain⟨p1,p2,p3,p4,p5,p6⟩:=a8;have x4:=o2' e4 (by omega);have q0:I T 6=(Bd (I T 2) (I T 0)):=by
  have hx:I T 6=Bd (I T 2) (I T 0):=by
   unfold Bd;rw[e6,e5,x4];omega
  exact hx
 have q1:I T 17=(EX (Bd (I T 2) (I T 0)) (I T 3)):=by
  have hx:I T 6=Bd (I T 2) (I T 0):=by
   unfold Bd;rw[e6,e5,x4];omega
  obtain⟨v1,v2,P⟩:=O;obtain⟨aG,w2,w3⟩:=a5;rw[<-hx];unfold EX;have hd:CA (I T 6) (I T 3)=I T 7:=by
   rw[<-P];refine Xx fun a=>?_;have X:=x.2 a.1;have Z:=o2' q (by omega);have Q:B T 13=true:=C.2 (by rw[e,Z];exact a.2);exact bt (r.2 ⟨X,Q⟩)
  rw[hd,<-w3];refine (jk fun a=>?_).symm;have V:=t.2 a.1;have ab:=o2' u (by omega);have W:B T 23=true:=D.2 (by rw[g,ab];exact a.2);have b9:B T 15=true:=ba.2 bt;exact cc (w.2 ⟨b9,v.2 ⟨V,W⟩⟩)
 refine⟨⟨(fun _=>cf),(fun _=>ce),trivial⟩,hO.trans ?_⟩;exact (lc (by show U.int (I T 6)= .int (NB us);unfold NB;rw[a1,a2];exact ACF U.int q0) (lc (by show U.int (I T 17)= .int (Mx us);unfold Mx;rw[a1,a2,bk];exact ACF U.int q1) rfl))
def OB:List U->ByteArray:=fun us=>(if BZ (aS us 0) (aI us 1) (aI us 2) (aS us 3) (aI us 4) (aI us 5)=0 then (aS us 0) else (⟨#[]⟩:ByteArray))
def Ns:List U->Int:=fun us=>(if BZ (aS us 0) (aI us 1) (aI us 2) (aS us 3) (aI us 4) (aI us 5)=0 then Bd (aI us 1) (Bg (aI us 1) (aI us 4) (aB us 6)) else 0)
def Nr:List U->Int:=fun us=>(if BZ (aS us 0) (aI us 1) (aI us 2) (aS us 3) (aI us 4) (aI us 5)=0 then EX (Bd (aI us 1) (Bg (aI us 1) (aI us 4) (aB us 6))) (aI us 2) else 0)
def N4:List U->ByteArray:=fun us=>(if BZ (aS us 0) (aI us 1) (aI us 2) (aS us 3) (aI us 4) (aI us 5)=0 then (aS us 3) else (⟨#[]⟩:ByteArray))
def Nl:List U->Int:=fun us=>(if BZ (aS us 0) (aI us 1) (aI us 2) (aS us 3) (aI us 4) (aI us 5)=0 then Bd (aI us 4) (-(Bg (aI us 1) (aI us 4) (aB us 6))) else 0)
def Na:List U->Int:=fun us=>(if BZ (aS us 0) (aI us 1) (aI us 2) (aS us 3) (aI us 4) (aI us 5)=0 then EX (Bd (aI us 4) (-(Bg (aI us 1) (aI us 4) (aB us 6)))) (aI us 5) else 0)
def OH:List U->Int:=fun us=>(BZ (aS us 0) (aI us 1) (aI us 2) (aS us 3) (aI us 4) (aI us 5))
def Oz:AU:={ sh:=[.agg [.str,k64,k64],.agg [.str,k64,k64],.one (.bool)],blks:=[],outs:=[(.s "Count.0",kJ OB),(.s "Count.1",Ba Ns),(.s "Count.2",Ba Nr),(.s "Count.3",kJ N4),(.s "Count.4",Ba Nl),(.s "Count.5",Ba Na),(.s "Count.6",Ba OH)],c:= .tup [.agg [.s 7,(Ch 8),(Ch 9)],.agg [.s 10,(Ch 11),(Ch 12)],(Ch 13)],m':=[],pre:=[] }
def gY:List En:=[⟨7,.outI "pair.0" Q2,[.e 0,.e 1,.e 2,.e 3,.e 4,.e 5]⟩,
 ⟨8,.ne,[.e 7,.c (.int 0)]⟩,
 ADA 9 8,
 ⟨10,.outI "gain.0" NG,[.e 1,.e 4,.e 6]⟩,
 ⟨11,.outI "move.0" NB,[.e 10,.e 0,.e 1,.e 2]⟩,
 ⟨12,.outI "move.1" Mx,[.e 10,.e 0,.e 1,.e 2]⟩,
 ⟨13,.wneg .i64,[.e 10]⟩,
 ⟨14,.outI "move.0" NB,[.e 13,.e 3,.e 4,.e 5]⟩,
 ⟨15,.outI "move.1" Mx,[.e 13,.e 3,.e 4,.e 5]⟩,
 ADC 16 8 1 11,
 ADC 17 8 2 12,
 ADC 18 8 4 14,
 ADC 19 8 5 15,
 ⟨20,.ite .s,[.e 8,.c (.str ⟨#[]⟩),.e 0]⟩,
 ⟨21,.ite .i,[.e 8,.c (.int 0),.e 11]⟩,
 ⟨22,.ite .i,[.e 8,.c (.int 0),.e 12]⟩]
def hY:List En:=[⟨23,.ite .s,[.e 8,.c (.str ⟨#[]⟩),.e 3]⟩,
 ⟨24,.ite .i,[.e 8,.c (.int 0),.e 14]⟩,
 ⟨25,.ite .i,[.e 8,.c (.int 0),.e 15]⟩,
 ⟨26,.ite .i,[.e 8,.e 7,.c (.int 0)]⟩,
 AC6 27 8 9]
def X6:List En:=gY++(hY)
def xt:List ObE:=[⟨some 9,.pre "move.p0" KD,[.e 13,.e 3,.e 4,.e 5]⟩,
 ⟨some 9,.pre "move.p0" KD,[.e 10,.e 0,.e 1,.e 2]⟩,
 ⟨some 9,.pre "gain.p0" KM,[.e 1,.e 4,.e 6]⟩]
def jK:List Rf:=[.e 20,.e 21,.e 22,.e 23,.e 24,.e 25,.e 26]
theorem xl:Oz.sees jK (Oz.run Try.prog [(57,So),(60,LS),(98,LZ)] Ab 3000 20 16)=some ((X6).map En.be,xt.map ObE.be,[]):=by kernel_rfl
theorem tu:AW Try.prog 16 Oz:=by
 refine An (l:=[(57,So),(60,LS),(98,LZ)]) A8 (by simp only[ABT];exact⟨yZ,jg,yj,fun _ h=>absurd h (by simp)⟩) xl (by kernel_rfl) fun T us aw i g hS ad hE=>?_;change us.length=7 at g;obtain⟨X,-,-,Y,-⟩:=ad;replace X:(S T 0).size<=140737488355328:=X;replace Y:(S T 3).size<=140737488355328:=Y;have k:=inS (j:=0) i g (by decide);have o:=inI (j:=1) i g (by decide);have p:=inI (j:=2) i g (by decide);have q:=inS (j:=3) i g (by decide);have r:=inI (j:=4) i g (by decide);have s:=inI (j:=5) i g (by decide);have A:=inB (j:=6) i g (by decide);clear aw
 skip
 obtain⟨E,hO⟩:=Ao (R:=[.s,.i,.i,.s,.i,.i,.i]) (ai:=jK) hS (by kernel_rfl) hE;obtain⟨Z,E⟩:=E.cut;have F1:=E;obtain⟨b,c,z,e,F,H,y,J,K,-,-,-,-,M,N,O,-⟩:=id Z;obtain⟨P,Q,V,W,-⟩:=id F1;replace b:I T 7=(BZ (S T 0) (I T 1) (I T 2) (S T 3) (I T 4) (I T 5)):=b;replace e:I T 10=(Bg (I T 1) (I T 4) (B T 6)):=e;replace F:I T 11=(Bd (I T 1) (I T 10)):=F;replace H:I T 12=(EX (Bd (I T 1) (I T 10)) (I T 2)):=H;replace J:I T 14=(Bd (I T 4) (I T 13)):=J;replace K:I T 15=(EX (Bd (I T 4) (I T 13)) (I T 5)):=K;simp only[AD,AG,zR,w2P,wnP,zL,zS] at c z y M N O P Q V W;have q0:S T 20=(if BZ (S T 0) (I T 1) (I T 2) (S T 3) (I T 4) (I T 5)=0 then (S T 0) else (⟨#[]⟩:ByteArray)):=by
  by_cases h:I T 7=0
  .have d:¬B T 8=true:=fun a=>(c.1 a) h;rw[M,ACD d,<-b,ACE h]
  .rw[M,ACE (c.2 h),<-b,ACD h]
 have u:I T 21=(if BZ (S T 0) (I T 1) (I T 2) (S T 3) (I T 4) (I T 5)=0 then Bd (I T 1) (Bg (I T 1) (I T 4) (B T 6)) else 0):=by
  by_cases h:I T 7=0
  .have d:¬B T 8=true:=fun a=>(c.1 a) h;rw[N,ACD d,<-b,ACE h];rw[F,e]
  .rw[N,ACE (c.2 h),<-b,ACD h]
 have v:I T 22=(if BZ (S T 0) (I T 1) (I T 2) (S T 3) (I T 4) (I T 5)=0 then EX (Bd (I T 1) (Bg (I T 1) (I T 4) (B T 6))) (I T 2) else 0):=by
  by_cases h:I T 7=0
  .have d:¬B T 8=true:=fun a=>(c.1 a) h;rw[O,ACD d,<-b,ACE h];rw[H,e]
  .rw[O,ACE (c.2 h),<-b,ACD h]
 have C:S T 23=(if BZ (S T 0) (I T 1) (I T 2) (S T 3) (I T 4) (I T 5)=0 then (S T 3) else (⟨#[]⟩:ByteArray)):=by
  by_cases h:I T 7=0
  .have d:¬B T 8=true:=fun a=>(c.1 a) h;rw[P,ACD d,<-b,ACE h]
  .rw[P,ACE (c.2 h),<-b,ACD h]
 have q4:I T 24=(if BZ (S T 0) (I T 1) (I T 2) (S T 3) (I T 4) (I T 5)=0 then Bd (I T 4) (-(Bg (I T 1) (I T 4) (B T 6))) else 0):=by
  by_cases h:I T 7=0
  .have d:¬B T 8=true:=fun a=>(c.1 a) h;rw[Q,ACD d,<-b,ACE h];have t:=GN (I T 1) (I T 4) (B T 6);rw[<-e] at t;have D:=o2' y.1 (by omega);rw[J,D,e]
  .rw[Q,ACE (c.2 h),<-b,ACD h]
 have q5:I T 25=(if BZ (S T 0) (I T 1) (I T 2) (S T 3) (I T 4) (I T 5)=0 then EX (Bd (I T 4) (-(Bg (I T 1) (I T 4) (B T 6)))) (I T 5) else 0):=by
  by_cases h:I T 7=0
  .have d:¬B T 8=true:=fun a=>(c.1 a) h;rw[V,ACD d,<-b,ACE h];have t:=GN (I T 1) (I T 4) (B T 6);rw[<-e] at t;have D:=o2' y.1 (by omega);rw[K,D,e]
  .rw[V,ACE (c.2 h),<-b,ACD h]
 have q6:I T 26=(BZ (S T 0) (I T 1) (I T 2) (S T 3) (I T 4) (I T 5)):=by
  rw[W,<-b];split
  .rfl
  .rename_i d;by_cases h:I T 7=0
   .exact h.symm
   .exact absurd (c.2 h) d
 have r0:B T 9=true-> -10000<=I T 4/\I T 4<=10000/\ -12<=I T 5/\I T 5<=48/\ -100<=I T 13/\I T 13<=100:=by
  intro x;have w:I T 7=0:=by
   by_cases h:I T 7=0
   .exact h
   .exact absurd (c.2 h) (z.1 x)
  obtain⟨u,v,C⟩:=VB (b.symm.trans w);rw[Fr] at u v;have t:=GN (I T 1) (I T 4) (B T 6);rw[<-e] at t;have D:=o2' y.1 (by omega);omega
 have ax:B T 9=true-> -10000<=I T 1/\I T 1<=10000/\ -12<=I T 2/\I T 2<=48/\ -100<=I T 10/\I T 10<=100:=by
  intro x;have w:I T 7=0:=by
   by_cases h:I T 7=0
   .exact h
   .exact absurd (c.2 h) (z.1 x)
  obtain⟨u,v,C⟩:=VB (b.symm.trans w);rw[Fr] at u v;have t:=GN (I T 1) (I T 4) (B T 6);rw[<-e] at t;omega
 have aK:B T 9=true-> -10000<=I T 1/\I T 1<=10000/\ -10000<=I T 4/\I T 4<=10000:=by
  intro x;have w:I T 7=0:=by
   by_cases h:I T 7=0
   .exact h
   .exact absurd (c.2 h) (z.1 x)
  obtain⟨u,v,C⟩:=VB (b.symm.trans w);rw[Fr] at u v;omega
 refine⟨⟨r0,ax,aK,trivial⟩,hO.trans ?_⟩;exact (lc (by show U.str (S T 20)= .str (OB us);unfold OB;rw[k,o,p,q,r,s];exact ACF U.str q0) (lc (by show U.int (I T 21)= .int (Ns us);unfold Ns;rw[k,o,p,q,r,s,A];exact ACF U.int u) (lc (by show U.int (I T 22)= .int (Nr us);unfold Nr;rw[k,o,p,q,r,s,A];exact ACF U.int v) (lc (by show U.str (S T 23)= .str (N4 us);unfold N4;rw[k,o,p,q,r,s];exact ACF U.str C) (lc (by show U.int (I T 24)= .int (Nl us);unfold Nl;rw[k,o,p,q,r,s,A];exact ACF U.int q4) (lc (by show U.int (I T 25)= .int (Na us);unfold Na;rw[k,o,p,q,r,s,A];exact ACF U.int q5) (lc (by show U.int (I T 26)= .int (OH us);unfold OH;rw[k,o,p,q,r,s];exact ACF U.int q6) rfl)))))))
def ck:List U->Bool:=fun us=>(true)
def eu:AU:={ sh:=[],blks:=[],outs:=[(.s "works.0",HS ck)],c:= .b 0,m':=[],pre:=[] }
def ACO:List En:=[⟨0,.row 3 3 [.s,.i,.i,.s,.i,.i,.s,.i,.i],[.c (.str ⟨#[97,110,110]⟩),.c (.int 2000),.c (.int 0),.c (.str ⟨#[98,111,98]⟩),.c (.int 1500),.c (.int 10),.c (.str ⟨#[99,97,116]⟩),.c (.int 1000),.c (.int 20)]⟩,
 ⟨1,.id .i,[.c (.int 1)]⟩,
 ADL 2 0 1,
 AC8 3 0 1,
 AC9 4 0 1,
 ⟨5,.id .i,[.c (.int 0)]⟩,
 ADL 6 0 5,
 AC8 7 0 5,
 AC9 8 0 5,
 ⟨9,.outS "Count.0" OB,[.e 2,.e 3,.e 4,.e 6,.e 7,.e 8,.c (.bool true)]⟩,
 ⟨10,.outI "Count.1" Ns,[.e 2,.e 3,.e 4,.e 6,.e 7,.e 8,.c (.bool true)]⟩,
 ⟨11,.outI "Count.2" Nr,[.e 2,.e 3,.e 4,.e 6,.e 7,.e 8,.c (.bool true)]⟩,
 ⟨12,.outS "Count.3" N4,[.e 2,.e 3,.e 4,.e 6,.e 7,.e 8,.c (.bool true)]⟩,
 ⟨13,.outI "Count.4" Nl,[.e 2,.e 3,.e 4,.e 6,.e 7,.e 8,.c (.bool true)]⟩,
 ⟨14,.outI "Count.5" Na,[.e 2,.e 3,.e 4,.e 6,.e 7,.e 8,.c (.bool true)]⟩,
 ⟨15,.outI "Count.6" OH,[.e 2,.e 3,.e 4,.e 6,.e 7,.e 8,.c (.bool true)]⟩]
def ACN:List En:=[⟨16,.row 3 9 [.i,.i,.i,.b,.s,.s,.b,.i,.i,.i,.i,.i,.b,.s,.s,.b,.i,.i,.i,.i,.i,.b,.s,.s,.b,.i,.i],[.c (.int 1),.c (.int 0),.c (.int 5),.c (.bool false),.c (.str ⟨#[97,110,110]⟩),.c (.str ⟨#[98,111,98]⟩),.c (.bool true),.c (.int 26),.c (.int 20),.c (.int 2),.c (.int 0),.c (.int 6),.c (.bool false),.c (.str ⟨#[98,111,98]⟩),.c (.str ⟨#[99,97,116]⟩),.c (.bool true),.c (.int 26),.c (.int 3),.c (.int 3),.c (.int 0),.c (.int 7),.c (.bool false),.c (.str ⟨#[99,97,116]⟩),.c (.str ⟨#[97,110,110]⟩),.c (.bool true),.c (.int 26),.c (.int 25)]⟩,
 ⟨17,.outL "Table.0" Gy,[.e 0,.e 16,.c (.int 0),.c (.int 100)]⟩,
 ⟨18,.outI "Table.1" Gb,[.e 0,.e 16,.c (.int 0),.c (.int 100)]⟩,
 ADM 19 15 18,
 ⟨20,.eq,[.e 19,.c (.int 0)]⟩,
 ADO 21 20,
 ⟨22,.eqs [.s,.i,.i],[.e 9,.c (.str ⟨#[98,111,98]⟩),.e 10,.c (.int 1514),.e 11,.c (.int 10)]⟩,
 AC4 23 20 22,
 ADO 24 23,
 ⟨25,.eqs [.s,.i,.i],[.e 12,.c (.str ⟨#[97,110,110]⟩),.e 13,.c (.int 1986),.e 14,.c (.int 0)]⟩,
 AC4 26 23 25,
 ADO 27 26,
 ADB 28 17,
 ⟨29,.eq,[.e 28,.c (.int 3)]⟩,
 AC4 30 26 29,
 ADO 31 30]
def ACM:List En:=[⟨32,.id .i,[.c (.int 0)]⟩,
 ADL 33 17 32,
 AC8 34 17 32,
 AC9 35 17 32,
 ADQ 36 17 32,
 ADP 37 17 32,
 ADR 38 17 32,
 ⟨39,.eqs [.s,.i,.i,.i,.i,.i],[.e 33,.c (.str ⟨#[98,111,98]⟩),.e 34,.c (.int 1),.e 35,.c (.int 1),.e 36,.c (.int 1),.e 37,.c (.int 17),.e 38,.c (.int 1)]⟩,
 AC4 40 30 39]
def ACL:List En:=ACO++(ACN++(ACM))
def ACV:List ObE:=[⟨some 31,.inl,[.c (.int 0),.e 17]⟩,
 ⟨none,.pre "Table.p0" FG,[.e 0,.e 16,.c (.int 0),.c (.int 100)]⟩,
 ⟨none,.inl,[.c (.int 0),.e 0]⟩,
 ⟨none,.inl,[.c (.int 1),.e 0]⟩]
def ACP:List Rf:=[.e 40]
theorem ACU:eu.sees ACP (eu.run Try.prog [(16,Oz),(30,E7)] Ab 3000 20 15)=some ((ACL).map En.be,ACV.map ObE.be,[]):=by kernel_rfl
theorem ACS:AW Try.prog 15 eu:=by
 refine An (l:=[(16,Oz),(30,E7)]) A8 (by simp only[ABT];exact⟨tu,tX,fun _ h=>absurd h (by simp)⟩) ACU (by kernel_rfl) fun T us bb hT bc hS a7 hE=>?_;change us.length=0 at bc;clear a7;clear bb
 skip
 obtain⟨e,hO⟩:=Ao (R:=[.b]) (ai:=ACP) hS (by kernel_rfl) hE;obtain⟨v,e⟩:=e.cut;obtain⟨H,e⟩:=e.cut;have F2:=e;have aZ:(S T 2=U3/\I T 3=1500/\I T 4=10)/\S T 6=Xf/\I T 7=2000/\I T 8=0:=by
  obtain⟨b,r,M,Y,e4,t,e6,e7,e8,-⟩:=v;simp only[AD,AG,zR,zL,zS,uR,Bv,zW] at b r M Y e4 t e6 e7 e8;refine⟨⟨?_,?_,?_⟩,?_,?_,?_⟩
  .rw[M,r,b];rfl
  .rw[Y,r,b];rfl
  .rw[e4,r,b];rfl
  .rw[e6,t,b];rfl
  .rw[e7,t,b];rfl
  .rw[e8,t,b];rfl
 have q:L T 0=fl/\L T 16=fH:=by
  obtain⟨b,-⟩:=v;obtain⟨J,-⟩:=H;simp only[AD,zC,zR,zL,zS,uR,Bv,zW] at b J;exact⟨by rw[b];rfl,by rw[J];rfl⟩
 obtain⟨-,-,-,-,-,-,-,-,-,p,g,i,j,k,o,s,-⟩:=id v;obtain⟨-,d,w,K,N,-,O,P,-,Q,V,-,W,X,Z,-⟩:=id H;obtain⟨ab,x,y,z,A,C,D,ad,al,-⟩:=id F2;replace p:S T 9=(if BZ (S T 2) (I T 3) (I T 4) (S T 6) (I T 7) (I T 8)=0 then (S T 2) else (⟨#[]⟩:ByteArray)):=p;replace g:I T 10=(if BZ (S T 2) (I T 3) (I T 4) (S T 6) (I T 7) (I T 8)=0 then Bd (I T 3) (Bg (I T 3) (I T 7) true) else 0):=g;replace i:I T 11=(if BZ (S T 2) (I T 3) (I T 4) (S T 6) (I T 7) (I T 8)=0 then EX (Bd (I T 3) (Bg (I T 3) (I T 7) true)) (I T 4) else 0):=i;replace j:S T 12=(if BZ (S T 2) (I T 3) (I T 4) (S T 6) (I T 7) (I T 8)=0 then (S T 6) else (⟨#[]⟩:ByteArray)):=j;replace k:I T 13=(if BZ (S T 2) (I T 3) (I T 4) (S T 6) (I T 7) (I T 8)=0 then Bd (I T 7) (-(Bg (I T 3) (I T 7) true)) else 0):=k;replace o:I T 14=(if BZ (S T 2) (I T 3) (I T 4) (S T 6) (I T 7) (I T 8)=0 then EX (Bd (I T 7) (-(Bg (I T 3) (I T 7) true))) (I T 8) else 0):=o;replace s:I T 15=(BZ (S T 2) (I T 3) (I T 4) (S T 6) (I T 7) (I T 8)):=s;replace d:L T 17=(I7 (L T 0) (L T 16) (0:Int) (100:Int)):=d;replace w:I T 18=(HV (0:Int) (100:Int)):=w;simp only[AD,AG,zR,Cn,and_true,w2P,zL,zS] at K N O P Q V W X Z ab x y z A C D ad al;have a:B T 40=(true):=by
  obtain⟨⟨q2,q3,q4⟩,q6,q7,q8⟩:=aZ;obtain⟨a,c⟩:=q;rw[q2,q3,q4,q6,q7,q8] at p g i j k o s;rw[ACE ic] at p g i j k o;rw[a,c] at d;have u:L T 17=Hw:=d;have b3:I T 18=0:=w.trans ACW;have b2:I T 15=0:=s.trans ic;have b0:=o2' K (by omega);have a2:=N.2 (by omega);have a3:=O.2 ⟨p,g.trans ex_i,i.trans ex_g⟩;have a4:=Q.2 ⟨j,k.trans ex_j,o.trans ex_h⟩;have a5:I T 28=3:=by rw[W,u,sT];rfl
  have a6:=Z.2 ⟨V.2 ⟨P.2 ⟨a2,a3⟩,a4⟩,X.2 a5⟩;rw[u,ab] at x y z A C D;obtain⟨E,ax,aK,F,r4,r5⟩:=zO;exact al.2 ⟨a6,ad.2 ⟨x.trans E,y.trans ax,z.trans aK,A.trans F,C.trans r4,D.trans r5⟩⟩
 have E:B T 31=true->0<=(0:Int)/\(0:Int) < (L T 17).length:=by
  obtain⟨a,c⟩:=q;rw[a,c] at d;have u:L T 17=Hw:=d;intro _;rw[u,sT];decide
 have ax:AS (L T 0)=0/\AM (L T 16)=0/\(AY (L T 16)).length<=40:=by
  obtain⟨a,c⟩:=q;rw[a,c];exact⟨ACQ,ACR,ABX (by kernel_rfl)⟩
 have aK:0<=(0:Int)/\(0:Int) < (L T 0).length:=by
  obtain⟨a,c⟩:=q;rw[a];decide
 have F:0<=(1:Int)/\(1:Int) < (L T 0).length:=by
  obtain⟨a,c⟩:=q;rw[a];decide
 refine⟨⟨E,(fun _=>ax),(fun _=>aK),(fun _=>F),trivial⟩,hO.trans ?_⟩;exact (lc (by show U.bool (B T 40)= .bool (ck us);unfold ck;exact ACF U.bool a) rfl)
def Qf:List Kd:=[.list [.str,k64,k64],.list [k64,k64,k64,.bool,.str,.str,.bool,k64,k64],.list [.int .u8 (0) (255)],.int .u8 (0) (255),k64,k64]
def YN:List AC:=((LD Try.prog 9 Try.f13.params.toList 0).map (·.1)).getD []
def eg:List En:=[⟨6,.outB "long.0" Po,[.e 0,.e 1,.c (.int 30)]⟩,
 ADA 7 6,
 ADB 8 1,
 ⟨9,.lt,[.c (.int 30),.e 8]⟩,
 AC6 10 6 9,
 ADA 11 10,
 ⟨12,.outI "rCheckP.0" Ky,[.e 0]⟩,
 ⟨13,.ne,[.e 12,.c (.int 0)]⟩,
 AC6 14 10 13,
 ADA 15 14,
 ⟨16,.outI "rCheckL.0" KZ,[.e 1]⟩,
 ⟨17,.ne,[.e 16,.c (.int 0)]⟩,
 AC6 18 14 17,
 ⟨19,.outB "works.0" ck,[]⟩,
 ADA 20 18,
 ⟨21,.outL "shuf.0" RB,[.e 1,.e 2]⟩]
def ft:List En:=[ADB 22 1,
 ⟨23,.lt,[.c (.int 0),.e 22]⟩,
 AC4 24 20 23,
 ADB 25 1,
 ⟨26,.o2 .tmod,[.e 3,.e 25]⟩,
 AC5 27 20 23,
 ⟨28,.ite .i,[.e 23,.e 26,.c (.int 0)]⟩,
 ⟨29,.drop,[.e 1,.e 28]⟩,
 ⟨30,.outL "Merge.0" LY,[.e 29,.e 21]⟩,
 ⟨31,.outI "Merge.1" LN,[.e 29,.e 21]⟩,
 ⟨32,.take,[.e 1,.e 28]⟩,
 ⟨33,.outL "Merge.0" LY,[.e 30,.e 32]⟩,
 ⟨34,.outI "Merge.1" LN,[.e 30,.e 32]⟩,
 ⟨35,.ne,[.e 31,.c (.int 0)]⟩,
 AC5 36 20 35,
 ⟨37,.ne,[.e 34,.c (.int 0)]⟩]
def co:List En:=[AC6 38 35 37,
 AC5 39 20 38,
 ADB 40 33,
 ADB 41 1,
 AC7 42 41 40,
 AC6 43 38 42,
 AC4 44 20 43,
 AC5 45 20 43,
 ⟨46,.outL "Books.0" GR,[.e 1]⟩,
 ⟨47,.outI "Books.1" Gh,[.e 1]⟩,
 ⟨48,.outL "SettleV.0" Eb,[.e 0,.e 1]⟩,
 ⟨49,.outI "SettleV.1" Ea,[.e 0,.e 1]⟩,
 ⟨50,.outL "Table.0" Gy,[.e 0,.e 1,.e 4,.e 5]⟩,
 ⟨51,.outI "Table.1" Gb,[.e 0,.e 1,.e 4,.e 5]⟩,
 ⟨52,.ne,[.e 47,.c (.int 0)]⟩,
 AC5 53 45 52]
def aQ:List En:=[⟨54,.ne,[.e 49,.c (.int 0)]⟩,
 AC6 55 52 54,
 AC4 56 45 55,
 AC5 57 45 55,
 ⟨58,.outL "Books.0" GR,[.e 21]⟩,
 ⟨59,.outI "Books.1" Gh,[.e 21]⟩,
 ⟨60,.outL "SettleV.0" Eb,[.e 0,.e 21]⟩,
 ⟨61,.outI "SettleV.1" Ea,[.e 0,.e 21]⟩,
 ⟨62,.outL "Table.0" Gy,[.e 0,.e 21,.e 4,.e 5]⟩,
 ⟨63,.outI "Table.1" Gb,[.e 0,.e 21,.e 4,.e 5]⟩,
 ⟨64,.ne,[.e 59,.c (.int 0)]⟩,
 AC5 65 57 64,
 ⟨66,.ne,[.e 61,.c (.int 0)]⟩,
 AC6 67 64 66,
 AC5 68 57 67,
 ⟨69,.ne,[.e 51,.e 63]⟩]
def ap:List En:=[AC6 70 67 69,
 AC5 71 57 70,
 ⟨72,.outB "sameSh.0" G5,[.e 46,.e 58]⟩,
 ADT 73 70 72,
 AC5 74 57 73,
 ⟨75,.outB "samePl.0" HM,[.e 48,.e 60]⟩,
 ADT 76 73 75,
 AC5 77 57 76,
 ⟨78,.outB "sameTab.0" Fw,[.e 50,.e 62]⟩,
 ADT 79 76 78,
 AC4 80 57 79,
 AC5 81 57 79,
 ⟨82,.outL "Books.0" GR,[.e 30]⟩,
 ⟨83,.outI "Books.1" Gh,[.e 30]⟩,
 ⟨84,.outL "SettleV.0" Eb,[.e 0,.e 30]⟩,
 ⟨85,.outI "SettleV.1" Ea,[.e 0,.e 30]⟩]
def eY:List En:=[⟨86,.outL "Table.0" Gy,[.e 0,.e 30,.e 4,.e 5]⟩,
 ⟨87,.outI "Table.1" Gb,[.e 0,.e 30,.e 4,.e 5]⟩,
 ⟨88,.ne,[.e 83,.c (.int 0)]⟩,
 AC5 89 81 88,
 ⟨90,.ne,[.e 85,.c (.int 0)]⟩,
 AC6 91 88 90,
 AC5 92 81 91,
 ⟨93,.ne,[.e 51,.e 87]⟩,
 AC6 94 91 93,
 AC5 95 81 94,
 ⟨96,.outB "sameSh.0" G5,[.e 46,.e 82]⟩,
 ADT 97 94 96,
 AC5 98 81 97,
 ⟨99,.outB "samePl.0" HM,[.e 48,.e 84]⟩,
 ADT 100 97 99,
 AC5 101 81 100]
def fE:List En:=[⟨102,.outB "sameTab.0" Fw,[.e 50,.e 86]⟩,
 ADT 103 100 102,
 AC4 104 81 103,
 AC5 105 81 103,
 ⟨106,.outL "Books.0" GR,[.e 33]⟩,
 ⟨107,.outI "Books.1" Gh,[.e 33]⟩,
 ⟨108,.outL "SettleV.0" Eb,[.e 0,.e 33]⟩,
 ⟨109,.outI "SettleV.1" Ea,[.e 0,.e 33]⟩,
 ⟨110,.outL "Table.0" Gy,[.e 0,.e 33,.e 4,.e 5]⟩,
 ⟨111,.outI "Table.1" Gb,[.e 0,.e 33,.e 4,.e 5]⟩,
 ⟨112,.ne,[.e 107,.c (.int 0)]⟩,
 AC5 113 105 112,
 ⟨114,.ne,[.e 109,.c (.int 0)]⟩,
 AC6 115 112 114,
 AC5 116 105 115,
 ⟨117,.ne,[.e 51,.e 111]⟩]
def cq:List En:=[AC6 118 115 117,
 AC5 119 105 118,
 ⟨120,.outB "sameSh.0" G5,[.e 46,.e 106]⟩,
 ADT 121 118 120,
 AC5 122 105 121,
 ⟨123,.outB "samePl.0" HM,[.e 48,.e 108]⟩,
 ADT 124 121 123,
 AC5 125 105 124,
 ⟨126,.outB "sameTab.0" Fw,[.e 50,.e 110]⟩,
 ADT 127 124 126,
 AC4 128 105 127,
 AC5 129 105 127,
 ADD 130 104 84 108,
 ADD 131 104 82 106,
 ADU 132 104 103 127,
 ADD 133 104 86 110]
def cT:List En:=[⟨134,.ite .i,[.e 104,.c (.int 1),.c (.int 2)]⟩,
 ADC 135 104 85 109,
 ADC 136 104 83 107,
 ADC 137 104 87 111,
 AC6 138 104 128,
 ADD 139 80 60 130,
 ADD 140 80 58 131,
 ADU 141 80 79 132,
 ADD 142 80 62 133,
 ⟨143,.ite .i,[.e 80,.c (.int 0),.e 134]⟩,
 ADC 144 80 61 135,
 ADC 145 80 59 136,
 ADC 146 80 63 137,
 AC6 147 80 138,
 ⟨148,.outB "works.0" ck,[]⟩,
 ADD 149 147 139 108]
def fI:List En:=[ADD 150 147 140 106,
 ADU 151 147 141 127,
 ADD 152 147 142 110,
 ⟨153,.ite .i,[.e 147,.e 143,.c (.int 3)]⟩,
 ⟨154,.ite .b,[.e 147,.c (.bool false),.e 148]⟩,
 ADC 155 147 144 109,
 ADC 156 147 145 107,
 ⟨157,.ite .b,[.e 147,.c (.bool true),.c (.bool false)]⟩,
 ADC 158 147 146 111,
 AC6 159 147 129,
 ⟨160,.ite .b,[.e 56,.c (.bool false),.e 154]⟩,
 AC6 161 56 159,
 ADC 162 44 31 47,
 ⟨163,.ite .b,[.e 44,.c (.bool false),.e 160]⟩,
 ADC 164 44 34 49,
 AC6 165 44 161]
def Zw:List En:=[ADU 166 18 19 163,
 AC6 167 18 165]
def Qh:List En:=eg++(ft++(co++(aQ++(ap++(eY++(fE++(cq++(cT++(fI++(Zw))))))))))
def eB:List ObE:=[⟨some 105,.pre "Table.p0" FG,[.e 0,.e 33,.e 4,.e 5]⟩,
 ⟨some 105,.pre "SettleV.p0" K5,[.e 0,.e 33]⟩,
 ⟨some 105,.pre "Books.p0" FC,[.e 33]⟩,
 ⟨some 81,.pre "Table.p0" FG,[.e 0,.e 30,.e 4,.e 5]⟩,
 ⟨some 81,.pre "SettleV.p0" K5,[.e 0,.e 30]⟩,
 ⟨some 81,.pre "Books.p0" FC,[.e 30]⟩,
 ⟨some 57,.pre "Table.p0" FG,[.e 0,.e 21,.e 4,.e 5]⟩,
 ⟨some 57,.pre "SettleV.p0" K5,[.e 0,.e 21]⟩,
 ⟨some 57,.pre "Books.p0" FC,[.e 21]⟩,
 ⟨some 45,.pre "Table.p0" FG,[.e 0,.e 1,.e 4,.e 5]⟩,
 ⟨some 45,.pre "SettleV.p0" K5,[.e 0,.e 1]⟩,
 ⟨some 45,.pre "Books.p0" FC,[.e 1]⟩,
 ⟨some 20,.take,[.e 1,.e 28]⟩,
 ⟨some 20,.take,[.e 1,.e 28]⟩,
 ⟨some 24,.nez,[.e 25]⟩,
 ⟨some 20,.pre "shuf.p0" Mm,[.e 1,.e 2]⟩]
def wT:List Rf:=[.e 166]
theorem uo:nj 6 (rK Try.prog [(19,NS),(20,Dr),(21,IX),(54,NX),(44,MP),(23,MO),(24,Dp),(30,E7),(25,KG),(26,KF),(37,IY),(15,eu)] qn 3000 20 13 YN 6)=some (166,(Qh).map En.be,eB.map ObE.be):=by kernel_rfl
theorem gB:LD Try.prog 9 Try.f13.params.toList 0=some (YN,Qf):=by kernel_rfl
theorem AC3:∀p∈([(19,NS),(20,Dr),(21,IX),(54,NX),(44,MP),(23,MO),(24,Dp),(30,E7),(25,KG),(26,KF),(37,IY),(15,eu)]:List (FuncId × AU)),AW Try.prog p.1 p.2:=by simp only[ABT];exact⟨yC,lX,oq,yM,wF,vA,nD,tX,sH,px,mn,ACS,fun _ h=>absurd h (by simp)⟩
theorem rW:∀T:Tab,AK T (Aj 0 Qf)->Bnd T 0 Qf->fC 1048576 T 0 Qf->AR T ((Qh).map En.be)->JF T eB/\B T 166=true:=by
 intro T hS gm gn hE;obtain⟨⟨fd,gs⟩,⟨fn,gv⟩,⟨fr,hH⟩,⟨ca,e6⟩,-⟩:=gm;replace fd:(L T 0).length<=140737488355328:=fd;have hI:∀u∈(L T 0),AL AB KP u:=fun u j=>by
  obtain⟨i,Y⟩:=ABZ.1 j;exact gs i u Y
 replace fn:(L T 1).length<=140737488355328:=fn;have p:∀u∈(L T 1),AL AB KB u:=fun u j=>by
  obtain⟨i,Y⟩:=ABZ.1 j;exact gv i u Y
 replace fr:(L T 2).length<=140737488355328:=fr;replace ca:0<=I T 3:=ca;replace e6:I T 3<=255:=e6;obtain⟨e3,e4,e5,-⟩:=gn;replace e3:(L T 0).length<=1048576:=e3;replace e4:(L T 1).length<=1048576:=e4;replace e5:(L T 2).length<=1048576:=e5
 skip
 obtain⟨d,v⟩:=Ao (R:=[.b]) (ai:=wT) hS (by kernel_rfl) hE;obtain⟨N,d⟩:=d.cut;obtain⟨J,d⟩:=d.cut;obtain⟨F2,d⟩:=d.cut;obtain⟨F3,d⟩:=d.cut;obtain⟨F4,d⟩:=d.cut;obtain⟨F5,d⟩:=d.cut;obtain⟨F6,d⟩:=d.cut;obtain⟨F7,d⟩:=d.cut;obtain⟨F8,d⟩:=d.cut;obtain⟨F9,d⟩:=d.cut;have fs:=d;have e:B T 20=true->AS (L T 0)=0/\AM (L T 1)=0/\(L T 1).length<=30:=by
  obtain⟨-,-,e8,e9,ch,-,ab,c4,ao,-,a0,db,a2,-,w,-⟩:=N;replace ab:I T 12=(AS (L T 0)):=ab;replace a0:I T 16=(AM (L T 1)):=a0;simp only[AD,AG,zR,zL] at e8 e9 ch c4 ao db a2 w;intro h;have t:¬B T 18=true:=by simpa using w.1 h
  have gi:¬B T 17=true:=fun a=>t (a2.2 (.inr a));have e2:¬B T 14=true:=fun a=>t (a2.2 (.inl a));have gd:¬B T 13=true:=fun a=>e2 (ao.2 (.inr a));have h9:¬B T 9=true:=fun a=>e2 (ao.2 (.inl (ch.2 (.inr a))));have h8:¬30 < I T 8:=fun a=>h9 (e9.2 a);rw[e8] at h8;have ga:I T 12=0:=ABq fun a=>gd (c4.2 a);have ge:I T 16=0:=ABq fun a=>gi (db.2 a);exact⟨ab.symm.trans ga,a0.symm.trans ge,by omega⟩
 have hk:0<=I T 28/\I T 28<=(L T 1).length:=by
  obtain⟨x,y,-,z,de,-,di,-⟩:=J;simp only[AD,AG,zR,BY,zL,zS] at x y z de di;rw[di];by_cases h:B T 23=true
  .have K:=y.1 h;rw[x] at K;rw[ACE h,de,z,ACE ca];have:=Int.emod_nonneg (I T 3) (b:=((L T 1).length:Int)) (by omega);have:=Int.emod_lt_of_pos (I T 3) (b:=((L T 1).length:Int)) K;omega
  .rw[ACD h];omega
 have v:B T 20=true->Mo (L T 1) (L T 21)/\(L T 21).length<=200:=by
  obtain⟨-,-,-,-,-,-,-,-,-,-,-,-,-,-,-,a4,-⟩:=N;replace a4:L T 21=(Nw (L T 1) (L T 2)):=a4;intro h;obtain⟨v1,q,r⟩:=e h;rw[a4];exact uf p q r
 have C:B T 20=true->I T 31=0/\Mo (L T 1) (L T 30)/\(L T 30).length<=(L T 1).length:=by
  obtain⟨-,-,-,-,-,-,-,dj,a5,a6,-⟩:=J;replace a5:L T 30=(JA (L T 29) (L T 21)):=a5;replace a6:I T 31=(HZ (L T 29) (L T 21)):=a6;simp only[AD,zR,zL] at dj;intro h;obtain⟨v1,q,r⟩:=e h;obtain⟨l,o2⟩:=v h;rw[a6,a5,dj];exact Ym p q r (fun u j=>List.mem_of_mem_drop j) (fun u j=>(l.mem u).1 j) (fun u j=> .inr ((l.mem u).2 j)) (by rw[ABs];omega) o2
 have M:B T 20=true->I T 34=0/\Mo (L T 1) (L T 33)/\(L T 33).length<=(L T 1).length:=by
  obtain⟨-,-,-,-,-,-,-,-,-,-,dk,a7,a8,-⟩:=J;replace a7:L T 33=(JA (L T 30) (L T 32)):=a7;replace a8:I T 34=(HZ (L T 30) (L T 32)):=a8;simp only[AD,zR,zL] at dk;intro h;obtain⟨v1,q,r⟩:=e h;obtain⟨l,o2,o3⟩:=C h;rw[a8,a7,dk];exact Ym p q r (fun u j=>(o2.mem u).1 j) (fun u j=>List.mem_of_mem_take j) (fun u j=> .inl ((o2.mem u).2 j)) (by omega) (by rw[ABl];omega)
 obtain⟨-,-,-,-,-,-,-,-,-,-,-,-,-,a3,w,-⟩:=id N;obtain⟨x,y,dd,z,-,-,-,-,-,-,-,-,-,dm,-,dn,-⟩:=id J;obtain⟨ds,-,dv,d0,d1,d2,d3,c,a9,ba,bb,bc,bi,A,d4,-⟩:=id F2;obtain⟨d5,d6,d7,g,bk,bl,bm,bo,bs,bt,d8,-,d9,ee,-,ei,-⟩:=id F3;obtain⟨ej,-,bx,el,-,b0,em,-,b1,en,eq,k,b2,b3,b4,b5,-⟩:=id F4;obtain⟨b6,b7,er,-,et,ev,-,ey,e0,-,b8,e1,-,b9,ci,-⟩:=id F5;obtain⟨O,cj,cl,s,P,Q,V,W,X,Z,cs,-,cu,cv,-,cx,-⟩:=id F6;obtain⟨cy,-,ad,c0,-,ag,c1,-,al,c2,c3,-⟩:=id F7;obtain⟨-,-,-,-,c5,-,-,-,-,-,-,-,-,c6,aw,-⟩:=id F8;obtain⟨-,-,-,-,c7,-,-,-,-,-,c8,-,-,c9,-⟩:=id F9;obtain⟨a1,-⟩:=id fs;replace a3:B T 19=(true):=a3;replace a9:L T 46=(if AM (L T 1)=0 then Aw (L T 1) else []):=a9;replace ba:I T 47=(AM (L T 1)):=ba;replace bb:L T 48=(Cw (L T 0) (L T 1)):=bb;replace bc:I T 49=((0:Int)):=bc;replace bi:L T 50=(I7 (L T 0) (L T 1) (I T 4) (I T 5)):=bi;replace A:I T 51=(HV (I T 4) (I T 5)):=A;replace bk:L T 58=(if AM (L T 21)=0 then Aw (L T 21) else []):=bk;replace bl:I T 59=(AM (L T 21)):=bl;replace bm:L T 60=(Cw (L T 0) (L T 21)):=bm;replace bo:I T 61=((0:Int)):=bo;replace bs:L T 62=(I7 (L T 0) (L T 21) (I T 4) (I T 5)):=bs;replace bt:I T 63=(HV (I T 4) (I T 5)):=bt;replace bx:B T 72=(Kj (L T 46) (L T 58)):=bx;replace b0:B T 75=(Hb (L T 48) (L T 60)):=b0;replace b1:B T 78=(Hp (L T 50) (L T 62)):=b1;replace b2:L T 82=(if AM (L T 30)=0 then Aw (L T 30) else []):=b2;replace b3:I T 83=(AM (L T 30)):=b3;replace b4:L T 84=(Cw (L T 0) (L T 30)):=b4;replace b5:I T 85=((0:Int)):=b5;replace b6:L T 86=(I7 (L T 0) (L T 30) (I T 4) (I T 5)):=b6;replace b7:I T 87=(HV (I T 4) (I T 5)):=b7;replace b8:B T 96=(Kj (L T 46) (L T 82)):=b8;replace b9:B T 99=(Hb (L T 48) (L T 84)):=b9;replace O:B T 102=(Hp (L T 50) (L T 86)):=O;replace P:L T 106=(if AM (L T 33)=0 then Aw (L T 33) else []):=P;replace Q:I T 107=(AM (L T 33)):=Q;replace V:L T 108=(Cw (L T 0) (L T 33)):=V;replace W:I T 109=((0:Int)):=W;replace X:L T 110=(I7 (L T 0) (L T 33) (I T 4) (I T 5)):=X;replace Z:I T 111=(HV (I T 4) (I T 5)):=Z;replace ad:B T 120=(Kj (L T 46) (L T 106)):=ad;replace ag:B T 123=(Hb (L T 48) (L T 108)):=ag;replace al:B T 126=(Hp (L T 50) (L T 110)):=al;replace aw:B T 148=(true):=aw;simp only[AD,AG,zN,zC,zR,zL,zS] at w x y dd z dm dn ds dv d0 d1 d2 d3 c d4 d5 d6 d7 g d8 d9 ee ei ej el em en eq k er et ev ey e0 e1 ci cj cl s cs cu cv cx cy c0 c1 c2 c3 c5 c6 c7 c8 c9 a1;have q0:B T 166=(true):=by
  have hG:=a3;have hQ:=aw;have gC:B T 20=true->B T 44=false/\B T 56=false/\B T 147=false:=by
   intro h;obtain⟨v1,q,r⟩:=e h;obtain⟨H,hP⟩:=v h;obtain⟨aP,F,hO⟩:=C h;obtain⟨f7,D,hN⟩:=M h;have l:=QO p q r;have hb:I T 47=0:=by rw[ba];exact l.led
   have hc:=bc;have cb:L T 46=Aw (L T 1):=by rw[a9,ACE l.led,l.bk]
   have cc:L T 48=Cw (L T 0) (L T 1):=by rw[bb,l.settle]
   have ce:L T 50=I7 (L T 0) (L T 1) (I T 4) (I T 5):=by rw[bi,l.tab]
   have hf:I T 59=0:=by rw[bl];exact H.led
   have hh:=bo;have he:L T 58=Aw (L T 1):=by rw[bk,ACE H.led,H.bk]
   have hg:L T 60=Cw (L T 0) (L T 1):=by rw[bm,H.settle]
   have hi:L T 62=I7 (L T 0) (L T 1) (I T 4) (I T 5):=by rw[bs,H.tab]
   have hj:I T 63=I T 51:=by rw[bt,A]
   have hm:I T 83=0:=by rw[b3];exact F.led
   have ho:=b5;have hl:L T 82=Aw (L T 1):=by rw[b2,ACE F.led,F.bk]
   have hn:L T 84=Cw (L T 0) (L T 1):=by rw[b4,F.settle]
   have hp:L T 86=I7 (L T 0) (L T 1) (I T 4) (I T 5):=by rw[b6,F.tab]
   have hq:I T 87=I T 51:=by rw[b7,A]
   have g6:I T 107=0:=by rw[Q];exact D.led
   have g8:=W;have g5:L T 106=Aw (L T 1):=by rw[P,ACE D.led,D.bk]
   have g7:L T 108=Cw (L T 0) (L T 1):=by rw[V,D.settle]
   have g9:L T 110=I7 (L T 0) (L T 1) (I T 4) (I T 5):=by rw[X,D.tab]
   have ha:I T 111=I T 51:=by rw[Z,A]
   have g1:¬B T 44=true:=fun a=>by
    rcases d2.1 (d3.1 a).2 with a|a
    .rcases ds.1 a with a|a
     .exact (dm.1 a) aP
     .exact (dn.1 a) f7
    .have:=d1.1 a;rw[dv,d0] at this;omega
   have g2:¬B T 56=true:=fun a=>by
    rcases d6.1 (d7.1 a).2 with a|a
    .exact (d4.1 a) hb
    .exact (d5.1 a) hc
   have g3:¬B T 79=true:=fun a=>by
    rcases en.1 a with a|a
    .rcases em.1 a with a|a
     .rcases el.1 a with a|a
      .rcases ej.1 a with a|a
       .rcases ee.1 a with a|a
        .exact (d8.1 a) hf
        .exact (d9.1 a) hh
       .exact (ei.1 a) hj.symm
      .rw[bx,cb,he,PY] at a;cases a
     .rw[b0,cc,hg,Oh] at a;cases a
    .rw[b1,ce,hi,OZ] at a;cases a
   have gG:¬B T 103=true:=fun a=>by
    rcases cj.1 a with a|a
    .rcases ci.1 a with a|a
     .rcases e1.1 a with a|a
      .rcases e0.1 a with a|a
       .rcases ev.1 a with a|a
        .exact (er.1 a) hm
        .exact (et.1 a) ho
       .exact (ey.1 a) hq.symm
      .rw[b8,cb,hl,PY] at a;cases a
     .rw[b9,cc,hn,Oh] at a;cases a
    .rw[O,ce,hp,OZ] at a;cases a
   have gH:¬B T 127=true:=fun a=>by
    rcases c2.1 a with a|a
    .rcases c1.1 a with a|a
     .rcases c0.1 a with a|a
      .rcases cy.1 a with a|a
       .rcases cv.1 a with a|a
        .exact (cs.1 a) g6
        .exact (cu.1 a) g8
       .exact (cx.1 a) ha.symm
      .rw[ad,cb,g5,PY] at a;cases a
     .rw[ag,cc,g7,Oh] at a;cases a
    .rw[al,ce,g9,OZ] at a;cases a
   have g0:¬B T 147=true:=fun a=>by
    rcases c6.1 a with a|a
    .exact g3 (eq.1 a).2
    .rcases c5.1 a with a|a
     .exact gG (cl.1 a).2
     .exact gH (c3.1 a).2
   exact⟨by simpa using g1,by simpa using g2,by simpa using g0⟩
  by_cases t:B T 18=true
  .exact a1.2 (.inl ⟨t,hG⟩)
  .have f8:B T 18=false:=by simpa using t
   obtain⟨k1,E,k3⟩:=gC (w.2 (by simpa using t));refine a1.2 (.inr ⟨f8,?_⟩);have hR:=c7;have hT:=c8;have hU:=c9
   simp_all
 have r0:B T 105=true->AS (L T 0)=0/\AM (L T 33)=0/\(AY (L T 33)).length<=40:=by
  intro h;have o:=(M ((c.1 (g.1 (k.1 (s.1 h).1).1).1).1)).2.1;exact⟨(e ((c.1 (g.1 (k.1 (s.1 h).1).1).1).1)).1,o.led,o.last⟩
 have ax:B T 105=true->AS (L T 0)=0/\AM (L T 33)=0/\(AY (L T 33)).length<=40:=by
  intro h;have o:=(M ((c.1 (g.1 (k.1 (s.1 h).1).1).1).1)).2.1;exact⟨(e ((c.1 (g.1 (k.1 (s.1 h).1).1).1).1)).1,o.led,o.last⟩
 have aK:B T 105=true->(AY (L T 33)).length<=40\/200 < (L T 33).length:=by
  intro h;have o:=(M ((c.1 (g.1 (k.1 (s.1 h).1).1).1).1)).2.1;exact .inl o.last
 have r3:B T 81=true->AS (L T 0)=0/\AM (L T 30)=0/\(AY (L T 30)).length<=40:=by
  intro h;have o:=(C ((c.1 (g.1 (k.1 h).1).1).1)).2.1;exact⟨(e ((c.1 (g.1 (k.1 h).1).1).1)).1,o.led,o.last⟩
 have r4:B T 81=true->AS (L T 0)=0/\AM (L T 30)=0/\(AY (L T 30)).length<=40:=by
  intro h;have o:=(C ((c.1 (g.1 (k.1 h).1).1).1)).2.1;exact⟨(e ((c.1 (g.1 (k.1 h).1).1).1)).1,o.led,o.last⟩
 have r5:B T 81=true->(AY (L T 30)).length<=40\/200 < (L T 30).length:=by
  intro h;have o:=(C ((c.1 (g.1 (k.1 h).1).1).1)).2.1;exact .inl o.last
 have r6:B T 57=true->AS (L T 0)=0/\AM (L T 21)=0/\(AY (L T 21)).length<=40:=by
  intro h;have o:=(v ((c.1 (g.1 h).1).1)).1;exact⟨(e ((c.1 (g.1 h).1).1)).1,o.led,o.last⟩
 have r7:B T 57=true->AS (L T 0)=0/\AM (L T 21)=0/\(AY (L T 21)).length<=40:=by
  intro h;have o:=(v ((c.1 (g.1 h).1).1)).1;exact⟨(e ((c.1 (g.1 h).1).1)).1,o.led,o.last⟩
 have r8:B T 57=true->(AY (L T 21)).length<=40\/200 < (L T 21).length:=by
  intro h;have o:=(v ((c.1 (g.1 h).1).1)).1;exact .inl o.last
 have r9:B T 45=true->AS (L T 0)=0/\AM (L T 1)=0/\(AY (L T 1)).length<=40:=by
  intro h;have o:=QO p (e ((c.1 h).1)).2.1 (e ((c.1 h).1)).2.2;exact⟨(e ((c.1 h).1)).1,o.led,o.last⟩
 have hs:B T 45=true->AS (L T 0)=0/\AM (L T 1)=0/\(AY (L T 1)).length<=40:=by
  intro h;have o:=QO p (e ((c.1 h).1)).2.1 (e ((c.1 h).1)).2.2;exact⟨(e ((c.1 h).1)).1,o.led,o.last⟩
 have ht:B T 45=true->(AY (L T 1)).length<=40\/200 < (L T 1).length:=by
  intro h;have o:=QO p (e ((c.1 h).1)).2.1 (e ((c.1 h).1)).2.2;exact .inl o.last
 have hu:B T 20=true->0<=I T 28/\I T 28<=(L T 1).length:=by
  intro h;exact hk
 have hv:B T 20=true->0<=I T 28/\I T 28<=(L T 1).length:=by
  intro h;exact hk
 have hw:B T 24=true->¬I T 25=0:=by
  intro h;have K:=y.1 (dd.1 h).2;rw[x] at K;rw[z];omega
 have hx:B T 20=true->(L T 1).length<=1048576:=by
  intro h;have:=(e h).2.2;omega
 exact⟨⟨r0,ax,aK,r3,r4,r5,r6,r7,r8,r9,hs,ht,hu,hv,hw,hx,trivial⟩,q0⟩
end
end Go.Eng
end
