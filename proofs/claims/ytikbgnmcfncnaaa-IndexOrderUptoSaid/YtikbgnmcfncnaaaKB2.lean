/-
  A part of the proof: the evaluator of code and its soundness.
-/
import Derived.Test.YtikbgnmcfncnaaaKB1
import Derived.Test.YtikbgnmcfncnaaaE4
import Derived.Test.YtikbgnmcfncnaaaE5
import Derived.Test.YtikbgnmcfncnaaaKB0
set_option linter.unusedVariables false
set_option linter.unusedSimpArgs false
noncomputable section
namespace Go.Eng
section
open Go Go.Eng Go.Proofs
set_option maxHeartbeats 4000000
set_option maxRecDepth 100000
theorem AAG:Me.sees ri (Me.run Try.prog [(150,Qw)] Ab 3000 20 148)=some ((Qe++((Ad Pg [.i,.i,.l] UP)++(H7++(fc)))).map En.be,zr.map ObE.be,[]):=by kernel_rfl
theorem ym:AW Try.prog 148 Me:=by
 refine An (l:=[(150,Qw)]) A8 (by simp only[ABT];exact⟨zK,fun _ h=>absurd h (by simp)⟩) AAG (by kernel_rfl) fun T us bk r g W ca d=>?_;change us.length=5 at g;obtain⟨⟨bi,cf⟩,⟨bl,bc⟩,-⟩:=ca;replace bi:(L T 0).length<=140737488355328:=bi;have c4:∀u∈(L T 0),AL AB KB u:=fun u hu=>by
  obtain⟨i,Y⟩:=ABZ.1 hu;exact cf i u Y
 replace bl:0<=I T 1:=bl;replace bc:I T 1<=140737488355328:=bc;have a8:=inL (j:=0) r g (by decide);have ce:=inI (j:=1) r g (by decide);have a9:=inI (j:=2) r g (by decide);have ba:=inI (j:=3) r g (by decide);have bb:=inI (j:=4) r g (by decide);have al:(L T 0).length=I T 1/\0<=I T 2/\I T 2 < I T 3/\I T 3 < I T 4/\I T 4<=I T 1:=by
  have h:=bk (.s "rotB.p0",NN) (by simp[Me]);change NN us at h;unfold NN at h;simp only[a8,ce,a9,ba,bb] at h;exact h
 clear bk;rw[ABI,ABI,ABI] at d;obtain⟨hA,d⟩:=cutB d;obtain⟨hH,d⟩:=cutB d;obtain⟨V,d⟩:=cutB d;obtain⟨A0,X⟩:=AN W (by kernel_rfl) hA;have t:=A0;have x5:I T 5=I T 3 - (I T 2):=by
  obtain⟨e5,-⟩:=t;simp only[AD,zR,w2P] at e5;exact e5 (by omega) (by omega)
 have x6:I T 6=I T 4 - (I T 3):=by
  obtain⟨-,e6,-⟩:=t;simp only[AD,zR,w2P] at e6;exact e6 (by omega) (by omega)
 refine ACw (Ap (nh:=7) (k:=3) (pcn:=10) (an:=26) (H:=H7) (K:=eA) (nxt:=[.e 24,.e 25,.e 23]) (A:=[.e 6,.e 5,.e 0]) (fv:=[1,3]) (R:=[.i,.i,.l]) (by kernel_rfl) rfl rfl rfl rfl X (by kernel_rfl) (by kernel_rfl) V (Ae hH) (fun s=>ACv T (aI s 0) (aI s 1) (aL s 2)) (fun s=>((aI s 0)+(aI s 1)).toNat)) ?_ ?_ fun⟨cs,a7,ad,bm⟩=>?_
 .show ACv T (I T 6) (I T 5) (L T 0);obtain⟨p1,p2,p3,p4,p5⟩:=al;exact⟨by omega,by omega,by omega,by omega,p1,by rw[show (I T 3).toNat - (I T 5).toNat=(I T 2).toNat by omega,show (I T 3).toNat+(I T 6).toNat=(I T 4).toNat by omega]⟩
 .intro J Z x ab;replace ab:ACv T (I J 7) (I J 8) (L J 9):=ab;replace x:AE J H7:=x;have t:=x;clear x;have a4:=fvI (Z 1 (by decide));have b9:=fvI (Z 3 (by decide));clear Z;obtain⟨c,-,e,aw,z,v,C,a0,D,E,F,w,M,a1,N,O,-⟩:=id t;replace v:L J 15=(BI (L J 9) (swS (I J 14).toNat (I J 3).toNat (I J 7).toNat)):=v;replace w:L J 21=(BI (L J 9) (swS (I J 18).toNat (I J 20).toNat (I J 8).toNat)):=w;simp only[AD,AG,zN,zR,w2P,zL,zS] at c e aw z C a0 D E F M a1 N O;obtain⟨v1,v2,v3,v4,p,y⟩:=ab;obtain⟨p1,p2,p3,p4,p5⟩:=al
  suffices hz:(B J 17=true->(L J 9).length=I J 1/\0<=I J 18/\0<=I J 8/\I J 18+I J 8<=I J 20/\I J 20+I J 8<=I J 1)/\(B J 13=true->(L J 9).length=I J 1/\0<=I J 14/\0<=I J 7/\I J 14+I J 7<=I J 3/\I J 3+I J 7<=I J 1)/\(B J 10=true->(ACv T (I J 24) (I J 25) (L J 23)))/\(B J 10=true->(I J 24+I J 25).toNat < (I J 7+I J 8).toNat) from
   let⟨r0,ax,nx,mz⟩:=hz;⟨⟨r0,ax,trivial⟩,fun b=>⟨nx b,mz b⟩⟩
  refine⟨?_,?_,?_,?_⟩
  .intro b;obtain⟨q,a⟩:=a0.1 b;have q:=c.1 q;have h:¬I J 7 < I J 8:=fun h=>by rw[e.2 h] at a;cases a
   have cy:=o2' D (by omega);have c0:=o2' E (by omega);have c1:=o2' F (by omega);rw[a4];refine⟨p,?_⟩;omega
  .intro b;obtain⟨q,a⟩:=aw.1 b;have h:=e.1 a;have cv:=o2' z (by omega);rw[a4];refine⟨p,?_⟩;omega
  .intro b;have q:=c.1 b;have cv:=o2' z (by omega);have cx:=o2' C (by omega);have cy:=o2' D (by omega);have c0:=o2' E (by omega);have c1:=o2' F (by omega);have c2:=o2' M (by omega);rw[a1,N,O];by_cases a:B J 12=true
   .rw[ACE a,ACE a,ACE a];have h:=e.1 a;refine⟨v1,by omega,by omega,v4,by rw[v,D1];exact p,?_⟩;rw[v,b9,<-y,show (I J 14).toNat=(I T 3).toNat - (I J 8).toNat by omega,show (I J 16).toNat=(I J 8).toNat - (I J 7).toNat by omega];exact qK (by omega) (by omega) (by omega)
   .rw[ACD a,ACD a,ACD a];have h:¬I J 7 < I J 8:=fun h=>a (e.2 h);refine⟨by omega,v2,v3,by omega,by rw[w,D1];exact p,?_⟩;rw[w,<-y,show (I J 18).toNat=(I T 3).toNat - (I J 8).toNat by omega,show (I J 20).toNat=(I T 3).toNat+(I J 7).toNat - (I J 8).toNat by omega,show (I J 22).toNat=(I J 7).toNat - (I J 8).toNat by omega];exact pj (by omega) (by omega) (by omega)
  .intro b;have q:=c.1 b;have cx:=o2' C (by omega);have c2:=o2' M (by omega);rw[N,O];by_cases a:B J 12=true
   .rw[ACE a,ACE a];have h:=e.1 a;omega
   .rw[ACD a,ACD a];have h:¬I J 7 < I J 8:=fun h=>a (e.2 h);omega
 replace ad:1<=I T 7/\1<=I T 8/\I T 8<=I T 3 - (I T 2)/\I T 7<=I T 4 - (I T 3)/\(L T 9).length=I T 1/\BI (L T 9) (rtS ((I T 3).toNat - (I T 8).toNat) (I T 3).toNat ((I T 3).toNat+(I T 7).toNat))=BI (L T 0) (rtS (I T 2).toNat (I T 3).toNat (I T 4).toNat):=ad;have cb:=(AN (a7.append X) (l:=H7) (by kernel_rfl) V);obtain⟨B0,W⟩:=cb;clear hA V hH X a7;obtain⟨A1,hO⟩:=Ao (R:=[.l]) (ai:=ri) W (by kernel_rfl) d;have F1:=B0;have F2:=A1;obtain⟨c,-⟩:=id F1;obtain⟨P,Q,-⟩:=id F2;replace Q:L T 27=(BI (L T 9) (swS (I T 26).toNat (I T 3).toNat (I T 8).toNat)):=Q;simp only[AD,zR,w2P] at c P;obtain⟨v1,v2,v3,v4,p,y⟩:=ad;obtain⟨p1,p2,p3,p4,p5⟩:=al;have q0:L T 27=(BI (L T 0) (rtS (I T 2).toNat (I T 3).toNat (I T 4).toNat)):=by
  have h:I T 8=I T 7:=by
   by_cases h:I T 8=I T 7
   .exact h
   .exact absurd (c.2 h) bm
  have c3:=o2' P (by omega);rw[Q,<-y,h,show (I T 26).toNat=(I T 3).toNat - (I T 7).toNat by omega];exact pn (by omega) (by omega)
 have r0:B T 11=true->(L T 9).length=I T 1/\0<=I T 26/\0<=I T 8/\I T 26+I T 8<=I T 3/\I T 3+I T 8<=I T 1:=by
  intro b;have h:I T 8=I T 7:=by
   by_cases h:I T 8=I T 7
   .exact h
   .exact absurd (c.2 h) bm
  have c3:=o2' P (by omega);refine⟨p,?_⟩;omega
 refine⟨⟨r0,(fun _=>cs),trivial⟩,hO.trans ?_⟩;exact (lc (by show U.list (L T 27)= .list (QB us);unfold QB;rw[a8,a9,ba,bb];exact ACF U.list q0) rfl)
end
section
open Go Go.Eng Go.Proofs
set_option maxHeartbeats 4000000
set_option maxRecDepth 100000
variable {o:Nat}
def IW:List U->U':=fun us=>(AQ ltB (aL us 0) (aI us 2).toNat (aI us 4).toNat)
def Fe (o:Nat):List U->Prop:=fun us=>(aI us 4).toNat - (aI us 2).toNat < o/\((aL us 0)).length=(aI us 1)/\0<=(aI us 2)/\(aI us 2) < (aI us 3)/\(aI us 3) < (aI us 4)/\(aI us 4)<=(aI us 1)/\Srt ltB (seg (aL us 0) (aI us 2).toNat (aI us 3).toNat)/\Srt ltB (seg (aL us 0) (aI us 3).toNat (aI us 4).toNat)/\Dst ltB (seg (aL us 0) (aI us 2).toNat (aI us 4).toNat)
def Dc (o:Nat):AU:={ sh:=[.one (k64),.one (k64),.one (k64),.cst (.fn (.func 101) [] [])],blks:=[],outs:=[(.s "symB.0",CI IW)],c:= .tup [],m':=[.mrow 5 1 [k64,k64,k64,.bool,.str,.str,.bool,k64,k64] 38],pre:=[(.s "symB.p0",Fe o)],row:=some ([k64,k64,k64,.bool,.str,.str,.bool,k64,k64],38) }
def vT:List Rf:=[.e 15,.e 16,.e 17,.e 18,.e 19,.e 20,.e 21,.e 22,.e 23,.e 24,.e 25,.e 26,.e 27,.e 28,.e 29,.e 30,.e 31,.e 32]
def uU:List Rf:=[.e 81,.e 82,.e 83,.e 84,.e 85,.e 86,.e 87,.e 88,.e 89,.e 90,.e 91,.e 92,.e 93,.e 94,.e 95,.e 96,.e 97,.e 98]
def uz:List Rf:=[.e 155,.e 156,.e 157,.e 158,.e 159,.e 160,.e 161,.e 162,.e 163,.e 164,.e 165,.e 166,.e 167,.e 168,.e 169,.e 170,.e 171,.e 172]
abbrev ACc (T:Tab)(a:Int)(b:Int):Prop:=I T 3<=b/\b<=a/\a<=I T 4/\(b=I T 3\/ltB ((L T 0).getD (b - 1).toNat []) ((L T 0).getD (I T 2).toNat [])=true)/\(a=I T 4\/¬ltB ((L T 0).getD a.toNat []) ((L T 0).getD (I T 2).toNat [])=true)
abbrev ACe (T:Tab)(a:Int)(b:U'):Prop:=I T 2<=a/\a<=I T 8 - 1/\(b).length=I T 1/\(∀u∈b,AL AB KB u)/\b=Bp (L T 0) (I T 2).toNat ((I T 2).toNat+1) (a.toNat+1)
abbrev ACf (T:Tab)(a:Int)(b:Int):Prop:=I T 2<=b/\b<=a/\a<=I T 3/\(b=I T 2\/¬ltB ((L T 0).getD (I T 3).toNat []) ((L T 0).getD (b - 1).toNat [])=true)/\(a=I T 3\/ltB ((L T 0).getD (I T 3).toNat []) ((L T 0).getD a.toNat [])=true)
abbrev ACp (T:Tab)(a:Int)(b:U'):Prop:=I T 74<=a/\a<=I T 3/\(b).length=I T 1/\(∀u∈b,AL AB KB u)/\b=Bp (L T 0) a.toNat (I T 3).toNat ((I T 3).toNat+1)
abbrev ACu (T:Tab)(a:Int)(b:Int):Prop:=I T 144<=b/\b<=a/\a<=I T 143/\(b=I T 144\/¬ltB ((L T 0).getD (I T 145 - (b - 1)).toNat []) ((L T 0).getD (b - 1).toNat [])=true)/\(a=I T 143\/ltB ((L T 0).getD (I T 145 - a).toNat []) ((L T 0).getD a.toNat [])=true)
def lY:List En:=[ADN 5 3 2,
 ⟨6,.eq,[.e 5,.c (.int 1)]⟩]
def Eg:List En:=lY
def mP:List En:=[AC7 9 8 7,
 AC4 10 6 9,
 AC5 11 6 9,
 ADM 12 8 7,
 ⟨13,.w1 .u64,[.e 12]⟩,
 ⟨14,.o2 .div,[.e 13,.c (.int 2)]⟩,
 ADE 15 0 14,
 AC8 16 0 14,
 AC9 17 0 14,
 ADH 18 0 14,
 ADF 19 0 14,
 ADG 20 0 14,
 ADI 21 0 14,
 ADJ 22 0 14,
 ADK 23 0 14,
 ADE 24 0 2]
def my:List En:=[AC8 25 0 2,
 AC9 26 0 2,
 ADH 27 0 2,
 ADF 28 0 2,
 ADG 29 0 2,
 ADI 30 0 2,
 ADJ 31 0 2,
 ADK 32 0 2,
 ⟨33,.outI "cmpB.0" IA,vT⟩,
 ⟨34,.lt,[.e 33,.c (.int 0)]⟩,
 AC4 35 10 34,
 ⟨36,.w2 .i64 .add,[.e 14,.c (.int 1)]⟩,
 AC5 37 10 34,
 ADC 38 34 7 14,
 ADC 39 34 36 8]
def Ck:List En:=mP++(my)
def fQ:List ObE:=[⟨some 10,.inr,[.e 2,.e 1]⟩,⟨some 10,.inr,[.e 14,.e 1]⟩]
def P1:Aa:=mkD 7 2 Ck 10 [.e 38,.e 39] fQ [0,2,6,1]
def UR:List Rf:=[.e 0,.e 2,.e 6,.e 1,.e 4,.e 3]
def Mj:List En:=[]
def mw:List En:=[⟨42,.w2 .i64 .sub,[.e 8,.c (.int 1)]⟩,
 AC7 43 40 42,
 AC4 44 11 43,
 AC5 45 11 43,
 ⟨46,.w2 .i64 .add,[.e 40,.c (.int 1)]⟩,
 ⟨47,.w2 .i64 .add,[.e 40,.c (.int 1)]⟩,
 ADE 48 41 47,
 AC8 49 41 47,
 AC9 50 41 47,
 ADH 51 41 47,
 ADF 52 41 47,
 ADG 53 41 47,
 ADI 54 41 47,
 ADJ 55 41 47,
 ADK 56 41 47,
 ADE 57 41 40]
def l8:List En:=[AC8 58 41 40,
 AC9 59 41 40,
 ADH 60 41 40,
 ADF 61 41 40,
 ADG 62 41 40,
 ADI 63 41 40,
 ADJ 64 41 40,
 ADK 65 41 40,
 ⟨66,.rset 0 [.i,.i,.i,.b,.s,.s,.b,.i,.i],[.e 41,.e 40,.e 48,.e 49,.e 50,.e 51,.e 52,.e 53,.e 54,.e 55,.e 56]⟩,
 ⟨67,.rset 0 [.i,.i,.i,.b,.s,.s,.b,.i,.i],[.e 66,.e 46,.e 57,.e 58,.e 59,.e 60,.e 61,.e 62,.e 63,.e 64,.e 65]⟩,
 ⟨68,.w2 .i64 .add,[.e 40,.c (.int 1)]⟩]
def Db:List En:=mw++(l8)
def fV:List ObE:=[⟨some 44,.inr,[.e 46,.e 1]⟩,⟨some 44,.inr,[.e 40,.e 1]⟩,⟨some 44,.inr,[.e 40,.e 1]⟩,⟨some 44,.inr,[.e 47,.e 1]⟩]
def RF:Aa:=mkD 40 2 Db 44 [.e 68,.e 67] fV [11,8,1]
def Un:List Rf:=[.e 11,.e 8,.e 1,.e 2,.e 0]
def mG:List En:=[ADA 69 6,
 ADN 70 4 3,
 ⟨71,.eq,[.e 70,.c (.int 1)]⟩,
 AC4 72 69 71]
def Hz:List En:=mG
def oh:List En:=[AC7 75 74 73,
 AC4 76 72 75,
 AC5 77 72 75,
 ADM 78 74 73,
 ⟨79,.w1 .u64,[.e 78]⟩,
 ⟨80,.o2 .div,[.e 79,.c (.int 2)]⟩,
 ADE 81 0 3,
 AC8 82 0 3,
 AC9 83 0 3,
 ADH 84 0 3,
 ADF 85 0 3,
 ADG 86 0 3,
 ADI 87 0 3,
 ADJ 88 0 3,
 ADK 89 0 3,
 ADE 90 0 80]
def ny:List En:=[AC8 91 0 80,
 AC9 92 0 80,
 ADH 93 0 80,
 ADF 94 0 80,
 ADG 95 0 80,
 ADI 96 0 80,
 ADJ 97 0 80,
 ADK 98 0 80,
 ⟨99,.outI "cmpB.0" IA,uU⟩,
 ⟨100,.lt,[.e 99,.c (.int 0)]⟩,
 AC4 101 76 100,
 AC5 102 76 100,
 ⟨103,.w2 .i64 .add,[.e 80,.c (.int 1)]⟩,
 ADC 104 100 80 73,
 ADC 105 100 74 103]
def D0:List En:=oh++(ny)
def bB:List ObE:=[⟨some 76,.inr,[.e 80,.e 1]⟩,⟨some 76,.inr,[.e 3,.e 1]⟩]
def Pn:Aa:=mkD 73 2 D0 76 [.e 104,.e 105] bB [0,3,72,1]
def Uw:List Rf:=[.e 0,.e 3,.e 72,.e 1,.e 3,.e 2]
def UW:List En:=[]
def mm:List En:=[AC7 108 74 106,
 AC4 109 77 108,
 AC5 110 77 108,
 ⟨111,.w2 .i64 .sub,[.e 106,.c (.int 1)]⟩,
 ⟨112,.w2 .i64 .sub,[.e 106,.c (.int 1)]⟩,
 ADE 113 107 112,
 AC8 114 107 112,
 AC9 115 107 112,
 ADH 116 107 112,
 ADF 117 107 112,
 ADG 118 107 112,
 ADI 119 107 112,
 ADJ 120 107 112,
 ADK 121 107 112,
 ADE 122 107 106,
 AC8 123 107 106]
def mC:List En:=[AC9 124 107 106,
 ADH 125 107 106,
 ADF 126 107 106,
 ADG 127 107 106,
 ADI 128 107 106,
 ADJ 129 107 106,
 ADK 130 107 106,
 ⟨131,.rset 0 [.i,.i,.i,.b,.s,.s,.b,.i,.i],[.e 107,.e 106,.e 113,.e 114,.e 115,.e 116,.e 117,.e 118,.e 119,.e 120,.e 121]⟩,
 ⟨132,.rset 0 [.i,.i,.i,.b,.s,.s,.b,.i,.i],[.e 131,.e 111,.e 122,.e 123,.e 124,.e 125,.e 126,.e 127,.e 128,.e 129,.e 130]⟩,
 ⟨133,.w2 .i64 .sub,[.e 106,.c (.int 1)]⟩]
def FW:List En:=mm++(mC)
def eX:List ObE:=[⟨some 109,.inr,[.e 111,.e 1]⟩,⟨some 109,.inr,[.e 106,.e 1]⟩,⟨some 109,.inr,[.e 106,.e 1]⟩,⟨some 109,.inr,[.e 112,.e 1]⟩]
def Qy:Aa:=mkD 106 2 FW 109 [.e 133,.e 132] eX [77,74,1]
def U1:List Rf:=[.e 77,.e 74,.e 1,.e 3,.e 0]
def mL:List En:=[AC5 134 69 71,
 ADM 135 2 4,
 ⟨136,.w1 .u64,[.e 135]⟩,
 ⟨137,.o2 .div,[.e 136,.c (.int 2)]⟩,
 ADM 138 137 3,
 AC7 139 137 3,
 AC4 140 134 139,
 ADN 141 138 4,
 AC5 142 134 139,
 ADC 143 139 137 3,
 ADC 144 139 141 2,
 ⟨145,.w2 .i64 .sub,[.e 138,.c (.int 1)]⟩]
def P8:List En:=mL
def mc:List En:=[AC7 148 147 146,
 AC4 149 134 148,
 AC5 150 134 148,
 ADM 151 147 146,
 ⟨152,.w1 .u64,[.e 151]⟩,
 ⟨153,.o2 .div,[.e 152,.c (.int 2)]⟩,
 ADN 154 145 153,
 ADE 155 0 154,
 AC8 156 0 154,
 AC9 157 0 154,
 ADH 158 0 154,
 ADF 159 0 154,
 ADG 160 0 154,
 ADI 161 0 154,
 ADJ 162 0 154,
 ADK 163 0 154]
def oT:List En:=[ADE 164 0 153,
 AC8 165 0 153,
 AC9 166 0 153,
 ADH 167 0 153,
 ADF 168 0 153,
 ADG 169 0 153,
 ADI 170 0 153,
 ADJ 171 0 153,
 ADK 172 0 153,
 ⟨173,.outI "cmpB.0" IA,uz⟩,
 ⟨174,.lt,[.e 173,.c (.int 0)]⟩,
 AC4 175 149 174,
 AC5 176 149 174,
 ⟨177,.w2 .i64 .add,[.e 153,.c (.int 1)]⟩,
 ADC 178 174 153 146,
 ADC 179 174 147 177]
def IN:List En:=mc++(oT)
def fG:List ObE:=[⟨some 149,.inr,[.e 153,.e 1]⟩,⟨some 149,.inr,[.e 154,.e 1]⟩]
def Qg:Aa:=mkD 146 2 IN 149 [.e 178,.e 179] fG [0,145,134,1]
def Ux:List Rf:=[.e 0,.e 145,.e 134,.e 1,.e 143,.e 144]
def mR:List En:=[ADN 180 138 147,
 AC7 181 147 3,
 AC4 182 150 181,
 AC7 183 3 180,
 AC4 184 181 183,
 AC4 185 150 184,
 ⟨186,.outL "rotB.0" QB,[.e 0,.e 1,.e 147,.e 3,.e 180]⟩,
 AC5 187 150 184,
 ADD 188 184 186 0,
 AC7 189 2 147,
 AC4 190 150 189,
 AC7 191 147 137,
 AC4 192 189 191,
 AC4 193 150 192,
 ⟨194,.outL "symB.0" IW,[.e 188,.e 1,.e 2,.e 147,.e 137]⟩,
 AC5 195 150 192]
def m8:List En:=[ADD 196 192 194 188,
 AC7 197 137 180,
 AC4 198 150 197,
 AC7 199 180 4,
 AC4 200 197 199,
 AC4 201 150 200,
 ⟨202,.outL "symB.0" IW,[.e 196,.e 1,.e 137,.e 180,.e 4]⟩,
 AC5 203 150 200,
 ADD 204 200 202 196,
 ADD 205 45 41 107,
 AC6 206 45 110,
 ADD 207 206 205 204]
def fN:List En:=mR++(m8)
def AAd (o:Nat):List ObE:=[⟨some 201,.pre "symB.p0" (Fe o),[.e 196,.e 1,.e 137,.e 180,.e 4]⟩,
 ⟨some 193,.pre "symB.p0" (Fe o),[.e 188,.e 1,.e 2,.e 147,.e 137]⟩,
 ⟨some 185,.pre "rotB.p0" NN,[.e 0,.e 1,.e 147,.e 3,.e 180]⟩,
 ⟨some 134,.owes Qg,[.e 0,.e 145,.e 134,.e 1,.e 143,.e 144]⟩,
 ⟨some 77,.owes Qy,[.e 77,.e 74,.e 1,.e 3,.e 0]⟩,
 ⟨some 72,.owes Pn,[.e 0,.e 3,.e 72,.e 1,.e 3,.e 2]⟩,
 ⟨some 11,.owes RF,[.e 11,.e 8,.e 1,.e 2,.e 0]⟩,
 ⟨some 6,.owes P1,[.e 0,.e 2,.e 6,.e 1,.e 4,.e 3]⟩]
def qg:List Rf:=[.e 207]
end
section
open Go Go.Eng Go.Proofs
set_option maxHeartbeats 4000000
set_option maxRecDepth 100000
variable {o:Nat}
theorem AAN:(Dc (o+1)).sees qg ((Dc (o+1)).runB Try.prog [(101,Mr),(148,Me),(145,Dc o)] Ab 3000 20 145)=some ((Eg++((Ad P1 [.i,.i] UR)++(Ck++(Mj++((Ad RF [.i,.l] Un)++(Db++(Hz++((Ad Pn [.i,.i] Uw)++(D0++(UW++((Ad Qy [.i,.l] U1)++(FW++(P8++((Ad Qg [.i,.i] Ux)++(IN++(fN)))))))))))))))).map En.be,(AAd o).map ObE.be,[]):=by kernel_rfl
theorem ya (l1:AW Try.prog 145 (Dc o)):AW Try.prog 145 (Dc (o+1)):=by
 refine Wr (l:=[(101,Mr),(148,Me),(145,Dc o)]) A8 (by simp only[ABT];exact⟨jN,ym,l1,fun _ h=>absurd h (by simp)⟩) AAN (by kernel_rfl) fun T us k2 hT cx hS lx w=>?_;change us.length=5 at cx;obtain⟨⟨k0,lT⟩,⟨k6,kQ⟩,-⟩:=lx;replace k0:(L T 0).length<=140737488355328:=k0;have kX:∀u∈(L T 0),AL AB KB u:=fun u lW=>by
  obtain⟨i,Y⟩:=ABZ.1 lW;exact lT i u Y
 replace k6:0<=I T 1:=k6;replace kQ:I T 1<=140737488355328:=kQ;have kH:=inL (j:=0) hT cx (by decide);have lI:=inI (j:=1) hT cx (by decide);have kM:=inI (j:=2) hT cx (by decide);have lM:=inI (j:=3) hT cx (by decide);have kP:=inI (j:=4) hT cx (by decide);have X:(I T 4).toNat - (I T 2).toNat < (o+1)/\(L T 0).length=I T 1/\0<=I T 2/\I T 2 < I T 3/\I T 3 < I T 4/\I T 4<=I T 1/\Srt ltB (seg (L T 0) (I T 2).toNat (I T 3).toNat)/\Srt ltB (seg (L T 0) (I T 3).toNat (I T 4).toNat)/\Dst ltB (seg (L T 0) (I T 2).toNat (I T 4).toNat):=by
  have h:=k2 (.s "symB.p0",Fe (o+1)) (by simp[Dc]);change Fe (o+1) us at h;unfold Fe at h;simp only[kH,lI,kM,lM,kP] at h;exact h
 clear k2;rw[ABI,ABI,ABI,ABI,ABI,ABI,ABI,ABI,ABI,ABI,ABI,ABI,ABI,ABI,ABI] at w;obtain⟨Z,w⟩:=cutB w;obtain⟨hH,w⟩:=cutB w;obtain⟨M,w⟩:=cutB w;obtain⟨A0,N⟩:=AN hS (by kernel_rfl) Z;refine ACw (Ap (nh:=7) (k:=2) (pcn:=10) (an:=40) (H:=Ck) (K:=fQ) (nxt:=[.e 38,.e 39]) (A:=[.e 4,.e 3]) (fv:=[0,2,6,1]) (R:=[.i,.i]) (by kernel_rfl) rfl rfl rfl rfl N (by kernel_rfl) (by kernel_rfl) M (Ae hH) (fun s=>ACc T (aI s 0) (aI s 1)) (fun s=>((aI s 0) - (aI s 1)).toNat)) ?_ ?_ fun⟨mh,ad,cy,mb⟩=>?_
 .show ACc T (I T 4) (I T 3);obtain⟨p0,Q,V,p3,p4,W,r,q,d⟩:=X;exact⟨ABt _,by omega,ABt _,.inl rfl,.inl rfl⟩
 .intro J D v P;replace P:ACc T (I J 7) (I J 8):=P;replace v:AE J Ck:=v;obtain⟨F0,v⟩:=v.cut;have F1:=v;clear v;have d3:=fvL (D 0 (by decide));have lr:=fvI (D 2 (by decide));have n0:=fvB (D 6 (by decide));have e1:=fvI (D 1 (by decide));clear D;obtain⟨e9,b4,-,c3,c4,c6,h5,-,iv,-,-,-,-,-,-,i3,-⟩:=id F0;obtain⟨-,i4,-,-,-,-,-,-,gG,i5,-,gH,-,g0,g1,-⟩:=id F1;replace gG:I J 33=(if BV (I J 17) (I J 26)=0 then BV (I J 15) (I J 24) else BV (I J 17) (I J 26)):=gG;simp only[AD,AG,zR,BY,w2P,zL,zS] at e9 b4 c3 c4 c6 h5 iv i3 i4 i5 gH g0 g1;obtain⟨p0,Q,V,p3,p4,W,r,q,d⟩:=X;obtain⟨v1,v2,v3,g,t⟩:=P
  suffices hz:(B J 10=true->0<=I J 2/\I J 2 < I J 1)/\(B J 10=true->0<=I J 14/\I J 14 < I J 1)/\(B J 10=true->(ACc T (I J 38) (I J 39)))/\(B J 10=true->(I J 38 - (I J 39)).toNat < (I J 7 - (I J 8)).toNat) from
   let⟨r0,ax,nx,mz⟩:=hz;⟨⟨r0,ax,trivial⟩,fun c=>⟨nx c,mz c⟩⟩
  refine⟨?_,?_,?_,?_⟩
  iterate 2
   .intro c;have h9:=e9.1 (b4.1 c).2;have cc:=o2' c3 (by omega);have ce:=c4.trans (DP (by omega) (by omega));have ho:I J 14=(I J 8+I J 7) / 2:=by rw[c6,ce,cc]
    clear r q d g t;omega
  .intro c;have h9:=e9.1 (b4.1 c).2;have cc:=o2' c3 (by omega);have ce:=c4.trans (DP (by omega) (by omega));have ho:I J 14=(I J 8+I J 7) / 2:=by rw[c6,ce,cc]
   have k5:B J 34=true↔ltB ((L T 0).getD (I J 14).toNat []) ((L T 0).getD (I T 2).toNat [])=true:=by
    rw[i5,gG,h5,iv,i3,i4,d3,lr];exact (decide_eq_true_iff (p:=ct _ _ < 0)).symm
   have nm:=o2' gH (by omega);rw[g0,g1];by_cases cv:B J 34=true
   .rw[ACE cv,ACE cv];refine⟨by omega,by omega,v3,.inr ?_,t⟩;rw[show (I J 36 - 1).toNat=(I J 14).toNat by omega];exact k5.1 cv
   .rw[ACD cv,ACD cv];exact⟨v1,by omega,by omega,g,.inr fun h=>cv (k5.2 h)⟩
  .intro c;have h9:=e9.1 (b4.1 c).2;have cc:=o2' c3 (by omega);have ce:=c4.trans (DP (by omega) (by omega));have ho:I J 14=(I J 8+I J 7) / 2:=by rw[c6,ce,cc]
   have nm:=o2' gH (by omega);rw[g0,g1];clear r q d g t;split<;>omega
 replace cy:I T 3<=I T 8/\I T 8<=I T 7/\I T 7<=I T 4/\(I T 8=I T 3\/ltB ((L T 0).getD (I T 8 - 1).toNat []) ((L T 0).getD (I T 2).toNat [])=true)/\(I T 7=I T 4\/¬ltB ((L T 0).getD (I T 7).toNat []) ((L T 0).getD (I T 2).toNat [])=true):=cy;have bt:=(AN (ad.append N) (l:=Ck) (by kernel_rfl) M);obtain⟨B0,hS⟩:=bt;clear Z M hH N ad;obtain⟨Z,w⟩:=cutB w;obtain⟨hH,w⟩:=cutB w;obtain⟨M,w⟩:=cutB w;obtain⟨A1,N⟩:=AN hS (by kernel_rfl) Z;have F0:=A0;obtain⟨F1,B0⟩:=B0.cut;have F2:=B0;have n6:I T 3<=I T 8/\I T 8<=I T 4:=by
  exact⟨cy.1,by have:=cy.2.1;have:=cy.2.2.1;omega⟩
 refine ACw (Ap (nh:=40) (k:=2) (pcn:=44) (an:=69) (H:=Db) (K:=fV) (nxt:=[.e 68,.e 67]) (A:=[.e 2,.e 0]) (fv:=[11,8,1]) (R:=[.i,.l]) (by kernel_rfl) rfl rfl rfl rfl N (by kernel_rfl) (by kernel_rfl) M (Ae hH) (fun s=>ACe T (aI s 0) (aL s 1)) (fun s=>(I T 8 - (aI s 0)).toNat)) ?_ ?_ fun⟨mo,ad,hc,md⟩=>?_
 .show ACe T (I T 2) (L T 0);obtain⟨p0,Q,V,p3,p4,W,r,q,d⟩:=X;exact⟨ABt _,by omega,Q,kX,(Ie (.inr rfl) (by omega) (ABB _) (by omega)).symm⟩
 .intro J D v P;replace P:ACe T (I J 40) (L J 41):=P;replace v:AE J Db:=v;obtain⟨F0,v⟩:=v.cut;have F1:=v;clear v;have nX:=fvB (D 11 (by decide));have n4:=fvI (D 8 (by decide));have e1:=fvI (D 1 (by decide));clear D;obtain⟨ba,a4,bb,-,bc,bi,i6,i7,i8,i9,jp,jw,jM,j0,j1,j2,-⟩:=id F0;obtain⟨j3,j6,ka,kb,kc,ke,kf,kg,ki,kj,g3,-⟩:=id F1;simp only[AD,AG,zR,w2P,zL,zS,uR,zW,zC] at ba a4 bb bc bi i6 i7 i8 i9 jp jw jM j0 j1 j2 j3 j6 ka kb kc ke kf kg ki kj g3;obtain⟨p0,Q,V,p3,p4,W,r,q,d⟩:=X;obtain⟨v1,v2,v3,g,t⟩:=P
  suffices hz:(B J 44=true->0<=I J 46/\I J 46 < I J 1)/\(B J 44=true->0<=I J 40/\I J 40 < I J 1)/\(B J 44=true->0<=I J 40/\I J 40 < I J 1)/\(B J 44=true->0<=I J 47/\I J 47 < I J 1)/\(B J 44=true->(ACe T (I J 68) (L J 67)))/\(B J 44=true->(I T 8 - (I J 68)).toNat < (I T 8 - (I J 40)).toNat) from
   let⟨r0,ax,aK,r3,nx,mz⟩:=hz;⟨⟨r0,ax,aK,r3,trivial⟩,fun c=>⟨nx c,mz c⟩⟩
  refine⟨?_,?_,?_,?_,?_,?_⟩
  iterate 4
   .intro c;have d7:=a4.1 (bb.1 c).2;have zz:True:=by have _:=bc;have _:=bi;trivial
    have c2:=o2' ba (by omega);have e8:=o2' bc (by omega);have fd:=o2' bi (by omega);clear r q d;omega
  .intro c;have d7:=a4.1 (bb.1 c).2;have c2:=o2' ba (by omega);have e8:=o2' bc (by omega);have fd:=o2' bi (by omega);have np:=o2' g3 (by omega);clear r q d;have jA:(I J 40).toNat < (L J 41).length:=by omega
   have jB:(I J 40).toNat+1 < (L J 41).length:=by omega
   have sA:=g _ (Aq jA);have sB:=g _ (Aq jB);have C:L J 66=(L J 41).set ((I J 40).toNat) ((L J 41).getD ((I J 40).toNat+1) []):=by
    rw[ki,i6,i7,i8,i9,jp,jw,jM,j0,j1,show (I J 47).toNat=(I J 40).toNat+1 by omega];exact SI g jA sB
   have k1:∀u∈(L J 66),AL AB KB u:=by rw[C];exact Bi g sB
   have O:L J 67=(L J 66).set ((I J 40).toNat+1) ((L J 41).getD ((I J 40).toNat) []):=by
    rw[kj,j2,j3,j6,ka,kb,kc,ke,kf,kg,show (I J 46).toNat=(I J 40).toNat+1 by omega];exact SI k1 (by rw[C,ABr];exact jB) sA
   have E:∀u∈(L J 67),AL AB KB u:=by rw[O];exact Bi k1 sA
   have aB:(L J 67).length=(L J 41).length:=by rw[O,C,ABr,ABr]
   refine⟨by omega,by omega,by rw[aB];exact v3,E,?_⟩;rw[O,C,pA t (by omega) (by omega),show (I J 68).toNat=(I J 40).toNat+1 by omega]
  .intro c;have d7:=a4.1 (bb.1 c).2;have c2:=o2' ba (by omega);have np:=o2' g3 (by omega);clear r q d;omega
 replace hc:I T 2<=I T 40/\I T 40<=I T 8 - 1/\(L T 41).length=I T 1/\(∀u∈(L T 41),AL AB KB u)/\L T 41=Bp (L T 0) (I T 2).toNat ((I T 2).toNat+1) ((I T 40).toNat+1):=hc;have bt:=(AN (ad.append N) (l:=Db) (by kernel_rfl) M);obtain⟨B1,hS⟩:=bt;clear Z M hH N ad;obtain⟨Z,w⟩:=cutB w;obtain⟨hH,w⟩:=cutB w;obtain⟨M,w⟩:=cutB w;obtain⟨A2,N⟩:=AN hS (by kernel_rfl) Z;refine ACw (Ap (nh:=73) (k:=2) (pcn:=76) (an:=106) (H:=D0) (K:=bB) (nxt:=[.e 104,.e 105]) (A:=[.e 3,.e 2]) (fv:=[0,3,72,1]) (R:=[.i,.i]) (by kernel_rfl) rfl rfl rfl rfl N (by kernel_rfl) (by kernel_rfl) M (Ae hH) (fun s=>ACf T (aI s 0) (aI s 1)) (fun s=>((aI s 0) - (aI s 1)).toNat)) ?_ ?_ fun⟨mp,ad,c0,me⟩=>?_
 .show ACf T (I T 3) (I T 2);obtain⟨p0,Q,V,p3,p4,W,r,q,d⟩:=X;exact⟨ABt _,by omega,ABt _,.inl rfl,.inl rfl⟩
 .intro J D v P;replace P:ACf T (I J 73) (I J 74):=P;replace v:AE J D0:=v;obtain⟨F0,v⟩:=v.cut;have F1:=v;clear v;have d3:=fvL (D 0 (by decide));have ls:=fvI (D 3 (by decide));have n1:=fvB (D 72 (by decide));have e1:=fvI (D 1 (by decide));clear D;obtain⟨bo,b6,-,d0,d1,d2,kk,-,kl,-,-,-,-,-,-,kn,-⟩:=id F0;obtain⟨-,kp,-,-,-,-,-,-,g6,hx,-,-,f5,f6,f7,-⟩:=id F1;replace g6:I J 99=(if BV (I J 83) (I J 92)=0 then BV (I J 81) (I J 90) else BV (I J 83) (I J 92)):=g6;simp only[AD,AG,zR,BY,w2P,zL,zS] at bo b6 d0 d1 d2 kk kl kn kp hx f5 f6 f7;obtain⟨p0,Q,V,p3,p4,W,r,q,d⟩:=X;obtain⟨v1,v2,v3,g,t⟩:=P
  suffices hz:(B J 76=true->0<=I J 80/\I J 80 < I J 1)/\(B J 76=true->0<=I J 3/\I J 3 < I J 1)/\(B J 76=true->(ACf T (I J 104) (I J 105)))/\(B J 76=true->(I J 104 - (I J 105)).toNat < (I J 73 - (I J 74)).toNat) from
   let⟨r0,ax,nx,mz⟩:=hz;⟨⟨r0,ax,trivial⟩,fun c=>⟨nx c,mz c⟩⟩
  refine⟨?_,?_,?_,?_⟩
  iterate 2
   .intro c;have g9:=bo.1 (b6.1 c).2;have ci:=o2' d0 (by omega);have cj:=d1.trans (DP (by omega) (by omega));have hq:I J 80=(I J 74+I J 73) / 2:=by rw[d2,cj,ci]
    clear r q d g t;omega
  .intro c;have g9:=bo.1 (b6.1 c).2;have ci:=o2' d0 (by omega);have cj:=d1.trans (DP (by omega) (by omega));have hq:I J 80=(I J 74+I J 73) / 2:=by rw[d2,cj,ci]
   have k4:B J 100=true↔ltB ((L T 0).getD (I T 3).toNat []) ((L T 0).getD (I J 80).toNat [])=true:=by
    rw[hx,g6,kk,kl,kn,kp,d3,ls];exact (decide_eq_true_iff (p:=ct _ _ < 0)).symm
   have m4:=o2' f5 (by omega);rw[f6,f7];by_cases h:B J 100=true
   .rw[ACE h,ACE h];exact⟨v1,by omega,by omega,g,.inr (k4.1 h)⟩
   .rw[ACD h,ACD h];refine⟨by omega,by omega,v3,.inr ?_,t⟩;rw[show (I J 103 - 1).toNat=(I J 80).toNat by omega];exact fun O=>h (k4.2 O)
  .intro c;have g9:=bo.1 (b6.1 c).2;have ci:=o2' d0 (by omega);have cj:=d1.trans (DP (by omega) (by omega));have hq:I J 80=(I J 74+I J 73) / 2:=by rw[d2,cj,ci]
   have m4:=o2' f5 (by omega);rw[f6,f7];clear r q d g t;split<;>omega
 replace c0:I T 2<=I T 74/\I T 74<=I T 73/\I T 73<=I T 3/\(I T 74=I T 2\/¬ltB ((L T 0).getD (I T 3).toNat []) ((L T 0).getD (I T 74 - 1).toNat [])=true)/\(I T 73=I T 3\/ltB ((L T 0).getD (I T 3).toNat []) ((L T 0).getD (I T 73).toNat [])=true):=c0;have bt:=(AN (ad.append N) (l:=D0) (by kernel_rfl) M);obtain⟨B2,hS⟩:=bt;clear Z M hH N ad;obtain⟨Z,w⟩:=cutB w;obtain⟨hH,w⟩:=cutB w;obtain⟨M,w⟩:=cutB w;obtain⟨A3,N⟩:=AN hS (by kernel_rfl) Z;obtain⟨F3,B1⟩:=B1.cut;have F4:=B1;have F5:=A2;obtain⟨F6,B2⟩:=B2.cut;have F7:=B2;have n5:I T 2<=I T 74/\I T 74<=I T 3:=by
  exact⟨c0.1,by have:=c0.2.1;have:=c0.2.2.1;omega⟩
 refine ACw (Ap (nh:=106) (k:=2) (pcn:=109) (an:=134) (H:=FW) (K:=eX) (nxt:=[.e 133,.e 132]) (A:=[.e 3,.e 0]) (fv:=[77,74,1]) (R:=[.i,.l]) (by kernel_rfl) rfl rfl rfl rfl N (by kernel_rfl) (by kernel_rfl) M (Ae hH) (fun s=>ACp T (aI s 0) (aL s 1)) (fun s=>((aI s 0)).toNat)) ?_ ?_ fun⟨mr,ad,he,mf⟩=>?_
 .show ACp T (I T 3) (L T 0);obtain⟨p0,Q,V,p3,p4,W,r,q,d⟩:=X;exact⟨by omega,ABt _,Q,kX,(Ie (.inl rfl) (ABB _) (by omega) (by omega)).symm⟩
 .intro J D v P;replace P:ACp T (I J 106) (L J 107):=P;replace v:AE J FW:=v;obtain⟨F0,v⟩:=v.cut;have F1:=v;clear v;have n3:=fvB (D 77 (by decide));have n2:=fvI (D 74 (by decide));have e1:=fvI (D 1 (by decide));clear D;obtain⟨a3,a7,-,a8,a9,hy,hA,hB,hC,hD,hE,hF,hG,hI,hK,hL,-⟩:=id F0;obtain⟨hM,hN,hO,hP,hQ,hR,hU,hV,hW,gd,-⟩:=id F1;simp only[AD,AG,zR,w2P,zL,zS,uR,zW,zC] at a3 a7 a8 a9 hy hA hB hC hD hE hF hG hI hK hL hM hN hO hP hQ hR hU hV hW gd;obtain⟨p0,Q,V,p3,p4,W,r,q,d⟩:=X;obtain⟨v1,v2,v3,g,t⟩:=P
  suffices hz:(B J 109=true->0<=I J 111/\I J 111 < I J 1)/\(B J 109=true->0<=I J 106/\I J 106 < I J 1)/\(B J 109=true->0<=I J 106/\I J 106 < I J 1)/\(B J 109=true->0<=I J 112/\I J 112 < I J 1)/\(B J 109=true->(ACp T (I J 133) (L J 132)))/\(B J 109=true->(I J 133).toNat < (I J 106).toNat) from
   let⟨r0,ax,aK,r3,nx,mz⟩:=hz;⟨⟨r0,ax,aK,r3,trivial⟩,fun c=>⟨nx c,mz c⟩⟩
  refine⟨?_,?_,?_,?_,?_,?_⟩
  iterate 4
   .intro c;have d4:=a3.1 (a7.1 c).2;have zz:True:=by have _:=a8;have _:=a9;trivial
    have e3:=o2' a8 (by omega);have e4:=o2' a9 (by omega);clear r q d;omega
  .intro c;have d4:=a3.1 (a7.1 c).2;have e3:=o2' a8 (by omega);have e4:=o2' a9 (by omega);have m5:=o2' gd (by omega);clear r q d;have jA:(I J 106).toNat < (L J 107).length:=by omega
   have jB:(I J 106).toNat - 1 < (L J 107).length:=by omega
   have sA:=g _ (Aq jA);have sB:=g _ (Aq jB);have C:L J 131=(L J 107).set ((I J 106).toNat) ((L J 107).getD ((I J 106).toNat - 1) []):=by
    rw[hV,hy,hA,hB,hC,hD,hE,hF,hG,hI,show (I J 112).toNat=(I J 106).toNat - 1 by omega];exact SI g jA sB
   have k1:∀u∈(L J 131),AL AB KB u:=by rw[C];exact Bi g sB
   have O:L J 132=(L J 131).set ((I J 106).toNat - 1) ((L J 107).getD ((I J 106).toNat) []):=by
    rw[hW,hK,hL,hM,hN,hO,hP,hQ,hR,hU,show (I J 111).toNat=(I J 106).toNat - 1 by omega];exact SI k1 (by rw[C,ABr];exact jB) sA
   have E:∀u∈(L J 132),AL AB KB u:=by rw[O];exact Bi k1 sA
   have aB:(L J 132).length=(L J 107).length:=by rw[O,C,ABr,ABr]
   refine⟨by omega,by omega,by rw[aB];exact v3,E,?_⟩;rw[O,C,dV t (by omega) (by omega) (by omega),show (I J 133).toNat=(I J 106).toNat - 1 by omega]
  .intro c;have d4:=a3.1 (a7.1 c).2;have m5:=o2' gd (by omega);clear r q d;omega
 replace he:I T 74<=I T 106/\I T 106<=I T 3/\(L T 107).length=I T 1/\(∀u∈(L T 107),AL AB KB u)/\L T 107=Bp (L T 0) (I T 106).toNat (I T 3).toNat ((I T 3).toNat+1):=he;have bt:=(AN (ad.append N) (l:=FW) (by kernel_rfl) M);obtain⟨B3,hS⟩:=bt;clear Z M hH N ad;obtain⟨Z,w⟩:=cutB w;obtain⟨hH,w⟩:=cutB w;obtain⟨M,w⟩:=cutB w;obtain⟨A4,N⟩:=AN hS (by kernel_rfl) Z;obtain⟨F8,B3⟩:=B3.cut;have F9:=B3;have f4:=A4;have g7:2*I T 137<=I T 2+I T 4/\I T 2+I T 4 < 2*I T 137+2/\I T 138=I T 137+I T 3/\I T 145=I T 138 - 1/\((I T 137 < I T 3/\I T 143=I T 137/\I T 144=I T 138 - (I T 4))\/(I T 3<=I T 137/\I T 143=I T 3/\I T 144=I T 2)):=by
  obtain⟨-,hX,hZ,h0,h1,ge,-,h2,-,gi,gk,h4,-⟩:=f4;simp only[AD,AG,zR,BY,w2P,zL,zS] at hX hZ h0 h1 ge h2 gi gk h4;obtain⟨p0,Q,V,p3,p4,W,r,q,d⟩:=X;clear r q d;have m7:=o2' hX (by omega);have na:=hZ.trans (DP (by omega) (by omega));have os:I T 137=(I T 2+I T 4) / 2:=by rw[h0,na,m7]
  have nb:=o2' h1 (by omega);have nd:=o2' h2 (by omega);have ne:=o2' h4 (by omega);refine⟨by omega,by omega,nb,ne,?_⟩;by_cases h:B T 139=true
  .rw[gi,gk,ACE h,ACE h];exact .inl ⟨ge.1 h,rfl,nd⟩
  .rw[gi,gk,ACD h,ACD h];have O:¬I T 137 < I T 3:=fun z=>h (ge.2 z);exact .inr ⟨by omega,rfl,rfl⟩
 refine ACw (Ap (nh:=146) (k:=2) (pcn:=149) (an:=180) (H:=IN) (K:=fG) (nxt:=[.e 178,.e 179]) (A:=[.e 143,.e 144]) (fv:=[0,145,134,1]) (R:=[.i,.i]) (by kernel_rfl) rfl rfl rfl rfl N (by kernel_rfl) (by kernel_rfl) M (Ae hH) (fun s=>ACu T (aI s 0) (aI s 1)) (fun s=>((aI s 0) - (aI s 1)).toNat)) ?_ ?_ fun⟨ms,ad,hf,mg⟩=>?_
 .show ACu T (I T 143) (I T 144);obtain⟨p0,Q,V,p3,p4,W,r,q,d⟩:=X;obtain⟨kq,au,kr,kt,ku⟩:=g7;exact⟨ABt _,by omega,ABt _,.inl rfl,.inl rfl⟩
 .intro J D v P;replace P:ACu T (I J 146) (I J 147):=P;replace v:AE J IN:=v;obtain⟨F0,v⟩:=v.cut;have F1:=v;clear v;have d3:=fvL (D 0 (by decide));have lq:=fvI (D 145 (by decide));have nY:=fvB (D 134 (by decide));have e1:=fvI (D 1 (by decide));clear D;obtain⟨bm,b5,-,c7,c8,c9,b8,h7,-,ie,-⟩:=id F0;obtain⟨ih,-,ik,-,-,-,-,-,-,gl,ix,-,-,gm,gn,gp,-⟩:=id F1;replace gl:I J 173=(if BV (I J 157) (I J 166)=0 then BV (I J 155) (I J 164) else BV (I J 157) (I J 166)):=gl;simp only[AD,AG,zR,BY,w2P,zL,zS] at bm b5 c7 c8 c9 b8 h7 ie ih ik ix gm gn gp;obtain⟨p0,Q,V,p3,p4,W,r,q,d⟩:=X;obtain⟨kq,au,kr,kt,ku⟩:=g7;obtain⟨v1,v2,v3,g,t⟩:=P
  suffices hz:(B J 149=true->0<=I J 153/\I J 153 < I J 1)/\(B J 149=true->0<=I J 154/\I J 154 < I J 1)/\(B J 149=true->(ACu T (I J 178) (I J 179)))/\(B J 149=true->(I J 178 - (I J 179)).toNat < (I J 146 - (I J 147)).toNat) from
   let⟨r0,ax,nx,mz⟩:=hz;⟨⟨r0,ax,trivial⟩,fun c=>⟨nx c,mz c⟩⟩
  refine⟨?_,?_,?_,?_⟩
  iterate 2
   .intro c;have d5:=bm.1 (b5.1 c).2;have zz:True:=by have _:=b8;trivial
    have cf:=o2' c7 (by omega);have ch:=c8.trans (DP (by omega) (by omega));have hp:I J 153=(I J 147+I J 146) / 2:=by rw[c9,ch,cf]
    have e7:=o2' b8 (by omega);clear r q d g t;omega
  .intro c;have d5:=bm.1 (b5.1 c).2;have cf:=o2' c7 (by omega);have ch:=c8.trans (DP (by omega) (by omega));have hp:I J 153=(I J 147+I J 146) / 2:=by rw[c9,ch,cf]
   have e7:=o2' b8 (by omega);have hg:B J 174=true↔ltB ((L T 0).getD (I J 154).toNat []) ((L T 0).getD (I J 153).toNat [])=true:=by
    rw[ix,gl,h7,ie,ih,ik,d3];exact (decide_eq_true_iff (p:=ct _ _ < 0)).symm
   have nk:=o2' gm (by omega);rw[gn,gp];rw[e7,lq] at hg;by_cases h:B J 174=true
   .rw[ACE h,ACE h];exact⟨v1,by omega,by omega,g,.inr (hg.1 h)⟩
   .rw[ACD h,ACD h];refine⟨by omega,by omega,v3,.inr ?_,t⟩;rw[show (I J 177) - 1=(I J 153) by omega];exact fun O=>h (hg.2 O)
  .intro c;have d5:=bm.1 (b5.1 c).2;have cf:=o2' c7 (by omega);have ch:=c8.trans (DP (by omega) (by omega));have hp:I J 153=(I J 147+I J 146) / 2:=by rw[c9,ch,cf]
   have e7:=o2' b8 (by omega);have nk:=o2' gm (by omega);rw[gn,gp];clear r q d g t;split<;>omega
 replace hf:I T 144<=I T 147/\I T 147<=I T 146/\I T 146<=I T 143/\(I T 147=I T 144\/¬ltB ((L T 0).getD (I T 145 - (I T 147 - 1)).toNat []) ((L T 0).getD (I T 147 - 1).toNat [])=true)/\(I T 146=I T 143\/ltB ((L T 0).getD (I T 145 - (I T 146)).toNat []) ((L T 0).getD (I T 146).toNat [])=true):=hf;have bt:=(AN (ad.append N) (l:=IN) (by kernel_rfl) M);obtain⟨B4,hS⟩:=bt;clear Z M hH N ad;obtain⟨A5,lH⟩:=Ao (R:=[.l]) (ai:=qg) hS (by kernel_rfl) w;obtain⟨hu,B4⟩:=B4.cut;have nK:=B4;obtain⟨ey,A5⟩:=A5.cut;have hv:=A5;have sf:B T 134=true->B T 150=true/\I T 2<=I T 147/\I T 147<=I T 3/\I T 3<=I T 180/\I T 180<=I T 4/\I T 137+I T 3=I T 147+I T 180/\I T 2 < I T 137/\I T 137 < I T 4/\(I T 147=I T 2\/I T 180=I T 4\/¬ltB ((L T 0).getD (I T 180).toNat []) ((L T 0).getD ((I T 147).toNat - 1) [])=true)/\(I T 180=I T 3\/I T 147=I T 3\/ltB ((L T 0).getD ((I T 180).toNat - 1) []) ((L T 0).getD (I T 147).toNat [])=true):=by
  obtain⟨e5,e6,-⟩:=F0;obtain⟨b9,ds,dv,-⟩:=F5;obtain⟨c5,-⟩:=f4;obtain⟨bm,b5,b7,-⟩:=hu;obtain⟨iz,-⟩:=ey;simp only[AD,AG,zN,zR,w2P] at e5 e6 b9 ds dv c5 bm b5 b7 iz;obtain⟨p0,Q,V,p3,p4,W,r,q,d⟩:=X;obtain⟨kq,au,kr,kt,ku⟩:=g7;obtain⟨v1,v2,v3,g,t⟩:=hf;intro F;have d5:¬I T 147 < I T 146:=fun h=>mg (b5.2 ⟨F,bm.2 h⟩);have bk:=b7.2 ⟨F,by cases hb:B T 148;rfl;exact absurd (bm.1 hb) d5⟩;obtain⟨d9,ca⟩:=c5.1 F;have aa:I T 147=I T 146:=by omega
  have oi:¬I T 5=1:=fun h=>by rw[e6.2 h] at b9;simp at b9;rw[b9] at d9;cases d9
  have oj:¬I T 70=1:=fun h=>by rw[dv.2 h] at ca;cases ca
  have x5:=o2' e5 (by omega);have ns:=o2' ds (by omega);have oA:=o2' iz (by omega);refine⟨bk,by omega,by omega,by omega,by omega,by omega,by omega,by omega,?_,?_⟩
  .rcases g with g|g
   .omega
   .refine .inr (.inr ?_);rw[show (I T 180).toNat=(I T 145 - (I T 147 - 1)).toNat by omega,show (I T 147).toNat - 1=(I T 147 - 1).toNat by omega];exact g
  .rcases t with t|t
   .omega
   .refine .inr (.inr ?_);rw[show (I T 180).toNat - 1=(I T 145 - (I T 146)).toNat by omega,aa];exact t
 have sg:B T 134=true->(L T 188).length=(L T 0).length/\L T 188=Bp (L T 0) (I T 147).toNat (I T 3).toNat (I T 180).toNat:=by
  obtain⟨-,db,-,dd,cl,-,gr,-,iF,-⟩:=ey;replace gr:L T 186=(BI (L T 0) (rtS (I T 147).toNat (I T 3).toNat (I T 180).toNat)):=gr;simp only[AD,AG,zR,zL,zS] at db dd cl iF;obtain⟨p0,Q,V,p3,p4,W,r,q,d⟩:=X;intro F;obtain⟨bk,q1,q2,q3,q4,q5,-⟩:=sf F;have hr:L T 188=Bp (L T 0) (I T 147).toNat (I T 3).toNat (I T 180).toNat:=by
   rw[iF];by_cases h:B T 184=true
   .rw[ACE h,gr];exact jT (by omega) (by omega) (by omega)
   .rw[ACD h];refine (Ie ?_ (by omega) (by omega) (by omega)).symm;by_cases O:I T 147 < I T 3
    .by_cases h3:I T 3 < I T 180
     .exact absurd (cl.2 ⟨db.2 O,dd.2 h3⟩) h
     .omega
    .omega
  exact⟨by rw[hr,EZ]<;>omega,hr⟩
 have sh:B T 134=true->L T 196=AQ ltB (L T 188) (I T 2).toNat (I T 137).toNat/\L T 204=AQ ltB (L T 196) (I T 137).toNat (I T 4).toNat/\(Srt ltB (seg (L T 188) (I T 2).toNat (I T 147).toNat)/\Srt ltB (seg (L T 188) (I T 147).toNat (I T 137).toNat)/\Dst ltB (seg (L T 188) (I T 2).toNat (I T 137).toNat))/\(L T 196).length=I T 1/\Srt ltB (seg (L T 196) (I T 137).toNat (I T 180).toNat)/\Srt ltB (seg (L T 196) (I T 180).toNat (I T 4).toNat)/\Dst ltB (seg (L T 196) (I T 137).toNat (I T 4).toNat):=by
  obtain⟨-,-,-,-,-,-,-,-,-,de,-,di,cs,-,gs,-⟩:=ey;obtain⟨iW,dj,-,dk,cu,-,gv,-,i1,-⟩:=hv;replace gs:L T 194=(AQ ltB (L T 188) (I T 2).toNat (I T 137).toNat):=gs;replace gv:L T 202=(AQ ltB (L T 196) (I T 137).toNat (I T 4).toNat):=gv;simp only[AD,AG,zR,zL,zS] at de di cs iW dj dk cu i1;obtain⟨p0,Q,V,p3,p4,W,r,q,d⟩:=X;intro F;obtain⟨bk,q1,q2,q3,q4,q5,q6,q7,-⟩:=sf F;obtain⟨ax,aK⟩:=sg F;obtain⟨t1,t2,t3,t4,t5,t6,t7⟩:=iY (lt:=ltB) (l:=L T 0) (a:=(I T 2).toNat) (s:=(I T 147).toNat) (m:=(I T 3).toNat) (e:=(I T 180).toNat) (b:=(I T 4).toNat) (a0:=(I T 137).toNat) (by omega) (by omega) (by omega) (by omega) (by omega) (by omega) r q d aK;have g8:L T 196=AQ ltB (L T 188) (I T 2).toNat (I T 137).toNat:=by
   rw[iW];by_cases h:B T 192=true
   .rw[ACE h,gs]
   .rw[ACD h];refine (Q3 wkB ?_ (by omega) t2 t3 t4).symm;by_cases O:I T 2 < I T 147
    .by_cases h3:I T 147 < I T 137
     .exact absurd (cs.2 ⟨de.2 O,di.2 h3⟩) h
     .omega
    .omega
  have oa:(L T 196).length=(L T 188).length:=by rw[g8];exact By (by omega) (by omega)
  have sq:∀x y:Nat,(I T 137).toNat<=x->x<=y->seg (L T 196) x y=seg (L T 188) x y:=fun x y lZ l0=>by
   rw[g8];exact eb (by omega) (by omega) lZ l0
  have u5:Srt ltB (seg (L T 196) (I T 137).toNat (I T 180).toNat):=by rw[sq _ _ (ABB _) (by omega)];exact t5
  have u6:Srt ltB (seg (L T 196) (I T 180).toNat (I T 4).toNat):=by rw[sq _ _ (by omega) (by omega)];exact t6
  have u7:Dst ltB (seg (L T 196) (I T 137).toNat (I T 4).toNat):=by rw[sq _ _ (ABB _) (by omega)];exact t7
  refine⟨g8,?_,⟨t2,t3,t4⟩,by omega,u5,u6,u7⟩;rw[i1];by_cases h:B T 200=true
  .rw[ACE h,gv]
  .rw[ACD h];refine (Q3 wkB ?_ (by omega) u5 u6 u7).symm;by_cases O:I T 137 < I T 180
   .by_cases h3:I T 180 < I T 4
    .exact absurd (cu.2 ⟨dj.2 O,dk.2 h3⟩) h
    .omega
   .omega
 obtain⟨e5,e6,-⟩:=id F0;obtain⟨e9,b4,f8,-⟩:=id F1;obtain⟨ba,a4,bb,g2,-⟩:=id F3;obtain⟨b9,ds,dv,g4,-⟩:=id F5;obtain⟨bo,b6,g5,-⟩:=id F6;obtain⟨a3,a7,ga,-⟩:=id F8;obtain⟨c5,-⟩:=id f4;obtain⟨-,-,b7,-⟩:=id hu;obtain⟨-,db,-,dd,cl,iA,-,-,-,de,-,di,cs,iI,-⟩:=id ey;obtain⟨-,dj,-,dk,cu,i0,-,-,-,gC,e0,i2,-⟩:=id hv;simp only[AD,AG,zN,zR,w2P,zL,zS] at e5 e6 e9 b4 f8 ba a4 bb g2 b9 ds dv g4 bo b6 g5 a3 a7 ga c5 b7 db dd cl iA de di cs iI dj dk cu i0 gC e0 i2;obtain⟨p0,Q,V,p3,p4,W,r,q,d⟩:=X;have q0:L T 207=(AQ ltB (L T 0) (I T 2).toNat (I T 4).toNat):=by
  rw[i2];by_cases h6:B T 6=true
  .have x5:=o2' e5 (by omega);have n7:=e6.1 h6;obtain⟨v1,v2,v3,g,t⟩:=cy;obtain⟨aG,w2,w3,w4,w5⟩:=hc;have n9:¬I T 8 < I T 7:=fun h=>mb (b4.2 ⟨h6,e9.2 h⟩);have kv:B T 11=true:=f8.2 ⟨h6,by cases hb:B T 9;rfl;exact absurd (e9.1 hb) n9⟩;have c2:=o2' ba (by omega);have l4:¬I T 40 < I T 42:=fun h=>md (bb.2 ⟨kv,a4.2 h⟩);have kA:B T 45=true:=g2.2 ⟨kv,by cases hb:B T 43;rfl;exact absurd (a4.1 hb) l4⟩;rw[ACE (e0.2 (.inl kA)),gC,ACE kA,w5,show (I T 40).toNat+1=(I T 8).toNat by omega];rw[show (I T 3).toNat=(I T 2).toNat+1 by omega] at q;have h8:I T 7=I T 8:=by omega
   rw[h8] at t;refine pJ wkB (by omega) (by omega) (by omega) q d ?_ ?_
   .rcases g with g|g
    .omega
    .rw[show (I T 8 - 1).toNat=(I T 8).toNat - 1 by omega] at g;exact .inr g
   .rcases t with t|t
    .omega
    .exact .inr t
  .have k7:¬B T 45=true:=fun h=>h6 (f8.1 (g2.1 h).1).1;have d9:B T 69=true:=b9.2 (by simpa using h6);by_cases ca:B T 71=true
   .have ns:=o2' ds (by omega);have n8:=dv.1 ca;obtain⟨v1,v2,v3,g,t⟩:=c0;obtain⟨aG,w2,w3,w4,w5⟩:=he;have kB:=g4.2 ⟨d9,ca⟩;have l5:¬I T 74 < I T 73:=fun h=>me (b6.2 ⟨kB,bo.2 h⟩);have kC:B T 77=true:=g5.2 ⟨kB,by cases hb:B T 75;rfl;exact absurd (bo.1 hb) l5⟩;have l2:¬I T 74 < I T 106:=fun h=>mf (a7.2 ⟨kC,a3.2 h⟩);have lv:B T 110=true:=ga.2 ⟨kC,by cases hb:B T 108;rfl;exact absurd (a3.1 hb) l2⟩;have h8:I T 106=I T 74:=by omega
    have h9:I T 73=I T 74:=by omega
    rw[ACE (e0.2 (.inr lv)),gC,ACD k7,w5,h8];rw[show (I T 4).toNat=(I T 3).toNat+1 by omega] at d⊢;rw[h9] at t;refine eM wkB (by omega) (by omega) (by omega) r d ?_ ?_
    .rcases g with g|g
     .omega
     .rw[show (I T 74 - 1).toNat=(I T 74).toNat - 1 by omega] at g;exact .inr g
    .rcases t with t|t
     .omega
     .exact .inr t
   .have F:=c5.2 ⟨d9,by simpa using ca⟩;have l3:¬B T 206=true:=fun h=>(e0.1 h).elim k7 fun h=>ca (g4.1 (g5.1 (ga.1 h).1).1).2;obtain⟨bk,q1,q2,q3,q4,q5,q6,q7,q8,q9⟩:=sf F;obtain⟨ax,aK⟩:=sg F;obtain⟨z1,z2,-⟩:=sh F;rw[ACD l3];exact bZ wkB (by omega) (by omega) (by omega) (by omega) (by omega) (by omega) r q d (q8.imp (fun h=>by omega) (fun h=>h.imp (fun h=>by omega) id)) (q9.imp (fun h=>by omega) (fun h=>h.imp (fun h=>by omega) id)) aK z1 z2
 have r0:B T 201=true->(I T 4).toNat - (I T 137).toNat < o/\(L T 196).length=I T 1/\0<=I T 137/\I T 137 < I T 180/\I T 180 < I T 4/\I T 4<=I T 1/\Srt ltB (seg (L T 196) (I T 137).toNat (I T 180).toNat)/\Srt ltB (seg (L T 196) (I T 180).toNat (I T 4).toNat)/\Dst ltB (seg (L T 196) (I T 137).toNat (I T 4).toNat):=by
  intro c;obtain⟨bk,kz⟩:=i0.1 c;have F:=(b7.1 bk).1;obtain⟨-,q1,q2,q3,q4,q5,q6,q7,-⟩:=sf F;obtain⟨z1,z2,z3,z4,z5⟩:=sh F;have y1:=dj.1 (cu.1 kz).1;have y2:=dk.1 (cu.1 kz).2;exact⟨by omega,z4,by omega,y1,y2,W,z5.1,z5.2.1,z5.2.2⟩
 have ax:B T 193=true->(I T 137).toNat - (I T 2).toNat < o/\(L T 188).length=I T 1/\0<=I T 2/\I T 2 < I T 147/\I T 147 < I T 137/\I T 137<=I T 1/\Srt ltB (seg (L T 188) (I T 2).toNat (I T 147).toNat)/\Srt ltB (seg (L T 188) (I T 147).toNat (I T 137).toNat)/\Dst ltB (seg (L T 188) (I T 2).toNat (I T 137).toNat):=by
  intro c;obtain⟨bk,ky⟩:=iI.1 c;have F:=(b7.1 bk).1;obtain⟨-,q1,q2,q3,q4,q5,q6,q7,-⟩:=sf F;obtain⟨ax,aK⟩:=sg F;obtain⟨z1,z2,z3,-⟩:=sh F;have y1:=de.1 (cs.1 ky).1;have y2:=di.1 (cs.1 ky).2;exact⟨by omega,by omega,V,y1,y2,by omega,z3.1,z3.2.1,z3.2.2⟩
 have aK:B T 185=true->(L T 0).length=I T 1/\0<=I T 147/\I T 147 < I T 3/\I T 3 < I T 180/\I T 180<=I T 1:=by
  intro c;obtain⟨bk,kx⟩:=iA.1 c;obtain⟨-,q1,q2,q3,q4,-⟩:=sf (b7.1 bk).1;have y1:=db.1 (cl.1 kx).1;have y2:=dd.1 (cl.1 kx).2;exact⟨Q,by omega,y1,y2,by omega⟩
 refine⟨⟨r0,ax,aK,(fun _=>ms),(fun _=>mr),(fun _=>mp),(fun _=>mo),(fun _=>mh),trivial⟩,lH.trans ?_⟩;exact (lc (by show U.list (L T 207)= .list (IW us);unfold IW;rw[kH,kM,kP];exact ACF U.list q0) rfl)
theorem jE:∀o:Nat,AW Try.prog 145 (Dc o)
 |0=>⟨fun _=>Qv,fun T us _ _ _ a=>by
   have h:=a (.s "symB.p0",Fe 0) (by simp[Dc]);exact absurd h.1 (Nat.not_lt_zero _)⟩
 |o+1=>ya (jE o)
end
section
open Go Go.Eng Go.Proofs
set_option maxHeartbeats 4000000
set_option maxRecDepth 100000
def Nt:List U->U':=fun us=>(AQ ltB (aL us 0) 0 (aI us 2).toNat)
def LP:List U->Prop:=fun us=>((aL us 0)).length=(aI us 1)/\(aI us 2)=(aI us 1)/\(aI us 1)<=40/\(20 < (aI us 1)->Dst ltB (aL us 0))
def E4:AU:={ sh:=[.one (k64),.cst (.fn (.func 101) [] [])],blks:=[],outs:=[(.s "stabB.0",CI Nt)],c:= .tup [],m':=[.mrow 3 1 [k64,k64,k64,.bool,.str,.str,.bool,k64,k64] 38],pre:=[(.s "stabB.p0",LP)],row:=some ([k64,k64,k64,.bool,.str,.str,.bool,k64,k64],38) }
abbrev ACz (T:Tab)(a:Int)(b:Int)(c:U'):Prop:=(a=0/\b=20/\c=L T 0)\/(a=20/\b=40/\20<=I T 2/\c=AQ ltB (L T 0) 0 20)\/(a=40/\b=60/\I T 2=40/\c=AQ ltB (AQ ltB (L T 0) 0 20) 20 40)
abbrev ACx (T:Tab)(a:Int)(b:Int)(c:U'):Prop:=B T 16=true->((a=0/\b=40/\c=L T 14)\/(a=40/\b=80/\I T 2=40/\c=AQ ltB (L T 14) 0 40))
abbrev ACy (T:Tab)(a:Int)(b:U'):Prop:=(a=20/\b=L T 10)\/(a=40/\20 < I T 2/\b=AQ ltB (L T 0) 0 (I T 2).toNat)
def Ih:List En:=[]
def f9:List En:=[⟨6,.le,[.e 4,.e 2]⟩,
 ADA 7 6,
 ⟨8,.outL "insB.0" NU,[.e 5,.e 1,.e 3,.e 4]⟩,
 ⟨9,.w2 .i64 .add,[.e 4,.c (.int 20)]⟩]
def C3:List En:=f9
def YS:List ObE:=[⟨some 6,.pre "insB.p0" J5,[.e 5,.e 1,.e 3,.e 4]⟩]
def Nn:Aa:=mkD 3 3 C3 6 [.e 4,.e 9,.e 8] YS [1,2]
def SW:List Rf:=[.e 1,.e 2,.c (.int 0),.c (.int 20),.e 0]
def gU:List En:=[⟨10,.outL "insB.0" NU,[.e 5,.e 1,.e 3,.e 2]⟩]
def GU:List En:=gU
def Zo:List En:=[AC7 15 13 2,
 AC4 16 7 15,
 AC5 17 7 15,
 ⟨18,.w2 .i64 .mul,[.c (.int 2),.e 13]⟩]
def GD:List En:=Zo
def gj:List En:=[⟨22,.le,[.e 20,.e 2]⟩,
 AC4 23 16 22,
 AC5 24 16 22,
 ADM 25 19 13,
 ⟨26,.outL "symB.0" IW,[.e 21,.e 1,.e 19,.e 25,.e 20]⟩,
 ⟨27,.w2 .i64 .mul,[.c (.int 2),.e 13]⟩,
 ADM 28 20 27]
def EO:List En:=gj
def ZH:List ObE:=[⟨some 23,.pre "symB.p0" (Fe 41),[.e 21,.e 1,.e 19,.e 25,.e 20]⟩]
def LK:Aa:=mkD 19 3 EO 23 [.e 20,.e 28,.e 26] ZH [13,1,16,2]
def OO:List Rf:=[.e 13,.e 1,.e 16,.e 2,.c (.int 0),.e 18,.e 14]
def Zr:List En:=[ADM 29 19 13,
 AC7 30 29 2,
 AC4 31 24 30,
 ⟨32,.outL "symB.0" IW,[.e 21,.e 1,.e 19,.e 29,.e 2]⟩,
 AC5 33 24 30,
 ADD 34 30 32 21,
 ⟨35,.w2 .i64 .mul,[.e 13,.c (.int 2)]⟩]
def Kb:List En:=Zr
def Ij:List En:=GD++((Ad LK [.i,.i,.l] OO)++(EO++(Kb)))
def YB:List ObE:=[⟨some 31,.pre "symB.p0" (Fe 41),[.e 21,.e 1,.e 19,.e 29,.e 2]⟩,⟨some 16,.owes LK,[.e 13,.e 1,.e 16,.e 2,.c (.int 0),.e 18,.e 14]⟩]
def OK:Aa:=mkD 11 4 Ij 24 [.e 19,.e 20,.e 35,.e 34] YB [1,2,7]
def R8:List Rf:=[.e 1,.e 2,.e 7,.e 3,.e 4,.c (.int 20),.e 10]
def sr:List En:=[]
def yU:List ObE:=[⟨some 7,.owes OK,[.e 1,.e 2,.e 7,.e 3,.e 4,.c (.int 20),.e 10]⟩,
 ⟨some 7,.pre "insB.p0" J5,[.e 5,.e 1,.e 3,.e 2]⟩,
 ⟨none,.owes Nn,[.e 1,.e 2,.c (.int 0),.c (.int 20),.e 0]⟩]
def ig:List Rf:=[.e 14]
theorem yW:E4.sees ig (E4.run Try.prog [(144,He),(145,Dc 41)] Ab 3000 20 137)=some ((Ih++((Ad Nn [.i,.i,.l] SW)++(C3++(GU++((Ad OK [.i,.i,.i,.l] R8)++(Ij++(sr))))))).map En.be,yU.map ObE.be,[]):=by kernel_rfl
abbrev fa(T:Tab):Prop:=I T 2<=40/\I T 2=I T 1/\(I T 13=20\/I T 13=40)/\(I T 13=20->20 < I T 2->(L T 14).length=I T 1/\Srt ltB (seg (L T 14) 0 20)/\Srt ltB (seg (L T 14) 20 (I T 2).toNat)/\Dst ltB (seg (L T 14) 0 (I T 2).toNat))
variable{T:Tab}
theorem nF (g:fa T)(a:AE T GD):
  (B T 16=true->I T 13=20/\20 < I T 2/\I T 18=40):=by
 have e:=a;clear a;have au:B T 16=true->I T 13=20/\20 < I T 2/\I T 18=40:=by
  obtain⟨b,c,-,d,-⟩:=e;simp only[AD,AG,zR,w2P] at b c d;intro h;obtain⟨j,E,k,-⟩:=g;have i:=b.1 (c.1 h).2;have l:=o2' d (by omega);omega
 exact au
theorem pG (x:fa T)(au:B T 16=true->I T 13=20/\20 < I T 2/\I T 18=40)(C:AK T (AO (hds 11 [.i,.i,.i,.l]++EB [1,2,7] (AO (AO (hds 3 [.i,.i,.l]++(AO (Aj 0 E4.ks) Ih)) C3) GU)) GD))(y:AR T (EO.map En.be))(z:AR T ((Ad LK [.i,.i,.l] OO).map En.be)):
  (LK).owes (OO.map (Rf.eval T))/\AK T (hds 19 [.i,.i,.l])/\(ACx T (I T 19) (I T 20) (L T 21))/\¬B T 23=true:=by
 refine Ap (nh:=19) (k:=3) (pcn:=23) (an:=29) (H:=EO) (K:=ZH) (nxt:=[.e 20,.e 28,.e 26]) (A:=[.c (.int 0),.e 18,.e 14]) (fv:=[13,1,16,2]) (R:=[.i,.i,.l]) (by kernel_rfl) rfl rfl rfl rfl C (by kernel_rfl) (by kernel_rfl) y (Ae z) (fun s=>ACx T (aI s 0) (aI s 1) (aL s 2)) (fun s=>(I T 2+1 - (aI s 1)).toNat) ?_ ?_
 .show ACx T (0:Int) (I T 18) (L T 14);clear C y z;intro a;exact .inl ⟨rfl,(au a).2.2,rfl⟩
 .intro J h p i;replace i:ACx T (I J 19) (I J 20) (L J 21):=i;clear C y z;replace p:AE J EO:=p;have X:=p;clear p;have a1:=fvI (h 13 (by decide));have Y:=fvI (h 1 (by decide));have v:=fvB (h 16 (by decide));have w:=fvI (h 2 (by decide));clear h;obtain⟨j,l,-,q,r,t,u,-⟩:=id X;replace r:L J 26=(AQ ltB (L J 21) (I J 19).toNat (I J 20).toNat):=r;simp only[AD,AG,zR,w2P] at j l q t u
  suffices hz:(B J 23=true->(I J 20).toNat - (I J 19).toNat < 41/\(L J 21).length=I J 1/\0<=I J 19/\I J 19 < I J 25/\I J 25 < I J 20/\I J 20<=I J 1/\Srt ltB (seg (L J 21) (I J 19).toNat (I J 25).toNat)/\Srt ltB (seg (L J 21) (I J 25).toNat (I J 20).toNat)/\Dst ltB (seg (L J 21) (I J 19).toNat (I J 20).toNat))/\(B J 23=true->(ACx T (I J 20) (I J 28) (L J 26)))/\(B J 23=true->(I T 2+1 - (I J 28)).toNat < (I T 2+1 - (I J 20)).toNat) from
   let⟨r0,nx,mz⟩:=hz;⟨⟨r0,trivial⟩,fun c=>⟨nx c,mz c⟩⟩
  refine⟨?_,?_,?_⟩
  .intro c;have b:=l.1 c;have a:B T 16=true:=by rw[<-v];exact b.1
   obtain⟨F,M,W⟩:=au a;obtain⟨N,E,O,D⟩:=x;obtain⟨t1,t2,P,Q⟩:=D F M;have g:=j.1 b.2;rw[w] at g;have zz:True:=by have _:=q;trivial
   rcases i a with⟨aG,d,e⟩|⟨aG,d,e,V⟩
   .have a3:=o2' q (by omega);rw[e,aG,d,Y,show (I J 25).toNat=20 by omega];have Z:(I T 2).toNat=40:=by omega
    rw[Z] at P Q;exact⟨by decide,t1,by omega,by omega,by omega,by omega,t2,P,Q⟩
   .omega
  .intro c hq;have b:=l.1 c;have a:B T 16=true:=by rw[<-v];exact b.1
   obtain⟨F,M,W⟩:=au a;obtain⟨N,E,O,D⟩:=x;have g:=j.1 b.2;rw[w] at g;have ax:=o2' t (by omega);rcases i a with⟨aG,d,e⟩|⟨aG,d,e,V⟩
   .have a0:=o2' u (by omega);refine .inr ⟨d,by omega,by omega,?_⟩;rw[r,aG,d,e];rfl
   .omega
  .intro c;have b:=l.1 c;have a:B T 16=true:=by rw[<-v];exact b.1
   obtain⟨F,M,W⟩:=au a;obtain⟨N,E,O,D⟩:=x;have g:=j.1 b.2;rw[w] at g;have ax:=o2' t (by omega);rcases i a with⟨aG,d,e⟩|⟨aG,d,e,V⟩
   .have a0:=o2' u (by omega);omega
   .omega
theorem Yl (g:fa T)(c:AK T (hds 11 [.i,.i,.i,.l]++EB [1,2,7] (AO (AO (hds 3 [.i,.i,.l]++(AO (Aj 0 E4.ks) Ih)) C3) GU)))(a:AR T (Ij.map En.be)):
  (AE T GD)/\(B T 16=true->I T 13=20/\20 < I T 2/\I T 18=40)/\((LK).owes (OO.map (Rf.eval T)))/\(ACx T (I T 19) (I T 20) (L T 21))/\(¬B T 23=true)/\(AE T EO)/\(AE T Kb)/\AK T (AO (AO (hds 19 [.i,.i,.l]++(AO (hds 11 [.i,.i,.i,.l]++EB [1,2,7] (AO (AO (hds 3 [.i,.i,.l]++(AO (Aj 0 E4.ks) Ih)) C3) GU)) GD)) EO) Kb):=by
 unfold Ij at a;rw[ABI,ABI,ABI] at a;obtain⟨h,a⟩:=cutB a;obtain⟨i,a⟩:=cutB a;obtain⟨b,a⟩:=cutB a;obtain⟨e,d⟩:=AN c (by kernel_rfl) h;have au:=nF g e;obtain⟨u,j,s,t⟩:=pG g au d b i;have q:=(AN (j.append d) (l:=EO) (by kernel_rfl) b);obtain⟨k,c⟩:=q;clear h b i d j;obtain⟨p,r⟩:=AN c (by kernel_rfl) a;exact⟨e,au,u,s,t,k,p,r⟩
theorem pL (N:(L T 0).length=I T 1/\I T 2=I T 1/\I T 1<=40/\(20 < I T 1->Dst ltB (L T 0)))(aP:(L T 10).length=I T 1/\(I T 2<=20->L T 10=AQ ltB (L T 0) 0 (I T 2).toNat)/\(20 < I T 2->L T 10=AQ ltB (AQ ltB (L T 0) 0 20) 20 (I T 2).toNat))(mf:20 < I T 2->(L T 10).length=I T 1/\Srt ltB (seg (L T 10) 0 20)/\Srt ltB (seg (L T 10) 20 (I T 2).toNat)/\Dst ltB (seg (L T 10) 0 (I T 2).toNat)/\AQ ltB (L T 10) 0 (I T 2).toNat=AQ ltB (L T 0) 0 (I T 2).toNat)(M:AK T (AO (AO (hds 3 [.i,.i,.l]++(AO (Aj 0 E4.ks) Ih)) C3) GU))(D:AR T (Ij.map En.be))(F:AR T ((Ad OK [.i,.i,.i,.l] R8).map En.be)):
  (OK).owes (R8.map (Rf.eval T))/\AK T (hds 11 [.i,.i,.i,.l])/\(ACy T (I T 13) (L T 14))/\¬B T 24=true:=by
 refine Jz (nh:=11) (k:=4) (pcn:=24) (an:=36) (H:=Ij) (K:=YB) (nxt:=[.e 19,.e 20,.e 35,.e 34]) (A:=[.e 3,.e 4,.c (.int 20),.e 10]) (fv:=[1,2,7]) (R:=[.i,.i,.i,.l]) (by kernel_rfl) rfl rfl rfl rfl M (by kernel_rfl) D (Ae F) (fun s=>ACy T (aI s 2) (aL s 3)) (fun s=>(I T 2 - (aI s 2)).toNat) ?_ ?_
 .show ACy T (20:Int) (L T 10);clear M D F;exact .inl ⟨rfl,rfl⟩
 .intro J r aw hE l;replace l:ACy T (I J 13) (L J 14):=l;have bb:=fvI (r 1 (by decide));have d:=fvI (r 2 (by decide));have b0:=fvB (r 7 (by decide));clear r;clear M D F;have g1:I J 2<=40/\I J 2=I J 1/\(I J 13=20\/I J 13=40)/\(I J 13=20->20 < I J 2->(L J 14).length=I J 1/\Srt ltB (seg (L J 14) 0 20)/\Srt ltB (seg (L J 14) 20 (I J 2).toNat)/\Dst ltB (seg (L J 14) 0 (I J 2).toNat)):=by
   obtain⟨p0,p1,p2,p3⟩:=N;rw[d,bb];refine⟨by omega,by omega,?_,fun C O=>?_⟩
   .rcases l with⟨e,b⟩|⟨e,b,v3⟩
    .exact .inl e
    .exact .inr e
   .rcases l with⟨e,b⟩|⟨e,b,v3⟩
    .rw[b];obtain⟨t,u,v,w,P⟩:=mf O;exact⟨t,u,v,w⟩
    .omega
  obtain⟨Y,au,bo,a0,b3,X,Z,ax⟩:=Yl g1 aw hE;clear aw hE;have hN:=B9 ax (ay:=[.i,.i,.i,.l]) (ai:=[.e 19,.e 20,.e 35,.e 34]) (by kernel_rfl);clear ax;have F0:=Y;clear Y;have F1:=X;clear X;have F2:=Z;clear Z;obtain⟨-,-,p,-⟩:=id F1;obtain⟨j,q,ab,x,-,y,z,-⟩:=id F2;replace x:L J 32=(AQ ltB (L J 21) (I J 19).toNat (I J 2).toNat):=x;simp only[AD,AG,zN,zR,w2P,zL,zS] at p j q ab y z
  suffices hz:(B J 31=true->(I J 2).toNat - (I J 19).toNat < 41/\(L J 21).length=I J 1/\0<=I J 19/\I J 19 < I J 29/\I J 29 < I J 2/\I J 2<=I J 1/\Srt ltB (seg (L J 21) (I J 19).toNat (I J 29).toNat)/\Srt ltB (seg (L J 21) (I J 29).toNat (I J 2).toNat)/\Dst ltB (seg (L J 21) (I J 19).toNat (I J 2).toNat))/\(B J 24=true->(ACy T (I J 35) (L J 34)))/\(B J 24=true->(I T 2 - (I J 35)).toNat < (I T 2 - (I J 13)).toNat) from
   let⟨r0,nx,mz⟩:=hz;⟨hN,⟨r0,(fun _=>bo),trivial⟩,fun a=>⟨nx a,mz a⟩⟩
  refine⟨?_,?_,?_⟩
  .intro a;obtain⟨i,al⟩:=ab.1 a;have ag:=(p.1 i).1;obtain⟨W,g,y3⟩:=au ag;obtain⟨k1,E,k3,k4⟩:=g1;obtain⟨t,u,v,w⟩:=k4 W g;have al:=q.1 al;rcases a0 ag with⟨aG,Q,c⟩|⟨aG,Q,c,w4⟩
   .have V:=o2' j (by omega);rw[c,aG,show (I J 29).toNat=20 by omega];exact⟨by omega,t,by omega,by omega,by omega,by omega,u,v,w⟩
   .have V:=o2' j (by omega);omega
  .obtain⟨p0,p1,p2,p3⟩:=N;intro a;have i:=p.1 a;obtain⟨W,g,y3⟩:=au i.1;rw[d] at g;have bt:=o2' z (by omega);refine .inr ⟨by omega,g,?_⟩;rcases l with⟨e,b⟩|⟨e,b,v3⟩
   .obtain⟨t,u,v,w,P⟩:=mf g;rcases a0 i.1 with⟨aG,Q,c⟩|⟨aG,Q,c,w4⟩
    .have V:=o2' j (by omega);rw[y,ACE (q.2 (by rw[d];omega)),x,c,aG,b,d];exact P
    .have V:=o2' j (by omega);rw[y,ACD (fun h=>by have:=q.1 h;rw[d] at this c;omega),w4,b,<-P];rw[d] at c;rw[c];rfl
   .omega
  .obtain⟨p0,p1,p2,p3⟩:=N;intro a;have i:=p.1 a;obtain⟨W,g,y3⟩:=au i.1;rw[d] at g;have bt:=o2' z (by omega);omega
theorem tp:AW Try.prog 137 E4:=by
 refine An (l:=[(144,He),(145,Dc 41)]) A8 (by simp only[ABT];exact⟨xN,(jE 41),fun _ h=>absurd h (by simp)⟩) yW (by kernel_rfl) fun T us bt hT ad P cf p=>?_;change us.length=3 at ad;obtain⟨⟨bs,cs⟩,⟨b0,bo⟩,-⟩:=cf;replace bs:(L T 0).length<=140737488355328:=bs;have di:∀u∈(L T 0),AL AB KB u:=fun u hu=>by
  obtain⟨i,Y⟩:=ABZ.1 hu;exact cs i u Y
 replace b0:0<=I T 1:=b0;replace bo:I T 1<=140737488355328:=bo;have bl:=inL (j:=0) hT ad (by decide);have cj:=inI (j:=1) hT ad (by decide);have bm:=inI (j:=2) hT ad (by decide);have z:(L T 0).length=I T 1/\I T 2=I T 1/\I T 1<=40/\(20 < I T 1->Dst ltB (L T 0)):=by
  have h:=bt (.s "stabB.p0",LP) (by simp[E4]);change LP us at h;unfold LP at h;simp only[bl,cj,bm] at h;exact h
 clear bt;rw[ABI,ABI,ABI,ABI,ABI,ABI] at p;obtain⟨M,p⟩:=cutB p;obtain⟨N,p⟩:=cutB p;obtain⟨w,p⟩:=cutB p;obtain⟨A0,v⟩:=AN P (by kernel_rfl) M;refine ACw (Ap (nh:=3) (k:=3) (pcn:=6) (an:=10) (H:=C3) (K:=YS) (nxt:=[.e 4,.e 9,.e 8]) (A:=[.c (.int 0),.c (.int 20),.e 0]) (fv:=[1,2]) (R:=[.i,.i,.l]) (by kernel_rfl) rfl rfl rfl rfl v (by kernel_rfl) (by kernel_rfl) w (Ae N) (fun s=>ACz T (aI s 0) (aI s 1) (aL s 2)) (fun s=>(I T 2+1 - (aI s 1)).toNat)) ?_ ?_ fun⟨c5,Q,ag,a2⟩=>?_
 .show ACz T (0:Int) (20:Int) (L T 0);exact .inl ⟨rfl,rfl,rfl⟩
 .intro J a1 hF x;replace x:ACz T (I J 3) (I J 4) (L J 5):=x;replace hF:AE J C3:=hF;have W:=hF;clear hF;have Z:=fvI (a1 1 (by decide));have E:=fvI (a1 2 (by decide));clear a1;obtain⟨r,-,X,e9,-⟩:=id W;replace X:L J 8=(AQ ltB (L J 5) (I J 3).toNat (I J 4).toNat):=X;simp only[AD,zR,w2P] at r e9;obtain⟨y,p1,p2,V⟩:=z
  suffices hz:(B J 6=true->(L J 5).length=I J 1/\0<=I J 3/\I J 3<=I J 4/\I J 4<=I J 1)/\(B J 6=true->(ACz T (I J 4) (I J 9) (L J 8)))/\(B J 6=true->(I T 2+1 - (I J 9)).toNat < (I T 2+1 - (I J 4)).toNat) from
   let⟨r0,nx,mz⟩:=hz;⟨⟨r0,trivial⟩,fun t=>⟨nx t,mz t⟩⟩
  refine⟨?_,?_,?_⟩
  .intro t;have F:=r.1 t;rw[E] at F;rcases x with⟨c,d,e⟩|⟨c,d,e,q⟩|⟨c,d,e,q⟩
   .rw[Z,e];omega
   .rw[Z,q,By (by omega) (by omega)];omega
   .omega
  .intro t;have F:=r.1 t;rw[E] at F;have x9:=o2' e9 (by omega);rcases x with⟨c,d,e⟩|⟨c,d,e,q⟩|⟨c,d,e,q⟩
   .refine .inr (.inl ⟨d,by omega,by omega,?_⟩);rw[X,c,d,e];rfl
   .refine .inr (.inr ⟨d,by omega,by omega,?_⟩);rw[X,c,d,q];rfl
   .omega
  .intro t;have F:=r.1 t;rw[E] at F;have x9:=o2' e9 (by omega);omega
 replace ag:(I T 3=0/\I T 4=20/\L T 5=L T 0)\/(I T 3=20/\I T 4=40/\20<=I T 2/\L T 5=AQ ltB (L T 0) 0 20)\/(I T 3=40/\I T 4=60/\I T 2=40/\L T 5=AQ ltB (AQ ltB (L T 0) 0 20) 20 40):=ag;have ch:=(AN (Q.append v) (l:=C3) (by kernel_rfl) w);obtain⟨B0,P⟩:=ch;clear M w N v Q;obtain⟨M,p⟩:=cutB p;obtain⟨N,p⟩:=cutB p;obtain⟨w,p⟩:=cutB p;obtain⟨A1,v⟩:=AN P (by kernel_rfl) M;have W:=B0;have F1:=A1;have aP:(L T 10).length=I T 1/\(I T 2<=20->L T 10=AQ ltB (L T 0) 0 (I T 2).toNat)/\(20 < I T 2->L T 10=AQ ltB (AQ ltB (L T 0) 0 20) 20 (I T 2).toNat):=by
  obtain⟨r,-⟩:=W;obtain⟨D,-⟩:=F1;replace D:L T 10=(AQ ltB (L T 5) (I T 3).toNat (I T 2).toNat):=D;simp only[AD,zR] at r;obtain⟨y,p1,p2,V⟩:=z;have n6:¬I T 4<=I T 2:=fun h=>a2 (r.2 h);rcases ag with⟨c,d,e⟩|⟨c,d,e,q⟩|⟨c,d,e,q⟩
  .rw[D,c,e];refine⟨?_,fun _=>rfl,fun h=>by omega⟩;rw[By (by omega) (by omega)];exact y
  .rw[D,c,q];have k:=By (lt:=ltB) (l:=L T 0) (a:=0) (b:=20) (by omega) (by omega);refine⟨?_,fun h=>?_,fun h=>rfl⟩
   .rw[By (by omega) (by omega),k];exact y
   .have O:(I T 2).toNat=20:=by omega
    rw[O];exact Iu (ABB _) (ABB _)
  .rw[D,c,q,e];have k:=By (lt:=ltB) (l:=L T 0) (a:=0) (b:=20) (by omega) (by omega);have g:AQ ltB (AQ ltB (AQ ltB (L T 0) 0 20) 20 40) 40 40=AQ ltB (AQ ltB (L T 0) 0 20) 20 40:=Iu (ABB _) (ABB _);refine⟨?_,fun h=>by omega,fun h=>g⟩;show ((AQ ltB (AQ ltB (AQ ltB (L T 0) 0 20) 20 40) 40 40).length:Int)=_;rw[g,By (by omega) (by omega),k];exact y
 have mf:20 < I T 2->(L T 10).length=I T 1/\Srt ltB (seg (L T 10) 0 20)/\Srt ltB (seg (L T 10) 20 (I T 2).toNat)/\Dst ltB (seg (L T 10) 0 (I T 2).toNat)/\AQ ltB (L T 10) 0 (I T 2).toNat=AQ ltB (L T 0) 0 (I T 2).toNat:=by
  obtain⟨y,p1,p2,V⟩:=z;intro h;obtain⟨az,al,m3⟩:=aP;obtain⟨t1,t2,t3,t4,t5⟩:=cL wkB (l:=L T 0) (m:=20) (n:=(I T 2).toNat) (by omega) (by omega) (V (by omega)) (m3 h);exact⟨az,t2,t3,t4,t5⟩
 obtain⟨c6,Q,bx,c2⟩:=pL z aP mf v w N;have g1:I T 2<=40/\I T 2=I T 1/\(I T 13=20\/I T 13=40)/\(I T 13=20->20 < I T 2->(L T 14).length=I T 1/\Srt ltB (seg (L T 14) 0 20)/\Srt ltB (seg (L T 14) 20 (I T 2).toNat)/\Dst ltB (seg (L T 14) 0 (I T 2).toNat)):=by
  have Z:I T 1=I T 1:=rfl;have E:I T 2=I T 2:=rfl;have de:B T 7=B T 7:=rfl;have x:=bx;obtain⟨y,p1,p2,V⟩:=z;rw[E,Z];refine⟨by omega,by omega,?_,fun C O=>?_⟩
  .rcases x with⟨c,d⟩|⟨c,d,e⟩
   .exact .inl c
   .exact .inr c
  .rcases x with⟨c,d⟩|⟨c,d,e⟩
   .rw[d];obtain⟨t1,t2,t3,t4,t5⟩:=mf O;exact⟨t1,t2,t3,t4⟩
   .omega
 obtain⟨b7,au,dm,dj,c3,B2,b8,bk⟩:=Yl g1 (Q.append (Cj (fun _ _=>rfl) v)) w;have P:=bk.append v;clear M w N v Q bk;obtain⟨A3,hO⟩:=Ao (R:=[.l]) (ai:=ig) P (by kernel_rfl) p;have F2:=b7;have F3:=B2;have F4:=b8;obtain⟨r,e7,-⟩:=id W;obtain⟨a7,a8,-⟩:=id F2;obtain⟨-,a9,ba,-⟩:=id F3;simp only[AD,AG,zN,zR] at r e7 a7 a8 a9 ba;obtain⟨y,p1,p2,V⟩:=z;have q0:L T 14=(AQ ltB (L T 0) 0 (I T 2).toNat):=by
  have c0:¬B T 16=true:=fun bc=>by
   by_cases bi:B T 22=true
   .exact c3 (a9.2 ⟨bc,bi⟩)
   .exact c2 (ba.2 ⟨bc,by simpa using bi⟩)
  have h7:B T 7=true:=by
   rw[e7];cases hb:(B T 6)
   .rfl
   .exact absurd hb a2
  have dk:¬I T 13 < I T 2:=fun h=>c0 (a8.2 ⟨h7,a7.2 h⟩);rcases bx with⟨c,d⟩|⟨c,d,e⟩
  .rw[d];exact aP.2.1 (by omega)
  .exact e
 have r0:B T 7=true->(L T 5).length=I T 1/\0<=I T 3/\I T 3<=I T 2/\I T 2<=I T 1:=by
  intro t;have n6:¬I T 4<=I T 2:=fun h=>a2 (r.2 h);rcases ag with⟨c,d,e⟩|⟨c,d,e,q⟩|⟨c,d,e,q⟩
  .rw[e];omega
  .rw[q,By (ABh _) (by omega)];omega
  .have k:=By (lt:=ltB) (l:=L T 0) (a:=0) (b:=20) (by omega) (by omega);rw[q,By (by omega) (by omega),k];omega
 refine⟨⟨(fun _=>c6),r0,(fun _=>c5),trivial⟩,hO.trans ?_⟩;exact (lc (by show U.list (L T 14)= .list (Nt us);unfold Nt;rw[bl,bm];exact ACF U.list q0) rfl)
def NT:List U->U':=fun us=>(Bc ltB (aL us 0))
def KN:List U->Prop:=fun us=>((aL us 0)).length<=40/\(20 < ((aL us 0)).length->Dst ltB (aL us 0))
def PB:AU:={ sh:=[.one (.list [k64,k64,k64,.bool,.str,.str,.bool,k64,k64]),.cst (.fn (.func 101) [] [])],blks:=[],outs:=[(.s "ordB.0",CI NT)],c:= .ro 1 [k64,k64,k64,.bool,.str,.str,.bool,k64,k64],m':=[],pre:=[(.s "ordB.p0",KN)] }
def oE:List En:=[⟨1,.id .l,[.c (.list [])]⟩,
 ⟨2,.id .i,[.c (.int 0)]⟩,
 ADS 3 1 0,
 ADB 4 3,
 ⟨5,.outL "stabB.0" Nt,[.e 3,.e 4,.e 4]⟩]
def bI:List En:=oE
def zV:List ObE:=[⟨none,.pre "stabB.p0" LP,[.e 3,.e 4,.e 4]⟩,
 ⟨none,.fits 88,[.e 1,.e 0]⟩]
def tG:List Rf:=[.e 5]
theorem zF:PB.sees tG (PB.runC Try.prog GZ [(137,E4)] Ab 3000 20 100)=some ((bI).map En.be,zV.map ObE.be,[]):=by kernel_rfl
theorem xw:AW Try.prog 100 PB:=by
 refine HH FB (l:=[(137,E4)]) A8 (by simp only[ABT];exact⟨tp,fun _ h=>absurd h (by simp)⟩) zF (by kernel_rfl) fun T us p y q x t v=>?_;change us.length=1 at q;obtain⟨⟨k,z⟩,-⟩:=t;replace k:(L T 0).length<=140737488355328:=k;have F:∀u∈(L T 0),AL AB KB u:=fun u A=>by
  obtain⟨i,Y⟩:=ABZ.1 A;exact z i u Y
 have g:=inL (j:=0) y q (by decide);have C:(L T 0).length<=40/\(20 < (L T 0).length->Dst ltB (L T 0)):=by
  have h:=p (.s "ordB.p0",KN) (by simp[PB]);change KN us at h;unfold KN at h;simp only[g] at h;exact h
 clear p
 skip
 obtain⟨r,w⟩:=Ao (R:=[.l]) (ai:=tG) x (by kernel_rfl) v;have s:=r;obtain⟨b,-,d,a,e,-⟩:=id s;replace e:L T 5=(AQ ltB (L T 3) 0 (I T 4).toNat):=e;simp only[AD,AG,zR,zL,zS] at b d a;have D:L T 5=(Bc ltB (L T 0)):=by
  have c:L T 3=L T 0:=by rw[d,b];rfl
  rw[e,a,c];exact RO (by omega)
 have E:(L T 3).length=I T 4/\I T 4=I T 4/\I T 4<=40/\(20 < I T 4->Dst ltB (L T 3)):=by
  have c:L T 3=L T 0:=by rw[d,b];rfl
  refine⟨a.symm,rfl,?_,?_⟩
  .rw[a,c];omega
  .rw[a,c];exact fun h=>C.2 (by omega)
 have ax:((L T 1).length+(L T 0).length)*88<=140737488355328:=by
  rw[b];show (0+_)*_<=_;omega
 refine⟨⟨(fun _=>E),(fun _=>ax),trivial⟩,w.trans ?_⟩;exact (lc (by show U.list (L T 5)= .list (NT us);unfold NT;rw[g];exact ACF U.list D) rfl)
def LH:List U->U':=fun us=>Aw (aL us 0)
def Ia:List U->Prop:=fun us=>(AY (aL us 0)).length<=40
def DY:AU:={ sh:=[.one (.list [k64,k64,k64,.bool,.str,.str,.bool,k64,k64])],blks:=[],outs:=[(.s "books.0",CI LH)],c:= .ro 1 [k64,k64,k64,.bool,.str,.str,.bool,k64,k64],m':=[],pre:=[(.s "books.p0",Ia)] }
def uC:List En:=[AC4 44 6 38,AC5 45 6 38,⟨46,.row 1 9 [.i,.i,.i,.b,.s,.s,.b,.i,.i],[.e 35,.e 36,.e 37,.e 38,.e 39,.e 40,.e 41,.e 42,.e 43]⟩,ADS 47 34 46,ADD 48 38 34 47,⟨49,.ite .l,[.e 38,.c (.list []),.e 46]⟩]
def uh:List ObE:=[⟨some 45,.fits 88,[.e 34,.e 46]⟩]
def wh:List En:=[⟨35,.outL "ordB.0" NT,[.e 34]⟩]
def vz:List ObE:=[⟨some 6,.pre "ordB.p0" KN,[.e 34]⟩]
theorem yd:(aD Try.prog (Ew Try.prog (XO Try.prog GZ [(100,PB)]) Ab 3000 20) (Ab 65) { Ys.none with mu:=(Ab 65).mu } 3000 rgB Try.f65 DY.args DY.m DY.n).bind (dC DY [.e 35])=
  some ((some 6,34,4,1),(some 6,48),((Jg++((Ad JG [.i,.l] MB)++(ES++(Vg)))).map En.be,cR.map ObE.be),(uC.map En.be,uh.map ObE.be),(wh.map En.be,vz.map ObE.be),[]):=by kernel_rfl
theorem sY (l:U'):((List.range l.length).map fun j=>l.getD j [])=l:=by
 refine List.ext_getElem? fun i=>?_;rw[ABg];rcases ABN i l.length with h|h
 .rw[List.getElem?_range h,ABC h];simp[h]
 .rw[ABf (by simpa using h),ABf h];rfl
theorem RH:AW Try.prog 65 DY:=by
 refine iE (F:=Cs) FB A8 (l:=[(100,PB)]) (by simp only[ABT];exact⟨xw,fun _ h=>absurd h (by simp)⟩) za Try.func65 vJ (by kernel_rfl) yd (by kernel_rfl) fun T us ba D N hS A hE=>?_;obtain⟨C,O⟩:=so T us (fun p hp=>absurd hp (by simp[IL])) D N hS A hE;have hx:T.get 4= .list (AY (aL us 0)):=(List.cons.inj O).1;have J:(T 4).toL=AY (aL us 0):=ACF U.toL hx;have bs:(AY (aL us 0)).length<=40:=ba (.s "books.p0",Ia) (by simp[DY]);have a3:=inL (j:=0) D N (by decide);have a4:∀u∈L T 0,AL AB KB u:=fun u q=>by
  obtain⟨i,Y⟩:=ABZ.1 q;exact A.1.2 i u Y
 refine⟨C,fun b0=>⟨fun M i r s y E V k4 W X k7 k8 ax=>?_,fun M y E a0=>?_⟩⟩
 .rw[J] at V W X;obtain⟨u,q,P⟩:=(Gm (l:=aL us 0)).row r (List.mem_of_getElem? W);rw[a3] at P;have a5:=a4 u P;obtain⟨bl,bm,Z,ab,ad,bo,_⟩:=ax;have w:T.get 34= .list s:=k7;have K:[T.get 35,T.get 36,T.get 37,T.get 38,T.get 39,T.get 40,T.get 41,T.get 42,T.get 43]=u:=by
   have bb:=dh a5;have hd:r.drop 1=u:=by rw[q];rfl
   have k:∀j,j < 9->T.get (35+j)=u.getD j default:=fun j hj=>by
    have H:j < u.length:=by omega
    have:=k8 j (u[j]) (by rw[hd];exact ABC H);rw[show 35+j=34+1+j by omega,this];simp[H]
   rw[k 0 (by omega),k 1 (by omega),k 2 (by omega),k 3 (by omega),k 4 (by omega),k 5 (by omega),k 6 (by omega),k 7 (by omega),k 8 (by omega)]
   match u,bb with
   |[a,b,c,d,e,f,g,h,i],_=>rfl
  have z:T.get 46= .list [u]:=by
   rw[<-K];exact Z
  have bx:s.length<=40:=by
   rw[X];have t:=Qr (m:=M.map fun j=>(AY (aL us 0)).getD j []);rw[List.length_map] at t;have:=Mp _ M E V;omega
  have a7:lR T (.e 46)=[u]:=by show (T.get 46).toL=_;rw[z];rfl
  have a6:lR T (.e 34)=s:=by show (T.get 34).toL=_;rw[w];rfl
  refine⟨⟨fun _=>?_,trivial⟩,?_⟩
  .show ((lR T (.e 34)).length+(lR T (.e 46)).length)*88<=_;rw[a6,a7];show (s.length+1)*88<=_;omega
  .have x:uB r 4=(T.get 38).toB:=by
    rw[q,<-K];rfl
   have al:T.get 47= .list (s++[u]):=by
    have:T.get 47=U.list ((T.get 34).toL++(T.get 46).toL):=ab;rw[this,w,z];rfl
   have ao:T.get 48=bif (T.get 38).toB then T.get 34 else T.get 47:=ad
   show T.get 48=_;rw[ao];unfold Cs;rw[x];cases (T.get 38).toB with
   |true=>simp only[cond_true,if_true];rw[w,ABx]
   |false=>
    simp only[cond_false,ABW,if_false];rw[al,q];rfl
 .rw[J] at y E;have Q:T.get 34= .list ((M.map fun j=>(AY (aL us 0)).getD j []).flatMap Cs):=E;have v:((M.map fun j=>(AY (aL us 0)).getD j []).flatMap Cs).Perm ((AY (aL us 0)).flatMap Cs):=by
   have t:=y.map fun j=>(AY (aL us 0)).getD j [];rw[sY] at t;exact t.flatMap_right Cs
  have ag:T.get 35=CI NT [T.get 34]:=a0.1;have ho:T.get 35= .list (Aw (aL us 0)):=by
   rw[ag,Q];show U.list (Bc ltB _)=_;exact ACF U.list (su v)
  refine⟨⟨fun _=>?_,trivial⟩,?_⟩
  .show KN [T.get 34];rw[Q];show ((M.map fun j=>(AY (aL us 0)).getD j []).flatMap Cs).length<=40/\(20 < ((M.map fun j=>(AY (aL us 0)).getD j []).flatMap Cs).length->Dst ltB ((M.map fun j=>(AY (aL us 0)).getD j []).flatMap Cs));have:=v.length_eq;have:=Qr (m:=AY (aL us 0));refine⟨by omega,fun _ a b ha x C O=>?_⟩;rw[O4] at C O;exact dP Gm (v.subset ha) (v.subset x) (by omega)
  .show [T.get 35]=[CI LH us];rw[ho];rfl
def GR:List U->U':=fun us=>(if AM (aL us 0)=0 then Aw (aL us 0) else [])
def Gh:List U->Int:=fun us=>(AM (aL us 0))
def FC:List U->Prop:=fun us=>(AY (aL us 0)).length<=40\/200 < ((aL us 0)).length
def MO:AU:={ sh:=[.one (.list [k64,k64,k64,.bool,.str,.str,.bool,k64,k64])],blks:=[],outs:=[(.s "Books.0",CI GR),(.s "Books.1",Ba Gh)],c:= .tup [.ro 1 [k64,k64,k64,.bool,.str,.str,.bool,k64,k64],(Ch 2)],m':=[],pre:=[(.s "Books.p0",FC)] }
def gh:List En:=[⟨1,.outI "checkL.0" HN,[.e 0]⟩,
 ⟨2,.ne,[.e 1,.c (.int 0)]⟩,
 ADA 3 2,
 ⟨4,.outL "books.0" LH,[.e 0]⟩,
 ⟨5,.ite .i,[.e 2,.e 1,.c (.int 0)]⟩,
 ⟨6,.ite .l,[.e 2,.c (.list []),.e 4]⟩,
 AC6 7 2 3]
def Xv:List En:=gh
def xb:List ObE:=[⟨some 3,.pre "books.p0" Ia,[.e 0]⟩]
def jP:List Rf:=[.e 6,.e 5]
theorem xf:MO.sees jP (MO.run Try.prog [(47,FN),(65,DY)] Ab 3000 20 23)=some ((Xv).map En.be,xb.map ObE.be,[]):=by kernel_rfl
theorem vA:AW Try.prog 23 MO:=by
 refine An (l:=[(47,FN),(65,DY)]) A8 (by simp only[ABT];exact⟨Nj,RH,fun _ h=>absurd h (by simp)⟩) xf (by kernel_rfl) fun T us s C t A x y=>?_;change us.length=1 at t;obtain⟨⟨r,D⟩,-⟩:=x;replace r:(L T 0).length<=140737488355328:=r;have K:∀u∈(L T 0),AL AB KB u:=fun u E=>by
  obtain⟨i,Y⟩:=ABZ.1 E;exact D i u Y
 have p:=inL (j:=0) C t (by decide);have M:(AY (L T 0)).length<=40\/200 < (L T 0).length:=by
  have h:=s (.s "Books.p0",FC) (by simp[MO]);change FC us at h;unfold FC at h;simp only[p] at h;exact h
 clear s
 skip
 obtain⟨v,z⟩:=Ao (R:=[.l,.i]) (ai:=jP) A (by kernel_rfl) y;have w:=v;obtain⟨b,c,q,d,e,g,-⟩:=id w;replace b:I T 1=(AM (L T 0)):=b;replace d:L T 4=(Aw (L T 0)):=d;simp only[AD,AG,zR,zL,zS] at c q e g;have F:L T 6=(if AM (L T 0)=0 then Aw (L T 0) else []):=by
  have k:B T 2=true↔¬AM (L T 0)=0:=by rw[c,b]
  by_cases h:B T 2=true
  .rw[g,ACE h,ACD (k.1 h)]
  .rw[g,ACD h,ACE (ABq fun a=>h (k.2 a)),d]
 have H:I T 5=(AM (L T 0)):=by
  have k:B T 2=true↔¬AM (L T 0)=0:=by rw[c,b]
  by_cases h:B T 2=true
  .rw[e,ACE h,b]
  .rw[e,ACD h];exact (ABq fun a=>h (k.2 a)).symm
 have J:B T 3=true->(AY (L T 0)).length<=40:=by
  intro h;have k:B T 2=true↔¬AM (L T 0)=0:=by rw[c,b]
  have n:¬B T 2=true:=by simpa using q.1 h
  have:=HE (ABq fun a=>n (k.2 a));show (AY (L T 0)).length<=40;omega
 refine⟨⟨J,trivial⟩,z.trans ?_⟩;exact (lc (by show U.list (L T 6)= .list (GR us);unfold GR;rw[p];exact ACF U.list F) (lc (by show U.int (I T 5)= .int (Gh us);unfold Gh;rw[p];exact ACF U.int H) rfl))
def GF:List U->Bool:=fun us=>(Cd (aS us 0) (aI us 1) (aI us 2))
def Gs:AU:={ sh:=[.agg [.str,k64,k64]],blks:=[],outs:=[(.s "vplayer.0",HS GF)],c:= .b 3,m':=[],pre:=[] }
def Zh:List En:=[⟨3,.outB "xvname.0" JD,[.e 0]⟩,
 ADO 4 3,
 ⟨5,.le,[.c (.int (-10000)),.e 1]⟩,
 AC4 6 4 5,
 ⟨7,.le,[.e 1,.c (.int 10000)]⟩,
 AC4 8 5 7,
 AC4 9 3 8,
 ADO 10 9,
 ⟨11,.le,[.c (.int (-12)),.e 2]⟩,
 AC4 12 9 11,
 ADO 13 12,
 ⟨14,.le,[.e 2,.c (.int 48)]⟩,
 AC4 15 12 14]
def TV:List En:=Zh
def rU:List ObE:=[]
def Yf:List Rf:=[.e 15]
end
end Go.Eng
end
