/-
  A part of the proof: the evaluator of code and its soundness.
-/
import Derived.Test.YtikbgnmcfncnaaaE4
import Derived.Test.YtikbgnmcfncnaaaE5
import Derived.Test.YtikbgnmcfncnaaaKB1
set_option linter.unusedVariables false
set_option linter.unusedSimpArgs false
noncomputable section
namespace Go.Eng
section
open Go Go.Eng Go.Proofs
set_option maxHeartbeats 4000000
set_option maxRecDepth 100000
variable {f:Nat}
def JG:List U->List (List U):=fun us=>(Br ltB (aL us 0) (aI us 2).toNat (aI us 4).toNat)
def GY (f:Nat):List U->Prop:=fun us=>(aI us 4).toNat - (aI us 2).toNat < f/\((aL us 0)).length=(aI us 1)/\0<=(aI us 2)/\(aI us 2) < (aI us 3)/\(aI us 3) < (aI us 4)/\(aI us 4)<=(aI us 1)/\Srt ltB (seg (aL us 0) (aI us 2).toNat (aI us 3).toNat)/\Srt ltB (seg (aL us 0) (aI us 3).toNat (aI us 4).toNat)/\Dst ltB (seg (aL us 0) (aI us 2).toNat (aI us 4).toNat)
def Er (f:Nat):Bf:={ sh:=[.one (k64),.one (k64),.one (k64),.cst (.fn (.func 101) [] [])],blks:=[],outs:=[(.s "symB.0",D1 JG)],c:= .tup [],m':=[.mrow 5 1 [k64,k64,k64,.bool,.str,.str,.bool,k64,k64] 38],pre:=[(.s "symB.p0",GY f)],row:=some ([k64,k64,k64,.bool,.str,.str,.bool,k64,k64],38) }
def tK:List Rf:=[.e 15,.e 16,.e 17,.e 18,.e 19,.e 20,.e 21,.e 22,.e 23,.e 24,.e 25,.e 26,.e 27,.e 28,.e 29,.e 30,.e 31,.e 32]
def sX:List Rf:=[.e 81,.e 82,.e 83,.e 84,.e 85,.e 86,.e 87,.e 88,.e 89,.e 90,.e 91,.e 92,.e 93,.e 94,.e 95,.e 96,.e 97,.e 98]
def sk:List Rf:=[.e 155,.e 156,.e 157,.e 158,.e 159,.e 160,.e 161,.e 162,.e 163,.e 164,.e 165,.e 166,.e 167,.e 168,.e 169,.e 170,.e 171,.e 172]
def lI:List En:=[ABW 5 3 2,
 ⟨6,.eq,[.e 5,.c (.int 1)]⟩]
def Fy:List En:=lI
def lK:List En:=[ABI 9 8 7,
 nl 10 6 9,
 ABF 11 6 9,
 ABV 12 8 7,
 ⟨13,.w1 .u64,[.e 12]⟩,
 ⟨14,.o2 .div,[.e 13,.c (.int 2)]⟩,
 ABM 15 0 14,
 ABJ 16 0 14,
 ABK 17 0 14,
 ABP 18 0 14,
 ABN 19 0 14,
 ABO 20 0 14,
 ABQ 21 0 14,
 ABR 22 0 14,
 ABS 23 0 14,
 ABM 24 0 2]
def lw:List En:=[ABJ 25 0 2,
 ABK 26 0 2,
 ABP 27 0 2,
 ABN 28 0 2,
 ABO 29 0 2,
 ABQ 30 0 2,
 ABR 31 0 2,
 ABS 32 0 2,
 ⟨33,.outI "cmpB.0" It,tK⟩,
 ⟨34,.lt,[.e 33,.c (.int 0)]⟩,
 nl 35 10 34,
 ⟨36,.w2 .i64 .add,[.e 14,.c (.int 1)]⟩,
 ABF 37 10 34,
 ABT 38 34 7 14,
 ABT 39 34 36 8]
def D2:List En:=lK++(lw)
def bL:List ObE:=[⟨some 10,.inr,[.e 2,.e 1]⟩,⟨some 10,.inr,[.e 14,.e 1]⟩]
def QS:Bs:=mkD 7 2 D2 10 [.e 38,.e 39] bL [0,2,6,1]
def Uo:List Rf:=[.e 0,.e 2,.e 6,.e 1,.e 4,.e 3]
def Ns:List En:=[]
def lL:List En:=[⟨42,.w2 .i64 .sub,[.e 8,.c (.int 1)]⟩,
 ABI 43 40 42,
 nl 44 11 43,
 ABF 45 11 43,
 ⟨46,.w2 .i64 .add,[.e 40,.c (.int 1)]⟩,
 ⟨47,.w2 .i64 .add,[.e 40,.c (.int 1)]⟩,
 ABM 48 41 47,
 ABJ 49 41 47,
 ABK 50 41 47,
 ABP 51 41 47,
 ABN 52 41 47,
 ABO 53 41 47,
 ABQ 54 41 47,
 ABR 55 41 47,
 ABS 56 41 47,
 ABM 57 41 40]
def jm:List En:=[ABJ 58 41 40,
 ABK 59 41 40,
 ABP 60 41 40,
 ABN 61 41 40,
 ABO 62 41 40,
 ABQ 63 41 40,
 ABR 64 41 40,
 ABS 65 41 40,
 ⟨66,.rset 0 [.i,.i,.i,.b,.s,.s,.b,.i,.i],[.e 41,.e 40,.e 48,.e 49,.e 50,.e 51,.e 52,.e 53,.e 54,.e 55,.e 56]⟩,
 ⟨67,.rset 0 [.i,.i,.i,.b,.s,.s,.b,.i,.i],[.e 66,.e 46,.e 57,.e 58,.e 59,.e 60,.e 61,.e 62,.e 63,.e 64,.e 65]⟩,
 ⟨68,.w2 .i64 .add,[.e 40,.c (.int 1)]⟩]
def Ep:List En:=lL++(jm)
def ep:List ObE:=[⟨some 44,.inr,[.e 46,.e 1]⟩,⟨some 44,.inr,[.e 40,.e 1]⟩,⟨some 44,.inr,[.e 40,.e 1]⟩,⟨some 44,.inr,[.e 47,.e 1]⟩]
def Qh:Bs:=mkD 40 2 Ep 44 [.e 68,.e 67] ep [11,8,1]
def Uj:List Rf:=[.e 11,.e 8,.e 1,.e 2,.e 0]
def kR:List En:=[ABH 69 6,
 ABW 70 4 3,
 ⟨71,.eq,[.e 70,.c (.int 1)]⟩,
 nl 72 69 71]
def Ix:List En:=kR
def mM:List En:=[ABI 75 74 73,
 nl 76 72 75,
 ABF 77 72 75,
 ABV 78 74 73,
 ⟨79,.w1 .u64,[.e 78]⟩,
 ⟨80,.o2 .div,[.e 79,.c (.int 2)]⟩,
 ABM 81 0 3,
 ABJ 82 0 3,
 ABK 83 0 3,
 ABP 84 0 3,
 ABN 85 0 3,
 ABO 86 0 3,
 ABQ 87 0 3,
 ABR 88 0 3,
 ABS 89 0 3,
 ABM 90 0 80]
def j9:List En:=[ABJ 91 0 80,
 ABK 92 0 80,
 ABP 93 0 80,
 ABN 94 0 80,
 ABO 95 0 80,
 ABQ 96 0 80,
 ABR 97 0 80,
 ABS 98 0 80,
 ⟨99,.outI "cmpB.0" It,sX⟩,
 ⟨100,.lt,[.e 99,.c (.int 0)]⟩,
 nl 101 76 100,
 ABF 102 76 100,
 ⟨103,.w2 .i64 .add,[.e 80,.c (.int 1)]⟩,
 ABT 104 100 80 73,
 ABT 105 100 74 103]
def E8:List En:=mM++(j9)
def cM:List ObE:=[⟨some 76,.inr,[.e 80,.e 1]⟩,⟨some 76,.inr,[.e 3,.e 1]⟩]
def P2:Bs:=mkD 73 2 E8 76 [.e 104,.e 105] cM [0,3,72,1]
def U5:List Rf:=[.e 0,.e 3,.e 72,.e 1,.e 3,.e 2]
def Ug:List En:=[]
def ld:List En:=[ABI 108 74 106,
 nl 109 77 108,
 ABF 110 77 108,
 ⟨111,.w2 .i64 .sub,[.e 106,.c (.int 1)]⟩,
 ⟨112,.w2 .i64 .sub,[.e 106,.c (.int 1)]⟩,
 ABM 113 107 112,
 ABJ 114 107 112,
 ABK 115 107 112,
 ABP 116 107 112,
 ABN 117 107 112,
 ABO 118 107 112,
 ABQ 119 107 112,
 ABR 120 107 112,
 ABS 121 107 112,
 ABM 122 107 106,
 ABJ 123 107 106]
def mZ:List En:=[ABK 124 107 106,
 ABP 125 107 106,
 ABN 126 107 106,
 ABO 127 107 106,
 ABQ 128 107 106,
 ABR 129 107 106,
 ABS 130 107 106,
 ⟨131,.rset 0 [.i,.i,.i,.b,.s,.s,.b,.i,.i],[.e 107,.e 106,.e 113,.e 114,.e 115,.e 116,.e 117,.e 118,.e 119,.e 120,.e 121]⟩,
 ⟨132,.rset 0 [.i,.i,.i,.b,.s,.s,.b,.i,.i],[.e 131,.e 111,.e 122,.e 123,.e 124,.e 125,.e 126,.e 127,.e 128,.e 129,.e 130]⟩,
 ⟨133,.w2 .i64 .sub,[.e 106,.c (.int 1)]⟩]
def Gs:List En:=ld++(mZ)
def aX:List ObE:=[⟨some 109,.inr,[.e 111,.e 1]⟩,⟨some 109,.inr,[.e 106,.e 1]⟩,⟨some 109,.inr,[.e 106,.e 1]⟩,⟨some 109,.inr,[.e 112,.e 1]⟩]
def Qn:Bs:=mkD 106 2 Gs 109 [.e 133,.e 132] aX [77,74,1]
def U1:List Rf:=[.e 77,.e 74,.e 1,.e 3,.e 0]
def jl:List En:=[ABF 134 69 71,
 ABV 135 2 4,
 ⟨136,.w1 .u64,[.e 135]⟩,
 ⟨137,.o2 .div,[.e 136,.c (.int 2)]⟩,
 ABV 138 137 3,
 ABI 139 137 3,
 nl 140 134 139,
 ABW 141 138 4,
 ABF 142 134 139,
 ABT 143 139 137 3,
 ABT 144 139 141 2,
 ⟨145,.w2 .i64 .sub,[.e 138,.c (.int 1)]⟩]
def QX:List En:=jl
def mI:List En:=[ABI 148 147 146,
 nl 149 134 148,
 ABF 150 134 148,
 ABV 151 147 146,
 ⟨152,.w1 .u64,[.e 151]⟩,
 ⟨153,.o2 .div,[.e 152,.c (.int 2)]⟩,
 ABW 154 145 153,
 ABM 155 0 154,
 ABJ 156 0 154,
 ABK 157 0 154,
 ABP 158 0 154,
 ABN 159 0 154,
 ABO 160 0 154,
 ABQ 161 0 154,
 ABR 162 0 154,
 ABS 163 0 154]
def jj:List En:=[ABM 164 0 153,
 ABJ 165 0 153,
 ABK 166 0 153,
 ABP 167 0 153,
 ABN 168 0 153,
 ABO 169 0 153,
 ABQ 170 0 153,
 ABR 171 0 153,
 ABS 172 0 153,
 ⟨173,.outI "cmpB.0" It,sk⟩,
 ⟨174,.lt,[.e 173,.c (.int 0)]⟩,
 nl 175 149 174,
 ABF 176 149 174,
 ⟨177,.w2 .i64 .add,[.e 153,.c (.int 1)]⟩,
 ABT 178 174 153 146,
 ABT 179 174 147 177]
def JD:List En:=mI++(jj)
def ac:List ObE:=[⟨some 149,.inr,[.e 153,.e 1]⟩,⟨some 149,.inr,[.e 154,.e 1]⟩]
def QF:Bs:=mkD 146 2 JD 149 [.e 178,.e 179] ac [0,145,134,1]
def UP:List Rf:=[.e 0,.e 145,.e 134,.e 1,.e 143,.e 144]
def mP:List En:=[ABW 180 138 147,
 ABI 181 147 3,
 nl 182 150 181,
 ABI 183 3 180,
 nl 184 181 183,
 nl 185 150 184,
 ⟨186,.outL "rotB.0" RC,[.e 0,.e 1,.e 147,.e 3,.e 180]⟩,
 ABF 187 150 184,
 ABX 188 184 186 0,
 ABI 189 2 147,
 nl 190 150 189,
 ABI 191 147 137,
 nl 192 189 191,
 nl 193 150 192,
 ⟨194,.outL "symB.0" JG,[.e 188,.e 1,.e 2,.e 147,.e 137]⟩,
 ABF 195 150 192]
def mi:List En:=[ABX 196 192 194 188,
 ABI 197 137 180,
 nl 198 150 197,
 ABI 199 180 4,
 nl 200 197 199,
 nl 201 150 200,
 ⟨202,.outL "symB.0" JG,[.e 196,.e 1,.e 137,.e 180,.e 4]⟩,
 ABF 203 150 200,
 ABX 204 200 202 196,
 ABX 205 45 41 107,
 ABG 206 45 110,
 ABX 207 206 205 204]
def cH:List En:=mP++(mi)
def wo (f:Nat):List ObE:=[⟨some 201,.pre "symB.p0" (GY f),[.e 196,.e 1,.e 137,.e 180,.e 4]⟩,
 ⟨some 193,.pre "symB.p0" (GY f),[.e 188,.e 1,.e 2,.e 147,.e 137]⟩,
 ⟨some 185,.pre "rotB.p0" N1,[.e 0,.e 1,.e 147,.e 3,.e 180]⟩,
 ⟨some 134,.owes QF,[.e 0,.e 145,.e 134,.e 1,.e 143,.e 144]⟩,
 ⟨some 77,.owes Qn,[.e 77,.e 74,.e 1,.e 3,.e 0]⟩,
 ⟨some 72,.owes P2,[.e 0,.e 3,.e 72,.e 1,.e 3,.e 2]⟩,
 ⟨some 11,.owes Qh,[.e 11,.e 8,.e 1,.e 2,.e 0]⟩,
 ⟨some 6,.owes QS,[.e 0,.e 2,.e 6,.e 1,.e 4,.e 3]⟩]
def py:List Rf:=[.e 207]
end
section
open Go Go.Eng Go.Proofs
set_option maxHeartbeats 4000000
set_option maxRecDepth 100000
variable {f:Nat}
theorem xN:(Er (f+1)).sees py ((Er (f+1)).runB Try.prog [(101,NK),(148,N4),(145,Er f)] Bp 3000 20 145)=some ((Fy++((B5 QS [.i,.i] Uo)++(D2++(Ns++((B5 Qh [.i,.l] Uj)++(Ep++(Ix++((B5 P2 [.i,.i] U5)++(E8++(Ug++((B5 Qn [.i,.l] U1)++(Gs++(QX++((B5 QF [.i,.i] UP)++(JD++(cH)))))))))))))))).map En.be,(wo f).map ObE.be,[]):=by kernel_rfl
abbrev eF(T:Tab)(a:Int)(b:Int):Prop:=(I T 3)<=b/\b <=a/\a <=I T 4/\(b=I T 3\/ltB (((L T 0)).getD (b - 1).toNat []) (((L T 0)).getD (I T 2).toNat [])=true)/\(a=I T 4\/¬ltB (((L T 0)).getD a.toNat []) (((L T 0)).getD (I T 2).toNat [])=true)
variable{T:Tab}
theorem rj (bl:I T 1<=140737488355328)(E:(I T 4).toNat - (I T 2).toNat < (f+1)/\((L T 0)).length=I T 1/\0<=I T 2/\I T 2 < I T 3/\I T 3 < I T 4/\I T 4<=I T 1/\Srt ltB (seg (L T 0) (I T 2).toNat (I T 3).toNat)/\Srt ltB (seg (L T 0) (I T 3).toNat (I T 4).toNat)/\Dst ltB (seg (L T 0) (I T 2).toNat (I T 4).toNat))(hS:Ba T (Bh (CA 0 (Er (f+1)).ks) Fy))(hB:Bi T (D2.map En.be))(hH:Bi T ((B5 QS [.i,.i] Uo).map En.be)):
  (QS).owes (Uo.map (Rf.eval T))/\Ba T (hds 7 [.i,.i])/\(eF T (I T 7) (I T 8))/\¬B T 10=true:=by
 refine CK (nh:=7) (k:=2) (pcn:=10) (R:=40) (b:=D2) (K:=bL) (nxt:=[.e 38,.e 39]) (H:=[.e 4,.e 3]) (fv:=[0,2,6,1]) (A:=[.i,.i]) (by kernel_rfl) rfl rfl rfl rfl hS (by kernel_rfl) (by kernel_rfl) hB (B6 hH) (fun s=>eF T (aI s 0) (aI s 1)) (fun s=>((aI s 0) - (aI s 1)).toNat) ?_ ?_
 .show eF T (I T 4) (I T 3);clear hS hB hH;obtain⟨M,N,O,P,Q,V,j,l,o⟩:=E;exact⟨Aw _,by omega,Aw _,.inl rfl,.inl rfl⟩
 .intro J D w x;replace x:eF T (I J 7) (I J 8):=x;clear hS hB hH;replace w:BV J D2:=w;obtain⟨F,w⟩:=w.cut;have F1:=w;clear w;have a5:=fvL (D 0 (by decide));have a6:=fvI (D 2 (by decide));have bi:=fvB (D 6 (by decide));have bc:=fvI (D 1 (by decide));clear D
  suffices hz:(B J 10=true->0<=I J 2/\I J 2 < I J 1)/\(B J 10=true->0<=I J 14/\I J 14 < I J 1)/\(B J 10=true->(eF T (I J 38) (I J 39)))/\(B J 10=true->((I J 38) - (I J 39)).toNat < ((I J 7) - (I J 8)).toNat) from
   let⟨r0,aB,nx,mz⟩:=hz;⟨⟨r0,aB,trivial⟩,fun i=>⟨nx i,mz i⟩⟩
  refine⟨?_,?_,?_,?_⟩
  .obtain⟨g,a,-,c,d,e,-⟩:=F;simp only[BS,BZ,zR,EK,w2P] at g a c d e;obtain⟨M,N,O,P,Q,V,j,l,o⟩:=E;obtain⟨W,v2,X,q,r⟩:=x;intro i;have Z:=g.1 (a.1 i).2;have t:=o2' c (by omega);have u:=d.trans (Kn (by omega) (by omega));have ao:(I J 14)=((I J 8)+I J 7) / 2:=by rw[e,u,t]
   clear j l o q r;omega
  .obtain⟨g,a,-,c,d,e,-⟩:=F;simp only[BS,BZ,zR,EK,w2P] at g a c d e;obtain⟨M,N,O,P,Q,V,j,l,o⟩:=E;obtain⟨W,v2,X,q,r⟩:=x;intro i;have Z:=g.1 (a.1 i).2;have t:=o2' c (by omega);have u:=d.trans (Kn (by omega) (by omega));have ao:(I J 14)=((I J 8)+I J 7) / 2:=by rw[e,u,t]
   clear j l o q r;omega
  .obtain⟨g,a,-,c,d,e,ax,-,a0,-,-,-,-,-,-,a1,-⟩:=F;obtain⟨-,a2,-,-,-,-,-,-,Y,a3,-,y,-,z,C,-⟩:=F1;replace Y:I J 33=(if DC (I J 17) (I J 26)=0 then DC (I J 15) (I J 24) else DC (I J 17) (I J 26)):=Y;simp only[BS,BZ,zR,EK,w2P,zL,zS] at g a c d e ax a0 a1 a2 a3 y z C;obtain⟨M,N,O,P,Q,V,j,l,o⟩:=E;obtain⟨W,v2,X,q,r⟩:=x;intro i;have Z:=g.1 (a.1 i).2;have t:=o2' c (by omega);have u:=d.trans (Kn (by omega) (by omega));have ao:(I J 14)=((I J 8)+I J 7) / 2:=by rw[e,u,t]
   have a4:(B J 34)=true↔ltB (((L T 0)).getD (I J 14).toNat []) (((L T 0)).getD (I T 2).toNat [])=true:=by
    rw[a3,Y,ax,a0,a1,a2,a5,a6];exact (decide_eq_true_iff (p:=eC _ _ < 0)).symm
   have bb:=o2' y (by omega);rw[z,C];by_cases v:(B J 34)=true
   .rw[BH v,BH v];refine⟨by omega,by omega,X,.inr ?_,r⟩;rw[show ((I J 36) - 1).toNat=(I J 14).toNat by omega];exact a4.1 v
   .rw[BG v,BG v];exact⟨W,by omega,by omega,q,.inr fun h=>v (a4.2 h)⟩
  .obtain⟨g,a,-,c,d,e,-⟩:=F;obtain⟨-,-,-,-,-,-,-,-,-,-,-,y,-,z,C,-⟩:=F1;simp only[BS,BZ,zR,EK,w2P,zL,zS] at g a c d e y z C;obtain⟨M,N,O,P,Q,V,j,l,o⟩:=E;obtain⟨W,v2,X,q,r⟩:=x;intro i;have Z:=g.1 (a.1 i).2;have t:=o2' c (by omega);have u:=d.trans (Kn (by omega) (by omega));have ao:(I J 14)=((I J 8)+I J 7) / 2:=by rw[e,u,t]
   have bb:=o2' y (by omega);rw[z,C];clear j l o q r;split<;>omega
abbrev gF(T:Tab):Prop:=(L T 0).length<=140737488355328
theorem nM (k:gF T)(j:∀u∈(L T 0),Bb BT KB u)(l:0<=I T 1)(i:I T 1<=140737488355328)(p:(I T 4).toNat - (I T 2).toNat < (f+1)/\((L T 0)).length=I T 1/\0<=I T 2/\I T 2 < I T 3/\I T 3 < I T 4/\I T 4<=I T 1/\Srt ltB (seg (L T 0) (I T 2).toNat (I T 3).toNat)/\Srt ltB (seg (L T 0) (I T 3).toNat (I T 4).toNat)/\Dst ltB (seg (L T 0) (I T 2).toNat (I T 4).toNat))(b:eF T (I T 7) (I T 8))(o:¬B T 10=true)(c:BV T Fy)(a:BV T D2):
  ((I T 3)<=I T 8/\I T 8<=I T 4):=by
 have e:=c;clear c;obtain⟨g,a⟩:=a.cut;have h:=a;clear a;have d:(I T 3)<=I T 8/\I T 8<=I T 4:=by
  exact⟨b.1,by have:=b.2.1;have:=b.2.2.1;omega⟩
 exact d
abbrev eO(T:Tab)(a:Int)(b:List (List U)):Prop:=(I T 2)<=a/\a <=I T 8 - 1/\b.length=I T 1/\(∀u∈b,Bb BT KB u)/\b=DH (L T 0) (I T 2).toNat ((I T 2).toNat+1) (a.toNat+1)
abbrev gG(T:Tab):Prop:=(I T 3)<=I T 8/\I T 8<=I T 4
theorem qm (b2:∀u∈(L T 0),Bb BT KB u)(ce:I T 1<=140737488355328)(r:(I T 4).toNat - (I T 2).toNat < (f+1)/\((L T 0)).length=I T 1/\0<=I T 2/\I T 2 < I T 3/\I T 3 < I T 4/\I T 4<=I T 1/\Srt ltB (seg (L T 0) (I T 2).toNat (I T 3).toNat)/\Srt ltB (seg (L T 0) (I T 3).toNat (I T 4).toNat)/\Dst ltB (seg (L T 0) (I T 2).toNat (I T 4).toNat))(g8:gG T)(hS:Ba T (Bh (Bh (hds 7 [.i,.i]++(Bh (CA 0 (Er (f+1)).ks) Fy)) D2) Ns))(hB:Bi T (Ep.map En.be))(hH:Bi T ((B5 Qh [.i,.l] Uj).map En.be)):
  (Qh).owes (Uj.map (Rf.eval T))/\Ba T (hds 40 [.i,.l])/\(eO T (I T 40) (L T 41))/\¬B T 44=true:=by
 refine CK (nh:=40) (k:=2) (pcn:=44) (R:=69) (b:=Ep) (K:=ep) (nxt:=[.e 68,.e 67]) (H:=[.e 2,.e 0]) (fv:=[11,8,1]) (A:=[.i,.l]) (by kernel_rfl) rfl rfl rfl rfl hS (by kernel_rfl) (by kernel_rfl) hB (B6 hH) (fun s=>eO T (aI s 0) (aL s 1)) (fun s=>((I T 8) - (aI s 0)).toNat) ?_ ?_
 .show eO T (I T 2) (L T 0);clear hS hB hH;obtain⟨w,q,x,y,z,D,i,j,l⟩:=r;exact⟨Aw _,by omega,q,b2,(Ss (.inr rfl) (by omega) (AE _) (by omega)).symm⟩
 .intro J X v p;replace p:eO T (I J 40) (L J 41):=p;clear hS hB hH;replace v:BV J Ep:=v;obtain⟨t,v⟩:=v.cut;have F1:=v;clear v;have ca:=fvB (X 11 (by decide));have cb:=fvI (X 8 (by decide));have b9:=fvI (X 1 (by decide));clear X
  suffices hz:(B J 44=true->0<=I J 46/\I J 46 < I J 1)/\(B J 44=true->0<=I J 40/\I J 40 < I J 1)/\(B J 44=true->0<=I J 40/\I J 40 < I J 1)/\(B J 44=true->0<=I J 47/\I J 47 < I J 1)/\(B J 44=true->(eO T (I J 68) (L J 67)))/\(B J 44=true->((I T 8) - (I J 68)).toNat < ((I T 8) - (I J 40)).toNat) from
   let⟨r0,aB,aJ,r3,nx,mz⟩:=hz;⟨⟨r0,aB,aJ,r3,trivial⟩,fun h=>⟨nx h,mz h⟩⟩
  refine⟨?_,?_,?_,?_,?_,?_⟩
  .obtain⟨d,e,g,-,a,c,-⟩:=t;simp only[BS,BZ,zR,w2P] at d e g a c;obtain⟨w,q,x,y,z,D,i,j,l⟩:=r;obtain⟨Q,V,F,o,M⟩:=p;intro h;have P:=e.1 (g.1 h).2;have zz:True:=by have _:=a;have _:=c;trivial
   have W:=o2' d (by omega);have Y:=o2' a (by omega);have Z:=o2' c (by omega);clear i j l;omega
  .obtain⟨d,e,g,-,a,c,-⟩:=t;simp only[BS,BZ,zR,w2P] at d e g a c;obtain⟨w,q,x,y,z,D,i,j,l⟩:=r;obtain⟨Q,V,F,o,M⟩:=p;intro h;have P:=e.1 (g.1 h).2;have zz:True:=by have _:=a;have _:=c;trivial
   have W:=o2' d (by omega);have Y:=o2' a (by omega);have Z:=o2' c (by omega);clear i j l;omega
  .obtain⟨d,e,g,-,a,c,-⟩:=t;simp only[BS,BZ,zR,w2P] at d e g a c;obtain⟨w,q,x,y,z,D,i,j,l⟩:=r;obtain⟨Q,V,F,o,M⟩:=p;intro h;have P:=e.1 (g.1 h).2;have zz:True:=by have _:=a;have _:=c;trivial
   have W:=o2' d (by omega);have Y:=o2' a (by omega);have Z:=o2' c (by omega);clear i j l;omega
  .obtain⟨d,e,g,-,a,c,-⟩:=t;simp only[BS,BZ,zR,w2P] at d e g a c;obtain⟨w,q,x,y,z,D,i,j,l⟩:=r;obtain⟨Q,V,F,o,M⟩:=p;intro h;have P:=e.1 (g.1 h).2;have zz:True:=by have _:=a;have _:=c;trivial
   have W:=o2' d (by omega);have Y:=o2' a (by omega);have Z:=o2' c (by omega);clear i j l;omega
  .obtain⟨d,e,g,-,a,c,aw,ax,a0,a1,a2,a3,a4,a5,a6,a7,-⟩:=t;obtain⟨a8,a9,ba,bb,bc,bi,bl,bm,bo,bs,N,-⟩:=F1;simp only[BS,BZ,zR,w2P,zL,zS,uR,zW,zC] at d e g a c aw ax a0 a1 a2 a3 a4 a5 a6 a7 a8 a9 ba bb bc bi bl bm bo bs N;obtain⟨w,q,x,y,z,D,i,j,l⟩:=r;obtain⟨Q,V,F,o,M⟩:=p;intro h;have P:=e.1 (g.1 h).2;have W:=o2' d (by omega);have Y:=o2' a (by omega);have Z:=o2' c (by omega);have b8:=o2' N (by omega);clear i j l;have jA:(I J 40).toNat < ((L J 41)).length:=by omega
   have jB:(I J 40).toNat+1 < ((L J 41)).length:=by omega
   have sA:=o _ (Ca jA);have sB:=o _ (Ca jB);have O:(L J 66)=((L J 41)).set ((I J 40).toNat) (((L J 41)).getD ((I J 40).toNat+1) []):=by
    rw[bo,aw,ax,a0,a1,a2,a3,a4,a5,a6,show (I J 47).toNat=(I J 40).toNat+1 by omega];exact Sr o jA sB
   have k1:∀u∈(L J 66),Bb BT KB u:=by rw[O];exact FY o sB
   have C:(L J 67)=((L J 66)).set ((I J 40).toNat+1) (((L J 41)).getD ((I J 40).toNat) []):=by
    rw[bs,a7,a8,a9,ba,bb,bc,bi,bl,bm,show (I J 46).toNat=(I J 40).toNat+1 by omega];exact Sr k1 (by rw[O,Au];exact jB) sA
   have E:∀u∈(L J 67),Bb BT KB u:=by rw[C];exact FY k1 sA
   have aD:((L J 67)).length=((L J 41)).length:=by rw[C,O,Au,Au]
   refine⟨by omega,by omega,by rw[aD];exact F,E,?_⟩;rw[C,O,xS M (by omega) (by omega),show (I J 68).toNat=(I J 40).toNat+1 by omega]
  .obtain⟨d,e,g,-⟩:=t;obtain⟨-,-,-,-,-,-,-,-,-,-,N,-⟩:=F1;simp only[BS,BZ,zR,w2P] at d e g N;obtain⟨w,q,x,y,z,D,i,j,l⟩:=r;obtain⟨Q,V,F,o,M⟩:=p;intro h;have P:=e.1 (g.1 h).2;have W:=o2' d (by omega);have b8:=o2' N (by omega);clear i j l;omega
abbrev eW(T:Tab)(a:Int)(b:Int):Prop:=(I T 2)<=b/\b <=a/\a <=I T 3/\(b=I T 2\/¬ltB (((L T 0)).getD (I T 3).toNat []) (((L T 0)).getD (b - 1).toNat [])=true)/\(a=I T 3\/ltB (((L T 0)).getD (I T 3).toNat []) (((L T 0)).getD a.toNat [])=true)
theorem rB (bl:I T 1<=140737488355328)(E:(I T 4).toNat - (I T 2).toNat < (f+1)/\((L T 0)).length=I T 1/\0<=I T 2/\I T 2 < I T 3/\I T 3 < I T 4/\I T 4<=I T 1/\Srt ltB (seg (L T 0) (I T 2).toNat (I T 3).toNat)/\Srt ltB (seg (L T 0) (I T 3).toNat (I T 4).toNat)/\Dst ltB (seg (L T 0) (I T 2).toNat (I T 4).toNat))(hS:Ba T (Bh (Bh (hds 40 [.i,.l]++(Bh (Bh (hds 7 [.i,.i]++(Bh (CA 0 (Er (f+1)).ks) Fy)) D2) Ns)) Ep) Ix))(hB:Bi T (E8.map En.be))(hH:Bi T ((B5 P2 [.i,.i] U5).map En.be)):
  (P2).owes (U5.map (Rf.eval T))/\Ba T (hds 73 [.i,.i])/\(eW T (I T 73) (I T 74))/\¬B T 76=true:=by
 refine CK (nh:=73) (k:=2) (pcn:=76) (R:=106) (b:=E8) (K:=cM) (nxt:=[.e 104,.e 105]) (H:=[.e 3,.e 2]) (fv:=[0,3,72,1]) (A:=[.i,.i]) (by kernel_rfl) rfl rfl rfl rfl hS (by kernel_rfl) (by kernel_rfl) hB (B6 hH) (fun s=>eW T (aI s 0) (aI s 1)) (fun s=>((aI s 0) - (aI s 1)).toNat) ?_ ?_
 .show eW T (I T 3) (I T 2);clear hS hB hH;obtain⟨M,N,O,P,Q,V,j,l,o⟩:=E;exact⟨Aw _,by omega,Aw _,.inl rfl,.inl rfl⟩
 .intro J D v w;replace w:eW T (I J 73) (I J 74):=w;clear hS hB hH;replace v:BV J E8:=v;obtain⟨F,v⟩:=v.cut;have F1:=v;clear v;have a5:=fvL (D 0 (by decide));have a6:=fvI (D 3 (by decide));have bi:=fvB (D 72 (by decide));have bc:=fvI (D 1 (by decide));clear D
  suffices hz:(B J 76=true->0<=I J 80/\I J 80 < I J 1)/\(B J 76=true->0<=I J 3/\I J 3 < I J 1)/\(B J 76=true->(eW T (I J 104) (I J 105)))/\(B J 76=true->((I J 104) - (I J 105)).toNat < ((I J 73) - (I J 74)).toNat) from
   let⟨r0,aB,nx,mz⟩:=hz;⟨⟨r0,aB,trivial⟩,fun i=>⟨nx i,mz i⟩⟩
  refine⟨?_,?_,?_,?_⟩
  .obtain⟨a,c,-,d,e,g,-⟩:=F;simp only[BS,BZ,zR,EK,w2P] at a c d e g;obtain⟨M,N,O,P,Q,V,j,l,o⟩:=E;obtain⟨W,v2,X,q,r⟩:=w;intro i;have Z:=a.1 (c.1 i).2;have t:=o2' d (by omega);have u:=e.trans (Kn (by omega) (by omega));have ao:(I J 80)=((I J 74)+I J 73) / 2:=by rw[g,u,t]
   clear j l o q r;omega
  .obtain⟨a,c,-,d,e,g,-⟩:=F;simp only[BS,BZ,zR,EK,w2P] at a c d e g;obtain⟨M,N,O,P,Q,V,j,l,o⟩:=E;obtain⟨W,v2,X,q,r⟩:=w;intro i;have Z:=a.1 (c.1 i).2;have t:=o2' d (by omega);have u:=e.trans (Kn (by omega) (by omega));have ao:(I J 80)=((I J 74)+I J 73) / 2:=by rw[g,u,t]
   clear j l o q r;omega
  .obtain⟨a,c,-,d,e,g,a0,-,a1,-,-,-,-,-,-,a2,-⟩:=F;obtain⟨-,a3,-,-,-,-,-,-,Y,ax,-,-,x,y,z,-⟩:=F1;replace Y:I J 99=(if DC (I J 83) (I J 92)=0 then DC (I J 81) (I J 90) else DC (I J 83) (I J 92)):=Y;simp only[BS,BZ,zR,EK,w2P,zL,zS] at a c d e g a0 a1 a2 a3 ax x y z;obtain⟨M,N,O,P,Q,V,j,l,o⟩:=E;obtain⟨W,v2,X,q,r⟩:=w;intro i;have Z:=a.1 (c.1 i).2;have t:=o2' d (by omega);have u:=e.trans (Kn (by omega) (by omega));have ao:(I J 80)=((I J 74)+I J 73) / 2:=by rw[g,u,t]
   have a4:(B J 100)=true↔ltB (((L T 0)).getD (I T 3).toNat []) (((L T 0)).getD (I J 80).toNat [])=true:=by
    rw[ax,Y,a0,a1,a2,a3,a5,a6];exact (decide_eq_true_iff (p:=eC _ _ < 0)).symm
   have bb:=o2' x (by omega);rw[y,z];by_cases h:(B J 100)=true
   .rw[BH h,BH h];exact⟨W,by omega,by omega,q,.inr (a4.1 h)⟩
   .rw[BG h,BG h];refine⟨by omega,by omega,X,.inr ?_,r⟩;rw[show ((I J 103) - 1).toNat=(I J 80).toNat by omega];exact fun C=>h (a4.2 C)
  .obtain⟨a,c,-,d,e,g,-⟩:=F;obtain⟨-,-,-,-,-,-,-,-,-,-,-,-,x,y,z,-⟩:=F1;simp only[BS,BZ,zR,EK,w2P,zL,zS] at a c d e g x y z;obtain⟨M,N,O,P,Q,V,j,l,o⟩:=E;obtain⟨W,v2,X,q,r⟩:=w;intro i;have Z:=a.1 (c.1 i).2;have t:=o2' d (by omega);have u:=e.trans (Kn (by omega) (by omega));have ao:(I J 80)=((I J 74)+I J 73) / 2:=by rw[g,u,t]
   have bb:=o2' x (by omega);rw[y,z];clear j l o q r;split<;>omega
theorem oy (w:gF T)(v:∀u∈(L T 0),Bb BT KB u)(z:0<=I T 1)(t:I T 1<=140737488355328)(E:(I T 4).toNat - (I T 2).toNat < (f+1)/\((L T 0)).length=I T 1/\0<=I T 2/\I T 2 < I T 3/\I T 3 < I T 4/\I T 4<=I T 1/\Srt ltB (seg (L T 0) (I T 2).toNat (I T 3).toNat)/\Srt ltB (seg (L T 0) (I T 3).toNat (I T 4).toNat)/\Dst ltB (seg (L T 0) (I T 2).toNat (I T 4).toNat))(x:eF T (I T 7) (I T 8))(A:¬B T 10=true)(s:gG T)(y:eO T (I T 40) (L T 41))(C:¬B T 44=true)(d:eW T (I T 73) (I T 74))(D:¬B T 76=true)(e:BV T Fy)(a:BV T D2)(b:BV T Ep)(g:BV T Ix)(c:BV T E8):
  ((I T 2)<=I T 74/\I T 74<=I T 3):=by
 have i:=e;clear e;obtain⟨j,a⟩:=a.cut;have k:=a;clear a;obtain⟨l,b⟩:=b.cut;have o:=b;clear b;have p:=g;clear g;obtain⟨q,c⟩:=c.cut;have r:=c;clear c;have h:(I T 2)<=I T 74/\I T 74<=I T 3:=by
  exact⟨d.1,by have:=d.2.1;have:=d.2.2.1;omega⟩
 exact h
abbrev fb(T:Tab)(a:Int)(b:List (List U)):Prop:=(I T 74)<=a/\a <=I T 3/\b.length=I T 1/\(∀u∈b,Bb BT KB u)/\b=DH (L T 0) a.toNat (I T 3).toNat ((I T 3).toNat+1)
abbrev gK(T:Tab):Prop:=(I T 2)<=I T 74/\I T 74<=I T 3
theorem ql (b0:∀u∈(L T 0),Bb BT KB u)(cb:I T 1<=140737488355328)(q:(I T 4).toNat - (I T 2).toNat < (f+1)/\((L T 0)).length=I T 1/\0<=I T 2/\I T 2 < I T 3/\I T 3 < I T 4/\I T 4<=I T 1/\Srt ltB (seg (L T 0) (I T 2).toNat (I T 3).toNat)/\Srt ltB (seg (L T 0) (I T 3).toNat (I T 4).toNat)/\Dst ltB (seg (L T 0) (I T 2).toNat (I T 4).toNat))(ca:gK T)(hS:Ba T (Bh (Bh (hds 73 [.i,.i]++(Bh (Bh (hds 40 [.i,.l]++(Bh (Bh (hds 7 [.i,.i]++(Bh (CA 0 (Er (f+1)).ks) Fy)) D2) Ns)) Ep) Ix)) E8) Ug))(Y:Bi T (Gs.map En.be))(Z:Bi T ((B5 Qn [.i,.l] U1).map En.be)):
  (Qn).owes (U1.map (Rf.eval T))/\Ba T (hds 106 [.i,.l])/\(fb T (I T 106) (L T 107))/\¬B T 109=true:=by
 refine CK (nh:=106) (k:=2) (pcn:=109) (R:=134) (b:=Gs) (K:=aX) (nxt:=[.e 133,.e 132]) (H:=[.e 3,.e 0]) (fv:=[77,74,1]) (A:=[.i,.l]) (by kernel_rfl) rfl rfl rfl rfl hS (by kernel_rfl) (by kernel_rfl) Y (B6 Z) (fun s=>fb T (aI s 0) (aL s 1)) (fun s=>((aI s 0)).toNat) ?_ ?_
 .show fb T (I T 3) (L T 0);clear hS Y Z;obtain⟨v,p,w,x,y,z,h,i,j⟩:=q;exact⟨by omega,Aw _,p,b0,(Ss (.inl rfl) (AE _) (by omega) (by omega)).symm⟩
 .intro J V t o;replace o:fb T (I J 106) (L J 107):=o;clear hS Y Z;replace t:BV J Gs:=t;obtain⟨r,t⟩:=t.cut;have F1:=t;clear t;have b9:=fvB (V 77 (by decide));have b8:=fvI (V 74 (by decide));have b7:=fvI (V 1 (by decide));clear V
  suffices hz:(B J 109=true->0<=I J 111/\I J 111 < I J 1)/\(B J 109=true->0<=I J 106/\I J 106 < I J 1)/\(B J 109=true->0<=I J 106/\I J 106 < I J 1)/\(B J 109=true->0<=I J 112/\I J 112 < I J 1)/\(B J 109=true->(fb T (I J 133) (L J 132)))/\(B J 109=true->((I J 133)).toNat < ((I J 106)).toNat) from
   let⟨r0,aB,aJ,r3,nx,mz⟩:=hz;⟨⟨r0,aB,aJ,r3,trivial⟩,fun g=>⟨nx g,mz g⟩⟩
  refine⟨?_,?_,?_,?_,?_,?_⟩
  .obtain⟨d,e,-,a,c,-⟩:=r;simp only[BS,BZ,zR,w2P] at d e a c;obtain⟨v,p,w,x,y,z,h,i,j⟩:=q;obtain⟨P,Q,D,l,F⟩:=o;intro g;have N:=d.1 (e.1 g).2;have zz:True:=by have _:=a;have _:=c;trivial
   have W:=o2' a (by omega);have X:=o2' c (by omega);clear h i j;omega
  .obtain⟨d,e,-,a,c,-⟩:=r;simp only[BS,BZ,zR,w2P] at d e a c;obtain⟨v,p,w,x,y,z,h,i,j⟩:=q;obtain⟨P,Q,D,l,F⟩:=o;intro g;have N:=d.1 (e.1 g).2;have zz:True:=by have _:=a;have _:=c;trivial
   have W:=o2' a (by omega);have X:=o2' c (by omega);clear h i j;omega
  .obtain⟨d,e,-,a,c,-⟩:=r;simp only[BS,BZ,zR,w2P] at d e a c;obtain⟨v,p,w,x,y,z,h,i,j⟩:=q;obtain⟨P,Q,D,l,F⟩:=o;intro g;have N:=d.1 (e.1 g).2;have zz:True:=by have _:=a;have _:=c;trivial
   have W:=o2' a (by omega);have X:=o2' c (by omega);clear h i j;omega
  .obtain⟨d,e,-,a,c,-⟩:=r;simp only[BS,BZ,zR,w2P] at d e a c;obtain⟨v,p,w,x,y,z,h,i,j⟩:=q;obtain⟨P,Q,D,l,F⟩:=o;intro g;have N:=d.1 (e.1 g).2;have zz:True:=by have _:=a;have _:=c;trivial
   have W:=o2' a (by omega);have X:=o2' c (by omega);clear h i j;omega
  .obtain⟨d,e,-,a,c,al,ao,aw,ax,a0,a1,a2,a3,a4,a5,a6,-⟩:=r;obtain⟨a7,a8,a9,ba,bb,bc,bi,bl,bm,M,-⟩:=F1;simp only[BS,BZ,zR,w2P,zL,zS,uR,zW,zC] at d e a c al ao aw ax a0 a1 a2 a3 a4 a5 a6 a7 a8 a9 ba bb bc bi bl bm M;obtain⟨v,p,w,x,y,z,h,i,j⟩:=q;obtain⟨P,Q,D,l,F⟩:=o;intro g;have N:=d.1 (e.1 g).2;have W:=o2' a (by omega);have X:=o2' c (by omega);have b6:=o2' M (by omega);clear h i j;have jA:(I J 106).toNat < ((L J 107)).length:=by omega
   have jB:(I J 106).toNat - 1 < ((L J 107)).length:=by omega
   have sA:=l _ (Ca jA);have sB:=l _ (Ca jB);have O:(L J 131)=((L J 107)).set ((I J 106).toNat) (((L J 107)).getD ((I J 106).toNat - 1) []):=by
    rw[bl,al,ao,aw,ax,a0,a1,a2,a3,a4,show (I J 112).toNat=(I J 106).toNat - 1 by omega];exact Sr l jA sB
   have k1:∀u∈(L J 131),Bb BT KB u:=by rw[O];exact FY l sB
   have C:(L J 132)=((L J 131)).set ((I J 106).toNat - 1) (((L J 107)).getD ((I J 106).toNat) []):=by
    rw[bm,a5,a6,a7,a8,a9,ba,bb,bc,bi,show (I J 111).toNat=(I J 106).toNat - 1 by omega];exact Sr k1 (by rw[O,Au];exact jB) sA
   have E:∀u∈(L J 132),Bb BT KB u:=by rw[C];exact FY k1 sA
   have aD:((L J 132)).length=((L J 107)).length:=by rw[C,O,Au,Au]
   refine⟨by omega,by omega,by rw[aD];exact D,E,?_⟩;rw[C,O,ss F (by omega) (by omega) (by omega),show (I J 133).toNat=(I J 106).toNat - 1 by omega]
  .obtain⟨d,e,-⟩:=r;obtain⟨-,-,-,-,-,-,-,-,-,M,-⟩:=F1;simp only[BS,BZ,zR,w2P] at d e M;obtain⟨v,p,w,x,y,z,h,i,j⟩:=q;obtain⟨P,Q,D,l,F⟩:=o;intro g;have N:=d.1 (e.1 g).2;have b6:=o2' M (by omega);clear h i j;omega
theorem pd (ao:gF T)(al:∀u∈(L T 0),Bb BT KB u)(a2:0<=I T 1)(ag:I T 1<=140737488355328)(D:(I T 4).toNat - (I T 2).toNat < (f+1)/\((L T 0)).length=I T 1/\0<=I T 2/\I T 2 < I T 3/\I T 3 < I T 4/\I T 4<=I T 1/\Srt ltB (seg (L T 0) (I T 2).toNat (I T 3).toNat)/\Srt ltB (seg (L T 0) (I T 3).toNat (I T 4).toNat)/\Dst ltB (seg (L T 0) (I T 2).toNat (I T 4).toNat))(aw:eF T (I T 7) (I T 8))(a3:¬B T 10=true)(g8:gG T)(ax:eO T (I T 40) (L T 41))(a4:¬B T 44=true)(a0:eW T (I T 73) (I T 74))(a5:¬B T 76=true)(ab:gK T)(a1:fb T (I T 106) (L T 107))(a6:¬B T 109=true)(j:BV T Fy)(a:BV T D2)(b:BV T Ep)(k:BV T Ix)(c:BV T E8)(d:BV T Gs)(l:BV T QX):
  (2*I T 137<=I T 2+I T 4/\I T 2+I T 4 < 2*I T 137+2/\I T 138=I T 137+I T 3/\I T 145=I T 138 - 1/\(((I T 137) < I T 3/\I T 143=I T 137/\I T 144=I T 138 - (I T 4))\/((I T 3)<=I T 137/\I T 143=I T 3/\I T 144=I T 2))):=by
 have M:=j;clear j;obtain⟨N,a⟩:=a.cut;have O:=a;clear a;obtain⟨P,b⟩:=b.cut;have Q:=b;clear b;have V:=k;clear k;obtain⟨W,c⟩:=c.cut;have X:=c;clear c;obtain⟨Y,d⟩:=d.cut;have Z:=d;clear d;have v:=l;clear l;have w:2*I T 137<=I T 2+I T 4/\I T 2+I T 4 < 2*I T 137+2/\I T 138=I T 137+I T 3/\I T 145=I T 138 - 1/\(((I T 137) < I T 3/\I T 143=I T 137/\I T 144=I T 138 - (I T 4))\/((I T 3)<=I T 137/\I T 143=I T 3/\I T 144=I T 2)):=by
  obtain⟨-,o,p,q,r,e,-,s,-,g,i,t,-⟩:=v;simp only[BS,BZ,zR,EK,w2P,zL,zS] at o p q r e s g i t;obtain⟨p0,p1,p2,p3,p4,p5,x,y,A⟩:=D;clear x y A;have E:=o2' o (by omega);have F:=p.trans (Kn (by omega) (by omega));have bi:(I T 137)=((I T 2)+I T 4) / 2:=by rw[q,F,E]
  have H:=o2' r (by omega);have J:=o2' s (by omega);have K:=o2' t (by omega);refine⟨by omega,by omega,H,K,?_⟩;by_cases h:(B T 139)=true
  .rw[g,i,BH h,BH h];exact .inl ⟨e.1 h,rfl,J⟩
  .rw[g,i,BG h,BG h];have C:¬I T 137 < I T 3:=fun z=>h (e.2 z);exact .inr ⟨by omega,rfl,rfl⟩
 exact w
abbrev fc(T:Tab)(a:Int)(b:Int):Prop:=(I T 144)<=b/\b <=a/\a <=I T 143/\(b=I T 144\/¬ltB (((L T 0)).getD ((I T 145) - (b - 1)).toNat []) (((L T 0)).getD (b - 1).toNat [])=true)/\(a=I T 143\/ltB (((L T 0)).getD ((I T 145) -a).toNat []) (((L T 0)).getD a.toNat [])=true)
abbrev gM(T:Tab):Prop:=2*I T 137<=I T 2+I T 4/\I T 2+I T 4 < 2*I T 137+2/\I T 138=I T 137+I T 3/\I T 145=I T 138 - 1/\(((I T 137) < I T 3/\I T 143=I T 137/\I T 144=I T 138 - (I T 4))\/((I T 3)<=I T 137/\I T 143=I T 3/\I T 144=I T 2))
theorem tJ (b3:I T 1<=140737488355328)(M:(I T 4).toNat - (I T 2).toNat < (f+1)/\((L T 0)).length=I T 1/\0<=I T 2/\I T 2 < I T 3/\I T 3 < I T 4/\I T 4<=I T 1/\Srt ltB (seg (L T 0) (I T 2).toNat (I T 3).toNat)/\Srt ltB (seg (L T 0) (I T 3).toNat (I T 4).toNat)/\Dst ltB (seg (L T 0) (I T 2).toNat (I T 4).toNat))(E:gM T)(hS:Ba T (Bh (Bh (hds 106 [.i,.l]++(Bh (Bh (hds 73 [.i,.i]++(Bh (Bh (hds 40 [.i,.l]++(Bh (Bh (hds 7 [.i,.i]++(Bh (CA 0 (Er (f+1)).ks) Fy)) D2) Ns)) Ep) Ix)) E8) Ug)) Gs) QX))(hB:Bi T (JD.map En.be))(hH:Bi T ((B5 QF [.i,.i] UP).map En.be)):
  (QF).owes (UP.map (Rf.eval T))/\Ba T (hds 146 [.i,.i])/\(fc T (I T 146) (I T 147))/\¬B T 149=true:=by
 refine CK (nh:=146) (k:=2) (pcn:=149) (R:=180) (b:=JD) (K:=ac) (nxt:=[.e 178,.e 179]) (H:=[.e 143,.e 144]) (fv:=[0,145,134,1]) (A:=[.i,.i]) (by kernel_rfl) rfl rfl rfl rfl hS (by kernel_rfl) (by kernel_rfl) hB (B6 hH) (fun s=>fc T (aI s 0) (aI s 1)) (fun s=>((aI s 0) - (aI s 1)).toNat) ?_ ?_
 .show fc T (I T 143) (I T 144);clear hS hB hH;obtain⟨W,X,Y,Z,p4,p5,l,o,q⟩:=M;obtain⟨O,aw,P,Q,V⟩:=E;exact⟨Aw _,by omega,Aw _,.inl rfl,.inl rfl⟩
 .intro J F w x;replace x:fc T (I J 146) (I J 147):=x;clear hS hB hH;replace w:BV J JD:=w;obtain⟨N,w⟩:=w.cut;have F1:=w;clear w;have bi:=fvL (F 0 (by decide));have bl:=fvI (F 145 (by decide));have b2:=fvB (F 134 (by decide));have b1:=fvI (F 1 (by decide));clear F
  suffices hz:(B J 149=true->0<=I J 153/\I J 153 < I J 1)/\(B J 149=true->0<=I J 154/\I J 154 < I J 1)/\(B J 149=true->(fc T (I J 178) (I J 179)))/\(B J 149=true->((I J 178) - (I J 179)).toNat < ((I J 146) - (I J 147)).toNat) from
   let⟨r0,aB,nx,mz⟩:=hz;⟨⟨r0,aB,trivial⟩,fun j=>⟨nx j,mz j⟩⟩
  refine⟨?_,?_,?_,?_⟩
  .obtain⟨c,d,-,e,g,i,a,-⟩:=N;simp only[BS,BZ,zR,EK,w2P] at c d e g i a;obtain⟨W,X,Y,Z,p4,p5,l,o,q⟩:=M;obtain⟨O,aw,P,Q,V⟩:=E;obtain⟨v1,v2,v3,r,t⟩:=x;intro j;have a0:=c.1 (d.1 j).2;have zz:True:=by have _:=a;trivial
   have u:=o2' e (by omega);have v:=g.trans (Kn (by omega) (by omega));have a6:(I J 153)=((I J 147)+I J 146) / 2:=by rw[i,v,u]
   have ao:=o2' a (by omega);clear l o q r t;omega
  .obtain⟨c,d,-,e,g,i,a,-⟩:=N;simp only[BS,BZ,zR,EK,w2P] at c d e g i a;obtain⟨W,X,Y,Z,p4,p5,l,o,q⟩:=M;obtain⟨O,aw,P,Q,V⟩:=E;obtain⟨v1,v2,v3,r,t⟩:=x;intro j;have a0:=c.1 (d.1 j).2;have zz:True:=by have _:=a;trivial
   have u:=o2' e (by omega);have v:=g.trans (Kn (by omega) (by omega));have a6:(I J 153)=((I J 147)+I J 146) / 2:=by rw[i,v,u]
   have ao:=o2' a (by omega);clear l o q r t;omega
  .obtain⟨c,d,-,e,g,i,a,a8,-,a9,-⟩:=N;obtain⟨ba,-,bb,-,-,-,-,-,-,ax,bc,-,-,y,z,D,-⟩:=F1;replace ax:I J 173=(if DC (I J 157) (I J 166)=0 then DC (I J 155) (I J 164) else DC (I J 157) (I J 166)):=ax;simp only[BS,BZ,zR,EK,w2P,zL,zS] at c d e g i a a8 a9 ba bb bc y z D;obtain⟨W,X,Y,Z,p4,p5,l,o,q⟩:=M;obtain⟨O,aw,P,Q,V⟩:=E;obtain⟨v1,v2,v3,r,t⟩:=x;intro j;have a0:=c.1 (d.1 j).2;have u:=o2' e (by omega);have v:=g.trans (Kn (by omega) (by omega));have a6:(I J 153)=((I J 147)+I J 146) / 2:=by rw[i,v,u]
   have ao:=o2' a (by omega);have a4:(B J 174)=true↔ltB (((L T 0)).getD (I J 154).toNat []) (((L T 0)).getD (I J 153).toNat [])=true:=by
    rw[bc,ax,a8,a9,ba,bb,bi];exact (decide_eq_true_iff (p:=eC _ _ < 0)).symm
   have bx:=o2' y (by omega);rw[z,D];rw[ao,bl] at a4;by_cases h:(B J 174)=true
   .rw[BH h,BH h];exact⟨v1,by omega,by omega,r,.inr (a4.1 h)⟩
   .rw[BG h,BG h];refine⟨by omega,by omega,v3,.inr ?_,t⟩;rw[show (I J 177) - 1=(I J 153) by omega];exact fun C=>h (a4.2 C)
  .obtain⟨c,d,-,e,g,i,a,-⟩:=N;obtain⟨-,-,-,-,-,-,-,-,-,-,-,-,-,y,z,D,-⟩:=F1;simp only[BS,BZ,zR,EK,w2P,zL,zS] at c d e g i a y z D;obtain⟨W,X,Y,Z,p4,p5,l,o,q⟩:=M;obtain⟨O,aw,P,Q,V⟩:=E;obtain⟨v1,v2,v3,r,t⟩:=x;intro j;have a0:=c.1 (d.1 j).2;have u:=o2' e (by omega);have v:=g.trans (Kn (by omega) (by omega));have a6:(I J 153)=((I J 147)+I J 146) / 2:=by rw[i,v,u]
   have ao:=o2' a (by omega);have bx:=o2' y (by omega);rw[z,D];clear l o q r t;split<;>omega
theorem xW (hh:gF T)(hg:∀u∈(L T 0),Bb BT KB u)(hi:0<=I T 1)(hf:I T 1<=140737488355328)(A:(I T 4).toNat - (I T 2).toNat < (f+1)/\((L T 0)).length=I T 1/\0<=I T 2/\I T 2 < I T 3/\I T 3 < I T 4/\I T 4<=I T 1/\Srt ltB (seg (L T 0) (I T 2).toNat (I T 3).toNat)/\Srt ltB (seg (L T 0) (I T 3).toNat (I T 4).toNat)/\Dst ltB (seg (L T 0) (I T 2).toNat (I T 4).toNat))(e3:eF T (I T 7) (I T 8))(f0:¬B T 10=true)(g8:gG T)(e4:eO T (I T 40) (L T 41))(f1:¬B T 44=true)(e5:eW T (I T 73) (I T 74))(f2:¬B T 76=true)(ha:gK T)(e7:fb T (I T 106) (L T 107))(f3:¬B T 109=true)(g4:gM T)(e8:fc T (I T 146) (I T 147))(f4:¬B T 149=true)(A0:BV T Fy)(B0:BV T D2)(B1:BV T Ep)(A2:BV T Ix)(B2:BV T E8)(B3:BV T Gs)(A4:BV T QX)(B4:BV T JD)(A5:BV T cH):
  ((L T 207)=(Br ltB (L T 0) (I T 2).toNat (I T 4).toNat))/\
  (B T 201=true->(I T 4).toNat - (I T 137).toNat < f/\((L T 196)).length=I T 1/\0<=I T 137/\I T 137 < I T 180/\I T 180 < I T 4/\I T 4<=I T 1/\Srt ltB (seg (L T 196) (I T 137).toNat (I T 180).toNat)/\Srt ltB (seg (L T 196) (I T 180).toNat (I T 4).toNat)/\Dst ltB (seg (L T 196) (I T 137).toNat (I T 4).toNat))/\
  (B T 193=true->(I T 137).toNat - (I T 2).toNat < f/\((L T 188)).length=I T 1/\0<=I T 2/\I T 2 < I T 147/\I T 147 < I T 137/\I T 137<=I T 1/\Srt ltB (seg (L T 188) (I T 2).toNat (I T 147).toNat)/\Srt ltB (seg (L T 188) (I T 147).toNat (I T 137).toNat)/\Dst ltB (seg (L T 188) (I T 2).toNat (I T 137).toNat))/\
  (B T 185=true->((L T 0)).length=I T 1/\0<=I T 147/\I T 147 < I T 3/\I T 3 < I T 180/\I T 180<=I T 1):=by
 have F0:=A0;clear A0;obtain⟨F1,B0⟩:=B0.cut;have F2:=B0;clear B0;obtain⟨F3,B1⟩:=B1.cut;have F4:=B1;clear B1;have F5:=A2;clear A2;obtain⟨F6,B2⟩:=B2.cut;have F7:=B2;clear B2;obtain⟨F8,B3⟩:=B3.cut;have F9:=B3;clear B3;have c3:=A4;clear A4;obtain⟨bi,B4⟩:=B4.cut;have gs:=B4;clear B4;obtain⟨N,A5⟩:=A5.cut;have bs:=A5;clear A5;have M:(B T 134)=true->B T 150=true/\I T 2<=I T 147/\I T 147<=I T 3/\I T 3<=I T 180/\I T 180<=I T 4/\I T 137+I T 3=I T 147+I T 180/\I T 2 < I T 137/\I T 137 < I T 4/\((I T 147)=I T 2\/I T 180=I T 4\/¬ltB (((L T 0)).getD (I T 180).toNat []) (((L T 0)).getD ((I T 147).toNat - 1) [])=true)/\((I T 180)=I T 3\/I T 147=I T 3\/ltB (((L T 0)).getD ((I T 180).toNat - 1) []) (((L T 0)).getD (I T 147).toNat [])=true):=by
  obtain⟨Z,e6,-⟩:=F0;obtain⟨r,ad,ag,-⟩:=F5;obtain⟨O,-⟩:=c3;obtain⟨b1,c7,i,-⟩:=bi;obtain⟨c8,-⟩:=N;simp only[BS,BZ,zN,zR,w2P] at Z e6 r ad ag O b1 c7 i c8;obtain⟨H,v,w,J,K,z,q,o,j⟩:=A;obtain⟨g1,aw,g3,g5,g6⟩:=g4;obtain⟨v1,v2,v3,d,g⟩:=e8;intro c;have ey:¬I T 147 < I T 146:=fun h=>f4 (c7.2 ⟨c,b1.2 h⟩);have k:=i.2 ⟨c,by cases p:(B T 148);rfl;exact absurd (b1.1 p) ey⟩;obtain⟨ax,t⟩:=O.1 c;have aa:(I T 147)=I T 146:=by omega
  have n6:¬I T 5=1:=fun h=>by rw[e6.2 h] at r;simp at r;rw[r] at ax;cases ax
  have hl:¬I T 70=1:=fun h=>by rw[ag.2 h] at t;cases t
  have x5:=o2' Z (by omega);have gp:=o2' ad (by omega);have hn:=o2' c8 (by omega);refine⟨k,by omega,by omega,by omega,by omega,by omega,by omega,by omega,?_,?_⟩
  .rcases d with d|d
   .omega
   .refine .inr (.inr ?_);rw[show (I T 180).toNat=((I T 145) - ((I T 147) - 1)).toNat by omega,show (I T 147).toNat - 1=((I T 147) - 1).toNat by omega];exact d
  .rcases g with g|g
   .omega
   .refine .inr (.inr ?_);rw[show (I T 180).toNat - 1=((I T 145) - (I T 146)).toNat by omega,aa];exact g
 have sg:(B T 134)=true->((L T 188)).length=((L T 0)).length/\L T 188=DH (L T 0) (I T 147).toNat (I T 3).toNat (I T 180).toNat:=by
  obtain⟨-,P,-,Q,D,-,b2,-,db,-⟩:=N;replace b2:L T 186=(Co (L T 0) (rtS (I T 147).toNat (I T 3).toNat (I T 180).toNat)):=b2;simp only[BS,BZ,zR,zL,zS] at P Q D db;obtain⟨H,v,w,J,K,z,q,o,j⟩:=A;intro c;obtain⟨k,q1,q2,q3,q4,q5,-⟩:=M c;have hr:(L T 188)=DH (L T 0) (I T 147).toNat (I T 3).toNat (I T 180).toNat:=by
   rw[db];by_cases h:(B T 184)=true
   .rw[BH h,b2];exact ve (by omega) (by omega) (by omega)
   .rw[BG h];refine (Ss ?_ (by omega) (by omega) (by omega)).symm;by_cases C:(I T 147) < I T 3
    .by_cases h3:(I T 3) < I T 180
     .exact absurd (D.2 ⟨P.2 C,Q.2 h3⟩) h
     .omega
    .omega
  exact⟨by rw[hr,Gd]<;>omega,hr⟩
 have sh:(B T 134)=true->L T 196=Br ltB ((L T 188)) (I T 2).toNat (I T 137).toNat/\L T 204=Br ltB ((L T 196)) (I T 137).toNat (I T 4).toNat/\(Srt ltB (seg ((L T 188)) (I T 2).toNat (I T 147).toNat)/\Srt ltB (seg ((L T 188)) (I T 147).toNat (I T 137).toNat)/\Dst ltB (seg ((L T 188)) (I T 2).toNat (I T 137).toNat))/\((L T 196)).length=I T 1/\Srt ltB (seg ((L T 196)) (I T 137).toNat (I T 180).toNat)/\Srt ltB (seg ((L T 196)) (I T 180).toNat (I T 4).toNat)/\Dst ltB (seg ((L T 196)) (I T 137).toNat (I T 4).toNat):=by
  obtain⟨-,-,-,-,-,-,-,-,-,V,-,W,E,-,b3,-⟩:=N;obtain⟨de,X,-,Y,F,-,b4,-,dj,-⟩:=bs;replace b3:L T 194=(Br ltB (L T 188) (I T 2).toNat (I T 137).toNat):=b3;replace b4:L T 202=(Br ltB (L T 196) (I T 137).toNat (I T 4).toNat):=b4;simp only[BS,BZ,zR,zL,zS] at V W E de X Y F dj;obtain⟨H,v,w,J,K,z,q,o,j⟩:=A;intro c;obtain⟨k,q1,q2,q3,q4,q5,q6,q7,-⟩:=M c;obtain⟨aB,aJ⟩:=sg c;obtain⟨t1,t2,t3,t4,t5,t6,t7⟩:=ui (lt:=ltB) (l:=L T 0) (a:=(I T 2).toNat) (s:=(I T 147).toNat) (m:=(I T 3).toNat) (e:=(I T 180).toNat) (b:=(I T 4).toNat) (aY:=(I T 137).toNat) (by omega) (by omega) (by omega) (by omega) (by omega) (by omega) q o j aJ;have cc:(L T 196)=Br ltB ((L T 188)) (I T 2).toNat (I T 137).toNat:=by
   rw[de];by_cases h:(B T 192)=true
   .rw[BH h,b3]
   .rw[BG h];refine (dg wkB ?_ (by omega) t2 t3 t4).symm;by_cases C:(I T 2) < I T 147
    .by_cases h3:(I T 147) < I T 137
     .exact absurd (E.2 ⟨V.2 C,W.2 h3⟩) h
     .omega
    .omega
  have hj:((L T 196)).length=((L T 188)).length:=by rw[cc];exact HW (by omega) (by omega)
  have sq:∀x y:Nat,(I T 137).toNat<=x->x<=y->seg ((L T 196)) x y=seg ((L T 188)) x y:=fun x y hx hy=>by
   rw[cc];exact tv (by omega) (by omega) hx hy
  have u5:Srt ltB (seg ((L T 196)) (I T 137).toNat (I T 180).toNat):=by rw[sq _ _ (AE _) (by omega)];exact t5
  have u6:Srt ltB (seg ((L T 196)) (I T 180).toNat (I T 4).toNat):=by rw[sq _ _ (by omega) (by omega)];exact t6
  have u7:Dst ltB (seg ((L T 196)) (I T 137).toNat (I T 4).toNat):=by rw[sq _ _ (AE _) (by omega)];exact t7
  refine⟨cc,?_,⟨t2,t3,t4⟩,by omega,u5,u6,u7⟩;rw[dj];by_cases h:(B T 200)=true
  .rw[BH h,b4]
  .rw[BG h];refine (dg wkB ?_ (by omega) u5 u6 u7).symm;by_cases C:(I T 137) < I T 180
   .by_cases h3:(I T 180) < I T 4
    .exact absurd (F.2 ⟨X.2 C,Y.2 h3⟩) h
    .omega
   .omega
 refine⟨?_,?_,?_,?_⟩
 .obtain⟨Z,e6,-⟩:=F0;obtain⟨e9,c5,bx,-⟩:=F1;obtain⟨dm,b6,dn,b7,-⟩:=F3;obtain⟨r,ad,ag,b8,-⟩:=F5;obtain⟨b9,ds,ca,-⟩:=F6;obtain⟨bt,c6,b0,-⟩:=F8;obtain⟨O,-⟩:=c3;obtain⟨-,-,-,-,-,-,-,-,-,b5,bl,dk,-⟩:=bs;simp only[BS,BZ,zN,zR,w2P,zL,zS] at Z e6 e9 c5 bx dm b6 dn b7 r ad ag b8 b9 ds ca bt c6 b0 O b5 bl dk;obtain⟨H,v,w,J,K,z,q,o,j⟩:=A;rw[dk];by_cases h6:(B T 6)=true
  .have x5:=o2' Z (by omega);have h5:=e6.1 h6;obtain⟨v1,v2,v3,d,g⟩:=e3;obtain⟨aN,w2,w3,w4,w5⟩:=e4;have n9:¬I T 8 < I T 7:=fun h=>f0 (c5.2 ⟨h6,e9.2 h⟩);have dv:(B T 11)=true:=bx.2 ⟨h6,by cases p:(B T 9);rfl;exact absurd (e9.1 p) n9⟩;have ho:=o2' dm (by omega);have fr:¬I T 40 < I T 42:=fun h=>f1 (dn.2 ⟨dv,b6.2 h⟩);have d3:(B T 45)=true:=b7.2 ⟨dv,by cases p:(B T 43);rfl;exact absurd (b6.1 p) fr⟩;rw[BH (bl.2 (.inl d3)),b5,BH d3,w5,show (I T 40).toNat+1=(I T 8).toNat by omega];rw[show (I T 3).toNat=(I T 2).toNat+1 by omega] at o;have h8:(I T 7)=I T 8:=by omega
   rw[h8] at g;refine wp wkB (by omega) (by omega) (by omega) o j ?_ ?_
   .rcases d with d|d
    .omega
    .rw[show ((I T 8) - 1).toNat=(I T 8).toNat - 1 by omega] at d;exact .inr d
   .rcases g with g|g
    .omega
    .exact .inr g
  .have d7:¬B T 45=true:=fun h=>h6 (bx.1 (b7.1 h).1).1;have ax:(B T 69)=true:=r.2 (by simpa using h6);by_cases t:(B T 71)=true
   .have gp:=o2' ad (by omega);have h7:=ag.1 t;obtain⟨v1,v2,v3,d,g⟩:=e5;obtain⟨aN,w2,w3,w4,w5⟩:=e7;have d4:=b8.2 ⟨ax,t⟩;have fs:¬I T 74 < I T 73:=fun h=>f2 (ds.2 ⟨d4,b9.2 h⟩);have d5:(B T 77)=true:=ca.2 ⟨d4,by cases p:(B T 75);rfl;exact absurd (b9.1 p) fs⟩;have fd:¬I T 74 < I T 106:=fun h=>f3 (c6.2 ⟨d5,bt.2 h⟩);have ev:(B T 110)=true:=b0.2 ⟨d5,by cases p:(B T 108);rfl;exact absurd (bt.1 p) fd⟩;have h8:(I T 106)=I T 74:=by omega
    have h9:(I T 73)=I T 74:=by omega
    rw[BH (bl.2 (.inr ev)),b5,BG d7,w5,h8];rw[show (I T 4).toNat=(I T 3).toNat+1 by omega] at j⊢;rw[h9] at g;refine rO wkB (by omega) (by omega) (by omega) q j ?_ ?_
    .rcases d with d|d
     .omega
     .rw[show ((I T 74) - 1).toNat=(I T 74).toNat - 1 by omega] at d;exact .inr d
    .rcases g with g|g
     .omega
     .exact .inr g
   .have c:=O.2 ⟨ax,by simpa using t⟩;have fn:¬B T 206=true:=fun h=>(bl.1 h).elim d7 fun h=>t (b8.1 (ca.1 (b0.1 h).1).1).2;obtain⟨k,q1,q2,q3,q4,q5,q6,q7,q8,q9⟩:=M c;obtain⟨aB,aJ⟩:=sg c;obtain⟨z1,z2,-⟩:=sh c;rw[BG fn];exact tM wkB (by omega) (by omega) (by omega) (by omega) (by omega) (by omega) q o j (q8.imp (fun h=>by omega) (fun h=>h.imp (fun h=>by omega) id)) (q9.imp (fun h=>by omega) (fun h=>h.imp (fun h=>by omega) id)) aJ z1 z2
 .obtain⟨-,-,i,-⟩:=bi;obtain⟨-,X,-,Y,F,di,-⟩:=bs;simp only[BS,BZ,zN,zR] at i X Y F di;obtain⟨H,v,w,J,K,z,q,o,j⟩:=A;intro hp;obtain⟨k,d2⟩:=di.1 hp;have c:=(i.1 k).1;obtain⟨-,q1,q2,q3,q4,q5,q6,q7,-⟩:=M c;obtain⟨z1,z2,z3,z4,z5⟩:=sh c;have y1:=X.1 (F.1 d2).1;have y2:=Y.1 (F.1 d2).2;exact⟨by omega,z4,by omega,y1,y2,z,z5.1,z5.2.1,z5.2.2⟩
 .obtain⟨-,-,i,-⟩:=bi;obtain⟨-,-,-,-,-,-,-,-,-,V,-,W,E,dd,-⟩:=N;simp only[BS,BZ,zN,zR] at i V W E dd;obtain⟨H,v,w,J,K,z,q,o,j⟩:=A;intro hp;obtain⟨k,d1⟩:=dd.1 hp;have c:=(i.1 k).1;obtain⟨-,q1,q2,q3,q4,q5,q6,q7,-⟩:=M c;obtain⟨aB,aJ⟩:=sg c;obtain⟨z1,z2,z3,-⟩:=sh c;have y1:=V.1 (E.1 d1).1;have y2:=W.1 (E.1 d1).2;exact⟨by omega,by omega,w,y1,y2,by omega,z3.1,z3.2.1,z3.2.2⟩
 .obtain⟨-,-,i,-⟩:=bi;obtain⟨-,P,-,Q,D,c9,-⟩:=N;simp only[BS,BZ,zN,zR] at i P Q D c9;obtain⟨H,v,w,J,K,z,q,o,j⟩:=A;intro hp;obtain⟨k,d0⟩:=c9.1 hp;obtain⟨-,q1,q2,q3,q4,-⟩:=M (i.1 k).1;have y1:=P.1 (D.1 d0).1;have y2:=Q.1 (D.1 d0).2;exact⟨v,by omega,y1,y2,by omega⟩
theorem wC (ih:Bl Try.prog 145 (Er f)):Bl Try.prog 145 (Er (f+1)):=by
 refine ja (l:=[(101,NK),(148,N4),(145,Er f)]) CP (by simp only[AW];exact⟨gj,ud,ih,fun _ h=>absurd h (by simp)⟩) xN (by kernel_rfl) fun T us Z w t k aw a=>?_;change us.length=5 at t;obtain⟨⟨s,a2⟩,⟨v,o⟩,-⟩:=aw;replace s:(L T 0).length<=140737488355328:=s;have r:∀u∈(L T 0),Bb BT KB u:=fun u hu=>by
  obtain⟨i,ab⟩:=Ac.1 hu;exact a2 i u ab
 replace v:0<=I T 1:=v;replace o:I T 1<=140737488355328:=o;have W:=inL (j:=0) w t (by decide);have a0:=inI (j:=1) w t (by decide);have X:=inI (j:=2) w t (by decide);have a1:=inI (j:=3) w t (by decide);have Y:=inI (j:=4) w t (by decide);have q:(I T 4).toNat - (I T 2).toNat < (f+1)/\((L T 0)).length=I T 1/\0<=I T 2/\I T 2 < I T 3/\I T 3 < I T 4/\I T 4<=I T 1/\Srt ltB (seg (L T 0) (I T 2).toNat (I T 3).toNat)/\Srt ltB (seg (L T 0) (I T 3).toNat (I T 4).toNat)/\Dst ltB (seg (L T 0) (I T 2).toNat (I T 4).toNat):=by
  have h:=Z (.s "symB.p0",GY (f+1)) (by simp[Er]);change GY (f+1) us at h;unfold GY at h;simp only[W,a0,X,a1,Y] at h;exact h
 clear Z;rw[AL,AL,AL,AL,AL,AL,AL,AL,AL,AL,AL,AL,AL,AL,AL] at a;obtain⟨d,a⟩:=cutB a;obtain⟨e,a⟩:=cutB a;obtain⟨b,a⟩:=cutB a;obtain⟨x,c⟩:=Be k (by kernel_rfl) d;obtain⟨a7,g,C,D⟩:=rj o q c b e;have p:=(Be (g.append c) (l:=D2) (by kernel_rfl) b);obtain⟨y,k⟩:=p;clear d b e c g;obtain⟨d,a⟩:=cutB a;obtain⟨e,a⟩:=cutB a;obtain⟨b,a⟩:=cutB a;obtain⟨A1,c⟩:=Be k (by kernel_rfl) d;have z:=nM s r v o q C D x y;obtain⟨a8,g,K,N⟩:=qm r o q z c b e;have p:=(Be (g.append c) (l:=Ep) (by kernel_rfl) b);obtain⟨F,k⟩:=p;clear d b e c g;obtain⟨d,a⟩:=cutB a;obtain⟨e,a⟩:=cutB a;obtain⟨b,a⟩:=cutB a;obtain⟨E,c⟩:=Be k (by kernel_rfl) d;obtain⟨a9,g,M,O⟩:=rB o q c b e;have p:=(Be (g.append c) (l:=E8) (by kernel_rfl) b);obtain⟨H,k⟩:=p;clear d b e c g;obtain⟨d,a⟩:=cutB a;obtain⟨e,a⟩:=cutB a;obtain⟨b,a⟩:=cutB a;obtain⟨A3,c⟩:=Be k (by kernel_rfl) d;have J:=oy s r v o q C D z K N M O x y F E H;obtain⟨ba,g,ad,ag⟩:=ql r o q J c b e;have p:=(Be (g.append c) (l:=Gs) (by kernel_rfl) b);obtain⟨Q,k⟩:=p;clear d b e c g;obtain⟨d,a⟩:=cutB a;obtain⟨e,a⟩:=cutB a;obtain⟨b,a⟩:=cutB a;obtain⟨P,c⟩:=Be k (by kernel_rfl) d;have V:=pd s r v o q C D z K N M O J ad ag x y F E H Q P;obtain⟨bb,g,a5,a6⟩:=tJ o q V c b e;have p:=(Be (g.append c) (l:=JD) (by kernel_rfl) b);obtain⟨B4,k⟩:=p;clear d b e c g;obtain⟨A5,hO⟩:=B8 (A:=[.l]) (ah:=py) k (by kernel_rfl) a;obtain⟨q0,r0,aB,aJ⟩:=xW s r v o q C D z K N M O J ad ag V a5 a6 x y F E H Q P B4 A5;refine⟨⟨r0,aB,aJ,(fun _=>bb),(fun _=>ba),(fun _=>a9),(fun _=>a8),(fun _=>a7),trivial⟩,hO.trans ?_⟩;exact (lc (by show U.list (L T 207)= .list (JG us);unfold JG;rw[W,X,Y];exact BI U.list q0) rfl)
theorem ic:∀f:Nat,Bl Try.prog 145 (Er f)
 |0=>⟨fun _=>QA,fun T us _ _ _ a=>by
   have h:=a (.s "symB.p0",GY 0) (by simp[Er]);exact absurd h.1 (Nat.not_lt_zero _)⟩
 |f+1=>wC (ic f)
end
section
open Go Go.Eng Go.Proofs
set_option maxHeartbeats 4000000
set_option maxRecDepth 100000
def OW:List U->List (List U):=fun us=>(Br ltB (aL us 0) 0 (aI us 2).toNat)
def Lx:List U->Prop:=fun us=>((aL us 0)).length=(aI us 1)/\(aI us 2)=(aI us 1)/\(aI us 1)<=40/\(20 < (aI us 1)->Dst ltB (aL us 0))
def GM:Bf:={ sh:=[.one (k64),.cst (.fn (.func 101) [] [])],blks:=[],outs:=[(.s "stabB.0",D1 OW)],c:= .tup [],m':=[.mrow 3 1 [k64,k64,k64,.bool,.str,.str,.bool,k64,k64] 38],pre:=[(.s "stabB.p0",Lx)],row:=some ([k64,k64,k64,.bool,.str,.str,.bool,k64,k64],38) }
def Jc:List En:=[]
def gX:List En:=[⟨6,.le,[.e 4,.e 2]⟩,
 ABH 7 6,
 ⟨8,.outL "insB.0" NR,[.e 5,.e 1,.e 3,.e 4]⟩,
 ⟨9,.w2 .i64 .add,[.e 4,.c (.int 20)]⟩]
def D8:List En:=gX
def YB:List ObE:=[⟨some 6,.pre "insB.p0" Ku,[.e 5,.e 1,.e 3,.e 4]⟩]
def ON:Bs:=mkD 3 3 D8 6 [.e 4,.e 9,.e 8] YB [1,2]
def Rg:List Rf:=[.e 1,.e 2,.c (.int 0),.c (.int 20),.e 0]
def gP:List En:=[⟨10,.outL "insB.0" NR,[.e 5,.e 1,.e 3,.e 2]⟩]
def Hf:List En:=gP
def ZZ:List En:=[ABI 15 13 2,
 nl 16 7 15,
 ABF 17 7 15,
 ⟨18,.w2 .i64 .mul,[.c (.int 2),.e 13]⟩]
def HG:List En:=ZZ
def fJ:List En:=[⟨22,.le,[.e 20,.e 2]⟩,
 nl 23 16 22,
 ABF 24 16 22,
 ABV 25 19 13,
 ⟨26,.outL "symB.0" JG,[.e 21,.e 1,.e 19,.e 25,.e 20]⟩,
 ⟨27,.w2 .i64 .mul,[.c (.int 2),.e 13]⟩,
 ABV 28 20 27]
def FX:List En:=fJ
def Y9:List ObE:=[⟨some 23,.pre "symB.p0" (GY 41),[.e 21,.e 1,.e 19,.e 25,.e 20]⟩]
def MA:Bs:=mkD 19 3 FX 23 [.e 20,.e 28,.e 26] Y9 [13,1,16,2]
def Og:List Rf:=[.e 13,.e 1,.e 16,.e 2,.c (.int 0),.e 18,.e 14]
def ZU:List En:=[ABV 29 19 13,
 ABI 30 29 2,
 nl 31 24 30,
 ⟨32,.outL "symB.0" JG,[.e 21,.e 1,.e 19,.e 29,.e 2]⟩,
 ABF 33 24 30,
 ABX 34 30 32 21,
 ⟨35,.w2 .i64 .mul,[.e 13,.c (.int 2)]⟩]
def LG:List En:=ZU
def Jf:List En:=HG++((B5 MA [.i,.i,.l] Og)++(FX++(LG)))
def ZD:List ObE:=[⟨some 31,.pre "symB.p0" (GY 41),[.e 21,.e 1,.e 19,.e 29,.e 2]⟩,⟨some 16,.owes MA,[.e 13,.e 1,.e 16,.e 2,.c (.int 0),.e 18,.e 14]⟩]
def Oa:Bs:=mkD 11 4 Jf 24 [.e 19,.e 20,.e 35,.e 34] ZD [1,2,7]
def Sk:List Rf:=[.e 1,.e 2,.e 7,.e 3,.e 4,.c (.int 20),.e 10]
def oD:List En:=[]
def uy:List ObE:=[⟨some 7,.owes Oa,[.e 1,.e 2,.e 7,.e 3,.e 4,.c (.int 20),.e 10]⟩,
 ⟨some 7,.pre "insB.p0" Ku,[.e 5,.e 1,.e 3,.e 2]⟩,
 ⟨none,.owes ON,[.e 1,.e 2,.c (.int 0),.c (.int 20),.e 0]⟩]
def hY:List Rf:=[.e 14]
theorem vV:GM.sees hY (GM.run Try.prog [(144,yQ),(145,Er 41)] Bp 3000 20 137)=some ((Jc++((B5 ON [.i,.i,.l] Rg)++(D8++(Hf++((B5 Oa [.i,.i,.i,.l] Sk)++(Jf++(oD))))))).map En.be,uy.map ObE.be,[]):=by kernel_rfl
abbrev fe(T:Tab)(a:Int)(b:Int)(aw:List (List U)):Prop:=(a=0/\b=20/\aw=L T 0)\/(a=20/\b=40/\20<=I T 2/\aw=Br ltB (L T 0) 0 20)\/(a=40/\b=60/\I T 2=40/\aw=Br ltB (Br ltB (L T 0) 0 20) 20 40)
abbrev gQ(T:Tab):Prop:=((L T 0)).length=I T 1/\I T 2=I T 1/\I T 1<=40/\(20 < I T 1->Dst ltB (L T 0))
variable{T:Tab}
theorem ol (D:gQ T)(r:Ba T (Bh (CA 0 GM.ks) Jc))(p:Bi T (D8.map En.be))(q:Bi T ((B5 ON [.i,.i,.l] Rg).map En.be)):
  (ON).owes (Rg.map (Rf.eval T))/\Ba T (hds 3 [.i,.i,.l])/\(fe T (I T 3) (I T 4) (L T 5))/\¬B T 6=true:=by
 refine CK (nh:=3) (k:=3) (pcn:=6) (R:=10) (b:=D8) (K:=YB) (nxt:=[.e 4,.e 9,.e 8]) (H:=[.c (.int 0),.c (.int 20),.e 0]) (fv:=[1,2]) (A:=[.i,.i,.l]) (by kernel_rfl) rfl rfl rfl rfl r (by kernel_rfl) (by kernel_rfl) p (B6 q) (fun s=>fe T (aI s 0) (aI s 1) (aL s 2)) (fun s=>((I T 2)+1 - (aI s 1)).toNat) ?_ ?_
 .show fe T (0:Int) (20:Int) (L T 0);grind
 .intro J h c i;replace i:fe T (I J 3) (I J 4) (L J 5):=i;clear r p q;replace c:BV J D8:=c;have e:=c;clear c;have o:=fvI (h 1 (by decide));have w:=fvI (h 2 (by decide));clear h
  suffices y:(B J 6=true->((L J 5)).length=I J 1/\0<=I J 3/\I J 3<=I J 4/\I J 4<=I J 1)/\(B J 6=true->(fe T (I J 4) (I J 9) (L J 8)))/\(B J 6=true->((I T 2)+1 - (I J 9)).toNat < ((I T 2)+1 - (I J 4)).toNat) from
   let⟨E,C,z⟩:=y;⟨⟨E,trivial⟩,fun d=>⟨C d,z d⟩⟩
  refine⟨?_,?_,?_⟩
  .obtain⟨a,-⟩:=e;simp only[BS,zR] at a;obtain⟨F,M,N,O⟩:=D;intro d;have x:=a.1 d;rw[w] at x;rcases i with⟨t,u,j⟩|⟨t,u,j,v⟩|⟨t,u,j,v⟩
   .rw[o,j];omega
   .rw[o,v,HW (by omega) (by omega)];omega
   .omega
  .obtain⟨a,-,l,g,-⟩:=e;replace l:L J 8=(Br ltB (L J 5) (I J 3).toNat (I J 4).toNat):=l;simp only[BS,zR,w2P] at a g;grind
  .obtain⟨a,-,-,g,-⟩:=e;simp only[BS,zR,w2P] at a g;grind
theorem jz (J:gF T)(H:∀u∈(L T 0),Bb BT KB u)(K:0<=I T 1)(F:I T 1<=140737488355328)(s:gQ T)(x:fe T (I T 3) (I T 4) (L T 5))(A:¬B T 6=true)(p:BV T D8)(o:BV T Hf):
  (((L T 10)).length=I T 1/\((I T 2)<=20->L T 10=Br ltB (L T 0) 0 (I T 2).toNat)/\(20 < I T 2->L T 10=Br ltB (Br ltB (L T 0) 0 20) 20 (I T 2).toNat))/\(20 < I T 2->((L T 10)).length=I T 1/\Srt ltB (seg (L T 10) 0 20)/\Srt ltB (seg (L T 10) 20 (I T 2).toNat)/\Dst ltB (seg (L T 10) 0 (I T 2).toNat)/\Br ltB (L T 10) 0 (I T 2).toNat=Br ltB (L T 0) 0 (I T 2).toNat):=by
 have v:=p;clear p;have w:=o;clear o;have aP:((L T 10)).length=I T 1/\((I T 2)<=20->L T 10=Br ltB (L T 0) 0 (I T 2).toNat)/\(20 < I T 2->L T 10=Br ltB (Br ltB (L T 0) 0 20) 20 (I T 2).toNat):=by
  obtain⟨q,-⟩:=v;obtain⟨c,-⟩:=w;replace c:L T 10=(Br ltB (L T 5) (I T 3).toNat (I T 2).toNat):=c;simp only[BS,zR] at q;obtain⟨e,D,E,r⟩:=s;have M:¬I T 4<=I T 2:=fun h=>A (q.2 h);rcases x with⟨d,t,i⟩|⟨d,t,i,j⟩|⟨d,t,i,j⟩
  .rw[c,d,i];refine⟨?_,fun _=>rfl,fun h=>by omega⟩;rw[HW (by omega) (by omega)];exact e
  .rw[c,d,j];have k:=HW (lt:=ltB) (l:=L T 0) (a:=0) (b:=20) (by omega) (by omega);refine⟨?_,fun h=>?_,fun h=>rfl⟩
   .rw[HW (by omega) (by omega),k];exact e
   .have C:(I T 2).toNat=20:=by omega
    rw[C];exact Rv (AE _) (AE _)
  .rw[c,d,j,i];have k:=HW (lt:=ltB) (l:=L T 0) (a:=0) (b:=20) (by omega) (by omega);have g:Br ltB (Br ltB (Br ltB (L T 0) 0 20) 20 40) 40 40=Br ltB (Br ltB (L T 0) 0 20) 20 40:=Rv (AE _) (AE _);refine⟨?_,fun h=>by omega,fun h=>g⟩;show ((Br ltB (Br ltB (Br ltB (L T 0) 0 20) 20 40) 40 40).length:Int)=_;rw[g,HW (by omega) (by omega),k];exact e
 have z:20 < I T 2->((L T 10)).length=I T 1/\Srt ltB (seg (L T 10) 0 20)/\Srt ltB (seg (L T 10) 20 (I T 2).toNat)/\Dst ltB (seg (L T 10) 0 (I T 2).toNat)/\Br ltB (L T 10) 0 (I T 2).toNat=Br ltB (L T 0) 0 (I T 2).toNat:=by
  obtain⟨e,D,E,r⟩:=s;intro h;obtain⟨ax,ai,y⟩:=aP;obtain⟨N,O,P,Q,V⟩:=sQ wkB (l:=L T 0) (m:=20) (n:=(I T 2).toNat) (by omega) (by omega) (r (by omega)) (y h);grind
 exact⟨aP,z⟩
abbrev gT(T:Tab):Prop:=(I T 2)<=40/\I T 2=I T 1/\((I T 13)=20\/I T 13=40)/\((I T 13)=20->20 < I T 2->((L T 14)).length=I T 1/\Srt ltB (seg (L T 14) 0 20)/\Srt ltB (seg (L T 14) 20 (I T 2).toNat)/\Dst ltB (seg (L T 14) 0 (I T 2).toNat))
theorem je (g:gT T)(a:BV T HG):
  ((B T 16)=true->I T 13=20/\20 < I T 2/\I T 18=40):=by
 have b:=a;clear a;have aw:(B T 16)=true->I T 13=20/\20 < I T 2/\I T 18=40:=by
  obtain⟨c,d,-,e,-⟩:=b;simp only[BS,BZ,zR,w2P] at c d e;grind
 exact aw
abbrev fh(T:Tab)(a:Int)(b:Int)(aw:List (List U)):Prop:=(B T 16)=true->((a=0/\b=40/\aw=L T 14)\/(a=40/\b=80/\I T 2=40/\aw=Br ltB (L T 14) 0 40))
abbrev gV(T:Tab):Prop:=(B T 16)=true->I T 13=20/\20 < I T 2/\I T 18=40
theorem o9 (E:gT T)(aw:gV T)(p:Ba T (Bh (hds 11 [.i,.i,.i,.l]++GC [1,2,7] (Bh (Bh (hds 3 [.i,.i,.l]++(Bh (CA 0 GM.ks) Jc)) D8) Hf)) HG))(l:Bi T (FX.map En.be))(o:Bi T ((B5 MA [.i,.i,.l] Og).map En.be)):
  (MA).owes (Og.map (Rf.eval T))/\Ba T (hds 19 [.i,.i,.l])/\(fh T (I T 19) (I T 20) (L T 21))/\¬B T 23=true:=by
 refine CK (nh:=19) (k:=3) (pcn:=23) (R:=29) (b:=FX) (K:=Y9) (nxt:=[.e 20,.e 28,.e 26]) (H:=[.c (.int 0),.e 18,.e 14]) (fv:=[13,1,16,2]) (A:=[.i,.i,.l]) (by kernel_rfl) rfl rfl rfl rfl p (by kernel_rfl) (by kernel_rfl) l (B6 o) (fun s=>fh T (aI s 0) (aI s 1) (aL s 2)) (fun s=>((I T 2)+1 - (aI s 1)).toNat) ?_ ?_
 .show fh T (0:Int) (I T 18) (L T 14);grind
 .intro J d e r;replace r:fh T (I J 19) (I J 20) (L J 21):=r;clear p l o;replace e:BV J FX:=e;have g:=e;clear e;have z:=fvI (d 13 (by decide));have y:=fvI (d 1 (by decide));have C:=fvB (d 16 (by decide));have D:=fvI (d 2 (by decide));clear d
  suffices u:(B J 23=true->(I J 20).toNat - (I J 19).toNat < 41/\((L J 21)).length=I J 1/\0<=I J 19/\I J 19 < I J 25/\I J 25 < I J 20/\I J 20<=I J 1/\Srt ltB (seg (L J 21) (I J 19).toNat (I J 25).toNat)/\Srt ltB (seg (L J 21) (I J 25).toNat (I J 20).toNat)/\Dst ltB (seg (L J 21) (I J 19).toNat (I J 20).toNat))/\(B J 23=true->(fh T (I J 20) (I J 28) (L J 26)))/\(B J 23=true->((I T 2)+1 - (I J 28)).toNat < ((I T 2)+1 - (I J 20)).toNat) from
   let⟨x,w,v⟩:=u;⟨⟨x,trivial⟩,fun q=>⟨w q,v q⟩⟩
  refine⟨?_,?_,?_⟩
  .obtain⟨a,c,-,t,-⟩:=g;simp only[BS,BZ,zR,w2P] at a c t;grind
  .obtain⟨a,c,-,-,j,h,i,-⟩:=g;replace j:L J 26=(Br ltB (L J 21) (I J 19).toNat (I J 20).toNat):=j;simp only[BS,BZ,zR,w2P] at a c h i;grind
  .obtain⟨a,c,-,-,-,h,i,-⟩:=g;simp only[BS,BZ,zR,w2P] at a c h i;grind
theorem Ym (e:gT T)(c:Ba T (hds 11 [.i,.i,.i,.l]++GC [1,2,7] (Bh (Bh (hds 3 [.i,.i,.l]++(Bh (CA 0 GM.ks) Jc)) D8) Hf)))(a:Bi T (Jf.map En.be)):
  (BV T HG)/\((B T 16)=true->I T 13=20/\20 < I T 2/\I T 18=40)/\((MA).owes (Og.map (Rf.eval T)))/\(fh T (I T 19) (I T 20) (L T 21))/\(¬B T 23=true)/\(BV T FX)/\(BV T LG)/\Ba T (Bh (Bh (hds 19 [.i,.i,.l]++(Bh (hds 11 [.i,.i,.i,.l]++GC [1,2,7] (Bh (Bh (hds 3 [.i,.i,.l]++(Bh (CA 0 GM.ks) Jc)) D8) Hf)) HG)) FX) LG):=by
 unfold Jf at a;rw[AL,AL,AL] at a;obtain⟨g,a⟩:=cutB a;obtain⟨h,a⟩:=cutB a;obtain⟨b,a⟩:=cutB a;obtain⟨j,d⟩:=Be c (by kernel_rfl) g;have aw:=je e j;obtain⟨t,i,r,s⟩:=o9 e aw d b h;have k:=(Be (i.append d) (l:=FX) (by kernel_rfl) b);obtain⟨o,c⟩:=k;clear g b h d i;obtain⟨p,q⟩:=Be c (by kernel_rfl) a;grind
abbrev fj(T:Tab)(aw:Int)(a:List (List U)):Prop:=(aw=20/\a=L T 10)\/(aw=40/\20 < I T 2/\a=Br ltB (L T 0) 0 (I T 2).toNat)
abbrev gW(T:Tab):Prop:=((L T 10)).length=I T 1/\((I T 2)<=20->L T 10=Br ltB (L T 0) 0 (I T 2).toNat)/\(20 < I T 2->L T 10=Br ltB (Br ltB (L T 0) 0 20) 20 (I T 2).toNat)
abbrev hJ(T:Tab):Prop:=20 < I T 2->((L T 10)).length=I T 1/\Srt ltB (seg (L T 10) 0 20)/\Srt ltB (seg (L T 10) 20 (I T 2).toNat)/\Dst ltB (seg (L T 10) 0 (I T 2).toNat)/\Br ltB (L T 10) 0 (I T 2).toNat=Br ltB (L T 0) 0 (I T 2).toNat
theorem qW (ad:gQ T)(aP:gW T)(Z:hJ T)(u:Ba T (Bh (Bh (hds 3 [.i,.i,.l]++(Bh (CA 0 GM.ks) Jc)) D8) Hf))(q:Bi T (Jf.map En.be))(t:Bi T ((B5 Oa [.i,.i,.i,.l] Sk).map En.be)):
  (Oa).owes (Sk.map (Rf.eval T))/\Ba T (hds 11 [.i,.i,.i,.l])/\(fj T (I T 13) (L T 14))/\¬B T 24=true:=by
 refine NT (nh:=11) (k:=4) (pcn:=24) (R:=36) (b:=Jf) (K:=ZD) (nxt:=[.e 19,.e 20,.e 35,.e 34]) (H:=[.e 3,.e 4,.c (.int 20),.e 10]) (fv:=[1,2,7]) (A:=[.i,.i,.i,.l]) (by kernel_rfl) rfl rfl rfl rfl u (by kernel_rfl) q (B6 t) (fun s=>fj T (aI s 2) (aL s 3)) (fun s=>((I T 2) - (aI s 2)).toNat) ?_ ?_
 .show fj T (20:Int) (L T 10);grind
 .intro J c v r y;replace y:fj T (I J 13) (L J 14):=y;have V:=fvI (c 1 (by decide));have W:=fvI (c 2 (by decide));have X:=fvB (c 7 (by decide));clear c;clear u q t;have D:(I J 2)<=40/\I J 2=I J 1/\((I J 13)=20\/I J 13=40)/\((I J 13)=20->20 < I J 2->((L J 14)).length=I J 1/\Srt ltB (seg (L J 14) 0 20)/\Srt ltB (seg (L J 14) 20 (I J 2).toNat)/\Dst ltB (seg (L J 14) 0 (I J 2).toNat)):=by
   grind
  obtain⟨l,aw,O,Y,ab,j,o,w⟩:=Ym D v r;clear v r;have E:=DK w (au:=[.i,.i,.i,.l]) (ah:=[.e 19,.e 20,.e 35,.e 34]) (by kernel_rfl);clear w;have Q:=l;clear l;have d:=j;clear j;have e:=o;clear o
  suffices F:(B J 31=true->(I J 2).toNat - (I J 19).toNat < 41/\((L J 21)).length=I J 1/\0<=I J 19/\I J 19 < I J 29/\I J 29 < I J 2/\I J 2<=I J 1/\Srt ltB (seg (L J 21) (I J 19).toNat (I J 29).toNat)/\Srt ltB (seg (L J 21) (I J 29).toNat (I J 2).toNat)/\Dst ltB (seg (L J 21) (I J 19).toNat (I J 2).toNat))/\(B J 24=true->(fj T (I J 35) (L J 34)))/\(B J 24=true->((I T 2) - (I J 35)).toNat < ((I T 2) - (I J 13)).toNat) from
   let⟨P,N,M⟩:=F;⟨E,⟨P,(fun _=>O),trivial⟩,fun x=>⟨N x,M x⟩⟩
  refine⟨?_,?_,?_⟩
  .obtain⟨-,-,a,-⟩:=d;obtain⟨g,h,z,-⟩:=e;simp only[BS,BZ,zN,zR,w2P] at a g h z;grind
  .obtain⟨-,-,a,-⟩:=d;obtain⟨g,h,-,p,-,C,i,-⟩:=e;replace p:L J 32=(Br ltB (L J 21) (I J 19).toNat (I J 2).toNat):=p;simp only[BS,BZ,zN,zR,w2P,zL,zS] at a g h C i;grind
  .obtain⟨-,-,a,-⟩:=d;obtain⟨-,-,-,-,-,-,i,-⟩:=e;simp only[BS,BZ,zN,zR,w2P] at a i;grind
theorem vA (H:gF T)(F:∀u∈(L T 0),Bb BT KB u)(N:0<=I T 1)(E:I T 1<=140737488355328)(z:gQ T)(x:fe T (I T 3) (I T 4) (L T 5))(y:¬B T 6=true)(aP:gW T)(O:hJ T)(K:fj T (I T 13) (L T 14))(Q:¬B T 24=true)(aw:gV T)(M:fh T (I T 19) (I T 20) (L T 21))(V:¬B T 23=true)(D:gT T)(c:BV T D8)(b:BV T Hf)(e:BV T HG)(d:BV T FX)(g:BV T LG):
  ((L T 14)=(Br ltB (L T 0) 0 (I T 2).toNat))/\
  (B T 7=true->((L T 5)).length=I T 1/\0<=I T 3/\I T 3<=I T 2/\I T 2<=I T 1):=by
 have i:=c;clear c;have A:=b;clear b;have p:=e;clear e;have q:=d;clear d;have C:=g;clear g;refine⟨?_,?_⟩
 .obtain⟨-,w,-⟩:=i;obtain⟨r,s,-⟩:=p;obtain⟨-,t,v,-⟩:=q;simp only[BS,BZ,zN,zR] at w r s t v;grind
 .obtain⟨j,-⟩:=i;simp only[BS,zR] at j;obtain⟨W,X,Y,Z⟩:=z;intro J;have P:¬I T 4<=I T 2:=fun h=>y (j.2 h);rcases x with⟨k,l,a⟩|⟨k,l,a,o⟩|⟨k,l,a,o⟩
  .rw[a];omega
  .rw[o,HW (Ak _) (by omega)];omega
  .grind
theorem sw:Bl Try.prog 137 GM:=by
 refine B7 (l:=[(144,yQ),(145,Er 41)]) CP (by simp only[AW];exact⟨vQ,(ic 41),fun _ h=>absurd h (by simp)⟩) vV (by kernel_rfl) fun T us C t q g M a=>?_;change us.length=3 at q;obtain⟨⟨p,V⟩,⟨r,o⟩,-⟩:=M;replace p:(L T 0).length<=140737488355328:=p;have z:∀u∈(L T 0),Bb BT KB u:=fun u W=>by
  obtain⟨i,ab⟩:=Ac.1 W;exact V i u ab
 replace r:0<=I T 1:=r;replace o:I T 1<=140737488355328:=o;have P:=inL (j:=0) t q (by decide);have a2:=inI (j:=1) t q (by decide);have Q:=inI (j:=2) t q (by decide);have s:((L T 0)).length=I T 1/\I T 2=I T 1/\I T 1<=40/\(20 < I T 1->Dst ltB (L T 0)):=by
  have h:=C (.s "stabB.p0",Lx) (by simp[GM]);change Lx us at h;unfold Lx at h;grind
 clear C;rw[AL,AL,AL,AL,AL,AL] at a;obtain⟨d,a⟩:=cutB a;obtain⟨e,a⟩:=cutB a;obtain⟨c,a⟩:=cutB a;obtain⟨A0,b⟩:=Be g (by kernel_rfl) d;obtain⟨ag,k,D,F⟩:=ol s b c e;have N:=(Be (k.append b) (l:=D8) (by kernel_rfl) c);obtain⟨w,g⟩:=N;clear d c e b k;obtain⟨d,a⟩:=cutB a;obtain⟨e,a⟩:=cutB a;obtain⟨c,a⟩:=cutB a;obtain⟨v,b⟩:=Be g (by kernel_rfl) d;obtain⟨aP,E⟩:=jz p z r o s D F w v;obtain⟨al,k,X,Z⟩:=qW s aP E b c e;have x:(I T 2)<=40/\I T 2=I T 1/\((I T 13)=20\/I T 13=40)/\((I T 13)=20->20 < I T 2->((L T 14)).length=I T 1/\Srt ltB (seg (L T 14) 0 20)/\Srt ltB (seg (L T 14) 20 (I T 2).toNat)/\Dst ltB (seg (L T 14) 0 (I T 2).toNat)):=by
  grind
 obtain⟨J,aw,a3,Y,ad,H,K,y⟩:=Ym x (k.append (EO (fun _ _=>rfl) b)) c;have g:=y.append b;clear d c e b k y;obtain⟨A3,O⟩:=B8 (A:=[.l]) (ah:=hY) g (by kernel_rfl) a;obtain⟨q0,r0⟩:=vA p z r o s D F aP E X Z aw Y ad x w v J H K;refine⟨⟨(fun _=>al),r0,(fun _=>ag),trivial⟩,O.trans ?_⟩;exact (lc (by show U.list (L T 14)= .list (OW us);unfold OW;rw[P,Q];exact BI U.list q0) rfl)
def Nj:List U->List (List U):=fun us=>(CX ltB (aL us 0))
def Ke:List U->Prop:=fun us=>((aL us 0)).length<=40/\(20 < ((aL us 0)).length->Dst ltB (aL us 0))
def Pc:Bf:={ sh:=[.one (.list [k64,k64,k64,.bool,.str,.str,.bool,k64,k64]),.cst (.fn (.func 101) [] [])],blks:=[],outs:=[(.s "ordB.0",D1 Nj)],c:= .ro 1 [k64,k64,k64,.bool,.str,.str,.bool,k64,k64],m':=[],pre:=[(.s "ordB.p0",Ke)] }
def ki:List En:=[⟨1,.id .l,[.c (.list [])]⟩,
 ⟨2,.id .i,[.c (.int 0)]⟩,
 ⟨3,.app,[.e 1,.e 0]⟩,
 ABL 4 3,
 ⟨5,.outL "stabB.0" OW,[.e 3,.e 4,.e 4]⟩]
def cV:List En:=ki
def wW:List ObE:=[⟨none,.pre "stabB.p0" Lx,[.e 3,.e 4,.e 4]⟩,
 ⟨none,.fits 88,[.e 1,.e 0]⟩]
def pf:List Rf:=[.e 5]
end
end Go.Eng
end
