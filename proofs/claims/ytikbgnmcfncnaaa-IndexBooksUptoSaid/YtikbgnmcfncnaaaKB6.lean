/-
  A part of the proof: the evaluator of code and its soundness.
-/
import Derived.Test.YtikbgnmcfncnaaaE4
import Derived.Test.YtikbgnmcfncnaaaE5
import Derived.Test.YtikbgnmcfncnaaaKB5
import Derived.Test.YtikbgnmcfncnaaaKB4
import Derived.Test.YtikbgnmcfncnaaaKB0
import Derived.Test.YtikbgnmcfncnaaaKB1
set_option linter.unusedVariables false
set_option linter.unusedSimpArgs false
noncomputable section
namespace Go.Eng
section
open Go Go.Eng Go.Proofs
set_option maxHeartbeats 4000000
set_option maxRecDepth 100000
def MC:List U->List (List U):=fun us=>(Un (aL us 0) (aL us 1) (aI us 2) (aI us 3))
def MG:List U->Int:=fun us=>(Hr (aI us 2) (aI us 3))
def JP:List U->Prop:=fun us=>(((aL us 0)).length<=20/\((aL us 1)).length<=20)/\Br (aL us 0)=0/\AO (aL us 1)=0
def Ef:AZ:={ sh:=[.one (.list [.str,k64,k64]),.one (.list [k64,k64,k64,.bool,.str,.str,.bool,k64,k64]),.one (k64),.one (k64)],blks:=[],outs:=[(.s "Table.0",Cw MC),(.s "Table.1",Bm MG)],c:= .tup [.ro 4 [.str,k64,k64,k64,k64,k64],(DK 5)],m':=[],pre:=[(.s "Table.p0",JP)] }
def aj:List En:=[⟨4,.outI "checkPk.0" RZ,[.e 0]⟩,
 ⟨5,.outI "checkLk.0" RI,[.e 1]⟩,
 ⟨6,.id .l,[.c (.list [])]⟩,
 ⟨7,.id .i,[.c (.int 0)]⟩,
 vl 8 6 0,
 vT 9 8,
 ⟨10,.id .l,[.c (.list [])]⟩,
 vT 11 0]
def Cr:List En:=aj
def ap:List En:=[vO 14 12 11,
 vQ 15 14,
 vm 16 0 12,
 vP 17 0 12,
 vR 18 0 12,
 ⟨19,.mset 1 [.s,.i],[.e 13,.e 16,.e 12]⟩,
 ⟨20,.w2 .i64 .add,[.e 12,.c (.int 1)]⟩]
def B6:List En:=ap
def WN:List ObE:=[⟨some 14,.fits 1,[.e 13,.c (.list [[]])]⟩,⟨some 14,.inl,[.e 12,.e 0]⟩]
def L6:Ac:=mkD 12 2 B6 14 [.e 20,.e 19] WN [0,11]
def QL:List Rf:=[.e 0,.e 11,.c (.int 0),.e 10]
def bQ:List En:=[⟨21,.outL "books.0" L7,[.e 1]⟩,
 vT 22 21,
 ⟨23,.id .l,[.c (.list [])]⟩]
def Dg:List En:=bQ
def bO:List En:=[vO 26 24 22,
 vK 27 15 26,
 vM 28 15 26,
 vU 29 21 24,
 vP 30 21 24,
 vR 31 21 24,
 vX 32 21 24,
 vV 33 21 24,
 vW 34 21 24,
 vY 35 21 24,
 vZ 36 21 24,
 vd 37 21 24,
 ⟨38,.mget .i 1 0 [.s],[.e 13,.c (.int 0),.e 33]⟩,
 ⟨39,.mhas 1 [.s],[.e 13,.e 33]⟩,
 ⟨40,.mget .i 1 0 [.s],[.e 13,.c (.int 0),.e 34]⟩,
 ⟨41,.mhas 1 [.s],[.e 13,.e 34]⟩]
def az:List En:=[vK 42 27 39,
 vK 43 39 41,
 vK 44 27 43,
 ⟨45,.row 1 9 [.i,.i,.i,.b,.s,.s,.b,.i,.i],[.e 29,.e 30,.e 31,.e 32,.e 33,.e 34,.e 35,.e 36,.e 37]⟩,
 vl 46 25 45,
 vM 47 27 43,
 vf 48 43 46 25,
 vf 49 43 46 25,
 ⟨50,.w2 .i64 .add,[.e 24,.c (.int 1)]⟩]
def CZ:List En:=bO++(az)
def Vv:List ObE:=[⟨some 44,.fits 88,[.e 25,.e 45]⟩,⟨some 27,.inl,[.e 24,.e 21]⟩]
def Lu:Ac:=mkD 24 2 CZ 27 [.e 50,.e 49] Vv [13,21,15,22]
def QX:List Rf:=[.e 13,.e 21,.e 15,.e 22,.c (.int 0),.e 23]
def bJ:List En:=[⟨51,.lt,[.e 2,.c (.int 0)]⟩,
 vQ 52 51,
 vO 53 3 2,
 vN 54 51 53,
 vQ 55 54,
 ⟨56,.lt,[.c (.int 1099511627776),.e 3]⟩,
 vN 57 54 56,
 vQ 58 57,
 ⟨59,.rep [.s,.i,.i,.i,.i,.i],[.e 9,.c (.str ⟨#[]⟩),.c (.int 0),.c (.int 0),.c (.int 0),.c (.int 0),.c (.int 0)]⟩,
 ⟨60,.id .i,[.e 9]⟩]
def Em:List En:=bJ
def bY:List En:=[vO 63 61 9,
 vK 64 58 63,
 vM 65 58 63,
 vm 66 8 61,
 vP 67 8 61,
 vR 68 8 61,
 ⟨69,.rset 0 [.s],[.e 62,.e 61,.e 66]⟩,
 ⟨70,.w2 .i64 .add,[.e 61,.c (.int 1)]⟩]
def DM:List En:=bY
def Vo:List ObE:=[⟨some 64,.inr,[.e 61,.e 60]⟩,⟨some 64,.inr,[.e 61,.e 9]⟩]
def L0:Ac:=mkD 61 2 DM 64 [.e 70,.e 69] Vo [8,58,9,60]
def QB:List Rf:=[.e 8,.e 58,.e 9,.e 60,.c (.int 0),.e 59]
def bw:List En:=[vT 71 25,
 ⟨72,.id .l,[.c (.list [])]⟩]
def HQ:List En:=bw
def ae:List En:=[vO 76 73 71,
 vK 77 65 76,
 vM 78 65 76,
 vU 79 25 73,
 vP 80 25 73,
 vR 81 25 73,
 vX 82 25 73,
 vV 83 25 73,
 vW 84 25 73,
 vY 85 25 73,
 vZ 86 25 73,
 vd 87 25 73,
 ⟨88,.le,[.e 2,.e 81]⟩,
 vK 89 77 88,
 vO 90 81 3,
 vK 91 88 90]
def bn:List En:=[vK 92 77 91,
 ⟨93,.row 1 9 [.i,.i,.i,.b,.s,.s,.b,.i,.i],[.e 79,.e 80,.e 81,.e 82,.e 83,.e 84,.e 85,.e 86,.e 87]⟩,
 vl 94 75 93,
 ⟨95,.mget .i 1 0 [.s],[.e 13,.c (.int 0),.e 83]⟩,
 vP 96 74 95,
 ⟨97,.wx .i64 .add,[.e 96,.c (.int 1)]⟩,
 ⟨98,.rset 1 [.i],[.e 74,.e 95,.e 97]⟩,
 ⟨99,.mget .i 1 0 [.s],[.e 13,.c (.int 0),.e 84]⟩,
 vR 100 98 99,
 ⟨101,.wx .i64 .add,[.e 100,.c (.int 1)]⟩,
 ⟨102,.rset 2 [.i],[.e 98,.e 99,.e 101]⟩,
 vM 103 77 91,
 vf 104 91 102 74,
 vf 105 91 94 75,
 ⟨106,.ite .l,[.e 91,.e 93,.c (.list [])]⟩,
 ⟨107,.w2 .i64 .add,[.e 73,.c (.int 1)]⟩]
def ED:List En:=ae++(bn)
def Vh:List ObE:=[⟨some 92,.inr,[.e 99,.e 60]⟩,⟨some 92,.inr,[.e 99,.e 60]⟩,⟨some 92,.inr,[.e 95,.e 60]⟩,⟨some 92,.inr,[.e 95,.e 60]⟩,⟨some 92,.fits 88,[.e 75,.e 93]⟩,⟨some 77,.inl,[.e 73,.e 25]⟩]
def MU:Ac:=mkD 73 3 ED 77 [.e 107,.e 104,.e 105] Vh [13,3,2,25,65,71,60]
def QA:List Rf:=[.e 13,.e 3,.e 2,.e 25,.e 65,.e 71,.e 60,.c (.int 0),.e 62,.e 72]
def bz:List En:=[vT 108 75]
def ME:List En:=bz
def bU:List En:=[vO 111 109 108,
 vK 112 78 111,
 vM 113 78 111,
 vU 114 75 109,
 vP 115 75 109,
 vR 116 75 109,
 vX 117 75 109,
 vV 118 75 109,
 vW 119 75 109,
 vY 120 75 109,
 vZ 121 75 109,
 vd 122 75 109,
 ⟨123,.mget .i 1 0 [.s],[.e 13,.c (.int 0),.e 118]⟩,
 ⟨124,.mget .i 1 0 [.s],[.e 13,.c (.int 0),.e 119]⟩,
 ⟨125,.wx .i64 .sub,[.e 121,.e 122]⟩,
 ⟨126,.get .i 4,[.e 110,.e 123]⟩]
def bd:List En:=[⟨127,.wx .i64 .add,[.e 126,.e 125]⟩,
 ⟨128,.rset 4 [.i],[.e 110,.e 123,.e 127]⟩,
 ⟨129,.get .i 4,[.e 128,.e 124]⟩,
 ⟨130,.wx .i64 .sub,[.e 129,.e 125]⟩,
 ⟨131,.rset 4 [.i],[.e 128,.e 124,.e 130]⟩,
 ⟨132,.get .i 5,[.e 131,.e 123]⟩,
 vP 133 131 124,
 ⟨134,.wx .i64 .add,[.e 132,.e 133]⟩,
 ⟨135,.rset 5 [.i],[.e 131,.e 123,.e 134]⟩,
 vP 136 135 123,
 vP 137 135 124,
 ⟨138,.eq,[.e 136,.e 137]⟩,
 vK 139 112 138,
 ⟨140,.get .i 3,[.e 135,.e 123]⟩,
 ⟨141,.wx .i64 .add,[.e 140,.c (.int 1)]⟩,
 ⟨142,.rset 3 [.i],[.e 135,.e 123,.e 141]⟩]
def bK:List En:=[vM 143 112 138,
 vf 144 138 142 135,
 ⟨145,.w2 .i64 .add,[.e 109,.c (.int 1)]⟩]
def Fv:List En:=bU++(bd++(bK))
def VW:List ObE:=[⟨some 112,.inr,[.e 124,.e 60]⟩,⟨some 112,.inr,[.e 123,.e 60]⟩,⟨some 112,.inl,[.e 109,.e 75]⟩]
def MN:Ac:=mkD 109 2 Fv 112 [.e 145,.e 144] VW [13,75,78,108,60]
def PT:List Rf:=[.e 13,.e 75,.e 78,.e 108,.e 60,.c (.int 0),.e 74]
def au:List En:=[⟨146,.ite .l,[.e 57,.c (.list []),.e 75]⟩,
 ⟨147,.ite .l,[.e 57,.c (.list []),.e 110]⟩,
 vQ 148 57,
 ⟨149,.ite .i,[.e 57,.c (.int 3),.c (.int 0)]⟩,
 vN 150 57 58,
 ⟨151,.ne,[.e 149,.c (.int 0)]⟩,
 vQ 152 151,
 ⟨153,.outL "ordS.0" Oz,[.e 147]⟩,
 ⟨154,.ite .i,[.e 151,.e 149,.c (.int 0)]⟩,
 ⟨155,.ite .l,[.e 151,.c (.list []),.e 153]⟩,
 vN 156 151 152]
def Vz:List En:=au
def qQ:List ObE:=[⟨some 152,.pre "ordS.p0" Ld,[.e 147]⟩,
 ⟨some 78,.owes MN,[.e 13,.e 75,.e 78,.e 108,.e 60,.c (.int 0),.e 74]⟩,
 ⟨some 65,.owes MU,[.e 13,.e 3,.e 2,.e 25,.e 65,.e 71,.e 60,.c (.int 0),.e 62,.e 72]⟩,
 ⟨some 58,.owes L0,[.e 8,.e 58,.e 9,.e 60,.c (.int 0),.e 59]⟩,
 ⟨some 58,.btw (0) (68719476736),[.e 9]⟩,
 ⟨some 15,.owes Lu,[.e 13,.e 21,.e 15,.e 22,.c (.int 0),.e 23]⟩,
 ⟨some 15,.pre "books.p0" L1,[.e 1]⟩,
 ⟨none,.owes L6,[.e 0,.e 11,.c (.int 0),.e 10]⟩,
 ⟨none,.fits 32,[.e 6,.e 0]⟩,
 ⟨none,.pre "checkLk.p0" Q3,[.e 1]⟩,
 ⟨none,.pre "checkPk.p0" Re,[.e 0]⟩]
def cC:List Rf:=[.e 155,.e 154]
theorem px:Ef.sees cC (Ef.runC Try.prog NP [(41,QR),(47,Pi),(65,FQ),(71,M6)] Aa 3000 20 30)=some ((Cr++((Ag L6 [.i,.l] QL)++(B6++(Dg++((Ag Lu [.i,.l] QX)++(CZ++(Em++((Ag L0 [.i,.l] QB)++(DM++(HQ++((Ag MU [.i,.l,.l] QA)++(ED++(ME++((Ag MN [.i,.l] PT)++(Fv++(Vz)))))))))))))))).map En.be,qQ.map ObE.be,[]):=by kernel_rfl
abbrev xD(T:Tab):Prop:=(L T 0).length<=140737488355328
abbrev xE(T:Tab):Prop:=(L T 1).length<=140737488355328
abbrev xF(T:Tab):Prop:=(((L T 0)).length<=20/\((L T 1)).length<=20)/\Br (L T 0)=0/\AO (L T 1)=0
variable{T:Tab}
theorem fp (h:xD T)(i:xE T)(j:xF T)(a:AF T Cr):
  ((I T 11)=((L T 0)).length)/\((L T 10)=[]):=by
 have b:=a;clear a;have g:(I T 11)=((L T 0)).length:=by
  obtain⟨-,-,-,-,-,-,-,d,-⟩:=b;simp only[AE,zR,zL] at d;exact d
 have e:(L T 10)=[]:=by
  obtain⟨-,-,-,-,-,-,c,-⟩:=b;simp only[AE,zR,zL,zS] at c;exact c
 exact⟨g,e⟩
abbrev wF(T:Tab)(a:Int)(b:List (List U)):Prop:=0<=a/\a <=((L T 0)).length/\b=Al (D2 ((L T 0))) a.toNat []
abbrev xG(T:Tab):Prop:=(I T 11)=((L T 0)).length
theorem km (N:xF T)(M:xG T)(z:(L T 10)=[])(p:AJ T (AM (Ak 0 Ef.ks) Cr))(l:AU T (B6.map En.be))(o:AU T ((Ag L6 [.i,.l] QL).map En.be)):
  (L6).owes (QL.map (Rf.eval T))/\AJ T (hds 12 [.i,.l])/\(wF T (I T 12) (L T 13))/\¬B T 14=true:=by
 refine Ax (nh:=12) (k:=2) (pcn:=14) (aO:=21) (y:=B6) (J:=WN) (nxt:=[.e 20,.e 19]) (H:=[.c (.int 0),.e 10]) (fv:=[0,11]) (R:=[.i,.l]) (by kernel_rfl) rfl rfl rfl rfl p (by kernel_rfl) (by kernel_rfl) l (Ai o) (fun s=>wF T (aI s 0) (aL s 1)) (fun s=>(((L T 0)).length - (aI s 0)).toNat) ?_ ?_
 .show wF T (0:Int) (L T 10);clear p l o;exact⟨by omega,by omega,by rw[show (0:Int).toNat=0 from rfl];exact z⟩
 .intro A q i c;replace c:wF T (I A 12) (L A 13):=c;clear p l o;replace i:AF A B6:=i;have g:=i;clear i;have w:L A 0=L T 0:=fvL (q 0 (by decide));have h:I A 11=I T 11:=fvI (q 11 (by decide));clear q
  suffices D:(B A 14=true->(((L A 13)).length+(([[]]:List (List U))).length)*1<=140737488355328)/\(B A 14=true->0<=I A 12/\I A 12 < ((L A 0)).length)/\(B A 14=true->(wF T (I A 20) (L A 19)))/\(B A 14=true->(((L T 0)).length - (I A 20)).toNat < (((L T 0)).length - (I A 12)).toNat) from
   let⟨K,ax,F,E⟩:=D;⟨⟨K,ax,trivial⟩,fun b=>⟨F b,E b⟩⟩
  refine⟨?_,?_,?_,?_⟩
  .obtain⟨a,-⟩:=g;simp only[AE,zR] at a;obtain⟨r,t,e⟩:=c;intro b;rw[h] at a;have j:=a.1 b;have C:=qJ (P:=L T 0) (I A 12).toNat;rw[<-e] at C;show (((L A 13)).length+1)*1<=_;omega
  .obtain⟨a,-⟩:=g;simp only[AE,zR] at a;obtain⟨r,t,e⟩:=c;intro b;rw[h] at a;have j:=a.1 b;rw[w];omega
  .obtain⟨a,-,u,-,-,v,d,-⟩:=g;simp only[AE,zR,w2P,zL,zS,uR,zW,AI,zC] at a u v d;obtain⟨r,t,e⟩:=c;intro b;rw[h] at a;have j:=a.1 b;have x:=d (by omega) (by omega);refine⟨by omega,by omega,?_⟩;rw[x,show ((I A 12)+1).toNat=(I A 12).toNat+1 by omega,v,u,e,w];show _=D2 _ _ _;unfold D2;rw[show (((I A 12).toNat:Nat):Int)=(I A 12) by omega]
  .obtain⟨a,-,-,-,-,-,d,-⟩:=g;simp only[AE,zR,w2P] at a d;obtain⟨r,t,e⟩:=c;intro b;rw[h] at a;have j:=a.1 b;have x:=d (by omega) (by omega);omega
theorem fD (F:xD T)(H:xE T)(A:xF T)(E:xG T)(D:(L T 10)=[])(z:wF T (I T 12) (L T 13))(q:¬B T 14=true)(c:AF T Cr)(e:AF T B6)(d:AF T Dg):
  ((I T 22)=((L T 21)).length)/\((L T 23)=[])/\((L T 21)=Bi ((L T 1)))/\(((L T 21)).length<=20)/\((L T 13)=IR ((L T 0)))/\((B T 15)=true)/\((L T 8)=L T 0):=by
 have r:=c;clear c;have g:=e;clear e;have b:=d;clear d;have w:(I T 22)=((L T 21)).length:=by
  obtain⟨-,k,-⟩:=b;simp only[AE,zR,zL] at k;exact k
 have x:(L T 23)=[]:=by
  obtain⟨-,-,l,-⟩:=b;simp only[AE,zR,zL,zS] at l;exact l
 have v:(L T 21)=Bi ((L T 1)):=by
  obtain⟨a,-⟩:=b;replace a:L T 21=(Bi (L T 1)):=a;exact a
 have s:((L T 21)).length<=20:=by
  obtain⟨a,-⟩:=b;replace a:L T 21=(Bi (L T 1)):=a;rw[a];exact t8 WE A.1.2
 have t:(L T 13)=IR ((L T 0)):=by
  obtain⟨i,-⟩:=g;simp only[AE,zR] at i;obtain⟨K,M,C⟩:=z;have J:¬I T 12 < I T 11:=fun h=>q (i.2 h);rw[C,show (I T 12).toNat=((L T 0)).length by omega];rfl
 have u:(B T 15)=true:=by
  obtain⟨-,j,-⟩:=g;simp only[AE,AI,zR] at j;exact j.2 (by simpa using q)
 have y:(L T 8)=L T 0:=by
  obtain⟨-,-,o,-,p,-⟩:=r;simp only[AE,AI,zR,zL,zS] at o p;rw[p,o];rfl
 exact⟨w,x,v,s,t,u,y⟩
abbrev wG(T:Tab)(a:Int)(b:List (List U)):Prop:=0<=a/\a <=((L T 21)).length/\b=Al (EV ((L T 13)) ((L T 21))) a.toNat []
abbrev xH(T:Tab):Prop:=(I T 22)=((L T 21)).length
theorem hY (a8:xH T)(a0:(L T 23)=[])(a7:((L T 21)).length<=20)(W:AJ T (AM (AM (hds 12 [.i,.l]++(AM (Ak 0 Ef.ks) Cr)) B6) Dg))(Q:AU T (CZ.map En.be))(V:AU T ((Ag Lu [.i,.l] QX).map En.be)):
  (Lu).owes (QX.map (Rf.eval T))/\AJ T (hds 24 [.i,.l])/\(wG T (I T 24) (L T 25))/\¬B T 27=true:=by
 refine Ax (nh:=24) (k:=2) (pcn:=27) (aO:=51) (y:=CZ) (J:=Vv) (nxt:=[.e 50,.e 49]) (H:=[.c (.int 0),.e 23]) (fv:=[13,21,15,22]) (R:=[.i,.l]) (by kernel_rfl) rfl rfl rfl rfl W (by kernel_rfl) (by kernel_rfl) Q (Ai V) (fun s=>wG T (aI s 0) (aL s 1)) (fun s=>(((L T 21)).length - (aI s 0)).toNat) ?_ ?_
 .show wG T (0:Int) (L T 23);clear W Q V;exact⟨by omega,by omega,by rw[show (0:Int).toNat=0 from rfl];exact a0⟩
 .intro A p e g;replace g:wG T (I A 24) (L A 25):=g;clear W Q V;replace e:AF A CZ:=e;obtain⟨r,e⟩:=e.cut;have x:=e;clear e;have ao:L A 13=L T 13:=fvL (p 13 (by decide));have ad:L A 21=L T 21:=fvL (p 21 (by decide));have a6:B A 15=B T 15:=fvB (p 15 (by decide));have v:I A 22=I T 22:=fvI (p 22 (by decide));clear p
  suffices hz:(B A 44=true->(((L A 25)).length+((L A 45)).length)*88<=140737488355328)/\(B A 27=true->0<=I A 24/\I A 24 < ((L A 21)).length)/\(B A 27=true->(wG T (I A 50) (L A 49)))/\(B A 27=true->(((L T 21)).length - (I A 50)).toNat < (((L T 21)).length - (I A 24)).toNat) from
   let⟨r0,ax,nx,mz⟩:=hz;⟨⟨r0,ax,trivial⟩,fun c=>⟨nx c,mz c⟩⟩
  refine⟨?_,?_,?_,?_⟩
  .obtain⟨a,b,-⟩:=r;obtain⟨-,-,Z,l,-⟩:=x;simp only[AE,AI,zR,zL,zS,uR,Bh,zW] at a b Z l;obtain⟨X,Y,q⟩:=g;intro c;have d:=a.1 (b.1 (Z.1 c).1).2;rw[v] at d;have hl:=WT (M:=L T 13) (B:=L T 21) (I A 24).toNat;rw[<-q] at hl;rw[l];show (((L A 25)).length+1)*88<=_;omega
  .obtain⟨a,b,-⟩:=r;simp only[AE,AI,zR] at a b;obtain⟨X,Y,q⟩:=g;intro c;have d:=a.1 (b.1 c).2;rw[v] at d;rw[ad];omega
  .obtain⟨a,b,-,z,C,D,E,t,u,F,K,N,-,i,-,j,-⟩:=r;obtain⟨-,O,-,l,ab,-,-,P,o,-⟩:=x;simp only[AE,AI,zR,w2P,zL,zS,uR,Bh,zW,zC] at a b z C D E t u F K N i j O l ab P o;obtain⟨X,Y,q⟩:=g;intro c;have d:=a.1 (b.1 c).2;rw[v] at d;have al:=o (by omega) (by omega);refine⟨by omega,by omega,?_⟩;rw[al,show ((I A 24)+1).toNat=(I A 24).toNat+1 by omega];refine Eq.trans ?_ (vD (EV ((L T 13)) ((L T 21)) (I A 24).toNat) q);unfold EV U7;rw[ad] at z C D E t u F K N;rw[ao] at i j;rw[t] at i;rw[u] at j;by_cases w:(B A 43)=true
   .have ag:=O.1 w;rw[P,vC w,vC ⟨i.1 ag.1,j.1 ag.2⟩,ab,l,z,C,D,E,t,u,F,K,N];rfl
   .rw[P,vA w,vA (fun h=>w (O.2 ⟨i.2 h.1,j.2 h.2⟩))]
  .obtain⟨a,b,-⟩:=r;obtain⟨-,-,-,-,-,-,-,-,o,-⟩:=x;simp only[AE,AI,zR,w2P] at a b o;obtain⟨X,Y,q⟩:=g;intro c;have d:=a.1 (b.1 c).2;rw[v] at d;have al:=o (by omega) (by omega);omega
theorem gH (Q:xD T)(V:xE T)(D:xF T)(N:xG T)(M:(L T 10)=[])(W:wF T (I T 12) (L T 13))(Y:¬B T 14=true)(O:xH T)(P:(L T 23)=[])(v:(L T 21)=Bi ((L T 1)))(K:((L T 21)).length<=20)(t:(L T 13)=IR ((L T 0)))(u:(B T 15)=true)(y:(L T 8)=L T 0)(A:wG T (I T 24) (L T 25))(C:¬B T 27=true)(c:AF T Cr)(g:AF T B6)(d:AF T Dg)(b:AF T CZ)(e:AF T Em):
  ((I T 9)=((L T 8)).length)/\((I T 60)=I T 9)/\((I T 9)<=20)/\((L T 59)=List.replicate (I T 9).toNat [.str ByteArray.empty,.int 0,.int 0,.int 0,.int 0,.int 0])/\((L T 25)=Mi ((L T 0)) ((L T 1))):=by
 have i:=c;clear c;have F:=g;clear g;have H:=d;clear d;obtain⟨q,b⟩:=b.cut;have J:=b;clear b;have j:=e;clear e;have z:(I T 9)=((L T 8)).length:=by
  obtain⟨-,-,-,-,-,a,-⟩:=i;simp only[AE,zR,zL] at a;exact a
 have x:(I T 60)=I T 9:=by
  obtain⟨-,-,-,-,-,-,-,-,-,p,-⟩:=j;simp only[AE,AI,zR,zL,zS] at p;exact p
 have r:(I T 9)<=20:=by
  obtain⟨-,-,-,-,-,a,-⟩:=i;simp only[AE,zR,zL] at a;have:=D.1.1;rw[a,y];omega
 have w:(L T 59)=List.replicate (I T 9).toNat [.str ByteArray.empty,.int 0,.int 0,.int 0,.int 0,.int 0]:=by
  obtain⟨-,-,-,-,-,-,-,-,o,-⟩:=j;simp only[AE,zR,zS,uR,zW,AI,zC] at o;exact o
 have s:(L T 25)=Mi ((L T 0)) ((L T 1)):=by
  obtain⟨k,l,-⟩:=q;simp only[AE,AI,zR] at k l;obtain⟨Z,v2,E⟩:=A;have X:¬I T 24 < I T 22:=fun h=>C (l.2 ⟨u,k.2 h⟩);rw[E,show (I T 24).toNat=((L T 21)).length by omega,v,t];rfl
 exact⟨z,x,r,w,s⟩
abbrev wH(T:Tab)(a:Int)(b:List (List U)):Prop:=0<=a/\a <=I T 9/\b=Al (Js ((L T 8))) a.toNat (List.replicate (I T 9).toNat [.str ByteArray.empty,.int 0,.int 0,.int 0,.int 0,.int 0])
abbrev xI(T:Tab):Prop:=(I T 9)=((L T 8)).length
abbrev xJ(T:Tab):Prop:=(L T 59)=List.replicate (I T 9).toNat [.str ByteArray.empty,.int 0,.int 0,.int 0,.int 0,.int 0]
theorem jQ (Q:xI T)(P:(I T 60)=I T 9)(N:(I T 9)<=20)(D:xJ T)(r:AJ T (AM (AM (hds 24 [.i,.l]++(AM (AM (hds 12 [.i,.l]++(AM (Ak 0 Ef.ks) Cr)) B6) Dg)) CZ) Em))(p:AU T (DM.map En.be))(q:AU T ((Ag L0 [.i,.l] QB).map En.be)):
  (L0).owes (QB.map (Rf.eval T))/\AJ T (hds 61 [.i,.l])/\(wH T (I T 61) (L T 62))/\¬B T 64=true:=by
 refine Ax (nh:=61) (k:=2) (pcn:=64) (aO:=71) (y:=DM) (J:=Vo) (nxt:=[.e 70,.e 69]) (H:=[.c (.int 0),.e 59]) (fv:=[8,58,9,60]) (R:=[.i,.l]) (by kernel_rfl) rfl rfl rfl rfl r (by kernel_rfl) (by kernel_rfl) p (Ai q) (fun s=>wH T (aI s 0) (aL s 1)) (fun s=>((I T 9) - (aI s 0)).toNat) ?_ ?_
 .show wH T (0:Int) (L T 59);clear r p q;exact⟨by omega,by omega,by rw[show (0:Int).toNat=0 from rfl];exact D⟩
 .intro A i l e;replace e:wH T (I A 61) (L A 62):=e;clear r p q;replace l:AF A DM:=l;have j:=l;clear l;have C:L A 8=L T 8:=fvL (i 8 (by decide));have O:B A 58=B T 58:=fvB (i 58 (by decide));have h:I A 9=I T 9:=fvI (i 9 (by decide));have z:I A 60=I T 60:=fvI (i 60 (by decide));clear i
  suffices E:(B A 64=true->0<=I A 61/\I A 61 < I A 60)/\(B A 64=true->0<=I A 61/\I A 61 < I A 9)/\(B A 64=true->(wH T (I A 70) (L A 69)))/\(B A 64=true->((I T 9) - (I A 70)).toNat < ((I T 9) - (I A 61)).toNat) from
   let⟨M,ax,K,F⟩:=E;⟨⟨M,ax,trivial⟩,fun c=>⟨K c,F c⟩⟩
  refine⟨?_,?_,?_,?_⟩
  .obtain⟨a,b,-⟩:=j;simp only[AE,AI,zR] at a b;obtain⟨t,u,o⟩:=e;intro c;have d:=a.1 (b.1 c).2;rw[h] at d;rw[z];omega
  .obtain⟨a,b,-⟩:=j;simp only[AE,AI,zR] at a b;obtain⟨t,u,o⟩:=e;intro c;have d:=a.1 (b.1 c).2;rw[h] at d;rw[h];omega
  .obtain⟨a,b,-,v,-,-,w,g,-⟩:=j;simp only[AE,AI,zR,w2P,zL,zS,uR,zW,zC] at a b v w g;obtain⟨t,u,o⟩:=e;intro c;have d:=a.1 (b.1 c).2;rw[h] at d;have x:=g (by omega) (by omega);refine⟨by omega,by omega,?_⟩;rw[x,show ((I A 61)+1).toNat=(I A 61).toNat+1 by omega];refine Eq.trans ?_ (vD (Js ((L T 8)) (I A 61).toNat) o);unfold Js;rw[w,v,C]
  .obtain⟨a,b,-,-,-,-,-,g,-⟩:=j;simp only[AE,AI,zR,w2P] at a b g;obtain⟨t,u,o⟩:=e;intro c;have d:=a.1 (b.1 c).2;rw[h] at d;have x:=g (by omega) (by omega);omega
abbrev xK(T:Tab):Prop:=(L T 25)=Mi ((L T 0)) ((L T 1))
theorem fh (X:xD T)(Y:xE T)(y:xF T)(N:xG T)(M:(L T 10)=[])(Z:wF T (I T 12) (L T 13))(ag:¬B T 14=true)(Q:xH T)(V:(L T 23)=[])(P:(L T 21)=Bi ((L T 1)))(K:((L T 21)).length<=20)(r:(L T 13)=IR ((L T 0)))(O:(B T 15)=true)(w:(L T 8)=L T 0)(ab:wG T (I T 24) (L T 25))(al:¬B T 27=true)(x:xI T)(t:(I T 60)=I T 9)(J:(I T 9)<=20)(W:xJ T)(o:xK T)(ad:wH T (I T 61) (L T 62))(ao:¬B T 64=true)(b:AF T Cr)(g:AF T B6)(c:AF T Dg)(a:AF T CZ)(d:AF T Em)(i:AF T DM)(e:AF T HQ):
  ((I T 71)=((L T 25)).length)/\((L T 72)=[])/\(∀s,0<=C4 ((L T 13)) s/\(0 < ((L T 25)).length->C4 ((L T 13)) s < I T 60))/\(((L T 25)).length<=20):=by
 have z:=b;clear b;have A:=g;clear g;have C:=c;clear c;obtain⟨D,a⟩:=a.cut;have E:=a;clear a;have F:=d;clear d;have H:=i;clear i;have j:=e;clear e;have u:(I T 71)=((L T 25)).length:=by
  obtain⟨k,-⟩:=j;simp only[AE,zR,zL] at k;exact k
 have v:(L T 72)=[]:=by
  obtain⟨-,l,-⟩:=j;simp only[AE,zR,zL,zS] at l;exact l
 have q:∀s,0<=C4 ((L T 13)) s/\(0 < ((L T 25)).length->C4 ((L T 13)) s < I T 60):=by
  rw[t,r,x,w,o];intro s;exact⟨(cX s).1,fun h=>(cX s).2 (li h)⟩
 have p:((L T 25)).length<=20:=by
  rw[o];exact t8 (WT _) (t8 WE y.1.2)
 exact⟨u,v,q,p⟩
abbrev wI(T:Tab)(a:Int)(b:List (List U))(c:List (List U)):Prop:=0<=a/\a <=((L T 25)).length/\b=Al (Jq ((L T 13)) ((L T 25)) (I T 2) (I T 3)) a.toNat ((L T 62))/\c=Al (inF ((L T 25)) (I T 2) (I T 3)) a.toNat []
abbrev xL(T:Tab):Prop:=(I T 71)=((L T 25)).length
abbrev xM(T:Tab):Prop:=∀s,0<=C4 ((L T 13)) s/\(0 < ((L T 25)).length->C4 ((L T 13)) s < I T 60)
theorem lP (b8:xL T)(bs:(L T 72)=[])(v:xM T)(b6:((L T 25)).length<=20)(hS:AJ T (AM (AM (hds 61 [.i,.l]++(AM (AM (hds 24 [.i,.l]++(AM (AM (hds 12 [.i,.l]++(AM (Ak 0 Ef.ks) Cr)) B6) Dg)) CZ) Em)) DM) HQ))(hB:AU T (ED.map En.be))(hH:AU T ((Ag MU [.i,.l,.l] QA).map En.be)):
  (MU).owes (QA.map (Rf.eval T))/\AJ T (hds 73 [.i,.l,.l])/\(wI T (I T 73) (L T 74) (L T 75))/\¬B T 77=true:=by
 refine Ax (nh:=73) (k:=3) (pcn:=77) (aO:=108) (y:=ED) (J:=Vh) (nxt:=[.e 107,.e 104,.e 105]) (H:=[.c (.int 0),.e 62,.e 72]) (fv:=[13,3,2,25,65,71,60]) (R:=[.i,.l,.l]) (by kernel_rfl) rfl rfl rfl rfl hS (by kernel_rfl) (by kernel_rfl) hB (Ai hH) (fun s=>wI T (aI s 0) (aL s 1) (aL s 2)) (fun s=>(((L T 25)).length - (aI s 0)).toNat) ?_ ?_
 .show wI T (0:Int) (L T 62) (L T 72);clear hS hB hH;exact⟨by omega,by omega,rfl,by rw[show (0:Int).toNat=0 from rfl];exact bs⟩
 .intro A w K l;replace l:wI T (I A 73) (L A 74) (L A 75):=l;clear hS hB hH;replace K:AF A ED:=K;obtain⟨q,K⟩:=K.cut;have z:=K;clear K;have V:L A 13=L T 13:=fvL (w 13 (by decide));have a3:I A 3=I T 3:=fvI (w 3 (by decide));have a1:I A 2=I T 2:=fvI (w 2 (by decide));have a2:L A 25=L T 25:=fvL (w 25 (by decide));have b7:B A 65=B T 65:=fvB (w 65 (by decide));have u:I A 71=I T 71:=fvI (w 71 (by decide));have X:I A 60=I T 60:=fvI (w 60 (by decide));clear w
  suffices hz:(B A 92=true->0<=I A 99/\I A 99 < I A 60)/\(B A 92=true->0<=I A 99/\I A 99 < I A 60)/\(B A 92=true->0<=I A 95/\I A 95 < I A 60)/\(B A 92=true->0<=I A 95/\I A 95 < I A 60)/\(B A 92=true->(((L A 75)).length+((L A 93)).length)*88<=140737488355328)/\(B A 77=true->0<=I A 73/\I A 73 < ((L A 25)).length)/\(B A 77=true->(wI T (I A 107) (L A 104) (L A 105)))/\(B A 77=true->(((L T 25)).length - (I A 107)).toNat < (((L T 25)).length - (I A 73)).toNat) from
   let⟨r0,ax,aE,r3,r4,r5,nx,mz⟩:=hz;⟨⟨r0,ax,aE,r3,r4,r5,trivial⟩,fun e=>⟨nx e,mz e⟩⟩
  refine⟨?_,?_,?_,?_,?_,?_,?_,?_⟩
  .obtain⟨c,d,-⟩:=q;obtain⟨i,-,-,-,-,-,-,t,-⟩:=z;simp only[AE,AI,zR,zL,uR,zW,zC,zS] at c d i t;obtain⟨E,F,x,p⟩:=l;intro e;have g:=c.1 (d.1 (i.1 e).1).2;rw[u] at g;rw[t,V,X];exact⟨(v _).1,(v _).2 (by omega)⟩
  .obtain⟨c,d,-⟩:=q;obtain⟨i,-,-,-,-,-,-,t,-⟩:=z;simp only[AE,AI,zR,zL,uR,zW,zC,zS] at c d i t;obtain⟨E,F,x,p⟩:=l;intro e;have g:=c.1 (d.1 (i.1 e).1).2;rw[u] at g;rw[t,V,X];exact⟨(v _).1,(v _).2 (by omega)⟩
  .obtain⟨c,d,-⟩:=q;obtain⟨i,-,-,r,-⟩:=z;simp only[AE,AI,zR,zL,uR,zW,zC,zS] at c d i r;obtain⟨E,F,x,p⟩:=l;intro e;have g:=c.1 (d.1 (i.1 e).1).2;rw[u] at g;rw[r,V,X];exact⟨(v _).1,(v _).2 (by omega)⟩
  .obtain⟨c,d,-⟩:=q;obtain⟨i,-,-,r,-⟩:=z;simp only[AE,AI,zR,zL,uR,zW,zC,zS] at c d i r;obtain⟨E,F,x,p⟩:=l;intro e;have g:=c.1 (d.1 (i.1 e).1).2;rw[u] at g;rw[r,V,X];exact⟨(v _).1,(v _).2 (by omega)⟩
  .obtain⟨c,d,-⟩:=q;obtain⟨i,Q,-⟩:=z;simp only[AE,AI,zR,zL,zS,uR,Bh,zW] at c d i Q;obtain⟨E,F,x,p⟩:=l;intro e;have g:=c.1 (d.1 (i.1 e).1).2;rw[u] at g;have hl:=jK (G:=L T 25) (a:=I T 2) (b:=I T 3) (I A 73).toNat;rw[<-p] at hl;rw[Q];show (((L A 75)).length+1)*88<=_;omega
  .obtain⟨c,d,-⟩:=q;simp only[AE,AI,zR] at c d;obtain⟨E,F,x,p⟩:=l;intro e;have g:=c.1 (d.1 e).2;rw[u] at g;rw[a2];omega
  .obtain⟨c,d,-,ab,ad,j,ag,N,O,al,ao,a0,C,-,D,P,-⟩:=q;obtain⟨-,Q,bb,r,bc,bi,bj,t,a8,a9,ba,-,Y,Z,-,M,-⟩:=z;simp only[AE,AI,zR,w2P,zL,zS,uR,Bh,zW,zC] at c d ab ad j ag N O al ao a0 C D P Q bb r bc bi bj t a8 a9 ba Y Z M;obtain⟨E,F,x,p⟩:=l;intro e;have g:=c.1 (d.1 e).2;rw[u] at g;have a7:=M (by omega) (by omega);refine⟨by omega,by omega,?_,?_⟩
   .rw[a7,show ((I A 73)+1).toNat=(I A 73).toNat+1 by omega];refine Eq.trans ?_ (vD (Jq ((L T 13)) ((L T 25)) (I T 2) (I T 3) (I A 73).toNat) x);unfold Jq;rw[a2] at j N O;rw[a1,j] at C;rw[a3,j] at D;by_cases o:(B A 91)=true
    .have W:=P.1 o;rw[Y,vC o,vC (show Mf (I T 2) (I T 3) ((L T 25)) (I A 73).toNat from⟨C.1 W.1,D.1 W.2⟩),ba,a9,a8,bj,bi,bc,t,r,V,N,O];rfl
    .rw[Y,vA o,vA (fun h:Mf (I T 2) (I T 3) ((L T 25)) (I A 73).toNat=>o (P.2 ⟨C.2 h.1,D.2 h.2⟩))]
   .rw[a7,show ((I A 73)+1).toNat=(I A 73).toNat+1 by omega];refine Eq.trans ?_ (vD (inF ((L T 25)) (I T 2) (I T 3) (I A 73).toNat) p);unfold inF;rw[a2] at ab ad j ag N O al ao a0;by_cases o:(B A 91)=true
    .have W:=P.1 o;have bl:=C.1 W.1;have bm:=D.1 W.2;rw[a1,j] at bl;rw[a3,j] at bm;rw[Z,vC o,vC (show Mf (I T 2) (I T 3) ((L T 25)) (I A 73).toNat from⟨bl,bm⟩),bb,Q,ab,ad,j,ag,N,O,al,ao,a0];rfl
    .rw[a1,j] at C;rw[a3,j] at D;rw[Z,vA o,vA (fun h:Mf (I T 2) (I T 3) ((L T 25)) (I A 73).toNat=>o (P.2 ⟨C.2 h.1,D.2 h.2⟩))]
  .obtain⟨c,d,-⟩:=q;obtain⟨-,-,-,-,-,-,-,-,-,-,-,-,-,-,-,M,-⟩:=z;simp only[AE,AI,zR,w2P] at c d M;obtain⟨E,F,x,p⟩:=l;intro e;have g:=c.1 (d.1 e).2;rw[u] at g;have a7:=M (by omega) (by omega);omega
theorem gZ (a0:xD T)(a1:xE T)(a9:xF T)(P:xG T)(O:(L T 10)=[])(a2:wF T (I T 12) (L T 13))(a5:¬B T 14=true)(X:xH T)(Y:(L T 23)=[])(W:(L T 21)=Bi ((L T 1)))(K:((L T 21)).length<=20)(Q:(L T 13)=IR ((L T 0)))(V:(B T 15)=true)(h8:(L T 8)=L T 0)(a3:wG T (I T 24) (L T 25))(a6:¬B T 27=true)(h9:xI T)(ab:(I T 60)=I T 9)(J:(I T 9)<=20)(Z:xJ T)(M:xK T)(a4:wH T (I T 61) (L T 62))(a7:¬B T 64=true)(ad:xL T)(ag:(L T 72)=[])(N:xM T)(H:((L T 25)).length<=20)(t:wI T (I T 73) (L T 74) (L T 75))(a8:¬B T 77=true)(e:AF T Cr)(k:AF T B6)(g:AF T Dg)(c:AF T CZ)(h:AF T Em)(l:AF T DM)(i:AF T HQ)(d:AF T ED)(j:AF T ME):
  ((I T 108)=((L T 75)).length)/\(((L T 75)).length<=((L T 25)).length/\((L T 75)).length<=20):=by
 have v:=e;clear e;have w:=k;clear k;have x:=g;clear g;obtain⟨y,c⟩:=c.cut;have z:=c;clear c;have A:=h;clear h;have C:=l;clear l;have D:=i;clear i;obtain⟨E,d⟩:=d.cut;have F:=d;clear d;have p:=j;clear j;have r:(I T 108)=((L T 75)).length:=by
  obtain⟨o,-⟩:=p;simp only[AE,zR,zL] at o;exact o
 have q:((L T 75)).length<=((L T 25)).length/\((L T 75)).length<=20:=by
  obtain⟨v1,v2,v3,u⟩:=t;have s:=jK (G:=L T 25) (a:=I T 2) (b:=I T 3) (I T 73).toNat;rw[<-u] at s;omega
 exact⟨r,q⟩
abbrev wJ(T:Tab)(a:Int)(b:List (List U)):Prop:=0<=a/\a <=((L T 75)).length/\b=Al (LF ((L T 13)) ((L T 75))) a.toNat ((L T 74))
abbrev xN(T:Tab):Prop:=((L T 75)).length<=((L T 25)).length/\((L T 75)).length<=20
theorem jk (u:xM T)(b1:(I T 108)=((L T 75)).length)(bx:xN T)(Q:AJ T (AM (AM (hds 73 [.i,.l,.l]++(AM (AM (hds 61 [.i,.l]++(AM (AM (hds 24 [.i,.l]++(AM (AM (hds 12 [.i,.l]++(AM (Ak 0 Ef.ks) Cr)) B6) Dg)) CZ) Em)) DM) HQ)) ED) ME))(O:AU T (Fv.map En.be))(P:AU T ((Ag MN [.i,.l] PT).map En.be)):
  (MN).owes (PT.map (Rf.eval T))/\AJ T (hds 109 [.i,.l])/\(wJ T (I T 109) (L T 110))/\¬B T 112=true:=by
 refine Ax (nh:=109) (k:=2) (pcn:=112) (aO:=146) (y:=Fv) (J:=VW) (nxt:=[.e 145,.e 144]) (H:=[.c (.int 0),.e 74]) (fv:=[13,75,78,108,60]) (R:=[.i,.l]) (by kernel_rfl) rfl rfl rfl rfl Q (by kernel_rfl) (by kernel_rfl) O (Ai P) (fun s=>wJ T (aI s 0) (aL s 1)) (fun s=>(((L T 75)).length - (aI s 0)).toNat) ?_ ?_
 .show wJ T (0:Int) (L T 74);clear Q O P;exact⟨by omega,by omega,rfl⟩
 .intro A i e g;replace g:wJ T (I A 109) (L A 110):=g;clear Q O P;replace e:AF A Fv:=e;obtain⟨j,e⟩:=e.cut;obtain⟨F1,e⟩:=e.cut;have V:=e;clear e;have t:L A 13=L T 13:=fvL (i 13 (by decide));have a7:L A 75=L T 75:=fvL (i 75 (by decide));have b0:B A 78=B T 78:=fvB (i 78 (by decide));have q:I A 108=I T 108:=fvI (i 108 (by decide));have a6:I A 60=I T 60:=fvI (i 60 (by decide));clear i
  suffices hz:(B A 112=true->0<=I A 124/\I A 124 < I A 60)/\(B A 112=true->0<=I A 123/\I A 123 < I A 60)/\(B A 112=true->0<=I A 109/\I A 109 < ((L A 75)).length)/\(B A 112=true->(wJ T (I A 145) (L A 144)))/\(B A 112=true->(((L T 75)).length - (I A 145)).toNat < (((L T 75)).length - (I A 109)).toNat) from
   let⟨r0,ax,aE,nx,mz⟩:=hz;⟨⟨r0,ax,aE,trivial⟩,fun c=>⟨nx c,mz c⟩⟩
  refine⟨?_,?_,?_,?_,?_⟩
  .obtain⟨a,b,-,-,-,-,-,-,-,-,-,-,-,o,-⟩:=j;simp only[AE,AI,zR,zL,uR,zW,zC,zS] at a b o;obtain⟨w,x,r⟩:=g;intro c;have d:=a.1 (b.1 c).2;rw[q] at d;rw[o,t,a6];exact⟨(u _).1,(u _).2 (by omega)⟩
  .obtain⟨a,b,-,-,-,-,-,-,-,-,-,-,l,-⟩:=j;simp only[AE,AI,zR,zL,uR,zW,zC,zS] at a b l;obtain⟨w,x,r⟩:=g;intro c;have d:=a.1 (b.1 c).2;rw[q] at d;rw[l,t,a6];exact⟨(u _).1,(u _).2 (by omega)⟩
  .obtain⟨a,b,-⟩:=j;simp only[AE,AI,zR] at a b;obtain⟨w,x,r⟩:=g;intro c;have d:=a.1 (b.1 c).2;rw[q] at d;rw[a7];omega
  .obtain⟨a,b,-,-,-,-,-,z,C,-,D,F,l,o,W,X,-⟩:=j;obtain⟨Y,Z,ab,ad,ag,al,ao,a0,a1,K,M,N,-,a2,a3,a4,-⟩:=F1;obtain⟨-,a5,p,-⟩:=V;simp only[AE,AI,zR,w2P,zL,zS,uR,zW,zC] at a b z C D F l o W X Y Z ab ad ag al ao a0 a1 K M N a2 a3 a4 a5 p;obtain⟨w,x,r⟩:=g;intro c;have d:=a.1 (b.1 c).2;rw[q] at d;have a9:=p (by omega) (by omega);refine⟨by omega,by omega,?_⟩;rw[a9,show ((I A 109)+1).toNat=(I A 109).toNat+1 by omega];refine Eq.trans ?_ (vD (LF ((L T 13)) ((L T 75)) (I A 109).toNat) r);unfold LF;rw[a7] at z C D F;have k1:(I A 123)=C4 ((L T 13)) (BL ((L T 75)) (I A 109).toNat 4):=by rw[l,z,t];rfl
   have E:(I A 124)=C4 ((L T 13)) (BL ((L T 75)) (I A 109).toNat 5):=by rw[o,C,t];rfl
   have k3:(I A 125)=w64 (Ad ((L T 75)) (I A 109).toNat 7 - Ad ((L T 75)) (I A 109).toNat 8):=by rw[W,D,F];rfl
   rw[<-k1,<-E,<-k3];have bb:(L A 131)=my ((L A 110)) (I A 123) (I A 124) (I A 125):=by rw[ag,ad,ab,Z,Y,X];rfl
   have bc:(L A 135)=oH ((L A 131)) (I A 123) (I A 124):=by rw[a1,a0,ao,al];rfl
   rw[<-bb,<-bc,a5];unfold nU;by_cases v:(B A 138)=true
   .have a8:=N.1 v;rw[K,M] at a8;rw[vC v,vC a8,a4,a3,a2];rfl
   .rw[vA v,vA (fun h=>v (N.2 (by rw[K,M];exact h)))]
  .obtain⟨a,b,-⟩:=j;obtain⟨-,-,p,-⟩:=V;simp only[AE,AI,zR,w2P] at a b p;obtain⟨w,x,r⟩:=g;intro c;have d:=a.1 (b.1 c).2;rw[q] at d;have a9:=p (by omega) (by omega);omega
theorem pz (d3:xD T)(d4:xE T)(cb:xF T)(dd:xG T)(c8:(L T 10)=[])(d5:wF T (I T 12) (L T 13))(d7:¬B T 14=true)(dj:xH T)(dk:(L T 23)=[])(di:(L T 21)=Bi ((L T 1)))(c6:((L T 21)).length<=20)(bb:(L T 13)=IR ((L T 0)))(de:(B T 15)=true)(h8:(L T 8)=L T 0)(d6:wG T (I T 24) (L T 25))(d8:¬B T 27=true)(h9:xI T)(dv:(I T 60)=I T 9)(c9:(I T 9)<=20)(dm:xJ T)(ba:xK T)(bi:wH T (I T 61) (L T 62))(bs:¬B T 64=true)(d0:xL T)(d1:(L T 72)=[])(gk:xM T)(c3:((L T 25)).length<=20)(bj:wI T (I T 73) (L T 74) (L T 75))(bt:¬B T 77=true)(db:(I T 108)=((L T 75)).length)(c4:xN T)(bl:wJ T (I T 109) (L T 110))(bx:¬B T 112=true)(A0:AF T Cr)(B0:AF T B6)(A1:AF T Dg)(D:AF T CZ)(A2:AF T Em)(B2:AF T DM)(A3:AF T HQ)(E:AF T ED)(A4:AF T ME)(o:AF T Fv)(A5:AF T Vz):
  ((L T 155)=(Un (L T 0) (L T 1) (I T 2) (I T 3)))/\
  ((I T 154)=(Hr (I T 2) (I T 3)))/\
  (B T 152=true->((L T 147)).length<=20)/\
  (B T 58=true->0<=I T 9/\I T 9<=68719476736)/\
  (B T 15=true->((L T 1)).length<=40)/\
  ((((L T 6)).length+((L T 0)).length)*32<=140737488355328)/\
  (AO (L T 1)=0)/\
  (Br (L T 0)=0):=by
 have J:=A0;clear A0;have F1:=B0;clear B0;have F2:=A1;clear A1;obtain⟨F3,D⟩:=D.cut;have F4:=D;clear D;have F:=A2;clear A2;have F6:=B2;clear B2;have F7:=A3;clear A3;obtain⟨F8,E⟩:=E.cut;have F9:=E;clear E;have cs:=A4;clear A4;obtain⟨a6,o⟩:=o.cut;obtain⟨cu,o⟩:=o.cut;have cv:=o;clear o;have K:=A5;clear A5;refine⟨?_,?_,?_,?_,?_,?_,?_,?_⟩
 .obtain⟨d,-,e,g,-,i,j,l,-⟩:=F;obtain⟨s,t,u,-⟩:=F6;obtain⟨v,w,x,-⟩:=F8;obtain⟨p,q,-⟩:=a6;obtain⟨-,r,-,b,-,c,-,M,-,O,-⟩:=K;replace M:L T 153=(A6 ltT (L T 147)):=M;simp only[AE,AI,zN,zR,zL,zS] at d e g i j l s t u v w x p q r b c O;have k:Hr (I T 2) (I T 3)=0↔¬B T 57=true:=by
   rw[Rp,j,g,d,e,i,or_assoc]
  have Q:Hr (I T 2) (I T 3)=0->L T 110=NQ ((L T 0)) (Mi ((L T 0)) ((L T 1))) (I T 2) (I T 3):=fun V=>by
   have y:=l.2 (by simpa using k.1 V);have A:¬B T 63=true:=fun h=>bs (t.2 ⟨y,h⟩);have z:=u.2 ⟨y,by simpa using A⟩;have C:¬B T 76=true:=fun h=>bt (w.2 ⟨z,h⟩);have P:=x.2 ⟨z,by simpa using C⟩;have W:¬B T 111=true:=fun h=>bx (q.2 ⟨P,h⟩);obtain⟨p1,p2,X⟩:=bi;obtain⟨q1,q2,Y,Z⟩:=bj;obtain⟨t1,t2,t3⟩:=bl;have cj:¬I T 61 < I T 9:=fun h=>A (s.2 h);have cl:¬I T 73 < I T 71:=fun h=>C (v.2 h);have ci:¬I T 109 < I T 108:=fun h=>W (p.2 h);have ag:(L T 75)=gA ((L T 25)) (I T 2) (I T 3):=by rw[Z,show (I T 73).toNat=((L T 25)).length by omega];rfl
   have ad:(L T 62)=st0 ((L T 0)):=by
    rw[X,show (I T 61).toNat=((L T 8)).length by omega,show (I T 9).toNat=((L T 8)).length by omega,h8];rfl
   rw[t3,show (I T 109).toNat=((L T 75)).length by omega,Y,show (I T 73).toNat=((L T 25)).length by omega,ag,ad,bb,ba];rfl
  unfold Un;by_cases a:(B T 57)=true
  .rw[vA (fun h=>k.1 h a),O,vC (c.2 (by rw[b,vC a];decide))]
  .rw[vC (k.2 a),O,vA (fun h=>(c.1 h) (by rw[b,vA a])),M,r,vA a,Q (k.2 a)]
 .obtain⟨d,-,e,g,-,i,j,-⟩:=F;obtain⟨-,-,-,b,-,c,-,-,N,-⟩:=K;simp only[AE,AI,zR,zL,zS] at d e g i j b c N;have k:Hr (I T 2) (I T 3)=0↔¬B T 57=true:=by
   rw[Rp,j,g,d,e,i,or_assoc]
  by_cases a:(B T 57)=true
  .rw[N,vC (c.2 (by rw[b,vC a];decide)),b,vC a];have:Hr (I T 2) (I T 3)≠0:=fun h=>k.1 h a;unfold Hr at this⊢;split at this
   .rename_i h;rw[vC h]
   .exact absurd rfl this
  .rw[N,vA (fun h=>(c.1 h) (by rw[b,vA a])),k.2 a]
 .obtain⟨d,-,e,g,-,i,j,l,-⟩:=F;obtain⟨s,t,u,-⟩:=F6;obtain⟨v,w,x,-⟩:=F8;obtain⟨p,q,-⟩:=a6;obtain⟨-,r,-,b,-,c,a9,-⟩:=K;simp only[AE,AI,zN,zR,zL,zS] at d e g i j l s t u v w x p q r b c a9;have k:Hr (I T 2) (I T 3)=0↔¬B T 57=true:=by
   rw[Rp,j,g,d,e,i,or_assoc]
  have Q:Hr (I T 2) (I T 3)=0->L T 110=NQ ((L T 0)) (Mi ((L T 0)) ((L T 1))) (I T 2) (I T 3):=fun V=>by
   have y:=l.2 (by simpa using k.1 V);have A:¬B T 63=true:=fun h=>bs (t.2 ⟨y,h⟩);have z:=u.2 ⟨y,by simpa using A⟩;have C:¬B T 76=true:=fun h=>bt (w.2 ⟨z,h⟩);have P:=x.2 ⟨z,by simpa using C⟩;have W:¬B T 111=true:=fun h=>bx (q.2 ⟨P,h⟩);obtain⟨p1,p2,X⟩:=bi;obtain⟨q1,q2,Y,Z⟩:=bj;obtain⟨t1,t2,t3⟩:=bl;have cj:¬I T 61 < I T 9:=fun h=>A (s.2 h);have cl:¬I T 73 < I T 71:=fun h=>C (v.2 h);have ci:¬I T 109 < I T 108:=fun h=>W (p.2 h);have ag:(L T 75)=gA ((L T 25)) (I T 2) (I T 3):=by rw[Z,show (I T 73).toNat=((L T 25)).length by omega];rfl
   have ad:(L T 62)=st0 ((L T 0)):=by
    rw[X,show (I T 61).toNat=((L T 8)).length by omega,show (I T 9).toNat=((L T 8)).length by omega,h8];rfl
   rw[t3,show (I T 109).toNat=((L T 75)).length by omega,Y,show (I T 73).toNat=((L T 25)).length by omega,ag,ad,bb,ba];rfl
  intro hp;have b7:¬(I T 149)≠0:=fun h=>by have:=a9.1 hp;rw[c.2 h] at this;cases this
  have bm:¬B T 57=true:=fun h=>b7 (by rw[b,vC h];decide);rw[r,vA bm,Q (k.2 bm)];show (NQ _ _ _ _).length<=20;rw[lL];exact cb.1.1
 .obtain⟨-,-,H,-,e8,e9,-⟩:=J;obtain⟨d,-,e,g,-,i,j,l,-⟩:=F;simp only[AE,AI,zR,zL,zS] at H e8 e9 d e g i j l;grind (splits:=100)
 .obtain⟨-,-,-,-,-,-,-,b1,-⟩:=J;obtain⟨b2,b3,-⟩:=F1;simp only[AE,AI,zR,zL] at b1 b2 b3;grind (splits:=100)
 .obtain⟨-,-,H,-⟩:=J;simp only[AE,zR,zL,zS] at H;have h6:((L T 6)).length=0:=by rw[H];rfl
  omega
 .first|(rfl)|(grind (splits:=100))
 .first|(rfl)|(grind (splits:=100))
theorem oR:Ae Try.prog 30 Ef:=by
 refine Nj L9 (l:=[(41,QR),(47,Pi),(65,FQ),(71,M6)]) BU (by simp only[uA];exact⟨fb,gq,ZT,ph,fun _ h=>absurd h (by simp)⟩) px (by kernel_rfl) fun T us a8 Q y i bi a=>?_;change us.length=4 at y;obtain⟨⟨k,b8⟩,⟨o,ca⟩,-⟩:=bi;replace k:(L T 0).length<=140737488355328:=k;replace o:(L T 1).length<=140737488355328:=o;have a4:aL us 0=L T 0:=inL Q y (by decide);have a5:aL us 1=L T 1:=inL Q y (by decide);have a6:aI us 2=I T 2:=inI Q y (by decide);have a7:aI us 3=I T 3:=inI Q y (by decide);have p:(((L T 0)).length<=20/\((L T 1)).length<=20)/\Br (L T 0)=0/\AO (L T 1)=0:=by
  have h:=a8 (.s "Table.p0",JP) (by simp[Ef]);change JP us at h;unfold JP at h;simp only[a4,a5] at h;exact h
 clear a8;rw[ti,ti,ti,ti,ti,ti,ti,ti,ti,ti,ti,ti,ti,ti,ti] at a;have d:=a.left;replace a:=a.right;have e:=a.left;replace a:=a.right;have b:=a.left;replace a:=a.right;obtain⟨q,c⟩:=AN i (by kernel_rfl) d;obtain⟨s,r⟩:=fp k o p q;obtain⟨bs,g,z,A⟩:=km p s r c b e;have j:=(AN (g.append c) (l:=B6) (by kernel_rfl) b);obtain⟨u,i⟩:=j;clear d b e c g;have d:=a.left;replace a:=a.right;have e:=a.left;replace a:=a.right;have b:=a.left;replace a:=a.right;obtain⟨t,c⟩:=AN i (by kernel_rfl) d;obtain⟨w,x,K,v,H,J,O⟩:=fD k o p s r z A q u t;obtain⟨bt,g,V,W⟩:=hY w x v c b e;have j:=(AN (g.append c) (l:=CZ) (by kernel_rfl) b);obtain⟨D,i⟩:=j;clear d b e c g;have d:=a.left;replace a:=a.right;have e:=a.left;replace a:=a.right;have b:=a.left;replace a:=a.right;obtain⟨C,c⟩:=AN i (by kernel_rfl) d;obtain⟨P,N,E,M,ab⟩:=gH k o p s r z A w x K v H J O V W q u t D C;obtain⟨bx,g,al,ao⟩:=jQ P N E M c b e;have j:=(AN (g.append c) (l:=DM) (by kernel_rfl) b);obtain⟨Y,i⟩:=j;clear d b e c g;have d:=a.left;replace a:=a.right;have e:=a.left;replace a:=a.right;have b:=a.left;replace a:=a.right;obtain⟨X,c⟩:=AN i (by kernel_rfl) d;obtain⟨ad,ag,F,Z⟩:=fh k o p s r z A w x K v H J O V W P N E M ab al ao q u t D C Y X;obtain⟨b0,g,a9,ba⟩:=lP ad ag F Z c b e;have j:=(AN (g.append c) (l:=ED) (by kernel_rfl) b);obtain⟨B3,i⟩:=j;clear d b e c g;have d:=a.left;replace a:=a.right;have e:=a.left;replace a:=a.right;have b:=a.left;replace a:=a.right;obtain⟨A4,c⟩:=AN i (by kernel_rfl) d;obtain⟨a3,a2⟩:=gZ k o p s r z A w x K v H J O V W P N E M ab al ao ad ag F Z a9 ba q u t D C Y X B3 A4;obtain⟨b1,g,bl,bm⟩:=jk F a3 a2 c b e;have j:=(AN (g.append c) (l:=Fv) (by kernel_rfl) b);obtain⟨B4,i⟩:=j;clear d b e c g;obtain⟨A5,hO⟩:=At (R:=[.l,.i]) (rs:=cC) i (by kernel_rfl) a;obtain⟨q0,q1,r0,ax,aE,r3,r4,r5⟩:=pz k o p s r z A w x K v H J O V W P N E M ab al ao ad ag F Z a9 ba a3 a2 bl bm q u t D C Y X B3 A4 B4 A5;refine⟨⟨r0,(fun _=>b1),(fun _=>b0),(fun _=>bx),ax,(fun _=>bt),aE,(fun _=>bs),(fun _=>r3),(fun _=>r4),(fun _=>r5),trivial⟩,hO.trans ?_⟩;exact (lc (by show U.list (L T 155)= .list (MC us);unfold MC;rw[a4,a5,a6,a7];exact vD U.list q0) (lc (by show U.int (I T 154)= .int (MG us);unfold MG;rw[a6,a7];exact vD U.int q1) rfl))
def JS:List U->Bool:=fun us=>(true)
def Na:AZ:={ sh:=[],blks:=[],outs:=[(.s "works.0",JM JS)],c:= .b 0,m':=[],pre:=[] }
def bg:List En:=[⟨0,.row 3 3 [.s,.i,.i,.s,.i,.i,.s,.i,.i],[.c (.str ⟨#[97,110,110]⟩),.c (.int 2000),.c (.int 0),.c (.str ⟨#[98,111,98]⟩),.c (.int 1500),.c (.int 10),.c (.str ⟨#[99,97,116]⟩),.c (.int 1000),.c (.int 20)]⟩,
 ⟨1,.id .i,[.c (.int 1)]⟩,
 vm 2 0 1,
 vP 3 0 1,
 vR 4 0 1,
 ⟨5,.id .i,[.c (.int 0)]⟩,
 vm 6 0 5,
 vP 7 0 5,
 vR 8 0 5,
 ⟨9,.outS "Count.0" L4,[.e 2,.e 3,.e 4,.e 6,.e 7,.e 8,.c (.bool true)]⟩,
 ⟨10,.outI "Count.1" MS,[.e 2,.e 3,.e 4,.e 6,.e 7,.e 8,.c (.bool true)]⟩,
 ⟨11,.outI "Count.2" MI,[.e 2,.e 3,.e 4,.e 6,.e 7,.e 8,.c (.bool true)]⟩,
 ⟨12,.outS "Count.3" Mc,[.e 2,.e 3,.e 4,.e 6,.e 7,.e 8,.c (.bool true)]⟩,
 ⟨13,.outI "Count.4" MR,[.e 2,.e 3,.e 4,.e 6,.e 7,.e 8,.c (.bool true)]⟩,
 ⟨14,.outI "Count.5" L2,[.e 2,.e 3,.e 4,.e 6,.e 7,.e 8,.c (.bool true)]⟩,
 ⟨15,.outI "Count.6" MZ,[.e 2,.e 3,.e 4,.e 6,.e 7,.e 8,.c (.bool true)]⟩]
def ay:List En:=[⟨16,.row 3 9 [.i,.i,.i,.b,.s,.s,.b,.i,.i,.i,.i,.i,.b,.s,.s,.b,.i,.i,.i,.i,.i,.b,.s,.s,.b,.i,.i],[.c (.int 1),.c (.int 0),.c (.int 5),.c (.bool false),.c (.str ⟨#[97,110,110]⟩),.c (.str ⟨#[98,111,98]⟩),.c (.bool true),.c (.int 26),.c (.int 20),.c (.int 2),.c (.int 0),.c (.int 6),.c (.bool false),.c (.str ⟨#[98,111,98]⟩),.c (.str ⟨#[99,97,116]⟩),.c (.bool true),.c (.int 26),.c (.int 3),.c (.int 3),.c (.int 0),.c (.int 7),.c (.bool false),.c (.str ⟨#[99,97,116]⟩),.c (.str ⟨#[97,110,110]⟩),.c (.bool true),.c (.int 26),.c (.int 25)]⟩,
 ⟨17,.outL "Table.0" MC,[.e 0,.e 16,.c (.int 0),.c (.int 100)]⟩,
 ⟨18,.outI "Table.1" MG,[.e 0,.e 16,.c (.int 0),.c (.int 100)]⟩,
 vg 19 15 18,
 ⟨20,.eq,[.e 19,.c (.int 0)]⟩,
 vh 21 20,
 ⟨22,.eqs [.s,.i,.i],[.e 9,.c (.str ⟨#[98,111,98]⟩),.e 10,.c (.int 1514),.e 11,.c (.int 10)]⟩,
 vK 23 20 22,
 vh 24 23,
 ⟨25,.eqs [.s,.i,.i],[.e 12,.c (.str ⟨#[97,110,110]⟩),.e 13,.c (.int 1986),.e 14,.c (.int 0)]⟩,
 vK 26 23 25,
 vh 27 26,
 vT 28 17,
 ⟨29,.eq,[.e 28,.c (.int 3)]⟩,
 vK 30 26 29,
 vh 31 30]
def bX:List En:=[⟨32,.id .i,[.c (.int 0)]⟩,
 vm 33 17 32,
 vP 34 17 32,
 vR 35 17 32,
 ⟨36,.get .i 3,[.e 17,.e 32]⟩,
 ⟨37,.get .i 4,[.e 17,.e 32]⟩,
 ⟨38,.get .i 5,[.e 17,.e 32]⟩,
 ⟨39,.eqs [.s,.i,.i,.i,.i,.i],[.e 33,.c (.str ⟨#[98,111,98]⟩),.e 34,.c (.int 1),.e 35,.c (.int 1),.e 36,.c (.int 1),.e 37,.c (.int 17),.e 38,.c (.int 1)]⟩,
 vK 40 30 39]
def VV:List En:=bg++(ay++(bX))
def qB:List ObE:=[⟨some 31,.inl,[.c (.int 0),.e 17]⟩,
 ⟨none,.pre "Table.p0" JP,[.e 0,.e 16,.c (.int 0),.c (.int 100)]⟩,
 ⟨none,.inl,[.c (.int 0),.e 0]⟩,
 ⟨none,.inl,[.c (.int 1),.e 0]⟩]
def cq:List Rf:=[.e 40]
theorem qD:Na.sees cq (Na.run Try.prog [(16,M9),(30,Ef)] Aa 3000 20 15)=some ((VV).map En.be,qB.map ObE.be,[]):=by kernel_rfl
theorem qh (e:AF T VV):
  ((B T 40)=(true))/\
  (B T 31=true->0<=(0:Int)/\(0:Int) < ((L T 17)).length)/\
  ((((L T 0)).length<=20/\((L T 16)).length<=20)/\Br (L T 0)=0/\AO (L T 16)=0)/\
  (0<=(0:Int)/\(0:Int) < ((L T 0)).length)/\
  (0<=(1:Int)/\(1:Int) < ((L T 0)).length):=by
 obtain⟨t,e⟩:=e.cut;obtain⟨u,e⟩:=e.cut;have F2:=e;clear e;have x2:((S T 2)=Uk/\I T 3=1500/\I T 4=10)/\S T 6=Zn/\I T 7=2000/\I T 8=0:=by
  obtain⟨a,p,F,Q,Y,r,e6,e7,e8,-⟩:=t;simp only[AE,AI,zR,zL,zS,uR,Bh,zW] at a p F Q Y r e6 e7 e8;refine⟨⟨?_,?_,?_⟩,?_,?_,?_⟩
  .rw[F,p,a];rfl
  .rw[Q,p,a];rfl
  .rw[Y,p,a];rfl
  .rw[e6,r,a];rfl
  .rw[e7,r,a];rfl
  .rw[e8,r,a];rfl
 have o:(L T 0)=oD/\L T 16=mm:=by
  obtain⟨a,-⟩:=t;obtain⟨D,-⟩:=u;simp only[AE,zC,zR,zL,zS,uR,Bh,zW] at a D;exact⟨by rw[a];rfl,by rw[D];rfl⟩
 refine⟨?_,?_,?_,?_,?_⟩
 .obtain⟨-,-,-,-,-,-,-,-,-,l,g,h,i,j,k,q,-⟩:=t;obtain⟨-,b,v,E,H,-,J,K,-,M,N,-,O,P,V,-⟩:=u;obtain⟨W,w,x,y,z,A,C,X,Z,-⟩:=F2;replace l:S T 9=(if Ba (S T 2) (I T 3) (I T 4) (S T 6) (I T 7) (I T 8)=0 then (S T 2) else (⟨#[]⟩:ByteArray)):=l;replace g:I T 10=(if Ba (S T 2) (I T 3) (I T 4) (S T 6) (I T 7) (I T 8)=0 then Bz (I T 3) (B5 (I T 3) (I T 7) true) else 0):=g;replace h:I T 11=(if Ba (S T 2) (I T 3) (I T 4) (S T 6) (I T 7) (I T 8)=0 then GG (Bz (I T 3) (B5 (I T 3) (I T 7) true)) (I T 4) else 0):=h;replace i:S T 12=(if Ba (S T 2) (I T 3) (I T 4) (S T 6) (I T 7) (I T 8)=0 then (S T 6) else (⟨#[]⟩:ByteArray)):=i;replace j:I T 13=(if Ba (S T 2) (I T 3) (I T 4) (S T 6) (I T 7) (I T 8)=0 then Bz (I T 7) (-(B5 (I T 3) (I T 7) true)) else 0):=j;replace k:I T 14=(if Ba (S T 2) (I T 3) (I T 4) (S T 6) (I T 7) (I T 8)=0 then GG (Bz (I T 7) (-(B5 (I T 3) (I T 7) true))) (I T 8) else 0):=k;replace q:I T 15=(Ba (S T 2) (I T 3) (I T 4) (S T 6) (I T 7) (I T 8)):=q;replace b:L T 17=(Un (L T 0) (L T 16) (0:Int) (100:Int)):=b;replace v:I T 18=(Hr (0:Int) (100:Int)):=v;simp only[AE,AI,zR,DU,and_true,w2P,zL,zS] at E H J K M N O P V W w x y z A C X Z;obtain⟨⟨q2,q3,q4⟩,q6,q7,q8⟩:=x2;obtain⟨c,d⟩:=o;rw[q2,q3,q4,q6,q7,q8] at l g h i j k q;rw[vC dQ] at l g h i j k;rw[c,d] at b;have s:(L T 17)=KY:=b;have bs:(I T 18)=0:=v.trans rZ;have bm:(I T 15)=0:=q.trans dQ;have bl:=E (by omega) (by omega);have ao:=H.2 (by omega);have a0:=J.2 ⟨l,g.trans ex_i,h.trans ex_g⟩;have a1:=M.2 ⟨i,j.trans ex_j,k.trans ex_h⟩;have a2:(I T 28)=3:=by rw[O,s,js];rfl
  have a3:=V.2 ⟨N.2 ⟨K.2 ⟨ao,a0⟩,a1⟩,P.2 a2⟩;rw[s,W] at w x y z A C;obtain⟨r0,ax,aE,r3,r4,r5⟩:=sZ;exact Z.2 ⟨a3,X.2 ⟨w.trans r0,x.trans ax,y.trans aE,z.trans r3,A.trans r4,C.trans r5⟩⟩
 .obtain⟨-,b,-⟩:=u;replace b:L T 17=(Un (L T 0) (L T 16) (0:Int) (100:Int)):=b;obtain⟨c,d⟩:=o;rw[c,d] at b;have s:(L T 17)=KY:=b;intro _;rw[s,js];decide
 .obtain⟨c,d⟩:=o;rw[c,d];exact⟨⟨by decide,by decide⟩,gQ,iK⟩
 .obtain⟨c,d⟩:=o;rw[c];decide
 .obtain⟨c,d⟩:=o;rw[c];decide
theorem mU:Ae Try.prog 15 Na:=by
 refine Aq (l:=[(16,M9),(30,Ef)]) BU (by simp only[uA];exact⟨nW,oR,fun _ h=>absurd h (by simp)⟩) qD (by kernel_rfl) fun T us g p i e b c=>?_;change us.length=0 at i;clear b;clear g
 skip
 obtain⟨a,d⟩:=At (R:=[.b]) (rs:=cq) e (by kernel_rfl) c;obtain⟨j,k,ax,aE,o⟩:=qh a;refine⟨⟨k,(fun _=>ax),(fun _=>aE),(fun _=>o),trivial⟩,d.trans ?_⟩;exact (lc (by show U.bool (B T 40)= .bool (JS us);unfold JS;exact vD U.bool j) rfl)
def K4:List Kd:=[.list [k64,k64,k64,.bool,.str,.str,.bool,k64,k64],.list [k64,k64,k64,.bool,.str,.str,.bool,k64,k64]]
def V5:List AC:=((Jj Try.prog 9 Try.f11.params.toList 0).map (·.1)).getD []
def XV:List En:=[⟨2,.outB "long.0" LG,[.c (.list []),.e 0,.c (.int 40)]⟩,
 vQ 3 2,
 ⟨4,.outB "long.0" LG,[.c (.list []),.e 1,.c (.int 40)]⟩,
 vN 5 2 4,
 ⟨6,.outB "works.0" JS,[]⟩,
 vQ 7 5]
def KX:List En:=XV
def Xm:List En:=[vT 9 0,
 vO 10 8 9,
 vK 11 7 10,
 vM 12 7 10,
 vU 13 0 8,
 vP 14 0 8,
 vR 15 0 8,
 vX 16 0 8,
 vV 17 0 8,
 vW 18 0 8,
 vY 19 0 8,
 vZ 20 0 8,
 vd 21 0 8,
 ⟨22,.outI "checkSh.0" Gh,[.e 13,.e 14,.e 15,.e 16,.e 17,.e 18,.e 19,.e 20,.e 21]⟩,
 vU 23 0 8,
 vP 24 0 8]
def Yp:List En:=[vR 25 0 8,
 vX 26 0 8,
 vV 27 0 8,
 vW 28 0 8,
 vY 29 0 8,
 vZ 30 0 8,
 vd 31 0 8,
 ⟨32,.outI "rCheckSh.0" Fq,[.e 23,.e 24,.e 25,.e 26,.e 27,.e 28,.e 29,.e 30,.e 31]⟩,
 ⟨33,.ne,[.e 22,.e 32]⟩,
 vK 34 11 33,
 vM 35 11 33,
 ⟨36,.w2 .i64 .add,[.e 8,.c (.int 1)]⟩]
def EC:List En:=Xm++(Yp)
def Tm:List ObE:=[⟨some 11,.inl,[.e 8,.e 0]⟩,⟨some 11,.inl,[.e 8,.e 0]⟩]
def H4:Ac:=mkD 8 1 EC 35 [.e 36] Tm [0,7]
def Jy:List Rf:=[.e 0,.e 7,.c (.int 0)]
def Yv:List En:=[⟨37,.outL "Merge.0" MA,[.e 0,.e 1]⟩,
 ⟨38,.outI "Merge.1" L3,[.e 0,.e 1]⟩,
 ⟨39,.outL "rMerge.0" KL,[.e 0,.e 1]⟩,
 ⟨40,.outI "rMerge.1" KH,[.e 0,.e 1]⟩,
 ⟨41,.outL "Books.0" Lz,[.e 0]⟩,
 ⟨42,.outI "Books.1" MD,[.e 0]⟩,
 ⟨43,.outL "rBooks.0" J0,[.e 0]⟩,
 ⟨44,.outI "rBooks.1" KZ,[.e 0]⟩,
 ⟨45,.outI "checkL.0" Et,[.e 0]⟩,
 ⟨46,.outI "rCheckL.0" Cb,[.e 0]⟩,
 ⟨47,.eq,[.e 45,.e 46]⟩,
 vK 48 12 47,
 ⟨49,.eq,[.e 38,.e 40]⟩,
 vK 50 47 49,
 vK 51 12 50,
 ⟨52,.outB "sameSh.0" Hu,[.e 37,.e 39]⟩]
def YY:List En:=[vK 53 50 52,
 vK 54 12 53,
 ⟨55,.eq,[.e 42,.e 44]⟩,
 vK 56 53 55,
 vK 57 12 56,
 ⟨58,.outB "sameSh.0" Hu,[.e 41,.e 43]⟩,
 vK 59 56 58,
 vK 60 12 59,
 ⟨61,.outB "works.0" JS,[]⟩,
 vK 62 59 61,
 ⟨63,.ite .b,[.e 34,.c (.bool false),.e 62]⟩,
 vN 64 34 12,
 vn 65 5 6 63,
 vN 66 5 64]
def Nu:List En:=Yv++(YY)
def Yr:List ObE:=[⟨some 12,.pre "Books.p0" Jm,[.e 0]⟩,
 ⟨some 7,.owes H4,[.e 0,.e 7,.c (.int 0)]⟩]
def o9:List Rf:=[.e 65]
theorem nN:gJ 2 (ig Try.prog [(19,Li),(43,Fj),(22,Ey),(44,Kr),(45,Ew),(23,Ks),(46,Ll),(47,Dy),(21,Di),(25,Is),(15,Na)] Aa 3000 20 11 V5 2)=some (65,(KX++((Ag H4 [.i] Jy)++(EC++(Nu)))).map En.be,Yr.map ObE.be):=by kernel_rfl
theorem gN (K:(L T 0).length<=1048576)(r:AJ T (AM (Ak 0 K4) KX))(p:AU T (EC.map En.be))(q:AU T ((Ag H4 [.i] Jy).map En.be)):
  (H4).owes (Jy.map (Rf.eval T))/\AJ T (hds 8 [.i])/\(0<=I T 8/\I T 8<=((L T 0)).length)/\¬B T 35=true:=by
 refine Ax (nh:=8) (k:=1) (pcn:=35) (aO:=37) (y:=EC) (J:=Tm) (nxt:=[.e 36]) (H:=[.c (.int 0)]) (fv:=[0,7]) (R:=[.i]) (by kernel_rfl) rfl rfl rfl rfl r (by kernel_rfl) (by kernel_rfl) p (Ai q) (fun s=>0<=(aI s 0)/\(aI s 0)<=((L T 0)).length) (fun s=>(((L T 0)).length - (aI s 0)).toNat) ?_ ?_
 .show 0<=(0:Int)/\(0:Int)<=((L T 0)).length;clear r p q;exact⟨uf _,by omega⟩
 .intro A t h i;replace i:0<=I A 8/\I A 8<=((L T 0)).length:=i;clear r p q;replace h:AF A EC:=h;obtain⟨o,h⟩:=h.cut;have w:=h;clear h;have g:L A 0=L T 0:=fvL (t 0 (by decide));have F:B A 7=B T 7:=fvB (t 7 (by decide));clear t
  suffices x:(B A 11=true->0<=I A 8/\I A 8 < ((L A 0)).length)/\(B A 11=true->0<=I A 8/\I A 8 < ((L A 0)).length)/\(B A 35=true->(0<=I A 36/\I A 36<=((L T 0)).length))/\(B A 35=true->(((L T 0)).length - (I A 36)).toNat < (((L T 0)).length - (I A 8)).toNat) from
   let⟨D,ax,C,z⟩:=x;⟨⟨D,ax,trivial⟩,fun d=>⟨C d,z d⟩⟩
  refine⟨?_,?_,?_,?_⟩
  .obtain⟨c,a,b,-⟩:=o;simp only[AE,AI,zR,zL] at c a b;obtain⟨u,v⟩:=i;intro d;have e:=a.1 (b.1 d).2;rw[c,g] at e;rw[g];omega
  .obtain⟨c,a,b,-⟩:=o;simp only[AE,AI,zR,zL] at c a b;obtain⟨u,v⟩:=i;intro d;have e:=a.1 (b.1 d).2;rw[c,g] at e;rw[g];omega
  .obtain⟨c,a,b,-⟩:=o;obtain⟨-,-,-,-,-,-,-,-,-,-,j,l,-⟩:=w;simp only[AE,AI,zN,zR,w2P,zL] at c a b j l;obtain⟨u,v⟩:=i;intro d;have e:=a.1 (b.1 (j.1 d).1).2;rw[c,g] at e;have E:=l (by omega) (by omega);omega
  .obtain⟨c,a,b,-⟩:=o;obtain⟨-,-,-,-,-,-,-,-,-,-,j,l,-⟩:=w;simp only[AE,AI,zN,zR,w2P,zL] at c a b j l;obtain⟨u,v⟩:=i;intro d;have e:=a.1 (b.1 (j.1 d).1).2;rw[c,g] at e;have E:=l (by omega) (by omega);omega
theorem l8 (b7:xD T)(b8:xE T)(b5:(L T 0).length<=1048576)(b6:(L T 1).length<=1048576)(ca:0<=I T 8/\I T 8<=((L T 0)).length)(cc:¬B T 35=true)(A:AF T KX)(d:AF T EC)(c:AF T Nu):
  ((B T 65)=(true))/\
  (B T 12=true->((L T 0)).length<=40\/200 < ((L T 0)).length):=by
 have C:=A;clear A;obtain⟨D,d⟩:=d.cut;have F2:=d;clear d;obtain⟨F3,c⟩:=c.cut;have F4:=c;clear c;refine⟨?_,?_⟩
 .obtain⟨-,-,-,-,y,-⟩:=C;obtain⟨-,-,-,-,F,H,J,-,K,M,-,N,P,e,Q,V,-⟩:=D;obtain⟨W,-,X,Y,-,Z,ab,g,ad,j,-⟩:=F2;obtain⟨k,l,o,p,q,r,s,t,u,v,ag,-,al,a0,-,w,-⟩:=F3;obtain⟨a1,-,a2,a3,-,x,a4,-,z,a5,a6,-,a7,-⟩:=F4;replace y:B T 6=(true):=y;replace e:I T 22=(Eh (I T 13) (I T 14) (I T 15) (S T 17) (S T 18) (I T 20) (I T 21)):=e;replace g:I T 32=(Eh (I T 23) (I T 24) (I T 25) (S T 27) (S T 28) (I T 30) (I T 31)):=g;replace k:L T 37=(Ji (L T 0) (L T 1)):=k;replace l:I T 38=(Fr (L T 0) (L T 1)):=l;replace o:L T 39=(Ji (L T 0) (L T 1)):=o;replace p:I T 40=(Fr (L T 0) (L T 1)):=p;replace q:L T 41=(if AO (L T 0)=0 then Bi (L T 0) else []):=q;replace r:I T 42=(AO (L T 0)):=r;replace s:L T 43=(if AO (L T 0)=0 then Bi (L T 0) else []):=s;replace t:I T 44=(AO (L T 0)):=t;replace u:I T 45=(AO (L T 0)):=u;replace v:I T 46=(AO (L T 0)):=v;replace w:B T 52=(J6 (L T 37) (L T 39)):=w;replace x:B T 58=(J6 (L T 41) (L T 43)):=x;replace z:B T 61=(true):=z;simp only[AE,AI,zC,zR,zL,zS] at F H J K M N P Q V W X Y Z ab ad j ag al a0 a1 a2 a3 a4 a5 a6 a7;have ce:=e;have cf:=g;have ba:¬B T 33=true:=fun h=>(ad.1 h) (by rw[e,g,F,H,J,K,M,N,P,Q,V,W,X,Y,Z,ab]);have cb:(B T 34)=false:=Bool.eq_false_iff.2 fun h=>ba (j.1 h).2;have h6:=y;have b0:=z;have bj:=ag.2 (by rw[u,v]);have bl:=al.2 (by rw[l,p]);have bm:(B T 52)=true:=by rw[w,k,o];exact Sn
  have bs:=a2.2 (by rw[r,t]);have bt:(B T 58)=true:=by rw[x,q,s];exact Sn
  have b1:=a5.2 ⟨a4.2 ⟨a3.2 ⟨a1.2 ⟨a0.2 ⟨bj,bl⟩,bm⟩,bs⟩,bt⟩,b0⟩;refine a7.2 ?_;by_cases h5:(B T 5)=true
  .exact .inl ⟨h5,h6⟩
  .exact .inr ⟨by simpa using h5,a6.2 ⟨fun h=>ba (j.1 h).2,b1⟩⟩
 .obtain⟨i,-,-,e5,-,e7,-⟩:=C;obtain⟨-,-,-,E,-⟩:=D;replace i:B T 2=(Og ([]:List (List U)) (L T 0) (40:Int)):=i;simp only[AE,AI,zN,zR] at e5 e7 E;intro h;have h7:=(E.1 h).1;have n5:¬B T 5=true:=by simpa using e7.1 h7
  have ay:¬Og [] (L T 0) 40=true:=fun a=>n5 (e5.2 (.inl (by rw[i];exact a)));by_cases hl:((L T 0)).length<=40
  .exact .inl hl
  .right;refine Nat.lt_of_not_le fun O=>ay ?_;unfold Og;have a:decide ((40:Int) < ((L T 0)).length)=true:=decide_eq_true (by omega);have b:decide (((L T 0)).length<=200)=true:=decide_eq_true O;simp[a,b]
theorem bF:Jj Try.prog 9 Try.f11.params.toList 0=some (V5,K4):=by kernel_rfl
theorem dh:∀p∈([(19,Li),(43,Fj),(22,Ey),(44,Kr),(45,Ew),(23,Ks),(46,Ll),(47,Dy),(21,Di),(25,Is),(15,Na)]:List (FuncId × AZ)),Ae Try.prog p.1 p.2:=by simp only[uA];exact⟨rB,Tn,RU,mR,jr,oT,jW,Ly,PF,iX,mU,fun _ h=>absurd h (by simp)⟩
theorem lU:∀T:Tab,AJ T (Ak 0 K4)->Bnd T 0 K4->XS 1048576 T 0 K4->AU T ((KX++((Ag H4 [.i] Jy)++(EC++(Nu)))).map En.be)->IQ T Yr/\B T 65=true:=by
 intro T d s t a;obtain⟨⟨h,C⟩,⟨i,D⟩,-⟩:=s;replace h:(L T 0).length<=140737488355328:=h;replace i:(L T 1).length<=140737488355328:=i;obtain⟨b,g,-⟩:=t;replace b:(L T 0).length<=1048576:=b;replace g:(L T 1).length<=1048576:=g;rw[ti,ti,ti] at a;have j:=a.left;replace a:=a.right;have k:=a.left;replace a:=a.right;have c:=a.left;replace a:=a.right;obtain⟨p,e⟩:=AN d (by kernel_rfl) j;obtain⟨x,o,v,w⟩:=gN b e c k;have u:=(AN (o.append e) (l:=EC) (by kernel_rfl) c);obtain⟨r,d⟩:=u;clear j c k e o;obtain⟨q,A⟩:=At (R:=[.b]) (rs:=o9) d (by kernel_rfl) a;obtain⟨y,z⟩:=l8 h i b g v w p r q;exact⟨⟨z,(fun _=>x),trivial⟩,y⟩
end
end Go.Eng
end
