/-
  A part of the proof: K_insBd K_insB.
-/
import Derived.Test.YtikbgnmcfncnaaaE4
import Derived.Test.YtikbgnmcfncnaaaE5
import Derived.Test.YtikbgnmcfncnaaaKcmpB
set_option linter.unusedVariables false
set_option linter.unusedSimpArgs false
noncomputable section
namespace Go.Eng
section
open Go Go.Eng Go.Proofs
set_option maxHeartbeats 4000000
set_option maxRecDepth 100000
def JP:List U->List (List U):=fun us=>(Aw ltB (aL us 0) (aI us 2).toNat (aI us 3).toNat)
def HP:List U->Prop:=fun us=>((aL us 0)).length=(aI us 1)/\0<=(aI us 2)/\(aI us 2)<=(aI us 3)/\(aI us 3)<=(aI us 1)
def FT:AV:={ sh:=[.one (k64),.one (k64),.cst (.fn (.func 101) [] [])],blks:=[],outs:=[(.s "insB.0",Eg JP)],c:= .tup [],m':=[.mrow 4 1 [k64,k64,k64,.bool,.str,.str,.bool,k64,k64] 38],pre:=[(.s "insB.p0",HP)],row:=some ([k64,k64,k64,.bool,.str,.str,.bool,k64,k64],38) }
def eQ:List Rf:=[.e 15,.e 16,.e 17,.e 18,.e 19,.e 20,.e 21,.e 22,.e 23,.e 27,.e 28,.e 29,.e 30,.e 31,.e 32,.e 33,.e 34,.e 35]
def Xb:List En:=[⟨4,.w2 .i64 .add,[.e 2,.c (.int 1)]⟩]
def Fv:List En:=Xb
def VA:List En:=[⟨7,.lt,[.e 5,.e 3]⟩,
 ⟨8,.not,[.e 7]⟩]
def FJ:List En:=VA
def X6:List En:=[⟨11,.lt,[.e 2,.e 9]⟩,
 ⟨12,.and,[.e 7,.e 11]⟩,
 ⟨13,.and,[.e 7,.e 11]⟩,
 ⟨14,.and,[.e 7,.e 11]⟩,
 ⟨15,.get .i 0,[.e 10,.e 9]⟩,
 ⟨16,.get .i 1,[.e 10,.e 9]⟩,
 ⟨17,.get .i 2,[.e 10,.e 9]⟩,
 ⟨18,.get .b 3,[.e 10,.e 9]⟩,
 ⟨19,.get .s 4,[.e 10,.e 9]⟩,
 ⟨20,.get .s 5,[.e 10,.e 9]⟩,
 ⟨21,.get .b 6,[.e 10,.e 9]⟩,
 ⟨22,.get .i 7,[.e 10,.e 9]⟩,
 ⟨23,.get .i 8,[.e 10,.e 9]⟩,
 ⟨24,.and,[.e 7,.e 11]⟩,
 ⟨25,.and,[.e 7,.e 11]⟩,
 ⟨26,.w2 .i64 .sub,[.e 9,.c (.int 1)]⟩]
def YP:List En:=[⟨27,.get .i 0,[.e 10,.e 26]⟩,
 ⟨28,.get .i 1,[.e 10,.e 26]⟩,
 ⟨29,.get .i 2,[.e 10,.e 26]⟩,
 ⟨30,.get .b 3,[.e 10,.e 26]⟩,
 ⟨31,.get .s 4,[.e 10,.e 26]⟩,
 ⟨32,.get .s 5,[.e 10,.e 26]⟩,
 ⟨33,.get .b 6,[.e 10,.e 26]⟩,
 ⟨34,.get .i 7,[.e 10,.e 26]⟩,
 ⟨35,.get .i 8,[.e 10,.e 26]⟩,
 ⟨36,.outI "cmpB.0" Lt,eQ⟩,
 ⟨37,.lt,[.e 36,.c (.int 0)]⟩,
 ⟨38,.and,[.e 11,.e 37]⟩,
 ⟨39,.and,[.e 7,.e 38]⟩,
 ⟨40,.and,[.e 7,.n 38]⟩,
 ⟨41,.w2 .i64 .sub,[.e 9,.c (.int 1)]⟩,
 ⟨42,.w2 .i64 .sub,[.e 9,.c (.int 1)]⟩]
def X7:List En:=[⟨43,.get .i 0,[.e 10,.e 42]⟩,
 ⟨44,.get .i 1,[.e 10,.e 42]⟩,
 ⟨45,.get .i 2,[.e 10,.e 42]⟩,
 ⟨46,.get .b 3,[.e 10,.e 42]⟩,
 ⟨47,.get .s 4,[.e 10,.e 42]⟩,
 ⟨48,.get .s 5,[.e 10,.e 42]⟩,
 ⟨49,.get .b 6,[.e 10,.e 42]⟩,
 ⟨50,.get .i 7,[.e 10,.e 42]⟩,
 ⟨51,.get .i 8,[.e 10,.e 42]⟩,
 ⟨52,.get .i 0,[.e 10,.e 9]⟩,
 ⟨53,.get .i 1,[.e 10,.e 9]⟩,
 ⟨54,.get .i 2,[.e 10,.e 9]⟩,
 ⟨55,.get .b 3,[.e 10,.e 9]⟩,
 ⟨56,.get .s 4,[.e 10,.e 9]⟩,
 ⟨57,.get .s 5,[.e 10,.e 9]⟩,
 ⟨58,.get .b 6,[.e 10,.e 9]⟩]
def Yn:List En:=[⟨59,.get .i 7,[.e 10,.e 9]⟩,
 ⟨60,.get .i 8,[.e 10,.e 9]⟩,
 ⟨61,.rset 0 [.i,.i,.i,.b,.s,.s,.b,.i,.i],[.e 10,.e 9,.e 43,.e 44,.e 45,.e 46,.e 47,.e 48,.e 49,.e 50,.e 51]⟩,
 ⟨62,.rset 0 [.i,.i,.i,.b,.s,.s,.b,.i,.i],[.e 61,.e 41,.e 52,.e 53,.e 54,.e 55,.e 56,.e 57,.e 58,.e 59,.e 60]⟩,
 ⟨63,.w2 .i64 .sub,[.e 9,.c (.int 1)]⟩]
def D7:List En:=X6++(YP++(X7++(Yn)))
def Uw:List ObE:=[⟨some 39,.inr,[.e 41,.e 1]⟩,⟨some 39,.inr,[.e 9,.e 1]⟩,⟨some 39,.inr,[.e 9,.e 1]⟩,⟨some 39,.inr,[.e 42,.e 1]⟩,⟨some 25,.inr,[.e 26,.e 1]⟩,⟨some 14,.inr,[.e 9,.e 1]⟩]
def JG:Ag:=mkD 9 2 D7 39 [.e 63,.e 62] Uw [7,2,1]
def MK:List Rf:=[.e 7,.e 2,.e 1,.e 5,.e 6]
def Up:List En:=[⟨64,.w2 .i64 .add,[.e 5,.c (.int 1)]⟩]
def IY:List En:=Up
def HS:List En:=FJ++((BS JG [.i,.l] MK)++(D7++(IY)))
def Vp:List ObE:=[⟨some 7,.owes JG,[.e 7,.e 2,.e 1,.e 5,.e 6]⟩]
def Lc:Ag:=mkD 5 2 HS 40 [.e 64,.e 10] Vp [2,1,3]
def Ou:List Rf:=[.e 2,.e 1,.e 3,.e 4,.e 0]
def co:List En:=[]
def iA:List ObE:=[⟨none,.owes Lc,[.e 2,.e 1,.e 3,.e 4,.e 0]⟩]
def bJ:List Rf:=[.e 6]
theorem hY:FT.sees bJ (FT.run Try.prog [(101,My)] AW 3000 20 144)=some ((Fv++((BS Lc [.i,.l] Ou)++(HS++(co)))).map En.be,iA.map ObE.be,[]):=by kernel_rfl
theorem bW {T:Tab}(hl0:(L T 0).length<=140737488355328)(hk0:∀u∈(L T 0),AT AF KB u)(lo1:0<=I T 1)(hi1:I T 1<=140737488355328)(pre0:((L T 0)).length=I T 1/\0<=I T 2/\I T 2<=I T 3/\I T 3<=I T 1)(A0:AH T Fv):
  ((I T 4)=I T 2+1):=by
 have F0:=A0;clear A0;have h4:(I T 4)=I T 2+1:=by
  obtain⟨e4,-⟩:=F0;simp only[AI,zR,w2P] at e4;exact e4 (by omega) (by omega)
 have hi1:(I T 1)<=140737488355328:=by
  omega
 exact h4
theorem aP {T:Tab}(g1:0<=I T 2/\I T 2<=I T 3/\I T 2+1<=I T 5/\((I T 5)<=I T 3\/I T 5=I T 2+1)/\I T 3<=I T 1/\I T 1<=140737488355328)(g2:((L T 6)).length=I T 1/\∀u∈(L T 6),AT AF KB u)(C0_0:AH T FJ):
  ((B T 7)=true->I T 5 < I T 3):=by
 have F0:=C0_0;clear C0_0;have h7:(B T 7)=true->I T 5 < I T 3:=by
  obtain⟨e7,-⟩:=F0;simp only[AI,zR] at e7;exact e7.1
 exact h7
theorem cX {T:Tab}(g1:0<=I T 2/\I T 2<=I T 3/\I T 2+1<=I T 5/\((I T 5)<=I T 3\/I T 5=I T 2+1)/\I T 3<=I T 1/\I T 1<=140737488355328)(g2:((L T 6)).length=I T 1/\∀u∈(L T 6),AT AF KB u)(h7:(B T 7)=true->I T 5 < I T 3)(hS:AK T (Ab (hds 5 [.i,.l]++FQ [2,1,3] (Ab (BK 0 FT.ks) Fv)) FJ))(hB:Ac T (D7.map En.be))(hH:Ac T ((BS JG [.i,.l] MK).map En.be)):
  (JG).owes (MK.map (Rf.eval T))/\AK T (hds 9 [.i,.l])/\((I T 2)<=I T 9/\I T 9<=I T 5/\((B T 7)=true->((L T 10)).length=I T 1/\(∀u∈(L T 10),AT AF KB u)/\L T 10=CE (((L T 6)).take (I T 2).toNat) (((((L T 6)).take (I T 5).toNat).drop (I T 2).toNat).reverse) (((L T 6)).drop ((I T 5).toNat+1)) (((L T 6)).getD (I T 5).toNat []) ((I T 5) - (I T 9)).toNat/\∀q:Nat,(q:Int) < I T 5 - (I T 9)->ltB (((L T 6)).getD (I T 5).toNat []) ((((((L T 6)).take (I T 5).toNat).drop (I T 2).toNat).reverse).getD q [])=true))/\¬B T 39=true:=by
 refine CK (nh:=9) (k:=2) (pcn:=39) (top:=64) (bes:=D7) (bos:=Uw) (nxt:=[.e 63,.e 62]) (inits:=[.e 5,.e 6]) (fv:=[7,2,1]) (tys:=[.i,.l]) (by kernel_rfl) rfl rfl rfl rfl hS (by kernel_rfl) (by kernel_rfl) hB (BV hH) (fun s=>(I T 2)<=(aI s 0)/\(aI s 0)<=I T 5/\((B T 7)=true->((aL s 1)).length=I T 1/\(∀u∈(aL s 1),AT AF KB u)/\(aL s 1)=CE (((L T 6)).take (I T 2).toNat) (((((L T 6)).take (I T 5).toNat).drop (I T 2).toNat).reverse) (((L T 6)).drop ((I T 5).toNat+1)) (((L T 6)).getD (I T 5).toNat []) ((I T 5) - (aI s 0)).toNat/\∀q:Nat,(q:Int) < I T 5 - (aI s 0)->ltB (((L T 6)).getD (I T 5).toNat []) ((((((L T 6)).take (I T 5).toNat).drop (I T 2).toNat).reverse).getD q [])=true)) (fun s=>((aI s 0)).toNat) ?_ ?_
 .show (I T 2)<=I T 5/\I T 5<=I T 5/\((B T 7)=true->((L T 6)).length=I T 1/\(∀u∈(L T 6),AT AF KB u)/\L T 6=CE (((L T 6)).take (I T 2).toNat) (((((L T 6)).take (I T 5).toNat).drop (I T 2).toNat).reverse) (((L T 6)).drop ((I T 5).toNat+1)) (((L T 6)).getD (I T 5).toNat []) ((I T 5) - (I T 5)).toNat/\∀q:Nat,(q:Int) < I T 5 - (I T 5)->ltB (((L T 6)).getD (I T 5).toNat []) ((((((L T 6)).take (I T 5).toNat).drop (I T 2).toNat).reverse).getD q [])=true);clear hS hB hH;refine⟨by omega,Int.le_refl _,fun hb=>?_⟩;have h5:=h7 hb;refine⟨g2.1,g2.2,?_,fun q hq=>absurd hq (by omega)⟩;rw[show ((I T 5) - (I T 5)).toNat=0 by omega,Ta (by omega) (by omega)]
 .intro T2 hfv hF inv;replace inv:(I T 2)<=I T2 9/\I T2 9<=I T 5/\((B T 7)=true->((L T2 10)).length=I T 1/\(∀u∈(L T2 10),AT AF KB u)/\L T2 10=CE (((L T 6)).take (I T 2).toNat) (((((L T 6)).take (I T 5).toNat).drop (I T 2).toNat).reverse) (((L T 6)).drop ((I T 5).toNat+1)) (((L T 6)).getD (I T 5).toNat []) ((I T 5) - (I T2 9)).toNat/\∀q:Nat,(q:Int) < I T 5 - (I T2 9)->ltB (((L T 6)).getD (I T 5).toNat []) ((((((L T 6)).take (I T 5).toNat).drop (I T 2).toNat).reverse).getD q [])=true):=inv;clear hS hB hH;replace hF:AH T2 D7:=hF;obtain⟨F0,hF⟩:=hF.cut;obtain⟨F1,hF⟩:=hF.cut;obtain⟨F2,hF⟩:=hF.cut;have F3:=hF;clear hF;have fv7:B T2 7=B T 7:=fvB (hfv 7 (by decide));have fv2:I T2 2=I T 2:=fvI (hfv 2 (by decide));have fv1:I T2 1=I T 1:=fvI (hfv 1 (by decide));clear hfv
  suffices hz:(B T2 39=true->0<=I T2 41/\I T2 41 < I T2 1)/\(B T2 39=true->0<=I T2 9/\I T2 9 < I T2 1)/\(B T2 39=true->0<=I T2 9/\I T2 9 < I T2 1)/\(B T2 39=true->0<=I T2 42/\I T2 42 < I T2 1)/\(B T2 25=true->0<=I T2 26/\I T2 26 < I T2 1)/\(B T2 14=true->0<=I T2 9/\I T2 9 < I T2 1)/\(B T2 39=true->((I T 2)<=I T2 63/\I T2 63<=I T 5/\((B T 7)=true->((L T2 62)).length=I T 1/\(∀u∈(L T2 62),AT AF KB u)/\L T2 62=CE (((L T 6)).take (I T 2).toNat) (((((L T 6)).take (I T 5).toNat).drop (I T 2).toNat).reverse) (((L T 6)).drop ((I T 5).toNat+1)) (((L T 6)).getD (I T 5).toNat []) ((I T 5) - (I T2 63)).toNat/\∀q:Nat,(q:Int) < I T 5 - (I T2 63)->ltB (((L T 6)).getD (I T 5).toNat []) ((((((L T 6)).take (I T 5).toNat).drop (I T 2).toNat).reverse).getD q [])=true)))/\(B T2 39=true->((I T2 63)).toNat < ((I T2 9)).toNat) from
   let⟨r0,r1,r2,r3,r4,r5,nx,mz⟩:=hz;⟨⟨r0,r1,r2,r3,r4,r5,trivial⟩,fun hp=>⟨nx hp,mz hp⟩⟩
  refine⟨?_,?_,?_,?_,?_,?_,?_,?_⟩
  .obtain⟨e11,-,-,e14,-,-,-,-,-,-,-,-,-,-,e25,e26,-⟩:=F0;obtain⟨-,-,-,-,-,-,-,-,-,-,e37,e38,e39,-,e41,e42,-⟩:=F1;obtain⟨-,-,-,-,e63,-⟩:=F3;simp only[AI,AP,zR,w2P] at e11 e14 e25 e26 e37 e38 e39 e41 e42 e63;obtain⟨v1,v2,v3⟩:=inv;intro hp;have h39:=e39.1 hp;have h11:=e11.1 (e38.1 h39.2).1;rw[fv2] at h11;have hb:(B T 7)=true:=by rw[<-fv7];exact h39.1
   have h5:=h7 hb;have x41:=e41 (by omega) (by omega);have x42:=e42 (by omega) (by omega);rw[fv1];omega
  .obtain⟨e11,-,-,e14,-,-,-,-,-,-,-,-,-,-,e25,e26,-⟩:=F0;obtain⟨-,-,-,-,-,-,-,-,-,-,e37,e38,e39,-,e41,e42,-⟩:=F1;obtain⟨-,-,-,-,e63,-⟩:=F3;simp only[AI,AP,zR,w2P] at e11 e14 e25 e26 e37 e38 e39 e41 e42 e63;obtain⟨v1,v2,v3⟩:=inv;intro hp;have h39:=e39.1 hp;have h11:=e11.1 (e38.1 h39.2).1;rw[fv2] at h11;have hb:(B T 7)=true:=by rw[<-fv7];exact h39.1
   have h5:=h7 hb;have x41:=e41 (by omega) (by omega);have x42:=e42 (by omega) (by omega);rw[fv1];omega
  .obtain⟨e11,-,-,e14,-,-,-,-,-,-,-,-,-,-,e25,e26,-⟩:=F0;obtain⟨-,-,-,-,-,-,-,-,-,-,e37,e38,e39,-,e41,e42,-⟩:=F1;obtain⟨-,-,-,-,e63,-⟩:=F3;simp only[AI,AP,zR,w2P] at e11 e14 e25 e26 e37 e38 e39 e41 e42 e63;obtain⟨v1,v2,v3⟩:=inv;intro hp;have h39:=e39.1 hp;have h11:=e11.1 (e38.1 h39.2).1;rw[fv2] at h11;have hb:(B T 7)=true:=by rw[<-fv7];exact h39.1
   have h5:=h7 hb;have x41:=e41 (by omega) (by omega);have x42:=e42 (by omega) (by omega);rw[fv1];omega
  .obtain⟨e11,-,-,e14,-,-,-,-,-,-,-,-,-,-,e25,e26,-⟩:=F0;obtain⟨-,-,-,-,-,-,-,-,-,-,e37,e38,e39,-,e41,e42,-⟩:=F1;obtain⟨-,-,-,-,e63,-⟩:=F3;simp only[AI,AP,zR,w2P] at e11 e14 e25 e26 e37 e38 e39 e41 e42 e63;obtain⟨v1,v2,v3⟩:=inv;intro hp;have h39:=e39.1 hp;have h11:=e11.1 (e38.1 h39.2).1;rw[fv2] at h11;have hb:(B T 7)=true:=by rw[<-fv7];exact h39.1
   have h5:=h7 hb;have x41:=e41 (by omega) (by omega);have x42:=e42 (by omega) (by omega);rw[fv1];omega
  .obtain⟨e11,-,-,e14,-,-,-,-,-,-,-,-,-,-,e25,e26,-⟩:=F0;obtain⟨-,-,-,-,-,-,-,-,-,-,e37,e38,e39,-,e41,e42,-⟩:=F1;obtain⟨-,-,-,-,e63,-⟩:=F3;simp only[AI,AP,zR,w2P] at e11 e14 e25 e26 e37 e38 e39 e41 e42 e63;obtain⟨v1,v2,v3⟩:=inv;intro hp;have h39:=e25.1 hp;have h11:=e11.1 h39.2;rw[fv2] at h11;have hb:(B T 7)=true:=by rw[<-fv7];exact h39.1
   have h5:=h7 hb;have x26:=e26 (by omega) (by omega);rw[fv1];omega
  .obtain⟨e11,-,-,e14,-,-,-,-,-,-,-,-,-,-,e25,e26,-⟩:=F0;obtain⟨-,-,-,-,-,-,-,-,-,-,e37,e38,e39,-,e41,e42,-⟩:=F1;obtain⟨-,-,-,-,e63,-⟩:=F3;simp only[AI,AP,zR,w2P] at e11 e14 e25 e26 e37 e38 e39 e41 e42 e63;obtain⟨v1,v2,v3⟩:=inv;intro hp;have h39:=e14.1 hp;have h11:=e11.1 h39.2;rw[fv2] at h11;have hb:(B T 7)=true:=by rw[<-fv7];exact h39.1
   have h5:=h7 hb;rw[fv1];omega
  .obtain⟨e11,-,-,-,e15,-,e17,-,-,-,-,-,-,-,-,e26,-⟩:=F0;obtain⟨e27,-,e29,-,-,-,-,-,-,e36,e37,e38,e39,-,e41,e42,-⟩:=F1;obtain⟨e43,e44,e45,e46,e47,e48,e49,e50,e51,e52,e53,e54,e55,e56,e57,e58,-⟩:=F2;obtain⟨e59,e60,e61,e62,e63,-⟩:=F3;replace e36:I T2 36=(if Ba (I T2 17) (I T2 29)=0 then Ba (I T2 15) (I T2 27) else Ba (I T2 17) (I T2 29)):=e36;simp only[AI,AP,zR,w2P,zL,zS,uR,zW,zC] at e11 e15 e17 e26 e27 e29 e37 e38 e39 e41 e42 e43 e44 e45 e46 e47 e48 e49 e50 e51 e52 e53 e54 e55 e56 e57 e58 e59 e60 e61 e62 e63;obtain⟨v1,v2,v3⟩:=inv;intro hp;have h39:=e39.1 hp;have h38:=e38.1 h39.2;have h11:=e11.1 h38.1;rw[fv2] at h11;have hb:(B T 7)=true:=by rw[<-fv7];exact h39.1
   have h5:=h7 hb;have x26:=e26 (by omega) (by omega);have x41:=e41 (by omega) (by omega);have x42:=e42 (by omega) (by omega);have x63:=e63 (by omega) (by omega);clear e26 e41 e42 e63;obtain⟨z1,z2,z3,z4⟩:=v3 hb;obtain⟨m1,m2,m3⟩:=Jx (l:=L T 6) (c:=L T2 10) (a:=(I T 2).toNat) (i:=(I T 5).toNat) (j:=(I T2 9).toNat) (by omega) (by omega) (by omega) (by rw[show (I T 5).toNat - (I T2 9).toNat=((I T 5) - (I T2 9)).toNat by omega];exact z3);obtain⟨m4,m5⟩:=m3 (by omega);have hj:(I T2 9).toNat < ((L T2 10)).length:=by omega
   have hj1:(I T2 9).toNat - 1 < ((L T2 10)).length:=by omega
   have hn:((I T2 9) - 1).toNat=(I T2 9).toNat - 1:=by omega
   have sj:=z2 _ (Dj hj);have sj1:=z2 _ (Dj hj1);have h61:(L T2 61)=((L T2 10)).set (I T2 9).toNat (((L T2 10)).getD ((I T2 9).toNat - 1) []):=by
    rw[e61,e43,e44,e45,e46,e47,e48,e49,e50,e51,x42,hn];exact setB z2 hj sj1
   have sh61:∀u∈(L T2 61),AT AF KB u:=by rw[h61];exact Ie z2 sj1
   have h62:(L T2 62)=((L T2 61)).set ((I T2 9).toNat - 1) (((L T2 10)).getD (I T2 9).toNat []):=by
    rw[e62,e52,e53,e54,e55,e56,e57,e58,e59,e60,x41,hn];exact setB sh61 (by rw[h61,List.length_set];exact hj1) sj
   have hlt:ltB (((L T 6)).getD (I T 5).toNat []) ((((((L T 6)).take (I T 5).toNat).drop (I T 2).toNat).reverse).getD ((I T 5).toNat - (I T2 9).toNat) [])=true:=by
    rw[<-m4,<-m2];refine decide_eq_true ?_;have h37:=e37.1 h38.2;rw[e36,e15,e17,e27,e29,x26,hn] at h37;exact h37
   refine⟨by omega,by omega,fun _=>⟨?_,?_,?_,fun q hq=>?_⟩⟩
   .rw[h62,h61,List.length_set,List.length_set];exact z1
   .rw[h62];exact Ie sh61 sj
   .rw[h62,h61,m5,x63,show ((I T 5) - ((I T2 9) - 1)).toNat=(I T 5).toNat - ((I T2 9).toNat - 1) by omega]
   .rcases Int.lt_or_le (q:Int) ((I T 5) - (I T2 9)) with hq2|hq2
    .exact z4 q hq2
    .obtain rfl:q=(I T 5).toNat - (I T2 9).toNat:=by omega
     exact hlt
  .obtain⟨e11,-,-,e14,-,-,-,-,-,-,-,-,-,-,e25,e26,-⟩:=F0;obtain⟨-,-,-,-,-,-,-,-,-,-,e37,e38,e39,-,e41,e42,-⟩:=F1;obtain⟨-,-,-,-,e63,-⟩:=F3;simp only[AI,AP,zR,w2P] at e11 e14 e25 e26 e37 e38 e39 e41 e42 e63;obtain⟨v1,v2,v3⟩:=inv;intro hp;have h11:=e11.1 (e38.1 (e39.1 hp).2).1;rw[fv2] at h11;have x63:=e63 (by omega) (by omega);omega
theorem UR {T:Tab}(g1:0<=I T 2/\I T 2<=I T 3/\I T 2+1<=I T 5/\((I T 5)<=I T 3\/I T 5=I T 2+1)/\I T 3<=I T 1/\I T 1<=140737488355328)(g2:((L T 6)).length=I T 1/\∀u∈(L T 6),AT AF KB u)(hS:AK T (hds 5 [.i,.l]++FQ [2,1,3] (Ab (BK 0 FT.ks) Fv)))(hE:Ac T (HS.map En.be)):
  (AH T FJ)/\((B T 7)=true->I T 5 < I T 3)/\((JG).owes (MK.map (Rf.eval T)))/\((I T 2)<=I T 9/\I T 9<=I T 5/\((B T 7)=true->((L T 10)).length=I T 1/\(∀u∈(L T 10),AT AF KB u)/\L T 10=CE (((L T 6)).take (I T 2).toNat) (((((L T 6)).take (I T 5).toNat).drop (I T 2).toNat).reverse) (((L T 6)).drop ((I T 5).toNat+1)) (((L T 6)).getD (I T 5).toNat []) ((I T 5) - (I T 9)).toNat/\∀q:Nat,(q:Int) < I T 5 - (I T 9)->ltB (((L T 6)).getD (I T 5).toNat []) ((((((L T 6)).take (I T 5).toNat).drop (I T 2).toNat).reverse).getD q [])=true))/\(¬B T 39=true)/\(AH T D7)/\(AH T IY)/\AK T (Ab (Ab (hds 9 [.i,.l]++(Ab (hds 5 [.i,.l]++FQ [2,1,3] (Ab (BK 0 FT.ks) Fv)) FJ)) D7) IY):=by
 unfold HS at hE;rw[List.map_append,List.map_append,List.map_append] at hE;have hA:=hE.left;replace hE:=hE.right;have hH:=hE.left;replace hE:=hE.right;have hB:=hE.left;replace hE:=hE.right;obtain⟨C0_0,hS1⟩:=Ai hS (by kernel_rfl) hA;have h7:=aP g1 g2 C0_0;obtain⟨ow1,hS2,inv1,np1⟩:=cX g1 g2 h7 hS1 hB hH;have hF2:=(Ai (hS2.append hS1) (l:=D7) (by kernel_rfl) hB);obtain⟨B1,hS⟩:=hF2;clear hA hB hH hS1 hS2;obtain⟨C0_1,hSe⟩:=Ai hS (by kernel_rfl) hE;exact⟨C0_0,h7,ow1,inv1,np1,B1,C0_1,hSe⟩
theorem cJ {T:Tab}(hk0:∀u∈(L T 0),AT AF KB u)(pre0:((L T 0)).length=I T 1/\0<=I T 2/\I T 2<=I T 3/\I T 3<=I T 1)(h4:(I T 4)=I T 2+1)(hi1:(I T 1)<=140737488355328)(hS:AK T (Ab (BK 0 FT.ks) Fv))(hB:Ac T (HS.map En.be))(hH:Ac T ((BS Lc [.i,.l] Ou).map En.be)):
  (Lc).owes (Ou.map (Rf.eval T))/\AK T (hds 5 [.i,.l])/\((I T 2)+1<=I T 5/\((I T 5)<=I T 3\/I T 5=I T 2+1)/\((L T 6)).length=I T 1/\(∀u∈(L T 6),AT AF KB u)/\L T 6=Aw ltB (L T 0) (I T 2).toNat (I T 5).toNat)/\¬B T 40=true:=by
 refine Lf (nh:=5) (k:=2) (pcn:=40) (top:=65) (bes:=HS) (bos:=Vp) (nxt:=[.e 64,.e 10]) (inits:=[.e 4,.e 0]) (fv:=[2,1,3]) (tys:=[.i,.l]) (by kernel_rfl) rfl rfl rfl rfl hS (by kernel_rfl) hB (BV hH) (fun s=>(I T 2)+1<=(aI s 0)/\((aI s 0)<=I T 3\/(aI s 0)=I T 2+1)/\((aL s 1)).length=I T 1/\(∀u∈(aL s 1),AT AF KB u)/\(aL s 1)=Aw ltB (L T 0) (I T 2).toNat (aI s 0).toNat) (fun s=>((I T 3) - (aI s 0)).toNat) ?_ ?_
 .show (I T 2)+1<=I T 4/\((I T 4)<=I T 3\/I T 4=I T 2+1)/\((L T 0)).length=I T 1/\(∀u∈(L T 0),AT AF KB u)/\L T 0=Aw ltB (L T 0) (I T 2).toNat (I T 4).toNat;clear hS hB hH;rw[h4];exact⟨Int.le_refl _,.inr rfl,pre0.1,hk0,by rw[show ((I T 2)+1).toNat=(I T 2).toNat+1 by omega,IU (by omega)]⟩
 .intro T2 hfv hS2 hE inv;replace inv:(I T 2)+1<=I T2 5/\((I T2 5)<=I T 3\/I T2 5=I T 2+1)/\((L T2 6)).length=I T 1/\(∀u∈(L T2 6),AT AF KB u)/\L T2 6=Aw ltB (L T 0) (I T 2).toNat (I T2 5).toNat:=inv;have fv2:I T2 2=I T 2:=fvI (hfv 2 (by decide));have fv1:I T2 1=I T 1:=fvI (hfv 1 (by decide));have fv3:I T2 3=I T 3:=fvI (hfv 3 (by decide));clear hfv;clear hS hB hH;have g1:0<=I T2 2/\I T2 2<=I T2 3/\I T2 2+1<=I T2 5/\((I T2 5)<=I T2 3\/I T2 5=I T2 2+1)/\I T2 3<=I T2 1/\I T2 1<=140737488355328:=by
   obtain⟨v1,v2,v3,v4,v5⟩:=inv;rw[fv2,fv1,fv3];omega
  have g2:((L T2 6)).length=I T2 1/\∀u∈(L T2 6),AT AF KB u:=by
   obtain⟨v1,v2,v3,v4,v5⟩:=inv;rw[fv1];exact⟨v3,v4⟩
  obtain⟨C0_0,h7,ow1,inv1,np1,B1,C0_1,hSe⟩:=UR g1 g2 hS2 hE;clear hS2 hE;have hN:=B7 hSe (ts:=[.i,.l]) (rs:=[.e 64,.e 10]) (by kernel_rfl);clear hSe;have F0:=C0_0;clear C0_0;obtain⟨F1,B1⟩:=B1.cut;obtain⟨F2,B1⟩:=B1.cut;obtain⟨F3,B1⟩:=B1.cut;have F4:=B1;clear B1;have F5:=C0_1;clear C0_1
  suffices hz:(B T2 40=true->((I T 2)+1<=I T2 64/\((I T2 64)<=I T 3\/I T2 64=I T 2+1)/\((L T2 10)).length=I T 1/\(∀u∈(L T2 10),AT AF KB u)/\L T2 10=Aw ltB (L T 0) (I T 2).toNat (I T2 64).toNat))/\(B T2 40=true->((I T 3) - (I T2 64)).toNat < ((I T 3) - (I T2 5)).toNat) from
   let⟨nx,mz⟩:=hz;⟨hN,⟨(fun _=>ow1),trivial⟩,fun hp=>⟨nx hp,mz hp⟩⟩
  refine⟨?_,?_⟩
  .obtain⟨e7,-⟩:=F0;obtain⟨e11,-,-,-,e15,-,e17,-,-,-,-,-,-,-,-,e26,-⟩:=F1;obtain⟨e27,-,e29,-,-,-,-,-,-,e36,e37,e38,e39,e40,-⟩:=F2;obtain⟨e64,-⟩:=F5;replace e36:I T2 36=(if Ba (I T2 17) (I T2 29)=0 then Ba (I T2 15) (I T2 27) else Ba (I T2 17) (I T2 29)):=e36;simp only[AI,AP,zN,zR,w2P,zL] at e7 e11 e15 e17 e26 e27 e29 e37 e38 e39 e40 e64;obtain⟨v1,v2,v3,v4,v5⟩:=inv;obtain⟨w1,w2,w3⟩:=inv1;rw[fv2] at w1 w3;intro hp;have hb:=e40.1 hp;have h7:=e7.1 hb.1;have x64:=e64 (by omega) (by omega);obtain⟨z1,z2,z3,z4⟩:=w3 hb.1;have hdone:(L T2 10)=Q1 ltB ((L T2 6)) (I T 2).toNat (I T2 5).toNat:=by
    rw[z3];refine Vn (l:=L T2 6) (k:=((I T2 5) - (I T2 9)).toNat) (by omega) (by omega) (by omega) (fun q hq=>z4 q (by omega)) ?_;rcases Int.lt_or_le (I T 2) (I T2 9) with h9|h9
    .refine .inr fun hlt=>?_;obtain⟨m1,m2,m3⟩:=Jx (l:=L T2 6) (c:=L T2 10) (a:=(I T 2).toNat) (i:=(I T2 5).toNat) (j:=(I T2 9).toNat) (by omega) (by omega) (by omega) (by rw[show (I T2 5).toNat - (I T2 9).toNat=((I T2 5) - (I T2 9)).toNat by omega];exact z3);obtain⟨m4,m5⟩:=m3 (by omega);rw[show ((I T2 5) - (I T2 9)).toNat=(I T2 5).toNat - (I T2 9).toNat by omega,<-m4,<-m2] at hlt;have x26:=e26 (by omega) (by omega);have h36:(I T2 36) < 0:=by
      rw[e36,e15,e17,e27,e29,x26,show ((I T2 9) - 1).toNat=(I T2 9).toNat - 1 by omega];exact of_decide_eq_true hlt
     have h38:(B T2 38)=true:=e38.2 ⟨e11.2 (by rw[fv2];exact h9),e37.2 h36⟩;have:=hb.2;simp[h38] at this
    .exact .inl (by omega)
   refine⟨by omega,?_,by rw[<-fv1];exact z1,z2,?_⟩
   .rw[fv3] at h7;left;omega
   .rw[hdone,x64,show ((I T2 5)+1).toNat=(I T2 5).toNat+1 by omega,Re (by omega) (by rw[fv1] at*; omega),<-v5]
  .obtain⟨e7,-⟩:=F0;obtain⟨-,-,-,-,-,-,-,-,-,-,-,-,-,e40,-⟩:=F2;obtain⟨e64,-⟩:=F5;simp only[AI,AP,zN,zR,w2P] at e7 e40 e64;obtain⟨v1,v2,v3,v4,v5⟩:=inv;intro hp;have hb:=e40.1 hp;have h7:=e7.1 hb.1;rw[fv3] at h7;have x64:=e64 (by omega) (by omega);omega
theorem ij {T:Tab}(hl0:(L T 0).length<=140737488355328)(hk0:∀u∈(L T 0),AT AF KB u)(lo1:0<=I T 1)(pre0:((L T 0)).length=I T 1/\0<=I T 2/\I T 2<=I T 3/\I T 3<=I T 1)(h4:(I T 4)=I T 2+1)(hi1:(I T 1)<=140737488355328)(inv0:(I T 2)+1<=I T 5/\((I T 5)<=I T 3\/I T 5=I T 2+1)/\((L T 6)).length=I T 1/\(∀u∈(L T 6),AT AF KB u)/\L T 6=Aw ltB (L T 0) (I T 2).toNat (I T 5).toNat)(np0:¬B T 40=true)(h7:(B T 7)=true->I T 5 < I T 3)(inv1:(I T 2)<=I T 9/\I T 9<=I T 5/\((B T 7)=true->((L T 10)).length=I T 1/\(∀u∈(L T 10),AT AF KB u)/\L T 10=CE (((L T 6)).take (I T 2).toNat) (((((L T 6)).take (I T 5).toNat).drop (I T 2).toNat).reverse) (((L T 6)).drop ((I T 5).toNat+1)) (((L T 6)).getD (I T 5).toNat []) ((I T 5) - (I T 9)).toNat/\∀q:Nat,(q:Int) < I T 5 - (I T 9)->ltB (((L T 6)).getD (I T 5).toNat []) ((((((L T 6)).take (I T 5).toNat).drop (I T 2).toNat).reverse).getD q [])=true))(np1:¬B T 39=true)(g1:0<=I T 2/\I T 2<=I T 3/\I T 2+1<=I T 5/\((I T 5)<=I T 3\/I T 5=I T 2+1)/\I T 3<=I T 1/\I T 1<=140737488355328)(g2:((L T 6)).length=I T 1/\∀u∈(L T 6),AT AF KB u)(A0:AH T Fv)(C0_0:AH T FJ)(B1:AH T D7)(C0_1:AH T IY):
  ((L T 6)=(Aw ltB (L T 0) (I T 2).toNat (I T 3).toNat)):=by
 have F0:=A0;clear A0;have F1:=C0_0;clear C0_0;obtain⟨F2,B1⟩:=B1.cut;obtain⟨F3,B1⟩:=B1.cut;obtain⟨F4,B1⟩:=B1.cut;have F5:=B1;clear B1;have F6:=C0_1;clear C0_1
 .obtain⟨e7,-⟩:=F1;obtain⟨-,-,-,-,-,-,-,-,-,-,-,-,e39,e40,-⟩:=F3;simp only[AI,AP,zN,zR] at e7 e39 e40;obtain⟨v1,v2,v3,v4,v5⟩:=inv0;obtain⟨p1,p2,p3,p4⟩:=pre0;have h7:¬I T 5 < I T 3:=fun h=>by
   have hb:=e7.2 h;by_cases h38:(B T 38)=true
   .exact np1 (e39.2 ⟨hb,h38⟩)
   .exact np0 (e40.2 ⟨hb,by simpa using h38⟩)
  rw[v5];by_cases h8:(I T 5)=I T 3
  .rw[h8]
  .have h:(I T 5)=I T 2+1:=by omega
   rw[h,show ((I T 2)+1).toNat=(I T 2).toNat+1 by omega,IU (by omega),KK (by omega) (by omega)]
theorem fl:Ae Try.prog 144 FT:=by
 refine BH (l:=[(101,My)]) Bh (by simp only[List.forall_mem_cons];exact⟨fS,fun _ h=>absurd h (by simp)⟩) hY (by kernel_rfl) fun T us hpre hT hul hS hBd hE=>?_;change us.length=4 at hul;obtain⟨⟨hl0,he0⟩,⟨lo1,hi1⟩,-⟩:=hBd;replace hl0:(L T 0).length<=140737488355328:=hl0;have hk0:∀u∈(L T 0),AT AF KB u:=fun u hu=>by
  obtain⟨i,hi⟩:=List.mem_iff_getElem?.1 hu;exact he0 i u hi
 replace lo1:0<=I T 1:=lo1;replace hi1:I T 1<=140737488355328:=hi1;have ha0:aL us 0=L T 0:=inL hT hul (by decide);have ha1:aI us 1=I T 1:=inI hT hul (by decide);have ha2:aI us 2=I T 2:=inI hT hul (by decide);have ha3:aI us 3=I T 3:=inI hT hul (by decide);have pre0:((L T 0)).length=I T 1/\0<=I T 2/\I T 2<=I T 3/\I T 3<=I T 1:=by
  have h:=hpre (.s "insB.p0",HP) (by simp[FT]);change HP us at h;unfold HP at h;simp only[ha0,ha1,ha2,ha3] at h;exact h
 clear hpre;rw[List.map_append,List.map_append,List.map_append] at hE;have hA:=hE.left;replace hE:=hE.right;have hH:=hE.left;replace hE:=hE.right;have hB:=hE.left;replace hE:=hE.right;obtain⟨A0,hS1⟩:=Ai hS (by kernel_rfl) hA;have h4:=bW hl0 hk0 lo1 hi1 pre0 A0;obtain⟨ow0,hS2,inv0,np0⟩:=cJ hk0 pre0 h4 hi1 hS1 hB hH;have g1:0<=I T 2/\I T 2<=I T 3/\I T 2+1<=I T 5/\((I T 5)<=I T 3\/I T 5=I T 2+1)/\I T 3<=I T 1/\I T 1<=140737488355328:=by
  have fv2:I T 2=I T 2:=rfl;have fv1:I T 1=I T 1:=rfl;have fv3:I T 3=I T 3:=rfl;have inv:=inv0;obtain⟨v1,v2,v3,v4,v5⟩:=inv;rw[fv2,fv1,fv3];omega
 have g2:((L T 6)).length=I T 1/\∀u∈(L T 6),AT AF KB u:=by
  have fv2:I T 2=I T 2:=rfl;have fv1:I T 1=I T 1:=rfl;have fv3:I T 3=I T 3:=rfl;have inv:=inv0;obtain⟨v1,v2,v3,v4,v5⟩:=inv;rw[fv1];exact⟨v3,v4⟩
 obtain⟨C0_0,h7,ow1,inv1,np1,B1,C0_1,hSe⟩:=UR g1 g2 (hS2.append (C7 (fun _ _=>rfl) hS1)) hB;have hS:=hSe.append hS1;clear hA hB hH hS1 hS2 hSe;obtain⟨A2,hO⟩:=BG (tys:=[.l]) (rs:=bJ) hS (by kernel_rfl) hE;have q0:=ij hl0 hk0 lo1 pre0 h4 hi1 inv0 np0 h7 inv1 np1 g1 g2 A0 C0_0 B1 C0_1;refine⟨⟨(fun _=>ow0),trivial⟩,hO.trans ?_⟩;exact (lc (by show U.list (L T 6)= .list (JP us);unfold JP;rw[ha0,ha2,ha3];exact congrArg U.list q0) rfl)
end
end Go.Eng
end
