/-
  A part of the proof: the evaluator of code and its soundness.
-/
import Derived.Test.YtikbgnmcfncnaaaKB0
import Derived.Test.YtikbgnmcfncnaaaE4
import Derived.Test.YtikbgnmcfncnaaaE5
import Derived.WalkKit
import Derived.Lib.Strings
import Derived.Lib.Walk
import Derived.Lib.Bytealg
set_option linter.unusedVariables false
set_option linter.unusedSimpArgs false
noncomputable section
namespace Go.Eng
section
open Go Go.Eng Go.Proofs
set_option maxHeartbeats 4000000
set_option maxRecDepth 100000
theorem gf:My.sees Zr (My.run Try.prog [(103,Ma)] AW 3000 20 101)=some ((VY).map En.be,iX.map ObE.be,[]):=by kernel_rfl
theorem gw {T:Tab}(hz4:(S T 4).size<=140737488355328)(hz5:(S T 5).size<=140737488355328)(hz13:(S T 13).size<=140737488355328)(hz14:(S T 14).size<=140737488355328)(A0:AH T VY):
  ((I T 32)=(if Ba (I T 2) (I T 11)=0 then Ba (I T 0) (I T 9) else Ba (I T 2) (I T 11))):=by
 obtain⟨F0,A0⟩:=A0.cut;have F1:=A0;clear A0
 .obtain⟨e18,e19,e20,e21,e22,e23,-,-,e26,-,-,e29,-,-,e32,-⟩:=F0;replace e18:I T 18=(Ba (I T 2) (I T 11)):=e18;replace e19:I T 19=(Ba (I T 0) (I T 9)):=e19;simp only[AI,AP,zR,zL,zS] at e20 e21 e22 e23 e26 e29 e32;rw[e32,e26,<-e18,<-e19];by_cases h1:(I T 18)=0
  .have h2:¬B T 20=true:=fun a=>(e20.1 a) h1;rw[if_pos h1,if_neg h2];by_cases h3:(I T 19)=0
   .rw[h3];split<;>rfl
   .rw[if_pos (e29.2 (.inr (e23.2 ⟨e21.2 h2,e22.2 h3⟩)))]
  .rw[if_neg h1,if_pos (e20.2 h1),if_pos (e29.2 (.inl (e20.2 h1)))]
theorem fS:Ae Try.prog 101 My:=by
 refine BH (l:=[(103,Ma)]) Bh (by simp only[wJ];exact⟨gZ,fun _ h=>absurd h (by simp)⟩) gf (by kernel_rfl) fun T us hpre hT hul hS hBd hE=>?_;change us.length=18 at hul;obtain⟨-,-,-,hz4,hz5,-,-,-,-,-,hz13,hz14,-⟩:=hBd;replace hz4:(S T 4).size<=140737488355328:=hz4;replace hz5:(S T 5).size<=140737488355328:=hz5;replace hz13:(S T 13).size<=140737488355328:=hz13;replace hz14:(S T 14).size<=140737488355328:=hz14;have ha0:aI us 0=I T 0:=inI hT hul (by decide);have ha2:aI us 2=I T 2:=inI hT hul (by decide);have ha9:aI us 9=I T 9:=inI hT hul (by decide);have ha11:aI us 11=I T 11:=inI hT hul (by decide);clear hpre
 skip
 obtain⟨A0,hO⟩:=BG (tys:=[.i]) (rs:=Zr) hS (by kernel_rfl) hE;have q0:=gw hz4 hz5 hz13 hz14 A0;refine⟨trivial,hO.trans ?_⟩;exact (lc (by show U.int (I T 32)= .int (Lt us);unfold Lt;rw[ha0,ha11,ha2,ha9];exact congrArg U.int q0) rfl)
def JP:List U->List (List U):=fun us=>(Aw ltB (aL us 0) (aI us 2).toNat (aI us 3).toNat)
def HP:List U->Prop:=fun us=>((aL us 0)).length=(aI us 1)/\0<=(aI us 2)/\(aI us 2)<=(aI us 3)/\(aI us 3)<=(aI us 1)
def FT:AV:={ sh:=[.one (k64),.one (k64),.cst (.fn (.func 101) [] [])],blks:=[],outs:=[(.s "insB.0",Eg JP)],c:= .tup [],m':=[.mrow 4 1 [k64,k64,k64,.bool,.str,.str,.bool,k64,k64] 38],pre:=[(.s "insB.p0",HP)],row:=some ([k64,k64,k64,.bool,.str,.str,.bool,k64,k64],38) }
def eQ:List Rf:=[.e 15,.e 16,.e 17,.e 18,.e 19,.e 20,.e 21,.e 22,.e 23,.e 27,.e 28,.e 29,.e 30,.e 31,.e 32,.e 33,.e 34,.e 35]
def Xb:List En:=[⟨4,.w2 .i64 .add,[.e 2,.c (.int 1)]⟩]
def Fv:List En:=Xb
def VA:List En:=[⟨7,.lt,[.e 5,.e 3]⟩,
 ⟨8,.not,[.e 7]⟩]
def FJ:List En:=VA
def X6:List En:=[⟨11,.lt,[.e 2,.e 9]⟩,
 ⟨12,.and,[.e 7,.e 11]⟩,
 ⟨13,.and,[.e 7,.e 11]⟩,
 ⟨14,.and,[.e 7,.e 11]⟩,
 ⟨15,.get .i 0,[.e 10,.e 9]⟩,
 ⟨16,.get .i 1,[.e 10,.e 9]⟩,
 ⟨17,.get .i 2,[.e 10,.e 9]⟩,
 ⟨18,.get .b 3,[.e 10,.e 9]⟩,
 ⟨19,.get .s 4,[.e 10,.e 9]⟩,
 ⟨20,.get .s 5,[.e 10,.e 9]⟩,
 ⟨21,.get .b 6,[.e 10,.e 9]⟩,
 ⟨22,.get .i 7,[.e 10,.e 9]⟩,
 ⟨23,.get .i 8,[.e 10,.e 9]⟩,
 ⟨24,.and,[.e 7,.e 11]⟩,
 ⟨25,.and,[.e 7,.e 11]⟩,
 ⟨26,.w2 .i64 .sub,[.e 9,.c (.int 1)]⟩]
def YP:List En:=[⟨27,.get .i 0,[.e 10,.e 26]⟩,
 ⟨28,.get .i 1,[.e 10,.e 26]⟩,
 ⟨29,.get .i 2,[.e 10,.e 26]⟩,
 ⟨30,.get .b 3,[.e 10,.e 26]⟩,
 ⟨31,.get .s 4,[.e 10,.e 26]⟩,
 ⟨32,.get .s 5,[.e 10,.e 26]⟩,
 ⟨33,.get .b 6,[.e 10,.e 26]⟩,
 ⟨34,.get .i 7,[.e 10,.e 26]⟩,
 ⟨35,.get .i 8,[.e 10,.e 26]⟩,
 ⟨36,.outI "cmpB.0" Lt,eQ⟩,
 ⟨37,.lt,[.e 36,.c (.int 0)]⟩,
 ⟨38,.and,[.e 11,.e 37]⟩,
 ⟨39,.and,[.e 7,.e 38]⟩,
 ⟨40,.and,[.e 7,.n 38]⟩,
 ⟨41,.w2 .i64 .sub,[.e 9,.c (.int 1)]⟩,
 ⟨42,.w2 .i64 .sub,[.e 9,.c (.int 1)]⟩]
def X7:List En:=[⟨43,.get .i 0,[.e 10,.e 42]⟩,
 ⟨44,.get .i 1,[.e 10,.e 42]⟩,
 ⟨45,.get .i 2,[.e 10,.e 42]⟩,
 ⟨46,.get .b 3,[.e 10,.e 42]⟩,
 ⟨47,.get .s 4,[.e 10,.e 42]⟩,
 ⟨48,.get .s 5,[.e 10,.e 42]⟩,
 ⟨49,.get .b 6,[.e 10,.e 42]⟩,
 ⟨50,.get .i 7,[.e 10,.e 42]⟩,
 ⟨51,.get .i 8,[.e 10,.e 42]⟩,
 ⟨52,.get .i 0,[.e 10,.e 9]⟩,
 ⟨53,.get .i 1,[.e 10,.e 9]⟩,
 ⟨54,.get .i 2,[.e 10,.e 9]⟩,
 ⟨55,.get .b 3,[.e 10,.e 9]⟩,
 ⟨56,.get .s 4,[.e 10,.e 9]⟩,
 ⟨57,.get .s 5,[.e 10,.e 9]⟩,
 ⟨58,.get .b 6,[.e 10,.e 9]⟩]
def Yn:List En:=[⟨59,.get .i 7,[.e 10,.e 9]⟩,
 ⟨60,.get .i 8,[.e 10,.e 9]⟩,
 ⟨61,.rset 0 [.i,.i,.i,.b,.s,.s,.b,.i,.i],[.e 10,.e 9,.e 43,.e 44,.e 45,.e 46,.e 47,.e 48,.e 49,.e 50,.e 51]⟩,
 ⟨62,.rset 0 [.i,.i,.i,.b,.s,.s,.b,.i,.i],[.e 61,.e 41,.e 52,.e 53,.e 54,.e 55,.e 56,.e 57,.e 58,.e 59,.e 60]⟩,
 ⟨63,.w2 .i64 .sub,[.e 9,.c (.int 1)]⟩]
def D7:List En:=X6++(YP++(X7++(Yn)))
def Uw:List ObE:=[⟨some 39,.inr,[.e 41,.e 1]⟩,⟨some 39,.inr,[.e 9,.e 1]⟩,⟨some 39,.inr,[.e 9,.e 1]⟩,⟨some 39,.inr,[.e 42,.e 1]⟩,⟨some 25,.inr,[.e 26,.e 1]⟩,⟨some 14,.inr,[.e 9,.e 1]⟩]
def JG:Ag:=mkD 9 2 D7 39 [.e 63,.e 62] Uw [7,2,1]
def MK:List Rf:=[.e 7,.e 2,.e 1,.e 5,.e 6]
def Up:List En:=[⟨64,.w2 .i64 .add,[.e 5,.c (.int 1)]⟩]
def IY:List En:=Up
def HS:List En:=FJ++((BS JG [.i,.l] MK)++(D7++(IY)))
def Vp:List ObE:=[⟨some 7,.owes JG,[.e 7,.e 2,.e 1,.e 5,.e 6]⟩]
def Lc:Ag:=mkD 5 2 HS 40 [.e 64,.e 10] Vp [2,1,3]
def Ou:List Rf:=[.e 2,.e 1,.e 3,.e 4,.e 0]
def co:List En:=[]
def iA:List ObE:=[⟨none,.owes Lc,[.e 2,.e 1,.e 3,.e 4,.e 0]⟩]
def bJ:List Rf:=[.e 6]
theorem hY:FT.sees bJ (FT.run Try.prog [(101,My)] AW 3000 20 144)=some ((Fv++((BS Lc [.i,.l] Ou)++(HS++(co)))).map En.be,iA.map ObE.be,[]):=by kernel_rfl
theorem bW {T:Tab}(hl0:(L T 0).length<=140737488355328)(hk0:∀u∈(L T 0),AT AF KB u)(lo1:0<=I T 1)(hi1:I T 1<=140737488355328)(pre0:((L T 0)).length=I T 1/\0<=I T 2/\I T 2<=I T 3/\I T 3<=I T 1)(A0:AH T Fv):
  ((I T 4)=I T 2+1):=by
 have F0:=A0;clear A0;have h4:(I T 4)=I T 2+1:=by
  obtain⟨e4,-⟩:=F0;simp only[AI,zR,w2P] at e4;exact e4 (by omega) (by omega)
 have hi1:(I T 1)<=140737488355328:=by
  omega
 exact h4
theorem aP {T:Tab}(g1:0<=I T 2/\I T 2<=I T 3/\I T 2+1<=I T 5/\((I T 5)<=I T 3\/I T 5=I T 2+1)/\I T 3<=I T 1/\I T 1<=140737488355328)(g2:((L T 6)).length=I T 1/\∀u∈(L T 6),AT AF KB u)(C0_0:AH T FJ):
  ((B T 7)=true->I T 5 < I T 3):=by
 have F0:=C0_0;clear C0_0;have h7:(B T 7)=true->I T 5 < I T 3:=by
  obtain⟨e7,-⟩:=F0;simp only[AI,zR] at e7;exact e7.1
 exact h7
theorem cX {T:Tab}(g1:0<=I T 2/\I T 2<=I T 3/\I T 2+1<=I T 5/\((I T 5)<=I T 3\/I T 5=I T 2+1)/\I T 3<=I T 1/\I T 1<=140737488355328)(g2:((L T 6)).length=I T 1/\∀u∈(L T 6),AT AF KB u)(h7:(B T 7)=true->I T 5 < I T 3)(hS:AK T (Ab (hds 5 [.i,.l]++FQ [2,1,3] (Ab (BK 0 FT.ks) Fv)) FJ))(hB:Ac T (D7.map En.be))(hH:Ac T ((BS JG [.i,.l] MK).map En.be)):
  (JG).owes (MK.map (Rf.eval T))/\AK T (hds 9 [.i,.l])/\((I T 2)<=I T 9/\I T 9<=I T 5/\((B T 7)=true->((L T 10)).length=I T 1/\(∀u∈(L T 10),AT AF KB u)/\L T 10=CE (((L T 6)).take (I T 2).toNat) (((((L T 6)).take (I T 5).toNat).drop (I T 2).toNat).reverse) (((L T 6)).drop ((I T 5).toNat+1)) (((L T 6)).getD (I T 5).toNat []) ((I T 5) - (I T 9)).toNat/\∀q:Nat,(q:Int) < I T 5 - (I T 9)->ltB (((L T 6)).getD (I T 5).toNat []) ((((((L T 6)).take (I T 5).toNat).drop (I T 2).toNat).reverse).getD q [])=true))/\¬B T 39=true:=by
 refine CK (nh:=9) (k:=2) (pcn:=39) (top:=64) (bes:=D7) (bos:=Uw) (nxt:=[.e 63,.e 62]) (inits:=[.e 5,.e 6]) (fv:=[7,2,1]) (tys:=[.i,.l]) (by kernel_rfl) rfl rfl rfl rfl hS (by kernel_rfl) (by kernel_rfl) hB (BV hH) (fun s=>(I T 2)<=(aI s 0)/\(aI s 0)<=I T 5/\((B T 7)=true->((aL s 1)).length=I T 1/\(∀u∈(aL s 1),AT AF KB u)/\(aL s 1)=CE (((L T 6)).take (I T 2).toNat) (((((L T 6)).take (I T 5).toNat).drop (I T 2).toNat).reverse) (((L T 6)).drop ((I T 5).toNat+1)) (((L T 6)).getD (I T 5).toNat []) ((I T 5) - (aI s 0)).toNat/\∀q:Nat,(q:Int) < I T 5 - (aI s 0)->ltB (((L T 6)).getD (I T 5).toNat []) ((((((L T 6)).take (I T 5).toNat).drop (I T 2).toNat).reverse).getD q [])=true)) (fun s=>((aI s 0)).toNat) ?_ ?_
 .show (I T 2)<=I T 5/\I T 5<=I T 5/\((B T 7)=true->((L T 6)).length=I T 1/\(∀u∈(L T 6),AT AF KB u)/\L T 6=CE (((L T 6)).take (I T 2).toNat) (((((L T 6)).take (I T 5).toNat).drop (I T 2).toNat).reverse) (((L T 6)).drop ((I T 5).toNat+1)) (((L T 6)).getD (I T 5).toNat []) ((I T 5) - (I T 5)).toNat/\∀q:Nat,(q:Int) < I T 5 - (I T 5)->ltB (((L T 6)).getD (I T 5).toNat []) ((((((L T 6)).take (I T 5).toNat).drop (I T 2).toNat).reverse).getD q [])=true);clear hS hB hH;refine⟨by omega,Int.le_refl _,fun hb=>?_⟩;have h5:=h7 hb;refine⟨g2.1,g2.2,?_,fun q hq=>absurd hq (by omega)⟩;rw[show ((I T 5) - (I T 5)).toNat=0 by omega,Ta (by omega) (by omega)]
 .intro T2 hfv hF inv;replace inv:(I T 2)<=I T2 9/\I T2 9<=I T 5/\((B T 7)=true->((L T2 10)).length=I T 1/\(∀u∈(L T2 10),AT AF KB u)/\L T2 10=CE (((L T 6)).take (I T 2).toNat) (((((L T 6)).take (I T 5).toNat).drop (I T 2).toNat).reverse) (((L T 6)).drop ((I T 5).toNat+1)) (((L T 6)).getD (I T 5).toNat []) ((I T 5) - (I T2 9)).toNat/\∀q:Nat,(q:Int) < I T 5 - (I T2 9)->ltB (((L T 6)).getD (I T 5).toNat []) ((((((L T 6)).take (I T 5).toNat).drop (I T 2).toNat).reverse).getD q [])=true):=inv;clear hS hB hH;replace hF:AH T2 D7:=hF;obtain⟨F0,hF⟩:=hF.cut;obtain⟨F1,hF⟩:=hF.cut;obtain⟨F2,hF⟩:=hF.cut;have F3:=hF;clear hF;have fv7:B T2 7=B T 7:=fvB (hfv 7 (by decide));have fv2:I T2 2=I T 2:=fvI (hfv 2 (by decide));have fv1:I T2 1=I T 1:=fvI (hfv 1 (by decide));clear hfv
  suffices hz:(B T2 39=true->0<=I T2 41/\I T2 41 < I T2 1)/\(B T2 39=true->0<=I T2 9/\I T2 9 < I T2 1)/\(B T2 39=true->0<=I T2 9/\I T2 9 < I T2 1)/\(B T2 39=true->0<=I T2 42/\I T2 42 < I T2 1)/\(B T2 25=true->0<=I T2 26/\I T2 26 < I T2 1)/\(B T2 14=true->0<=I T2 9/\I T2 9 < I T2 1)/\(B T2 39=true->((I T 2)<=I T2 63/\I T2 63<=I T 5/\((B T 7)=true->((L T2 62)).length=I T 1/\(∀u∈(L T2 62),AT AF KB u)/\L T2 62=CE (((L T 6)).take (I T 2).toNat) (((((L T 6)).take (I T 5).toNat).drop (I T 2).toNat).reverse) (((L T 6)).drop ((I T 5).toNat+1)) (((L T 6)).getD (I T 5).toNat []) ((I T 5) - (I T2 63)).toNat/\∀q:Nat,(q:Int) < I T 5 - (I T2 63)->ltB (((L T 6)).getD (I T 5).toNat []) ((((((L T 6)).take (I T 5).toNat).drop (I T 2).toNat).reverse).getD q [])=true)))/\(B T2 39=true->((I T2 63)).toNat < ((I T2 9)).toNat) from
   let⟨r0,r1,r2,r3,r4,r5,nx,mz⟩:=hz;⟨⟨r0,r1,r2,r3,r4,r5,trivial⟩,fun hp=>⟨nx hp,mz hp⟩⟩
  refine⟨?_,?_,?_,?_,?_,?_,?_,?_⟩
  .obtain⟨e11,-,-,e14,-,-,-,-,-,-,-,-,-,-,e25,e26,-⟩:=F0;obtain⟨-,-,-,-,-,-,-,-,-,-,e37,e38,e39,-,e41,e42,-⟩:=F1;obtain⟨-,-,-,-,e63,-⟩:=F3;simp only[AI,AP,zR,w2P] at e11 e14 e25 e26 e37 e38 e39 e41 e42 e63;obtain⟨v1,v2,v3⟩:=inv;intro hp;have h39:=e39.1 hp;have h11:=e11.1 (e38.1 h39.2).1;rw[fv2] at h11;have hb:(B T 7)=true:=by rw[<-fv7];exact h39.1
   have h5:=h7 hb;have x41:=e41 (by omega) (by omega);have x42:=e42 (by omega) (by omega);rw[fv1];omega
  .obtain⟨e11,-,-,e14,-,-,-,-,-,-,-,-,-,-,e25,e26,-⟩:=F0;obtain⟨-,-,-,-,-,-,-,-,-,-,e37,e38,e39,-,e41,e42,-⟩:=F1;obtain⟨-,-,-,-,e63,-⟩:=F3;simp only[AI,AP,zR,w2P] at e11 e14 e25 e26 e37 e38 e39 e41 e42 e63;obtain⟨v1,v2,v3⟩:=inv;intro hp;have h39:=e39.1 hp;have h11:=e11.1 (e38.1 h39.2).1;rw[fv2] at h11;have hb:(B T 7)=true:=by rw[<-fv7];exact h39.1
   have h5:=h7 hb;have x41:=e41 (by omega) (by omega);have x42:=e42 (by omega) (by omega);rw[fv1];omega
  .obtain⟨e11,-,-,e14,-,-,-,-,-,-,-,-,-,-,e25,e26,-⟩:=F0;obtain⟨-,-,-,-,-,-,-,-,-,-,e37,e38,e39,-,e41,e42,-⟩:=F1;obtain⟨-,-,-,-,e63,-⟩:=F3;simp only[AI,AP,zR,w2P] at e11 e14 e25 e26 e37 e38 e39 e41 e42 e63;obtain⟨v1,v2,v3⟩:=inv;intro hp;have h39:=e39.1 hp;have h11:=e11.1 (e38.1 h39.2).1;rw[fv2] at h11;have hb:(B T 7)=true:=by rw[<-fv7];exact h39.1
   have h5:=h7 hb;have x41:=e41 (by omega) (by omega);have x42:=e42 (by omega) (by omega);rw[fv1];omega
  .obtain⟨e11,-,-,e14,-,-,-,-,-,-,-,-,-,-,e25,e26,-⟩:=F0;obtain⟨-,-,-,-,-,-,-,-,-,-,e37,e38,e39,-,e41,e42,-⟩:=F1;obtain⟨-,-,-,-,e63,-⟩:=F3;simp only[AI,AP,zR,w2P] at e11 e14 e25 e26 e37 e38 e39 e41 e42 e63;obtain⟨v1,v2,v3⟩:=inv;intro hp;have h39:=e39.1 hp;have h11:=e11.1 (e38.1 h39.2).1;rw[fv2] at h11;have hb:(B T 7)=true:=by rw[<-fv7];exact h39.1
   have h5:=h7 hb;have x41:=e41 (by omega) (by omega);have x42:=e42 (by omega) (by omega);rw[fv1];omega
  .obtain⟨e11,-,-,e14,-,-,-,-,-,-,-,-,-,-,e25,e26,-⟩:=F0;obtain⟨-,-,-,-,-,-,-,-,-,-,e37,e38,e39,-,e41,e42,-⟩:=F1;obtain⟨-,-,-,-,e63,-⟩:=F3;simp only[AI,AP,zR,w2P] at e11 e14 e25 e26 e37 e38 e39 e41 e42 e63;obtain⟨v1,v2,v3⟩:=inv;intro hp;have h39:=e25.1 hp;have h11:=e11.1 h39.2;rw[fv2] at h11;have hb:(B T 7)=true:=by rw[<-fv7];exact h39.1
   have h5:=h7 hb;have x26:=e26 (by omega) (by omega);rw[fv1];omega
  .obtain⟨e11,-,-,e14,-,-,-,-,-,-,-,-,-,-,e25,e26,-⟩:=F0;obtain⟨-,-,-,-,-,-,-,-,-,-,e37,e38,e39,-,e41,e42,-⟩:=F1;obtain⟨-,-,-,-,e63,-⟩:=F3;simp only[AI,AP,zR,w2P] at e11 e14 e25 e26 e37 e38 e39 e41 e42 e63;obtain⟨v1,v2,v3⟩:=inv;intro hp;have h39:=e14.1 hp;have h11:=e11.1 h39.2;rw[fv2] at h11;have hb:(B T 7)=true:=by rw[<-fv7];exact h39.1
   have h5:=h7 hb;rw[fv1];omega
  .obtain⟨e11,-,-,-,e15,-,e17,-,-,-,-,-,-,-,-,e26,-⟩:=F0;obtain⟨e27,-,e29,-,-,-,-,-,-,e36,e37,e38,e39,-,e41,e42,-⟩:=F1;obtain⟨e43,e44,e45,e46,e47,e48,e49,e50,e51,e52,e53,e54,e55,e56,e57,e58,-⟩:=F2;obtain⟨e59,e60,e61,e62,e63,-⟩:=F3;replace e36:I T2 36=(if Ba (I T2 17) (I T2 29)=0 then Ba (I T2 15) (I T2 27) else Ba (I T2 17) (I T2 29)):=e36;simp only[AI,AP,zR,w2P,zL,zS,uR,zW,zC] at e11 e15 e17 e26 e27 e29 e37 e38 e39 e41 e42 e43 e44 e45 e46 e47 e48 e49 e50 e51 e52 e53 e54 e55 e56 e57 e58 e59 e60 e61 e62 e63;obtain⟨v1,v2,v3⟩:=inv;intro hp;have h39:=e39.1 hp;have h38:=e38.1 h39.2;have h11:=e11.1 h38.1;rw[fv2] at h11;have hb:(B T 7)=true:=by rw[<-fv7];exact h39.1
   have h5:=h7 hb;have x26:=e26 (by omega) (by omega);have x41:=e41 (by omega) (by omega);have x42:=e42 (by omega) (by omega);have x63:=e63 (by omega) (by omega);clear e26 e41 e42 e63;obtain⟨z1,z2,z3,z4⟩:=v3 hb;obtain⟨m1,m2,m3⟩:=Jx (l:=L T 6) (c:=L T2 10) (a:=(I T 2).toNat) (i:=(I T 5).toNat) (j:=(I T2 9).toNat) (by omega) (by omega) (by omega) (by rw[show (I T 5).toNat - (I T2 9).toNat=((I T 5) - (I T2 9)).toNat by omega];exact z3);obtain⟨m4,m5⟩:=m3 (by omega);have hj:(I T2 9).toNat < ((L T2 10)).length:=by omega
   have hj1:(I T2 9).toNat - 1 < ((L T2 10)).length:=by omega
   have hn:((I T2 9) - 1).toNat=(I T2 9).toNat - 1:=by omega
   have sj:=z2 _ (Dj hj);have sj1:=z2 _ (Dj hj1);have h61:(L T2 61)=((L T2 10)).set (I T2 9).toNat (((L T2 10)).getD ((I T2 9).toNat - 1) []):=by
    rw[e61,e43,e44,e45,e46,e47,e48,e49,e50,e51,x42,hn];exact tV z2 hj sj1
   have sh61:∀u∈(L T2 61),AT AF KB u:=by rw[h61];exact Ie z2 sj1
   have h62:(L T2 62)=((L T2 61)).set ((I T2 9).toNat - 1) (((L T2 10)).getD (I T2 9).toNat []):=by
    rw[e62,e52,e53,e54,e55,e56,e57,e58,e59,e60,x41,hn];exact tV sh61 (by rw[h61,List.length_set];exact hj1) sj
   have hlt:ltB (((L T 6)).getD (I T 5).toNat []) ((((((L T 6)).take (I T 5).toNat).drop (I T 2).toNat).reverse).getD ((I T 5).toNat - (I T2 9).toNat) [])=true:=by
    rw[<-m4,<-m2];refine decide_eq_true ?_;have h37:=e37.1 h38.2;rw[e36,e15,e17,e27,e29,x26,hn] at h37;exact h37
   refine⟨by omega,by omega,fun _=>⟨?_,?_,?_,fun q hq=>?_⟩⟩
   .rw[h62,h61,List.length_set,List.length_set];exact z1
   .rw[h62];exact Ie sh61 sj
   .rw[h62,h61,m5,x63,show ((I T 5) - ((I T2 9) - 1)).toNat=(I T 5).toNat - ((I T2 9).toNat - 1) by omega]
   .rcases Int.lt_or_le (q:Int) ((I T 5) - (I T2 9)) with hq2|hq2
    .exact z4 q hq2
    .obtain rfl:q=(I T 5).toNat - (I T2 9).toNat:=by omega
     exact hlt
  .obtain⟨e11,-,-,e14,-,-,-,-,-,-,-,-,-,-,e25,e26,-⟩:=F0;obtain⟨-,-,-,-,-,-,-,-,-,-,e37,e38,e39,-,e41,e42,-⟩:=F1;obtain⟨-,-,-,-,e63,-⟩:=F3;simp only[AI,AP,zR,w2P] at e11 e14 e25 e26 e37 e38 e39 e41 e42 e63;obtain⟨v1,v2,v3⟩:=inv;intro hp;have h11:=e11.1 (e38.1 (e39.1 hp).2).1;rw[fv2] at h11;have x63:=e63 (by omega) (by omega);omega
theorem UR {T:Tab}(g1:0<=I T 2/\I T 2<=I T 3/\I T 2+1<=I T 5/\((I T 5)<=I T 3\/I T 5=I T 2+1)/\I T 3<=I T 1/\I T 1<=140737488355328)(g2:((L T 6)).length=I T 1/\∀u∈(L T 6),AT AF KB u)(hS:AK T (hds 5 [.i,.l]++FQ [2,1,3] (Ab (BK 0 FT.ks) Fv)))(hE:Ac T (HS.map En.be)):
  (AH T FJ)/\((B T 7)=true->I T 5 < I T 3)/\((JG).owes (MK.map (Rf.eval T)))/\((I T 2)<=I T 9/\I T 9<=I T 5/\((B T 7)=true->((L T 10)).length=I T 1/\(∀u∈(L T 10),AT AF KB u)/\L T 10=CE (((L T 6)).take (I T 2).toNat) (((((L T 6)).take (I T 5).toNat).drop (I T 2).toNat).reverse) (((L T 6)).drop ((I T 5).toNat+1)) (((L T 6)).getD (I T 5).toNat []) ((I T 5) - (I T 9)).toNat/\∀q:Nat,(q:Int) < I T 5 - (I T 9)->ltB (((L T 6)).getD (I T 5).toNat []) ((((((L T 6)).take (I T 5).toNat).drop (I T 2).toNat).reverse).getD q [])=true))/\(¬B T 39=true)/\(AH T D7)/\(AH T IY)/\AK T (Ab (Ab (hds 9 [.i,.l]++(Ab (hds 5 [.i,.l]++FQ [2,1,3] (Ab (BK 0 FT.ks) Fv)) FJ)) D7) IY):=by
 unfold HS at hE;rw[v7,v7,v7] at hE;have hA:=hE.left;replace hE:=hE.right;have hH:=hE.left;replace hE:=hE.right;have hB:=hE.left;replace hE:=hE.right;obtain⟨C0_0,hS1⟩:=Ai hS (by kernel_rfl) hA;have h7:=aP g1 g2 C0_0;obtain⟨ow1,hS2,inv1,np1⟩:=cX g1 g2 h7 hS1 hB hH;have hF2:=(Ai (hS2.append hS1) (l:=D7) (by kernel_rfl) hB);obtain⟨B1,hS⟩:=hF2;clear hA hB hH hS1 hS2;obtain⟨C0_1,hSe⟩:=Ai hS (by kernel_rfl) hE;exact⟨C0_0,h7,ow1,inv1,np1,B1,C0_1,hSe⟩
theorem cJ {T:Tab}(hk0:∀u∈(L T 0),AT AF KB u)(pre0:((L T 0)).length=I T 1/\0<=I T 2/\I T 2<=I T 3/\I T 3<=I T 1)(h4:(I T 4)=I T 2+1)(hi1:(I T 1)<=140737488355328)(hS:AK T (Ab (BK 0 FT.ks) Fv))(hB:Ac T (HS.map En.be))(hH:Ac T ((BS Lc [.i,.l] Ou).map En.be)):
  (Lc).owes (Ou.map (Rf.eval T))/\AK T (hds 5 [.i,.l])/\((I T 2)+1<=I T 5/\((I T 5)<=I T 3\/I T 5=I T 2+1)/\((L T 6)).length=I T 1/\(∀u∈(L T 6),AT AF KB u)/\L T 6=Aw ltB (L T 0) (I T 2).toNat (I T 5).toNat)/\¬B T 40=true:=by
 refine Lf (nh:=5) (k:=2) (pcn:=40) (top:=65) (bes:=HS) (bos:=Vp) (nxt:=[.e 64,.e 10]) (inits:=[.e 4,.e 0]) (fv:=[2,1,3]) (tys:=[.i,.l]) (by kernel_rfl) rfl rfl rfl rfl hS (by kernel_rfl) hB (BV hH) (fun s=>(I T 2)+1<=(aI s 0)/\((aI s 0)<=I T 3\/(aI s 0)=I T 2+1)/\((aL s 1)).length=I T 1/\(∀u∈(aL s 1),AT AF KB u)/\(aL s 1)=Aw ltB (L T 0) (I T 2).toNat (aI s 0).toNat) (fun s=>((I T 3) - (aI s 0)).toNat) ?_ ?_
 .show (I T 2)+1<=I T 4/\((I T 4)<=I T 3\/I T 4=I T 2+1)/\((L T 0)).length=I T 1/\(∀u∈(L T 0),AT AF KB u)/\L T 0=Aw ltB (L T 0) (I T 2).toNat (I T 4).toNat;clear hS hB hH;rw[h4];exact⟨Int.le_refl _,.inr rfl,pre0.1,hk0,by rw[show ((I T 2)+1).toNat=(I T 2).toNat+1 by omega,IU (by omega)]⟩
 .intro T2 hfv hS2 hE inv;replace inv:(I T 2)+1<=I T2 5/\((I T2 5)<=I T 3\/I T2 5=I T 2+1)/\((L T2 6)).length=I T 1/\(∀u∈(L T2 6),AT AF KB u)/\L T2 6=Aw ltB (L T 0) (I T 2).toNat (I T2 5).toNat:=inv;have fv2:I T2 2=I T 2:=fvI (hfv 2 (by decide));have fv1:I T2 1=I T 1:=fvI (hfv 1 (by decide));have fv3:I T2 3=I T 3:=fvI (hfv 3 (by decide));clear hfv;clear hS hB hH;have g1:0<=I T2 2/\I T2 2<=I T2 3/\I T2 2+1<=I T2 5/\((I T2 5)<=I T2 3\/I T2 5=I T2 2+1)/\I T2 3<=I T2 1/\I T2 1<=140737488355328:=by
   obtain⟨v1,v2,v3,v4,v5⟩:=inv;rw[fv2,fv1,fv3];omega
  have g2:((L T2 6)).length=I T2 1/\∀u∈(L T2 6),AT AF KB u:=by
   obtain⟨v1,v2,v3,v4,v5⟩:=inv;rw[fv1];exact⟨v3,v4⟩
  obtain⟨C0_0,h7,ow1,inv1,np1,B1,C0_1,hSe⟩:=UR g1 g2 hS2 hE;clear hS2 hE;have hN:=B7 hSe (ts:=[.i,.l]) (rs:=[.e 64,.e 10]) (by kernel_rfl);clear hSe;have F0:=C0_0;clear C0_0;obtain⟨F1,B1⟩:=B1.cut;obtain⟨F2,B1⟩:=B1.cut;obtain⟨F3,B1⟩:=B1.cut;have F4:=B1;clear B1;have F5:=C0_1;clear C0_1
  suffices hz:(B T2 40=true->((I T 2)+1<=I T2 64/\((I T2 64)<=I T 3\/I T2 64=I T 2+1)/\((L T2 10)).length=I T 1/\(∀u∈(L T2 10),AT AF KB u)/\L T2 10=Aw ltB (L T 0) (I T 2).toNat (I T2 64).toNat))/\(B T2 40=true->((I T 3) - (I T2 64)).toNat < ((I T 3) - (I T2 5)).toNat) from
   let⟨nx,mz⟩:=hz;⟨hN,⟨(fun _=>ow1),trivial⟩,fun hp=>⟨nx hp,mz hp⟩⟩
  refine⟨?_,?_⟩
  .obtain⟨e7,-⟩:=F0;obtain⟨e11,-,-,-,e15,-,e17,-,-,-,-,-,-,-,-,e26,-⟩:=F1;obtain⟨e27,-,e29,-,-,-,-,-,-,e36,e37,e38,e39,e40,-⟩:=F2;obtain⟨e64,-⟩:=F5;replace e36:I T2 36=(if Ba (I T2 17) (I T2 29)=0 then Ba (I T2 15) (I T2 27) else Ba (I T2 17) (I T2 29)):=e36;simp only[AI,AP,zN,zR,w2P,zL] at e7 e11 e15 e17 e26 e27 e29 e37 e38 e39 e40 e64;obtain⟨v1,v2,v3,v4,v5⟩:=inv;obtain⟨w1,w2,w3⟩:=inv1;rw[fv2] at w1 w3;intro hp;have hb:=e40.1 hp;have h7:=e7.1 hb.1;have x64:=e64 (by omega) (by omega);obtain⟨z1,z2,z3,z4⟩:=w3 hb.1;have hdone:(L T2 10)=Q1 ltB ((L T2 6)) (I T 2).toNat (I T2 5).toNat:=by
    rw[z3];refine Vn (l:=L T2 6) (k:=((I T2 5) - (I T2 9)).toNat) (by omega) (by omega) (by omega) (fun q hq=>z4 q (by omega)) ?_;rcases Int.lt_or_le (I T 2) (I T2 9) with h9|h9
    .refine .inr fun hlt=>?_;obtain⟨m1,m2,m3⟩:=Jx (l:=L T2 6) (c:=L T2 10) (a:=(I T 2).toNat) (i:=(I T2 5).toNat) (j:=(I T2 9).toNat) (by omega) (by omega) (by omega) (by rw[show (I T2 5).toNat - (I T2 9).toNat=((I T2 5) - (I T2 9)).toNat by omega];exact z3);obtain⟨m4,m5⟩:=m3 (by omega);rw[show ((I T2 5) - (I T2 9)).toNat=(I T2 5).toNat - (I T2 9).toNat by omega,<-m4,<-m2] at hlt;have x26:=e26 (by omega) (by omega);have h36:(I T2 36) < 0:=by
      rw[e36,e15,e17,e27,e29,x26,show ((I T2 9) - 1).toNat=(I T2 9).toNat - 1 by omega];exact of_decide_eq_true hlt
     have h38:(B T2 38)=true:=e38.2 ⟨e11.2 (by rw[fv2];exact h9),e37.2 h36⟩;have:=hb.2;simp[h38] at this
    .exact .inl (by omega)
   refine⟨by omega,?_,by rw[<-fv1];exact z1,z2,?_⟩
   .rw[fv3] at h7;left;omega
   .rw[hdone,x64,show ((I T2 5)+1).toNat=(I T2 5).toNat+1 by omega,Re (by omega) (by rw[fv1] at*; omega),<-v5]
  .obtain⟨e7,-⟩:=F0;obtain⟨-,-,-,-,-,-,-,-,-,-,-,-,-,e40,-⟩:=F2;obtain⟨e64,-⟩:=F5;simp only[AI,AP,zN,zR,w2P] at e7 e40 e64;obtain⟨v1,v2,v3,v4,v5⟩:=inv;intro hp;have hb:=e40.1 hp;have h7:=e7.1 hb.1;rw[fv3] at h7;have x64:=e64 (by omega) (by omega);omega
theorem ij {T:Tab}(hl0:(L T 0).length<=140737488355328)(hk0:∀u∈(L T 0),AT AF KB u)(lo1:0<=I T 1)(pre0:((L T 0)).length=I T 1/\0<=I T 2/\I T 2<=I T 3/\I T 3<=I T 1)(h4:(I T 4)=I T 2+1)(hi1:(I T 1)<=140737488355328)(inv0:(I T 2)+1<=I T 5/\((I T 5)<=I T 3\/I T 5=I T 2+1)/\((L T 6)).length=I T 1/\(∀u∈(L T 6),AT AF KB u)/\L T 6=Aw ltB (L T 0) (I T 2).toNat (I T 5).toNat)(np0:¬B T 40=true)(h7:(B T 7)=true->I T 5 < I T 3)(inv1:(I T 2)<=I T 9/\I T 9<=I T 5/\((B T 7)=true->((L T 10)).length=I T 1/\(∀u∈(L T 10),AT AF KB u)/\L T 10=CE (((L T 6)).take (I T 2).toNat) (((((L T 6)).take (I T 5).toNat).drop (I T 2).toNat).reverse) (((L T 6)).drop ((I T 5).toNat+1)) (((L T 6)).getD (I T 5).toNat []) ((I T 5) - (I T 9)).toNat/\∀q:Nat,(q:Int) < I T 5 - (I T 9)->ltB (((L T 6)).getD (I T 5).toNat []) ((((((L T 6)).take (I T 5).toNat).drop (I T 2).toNat).reverse).getD q [])=true))(np1:¬B T 39=true)(g1:0<=I T 2/\I T 2<=I T 3/\I T 2+1<=I T 5/\((I T 5)<=I T 3\/I T 5=I T 2+1)/\I T 3<=I T 1/\I T 1<=140737488355328)(g2:((L T 6)).length=I T 1/\∀u∈(L T 6),AT AF KB u)(A0:AH T Fv)(C0_0:AH T FJ)(B1:AH T D7)(C0_1:AH T IY):
  ((L T 6)=(Aw ltB (L T 0) (I T 2).toNat (I T 3).toNat)):=by
 have F0:=A0;clear A0;have F1:=C0_0;clear C0_0;obtain⟨F2,B1⟩:=B1.cut;obtain⟨F3,B1⟩:=B1.cut;obtain⟨F4,B1⟩:=B1.cut;have F5:=B1;clear B1;have F6:=C0_1;clear C0_1
 .obtain⟨e7,-⟩:=F1;obtain⟨-,-,-,-,-,-,-,-,-,-,-,-,e39,e40,-⟩:=F3;simp only[AI,AP,zN,zR] at e7 e39 e40;obtain⟨v1,v2,v3,v4,v5⟩:=inv0;obtain⟨p1,p2,p3,p4⟩:=pre0;have h7:¬I T 5 < I T 3:=fun h=>by
   have hb:=e7.2 h;by_cases h38:(B T 38)=true
   .exact np1 (e39.2 ⟨hb,h38⟩)
   .exact np0 (e40.2 ⟨hb,by simpa using h38⟩)
  rw[v5];by_cases h8:(I T 5)=I T 3
  .rw[h8]
  .have h:(I T 5)=I T 2+1:=by omega
   rw[h,show ((I T 2)+1).toNat=(I T 2).toNat+1 by omega,IU (by omega),KK (by omega) (by omega)]
theorem fl:Ae Try.prog 144 FT:=by
 refine BH (l:=[(101,My)]) Bh (by simp only[wJ];exact⟨fS,fun _ h=>absurd h (by simp)⟩) hY (by kernel_rfl) fun T us hpre hT hul hS hBd hE=>?_;change us.length=4 at hul;obtain⟨⟨hl0,he0⟩,⟨lo1,hi1⟩,-⟩:=hBd;replace hl0:(L T 0).length<=140737488355328:=hl0;have hk0:∀u∈(L T 0),AT AF KB u:=fun u hu=>by
  obtain⟨i,hi⟩:=wP.1 hu;exact he0 i u hi
 replace lo1:0<=I T 1:=lo1;replace hi1:I T 1<=140737488355328:=hi1;have ha0:aL us 0=L T 0:=inL hT hul (by decide);have ha1:aI us 1=I T 1:=inI hT hul (by decide);have ha2:aI us 2=I T 2:=inI hT hul (by decide);have ha3:aI us 3=I T 3:=inI hT hul (by decide);have pre0:((L T 0)).length=I T 1/\0<=I T 2/\I T 2<=I T 3/\I T 3<=I T 1:=by
  have h:=hpre (.s "insB.p0",HP) (by simp[FT]);change HP us at h;unfold HP at h;simp only[ha0,ha1,ha2,ha3] at h;exact h
 clear hpre;rw[v7,v7,v7] at hE;have hA:=hE.left;replace hE:=hE.right;have hH:=hE.left;replace hE:=hE.right;have hB:=hE.left;replace hE:=hE.right;obtain⟨A0,hS1⟩:=Ai hS (by kernel_rfl) hA;have h4:=bW hl0 hk0 lo1 hi1 pre0 A0;obtain⟨ow0,hS2,inv0,np0⟩:=cJ hk0 pre0 h4 hi1 hS1 hB hH;have g1:0<=I T 2/\I T 2<=I T 3/\I T 2+1<=I T 5/\((I T 5)<=I T 3\/I T 5=I T 2+1)/\I T 3<=I T 1/\I T 1<=140737488355328:=by
  have fv2:I T 2=I T 2:=rfl;have fv1:I T 1=I T 1:=rfl;have fv3:I T 3=I T 3:=rfl;have inv:=inv0;obtain⟨v1,v2,v3,v4,v5⟩:=inv;rw[fv2,fv1,fv3];omega
 have g2:((L T 6)).length=I T 1/\∀u∈(L T 6),AT AF KB u:=by
  have fv2:I T 2=I T 2:=rfl;have fv1:I T 1=I T 1:=rfl;have fv3:I T 3=I T 3:=rfl;have inv:=inv0;obtain⟨v1,v2,v3,v4,v5⟩:=inv;rw[fv1];exact⟨v3,v4⟩
 obtain⟨C0_0,h7,ow1,inv1,np1,B1,C0_1,hSe⟩:=UR g1 g2 (hS2.append (C7 (fun _ _=>rfl) hS1)) hB;have hS:=hSe.append hS1;clear hA hB hH hS1 hS2 hSe;obtain⟨A2,hO⟩:=BG (tys:=[.l]) (rs:=bJ) hS (by kernel_rfl) hE;have q0:=ij hl0 hk0 lo1 pre0 h4 hi1 inv0 np0 h7 inv1 np1 g1 g2 A0 C0_0 B1 C0_1;refine⟨⟨(fun _=>ow0),trivial⟩,hO.trans ?_⟩;exact (lc (by show U.list (L T 6)= .list (JP us);unfold JP;rw[ha0,ha2,ha3];exact congrArg U.list q0) rfl)
end
section
open Go Go.Eng Go.Proofs
def PH:List U->List (List U):=fun us=>((aL us 0))
def Lw:List U->Prop:=fun us=>False
def PW:AV:={ sh:=[.one (k64),.one (k64),.one (k64),.cst (.fn (.func 101) [] [])],blks:=[],outs:=[(.s "symB.0",Eg PH)],c:= .tup [],m':=[.mrow 5 1 [k64,k64,k64,.bool,.str,.str,.bool,k64,k64] 38],pre:=[(.s "symB.p0",Lw)],row:=some ([k64,k64,k64,.bool,.str,.str,.bool,k64,k64],38) }
theorem fe:Ae Try.prog 145 PW:=by
 refine⟨fun _=>Oj,fun T us _ _ _ hp=>?_⟩;exact (hp (.s "symB.p0",Lw) (by simp[PW])).elim
end
section
open Go Go.Eng Go.Proofs
set_option maxHeartbeats 4000000
set_option maxRecDepth 100000
def Jp:List U->List (List U):=fun us=>(Aw ltB (aL us 0) 0 (aI us 2).toNat)
def Hz:List U->Prop:=fun us=>((aL us 0)).length=(aI us 1)/\(aI us 2)=(aI us 1)/\(aI us 1)<=20
def D0:AV:={ sh:=[.one (k64),.cst (.fn (.func 101) [] [])],blks:=[],outs:=[(.s "stabB.0",Eg Jp)],c:= .tup [],m':=[.mrow 3 1 [k64,k64,k64,.bool,.str,.str,.bool,k64,k64] 38],pre:=[(.s "stabB.p0",Hz)],row:=some ([k64,k64,k64,.bool,.str,.str,.bool,k64,k64],38) }
def GX:List En:=[]
def Vv:List En:=[⟨6,.le,[.e 4,.e 2]⟩,
 ⟨7,.not,[.e 6]⟩,
 ⟨8,.outL "insB.0" JP,[.e 5,.e 1,.e 3,.e 4]⟩,
 ⟨9,.w2 .i64 .add,[.e 4,.c (.int 20)]⟩]
def CY:List En:=Vv
def SB:List ObE:=[⟨some 6,.pre "insB.p0" HP,[.e 5,.e 1,.e 3,.e 4]⟩]
def J7:Ag:=mkD 3 3 CY 6 [.e 4,.e 9,.e 8] SB [1,2]
def M0:List Rf:=[.e 1,.e 2,.c (.int 0),.c (.int 20),.e 0]
def WK:List En:=[⟨10,.outL "insB.0" JP,[.e 5,.e 1,.e 3,.e 2]⟩]
def E3:List En:=WK
def Sw:List En:=[⟨15,.lt,[.e 13,.e 2]⟩,
 ⟨16,.and,[.e 7,.e 15]⟩,
 ⟨17,.and,[.e 7,.n 15]⟩,
 ⟨18,.w2 .i64 .mul,[.c (.int 2),.e 13]⟩]
def ES:List En:=Sw
def WD:List En:=[⟨22,.le,[.e 20,.e 2]⟩,
 ⟨23,.and,[.e 16,.e 22]⟩,
 ⟨24,.and,[.e 16,.n 22]⟩,
 ⟨25,.w2 .i64 .add,[.e 19,.e 13]⟩,
 ⟨26,.outL "symB.0" PH,[.e 21,.e 1,.e 19,.e 25,.e 20]⟩,
 ⟨27,.w2 .i64 .mul,[.c (.int 2),.e 13]⟩,
 ⟨28,.w2 .i64 .add,[.e 20,.e 27]⟩]
def DZ:List En:=WD
def SJ:List ObE:=[⟨some 23,.pre "symB.p0" Lw,[.e 21,.e 1,.e 19,.e 25,.e 20]⟩]
def H9:Ag:=mkD 19 3 DZ 23 [.e 20,.e 28,.e 26] SJ [13,1,16,2]
def KG:List Rf:=[.e 13,.e 1,.e 16,.e 2,.c (.int 0),.e 18,.e 14]
def S5:List En:=[⟨29,.w2 .i64 .add,[.e 19,.e 13]⟩,
 ⟨30,.lt,[.e 29,.e 2]⟩,
 ⟨31,.and,[.e 24,.e 30]⟩,
 ⟨32,.outL "symB.0" PH,[.e 21,.e 1,.e 19,.e 29,.e 2]⟩,
 ⟨33,.and,[.e 24,.n 30]⟩,
 ⟨34,.ite .l,[.e 30,.e 32,.e 21]⟩,
 ⟨35,.w2 .i64 .mul,[.e 13,.c (.int 2)]⟩]
def HW:List En:=S5
def GV:List En:=ES++((BS H9 [.i,.i,.l] KG)++(DZ++(HW)))
def ST:List ObE:=[⟨some 31,.pre "symB.p0" Lw,[.e 21,.e 1,.e 19,.e 29,.e 2]⟩,⟨some 16,.owes H9,[.e 13,.e 1,.e 16,.e 2,.c (.int 0),.e 18,.e 14]⟩]
def KQ:Ag:=mkD 11 4 GV 24 [.e 19,.e 20,.e 35,.e 34] ST [1,2,7]
def NG:List Rf:=[.e 1,.e 2,.e 7,.e 3,.e 4,.c (.int 20),.e 10]
def bD:List En:=[]
def fp:List ObE:=[⟨some 7,.owes KQ,[.e 1,.e 2,.e 7,.e 3,.e 4,.c (.int 20),.e 10]⟩,
 ⟨some 7,.pre "insB.p0" HP,[.e 5,.e 1,.e 3,.e 2]⟩,
 ⟨none,.owes J7,[.e 1,.e 2,.c (.int 0),.c (.int 20),.e 0]⟩]
def W1:List Rf:=[.e 14]
theorem gL:D0.sees W1 (D0.run Try.prog [(144,FT),(145,PW)] AW 3000 20 137)=some ((GX++((BS J7 [.i,.i,.l] M0)++(CY++(E3++((BS KQ [.i,.i,.i,.l] NG)++(GV++(bD))))))).map En.be,fp.map ObE.be,[]):=by kernel_rfl
theorem aT {T:Tab}(pre0:((L T 0)).length=I T 1/\I T 2=I T 1/\I T 1<=20)(hS:AK T (Ab (BK 0 D0.ks) GX))(hB:Ac T (CY.map En.be))(hH:Ac T ((BS J7 [.i,.i,.l] M0).map En.be)):
  (J7).owes (M0.map (Rf.eval T))/\AK T (hds 3 [.i,.i,.l])/\(((I T 3)=0/\I T 4=20/\L T 5=L T 0)\/((I T 3)=20/\I T 4=40/\I T 2=20/\L T 5=Aw ltB (L T 0) 0 20))/\¬B T 6=true:=by
 refine CK (nh:=3) (k:=3) (pcn:=6) (top:=10) (bes:=CY) (bos:=SB) (nxt:=[.e 4,.e 9,.e 8]) (inits:=[.c (.int 0),.c (.int 20),.e 0]) (fv:=[1,2]) (tys:=[.i,.i,.l]) (by kernel_rfl) rfl rfl rfl rfl hS (by kernel_rfl) (by kernel_rfl) hB (BV hH) (fun s=>((aI s 0)=0/\(aI s 1)=20/\(aL s 2)=L T 0)\/((aI s 0)=20/\(aI s 1)=40/\I T 2=20/\(aL s 2)=Aw ltB (L T 0) 0 20)) (fun s=>((I T 2)+1 - (aI s 1)).toNat) ?_ ?_
 .show ((0:Int)=0/\(20:Int)=20/\L T 0=L T 0)\/((0:Int)=20/\(20:Int)=40/\I T 2=20/\L T 0=Aw ltB (L T 0) 0 20);clear hS hB hH;exact .inl ⟨rfl,rfl,rfl⟩
 .intro T2 hfv hF inv;replace inv:((I T2 3)=0/\I T2 4=20/\L T2 5=L T 0)\/((I T2 3)=20/\I T2 4=40/\I T 2=20/\L T2 5=Aw ltB (L T 0) 0 20):=inv;clear hS hB hH;replace hF:AH T2 CY:=hF;have F0:=hF;clear hF;have fv1:I T2 1=I T 1:=fvI (hfv 1 (by decide));have fv2:I T2 2=I T 2:=fvI (hfv 2 (by decide));clear hfv
  suffices hz:(B T2 6=true->((L T2 5)).length=I T2 1/\0<=I T2 3/\I T2 3<=I T2 4/\I T2 4<=I T2 1)/\(B T2 6=true->(((I T2 4)=0/\I T2 9=20/\L T2 8=L T 0)\/((I T2 4)=20/\I T2 9=40/\I T 2=20/\L T2 8=Aw ltB (L T 0) 0 20)))/\(B T2 6=true->((I T 2)+1 - (I T2 9)).toNat < ((I T 2)+1 - (I T2 4)).toNat) from
   let⟨r0,nx,mz⟩:=hz;⟨⟨r0,trivial⟩,fun hp=>⟨nx hp,mz hp⟩⟩
  refine⟨?_,?_,?_⟩
  .obtain⟨e6,-⟩:=F0;simp only[AI,zR] at e6;intro hp;have h6:=e6.1 hp;rw[fv2] at h6;rcases inv with⟨v1,v2,v3⟩|⟨v1,v2,v3,v4⟩
   .rw[fv1,v3];omega
   .omega
  .obtain⟨e6,-,e8,e9,-⟩:=F0;replace e8:L T2 8=(Aw ltB (L T2 5) (I T2 3).toNat (I T2 4).toNat):=e8;simp only[AI,zR,w2P] at e6 e9;intro hp;have h6:=e6.1 hp;rw[fv2] at h6;have x9:=e9 (by omega) (by omega);rcases inv with⟨v1,v2,v3⟩|⟨v1,v2,v3,v4⟩
   .refine .inr ⟨v2,by omega,by omega,?_⟩;rw[e8,v1,v2,v3];rfl
   .omega
  .obtain⟨e6,-,-,e9,-⟩:=F0;simp only[AI,zR,w2P] at e6 e9;intro hp;have h6:=e6.1 hp;rw[fv2] at h6;have x9:=e9 (by omega) (by omega);omega
theorem YX {T:Tab}(hl0:(L T 0).length<=140737488355328)(hk0:∀u∈(L T 0),AT AF KB u)(lo1:0<=I T 1)(hi1:I T 1<=140737488355328)(pre0:((L T 0)).length=I T 1/\I T 2=I T 1/\I T 1<=20)(inv0:((I T 3)=0/\I T 4=20/\L T 5=L T 0)\/((I T 3)=20/\I T 4=40/\I T 2=20/\L T 5=Aw ltB (L T 0) 0 20))(np0:¬B T 6=true)(B0:AH T CY)(A1:AH T E3):
  ((I T 2)<=20):=by
 have F0:=B0;clear B0;have F1:=A1;clear A1;have h20:(I T 2)<=20:=by
  omega
 exact h20
theorem Y8 {T:Tab}(g1:(I T 13)=20/\I T 2<=20)(C1_0:AH T ES):
  (¬B T 16=true):=by
 have F0:=C1_0;clear C1_0;have g2:¬B T 16=true:=by
  obtain⟨e15,e16,-⟩:=F0;simp only[AI,AP,zR] at e15 e16;intro hp;have h15:=e15.1 (e16.1 hp).2;omega
 exact g2
theorem Zm {T:Tab}(g2:¬B T 16=true)(hS:AK T (Ab (hds 11 [.i,.i,.i,.l]++FQ [1,2,7] (Ab (Ab (hds 3 [.i,.i,.l]++(Ab (BK 0 D0.ks) GX)) CY) E3)) ES))(hB:Ac T (DZ.map En.be))(hH:Ac T ((BS H9 [.i,.i,.l] KG).map En.be)):
  (H9).owes (KG.map (Rf.eval T))/\AK T (hds 19 [.i,.i,.l])/\(True)/\¬B T 23=true:=by
 refine CK (nh:=19) (k:=3) (pcn:=23) (top:=29) (bes:=DZ) (bos:=SJ) (nxt:=[.e 20,.e 28,.e 26]) (inits:=[.c (.int 0),.e 18,.e 14]) (fv:=[13,1,16,2]) (tys:=[.i,.i,.l]) (by kernel_rfl) rfl rfl rfl rfl hS (by kernel_rfl) (by kernel_rfl) hB (BV hH) (fun s=>True) (fun s=>((aI s 1)).toNat) ?_ ?_
 .show True;clear hS hB hH;trivial
 .intro T2 hfv hF inv;replace inv:True:=inv;clear hS hB hH;replace hF:AH T2 DZ:=hF;have F0:=hF;clear hF;have fv13:I T2 13=I T 13:=fvI (hfv 13 (by decide));have fv1:I T2 1=I T 1:=fvI (hfv 1 (by decide));have fv16:B T2 16=B T 16:=fvB (hfv 16 (by decide));have fv2:I T2 2=I T 2:=fvI (hfv 2 (by decide));clear hfv
  suffices hz:(B T2 23=true->False)/\(B T2 23=true->(True))/\(B T2 23=true->((I T2 28)).toNat < ((I T2 20)).toNat) from
   let⟨r0,nx,mz⟩:=hz;⟨⟨r0,trivial⟩,fun hp=>⟨nx hp,mz hp⟩⟩
  refine⟨?_,?_,?_⟩
  .obtain⟨-,e23,-⟩:=F0;simp only[AI,AP,zR] at e23;intro hp;exact absurd (e23.1 hp).1 (by rw[fv16];exact g2)
  .obtain⟨-,e23,-⟩:=F0;simp only[AI,AP,zR] at e23;intro hp;exact absurd (e23.1 hp).1 (by rw[fv16];exact g2)
  .obtain⟨-,e23,-⟩:=F0;simp only[AI,AP,zR] at e23;intro hp;exact absurd (e23.1 hp).1 (by rw[fv16];exact g2)
theorem Sd {T:Tab}(g1:(I T 13)=20/\I T 2<=20)(hS:AK T (hds 11 [.i,.i,.i,.l]++FQ [1,2,7] (Ab (Ab (hds 3 [.i,.i,.l]++(Ab (BK 0 D0.ks) GX)) CY) E3)))(hE:Ac T (GV.map En.be)):
  (AH T ES)/\(¬B T 16=true)/\((H9).owes (KG.map (Rf.eval T)))/\(True)/\(¬B T 23=true)/\(AH T DZ)/\(AH T HW)/\AK T (Ab (Ab (hds 19 [.i,.i,.l]++(Ab (hds 11 [.i,.i,.i,.l]++FQ [1,2,7] (Ab (Ab (hds 3 [.i,.i,.l]++(Ab (BK 0 D0.ks) GX)) CY) E3)) ES)) DZ) HW):=by
 unfold GV at hE;rw[v7,v7,v7] at hE;have hA:=hE.left;replace hE:=hE.right;have hH:=hE.left;replace hE:=hE.right;have hB:=hE.left;replace hE:=hE.right;obtain⟨C1_0,hS1⟩:=Ai hS (by kernel_rfl) hA;have g2:=Y8 g1 C1_0;obtain⟨ow2,hS2,inv2,np2⟩:=Zm g2 hS1 hB hH;have hF2:=(Ai (hS2.append hS1) (l:=DZ) (by kernel_rfl) hB);obtain⟨B2,hS⟩:=hF2;clear hA hB hH hS1 hS2;obtain⟨C1_1,hSe⟩:=Ai hS (by kernel_rfl) hE;exact⟨C1_0,g2,ow2,inv2,np2,B2,C1_1,hSe⟩
theorem aQ {T:Tab}(h20:(I T 2)<=20)(hS:AK T (Ab (Ab (hds 3 [.i,.i,.l]++(Ab (BK 0 D0.ks) GX)) CY) E3))(hB:Ac T (GV.map En.be))(hH:Ac T ((BS KQ [.i,.i,.i,.l] NG).map En.be)):
  (KQ).owes (NG.map (Rf.eval T))/\AK T (hds 11 [.i,.i,.i,.l])/\((I T 13)=20/\L T 14=L T 10)/\¬B T 24=true:=by
 refine Lf (nh:=11) (k:=4) (pcn:=24) (top:=36) (bes:=GV) (bos:=ST) (nxt:=[.e 19,.e 20,.e 35,.e 34]) (inits:=[.e 3,.e 4,.c (.int 20),.e 10]) (fv:=[1,2,7]) (tys:=[.i,.i,.i,.l]) (by kernel_rfl) rfl rfl rfl rfl hS (by kernel_rfl) hB (BV hH) (fun s=>(aI s 2)=20/\(aL s 3)=L T 10) (fun s=>((aI s 2)).toNat) ?_ ?_
 .show (20:Int)=20/\L T 10=L T 10;clear hS hB hH;exact⟨rfl,rfl⟩
 .intro T2 hfv hS2 hE inv;replace inv:(I T2 13)=20/\L T2 14=L T 10:=inv;have fv1:I T2 1=I T 1:=fvI (hfv 1 (by decide));have fv2:I T2 2=I T 2:=fvI (hfv 2 (by decide));have fv7:B T2 7=B T 7:=fvB (hfv 7 (by decide));clear hfv;clear hS hB hH;have g1:(I T2 13)=20/\I T2 2<=20:=by
   rw[fv2];exact⟨inv.1,h20⟩
  obtain⟨C1_0,g2,ow2,inv2,np2,B2,C1_1,hSe⟩:=Sd g1 hS2 hE;clear hS2 hE;have hN:=B7 hSe (ts:=[.i,.i,.i,.l]) (rs:=[.e 19,.e 20,.e 35,.e 34]) (by kernel_rfl);clear hSe;have F0:=C1_0;clear C1_0;have F1:=B2;clear B2;have F2:=C1_1;clear C1_1
  suffices hz:(B T2 31=true->False)/\(B T2 24=true->((I T2 35)=20/\L T2 34=L T 10))/\(B T2 24=true->((I T2 35)).toNat < ((I T2 13)).toNat) from
   let⟨r0,nx,mz⟩:=hz;⟨hN,⟨r0,(fun _=>ow2),trivial⟩,fun hp=>⟨nx hp,mz hp⟩⟩
  refine⟨?_,?_,?_⟩
  .obtain⟨e15,e16,-⟩:=F0;obtain⟨-,-,e24,-⟩:=F1;obtain⟨-,-,e31,-⟩:=F2;simp only[AI,AP,zN,zR] at e15 e16 e24 e31;intro hp;have h16:=e15.1 (e16.1 (e24.1 (e31.1 hp).1).1).2;omega
  .obtain⟨e15,e16,-⟩:=F0;obtain⟨-,-,e24,-⟩:=F1;simp only[AI,AP,zN,zR] at e15 e16 e24;intro hp;have h16:=e15.1 (e16.1 (e24.1 hp).1).2;omega
  .obtain⟨e15,e16,-⟩:=F0;obtain⟨-,-,e24,-⟩:=F1;simp only[AI,AP,zN,zR] at e15 e16 e24;intro hp;have h16:=e15.1 (e16.1 (e24.1 hp).1).2;omega
theorem gJ {T:Tab}(hl0:(L T 0).length<=140737488355328)(hk0:∀u∈(L T 0),AT AF KB u)(lo1:0<=I T 1)(hi1:I T 1<=140737488355328)(pre0:((L T 0)).length=I T 1/\I T 2=I T 1/\I T 1<=20)(inv0:((I T 3)=0/\I T 4=20/\L T 5=L T 0)\/((I T 3)=20/\I T 4=40/\I T 2=20/\L T 5=Aw ltB (L T 0) 0 20))(np0:¬B T 6=true)(h20:(I T 2)<=20)(inv1:(I T 13)=20/\L T 14=L T 10)(np1:¬B T 24=true)(g2:¬B T 16=true)(inv2:True)(np2:¬B T 23=true)(g1:(I T 13)=20/\I T 2<=20)(B0:AH T CY)(A1:AH T E3)(C1_0:AH T ES)(B2:AH T DZ)(C1_1:AH T HW):
  ((L T 14)=(Aw ltB (L T 0) 0 (I T 2).toNat))/\
  (B T 7=true->((L T 5)).length=I T 1/\0<=I T 3/\I T 3<=I T 2/\I T 2<=I T 1):=by
 have F0:=B0;clear B0;have F1:=A1;clear A1;have F2:=C1_0;clear C1_0;have F3:=B2;clear B2;have F4:=C1_1;clear C1_1;refine⟨?_,?_⟩
 .obtain⟨e10,-⟩:=F1;replace e10:L T 10=(Aw ltB (L T 5) (I T 3).toNat (I T 2).toNat):=e10;rw[inv1.2,e10];rcases inv0 with⟨v1,v2,v3⟩|⟨v1,v2,v3,v4⟩
  .rw[v1,v3];rfl
  .rw[v1,v3];show Aw ltB (L T 5) 20 20=Aw ltB (L T 0) 0 20;rw[KK (vr _) (vr _),v4]
 .intro hp;rcases inv0 with⟨v1,v2,v3⟩|⟨v1,v2,v3,v4⟩
  .rw[v3];omega
  .rw[v4,Th (wX _) (by omega)];omega
theorem dC:Ae Try.prog 137 D0:=by
 refine BH (l:=[(144,FT),(145,PW)]) Bh (by simp only[wJ];exact⟨fl,fe,fun _ h=>absurd h (by simp)⟩) gL (by kernel_rfl) fun T us hpre hT hul hS hBd hE=>?_;change us.length=3 at hul;obtain⟨⟨hl0,he0⟩,⟨lo1,hi1⟩,-⟩:=hBd;replace hl0:(L T 0).length<=140737488355328:=hl0;have hk0:∀u∈(L T 0),AT AF KB u:=fun u hu=>by
  obtain⟨i,hi⟩:=wP.1 hu;exact he0 i u hi
 replace lo1:0<=I T 1:=lo1;replace hi1:I T 1<=140737488355328:=hi1;have ha0:aL us 0=L T 0:=inL hT hul (by decide);have ha1:aI us 1=I T 1:=inI hT hul (by decide);have ha2:aI us 2=I T 2:=inI hT hul (by decide);have pre0:((L T 0)).length=I T 1/\I T 2=I T 1/\I T 1<=20:=by
  have h:=hpre (.s "stabB.p0",Hz) (by simp[D0]);change Hz us at h;unfold Hz at h;simp only[ha0,ha1,ha2] at h;exact h
 clear hpre;rw[v7,v7,v7,v7,v7,v7] at hE;have hA:=hE.left;replace hE:=hE.right;have hH:=hE.left;replace hE:=hE.right;have hB:=hE.left;replace hE:=hE.right;obtain⟨A0,hS1⟩:=Ai hS (by kernel_rfl) hA;obtain⟨ow0,hS2,inv0,np0⟩:=aT pre0 hS1 hB hH;have hF2:=(Ai (hS2.append hS1) (l:=CY) (by kernel_rfl) hB);obtain⟨B0,hS⟩:=hF2;clear hA hB hH hS1 hS2;have hA:=hE.left;replace hE:=hE.right;have hH:=hE.left;replace hE:=hE.right;have hB:=hE.left;replace hE:=hE.right;obtain⟨A1,hS1⟩:=Ai hS (by kernel_rfl) hA;have h20:=YX hl0 hk0 lo1 hi1 pre0 inv0 np0 B0 A1;obtain⟨ow1,hS2,inv1,np1⟩:=aQ h20 hS1 hB hH;have g1:(I T 13)=20/\I T 2<=20:=by
  have fv1:I T 1=I T 1:=rfl;have fv2:I T 2=I T 2:=rfl;have fv7:B T 7=B T 7:=rfl;have inv:=inv1;rw[fv2];exact⟨inv.1,h20⟩
 obtain⟨C1_0,g2,ow2,inv2,np2,B2,C1_1,hSe⟩:=Sd g1 (hS2.append (C7 (fun _ _=>rfl) hS1)) hB;have hS:=hSe.append hS1;clear hA hB hH hS1 hS2 hSe;obtain⟨A3,hO⟩:=BG (tys:=[.l]) (rs:=W1) hS (by kernel_rfl) hE;obtain⟨q0,r0⟩:=gJ hl0 hk0 lo1 hi1 pre0 inv0 np0 h20 inv1 np1 g2 inv2 np2 g1 B0 A1 C1_0 B2 C1_1;refine⟨⟨(fun _=>ow1),r0,(fun _=>ow0),trivial⟩,hO.trans ?_⟩;exact (lc (by show U.list (L T 14)= .list (Jp us);unfold Jp;rw[ha0,ha2];exact congrArg U.list q0) rfl)
def Je:List U->List (List U):=fun us=>(C5 ltB (aL us 0))
def HA:List U->Prop:=fun us=>((aL us 0)).length<=20
def LA:AV:={ sh:=[.one (.list [k64,k64,k64,.bool,.str,.str,.bool,k64,k64]),.cst (.fn (.func 101) [] [])],blks:=[],outs:=[(.s "ordB.0",Eg Je)],c:= .ro 1 [k64,k64,k64,.bool,.str,.str,.bool,k64,k64],m':=[],pre:=[(.s "ordB.p0",HA)] }
def ZA:List En:=[⟨1,.id .l,[.c (.list [])]⟩,
 ⟨2,.id .i,[.c (.int 0)]⟩,
 ⟨3,.app,[.e 1,.e 0]⟩,
 ⟨4,.len,[.e 3]⟩,
 ⟨5,.outL "stabB.0" Jp,[.e 3,.e 4,.e 4]⟩]
def Ui:List En:=ZA
def iI:List ObE:=[⟨none,.pre "stabB.p0" Hz,[.e 3,.e 4,.e 4]⟩,
 ⟨none,.fits 88,[.e 1,.e 0]⟩]
def an:List Rf:=[.e 5]
theorem g9:LA.sees an (LA.runC Try.prog Kn [(137,D0)] AW 3000 20 100)=some ((Ui).map En.be,iI.map ObE.be,[]):=by kernel_rfl
theorem gb {T:Tab}(hl0:(L T 0).length<=140737488355328)(hk0:∀u∈(L T 0),AT AF KB u)(pre0:((L T 0)).length<=20)(A0:AH T Ui):
  ((L T 5)=(C5 ltB (L T 0)))/\
  (((L T 3)).length=I T 4/\I T 4=I T 4/\I T 4<=20)/\
  ((((L T 1)).length+((L T 0)).length)*88<=140737488355328):=by
 have F0:=A0;clear A0;refine⟨?_,?_,?_⟩
 .obtain⟨e1,-,e3,e4,e5,-⟩:=F0;replace e5:L T 5=(Aw ltB (L T 3) 0 (I T 4).toNat):=e5;simp only[AI,AP,zR,zL,zS] at e1 e3 e4;have h3:(L T 3)=L T 0:=by rw[e3,e1];rfl
  rw[e5,e4,h3];exact Ug (by omega)
 .obtain⟨e1,-,e3,e4,-⟩:=F0;simp only[AI,AP,zR,zL,zS] at e1 e3 e4;have h3:(L T 3)=L T 0:=by rw[e3,e1];rfl
  refine⟨e4.symm,rfl,?_⟩;rw[e4,h3];omega
 .obtain⟨e1,-⟩:=F0;simp only[AI,zR,zL,zS] at e1;rw[e1];show (0+_)*_<=_;omega
theorem fq:Ae Try.prog 100 LA:=by
 refine LM Ju (l:=[(137,D0)]) Bh (by simp only[wJ];exact⟨dC,fun _ h=>absurd h (by simp)⟩) g9 (by kernel_rfl) fun T us hpre hT hul hS hBd hE=>?_;change us.length=1 at hul;obtain⟨⟨hl0,he0⟩,-⟩:=hBd;replace hl0:(L T 0).length<=140737488355328:=hl0;have hk0:∀u∈(L T 0),AT AF KB u:=fun u hu=>by
  obtain⟨i,hi⟩:=wP.1 hu;exact he0 i u hi
 have ha0:aL us 0=L T 0:=inL hT hul (by decide);have pre0:((L T 0)).length<=20:=by
  have h:=hpre (.s "ordB.p0",HA) (by simp[LA]);change HA us at h;unfold HA at h;simp only[ha0] at h;exact h
 clear hpre
 skip
 obtain⟨A0,hO⟩:=BG (tys:=[.l]) (rs:=an) hS (by kernel_rfl) hE;obtain⟨q0,r0,r1⟩:=gb hl0 hk0 pre0 A0;refine⟨⟨(fun _=>r0),(fun _=>r1),trivial⟩,hO.trans ?_⟩;exact (lc (by show U.list (L T 5)= .list (Je us);unfold Je;rw[ha0];exact congrArg U.list q0) rfl)
def Me:List U->List (List U):=fun us=>Df (aL us 0)
def Nd:List U->Prop:=fun us=>(aL us 0).length<=20
def GI:AV:={ sh:=[.one (.list [k64,k64,k64,.bool,.str,.str,.bool,k64,k64])],blks:=[],outs:=[(.s "books.0",Eg Me)],c:= .ro 1 [k64,k64,k64,.bool,.str,.str,.bool,k64,k64],m':=[],pre:=[(.s "books.p0",Nd)] }
def ew:List En:=[⟨44,.and,[.e 6,.e 38]⟩,⟨45,.and,[.e 6,.n 38]⟩,⟨46,.row 1 9 [.i,.i,.i,.b,.s,.s,.b,.i,.i],[.e 35,.e 36,.e 37,.e 38,.e 39,.e 40,.e 41,.e 42,.e 43]⟩,⟨47,.app,[.e 34,.e 46]⟩,⟨48,.ite .l,[.e 38,.e 34,.e 47]⟩,⟨49,.ite .l,[.e 38,.c (.list []),.e 46]⟩]
def eT:List ObE:=[⟨some 45,.fits 88,[.e 34,.e 46]⟩]
def dW:List En:=[⟨35,.outL "ordB.0" Je,[.e 34]⟩]
def cR:List ObE:=[⟨some 6,.pre "ordB.p0" HA,[.e 34]⟩]
theorem gO:(TD Try.prog (EQ Try.prog (UJ Try.prog Kn [(100,LA)]) AW 3000 20) (AW 65) { Ys.none with mu:=(AW 65).mu } 3000 rgB Try.f65 GI.args GI.m GI.n).bind (Vb GI [.e 35])=
  some ((some 6,34,4,1),(some 6,48),((Gl++((BS Gu [.i,.l] Ib)++(Dh++(PY)))).map En.be,VQ.map ObE.be),(ew.map En.be,eT.map ObE.be),(dW.map En.be,cR.map ObE.be),[]):=by kernel_rfl
theorem bf (l:List (List U)):((List.range l.length).map fun j=>l.getD j [])=l:=by
 refine List.ext_getElem? fun i=>?_;rw[wW];rcases wD i l.length with h|h
 .rw[List.getElem?_range h,vt h];simp[h]
 .rw[wV (by simpa using h),wV h];rfl
theorem ct:Ae Try.prog 65 GI:=by
 refine WV (F:=C3) Ju Bh (l:=[(100,LA)]) (by simp only[wJ];exact⟨fq,fun _ h=>absurd h (by simp)⟩) iB Try.func65 fB (by kernel_rfl) gO (by kernel_rfl) fun T us hpre hT hul hS hBd hE=>?_;obtain⟨h1,h2⟩:=cE T us (fun p hp=>absurd hp (by simp[Fz])) hT hul hS hBd hE;have hx:T.get 4= .list (Bv (aL us 0)):=(List.cons.inj h2).1;have hl:(T 4).toL=Bv (aL us 0):=congrArg U.toL hx;have h20:(aL us 0).length<=20:=hpre (.s "books.p0",Nd) (by simp[GI]);have ha0:aL us 0=L T 0:=inL hT hul (by decide);have hk0:∀u∈L T 0,AT AF KB u:=fun u hu=>by
  obtain⟨i,hi⟩:=wP.1 hu;exact hBd.1.2 i u hi
 have hll:=U0 (l:=aL us 0);refine⟨h1,fun hpc=>⟨fun is i r out k1 k2 k3 k4 k5 k6 k7 k8 hE2=>?_,fun is k1 k2 hE4=>?_⟩⟩
 .rw[hl] at k3 k5 k6;obtain⟨u,hu,hul2⟩:=(Rc (l:=aL us 0)).row r (List.mem_of_getElem? k5);rw[ha0] at hul2;have hku:=hk0 u hul2;obtain⟨e44,e45,e46,e47,e48,e49,_⟩:=hE2;have h34:T.get 34= .list out:=k7;have hrow:[T.get 35,T.get 36,T.get 37,T.get 38,T.get 39,T.get 40,T.get 41,T.get 42,T.get 43]=u:=by
   have hul9:=dt hku;have hd:r.drop 1=u:=by rw[hu];rfl
   have key:∀j,j < 9->T.get (35+j)=u.getD j default:=fun j hj=>by
    have hj2:j < u.length:=by omega
    have:=k8 j (u[j]) (by rw[hd];exact vt hj2);rw[show 35+j=34+1+j by omega,this];simp[hj2]
   rw[key 0 (by omega),key 1 (by omega),key 2 (by omega),key 3 (by omega),key 4 (by omega),key 5 (by omega),key 6 (by omega),key 7 (by omega),key 8 (by omega)]
   match u,hul9 with
   |[a,b,c,d,e,f,g,h,i],_=>rfl
  have h46:T.get 46= .list [u]:=by
   rw[<-hrow];exact e46
  have hout:out.length<=20:=by
   rw[k6];have h3:=O8 (m:=is.map fun j=>(Bv (aL us 0)).getD j []);rw[List.length_map] at h3;have:=JS _ is k2 k3;omega
  have hlen46:lR T (.e 46)=[u]:=by show (T.get 46).toL=_;rw[h46];rfl
  have hlen34:lR T (.e 34)=out:=by show (T.get 34).toL=_;rw[h34];rfl
  refine⟨⟨fun _=>?_,trivial⟩,?_⟩
  .show ((lR T (.e 34)).length+(lR T (.e 46)).length)*88<=_;rw[hlen34,hlen46];show (out.length+1)*88<=_;omega
  .have hb:uB r 4=(T.get 38).toB:=by
    rw[hu,<-hrow];rfl
   have h47:T.get 47= .list (out++[u]):=by
    have:T.get 47=U.list ((T.get 34).toL++(T.get 46).toL):=e47;rw[this,h34,h46];rfl
   have h48:T.get 48=bif (T.get 38).toB then T.get 34 else T.get 47:=e48
   show T.get 48=_;rw[h48];unfold C3;rw[hb];cases (T.get 38).toB with
   |true=>simp only[cond_true,if_true];rw[h34,List.append_nil]
   |false=>
    simp only[cond_false,wM,if_false];rw[h47,hu];rfl
 .rw[hl] at k1 k2;have hys:T.get 34= .list ((is.map fun j=>(Bv (aL us 0)).getD j []).flatMap C3):=k2;have hperm:((is.map fun j=>(Bv (aL us 0)).getD j []).flatMap C3).Perm ((Bv (aL us 0)).flatMap C3):=by
   have h3:=k1.map fun j=>(Bv (aL us 0)).getD j [];rw[bf] at h3;exact h3.flatMap_right C3
  have h35:T.get 35=Eg Je [T.get 34]:=hE4.1;have ho:T.get 35= .list (Df (aL us 0)):=by
   rw[h35,hys];show U.list (C5 ltB _)=_;exact congrArg U.list (am hperm)
  refine⟨⟨fun _=>?_,trivial⟩,?_⟩
  .show HA [T.get 34];rw[hys];show ((is.map fun j=>(Bv (aL us 0)).getD j []).flatMap C3).length<=20;have:=hperm.length_eq;have:=O8 (m:=Bv (aL us 0));omega
  .show [T.get 35]=[Eg Me us];rw[ho];rfl
def GC:List U->Int:=fun us=>(Ba (aI us 0) (aI us 1))
def Mw:AV:={ sh:=[.one (k64),.one (k64)],blks:=[],outs:=[(.s "cmpJ.0",Bl GC)],c:=(C4 2),m':=[],pre:=[] }
def Xx:List En:=[⟨2,.lt,[.e 0,.e 1]⟩,
 ⟨3,.not,[.e 2]⟩,
 ⟨4,.lt,[.e 1,.e 0]⟩,
 ⟨5,.and,[.e 3,.e 4]⟩,
 ⟨6,.and,[.e 3,.n 4]⟩,
 ⟨7,.ite .i,[.e 5,.c (.int 1),.c (.int 0)]⟩,
 ⟨8,.or,[.e 5,.e 6]⟩,
 ⟨9,.ite .i,[.e 2,.c (.int (-1)),.e 7]⟩,
 ⟨10,.or,[.e 2,.e 8]⟩]
def TQ:List En:=Xx
def iH:List ObE:=[]
def Zf:List Rf:=[.e 9]
theorem iV:Mw.sees Zf (Mw.run Try.prog [] AW 3000 20 124)=some ((TQ).map En.be,iH.map ObE.be,[]):=by kernel_rfl
theorem gc {T:Tab}(A0:AH T TQ):
  ((I T 9)=(Ba (I T 0) (I T 1))):=by
 have F0:=A0;clear A0
 .obtain⟨e2,e3,e4,e5,-,e7,-,e9,-⟩:=F0;simp only[AI,AP,zR,zL,zS] at e2 e3 e4 e5 e7 e9;unfold Ba;rw[e9,e7];by_cases h1:(I T 0) < I T 1
  .rw[if_pos (e2.2 h1),if_pos h1]
  .have h2:¬B T 2=true:=fun a=>h1 (e2.1 a);rw[if_neg h2,if_neg h1];by_cases h3:(I T 1) < I T 0
   .rw[if_pos (e5.2 ⟨e3.2 h2,e4.2 h3⟩),if_pos h3]
   .rw[if_neg (fun a=>h3 (e4.1 (e5.1 a).2)),if_neg h3]
theorem gS:Ae Try.prog 124 Mw:=by
 refine BH (l:=[]) Bh (by intro p h;exact absurd h (by simp)) iV (by kernel_rfl) fun T us hpre hT hul hS hBd hE=>?_;change us.length=2 at hul;clear hBd;have ha0:aI us 0=I T 0:=inI hT hul (by decide);have ha1:aI us 1=I T 1:=inI hT hul (by decide);clear hpre
 skip
 obtain⟨A0,hO⟩:=BG (tys:=[.i]) (rs:=Zf) hS (by kernel_rfl) hE;have q0:=gc A0;refine⟨trivial,hO.trans ?_⟩;exact (lc (by show U.int (I T 9)= .int (GC us);unfold GC;rw[ha0,ha1];exact congrArg U.int q0) rfl)
end
section
open Go Go.Eng Go.Proofs Go.RowKit Go.Lib
def MB:List U->Int:=fun us=>(Kb (aS us 0) (aS us 1))
def Oq:AV:={ sh:=[.one (.str),.one (.str)],blks:=[],outs:=[(.s "strcmp.0",Bl MB)],c:=(.i .i64 (-1) 1 2),m':=[],pre:=[] }
set_option maxHeartbeats 1000000 in
set_option maxRecDepth 100000 in
theorem aV (a b:ByteArray)(w:World):
  Calls Try.prog 141 #[.string a,.string b] w fun e w'=>e= .returned (.int .i64 (Lib.compareBytes a.data.toList b.data.toList))/\w'=w:=by
 go_enter Try.func141,Try.ntmps141
 go_wp2
 rw[run_callFunc_extern Try.func147 (by kernel_rfl) (by kernel_rfl) (by kernel_rfl) (e:=Extern.BytealgCompare.compare) (by kernel_rfl),Lib.run_compareString];simp only[Result.andThen];rw[Oper.upon_value]
 go_wp2
 go_ret
 exact⟨rfl,rfl⟩
set_option maxHeartbeats 1000000 in
theorem UU (a b:ByteArray)(w:World):
  Calls Try.prog 129 #[.string a,.string b] w fun e w'=>e= .returned (.int .i64 (Lib.compareBytes a.data.toList b.data.toList))/\w'=w:=by
 go_enter Try.func129,Try.ntmps129
 go_wp2_with (go_at_call 141;refine (aV _ _ _).mono ?_;rintro e w' ⟨rfl,rfl⟩)
 go_ret
 exact⟨rfl,rfl⟩
theorem Z1:Ae Try.prog 129 Oq:=by
 refine PZ rfl rfl ⟨Try.f129,Try.func129,by kernel_rfl,by kernel_rfl⟩ fun T us hl hT hp ρ w vs hv=>?_;obtain⟨v,vs',rfl,⟨_,s,hs,rfl,hz⟩,v2,vs2,rfl,⟨_,s2,hs2,rfl,hz2⟩,rfl⟩:=hv;have hl1:us.length=2:=hl;refine (UU s s2 w).mono fun e w' ⟨h1,h2⟩=>⟨_,h1,by rw[h2];exact Below.refl _ _,show 2 < 3 by decide,Kb s s2,?_,rfl,?_⟩
 .have h3:aS us 0=s:=inS (T:=T) (us:=us) (n:=2) (j:=0) (fun j u hj=>hT j u (by unfold AV.us;rw[wE (vu.1 hj).1];exact hj)) hl1 (by decide) |>.trans (by unfold S;rw[show T.get 0= .str s from hs];rfl)
  have h3':aS us 1=s2:=inS (T:=T) (us:=us) (n:=2) (j:=1) (fun j u hj=>hT j u (by unfold AV.us;rw[wE (vu.1 hj).1];exact hj)) hl1 (by decide) |>.trans (by unfold S;rw[show T.get 1= .str s2 from hs2];rfl)
  have h4:=hT 2 (Bl MB us) (by unfold AV.us;rw[wF (by omega),hl1];rfl);rw[h4];show U.int (Kb (aS us 0) (aS us 1))=_;rw[h3,h3']
 .exact f9 s s2
end
section
open Go Go.Eng Go.Proofs
set_option maxHeartbeats 4000000
set_option maxRecDepth 100000
def HZ:List U->Int:=fun us=>(plN (aI us 1) (aI us 3) (aI us 4) (aI us 5) (aS us 0) (aI us 7) (aI us 9) (aI us 10) (aI us 11) (aS us 6))
def HY:List U->Int:=fun us=>(plR (aI us 1) (aI us 3) (aI us 4) (aI us 5) (aS us 0) (aI us 7) (aI us 9) (aI us 10) (aI us 11) (aS us 6))
def H3:AV:={ sh:=[.agg [.str,k64,k64,k64,k64,k64],.agg [.str,k64,k64,k64,k64,k64]],blks:=[],outs:=[(.s "compare.0",Bl HZ),(.s "compare.1",Bl HY)],c:= .tup [(C4 12),(C4 13)],m':=[],pre:=[] }
def S6:List En:=[⟨12,.eqs [.s,.i,.i,.i,.i,.i],[.e 0,.e 6,.e 1,.e 7,.e 2,.e 8,.e 3,.e 9,.e 4,.e 10,.e 5,.e 11]⟩,
 ⟨13,.not,[.e 12]⟩,
 ⟨14,.outI "cmpJ.0" GC,[.e 7,.e 1]⟩,
 ⟨15,.ne,[.e 14,.c (.int 0)]⟩,
 ⟨16,.and,[.e 13,.e 15]⟩,
 ⟨17,.and,[.e 13,.n 15]⟩,
 ⟨18,.outI "cmpJ.0" GC,[.e 9,.e 3]⟩,
 ⟨19,.ne,[.e 18,.c (.int 0)]⟩,
 ⟨20,.and,[.e 17,.e 19]⟩,
 ⟨21,.and,[.e 17,.n 19]⟩,
 ⟨22,.outI "cmpJ.0" GC,[.e 10,.e 4]⟩,
 ⟨23,.ne,[.e 22,.c (.int 0)]⟩,
 ⟨24,.and,[.e 21,.e 23]⟩,
 ⟨25,.and,[.e 21,.n 23]⟩,
 ⟨26,.outI "cmpJ.0" GC,[.e 11,.e 5]⟩,
 ⟨27,.ne,[.e 26,.c (.int 0)]⟩]
def Sk:List En:=[⟨28,.and,[.e 25,.e 27]⟩,
 ⟨29,.and,[.e 25,.n 27]⟩,
 ⟨30,.outI "strcmp.0" MB,[.e 0,.e 6]⟩,
 ⟨31,.ne,[.e 30,.c (.int 0)]⟩,
 ⟨32,.and,[.e 29,.e 31]⟩,
 ⟨33,.and,[.e 29,.n 31]⟩,
 ⟨34,.ite .i,[.e 32,.c (.int 5),.c (.int 0)]⟩,
 ⟨35,.ite .i,[.e 32,.c (.int 4),.c (.int 5)]⟩,
 ⟨36,.ite .b,[.e 32,.c (.bool true),.c (.bool false)]⟩,
 ⟨37,.or,[.e 32,.e 33]⟩,
 ⟨38,.ite .i,[.e 28,.c (.int 4),.e 34]⟩,
 ⟨39,.ite .b,[.e 28,.e 27,.e 31]⟩,
 ⟨40,.ite .i,[.e 28,.c (.int 3),.e 35]⟩,
 ⟨41,.ite .i,[.e 28,.e 26,.e 30]⟩,
 ⟨42,.ite .b,[.e 28,.c (.bool true),.e 36]⟩,
 ⟨43,.or,[.e 28,.e 37]⟩]
def Si:List En:=[⟨44,.ite .i,[.e 24,.c (.int 3),.e 38]⟩,
 ⟨45,.ite .b,[.e 24,.e 23,.e 39]⟩,
 ⟨46,.id .b,[.e 24]⟩,
 ⟨47,.ite .i,[.e 24,.c (.int 2),.e 40]⟩,
 ⟨48,.ite .i,[.e 24,.e 22,.e 41]⟩,
 ⟨49,.ite .b,[.e 24,.c (.bool true),.e 42]⟩,
 ⟨50,.or,[.e 24,.e 43]⟩,
 ⟨51,.ite .i,[.e 20,.c (.int 2),.e 44]⟩,
 ⟨52,.ite .b,[.e 20,.e 19,.e 45]⟩,
 ⟨53,.id .b,[.e 20]⟩,
 ⟨54,.ite .i,[.e 20,.c (.int 1),.e 47]⟩,
 ⟨55,.ite .i,[.e 20,.e 18,.e 48]⟩,
 ⟨56,.ite .b,[.e 20,.c (.bool true),.e 49]⟩,
 ⟨57,.or,[.e 20,.e 50]⟩,
 ⟨58,.ite .i,[.e 16,.c (.int 1),.e 51]⟩,
 ⟨59,.ite .b,[.e 16,.e 15,.e 52]⟩]
def S7:List En:=[⟨60,.id .b,[.e 16]⟩,
 ⟨61,.ite .i,[.e 16,.c (.int 0),.e 54]⟩,
 ⟨62,.ite .i,[.e 16,.e 14,.e 55]⟩,
 ⟨63,.ite .b,[.e 16,.c (.bool true),.e 56]⟩,
 ⟨64,.or,[.e 16,.e 57]⟩,
 ⟨65,.ite .i,[.e 12,.c (.int 0),.e 58]⟩,
 ⟨66,.ite .i,[.e 12,.c (.int 0),.e 58]⟩,
 ⟨67,.ite .i,[.e 12,.c (.int 0),.e 62]⟩,
 ⟨68,.ite .i,[.e 12,.c (.int 0),.e 62]⟩,
 ⟨69,.or,[.e 12,.e 64]⟩]
def OU:List En:=S6++(Sk++(Si++(S7)))
def ae:List ObE:=[]
def Rr:List Rf:=[.e 67,.e 66]
theorem az:H3.sees Rr (H3.run Try.prog [(124,Mw),(129,Oq)] AW 3000 20 73)=some ((OU).map En.be,ae.map ObE.be,[]):=by kernel_rfl
theorem aG {T:Tab}(hz0:(S T 0).size<=140737488355328)(hz6:(S T 6).size<=140737488355328)(A0:AH T OU):
  ((I T 67)=(plN (I T 1) (I T 3) (I T 4) (I T 5) (S T 0) (I T 7) (I T 9) (I T 10) (I T 11) (S T 6)))/\
  ((I T 66)=(plR (I T 1) (I T 3) (I T 4) (I T 5) (S T 0) (I T 7) (I T 9) (I T 10) (I T 11) (S T 6))):=by
 obtain⟨F0,A0⟩:=A0.cut;obtain⟨F1,A0⟩:=A0.cut;obtain⟨F2,A0⟩:=A0.cut;have F3:=A0;clear A0;refine⟨?_,?_⟩
 .obtain⟨e12,e13,e14,e15,e16,e17,e18,e19,e20,e21,e22,e23,e24,e25,e26,e27,-⟩:=F0;obtain⟨e28,e29,e30,-,-,-,-,-,-,-,-,-,-,e41,-⟩:=F1;obtain⟨-,-,-,-,e48,-,-,-,-,-,-,e55,-⟩:=F2;obtain⟨-,-,e62,-,-,-,-,e67,-⟩:=F3;replace e14:I T 14=(Ba (I T 7) (I T 1)):=e14;replace e18:I T 18=(Ba (I T 9) (I T 3)):=e18;replace e22:I T 22=(Ba (I T 10) (I T 4)):=e22;replace e26:I T 26=(Ba (I T 11) (I T 5)):=e26;replace e30:I T 30=(Kb (S T 0) (S T 6)):=e30;simp only[AI,AP,zN,zR,EN,and_true,zL,zS] at e12 e13 e15 e16 e17 e19 e20 e21 e23 e24 e25 e27 e28 e29 e41 e48 e55 e62 e67;unfold plN;rw[e67];by_cases he:(B T 12)=true
  .obtain⟨q1,q2,q3,q4,q5,q6⟩:=e12.1 he;rw[if_pos he,if_neg (fun a=>a q2),if_neg (fun a=>a q4),if_neg (fun a=>a q5),if_neg (fun a=>a q6)];exact ((NV _ _).2 q1).symm
  .have h13:=e13.2 (by simpa using he);rw[if_neg he,e62];by_cases h14:(I T 1)=I T 7;rotate_left
   .have g:¬I T 14=0:=fun z=>h14 (Bi.1 (e14.symm.trans z)).symm;rw[if_pos (e16.2 ⟨h13,e15.2 g⟩),if_pos h14];exact e14
   have g14:(I T 14)=0:=e14.trans (Bi.2 h14.symm);have m14:¬B T 15=true:=fun z=>(e15.1 z) g14;have h17:(B T 17)=true:=e17.2 ⟨h13,by simpa using m14⟩;rw[if_neg (fun z=>m14 (e16.1 z).2),if_neg (fun z=>z h14),e55];by_cases h18:(I T 3)=I T 9;rotate_left
   .have g:¬I T 18=0:=fun z=>h18 (Bi.1 (e18.symm.trans z)).symm;rw[if_pos (e20.2 ⟨h17,e19.2 g⟩),if_pos h18];exact e18
   have g18:(I T 18)=0:=e18.trans (Bi.2 h18.symm);have m18:¬B T 19=true:=fun z=>(e19.1 z) g18;have h21:(B T 21)=true:=e21.2 ⟨h17,by simpa using m18⟩;rw[if_neg (fun z=>m18 (e20.1 z).2),if_neg (fun z=>z h18),e48];by_cases h22:(I T 4)=I T 10;rotate_left
   .have g:¬I T 22=0:=fun z=>h22 (Bi.1 (e22.symm.trans z)).symm;rw[if_pos (e24.2 ⟨h21,e23.2 g⟩),if_pos h22];exact e22
   have g22:(I T 22)=0:=e22.trans (Bi.2 h22.symm);have m22:¬B T 23=true:=fun z=>(e23.1 z) g22;have h25:(B T 25)=true:=e25.2 ⟨h21,by simpa using m22⟩;rw[if_neg (fun z=>m22 (e24.1 z).2),if_neg (fun z=>z h22),e41];by_cases h26:(I T 5)=I T 11;rotate_left
   .have g:¬I T 26=0:=fun z=>h26 (Bi.1 (e26.symm.trans z)).symm;rw[if_pos (e28.2 ⟨h25,e27.2 g⟩),if_pos h26];exact e26
   have g26:(I T 26)=0:=e26.trans (Bi.2 h26.symm);have m26:¬B T 27=true:=fun z=>(e27.1 z) g26;have h29:(B T 29)=true:=e29.2 ⟨h25,by simpa using m26⟩;rw[if_neg (fun z=>m26 (e28.1 z).2),if_neg (fun z=>z h26)];exact e30
 .obtain⟨e12,e13,e14,e15,e16,e17,e18,e19,e20,e21,e22,e23,e24,e25,e26,e27,-⟩:=F0;obtain⟨e28,e29,e30,e31,e32,-,e34,-,-,-,e38,-⟩:=F1;obtain⟨e44,-,-,-,-,-,-,e51,-,-,-,-,-,-,e58,-⟩:=F2;obtain⟨-,-,-,-,-,-,e66,-⟩:=F3;replace e14:I T 14=(Ba (I T 7) (I T 1)):=e14;replace e18:I T 18=(Ba (I T 9) (I T 3)):=e18;replace e22:I T 22=(Ba (I T 10) (I T 4)):=e22;replace e26:I T 26=(Ba (I T 11) (I T 5)):=e26;replace e30:I T 30=(Kb (S T 0) (S T 6)):=e30;simp only[AI,AP,zN,zR,EN,and_true,zL,zS] at e12 e13 e15 e16 e17 e19 e20 e21 e23 e24 e25 e27 e28 e29 e31 e32 e34 e38 e44 e51 e58 e66;unfold plR;rw[e66];by_cases he:(B T 12)=true
  .obtain⟨q1,q2,q3,q4,q5,q6⟩:=e12.1 he;rw[if_pos he,if_neg (fun a=>a q2),if_neg (fun a=>a q4),if_neg (fun a=>a q5),if_neg (fun a=>a q6),if_pos q1]
  .have h13:=e13.2 (by simpa using he);rw[if_neg he,e58];by_cases h14:(I T 1)=I T 7;rotate_left
   .have g:¬I T 14=0:=fun z=>h14 (Bi.1 (e14.symm.trans z)).symm;rw[if_pos (e16.2 ⟨h13,e15.2 g⟩),if_pos h14]
   have g14:(I T 14)=0:=e14.trans (Bi.2 h14.symm);have m14:¬B T 15=true:=fun z=>(e15.1 z) g14;have h17:(B T 17)=true:=e17.2 ⟨h13,by simpa using m14⟩;rw[if_neg (fun z=>m14 (e16.1 z).2),if_neg (fun z=>z h14),e51];by_cases h18:(I T 3)=I T 9;rotate_left
   .have g:¬I T 18=0:=fun z=>h18 (Bi.1 (e18.symm.trans z)).symm;rw[if_pos (e20.2 ⟨h17,e19.2 g⟩),if_pos h18]
   have g18:(I T 18)=0:=e18.trans (Bi.2 h18.symm);have m18:¬B T 19=true:=fun z=>(e19.1 z) g18;have h21:(B T 21)=true:=e21.2 ⟨h17,by simpa using m18⟩;rw[if_neg (fun z=>m18 (e20.1 z).2),if_neg (fun z=>z h18),e44];by_cases h22:(I T 4)=I T 10;rotate_left
   .have g:¬I T 22=0:=fun z=>h22 (Bi.1 (e22.symm.trans z)).symm;rw[if_pos (e24.2 ⟨h21,e23.2 g⟩),if_pos h22]
   have g22:(I T 22)=0:=e22.trans (Bi.2 h22.symm);have m22:¬B T 23=true:=fun z=>(e23.1 z) g22;have h25:(B T 25)=true:=e25.2 ⟨h21,by simpa using m22⟩;rw[if_neg (fun z=>m22 (e24.1 z).2),if_neg (fun z=>z h22),e38];by_cases h26:(I T 5)=I T 11;rotate_left
   .have g:¬I T 26=0:=fun z=>h26 (Bi.1 (e26.symm.trans z)).symm;rw[if_pos (e28.2 ⟨h25,e27.2 g⟩),if_pos h26]
   have g26:(I T 26)=0:=e26.trans (Bi.2 h26.symm);have m26:¬B T 27=true:=fun z=>(e27.1 z) g26;have h29:(B T 29)=true:=e29.2 ⟨h25,by simpa using m26⟩;rw[if_neg (fun z=>m26 (e28.1 z).2),if_neg (fun z=>z h26),e34];by_cases hs:(S T 0)=S T 6
   .rw[if_pos hs,if_neg (fun z=>(e31.1 (e32.1 z).2) (e30.trans ((NV _ _).2 hs)))]
   .rw[if_neg hs,if_pos (e32.2 ⟨h29,e31.2 (fun z=>hs ((NV _ _).1 (e30.symm.trans z)))⟩)]
theorem Xe:Ae Try.prog 73 H3:=by
 refine BH (l:=[(124,Mw),(129,Oq)]) Bh (by simp only[wJ];exact⟨gS,Z1,fun _ h=>absurd h (by simp)⟩) az (by kernel_rfl) fun T us hpre hT hul hS hBd hE=>?_;change us.length=12 at hul;obtain⟨hz0,-,-,-,-,-,hz6,-⟩:=hBd;replace hz0:(S T 0).size<=140737488355328:=hz0;replace hz6:(S T 6).size<=140737488355328:=hz6;have ha0:aS us 0=S T 0:=inS hT hul (by decide);have ha1:aI us 1=I T 1:=inI hT hul (by decide);have ha3:aI us 3=I T 3:=inI hT hul (by decide);have ha4:aI us 4=I T 4:=inI hT hul (by decide);have ha5:aI us 5=I T 5:=inI hT hul (by decide);have ha6:aS us 6=S T 6:=inS hT hul (by decide);have ha7:aI us 7=I T 7:=inI hT hul (by decide);have ha9:aI us 9=I T 9:=inI hT hul (by decide);have ha10:aI us 10=I T 10:=inI hT hul (by decide);have ha11:aI us 11=I T 11:=inI hT hul (by decide);clear hpre
 skip
 obtain⟨A0,hO⟩:=BG (tys:=[.i,.i]) (rs:=Rr) hS (by kernel_rfl) hE;obtain⟨q0,q1⟩:=aG hz0 hz6 A0;refine⟨trivial,hO.trans ?_⟩;exact (lc (by show U.int (I T 67)= .int (HZ us);unfold HZ;rw[ha0,ha1,ha10,ha11,ha3,ha4,ha5,ha6,ha7,ha9];exact congrArg U.int q0) (lc (by show U.int (I T 66)= .int (HY us);unfold HY;rw[ha0,ha1,ha10,ha11,ha3,ha4,ha5,ha6,ha7,ha9];exact congrArg U.int q1) rfl))
def IP:List U->Int:=fun us=>(plN (aI us 1) (aI us 3) (aI us 4) (aI us 5) (aS us 0) (aI us 7) (aI us 9) (aI us 10) (aI us 11) (aS us 6))
def Jm:AV:={ sh:=[.agg [.str,k64,k64,k64,k64,k64],.agg [.str,k64,k64,k64,k64,k64]],blks:=[],outs:=[(.s "cmpTab.0",Bl IP)],c:=(C4 12),m':=[],pre:=[] }
def Qk:List Rf:=[.e 0,.e 1,.e 2,.e 3,.e 4,.e 5,.e 6,.e 7,.e 8,.e 9,.e 10,.e 11]
def UK:List En:=[⟨12,.outI "compare.0" HZ,Qk⟩,
 ⟨13,.outI "compare.1" HY,Qk⟩]
def QW:List En:=UK
def dB:List ObE:=[]
def UE:List Rf:=[.e 12]
theorem cN:Jm.sees UE (Jm.run Try.prog [(73,H3)] AW 3000 20 72)=some ((QW).map En.be,dB.map ObE.be,[]):=by kernel_rfl
theorem cL {T:Tab}(hz0:(S T 0).size<=140737488355328)(hz6:(S T 6).size<=140737488355328)(A0:AH T QW):
  ((I T 12)=(plN (I T 1) (I T 3) (I T 4) (I T 5) (S T 0) (I T 7) (I T 9) (I T 10) (I T 11) (S T 6))):=by
 have F0:=A0;clear A0
 .obtain⟨e12,-⟩:=F0;replace e12:I T 12=(plN (I T 1) (I T 3) (I T 4) (I T 5) (S T 0) (I T 7) (I T 9) (I T 10) (I T 11) (S T 6)):=e12;grind (splits:=100)
theorem Zk:Ae Try.prog 72 Jm:=by
 refine BH (l:=[(73,H3)]) Bh (by simp only[wJ];exact⟨Xe,fun _ h=>absurd h (by simp)⟩) cN (by kernel_rfl) fun T us hpre hT hul hS hBd hE=>?_;change us.length=12 at hul;obtain⟨hz0,-,-,-,-,-,hz6,-⟩:=hBd;replace hz0:(S T 0).size<=140737488355328:=hz0;replace hz6:(S T 6).size<=140737488355328:=hz6;have ha0:aS us 0=S T 0:=inS hT hul (by decide);have ha1:aI us 1=I T 1:=inI hT hul (by decide);have ha3:aI us 3=I T 3:=inI hT hul (by decide);have ha4:aI us 4=I T 4:=inI hT hul (by decide);have ha5:aI us 5=I T 5:=inI hT hul (by decide);have ha6:aS us 6=S T 6:=inS hT hul (by decide);have ha7:aI us 7=I T 7:=inI hT hul (by decide);have ha9:aI us 9=I T 9:=inI hT hul (by decide);have ha10:aI us 10=I T 10:=inI hT hul (by decide);have ha11:aI us 11=I T 11:=inI hT hul (by decide);clear hpre
 skip
 obtain⟨A0,hO⟩:=BG (tys:=[.i]) (rs:=UE) hS (by kernel_rfl) hE;have q0:=cL hz0 hz6 A0;refine⟨trivial,hO.trans ?_⟩;exact (lc (by show U.int (I T 12)= .int (IP us);unfold IP;rw[ha0,ha1,ha10,ha11,ha3,ha4,ha5,ha6,ha7,ha9];exact congrArg U.int q0) rfl)
def JK:List U->List (List U):=fun us=>(Aw ltT (aL us 0) (aI us 2).toNat (aI us 3).toNat)
def HC:List U->Prop:=fun us=>((aL us 0)).length=(aI us 1)/\0<=(aI us 2)/\(aI us 2)<=(aI us 3)/\(aI us 3)<=(aI us 1)
def Fh:AV:={ sh:=[.one (k64),.one (k64),.cst (.fn (.func 72) [] [])],blks:=[],outs:=[(.s "insS.0",Eg JK)],c:= .tup [],m':=[.mrow 4 1 [.str,k64,k64,k64,k64,k64] 61],pre:=[(.s "insS.p0",HC)],row:=some ([.str,k64,k64,k64,k64,k64],61) }
def eG:List Rf:=[.e 15,.e 16,.e 17,.e 18,.e 19,.e 20,.e 24,.e 25,.e 26,.e 27,.e 28,.e 29]
def Xp:List En:=[⟨4,.w2 .i64 .add,[.e 2,.c (.int 1)]⟩]
def GB:List En:=Xp
def Un:List En:=[⟨7,.lt,[.e 5,.e 3]⟩,
 ⟨8,.not,[.e 7]⟩]
def E6:List En:=Un
def Y1:List En:=[⟨11,.lt,[.e 2,.e 9]⟩,
 ⟨12,.and,[.e 7,.e 11]⟩,
 ⟨13,.and,[.e 7,.e 11]⟩,
 ⟨14,.and,[.e 7,.e 11]⟩,
 ⟨15,.get .s 0,[.e 10,.e 9]⟩,
 ⟨16,.get .i 1,[.e 10,.e 9]⟩,
 ⟨17,.get .i 2,[.e 10,.e 9]⟩,
 ⟨18,.get .i 3,[.e 10,.e 9]⟩,
 ⟨19,.get .i 4,[.e 10,.e 9]⟩,
 ⟨20,.get .i 5,[.e 10,.e 9]⟩,
 ⟨21,.and,[.e 7,.e 11]⟩,
 ⟨22,.and,[.e 7,.e 11]⟩,
 ⟨23,.w2 .i64 .sub,[.e 9,.c (.int 1)]⟩,
 ⟨24,.get .s 0,[.e 10,.e 23]⟩,
 ⟨25,.get .i 1,[.e 10,.e 23]⟩,
 ⟨26,.get .i 2,[.e 10,.e 23]⟩]
def YG:List En:=[⟨27,.get .i 3,[.e 10,.e 23]⟩,
 ⟨28,.get .i 4,[.e 10,.e 23]⟩,
 ⟨29,.get .i 5,[.e 10,.e 23]⟩,
 ⟨30,.outI "cmpTab.0" IP,eG⟩,
 ⟨31,.lt,[.e 30,.c (.int 0)]⟩,
 ⟨32,.and,[.e 11,.e 31]⟩,
 ⟨33,.and,[.e 7,.e 32]⟩,
 ⟨34,.and,[.e 7,.n 32]⟩,
 ⟨35,.w2 .i64 .sub,[.e 9,.c (.int 1)]⟩,
 ⟨36,.w2 .i64 .sub,[.e 9,.c (.int 1)]⟩,
 ⟨37,.get .s 0,[.e 10,.e 36]⟩,
 ⟨38,.get .i 1,[.e 10,.e 36]⟩,
 ⟨39,.get .i 2,[.e 10,.e 36]⟩,
 ⟨40,.get .i 3,[.e 10,.e 36]⟩,
 ⟨41,.get .i 4,[.e 10,.e 36]⟩,
 ⟨42,.get .i 5,[.e 10,.e 36]⟩]
def Xu:List En:=[⟨43,.get .s 0,[.e 10,.e 9]⟩,
 ⟨44,.get .i 1,[.e 10,.e 9]⟩,
 ⟨45,.get .i 2,[.e 10,.e 9]⟩,
 ⟨46,.get .i 3,[.e 10,.e 9]⟩,
 ⟨47,.get .i 4,[.e 10,.e 9]⟩,
 ⟨48,.get .i 5,[.e 10,.e 9]⟩,
 ⟨49,.rset 0 [.s,.i,.i,.i,.i,.i],[.e 10,.e 9,.e 37,.e 38,.e 39,.e 40,.e 41,.e 42]⟩,
 ⟨50,.rset 0 [.s,.i,.i,.i,.i,.i],[.e 49,.e 35,.e 43,.e 44,.e 45,.e 46,.e 47,.e 48]⟩,
 ⟨51,.w2 .i64 .sub,[.e 9,.c (.int 1)]⟩]
def EJ:List En:=Y1++(YG++(Xu))
def UQ:List ObE:=[⟨some 33,.inr,[.e 35,.e 1]⟩,⟨some 33,.inr,[.e 9,.e 1]⟩,⟨some 33,.inr,[.e 9,.e 1]⟩,⟨some 33,.inr,[.e 36,.e 1]⟩,⟨some 22,.inr,[.e 23,.e 1]⟩,⟨some 14,.inr,[.e 9,.e 1]⟩]
def Ja:Ag:=mkD 9 2 EJ 33 [.e 51,.e 50] UQ [7,2,1]
def Lp:List Rf:=[.e 7,.e 2,.e 1,.e 5,.e 6]
def Vj:List En:=[⟨52,.w2 .i64 .add,[.e 5,.c (.int 1)]⟩]
def In:List En:=Vj
def HD:List En:=E6++((BS Ja [.i,.l] Lp)++(EJ++(In)))
def UA:List ObE:=[⟨some 7,.owes Ja,[.e 7,.e 2,.e 1,.e 5,.e 6]⟩]
def MF:Ag:=mkD 5 2 HD 34 [.e 52,.e 10] UA [2,1,3]
def Oo:List Rf:=[.e 2,.e 1,.e 3,.e 4,.e 0]
def dS:List En:=[]
def g8:List ObE:=[⟨none,.owes MF,[.e 2,.e 1,.e 3,.e 4,.e 0]⟩]
def ZU:List Rf:=[.e 6]
end
end Go.Eng
end
