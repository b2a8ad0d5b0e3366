/-
  A part of the proof: K_worksd K_works.
-/
import Derived.Test.YtikbgnmcfncnaaaE4
import Derived.Test.YtikbgnmcfncnaaaE5
import Derived.Test.YtikbgnmcfncnaaaKCount
import Derived.Test.YtikbgnmcfncnaaaKTable
set_option linter.unusedVariables false
set_option linter.unusedSimpArgs false
noncomputable section
namespace Go.Eng
section
open Go Go.Eng Go.Proofs
set_option maxHeartbeats 4000000
set_option maxRecDepth 100000
def Db:List U->Bool:=fun us=>(true)
def G6:AV:={ sh:=[],blks:=[],outs:=[(.s "works.0",LP Db)],c:= .b 0,m':=[],pre:=[] }
def Wc:List En:=[⟨0,.row 3 3 [.s,.i,.i,.s,.i,.i,.s,.i,.i],[.c (.str ⟨#[97,110,110]⟩),.c (.int 2000),.c (.int 0),.c (.str ⟨#[98,111,98]⟩),.c (.int 1500),.c (.int 10),.c (.str ⟨#[99,97,116]⟩),.c (.int 1000),.c (.int 20)]⟩,
 ⟨1,.id .i,[.c (.int 1)]⟩,
 ⟨2,.get .s 0,[.e 0,.e 1]⟩,
 ⟨3,.get .i 1,[.e 0,.e 1]⟩,
 ⟨4,.get .i 2,[.e 0,.e 1]⟩,
 ⟨5,.id .i,[.c (.int 0)]⟩,
 ⟨6,.get .s 0,[.e 0,.e 5]⟩,
 ⟨7,.get .i 1,[.e 0,.e 5]⟩,
 ⟨8,.get .i 2,[.e 0,.e 5]⟩,
 ⟨9,.outS "Count.0" GZ,[.e 2,.e 3,.e 4,.e 6,.e 7,.e 8,.c (.bool true)]⟩,
 ⟨10,.outI "Count.1" GW,[.e 2,.e 3,.e 4,.e 6,.e 7,.e 8,.c (.bool true)]⟩,
 ⟨11,.outI "Count.2" GL,[.e 2,.e 3,.e 4,.e 6,.e 7,.e 8,.c (.bool true)]⟩,
 ⟨12,.outS "Count.3" GM,[.e 2,.e 3,.e 4,.e 6,.e 7,.e 8,.c (.bool true)]⟩,
 ⟨13,.outI "Count.4" GK,[.e 2,.e 3,.e 4,.e 6,.e 7,.e 8,.c (.bool true)]⟩,
 ⟨14,.outI "Count.5" GQ,[.e 2,.e 3,.e 4,.e 6,.e 7,.e 8,.c (.bool true)]⟩,
 ⟨15,.outI "Count.6" GS,[.e 2,.e 3,.e 4,.e 6,.e 7,.e 8,.c (.bool true)]⟩]
def Wa:List En:=[⟨16,.row 3 9 [.i,.i,.i,.b,.s,.s,.b,.i,.i,.i,.i,.i,.b,.s,.s,.b,.i,.i,.i,.i,.i,.b,.s,.s,.b,.i,.i],[.c (.int 1),.c (.int 0),.c (.int 5),.c (.bool false),.c (.str ⟨#[97,110,110]⟩),.c (.str ⟨#[98,111,98]⟩),.c (.bool true),.c (.int 26),.c (.int 20),.c (.int 2),.c (.int 0),.c (.int 6),.c (.bool false),.c (.str ⟨#[98,111,98]⟩),.c (.str ⟨#[99,97,116]⟩),.c (.bool true),.c (.int 26),.c (.int 3),.c (.int 3),.c (.int 0),.c (.int 7),.c (.bool false),.c (.str ⟨#[99,97,116]⟩),.c (.str ⟨#[97,110,110]⟩),.c (.bool true),.c (.int 26),.c (.int 25)]⟩,
 ⟨17,.outL "Table.0" KA,[.e 0,.e 16,.c (.int 0),.c (.int 100)]⟩,
 ⟨18,.outI "Table.1" Jn,[.e 0,.e 16,.c (.int 0),.c (.int 100)]⟩,
 ⟨19,.w2 .i64 .add,[.e 15,.e 18]⟩,
 ⟨20,.eq,[.e 19,.c (.int 0)]⟩,
 ⟨21,.id .b,[.e 20]⟩,
 ⟨22,.eqs [.s,.i,.i],[.e 9,.c (.str ⟨#[98,111,98]⟩),.e 10,.c (.int 1514),.e 11,.c (.int 10)]⟩,
 ⟨23,.and,[.e 20,.e 22]⟩,
 ⟨24,.id .b,[.e 23]⟩,
 ⟨25,.eqs [.s,.i,.i],[.e 12,.c (.str ⟨#[97,110,110]⟩),.e 13,.c (.int 1986),.e 14,.c (.int 0)]⟩,
 ⟨26,.and,[.e 23,.e 25]⟩,
 ⟨27,.id .b,[.e 26]⟩,
 ⟨28,.len,[.e 17]⟩,
 ⟨29,.eq,[.e 28,.c (.int 3)]⟩,
 ⟨30,.and,[.e 26,.e 29]⟩,
 ⟨31,.id .b,[.e 30]⟩]
def Wb:List En:=[⟨32,.id .i,[.c (.int 0)]⟩,
 ⟨33,.get .s 0,[.e 17,.e 32]⟩,
 ⟨34,.get .i 1,[.e 17,.e 32]⟩,
 ⟨35,.get .i 2,[.e 17,.e 32]⟩,
 ⟨36,.get .i 3,[.e 17,.e 32]⟩,
 ⟨37,.get .i 4,[.e 17,.e 32]⟩,
 ⟨38,.get .i 5,[.e 17,.e 32]⟩,
 ⟨39,.eqs [.s,.i,.i,.i,.i,.i],[.e 33,.c (.str ⟨#[98,111,98]⟩),.e 34,.c (.int 1),.e 35,.c (.int 1),.e 36,.c (.int 1),.e 37,.c (.int 17),.e 38,.c (.int 1)]⟩,
 ⟨40,.and,[.e 30,.e 39]⟩]
def R4:List En:=Wc++(Wa++(Wb))
def fN:List ObE:=[⟨some 31,.inl,[.c (.int 0),.e 17]⟩,
 ⟨none,.pre "Table.p0" Hv,[.e 0,.e 16,.c (.int 0),.c (.int 100)]⟩,
 ⟨none,.inl,[.c (.int 0),.e 0]⟩,
 ⟨none,.inl,[.c (.int 1),.e 0]⟩]
def Wu:List Rf:=[.e 40]
theorem gG:G6.sees Wu (G6.run Try.prog [(16,FC),(30,Dr)] AW 3000 20 15)=some ((R4).map En.be,fN.map ObE.be,[]):=by kernel_rfl
theorem gP {T:Tab}(A0:AH T R4):
  ((B T 40)=(true))/\
  (B T 31=true->0<=(0:Int)/\(0:Int) < ((L T 17)).length)/\
  ((((L T 0)).length<=20/\((L T 16)).length<=20)/\Bj (L T 0)=0/\B8 (L T 16)=0)/\
  (0<=(0:Int)/\(0:Int) < ((L T 0)).length)/\
  (0<=(1:Int)/\(1:Int) < ((L T 0)).length):=by
 obtain⟨F0,A0⟩:=A0.cut;obtain⟨F1,A0⟩:=A0.cut;have F2:=A0;clear A0;have x2:((S T 2)=Qz/\I T 3=1500/\I T 4=10)/\S T 6=Te/\I T 7=2000/\I T 8=0:=by
  obtain⟨e0,e1,e2,e3,e4,e5,e6,e7,e8,-⟩:=F0;simp only[AI,AP,zR,zL,zS,uR,DM,zW] at e0 e1 e2 e3 e4 e5 e6 e7 e8;refine⟨⟨?_,?_,?_⟩,?_,?_,?_⟩
  .rw[e2,e1,e0];rfl
  .rw[e3,e1,e0];rfl
  .rw[e4,e1,e0];rfl
  .rw[e6,e5,e0];rfl
  .rw[e7,e5,e0];rfl
  .rw[e8,e5,e0];rfl
 have x0:(L T 0)=dI/\L T 16=dK:=by
  obtain⟨e0,-⟩:=F0;obtain⟨e16,-⟩:=F1;simp only[AI,zC,zR,zL,zS,uR,DM,zW] at e0 e16;exact⟨by rw[e0];rfl,by rw[e16];rfl⟩
 refine⟨?_,?_,?_,?_,?_⟩
 .obtain⟨-,-,-,-,-,-,-,-,-,e9,e10,e11,e12,e13,e14,e15,-⟩:=F0;obtain⟨-,e17,e18,e19,e20,-,e22,e23,-,e25,e26,-,e28,e29,e30,-⟩:=F1;obtain⟨e32,e33,e34,e35,e36,e37,e38,e39,e40,-⟩:=F2;replace e9:S T 9=(if Am (S T 2) (I T 3) (I T 4) (S T 6) (I T 7) (I T 8)=0 then (S T 2) else (⟨#[]⟩:ByteArray)):=e9;replace e10:I T 10=(if Am (S T 2) (I T 3) (I T 4) (S T 6) (I T 7) (I T 8)=0 then Ax (I T 3) (Ar (I T 3) (I T 7) true) else 0):=e10;replace e11:I T 11=(if Am (S T 2) (I T 3) (I T 4) (S T 6) (I T 7) (I T 8)=0 then CT (Ax (I T 3) (Ar (I T 3) (I T 7) true)) (I T 4) else 0):=e11;replace e12:S T 12=(if Am (S T 2) (I T 3) (I T 4) (S T 6) (I T 7) (I T 8)=0 then (S T 6) else (⟨#[]⟩:ByteArray)):=e12;replace e13:I T 13=(if Am (S T 2) (I T 3) (I T 4) (S T 6) (I T 7) (I T 8)=0 then Ax (I T 7) (-(Ar (I T 3) (I T 7) true)) else 0):=e13;replace e14:I T 14=(if Am (S T 2) (I T 3) (I T 4) (S T 6) (I T 7) (I T 8)=0 then CT (Ax (I T 7) (-(Ar (I T 3) (I T 7) true))) (I T 8) else 0):=e14;replace e15:I T 15=(Am (S T 2) (I T 3) (I T 4) (S T 6) (I T 7) (I T 8)):=e15;replace e17:L T 17=(RH (L T 0) (L T 16) (0:Int) (100:Int)):=e17;replace e18:I T 18=(Gh (0:Int) (100:Int)):=e18;simp only[AI,AP,zR,EN,and_true,w2P,zL,zS] at e19 e20 e22 e23 e25 e26 e28 e29 e30 e32 e33 e34 e35 e36 e37 e38 e39 e40;obtain⟨⟨q2,q3,q4⟩,q6,q7,q8⟩:=x2;obtain⟨q0,q16⟩:=x0;rw[q2,q3,q4,q6,q7,q8] at e9 e10 e11 e12 e13 e14 e15;rw[if_pos XD] at e9 e10 e11 e12 e13 e14;rw[q0,q16] at e17;have q17:(L T 17)=Id:=e17;have q18:(I T 18)=0:=e18.trans iC;have q15:(I T 15)=0:=e15.trans XD;have h19:=e19 (by omega) (by omega);have h20:=e20.2 (by omega);have h22:=e22.2 ⟨e9,e10.trans ex_i,e11.trans ex_g⟩;have h25:=e25.2 ⟨e12,e13.trans ex_j,e14.trans ex_h⟩;have h28:(I T 28)=3:=by rw[e28,q17,bQ];rfl
  have h30:=e30.2 ⟨e26.2 ⟨e23.2 ⟨h20,h22⟩,h25⟩,e29.2 h28⟩;rw[q17,e32] at e33 e34 e35 e36 e37 e38;obtain⟨r0,r1,r2,r3,r4,r5⟩:=ib;exact e40.2 ⟨h30,e39.2 ⟨e33.trans r0,e34.trans r1,e35.trans r2,e36.trans r3,e37.trans r4,e38.trans r5⟩⟩
 .obtain⟨-,e17,-⟩:=F1;replace e17:L T 17=(RH (L T 0) (L T 16) (0:Int) (100:Int)):=e17;obtain⟨q0,q16⟩:=x0;rw[q0,q16] at e17;have q17:(L T 17)=Id:=e17;intro _;rw[q17,bQ];decide
 .obtain⟨q0,q16⟩:=x0;rw[q0,q16];exact⟨⟨by decide,by decide⟩,Y3,Z0⟩
 .obtain⟨q0,q16⟩:=x0;rw[q0];decide
 .obtain⟨q0,q16⟩:=x0;rw[q0];decide
theorem U9:Ae Try.prog 15 G6:=by
 refine BH (l:=[(16,FC),(30,Dr)]) Bh (by simp only[List.forall_mem_cons];exact⟨PF,cW,fun _ h=>absurd h (by simp)⟩) gG (by kernel_rfl) fun T us hpre hT hul hS hBd hE=>?_;change us.length=0 at hul;clear hBd;clear hpre
 skip
 obtain⟨A0,hO⟩:=BG (tys:=[.b]) (rs:=Wu) hS (by kernel_rfl) hE;obtain⟨q0,r0,r1,r2,r3⟩:=gP A0;refine⟨⟨r0,(fun _=>r1),(fun _=>r2),(fun _=>r3),trivial⟩,hO.trans ?_⟩;exact (lc (by show U.bool (B T 40)= .bool (Db us);unfold Db;exact congrArg U.bool q0) rfl)
end
end Go.Eng
end
