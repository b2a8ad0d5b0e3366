/-
  A part of the proof: K_worksd K_works.
-/
import Derived.Test.YtmlmcidljiibaaaE4
import Derived.Test.YtmlmcidljiibaaaE5
import Derived.Test.YtmlmcidljiibaaaKway
import Derived.Test.YtmlmcidljiibaaaKstand
import Derived.Test.YtmlmcidljiibaaaKput
set_option linter.unusedVariables false
set_option linter.unusedSimpArgs false
noncomputable section
open Go Go.Eng Go.Proofs
set_option maxHeartbeats 4000000
set_option maxRecDepth 100000
namespace Go.Eng
def Dz:List U→Bool:=fun us=>(true)
def HN:Ak:={ sh:=[],blks:=[],outs:=[(.s "works.0",DF Dz)],c:= .b 0,m':=[],pre:=[] }
def D3:List Rf:=[.c (.str ⟨#[103,114,101,101,110]⟩),.c (.int 100000),.c (.int 200000),.c (.int 5000),.e 0,.c (.int 50000),.c (.int 100000),.c (.int 1200),.c (.int 2),.c (.int 1),.e 1,.c (.int 49900),.c (.int 30000),.c (.int 49900),.c (.int 50000),.c (.int 2946),.c (.list [])]
def Em:List Rf:=[.c (.str ⟨#[103,114,101,101,110]⟩),.c (.int 100000),.c (.int 200000),.c (.int 5000),.e 0,.c (.int 50000),.c (.int 100000),.c (.int 1200),.c (.int 2),.c (.int 1),.e 1,.c (.int 0),.c (.bool true),.c (.int 50000),.c (.int 42446),.c (.int 2946)]
def C6:List Rf:=[.c (.str ⟨#[103,114,101,101,110]⟩),.c (.int 100000),.c (.int 200000),.c (.int 5000),.e 0,.c (.int 50000),.c (.int 100000),.c (.int 1200),.c (.int 2),.c (.int 1),.e 1,.c (.int 1000),.c (.int 70000),.c (.int 2946),.e 6]
def Wa:List En:=[⟨0,.row 2 5 [.i,.i,.i,.i,.b,.i,.i,.i,.i,.b],[.c (.int 50000),.c (.int 40000),.c (.int 6000),.c (.int 500),.c (.bool false),.c (.int 30000),.c (.int 100000),.c (.int 6000),.c (.int 500),.c (.bool true)]⟩,
 ⟨1,.row 2 3 [.i,.i,.i,.i,.i,.i],[.c (.int 100),.c (.int 0),.c (.int 0),.c (.int 200),.c (.int 5),.c (.int (-5))]⟩,
 ⟨2,.outL "way.0" FX,D3⟩,
 ⟨3,.outI "way.1" FO,D3⟩,
 ⟨4,.outI "stand.0" J5,Em⟩,
 ⟨5,.outI "stand.1" KF,Em⟩,
 ⟨6,.row 1 3 [.i,.i,.i],[.c (.int 5000),.c (.int 70000),.c (.int 2946)]⟩,
 ⟨7,.outI "put.0" Km,C6⟩,
 ⟨8,.outI "put.1" LK,C6⟩,
 ⟨9,.outI "put.2" LC,C6⟩,
 ⟨10,.w2 .i64 .add,[.e 3,.e 5]⟩,
 ⟨11,.w2 .i64 .add,[.e 10,.e 9]⟩,
 ⟨12,.eq,[.e 11,.c (.int 0)]⟩,
 ⟨13,.id .b,[.e 12]⟩,
 ⟨14,.len,[.e 2]⟩,
 ⟨15,.eq,[.e 14,.c (.int 1)]⟩]
def WH:List En:=[⟨16,.and,[.e 12,.e 15]⟩,
 ⟨17,.id .b,[.e 16]⟩,
 ⟨18,.id .i,[.c (.int 0)]⟩,
 ⟨19,.get .i 0,[.e 2,.e 18]⟩,
 ⟨20,.eq,[.e 19,.c (.int 0)]⟩,
 ⟨21,.and,[.e 16,.e 20]⟩,
 ⟨22,.id .b,[.e 21]⟩,
 ⟨23,.eq,[.e 4,.c (.int 3)]⟩,
 ⟨24,.and,[.e 21,.e 23]⟩,
 ⟨25,.id .b,[.e 24]⟩,
 ⟨26,.eqs [.i,.i],[.e 7,.c (.int 5000),.e 8,.c (.int 64108)]⟩,
 ⟨27,.and,[.e 24,.e 26]⟩]
def SH:List En:=Wa++(WH)
def gg:List ObE:=[⟨some 17,.inl,[.c (.int 0),.e 2]⟩]
def Xc:List Rf:=[.e 27]
theorem fT:HN.sees Xc (HN.run Try.prog [(17,Hj),(19,LH),(14,Fr)] Ag 3000 20 13)=some ((SH).map En.be,gg.map ObE.be,[]):=by kernel_rfl
theorem fQ {T:Tab}(g1:Ln)(z1:g1=Ln.mk (⟨#[103,114,101,101,110]⟩:ByteArray) 100000 200000 5000 (L T 0) 50000 100000 1200 2 1 (L T 1))(g2:Ln)(z2:g2=Ln.mk (⟨#[103,114,101,101,110]⟩:ByteArray) 100000 200000 5000 (L T 0) 50000 100000 1200 2 1 (L T 1))(g3:Ln)(z3:g3=Ln.mk (⟨#[103,114,101,101,110]⟩:ByteArray) 100000 200000 5000 (L T 0) 50000 100000 1200 2 1 (L T 1))(A0:AI T SH):
  ((B T 27)=(true))∧
  (B T 17=true→0≤(0:Int)∧(0:Int) < ((L T 2)).length):=by
 obtain⟨F0,A0⟩:=A0.cut
 have F1:=A0;clear A0
 have w0:(L T 2)=[[.int 0]]∧I T 3=0:=by
  obtain⟨e0,e1,e2,e3,-⟩:=F0
  replace e2:L T 2=(E3 g1 49900 30000 49900 50000 2946 ([]:List (List U))):=by rw[←show gAt 0 (D3.map (Rf.eval T))=g1 from z1.symm];exact e2
  replace e3:I T 3=(Cf g1 49900 30000 49900 50000 2946 ([]:List (List U))):=by rw[←show gAt 0 (D3.map (Rf.eval T))=g1 from z1.symm];exact e3
  simp only[AE,zC,zR,zL,zS,uR,AY,zW] at e0 e1
  rw[e2,e3,z1,e0,e1]
  exact ic
 have w1:(I T 4)=3∧I T 5=0:=by
  obtain⟨e0,e1,-,-,e4,e5,-⟩:=F0
  replace e4:I T 4=(JH g2 0 true 50000 42446 2946):=by rw[←show gAt 0 (Em.map (Rf.eval T))=g2 from z2.symm];exact e4
  replace e5:I T 5=(Gr g2 0 50000 42446 2946):=by rw[←show gAt 0 (Em.map (Rf.eval T))=g2 from z2.symm];exact e5
  simp only[AE,zC,zR,zL,zS,uR,AY,zW] at e0 e1
  rw[e4,e5,z2,e0,e1]
  exact dl
 have w2:(I T 7)=5000∧I T 8=64108∧I T 9=0:=by
  obtain⟨e0,e1,-,-,-,-,e6,e7,e8,e9,-⟩:=F0
  replace e7:I T 7=(G3 g3 1000 70000 2946 (L T 6)):=by rw[←show gAt 0 (C6.map (Rf.eval T))=g3 from z3.symm];exact e7
  replace e8:I T 8=(HB g3 1000 70000 2946 (L T 6)):=by rw[←show gAt 0 (C6.map (Rf.eval T))=g3 from z3.symm];exact e8
  replace e9:I T 9=(C8 g3 1000 70000 2946 (L T 6)):=by rw[←show gAt 0 (C6.map (Rf.eval T))=g3 from z3.symm];exact e9
  simp only[AE,zC,zR,zL,zS,uR,AY,zW] at e0 e1 e6
  rw[e7,e8,e9,z3,e0,e1,e6]
  exact jJ
 refine⟨?_,?_⟩
 ·obtain⟨e0,e1,e2,e3,e4,e5,e6,e7,e8,e9,e10,e11,e12,-,e14,e15,-⟩:=F0
  obtain⟨e16,-,e18,e19,e20,e21,-,e23,e24,-,e26,e27,-⟩:=F1
  replace e2:L T 2=(E3 g1 49900 30000 49900 50000 2946 ([]:List (List U))):=by rw[←show gAt 0 (D3.map (Rf.eval T))=g1 from z1.symm];exact e2
  replace e3:I T 3=(Cf g1 49900 30000 49900 50000 2946 ([]:List (List U))):=by rw[←show gAt 0 (D3.map (Rf.eval T))=g1 from z1.symm];exact e3
  replace e4:I T 4=(JH g2 0 true 50000 42446 2946):=by rw[←show gAt 0 (Em.map (Rf.eval T))=g2 from z2.symm];exact e4
  replace e5:I T 5=(Gr g2 0 50000 42446 2946):=by rw[←show gAt 0 (Em.map (Rf.eval T))=g2 from z2.symm];exact e5
  replace e7:I T 7=(G3 g3 1000 70000 2946 (L T 6)):=by rw[←show gAt 0 (C6.map (Rf.eval T))=g3 from z3.symm];exact e7
  replace e8:I T 8=(HB g3 1000 70000 2946 (L T 6)):=by rw[←show gAt 0 (C6.map (Rf.eval T))=g3 from z3.symm];exact e8
  replace e9:I T 9=(C8 g3 1000 70000 2946 (L T 6)):=by rw[←show gAt 0 (C6.map (Rf.eval T))=g3 from z3.symm];exact e9
  simp only[AE,AG,zC,zR,Bd,and_true,w2P,zL,zS,uR,AY,zW] at*
  obtain⟨h2,h3⟩:=w0
  obtain⟨h4,h5⟩:=w1
  obtain⟨h7,h8,h9⟩:=w2
  have x10:=e10 (by omega) (by omega)
  have x11:=e11 (by omega) (by omega)
  have h12:=e12.2 (by omega)
  have h14:(I T 14)=1:=by rw[e14,h2];rfl
  have h15:=e15.2 h14
  have h16:=e16.2 ⟨h12,h15⟩
  have h19:(I T 19)=0:=by rw[e19,h2,e18];rfl
  have h20:=e20.2 h19
  have h21:=e21.2 ⟨h16,h20⟩
  have h23:=e23.2 h4
  have h24:=e24.2 ⟨h21,h23⟩
  have h26:=e26.2 ⟨h7,h8⟩
  exact e27.2 ⟨h24,h26⟩
 ·obtain⟨e0,e1,e2,e3,-,e5,e6,-,-,e9,e10,e11,e12,-,e14,e15,-⟩:=F0
  obtain⟨e16,e17,-⟩:=F1
  replace e2:L T 2=(E3 g1 49900 30000 49900 50000 2946 ([]:List (List U))):=by rw[←show gAt 0 (D3.map (Rf.eval T))=g1 from z1.symm];exact e2
  replace e3:I T 3=(Cf g1 49900 30000 49900 50000 2946 ([]:List (List U))):=by rw[←show gAt 0 (D3.map (Rf.eval T))=g1 from z1.symm];exact e3
  replace e5:I T 5=(Gr g2 0 50000 42446 2946):=by rw[←show gAt 0 (Em.map (Rf.eval T))=g2 from z2.symm];exact e5
  replace e9:I T 9=(C8 g3 1000 70000 2946 (L T 6)):=by rw[←show gAt 0 (C6.map (Rf.eval T))=g3 from z3.symm];exact e9
  simp only[AE,AG,zC,zR,w2P,zL,zS,uR,AY,zW] at*
  intro _
  rw[w0.1]
  exact⟨by omega,by simp⟩
theorem Uq:Ao Try.prog 13 HN:=by
 refine AZ (l:=[(17,Hj),(19,LH),(14,Fr)]) BH (by simp only[List.forall_mem_cons];exact⟨Tu,ef,bI,fun _ h=>absurd h (by simp)⟩) fT (by kernel_rfl) fun T us hpre hT hul hS hBd hE=>?_
 change us.length=0 at hul
 clear hBd
 clear hpre
 skip
 obtain⟨A0,hO⟩:=Ap (tys:=[.b]) (rs:=Xc) hS (by kernel_rfl) hE
 obtain⟨g1,z1⟩:∃g:Ln,g=Ln.mk (⟨#[103,114,101,101,110]⟩:ByteArray) 100000 200000 5000 (L T 0) 50000 100000 1200 2 1 (L T 1):=⟨_,rfl⟩
 obtain⟨g2,z2⟩:∃g:Ln,g=Ln.mk (⟨#[103,114,101,101,110]⟩:ByteArray) 100000 200000 5000 (L T 0) 50000 100000 1200 2 1 (L T 1):=⟨_,rfl⟩
 obtain⟨g3,z3⟩:∃g:Ln,g=Ln.mk (⟨#[103,114,101,101,110]⟩:ByteArray) 100000 200000 5000 (L T 0) 50000 100000 1200 2 1 (L T 1):=⟨_,rfl⟩
 obtain⟨q0,r0⟩:=fQ g1 z1 g2 z2 g3 z3 A0
 refine⟨⟨r0,trivial⟩,hO.trans ?_⟩
 exact (lc (by show U.bool (B T 27)= .bool (Dz us);unfold Dz;exact congrArg U.bool q0) rfl)
end Go.Eng
end
