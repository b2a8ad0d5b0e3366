/-
  A part of the proof: K_fined K_fine.
-/
import Derived.Test.YtcinpabggaepfaaE3
import Derived.Test.YtcinpabggaepfaaE4
import Derived.Test.YtcinpabggaepfaaKgPlay
set_option linter.unusedVariables false
set_option linter.unusedSimpArgs false
noncomputable section
open Go Go.Eng Go.Proofs
set_option maxHeartbeats 4000000
set_option maxRecDepth 100000
namespace Go.Eng
def KH:List U→Bool:=fun us=>(true)
def M8:Bc:={ sh:=[],blks:=[],outs:=[(.s "fine.0",AQ KH)],c:= .b 0,m':=[],pre:=[] }
def BZ:List Rf:=[.c (.int 0),.c (.int 0),.c (.int 0),.c (.int (-1)),.c (.int (-1)),.c (.int 0),.c (.int 0),.c (.int 0),.c (.int 0),.c (.bool false),.c (.bool false),.c (.bool false),.c (.bool false),.c (.bool false),.c (.bool false),.c (.bool false),.c (.bool false),.c (.int 3),.c (.int 0),.c (.bool false),.c (.bool false),.c (.bool false),.c (.int 0),.c (.int 0),.c (.int (-1)),.c (.int (-1)),.c (.int 1),.c (.int 2),.c (.bool false),.c (.list [])]
def Bb:List Rf:=[.e 0,.e 1,.e 2,.e 3,.e 4,.e 5,.e 6,.e 7,.e 8,.e 9,.e 10,.e 11,.e 12,.e 13,.e 14,.e 15,.e 16,.e 17,.e 18,.e 19,.e 20,.e 21,.e 22,.e 23,.e 24,.e 25,.c (.int 2),.c (.int 0),.c (.bool false),.e 27]
def bu:List En:=[⟨0,.outI "gPlay.0" NX,BZ⟩,
 ⟨1,.outI "gPlay.1" OB,BZ⟩,
 ⟨2,.outI "gPlay.2" OS,BZ⟩,
 ⟨3,.outI "gPlay.3" Nu,BZ⟩,
 ⟨4,.outI "gPlay.4" NJ,BZ⟩,
 ⟨5,.outI "gPlay.5" Oe,BZ⟩,
 ⟨6,.outI "gPlay.6" N7,BZ⟩,
 ⟨7,.outI "gPlay.7" NO,BZ⟩,
 ⟨8,.outI "gPlay.8" OX,BZ⟩,
 ⟨9,.outB "gPlay.9" Nm,BZ⟩,
 ⟨10,.outB "gPlay.10" MI,BZ⟩,
 ⟨11,.outB "gPlay.11" MQ,BZ⟩,
 ⟨12,.outB "gPlay.12" Md,BZ⟩,
 ⟨13,.outB "gPlay.13" MF,BZ⟩,
 ⟨14,.outB "gPlay.14" MM,BZ⟩,
 ⟨15,.outB "gPlay.15" L0,BZ⟩]
def eK:List En:=[⟨16,.outB "gPlay.16" Lh,BZ⟩,
 ⟨17,.outI "gPlay.17" MX,BZ⟩,
 ⟨18,.outI "gPlay.18" L2,BZ⟩,
 ⟨19,.outB "gPlay.19" Mh,BZ⟩,
 ⟨20,.outB "gPlay.20" Lt,BZ⟩,
 ⟨21,.outB "gPlay.21" Lo,BZ⟩,
 ⟨22,.outI "gPlay.22" L8,BZ⟩,
 ⟨23,.outI "gPlay.23" MA,BZ⟩,
 ⟨24,.outI "gPlay.24" Mb,BZ⟩,
 ⟨25,.outI "gPlay.25" ML,BZ⟩,
 ⟨26,.outI "gPlay.26" Ih,BZ⟩,
 ⟨27,.row 1 2 [.i,.i],[.c (.int 2),.c (.int 2)]⟩,
 ⟨28,.outI "gPlay.0" NX,Bb⟩,
 ⟨29,.outI "gPlay.1" OB,Bb⟩,
 ⟨30,.outI "gPlay.2" OS,Bb⟩,
 ⟨31,.outI "gPlay.3" Nu,Bb⟩]
def eD:List En:=[⟨32,.outI "gPlay.4" NJ,Bb⟩,
 ⟨33,.outI "gPlay.5" Oe,Bb⟩,
 ⟨34,.outI "gPlay.6" N7,Bb⟩,
 ⟨35,.outI "gPlay.7" NO,Bb⟩,
 ⟨36,.outI "gPlay.8" OX,Bb⟩,
 ⟨37,.outB "gPlay.9" Nm,Bb⟩,
 ⟨38,.outB "gPlay.10" MI,Bb⟩,
 ⟨39,.outB "gPlay.11" MQ,Bb⟩,
 ⟨40,.outB "gPlay.12" Md,Bb⟩,
 ⟨41,.outB "gPlay.13" MF,Bb⟩,
 ⟨42,.outB "gPlay.14" MM,Bb⟩,
 ⟨43,.outB "gPlay.15" L0,Bb⟩,
 ⟨44,.outB "gPlay.16" Lh,Bb⟩,
 ⟨45,.outI "gPlay.17" MX,Bb⟩,
 ⟨46,.outI "gPlay.18" L2,Bb⟩,
 ⟨47,.outB "gPlay.19" Mh,Bb⟩]
def dv:List En:=[⟨48,.outB "gPlay.20" Lt,Bb⟩,
 ⟨49,.outB "gPlay.21" Lo,Bb⟩,
 ⟨50,.outI "gPlay.22" L8,Bb⟩,
 ⟨51,.outI "gPlay.23" MA,Bb⟩,
 ⟨52,.outI "gPlay.24" Mb,Bb⟩,
 ⟨53,.outI "gPlay.25" ML,Bb⟩,
 ⟨54,.outI "gPlay.26" Ih,Bb⟩,
 ⟨55,.w2 .i64 .add,[.e 26,.e 54]⟩,
 ⟨56,.eq,[.e 55,.c (.int 0)]⟩,
 ⟨57,.id .b,[.e 56]⟩,
 ⟨58,.eq,[.e 1,.c (.int 1)]⟩,
 ⟨59,.and,[.e 56,.e 58]⟩,
 ⟨60,.id .b,[.e 59]⟩,
 ⟨61,.eq,[.e 3,.c (.int 2)]⟩,
 ⟨62,.and,[.e 59,.e 61]⟩,
 ⟨63,.id .b,[.e 62]⟩]
def dg:List En:=[⟨64,.eq,[.e 22,.c (.int 1)]⟩,
 ⟨65,.and,[.e 62,.e 64]⟩,
 ⟨66,.id .b,[.e 65]⟩,
 ⟨67,.eq,[.e 29,.c (.int 3)]⟩,
 ⟨68,.and,[.e 65,.e 67]⟩,
 ⟨69,.id .b,[.e 68]⟩,
 ⟨70,.eqs [.i,.i,.i,.i],[.e 33,.c (.int 0),.e 34,.c (.int 0),.e 35,.c (.int 1),.e 36,.c (.int 0)]⟩,
 ⟨71,.and,[.e 68,.e 70]⟩]
def Wt:List En:=bu++(eK++(eD++(dv++(dg))))
def kZ:List ObE:=[]
def eP:List Rf:=[.e 71]
theorem kO:M8.sees eP (M8.run Try.prog [(12,LU)] Ba 3000 20 11)=some ((Wt).map En.be,kZ.map ObE.be,[]):=by kernel_rfl
theorem kX {T:Tab}(g1:Gm)(z1:g1=Gm.mk 0 0 0 (-1) (-1) 0 0 0 0 false false false false false false false false 3 0 false false false 0 0 (-1) (-1))(g2:Gm)(z2:g2=gT T 0)(A0:AK T Wt):
  ((B T 71)=(true)):=by
 obtain⟨F0,A0⟩:=A0.cut
 obtain⟨F1,A0⟩:=A0.cut
 obtain⟨F2,A0⟩:=A0.cut
 obtain⟨F3,A0⟩:=A0.cut
 have F4:=A0;clear A0
 have cr1_0:gT T 0=D2 g1 1 2 false ([]:List (List U)):=by
  obtain⟨e0,e1,e2,e3,e4,e5,e6,e7,e8,e9,e10,e11,e12,e13,e14,e15,-⟩:=F0
  obtain⟨e16,e17,e18,e19,e20,e21,e22,e23,e24,e25,-⟩:=F1
  rw[←show gAt 0 (BZ.map (Rf.eval T))=g1 from z1.symm]
  exact Bk e0 e1 e2 e3 e4 e5 e6 e7 e8 e9 e10 e11 e12 e13 e14 e15 e16 e17 e18 e19 e20 e21 e22 e23 e24 e25
 have cr2_0:gT T 28=D2 g2 2 0 false (L T 27):=by
  obtain⟨-,-,-,-,-,-,-,-,-,-,-,-,e28,e29,e30,e31,-⟩:=F1
  obtain⟨e32,e33,e34,e35,e36,e37,e38,e39,e40,e41,e42,e43,e44,e45,e46,e47,-⟩:=F2
  obtain⟨e48,e49,e50,e51,e52,e53,-⟩:=F3
  rw[←show gAt 0 (Bb.map (Rf.eval T))=g2 from z2.symm]
  exact Bk e28 e29 e30 e31 e32 e33 e34 e35 e36 e37 e38 e39 e40 e41 e42 e43 e44 e45 e46 e47 e48 e49 e50 e51 e52 e53
 ·obtain⟨-,-,-,-,-,-,-,-,-,-,e26,e27,-⟩:=F1
  obtain⟨-,-,-,-,-,-,e54,e55,e56,-,e58,e59,-,e61,e62,-⟩:=F3
  obtain⟨e64,e65,-,e67,e68,-,e70,e71,-⟩:=F4
  replace e26:I T 26=(B9 g1 1 2 false ([]:List (List U))):=by rw[←show gAt 0 (BZ.map (Rf.eval T))=g1 from z1.symm];exact e26
  replace e54:I T 54=(B9 g2 2 0 false (L T 27)):=by rw[←show gAt 0 (Bb.map (Rf.eval T))=g2 from z2.symm];exact e54
  simp only[AA,AD,zR,BL,and_true,w2P,zL,uR,Aj,zW] at*
  have r1:D2 g1 1 2 false ([]:List (List U))=Gm.mk 0 1 0 2 (-1) 0 0 0 0 false false true false false false false false 3 0 false false false 1 0 (-1) (-1):=by rw[z1];kernel_rfl
  have x1:B9 g1 1 2 false ([]:List (List U))=0:=by rw[z1];kernel_rfl
  have s2:g2=Gm.mk 0 1 0 2 (-1) 0 0 0 0 false false true false false false false false 3 0 false false false 1 0 (-1) (-1):=by rw[z2,cr1_0,r1]
  have hl:(L T 27)=[[U.int 2,U.int 2]]:=e27
  have r2:D2 g2 2 0 false (L T 27)=Gm.mk 0 3 0 2 (-1) 0 0 1 0 false false true false false false false false 3 0 false false false 1 0 (-1) (-1):=by rw[s2,hl];kernel_rfl
  have x2:B9 g2 2 0 false (L T 27)=0:=by rw[s2,hl];kernel_rfl
  rw[r2] at cr2_0
  rw[r1] at cr1_0
  rw[x1] at e26
  rw[x2] at e54
  simp only[Gm.mk.injEq] at cr1_0 cr2_0
  clear s2 z1 z2 r1 r2 x1 x2 hl e27
  grind
theorem jS:CA Try.prog 11 M8:=by
 refine Bu (l:=[(12,LU)]) C6 (by simp only[List.forall_mem_cons];exact⟨ip,fun _ h=>absurd h (by simp)⟩) kO (by kernel_rfl) fun T us hpre hT hul hS hBd hE=>?_
 change us.length=0 at hul
 clear hBd
 clear hpre
 skip
 obtain⟨A0,hO⟩:=CK (tys:=[.b]) (rs:=eP) hS (by kernel_rfl) hE
 obtain⟨g1,z1⟩:∃g:Gm,g=Gm.mk 0 0 0 (-1) (-1) 0 0 0 0 false false false false false false false false 3 0 false false false 0 0 (-1) (-1):=⟨_,rfl⟩
 obtain⟨g2,z2⟩:∃g:Gm,g=gT T 0:=⟨_,rfl⟩
 have q0:=kX g1 z1 g2 z2 A0
 refine⟨trivial,hO.trans ?_⟩
 exact (lc (by show U.bool (B T 71)= .bool (KH us);unfold KH;exact congrArg U.bool q0) rfl)
end Go.Eng
end
