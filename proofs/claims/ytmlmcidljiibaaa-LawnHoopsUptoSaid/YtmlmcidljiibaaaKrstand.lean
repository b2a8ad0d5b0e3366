/-
  A part of the proof: K_rstandd K_rstand.
-/
import Derived.Test.YtmlmcidljiibaaaXQlHoops
import Derived.Test.YtmlmcidljiibaaaE3
import Derived.Test.YtmlmcidljiibaaaE4
import Derived.Test.YtmlmcidljiibaaaKrcheck
import Derived.Test.YtmlmcidljiibaaaKrpoint
set_option linter.unusedVariables false
set_option linter.unusedSimpArgs false
noncomputable section
open Go Go.Eng Go.Proofs
set_option maxHeartbeats 4000000
set_option maxRecDepth 100000
namespace Go.Eng
def fZ:List U→Int:=fun us=>(IP (gAt 0 us) (aI us 11) (aB us 12) (aI us 13) (aI us 14) (aI us 15))
def fX:List U→Int:=fun us=>(GN (gAt 0 us) (aI us 11) (aI us 13) (aI us 14) (aI us 15))
def fb:Ak:={ sh:=[.agg [.str,k64,k64,k64,.list [k64,k64,k64,k64,.bool],k64,k64,k64,k64,k64,.list [k64,k64,k64]],.one (k64),.one (.bool),.agg [k64,k64],.one (k64)],blks:=[],outs:=[(.s "rstand.0",Bj fZ),(.s "rstand.1",Bj fX)],c:= .tup [(CR 16),(CR 17)],m':=[],pre:=[] }
def Xu:List Rf:=[.e 0,.e 1,.e 2,.e 3,.e 4,.e 5,.e 6,.e 7,.e 8,.e 9,.e 10]
def f9:List En:=[⟨16,.outI "rcheck.0" GK,Xu⟩,
 ⟨17,.ne,[.e 16,.c (.int 0)]⟩,
 ⟨18,.outI "rcheck.0" GK,Xu⟩,
 ⟨19,.not,[.e 17]⟩,
 ⟨20,.lt,[.e 11,.c (.int 0)]⟩,
 ⟨21,.and,[.e 19,.n 20]⟩,
 ⟨22,.len,[.e 4]⟩,
 ⟨23,.le,[.e 22,.e 11]⟩,
 ⟨24,.or,[.e 20,.e 23]⟩,
 ⟨25,.and,[.e 19,.e 24]⟩,
 ⟨26,.and,[.e 19,.n 24]⟩,
 ⟨27,.outB "rpoint.0" GY,[.e 13,.e 14]⟩,
 ⟨28,.and,[.e 26,.e 27]⟩,
 ⟨29,.and,[.e 26,.n 27]⟩,
 ⟨30,.le,[.c (.int 1),.e 15]⟩,
 ⟨31,.and,[.e 28,.e 30]⟩]
def f7:List En:=[⟨32,.le,[.e 15,.c (.int 16384)]⟩,
 ⟨33,.and,[.e 30,.e 32]⟩,
 ⟨34,.and,[.e 28,.e 33]⟩,
 ⟨35,.and,[.e 28,.n 33]⟩,
 ⟨36,.get .i 0,[.e 4,.e 11]⟩,
 ⟨37,.get .i 1,[.e 4,.e 11]⟩,
 ⟨38,.get .i 2,[.e 4,.e 11]⟩,
 ⟨39,.get .i 3,[.e 4,.e 11]⟩,
 ⟨40,.get .b 4,[.e 4,.e 11]⟩,
 ⟨41,.w2 .i64 .sub,[.e 14,.e 37]⟩,
 ⟨42,.w2 .i64 .sub,[.e 13,.e 36]⟩,
 ⟨43,.and,[.e 34,.e 40]⟩,
 ⟨44,.and,[.e 34,.n 40]⟩,
 ⟨45,.ite .i,[.e 40,.e 42,.e 41]⟩,
 ⟨46,.ite .i,[.e 40,.e 41,.e 42]⟩,
 ⟨47,.and,[.e 34,.e 12]⟩]
def fw:List En:=[⟨48,.and,[.e 34,.n 12]⟩,
 ⟨49,.wneg .i64,[.e 45]⟩,
 ⟨50,.ite .i,[.e 12,.e 45,.e 49]⟩,
 ⟨51,.wneg .i64,[.e 46]⟩,
 ⟨52,.o2 .max,[.e 46,.e 51]⟩,
 ⟨53,.o2 .tdiv,[.e 38,.c (.int 2)]⟩,
 ⟨54,.le,[.e 53,.e 52]⟩,
 ⟨55,.and,[.e 34,.e 54]⟩,
 ⟨56,.and,[.e 34,.n 54]⟩,
 ⟨57,.w2 .i64 .sub,[.e 50,.e 15]⟩,
 ⟨58,.wneg .i64,[.e 39]⟩,
 ⟨59,.le,[.e 58,.e 57]⟩,
 ⟨60,.and,[.e 56,.e 59]⟩,
 ⟨61,.and,[.e 56,.n 59]⟩,
 ⟨62,.w2 .i64 .add,[.e 50,.e 15]⟩,
 ⟨63,.lt,[.e 39,.e 62]⟩]
def ft:List En:=[⟨64,.and,[.e 61,.e 63]⟩,
 ⟨65,.and,[.e 61,.n 63]⟩,
 ⟨66,.w2 .i64 .add,[.e 50,.e 15]⟩,
 ⟨67,.wneg .i64,[.e 39]⟩,
 ⟨68,.lt,[.e 67,.e 66]⟩,
 ⟨69,.and,[.e 65,.e 68]⟩,
 ⟨70,.and,[.e 65,.n 68]⟩,
 ⟨71,.ite .i,[.e 63,.c (.int 2),.c (.int 1)]⟩,
 ⟨72,.or,[.e 64,.e 69]⟩,
 ⟨73,.ite .i,[.e 59,.c (.int 3),.e 71]⟩,
 ⟨74,.or,[.e 60,.e 72]⟩,
 ⟨75,.ite .i,[.e 74,.e 73,.c (.int 0)]⟩,
 ⟨76,.or,[.e 74,.e 70]⟩,
 ⟨77,.ite .i,[.e 55,.c (.int 0),.e 75]⟩,
 ⟨78,.or,[.e 55,.e 76]⟩,
 ⟨79,.ite .i,[.e 35,.c (.int 3),.c (.int 0)]⟩]
def f8:List En:=[⟨80,.ite .i,[.e 35,.c (.int 0),.e 77]⟩,
 ⟨81,.or,[.e 35,.e 34]⟩,
 ⟨82,.ite .i,[.e 29,.c (.int 2),.e 79]⟩,
 ⟨83,.ite .i,[.e 29,.c (.int 0),.e 80]⟩,
 ⟨84,.or,[.e 29,.e 81]⟩,
 ⟨85,.ite .i,[.e 25,.c (.int 3),.e 82]⟩,
 ⟨86,.ite .i,[.e 25,.c (.int 0),.e 83]⟩,
 ⟨87,.or,[.e 25,.e 84]⟩,
 ⟨88,.ite .i,[.e 17,.e 18,.e 85]⟩,
 ⟨89,.ite .i,[.e 17,.c (.int 0),.e 86]⟩,
 ⟨90,.or,[.e 17,.e 87]⟩]
def fh:List En:=f9++(f7++(fw++(ft++(f8))))
def gO:List ObE:=[⟨some 34,.inl,[.e 11,.e 4]⟩]
def fx:List Rf:=[.e 89,.e 88]
theorem gM:fb.sees fx (fb.run Try.prog [(16,C3),(80,FX)] Ah 3000 20 27)=some ((fh).map En.be,gO.map ObE.be,[]):=by kernel_rfl
theorem gQ {T:Tab}(hz0:(S T 0).size≤140737488355328)(hl4:(L T 4).length≤140737488355328)(hl10:(L T 10).length≤140737488355328)(g:Ln)(hg:g=Ln.mk (S T 0) (I T 1) (I T 2) (I T 3) (L T 4) (I T 5) (I T 6) (I T 7) (I T 8) (I T 9) (L T 10))(g1:Ln)(z1:g1=Ln.mk (S T 0) (I T 1) (I T 2) (I T 3) (L T 4) (I T 5) (I T 6) (I T 7) (I T 8) (I T 9) (L T 10))(A0:AJ T fh):
  ((I T 89)=(IP g (I T 11) (B T 12) (I T 13) (I T 14) (I T 15)))∧
  ((I T 88)=(GN g (I T 11) (I T 13) (I T 14) (I T 15)))∧
  (B T 34=true→0≤I T 11∧I T 11 < ((L T 4)).length):=by
 obtain⟨F0,A0⟩:=A0.cut
 obtain⟨F1,A0⟩:=A0.cut
 obtain⟨F2,A0⟩:=A0.cut
 obtain⟨F3,A0⟩:=A0.cut
 have F4:=A0;clear A0
 have hgg:g1=g:=by
  rw[z1,hg]
 have hh:(g).hoops=((L T 4)):=by
  rw[hg]
 have hc:(I T 16)=AT g∧I T 18=I T 16:=by
  obtain⟨e16,-,e18,-⟩:=F0
  replace e16:I T 16=(AT g1):=by rw[←show gAt 0 (Xu.map (Rf.eval T))=g1 from z1.symm];exact e16
  replace e18:I T 18=(AT g1):=by rw[←show gAt 0 (Xu.map (Rf.eval T))=g1 from z1.symm];exact e18
  exact⟨by rw[e16,hgg],by rw[e18,e16]⟩
 have hE:(I T 88)=GN g (I T 11) (I T 13) (I T 14) (I T 15):=by
  obtain⟨e16,e17,e18,e19,e20,-,e22,e23,e24,e25,e26,e27,e28,e29,e30,-⟩:=F0
  obtain⟨e32,e33,-,e35,-⟩:=F1
  obtain⟨-,-,-,-,-,-,-,-,-,-,-,-,-,-,-,e79,-⟩:=F3
  obtain⟨-,-,e82,-,-,e85,-,-,e88,-⟩:=F4
  replace e16:I T 16=(AT g1):=by rw[←show gAt 0 (Xu.map (Rf.eval T))=g1 from z1.symm];exact e16
  replace e18:I T 18=(AT g1):=by rw[←show gAt 0 (Xu.map (Rf.eval T))=g1 from z1.symm];exact e18
  replace e27:B T 27=(AH (I T 13) (I T 14)):=e27
  simp only[AE,AF,zN,zR,zL] at*
  unfold GN
  rw[hh,←hc.1]
  have hc2:=hc.2
  have hr:=CN (r:=I T 15)
  have e27:(B T 27)=AH (I T 13) (I T 14):=e27
  clear hh hgg hg hc e16 e18
  grind (splits:=60)
 have hs:(I T 88)=0→B T 17=false∧B T 25=false∧B T 29=false∧B T 35=false∧B T 34=true∧AH (I T 13) (I T 14)=true∧(1≤I T 15∧I T 15≤16384)∧0≤I T 11∧I T 11 < ((L T 4)).length:=by
  obtain⟨e16,e17,e18,e19,e20,-,e22,e23,e24,e25,e26,e27,e28,e29,e30,-⟩:=F0
  obtain⟨e32,e33,e34,e35,-⟩:=F1
  obtain⟨-,-,-,-,-,-,-,-,-,-,-,-,-,-,-,e79,-⟩:=F3
  obtain⟨-,-,e82,-,-,e85,-,-,e88,-⟩:=F4
  replace e16:I T 16=(AT g1):=by rw[←show gAt 0 (Xu.map (Rf.eval T))=g1 from z1.symm];exact e16
  replace e18:I T 18=(AT g1):=by rw[←show gAt 0 (Xu.map (Rf.eval T))=g1 from z1.symm];exact e18
  replace e27:B T 27=(AH (I T 13) (I T 14)):=e27
  simp only[AE,AF,zN,zR,zL] at*
  intro h
  have e27:(B T 27)=AH (I T 13) (I T 14):=e27
  have hc2:=hc.2
  clear hh hgg hg hc e16 e18 hE
  grind (splits:=60)
 have hv:(I T 88)=0→I T 89=Ox (AA ((L T 4)) (I T 11).toNat 0) (AA ((L T 4)) (I T 11).toNat 1) (AA ((L T 4)) (I T 11).toNat 2) (AA ((L T 4)) (I T 11).toNat 3) (M3 ((L T 4)) (I T 11).toNat 4) (B T 12) (I T 13) (I T 14) (I T 15):=by
  obtain⟨e16,e17,e18,e19,e20,-,e22,e23,e24,e25,e26,e27,e28,e29,e30,-⟩:=F0
  obtain⟨e32,e33,e34,e35,e36,e37,e38,e39,e40,e41,e42,-,-,e45,e46,-⟩:=F1
  obtain⟨-,e49,e50,e51,e52,e53,e54,e55,e56,e57,e58,e59,e60,e61,e62,e63,-⟩:=F2
  obtain⟨e64,e65,e66,e67,e68,e69,-,e71,e72,e73,e74,e75,-,e77,-,e79,-⟩:=F3
  obtain⟨e80,-,e82,e83,-,e85,e86,-,e88,e89,-⟩:=F4
  replace e16:I T 16=(AT g1):=by rw[←show gAt 0 (Xu.map (Rf.eval T))=g1 from z1.symm];exact e16
  replace e18:I T 18=(AT g1):=by rw[←show gAt 0 (Xu.map (Rf.eval T))=g1 from z1.symm];exact e18
  replace e27:B T 27=(AH (I T 13) (I T 14)):=e27
  simp only[AE,AF,zN,zR,AR,w2P,wnP,zL] at*
  intro h0
  obtain⟨t17,t25,t29,t35,t34,t1,t2,hr⟩:=hs h0
  have hz:AT g=0:=by
   rw[←hc.1]
   cases Classical.em ((I T 16)=0) with
   |inl h=>exact h
   |inr h=>have:=e17.2 h;simp[t17] at this
  have hb:=X6 hz hr.1 (by rw[hh];exact hr.2)
  rw[hh] at hb
  obtain⟨w1,w2,w3,w4⟩:=hb
  obtain⟨⟨p1,p2⟩,p3,p4⟩:=Av.1 t1
  rw[←e36,←e37,←e38,←e39,←e40]
  rw[←e36] at w1
  rw[←e37] at w2
  rw[←e38] at w3
  rw[←e39] at w4
  have x41:=e41 (by omega) (by omega)
  have x42:=e42 (by omega) (by omega)
  have k45: -8388608≤I T 45∧I T 45≤8388608:=by rw[e45];split<;>omega
  have k46: -8388608≤I T 46∧I T 46≤8388608:=by rw[e46];split<;>omega
  have x49:=e49.1 (by omega) (by omega)
  have x51:=e51.1 (by omega) (by omega)
  have k50: -8388608≤I T 50∧I T 50≤8388608:=by rw[e50];split<;>omega
  have x57:=e57 (by omega) (by omega)
  have x62:=e62 (by omega) (by omega)
  have x66:=e66 (by omega) (by omega)
  have x58:=e58.1 (by omega) (by omega)
  have x67:=e67.1 (by omega) (by omega)
  have x53:(I T 53)=(I T 38) / 2:=by rw[e53,if_pos (by omega)]
  rw[Z3 (v:=I T 46) (w:=I T 45) (u:=I T 50) (m:=I T 52) (by rw[e46,x41,x42]) (by rw[e45,x41,x42]) (by rw[e50,x49]) (by rw[e52,x51])]
  rw[←x53]
  clear hh hgg hg hc hE hs w1 w2 w3 w4 p1 p2 p3 p4 e36 e37 e38 e39 e40 e41 e42 e45 e46 e49 e50 e51 e52 e53 x41 x42 x49 x51 e57 e62 e66 e58 e67 k45 k46 k50 x53
  grind (splits:=60)
 have hV:(I T 89)=IP g (I T 11) (B T 12) (I T 13) (I T 14) (I T 15):=by
  obtain⟨e16,e17,e18,e19,e20,-,e22,e23,e24,e25,e26,e27,e28,e29,e30,-⟩:=F0
  obtain⟨e32,e33,e34,e35,e36,e37,e38,e39,e40,e41,e42,-,-,e45,e46,-⟩:=F1
  obtain⟨-,e49,e50,e51,e52,e53,e54,e55,e56,e57,e58,e59,e60,e61,e62,e63,-⟩:=F2
  obtain⟨e64,e65,e66,e67,e68,e69,-,e71,e72,e73,e74,e75,-,e77,-,e79,-⟩:=F3
  obtain⟨e80,-,e82,e83,-,e85,e86,-,e88,e89,-⟩:=F4
  replace e16:I T 16=(AT g1):=by rw[←show gAt 0 (Xu.map (Rf.eval T))=g1 from z1.symm];exact e16
  replace e18:I T 18=(AT g1):=by rw[←show gAt 0 (Xu.map (Rf.eval T))=g1 from z1.symm];exact e18
  replace e27:B T 27=(AH (I T 13) (I T 14)):=e27
  simp only[AE,AF,zN,zR,AR,w2P,wnP,zL] at*
  unfold IP
  rw[←hE,hh]
  by_cases h:(I T 88)=0
  ·rw[if_pos h];exact hv h
  ·rw[if_neg h]
   have hc2:=hc.2
   clear hE hh hg hgg hs hv hc
   grind
 refine⟨?_,?_,?_⟩
 ·obtain⟨e16,e17,-,e19,e20,-,e22,e23,e24,e25,e26,e27,e28,e29,e30,-⟩:=F0
  obtain⟨e32,e33,e34,e35,e36,e37,e38,e39,e40,e41,e42,-,-,e45,e46,-⟩:=F1
  obtain⟨-,e49,e50,e51,e52,e53,e54,e55,e56,e57,e58,e59,e60,e61,e62,e63,-⟩:=F2
  obtain⟨e64,e65,e66,e67,e68,e69,-,e71,e72,e73,e74,e75,-,e77,-⟩:=F3
  obtain⟨e80,-,-,e83,-,-,e86,-,-,e89,-⟩:=F4
  replace e16:I T 16=(AT g1):=by rw[←show gAt 0 (Xu.map (Rf.eval T))=g1 from z1.symm];exact e16
  replace e27:B T 27=(AH (I T 13) (I T 14)):=e27
  simp only[AE,AF,zN,zR,AR,w2P,wnP,zL] at*
  exact hV
 ·obtain⟨e16,e17,e18,e19,e20,-,e22,e23,e24,e25,e26,e27,e28,e29,e30,-⟩:=F0
  obtain⟨e32,e33,-,e35,-⟩:=F1
  obtain⟨-,-,-,-,-,-,-,-,-,-,-,-,-,-,-,e79,-⟩:=F3
  obtain⟨-,-,e82,-,-,e85,-,-,e88,-⟩:=F4
  replace e16:I T 16=(AT g1):=by rw[←show gAt 0 (Xu.map (Rf.eval T))=g1 from z1.symm];exact e16
  replace e18:I T 18=(AT g1):=by rw[←show gAt 0 (Xu.map (Rf.eval T))=g1 from z1.symm];exact e18
  replace e27:B T 27=(AH (I T 13) (I T 14)):=e27
  simp only[AE,AF,zN,zR,zL] at*
  exact hE
 ·obtain⟨e16,e17,-,e19,e20,-,e22,e23,e24,-,e26,e27,e28,-,e30,-⟩:=F0
  obtain⟨e32,e33,e34,-⟩:=F1
  replace e16:I T 16=(AT g1):=by rw[←show gAt 0 (Xu.map (Rf.eval T))=g1 from z1.symm];exact e16
  replace e27:B T 27=(AH (I T 13) (I T 14)):=e27
  simp only[AE,AF,zN,zR,zL] at*
  intro hp
  have h:=(e34.1 hp).1
  clear hE hh hgg hs hv hV hc
  grind
theorem gJ:Aq Try.prog 27 fb:=by
 refine Ai (l:=[(16,C3),(80,FX)]) BX (by simp only[List.forall_mem_cons];exact⟨Yw,Q8,fun _ h=>absurd h (by simp)⟩) gM (by kernel_rfl) fun T us hpre hT hul hS hBd hE=>?_
 change us.length=16 at hul
 obtain⟨hz0,-,-,-,⟨hl4,he4⟩,-,-,-,-,-,⟨hl10,he10⟩,-⟩:=hBd
 replace hz0:(S T 0).size≤140737488355328:=hz0
 replace hl4:(L T 4).length≤140737488355328:=hl4
 replace hl10:(L T 10).length≤140737488355328:=hl10
 obtain⟨g,hg⟩:∃g:Ln,g=Ln.mk (S T 0) (I T 1) (I T 2) (I T 3) (L T 4) (I T 5) (I T 6) (I T 7) (I T 8) (I T 9) (L T 10):=⟨_,rfl⟩
 have hgu:gAt 0 us=g:=by rw[hg];exact DU hT hul (by decide)
 have ha11:aI us 11=I T 11:=inI hT hul (by decide)
 have ha12:aB us 12=B T 12:=inB hT hul (by decide)
 have ha13:aI us 13=I T 13:=inI hT hul (by decide)
 have ha14:aI us 14=I T 14:=inI hT hul (by decide)
 have ha15:aI us 15=I T 15:=inI hT hul (by decide)
 clear hpre
 skip
 obtain⟨A0,hO⟩:=Ar (tys:=[.i,.i]) (rs:=fx) hS (by kernel_rfl) hE
 obtain⟨g1,z1⟩:∃g:Ln,g=Ln.mk (S T 0) (I T 1) (I T 2) (I T 3) (L T 4) (I T 5) (I T 6) (I T 7) (I T 8) (I T 9) (L T 10):=⟨_,rfl⟩
 obtain⟨q0,q1,r0⟩:=gQ hz0 hl4 hl10 g hg g1 z1 A0
 refine⟨⟨r0,trivial⟩,hO.trans ?_⟩
 exact (lc (by show U.int (I T 89)= .int (fZ us);unfold fZ;rw[hgu,ha11,ha12,ha13,ha14,ha15];exact congrArg U.int q0) (lc (by show U.int (I T 88)= .int (fX us);unfold fX;rw[hgu,ha11,ha13,ha14,ha15];exact congrArg U.int q1) rfl))
end Go.Eng
end
