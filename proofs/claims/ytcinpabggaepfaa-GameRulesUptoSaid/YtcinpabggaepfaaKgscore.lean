/-
  A part of the proof: K_gscored K_gscore.
-/
import Derived.Test.YtcinpabggaepfaaXQlRules
import Derived.Test.YtcinpabggaepfaaE3
import Derived.Test.YtcinpabggaepfaaE4
import Derived.Test.YtcinpabggaepfaaKgposs
import Derived.Test.YtcinpabggaepfaaKglegal
set_option linter.unusedVariables false
set_option linter.unusedSimpArgs false
noncomputable section
open Go Go.Eng Go.Proofs
set_option maxHeartbeats 4000000
set_option maxRecDepth 100000
namespace Go.Eng
def rk:List U→Int:=fun us=>((if AR (gAt 0 us)=true then rQ (AX (aI us 0)) (aI us 5) (aI us 7) else 0))
def rh:List U→Int:=fun us=>((if AR (gAt 0 us)=true then rQ (AX (aI us 0)) (aI us 6) (aI us 8) else 0))
def ri:List U→Int:=fun us=>((if AR (gAt 0 us)=true then 0 else 2))
def sD:Bc:={ sh:=[.agg [k64,k64,k64,k64,k64,k64,k64,k64,k64,.bool,.bool,.bool,.bool,.bool,.bool,.bool,.bool,k64,k64,.bool,.bool,.bool,k64,k64,k64,k64]],blks:=[],outs:=[(.s "gscore.0",AI rk),(.s "gscore.1",AI rh),(.s "gscore.2",AI ri)],c:= .tup [.agg [(AG 26),(AG 27)],(AG 28)],m':=[],pre:=[] }
def rT:List Rf:=[.e 0,.e 1,.e 2,.e 3,.e 4,.e 5,.e 6,.e 7,.e 8,.e 9,.e 10,.e 11,.e 12,.e 13,.e 14,.e 15,.e 16,.e 17,.e 18,.e 19,.e 20,.e 21,.e 22,.e 23,.e 24,.e 25,.e 37,.e 38,.e 39,.e 40,.e 41,.e 42]
def ta:List En:=[⟨26,.lt,[.e 0,.c (.int 0)]⟩,
 ⟨27,.not,[.e 26]⟩,
 ⟨28,.le,[.c (.int 4),.e 0]⟩,
 ⟨29,.or,[.e 26,.e 28]⟩,
 ⟨30,.not,[.e 29]⟩,
 ⟨31,.pick .i,[.e 0,.c (.int 12),.c (.int 12),.c (.int 6),.c (.int 12)]⟩,
 ⟨32,.pick .i,[.e 0,.c (.int 0),.c (.int 7),.c (.int 0),.c (.int 0)]⟩,
 ⟨33,.pick .i,[.e 0,.c (.int 0),.c (.int 10),.c (.int 0),.c (.int 0)]⟩,
 ⟨34,.pick .b,[.e 0,.c (.bool true),.c (.bool true),.c (.bool true),.c (.bool false)]⟩,
 ⟨35,.pick .b,[.e 0,.c (.bool true),.c (.bool false),.c (.bool true),.c (.bool false)]⟩,
 ⟨36,.pick .b,[.e 0,.c (.bool false),.c (.bool false),.c (.bool false),.c (.bool true)]⟩,
 ⟨37,.ite .i,[.e 29,.c (.int 0),.e 31]⟩,
 ⟨38,.ite .i,[.e 29,.c (.int 0),.e 32]⟩,
 ⟨39,.ite .i,[.e 29,.c (.int 0),.e 33]⟩,
 ⟨40,.ite .b,[.e 29,.c (.bool false),.e 34]⟩,
 ⟨41,.ite .b,[.e 29,.c (.bool false),.e 35]⟩]
def tk:List En:=[⟨42,.ite .b,[.e 29,.c (.bool false),.e 36]⟩,
 ⟨43,.ite .i,[.e 29,.c (.int 3),.c (.int 0)]⟩,
 ⟨44,.or,[.e 29,.e 30]⟩,
 ⟨45,.ne,[.e 43,.c (.int 0)]⟩,
 ⟨46,.not,[.e 45]⟩,
 ⟨47,.outB "gposs.0" JU,rT⟩,
 ⟨48,.or,[.e 45,.n 47]⟩,
 ⟨49,.not,[.e 48]⟩,
 ⟨50,.outB "glegal.0" IY,rT⟩,
 ⟨51,.or,[.e 48,.n 50]⟩,
 ⟨52,.not,[.e 51]⟩,
 ⟨53,.ite .i,[.e 51,.c (.int 2),.c (.int 0)]⟩,
 ⟨54,.not,[.e 51]⟩,
 ⟨55,.or,[.e 51,.e 52]⟩,
 ⟨56,.ne,[.e 53,.c (.int 0)]⟩,
 ⟨57,.not,[.e 56]⟩]
def tv:List En:=[⟨58,.o2 .add,[.e 37,.c (.int 1)]⟩,
 ⟨59,.o2 .min,[.e 5,.e 58]⟩,
 ⟨60,.o2 .add,[.e 37,.c (.int 1)]⟩,
 ⟨61,.o2 .min,[.e 6,.e 60]⟩,
 ⟨62,.o2 .add,[.e 37,.c (.int 1)]⟩,
 ⟨63,.o2 .min,[.e 7,.e 62]⟩,
 ⟨64,.w2 .i64 .add,[.e 59,.e 63]⟩,
 ⟨65,.o2 .add,[.e 37,.c (.int 1)]⟩,
 ⟨66,.o2 .min,[.e 8,.e 65]⟩,
 ⟨67,.w2 .i64 .add,[.e 61,.e 66]⟩,
 ⟨68,.ite .i,[.e 56,.c (.int 0),.e 64]⟩,
 ⟨69,.ite .i,[.e 56,.c (.int 0),.e 67]⟩,
 ⟨70,.ite .i,[.e 56,.e 53,.c (.int 0)]⟩,
 ⟨71,.or,[.e 56,.e 57]⟩]
def tO:List En:=ta++(tk++(tv))
def vT:List ObE:=[⟨some 57,.t,[.e 54]⟩,
 ⟨some 57,.t,[.e 54]⟩,
 ⟨some 57,.t,[.e 54]⟩,
 ⟨some 57,.t,[.e 54]⟩,
 ⟨some 57,.t,[.e 54]⟩,
 ⟨some 49,.pre "glegal.p0" HE,rT⟩,
 ⟨some 49,.pre "glegal.p1" DP,rT⟩,
 ⟨some 46,.pre "gposs.p0" IG,rT⟩,
 ⟨some 30,.inr,[.e 0,.c (.int 4)]⟩]
def tu:List Rf:=[.e 68,.e 69,.e 70]
theorem vD:sD.sees tu (sD.run Try.prog [(45,II),(46,EX)] Ba 3000 20 16)=some ((tO).map En.be,vT.map ObE.be,[]):=by kernel_rfl
theorem vM {T:Tab}(g:Gm)(hg:g=Gm.mk (I T 0) (I T 1) (I T 2) (I T 3) (I T 4) (I T 5) (I T 6) (I T 7) (I T 8) (B T 9) (B T 10) (B T 11) (B T 12) (B T 13) (B T 14) (B T 15) (B T 16) (I T 17) (I T 18) (B T 19) (B T 20) (B T 21) (I T 22) (I T 23) (I T 24) (I T 25))(g1:Gm)(z1:g1=Gm.mk (I T 0) (I T 1) (I T 2) (I T 3) (I T 4) (I T 5) (I T 6) (I T 7) (I T 8) (B T 9) (B T 10) (B T 11) (B T 12) (B T 13) (B T 14) (B T 15) (B T 16) (I T 17) (I T 18) (B T 19) (B T 20) (B T 21) (I T 22) (I T 23) (I T 24) (I T 25))(A0:AK T tO):
  ((I T 68)=((if AR g=true then rQ (AX (I T 0)) (I T 5) (I T 7) else 0)))∧
  ((I T 69)=((if AR g=true then rQ (AX (I T 0)) (I T 6) (I T 8) else 0)))∧
  ((I T 70)=((if AR g=true then 0 else 2)))∧
  (B T 57=true→B T 54=true)∧
  (B T 57=true→B T 54=true)∧
  (B T 57=true→B T 54=true)∧
  (B T 57=true→B T 54=true)∧
  (B T 57=true→B T 54=true)∧
  (B T 49=true→0≤I T 0∧I T 0≤3∧I T 37=AX (I T 0)∧I T 38=Ac (I T 0)∧I T 39=Ab (I T 0)∧B T 40=Aw (I T 0)∧B T 41=Ao (I T 0)∧B T 42=BI (I T 0))∧
  (B T 49=true→BU g1=true)∧
  (B T 46=true→0≤I T 0∧I T 0≤3∧I T 37=AX (I T 0)∧I T 38=Ac (I T 0)∧I T 39=Ab (I T 0)∧B T 40=Aw (I T 0)∧B T 41=Ao (I T 0)∧B T 42=BI (I T 0))∧
  (B T 30=true→0≤I T 0∧I T 0 < 4):=by
 obtain⟨F0,A0⟩:=A0.cut
 obtain⟨F1,A0⟩:=A0.cut
 have F2:=A0;clear A0
 have hgA:g1=g:=by rw[z1,hg]
 have hcode:g.code=I T 0:=by rw[hg]
 have h46:(B T 46)=true↔(0≤I T 0∧I T 0≤3):=by
  obtain⟨e26,-,e28,e29,-⟩:=F0
  obtain⟨-,e43,-,e45,e46,-⟩:=F1
  simp only[AA,AD,zR,zL] at e26 e28 e29 e43 e45 e46
  clear hg
  grind
 have hcd:(B T 46)=true→0≤I T 0∧I T 0≤3∧I T 37=AX (I T 0)∧I T 38=Ac (I T 0)∧I T 39=Ab (I T 0)∧B T 40=Aw (I T 0)∧B T 41=Ao (I T 0)∧B T 42=BI (I T 0):=by
  obtain⟨e26,-,e28,e29,-,e31,e32,e33,e34,e35,e36,e37,e38,e39,e40,e41,-⟩:=F0
  obtain⟨e42,e43,-,e45,e46,-⟩:=F1
  simp only[AA,AD,zC,zR,AN,AM,and_false,or_false,zL] at e26 e28 e29 e31 e32 e33 e34 e35 e36 e37 e38 e39 e40 e41 e42 e43 e45 e46
  clear hg
  intro h
  have h0:=h46.1 h
  refine⟨h0.1,h0.2,?_,?_,?_,?_,?_,?_⟩<;>first|(unfold AX;grind)|(unfold Ac;grind)|(unfold Ab;grind)|(refine AU ?_;unfold Aw;simp only[Bool.not_eq_true',decide_eq_false_iff_not];grind)|(refine AU ?_;unfold Ao;simp only[Bool.and_eq_true,Bool.not_eq_true',decide_eq_false_iff_not];grind)|(refine AU ?_;unfold BI;simp only[decide_eq_true_eq];grind)
 have h47:(B T 47)=BU g:=by
  obtain⟨-,-,-,-,-,e47,-⟩:=F1
  replace e47:B T 47=(BU g1):=by rw[←show gAt 0 (rT.map (Rf.eval T))=g1 from z1.symm];exact e47
  rw[e47,hgA]
 have h50:(B T 50)=(DR g&&CI g&&((Ag g&&Ct g)||(!Ag g&&Cm g))):=by
  obtain⟨-,-,-,-,-,-,-,-,e50,-⟩:=F1
  replace e50:B T 50=(DR g1&&CI g1&&((Ag g1&&Ct g1)||(!Ag g1&&Cm g1))):=by rw[←show gAt 0 (rT.map (Rf.eval T))=g1 from z1.symm];exact e50
  rw[e50,hgA]
 have hleg:(B T 54)=true↔AR g=true:=by
  obtain⟨-,-,-,e45,e46,-,e48,-,-,e51,-,-,e54,-⟩:=F1
  simp only[AA,AD,zN,zR] at e45 e46 e48 e51 e54
  have e:AR g=(BU g&&(DR g&&CI g&&((Ag g&&Ct g)||(!Ag g&&Cm g)))):=by unfold AR;simp only[Bool.and_assoc]
  rw[e,←h47,←h50,Bool.and_eq_true]
  have hn:(B T 47)=true→B T 46=true:=by intro h;rw[h47] at h;have:=DB h;rw[hcode] at this;exact h46.2 ⟨this.1,this.2.1⟩
  clear hcd h46 hg e h47 h50
  grind
 have h56:(B T 56)=true↔¬AR g=true:=by
  obtain⟨-,-,-,-,-,-,-,-,-,e51,-,e53,e54,-,e56,-⟩:=F1
  simp only[AA,AD,zN,zR,zL] at e51 e53 e54 e56
  rw[←hleg]
  clear hg h46 hcd h47 h50 hleg
  grind
 have hpt:(B T 54)=true→(0≤I T 5∧I T 5≤13)∧(0≤I T 6∧I T 6≤13)∧(0≤I T 7∧I T 7≤13)∧(0≤I T 8∧I T 8≤13):=by
  obtain⟨-,-,-,-,-,-,-,-,-,-,-,-,e54,-⟩:=F1
  simp only[AA,AD,zR] at e54
  intro h
  have p:=Jl (hleg.1 h)
  rw[hg] at p;exact p
 have h37:(B T 54)=true→I T 37=AX (I T 0):=by
  obtain⟨-,-,-,e45,e46,-,e48,-,-,e51,-,-,e54,-⟩:=F1
  simp only[AA,AD,zN,zR] at e45 e46 e48 e51 e54
  intro h
  exact (hcd (by clear hcd h56 hpt hg h46;grind)).2.2.1
 refine⟨?_,?_,?_,?_,?_,?_,?_,?_,?_,?_,?_,?_⟩
 ·obtain⟨-,-,-,-,-,-,-,-,-,-,-,e53,e54,-,e56,-⟩:=F1
  obtain⟨e58,e59,e60,e61,e62,e63,e64,e65,e66,e67,e68,-⟩:=F2
  simp only[AA,AD,zR,Af,w2P,zL] at e53 e54 e56 e58 e59 e60 e61 e62 e63 e64 e65 e66 e67 e68
  clear hcd h46 h47 h50 hg
  cases hx:AR g with
  |false=>rw[if_neg (by decide)];grind
  |true=>
   rw[if_pos rfl]
   have h54:=hleg.2 hx
   have p:=hpt h54
   have h37:=h37 h54
   have hh:=gR (I T 0)
   clear hpt
   unfold rQ
   grind
 ·obtain⟨-,-,-,-,-,-,-,-,-,-,-,e53,e54,-,e56,-⟩:=F1
  obtain⟨e58,e59,e60,e61,e62,e63,e64,e65,e66,e67,-,e69,-⟩:=F2
  simp only[AA,AD,zR,Af,w2P,zL] at e53 e54 e56 e58 e59 e60 e61 e62 e63 e64 e65 e66 e67 e69
  clear hcd h46 h47 h50 hg
  cases hx:AR g with
  |false=>rw[if_neg (by decide)];grind
  |true=>
   rw[if_pos rfl]
   have h54:=hleg.2 hx
   have p:=hpt h54
   have h37:=h37 h54
   have hh:=gR (I T 0)
   clear hpt
   unfold rQ
   grind
 ·obtain⟨-,-,-,-,-,-,-,-,-,-,-,e53,e54,-,e56,-⟩:=F1
  obtain⟨-,-,-,-,-,-,-,-,-,-,-,-,e70,-⟩:=F2
  simp only[AA,AD,zR,zL] at e53 e54 e56 e70
  clear hcd h46 h47 h50 hg hpt h37
  cases hx:AR g with
  |false=>rw[if_neg (by decide)];grind
  |true=>rw[if_pos rfl];grind
 ·obtain⟨-,-,-,-,-,-,-,-,-,-,-,e53,e54,-,e56,e57,-⟩:=F1
  simp only[AA,AD,zR,zL] at e53 e54 e56 e57
  clear hcd h46 h47 h50 hg hpt h37 hleg
  grind
 ·obtain⟨-,-,-,-,-,-,-,-,-,-,-,e53,e54,-,e56,e57,-⟩:=F1
  simp only[AA,AD,zR,zL] at e53 e54 e56 e57
  clear hcd h46 h47 h50 hg hpt h37 hleg
  grind
 ·obtain⟨-,-,-,-,-,-,-,-,-,-,-,e53,e54,-,e56,e57,-⟩:=F1
  simp only[AA,AD,zR,zL] at e53 e54 e56 e57
  clear hcd h46 h47 h50 hg hpt h37 hleg
  grind
 ·obtain⟨-,-,-,-,-,-,-,-,-,-,-,e53,e54,-,e56,e57,-⟩:=F1
  simp only[AA,AD,zR,zL] at e53 e54 e56 e57
  clear hcd h46 h47 h50 hg hpt h37 hleg
  grind
 ·obtain⟨-,-,-,-,-,-,-,-,-,-,-,e53,e54,-,e56,e57,-⟩:=F1
  simp only[AA,AD,zR,zL] at e53 e54 e56 e57
  clear hcd h46 h47 h50 hg hpt h37 hleg
  grind
 ·obtain⟨-,-,-,e45,e46,-,e48,e49,-⟩:=F1
  simp only[AA,AD,zN,zR] at e45 e46 e48 e49
  intro h
  exact hcd (by clear hcd h56 hpt hg hleg;grind)
 ·obtain⟨-,-,-,-,-,-,e48,e49,-⟩:=F1
  simp only[AA,AD,zN,zR] at e48 e49
  intro h
  rw[hgA,←h47]
  clear hcd h50 hg
  grind
 ·obtain⟨-,-,-,-,e46,-⟩:=F1
  simp only[AA,AD,zR] at e46
  exact hcd
 ·obtain⟨e26,-,e28,e29,e30,-⟩:=F0
  simp only[AA,AD,zR] at e26 e28 e29 e30
  clear hcd h50 hg h47
  grind
theorem uz:CA Try.prog 16 sD:=by
 refine Bu (l:=[(45,II),(46,EX)]) C6 (by simp only[List.forall_mem_cons];exact⟨Wj,TJ,fun _ h=>absurd h (by simp)⟩) vD (by kernel_rfl) fun T us hpre hT hul hS hBd hE=>?_
 change us.length=26 at hul
 obtain⟨⟨lo0,hi0⟩,⟨lo1,hi1⟩,⟨lo2,hi2⟩,⟨lo3,hi3⟩,⟨lo4,hi4⟩,⟨lo5,hi5⟩,⟨lo6,hi6⟩,⟨lo7,hi7⟩,⟨lo8,hi8⟩,⟨lo17,hi17⟩,⟨lo18,hi18⟩,⟨lo22,hi22⟩,⟨lo23,hi23⟩,⟨lo24,hi24⟩,⟨lo25,hi25⟩,-⟩:=hBd
 clear lo0 hi0
 clear lo1 hi1
 clear lo2 hi2
 clear lo3 hi3
 clear lo4 hi4
 clear lo5 hi5
 clear lo6 hi6
 clear lo7 hi7
 clear lo8 hi8
 clear lo17 hi17
 clear lo18 hi18
 clear lo22 hi22
 clear lo23 hi23
 clear lo24 hi24
 clear lo25 hi25
 obtain⟨g,hg⟩:∃g:Gm,g=Gm.mk (I T 0) (I T 1) (I T 2) (I T 3) (I T 4) (I T 5) (I T 6) (I T 7) (I T 8) (B T 9) (B T 10) (B T 11) (B T 12) (B T 13) (B T 14) (B T 15) (B T 16) (I T 17) (I T 18) (B T 19) (B T 20) (B T 21) (I T 22) (I T 23) (I T 24) (I T 25):=⟨_,rfl⟩
 have hgu:gAt 0 us=g:=by rw[hg];exact DV hT hul (by decide)
 have ha0:aI us 0=I T 0:=inI hT hul (by decide)
 have ha5:aI us 5=I T 5:=inI hT hul (by decide)
 have ha6:aI us 6=I T 6:=inI hT hul (by decide)
 have ha7:aI us 7=I T 7:=inI hT hul (by decide)
 have ha8:aI us 8=I T 8:=inI hT hul (by decide)
 clear hpre
 skip
 obtain⟨A0,hO⟩:=CK (tys:=[.i,.i,.i]) (rs:=tu) hS (by kernel_rfl) hE
 obtain⟨g1,z1⟩:∃g:Gm,g=Gm.mk (I T 0) (I T 1) (I T 2) (I T 3) (I T 4) (I T 5) (I T 6) (I T 7) (I T 8) (B T 9) (B T 10) (B T 11) (B T 12) (B T 13) (B T 14) (B T 15) (B T 16) (I T 17) (I T 18) (B T 19) (B T 20) (B T 21) (I T 22) (I T 23) (I T 24) (I T 25):=⟨_,rfl⟩
 obtain⟨q0,q1,q2,r0,r1,r2,r3,r4,r5,r6,r7,r8⟩:=vM g hg g1 z1 A0
 refine⟨⟨r0,r1,r2,r3,r4,r5,(fun hp=>by show DP _;unfold DP;rw[show gAt 0 (rT.map (Rf.eval T))=g1 from z1.symm];exact r6 hp),r7,r8,trivial⟩,hO.trans ?_⟩
 exact (lc (by show U.int (I T 68)= .int (rk us);unfold rk;rw[hgu,ha0,ha5,ha7];exact congrArg U.int q0) (lc (by show U.int (I T 69)= .int (rh us);unfold rh;rw[hgu,ha0,ha6,ha8];exact congrArg U.int q1) (lc (by show U.int (I T 70)= .int (ri us);unfold ri;rw[hgu];exact congrArg U.int q2) rfl)))
end Go.Eng
end
