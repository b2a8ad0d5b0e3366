/-
  A part of the proof: K_gcheckd K_gcheck.
-/
import Derived.Test.YtcinpabggaepfaaXQlRules
import Derived.Test.YtcinpabggaepfaaE3
import Derived.Test.YtcinpabggaepfaaE4
import Derived.Test.YtcinpabggaepfaaKgposs
import Derived.Test.YtcinpabggaepfaaKglegal
set_option linter.unusedVariables false
set_option linter.unusedSimpArgs false
noncomputable section
open Go Go.Eng Go.Proofs
set_option maxHeartbeats 4000000
set_option maxRecDepth 100000
namespace Go.Eng
def ly:List U→Int:=fun us=>((if AR (gAt 0 us)=true then 0 else 2))
def lz:Bc:={ sh:=[.agg [k64,k64,k64,k64,k64,k64,k64,k64,k64,.bool,.bool,.bool,.bool,.bool,.bool,.bool,.bool,k64,k64,.bool,.bool,.bool,k64,k64,k64,k64]],blks:=[],outs:=[(.s "gcheck.0",AI ly)],c:=(AG 26),m':=[],pre:=[] }
def lk:List Rf:=[.e 0,.e 1,.e 2,.e 3,.e 4,.e 5,.e 6,.e 7,.e 8,.e 9,.e 10,.e 11,.e 12,.e 13,.e 14,.e 15,.e 16,.e 17,.e 18,.e 19,.e 20,.e 21,.e 22,.e 23,.e 24,.e 25,.e 37,.e 38,.e 39,.e 40,.e 41,.e 42]
def mT:List En:=[⟨26,.lt,[.e 0,.c (.int 0)]⟩,
 ⟨27,.not,[.e 26]⟩,
 ⟨28,.le,[.c (.int 4),.e 0]⟩,
 ⟨29,.or,[.e 26,.e 28]⟩,
 ⟨30,.not,[.e 29]⟩,
 ⟨31,.pick .i,[.e 0,.c (.int 12),.c (.int 12),.c (.int 6),.c (.int 12)]⟩,
 ⟨32,.pick .i,[.e 0,.c (.int 0),.c (.int 7),.c (.int 0),.c (.int 0)]⟩,
 ⟨33,.pick .i,[.e 0,.c (.int 0),.c (.int 10),.c (.int 0),.c (.int 0)]⟩,
 ⟨34,.pick .b,[.e 0,.c (.bool true),.c (.bool true),.c (.bool true),.c (.bool false)]⟩,
 ⟨35,.pick .b,[.e 0,.c (.bool true),.c (.bool false),.c (.bool true),.c (.bool false)]⟩,
 ⟨36,.pick .b,[.e 0,.c (.bool false),.c (.bool false),.c (.bool false),.c (.bool true)]⟩,
 ⟨37,.ite .i,[.e 29,.c (.int 0),.e 31]⟩,
 ⟨38,.ite .i,[.e 29,.c (.int 0),.e 32]⟩,
 ⟨39,.ite .i,[.e 29,.c (.int 0),.e 33]⟩,
 ⟨40,.ite .b,[.e 29,.c (.bool false),.e 34]⟩,
 ⟨41,.ite .b,[.e 29,.c (.bool false),.e 35]⟩]
def mS:List En:=[⟨42,.ite .b,[.e 29,.c (.bool false),.e 36]⟩,
 ⟨43,.ite .i,[.e 29,.c (.int 3),.c (.int 0)]⟩,
 ⟨44,.or,[.e 29,.e 30]⟩,
 ⟨45,.ne,[.e 43,.c (.int 0)]⟩,
 ⟨46,.not,[.e 45]⟩,
 ⟨47,.outB "gposs.0" JU,lk⟩,
 ⟨48,.or,[.e 45,.n 47]⟩,
 ⟨49,.not,[.e 48]⟩,
 ⟨50,.outB "glegal.0" IY,lk⟩,
 ⟨51,.or,[.e 48,.n 50]⟩,
 ⟨52,.not,[.e 51]⟩,
 ⟨53,.ite .i,[.e 51,.c (.int 2),.c (.int 0)]⟩,
 ⟨54,.not,[.e 51]⟩,
 ⟨55,.or,[.e 51,.e 52]⟩]
def mD:List En:=mT++(mS)
def mZ:List ObE:=[⟨some 49,.pre "glegal.p0" HE,lk⟩,
 ⟨some 49,.pre "glegal.p1" DP,lk⟩,
 ⟨some 46,.pre "gposs.p0" IG,lk⟩,
 ⟨some 30,.inr,[.e 0,.c (.int 4)]⟩]
def mQ:List Rf:=[.e 53]
theorem mc:lz.sees mQ (lz.run Try.prog [(45,II),(46,EX)] Ba 3000 20 23)=some ((mD).map En.be,mZ.map ObE.be,[]):=by kernel_rfl
theorem mY {T:Tab}(g:Gm)(hg:g=gT T 0)(g1:Gm)(z1:g1=gT T 0)(A0:AK T mD):
  ((I T 53)=((if AR g=true then 0 else 2)))∧
  (B T 49=true→0≤I T 0∧I T 0≤3∧I T 37=AX (I T 0)∧I T 38=Ac (I T 0)∧I T 39=Ab (I T 0)∧B T 40=Aw (I T 0)∧B T 41=Ao (I T 0)∧B T 42=BI (I T 0))∧
  (B T 49=true→BU g1=true)∧
  (B T 46=true→0≤I T 0∧I T 0≤3∧I T 37=AX (I T 0)∧I T 38=Ac (I T 0)∧I T 39=Ab (I T 0)∧B T 40=Aw (I T 0)∧B T 41=Ao (I T 0)∧B T 42=BI (I T 0))∧
  (B T 30=true→0≤I T 0∧I T 0 < 4):=by
 obtain⟨F0,A0⟩:=A0.cut
 have F1:=A0;clear A0
 have hgA:g1=g:=by rw[z1,hg]
 have hcode:g.code=I T 0:=by rw[hg]
 have h46:(B T 46)=true↔(0≤I T 0∧I T 0≤3):=by
  obtain⟨e26,-,e28,e29,-⟩:=F0
  obtain⟨-,e43,-,e45,e46,-⟩:=F1
  simp only[AA,AD,zR,zL] at*
  clear hg
  grind
 have hcd:(B T 46)=true→0≤I T 0∧I T 0≤3∧I T 37=AX (I T 0)∧I T 38=Ac (I T 0)∧I T 39=Ab (I T 0)∧B T 40=Aw (I T 0)∧B T 41=Ao (I T 0)∧B T 42=BI (I T 0):=by
  obtain⟨e26,-,e28,e29,-,e31,e32,e33,e34,e35,e36,e37,e38,e39,e40,e41,-⟩:=F0
  obtain⟨e42,e43,-,e45,e46,-⟩:=F1
  simp only[AA,AD,zC,zR,AN,AM,and_false,or_false,zL] at*
  clear hg
  intro h
  have h0:=h46.1 h
  refine⟨h0.1,h0.2,?_,?_,?_,?_,?_,?_⟩<;>first|(unfold AX;grind)|(unfold Ac;grind)|(unfold Ab;grind)|(refine AU ?_;unfold Aw;simp only[Bool.not_eq_true',decide_eq_false_iff_not];grind)|(refine AU ?_;unfold Ao;simp only[Bool.and_eq_true,Bool.not_eq_true',decide_eq_false_iff_not];grind)|(refine AU ?_;unfold BI;simp only[decide_eq_true_eq];grind)
 have h47:(B T 47)=BU g:=by
  obtain⟨-,-,-,-,-,e47,-⟩:=F1
  replace e47:B T 47=(BU g1):=by rw[←show gAt 0 (lk.map (Rf.eval T))=g1 from z1.symm];exact e47
  rw[e47,hgA]
 have h50:(B T 50)=(DR g&&CI g&&((Ag g&&Ct g)||(!Ag g&&Cm g))):=by
  obtain⟨-,-,-,-,-,-,-,-,e50,-⟩:=F1
  replace e50:B T 50=(DR g1&&CI g1&&((Ag g1&&Ct g1)||(!Ag g1&&Cm g1))):=by rw[←show gAt 0 (lk.map (Rf.eval T))=g1 from z1.symm];exact e50
  rw[e50,hgA]
 have hleg:(B T 54)=true↔AR g=true:=by
  obtain⟨-,-,-,e45,e46,-,e48,-,-,e51,-,-,e54,-⟩:=F1
  simp only[AA,AD,zN,zR] at*
  have e:AR g=(BU g&&(DR g&&CI g&&((Ag g&&Ct g)||(!Ag g&&Cm g)))):=by unfold AR;simp only[Bool.and_assoc]
  rw[e,←h47,←h50,Bool.and_eq_true]
  have hn:(B T 47)=true→B T 46=true:=by intro h;rw[h47] at h;have:=DB h;rw[hcode] at this;exact h46.2 ⟨this.1,this.2.1⟩
  clear hcd h46 hg e h47 h50
  grind
 refine⟨?_,?_,?_,?_,?_⟩
 ·obtain⟨-,-,-,-,-,-,-,-,-,e51,-,e53,e54,-⟩:=F1
  simp only[AA,AD,zN,zR,zL] at e51 e53 e54
  clear hcd h46 h47 h50 hg
  cases hx:AR g with
  |false=>rw[if_neg (by decide)];grind
  |true=>rw[if_pos rfl];grind
 ·obtain⟨e26,-,e28,e29,-,e31,e32,e33,e34,e35,e36,e37,e38,e39,e40,e41,-⟩:=F0
  obtain⟨e42,e43,-,e45,-,e47,e48,e49,-⟩:=F1
  replace e47:B T 47=(BU g1):=by rw[←show gAt 0 (lk.map (Rf.eval T))=g1 from z1.symm];exact e47
  simp only[AA,AD,zN,zC,zR,AN,AM,and_false,or_false,zL] at*
  grind (splits:=100)
 ·obtain⟨e26,-,e28,e29,-,e31,e32,e33,e34,e35,e36,e37,e38,e39,e40,e41,-⟩:=F0
  obtain⟨e42,e43,-,e45,-,e47,e48,e49,-⟩:=F1
  replace e47:B T 47=(BU g1):=by rw[←show gAt 0 (lk.map (Rf.eval T))=g1 from z1.symm];exact e47
  simp only[AA,AD,zN,zC,zR,AN,AM,and_false,or_false,zL] at*
  grind (splits:=100)
 ·obtain⟨e26,-,e28,e29,-,e31,e32,e33,e34,e35,e36,e37,e38,e39,e40,e41,-⟩:=F0
  obtain⟨e42,e43,-,e45,e46,-⟩:=F1
  simp only[AA,AD,zC,zR,AN,AM,and_false,or_false,zL] at*
  grind (splits:=100)
 ·obtain⟨e26,-,e28,e29,e30,-⟩:=F0
  simp only[AA,AD,zR] at*
  grind (splits:=100)
theorem mX:CA Try.prog 23 lz:=by
 refine Bu (l:=[(45,II),(46,EX)]) C6 (by simp only[List.forall_mem_cons];exact⟨Wj,TJ,fun _ h=>absurd h (by simp)⟩) mc (by kernel_rfl) fun T us hpre hT hul hS hBd hE=>?_
 change us.length=26 at hul
 clear hBd
 obtain⟨g,hg⟩:∃g:Gm,g=gT T 0:=⟨_,rfl⟩
 have hgu:gAt 0 us=g:=by rw[hg];exact DV hT hul (by decide)
 clear hpre
 skip
 obtain⟨A0,hO⟩:=CK (tys:=[.i]) (rs:=mQ) hS (by kernel_rfl) hE
 obtain⟨g1,z1⟩:∃g:Gm,g=gT T 0:=⟨_,rfl⟩
 obtain⟨q0,r0,r1,r2,r3⟩:=mY g hg g1 z1 A0
 refine⟨⟨r0,(fun hp=>by show DP _;unfold DP;rw[show gAt 0 (lk.map (Rf.eval T))=g1 from z1.symm];exact r1 hp),r2,r3,trivial⟩,hO.trans ?_⟩
 exact (lc (by show U.int (I T 53)= .int (ly us);unfold ly;rw[hgu];exact congrArg U.int q0) rfl)
end Go.Eng
end
