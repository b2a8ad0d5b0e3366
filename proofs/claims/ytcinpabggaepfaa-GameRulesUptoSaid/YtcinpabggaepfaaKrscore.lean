/-
  A part of the proof: K_rscored K_rscore.
-/
import Derived.Test.YtcinpabggaepfaaXQlRules
import Derived.Test.YtcinpabggaepfaaE3
import Derived.Test.YtcinpabggaepfaaE4
import Derived.Test.YtcinpabggaepfaaKrlegal
import Derived.Test.YtcinpabggaepfaaKlaws
set_option linter.unusedVariables false
set_option linter.unusedSimpArgs false
noncomputable section
open Go Go.Eng Go.Proofs
set_option maxHeartbeats 4000000
set_option maxRecDepth 100000
namespace Go.Eng
def rg:List U→Int:=fun us=>((if AR (gAt 0 us)=true then rQ (AX (aI us 0)) (aI us 5) (aI us 7) else 0))
def rm:List U→Int:=fun us=>((if AR (gAt 0 us)=true then rQ (AX (aI us 0)) (aI us 6) (aI us 8) else 0))
def rd:List U→Int:=fun us=>((if AR (gAt 0 us)=true then 0 else 2))
def sC:Bc:={ sh:=[.agg [k64,k64,k64,k64,k64,k64,k64,k64,k64,.bool,.bool,.bool,.bool,.bool,.bool,.bool,.bool,k64,k64,.bool,.bool,.bool,k64,k64,k64,k64]],blks:=[],outs:=[(.s "rscore.0",AI rg),(.s "rscore.1",AI rm),(.s "rscore.2",AI rd)],c:= .tup [.agg [(AG 26),(AG 27)],(AG 28)],m':=[],pre:=[] }
def rW:List Rf:=[.e 0,.e 1,.e 2,.e 3,.e 4,.e 5,.e 6,.e 7,.e 8,.e 9,.e 10,.e 11,.e 12,.e 13,.e 14,.e 15,.e 16,.e 17,.e 18,.e 19,.e 20,.e 21,.e 22,.e 23,.e 24,.e 25]
def tx:List En:=[⟨26,.outB "rlegal.0" Ik,rW⟩,
 ⟨27,.not,[.e 26]⟩,
 ⟨28,.eq,[.e 5,.c (.int 13)]⟩,
 ⟨29,.and,[.e 26,.e 28]⟩,
 ⟨30,.outI "laws.0" El,[.e 0]⟩,
 ⟨31,.outI "laws.1" EV,[.e 0]⟩,
 ⟨32,.outI "laws.2" Ef,[.e 0]⟩,
 ⟨33,.outB "laws.3" EZ,[.e 0]⟩,
 ⟨34,.outB "laws.4" Ed,[.e 0]⟩,
 ⟨35,.outB "laws.5" Eb,[.e 0]⟩,
 ⟨36,.w2 .i64 .add,[.e 30,.c (.int 1)]⟩,
 ⟨37,.and,[.e 26,.n 28]⟩,
 ⟨38,.ite .i,[.e 28,.e 36,.e 5]⟩,
 ⟨39,.eq,[.e 6,.c (.int 13)]⟩,
 ⟨40,.and,[.e 26,.e 39]⟩,
 ⟨41,.outI "laws.0" El,[.e 0]⟩]
def tc:List En:=[⟨42,.outI "laws.1" EV,[.e 0]⟩,
 ⟨43,.outI "laws.2" Ef,[.e 0]⟩,
 ⟨44,.outB "laws.3" EZ,[.e 0]⟩,
 ⟨45,.outB "laws.4" Ed,[.e 0]⟩,
 ⟨46,.outB "laws.5" Eb,[.e 0]⟩,
 ⟨47,.w2 .i64 .add,[.e 41,.c (.int 1)]⟩,
 ⟨48,.and,[.e 26,.n 39]⟩,
 ⟨49,.ite .i,[.e 39,.e 47,.e 6]⟩,
 ⟨50,.eq,[.e 7,.c (.int 13)]⟩,
 ⟨51,.and,[.e 26,.e 50]⟩,
 ⟨52,.outI "laws.0" El,[.e 0]⟩,
 ⟨53,.outI "laws.1" EV,[.e 0]⟩,
 ⟨54,.outI "laws.2" Ef,[.e 0]⟩,
 ⟨55,.outB "laws.3" EZ,[.e 0]⟩,
 ⟨56,.outB "laws.4" Ed,[.e 0]⟩,
 ⟨57,.outB "laws.5" Eb,[.e 0]⟩]
def tw:List En:=[⟨58,.w2 .i64 .add,[.e 52,.c (.int 1)]⟩,
 ⟨59,.and,[.e 26,.n 50]⟩,
 ⟨60,.ite .i,[.e 50,.e 58,.e 7]⟩,
 ⟨61,.w2 .i64 .add,[.e 38,.e 60]⟩,
 ⟨62,.eq,[.e 8,.c (.int 13)]⟩,
 ⟨63,.and,[.e 26,.e 62]⟩,
 ⟨64,.outI "laws.0" El,[.e 0]⟩,
 ⟨65,.outI "laws.1" EV,[.e 0]⟩,
 ⟨66,.outI "laws.2" Ef,[.e 0]⟩,
 ⟨67,.outB "laws.3" EZ,[.e 0]⟩,
 ⟨68,.outB "laws.4" Ed,[.e 0]⟩,
 ⟨69,.outB "laws.5" Eb,[.e 0]⟩,
 ⟨70,.w2 .i64 .add,[.e 64,.c (.int 1)]⟩,
 ⟨71,.and,[.e 26,.n 62]⟩,
 ⟨72,.ite .i,[.e 62,.e 70,.e 8]⟩,
 ⟨73,.w2 .i64 .add,[.e 49,.e 72]⟩]
def tq:List En:=[⟨74,.ite .i,[.e 27,.c (.int 0),.e 61]⟩,
 ⟨75,.ite .i,[.e 27,.c (.int 0),.e 73]⟩,
 ⟨76,.ite .i,[.e 27,.c (.int 2),.c (.int 0)]⟩,
 ⟨77,.or,[.e 27,.e 26]⟩]
def tL:List En:=tx++(tc++(tw++(tq)))
def vR:List ObE:=[]
def tn:List Rf:=[.e 74,.e 75,.e 76]
theorem vS:sC.sees tn (sC.run Try.prog [(36,Hw),(43,De)] Ba 3000 20 33)=some ((tL).map En.be,vR.map ObE.be,[]):=by kernel_rfl
theorem vF {T:Tab}(g:Gm)(hg:g=gT T 0)(g1:Gm)(z1:g1=gT T 0)(A0:AK T tL):
  ((I T 74)=((if AR g=true then rQ (AX (I T 0)) (I T 5) (I T 7) else 0)))∧
  ((I T 75)=((if AR g=true then rQ (AX (I T 0)) (I T 6) (I T 8) else 0)))∧
  ((I T 76)=((if AR g=true then 0 else 2))):=by
 obtain⟨F0,A0⟩:=A0.cut
 obtain⟨F1,A0⟩:=A0.cut
 obtain⟨F2,A0⟩:=A0.cut
 have F3:=A0;clear A0
 have hgA:g1=g:=by rw[z1,hg]
 have h26:(B T 26)=true↔AR g=true:=by
  obtain⟨e26,-⟩:=F0
  replace e26:B T 26=(AR g1):=by rw[←show gAt 0 (rW.map (Rf.eval T))=g1 from z1.symm];exact e26
  rw[e26,hgA]
 have hpt:(B T 26)=true→(0≤I T 5∧I T 5≤13)∧(0≤I T 6∧I T 6≤13)∧(0≤I T 7∧I T 7≤13)∧(0≤I T 8∧I T 8≤13)∧(¬I T 5=13→I T 5≤AX (I T 0))∧(¬I T 6=13→I T 6≤AX (I T 0))∧(¬I T 7=13→I T 7≤AX (I T 0))∧(¬I T 8=13→I T 8≤AX (I T 0)):=by
  obtain⟨e26,-⟩:=F0
  replace e26:B T 26=(AR g1):=by rw[←show gAt 0 (rW.map (Rf.eval T))=g1 from z1.symm];exact e26
  intro h
  have p:=Jl (h26.1 h)
  have z:=ox (h26.1 h)
  rw[hg] at p z;exact⟨p.1,p.2.1,p.2.2.1,p.2.2.2,z.1,z.2.1,z.2.2.1,z.2.2.2⟩
 refine⟨?_,?_,?_⟩
 ·obtain⟨e26,e27,e28,-,e30,-,-,-,-,-,e36,-,e38,-⟩:=F0
  obtain⟨-,-,-,-,-,-,-,-,e50,-,e52,-⟩:=F1
  obtain⟨e58,-,e60,e61,-⟩:=F2
  obtain⟨e74,-⟩:=F3
  replace e26:B T 26=(AR g1):=by rw[←show gAt 0 (rW.map (Rf.eval T))=g1 from z1.symm];exact e26
  replace e30:I T 30=(AX (I T 0)):=e30
  replace e52:I T 52=(AX (I T 0)):=e52
  simp only[AA,AD,zR,w2P,zL] at*
  clear hg hgA
  cases hx:AR g with
  |false=>rw[if_neg (by decide)];clear hpt;grind
  |true=>
   rw[if_pos rfl]
   have p:=hpt (h26.2 hx)
   have hh:=gR (I T 0)
   clear hpt
   unfold rQ
   grind (splits:=30)
 ·obtain⟨e26,e27,-,-,-,-,-,-,-,-,-,-,-,e39,-,e41,-⟩:=F0
  obtain⟨-,-,-,-,-,e47,-,e49,-⟩:=F1
  obtain⟨-,-,-,-,e62,-,e64,-,-,-,-,-,e70,-,e72,e73,-⟩:=F2
  obtain⟨-,e75,-⟩:=F3
  replace e26:B T 26=(AR g1):=by rw[←show gAt 0 (rW.map (Rf.eval T))=g1 from z1.symm];exact e26
  replace e41:I T 41=(AX (I T 0)):=e41
  replace e64:I T 64=(AX (I T 0)):=e64
  simp only[AA,AD,zR,w2P,zL] at*
  clear hg hgA
  cases hx:AR g with
  |false=>rw[if_neg (by decide)];clear hpt;grind
  |true=>
   rw[if_pos rfl]
   have p:=hpt (h26.2 hx)
   have hh:=gR (I T 0)
   clear hpt
   unfold rQ
   grind (splits:=30)
 ·obtain⟨e26,e27,-⟩:=F0
  obtain⟨-,-,e76,-⟩:=F3
  replace e26:B T 26=(AR g1):=by rw[←show gAt 0 (rW.map (Rf.eval T))=g1 from z1.symm];exact e26
  simp only[AA,AD,zR,zL] at e27 e76
  clear hg hgA hpt
  cases hx:AR g with
  |false=>rw[if_neg (by decide)];grind
  |true=>rw[if_pos rfl];grind
theorem uy:CA Try.prog 33 sC:=by
 refine Bu (l:=[(36,Hw),(43,De)]) C6 (by simp only[List.forall_mem_cons];exact⟨Uc,Jo,fun _ h=>absurd h (by simp)⟩) vS (by kernel_rfl) fun T us hpre hT hul hS hBd hE=>?_
 change us.length=26 at hul
 clear hBd
 obtain⟨g,hg⟩:∃g:Gm,g=gT T 0:=⟨_,rfl⟩
 have hgu:gAt 0 us=g:=by rw[hg];exact DV hT hul (by decide)
 have ha0:aI us 0=I T 0:=inI hT hul (by decide)
 have ha5:aI us 5=I T 5:=inI hT hul (by decide)
 have ha6:aI us 6=I T 6:=inI hT hul (by decide)
 have ha7:aI us 7=I T 7:=inI hT hul (by decide)
 have ha8:aI us 8=I T 8:=inI hT hul (by decide)
 clear hpre
 skip
 obtain⟨A0,hO⟩:=CK (tys:=[.i,.i,.i]) (rs:=tn) hS (by kernel_rfl) hE
 obtain⟨g1,z1⟩:∃g:Gm,g=gT T 0:=⟨_,rfl⟩
 obtain⟨q0,q1,q2⟩:=vF g hg g1 z1 A0
 refine⟨trivial,hO.trans ?_⟩
 exact (lc (by show U.int (I T 74)= .int (rg us);unfold rg;rw[hgu,ha0,ha5,ha7];exact congrArg U.int q0) (lc (by show U.int (I T 75)= .int (rm us);unfold rm;rw[hgu,ha0,ha6,ha8];exact congrArg U.int q1) (lc (by show U.int (I T 76)= .int (rd us);unfold rd;rw[hgu];exact congrArg U.int q2) rfl)))
end Go.Eng
end
