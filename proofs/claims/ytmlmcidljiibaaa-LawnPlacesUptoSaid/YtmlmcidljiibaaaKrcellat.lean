/-
  A part of the proof: K_rcellatd K_rcellat.
-/
import Derived.Test.YtmlmcidljiibaaaXQlPlaces
import Derived.Test.YtmlmcidljiibaaaE3
import Derived.Test.YtmlmcidljiibaaaE4
import Derived.Test.YtmlmcidljiibaaaKone
import Derived.Test.YtmlmcidljiibaaaKris
set_option linter.unusedVariables false
set_option linter.unusedSimpArgs false
noncomputable section
open Go Go.Eng Go.Proofs
set_option maxHeartbeats 4000000
set_option maxRecDepth 100000
namespace Go.Eng
def mM:List U→Int:=fun us=>(lP (gAt 0 us) (aI us 11) (aI us 12) 0)
def mQ:List U→Int:=fun us=>(lP (gAt 0 us) (aI us 11) (aI us 12) 1)
def mO:List U→Int:=fun us=>(lP (gAt 0 us) (aI us 11) (aI us 12) 2)
def mI:List U→Int:=fun us=>(lf (gAt 0 us) (aI us 11) (aI us 12))
def mU:Ak:={ sh:=[.agg [.str,k64,k64,k64,.list [k64,k64,k64,k64,.bool],k64,k64,k64,k64,k64,.list [k64,k64,k64]],.agg [k64,k64]],blks:=[],outs:=[(.s "rcellat.0",Bj mM),(.s "rcellat.1",Bj mQ),(.s "rcellat.2",Bj mO),(.s "rcellat.3",Bj mI)],c:= .tup [.agg [(CR 13),(CR 14),(CR 15)],(CR 16)],m':=[],pre:=[] }
def lK:List Rf:=[.e 0,.e 1,.e 2,.e 3,.e 4,.e 5,.e 6,.e 7,.e 8,.e 9,.e 10,.e 11,.e 12]
def oC:List En:=[⟨13,.outI "one.0" Jy,lK⟩,
 ⟨14,.ne,[.e 13,.c (.int 0)]⟩,
 ⟨15,.outI "one.0" Jy,lK⟩,
 ⟨16,.not,[.e 14]⟩,
 ⟨17,.outB "ris.0" iZ,lK⟩,
 ⟨18,.and,[.e 16,.e 17]⟩,
 ⟨19,.and,[.e 16,.n 17]⟩,
 ⟨20,.w2 .i64 .mul,[.e 11,.e 8]⟩,
 ⟨21,.w2 .i64 .tdiv,[.e 20,.e 1]⟩,
 ⟨22,.w2 .i64 .sub,[.e 8,.c (.int 1)]⟩,
 ⟨23,.o2 .min,[.e 21,.e 22]⟩,
 ⟨24,.w2 .i64 .mul,[.e 12,.e 9]⟩,
 ⟨25,.w2 .i64 .tdiv,[.e 24,.e 2]⟩,
 ⟨26,.w2 .i64 .sub,[.e 9,.c (.int 1)]⟩,
 ⟨27,.o2 .min,[.e 25,.e 26]⟩,
 ⟨28,.w2 .i64 .mul,[.e 27,.e 8]⟩]
def oL:List En:=[⟨29,.w2 .i64 .add,[.e 28,.e 23]⟩,
 ⟨30,.get .i 0,[.e 10,.e 29]⟩,
 ⟨31,.get .i 1,[.e 10,.e 29]⟩,
 ⟨32,.get .i 2,[.e 10,.e 29]⟩,
 ⟨33,.ite .i,[.e 19,.c (.int 0),.e 30]⟩,
 ⟨34,.ite .i,[.e 19,.c (.int 0),.e 31]⟩,
 ⟨35,.ite .i,[.e 19,.c (.int 0),.e 32]⟩,
 ⟨36,.ite .i,[.e 19,.c (.int 5),.c (.int 0)]⟩,
 ⟨37,.or,[.e 19,.e 18]⟩,
 ⟨38,.ite .i,[.e 14,.c (.int 0),.e 33]⟩,
 ⟨39,.ite .i,[.e 14,.c (.int 0),.e 34]⟩,
 ⟨40,.ite .i,[.e 14,.c (.int 0),.e 35]⟩,
 ⟨41,.ite .i,[.e 14,.e 15,.e 36]⟩,
 ⟨42,.or,[.e 14,.e 37]⟩]
def nV:List En:=oC++(oL)
def pZ:List ObE:=[⟨some 18,.inl,[.e 29,.e 10]⟩,
 ⟨some 18,.nez,[.e 2]⟩,
 ⟨some 18,.nez,[.e 1]⟩]
def nw:List Rf:=[.e 38,.e 39,.e 40,.e 41]
theorem pW:mU.sees nw (mU.run Try.prog [(60,Oi),(84,iw)] Ah 3000 20 45)=some ((nV).map En.be,pZ.map ObE.be,[]):=by kernel_rfl
theorem pK {T:Tab}(hz0:(S T 0).size≤140737488355328)(hl4:(L T 4).length≤140737488355328)(hl10:(L T 10).length≤140737488355328)(g:Ln)(hg:g=Ln.mk (S T 0) (I T 1) (I T 2) (I T 3) (L T 4) (I T 5) (I T 6) (I T 7) (I T 8) (I T 9) (L T 10))(g1:Ln)(z1:g1=Ln.mk (S T 0) (I T 1) (I T 2) (I T 3) (L T 4) (I T 5) (I T 6) (I T 7) (I T 8) (I T 9) (L T 10))(A0:AJ T nV):
  ((I T 38)=(lP g (I T 11) (I T 12) 0))∧
  ((I T 39)=(lP g (I T 11) (I T 12) 1))∧
  ((I T 40)=(lP g (I T 11) (I T 12) 2))∧
  ((I T 41)=(lf g (I T 11) (I T 12)))∧
  (B T 18=true→0≤I T 29∧I T 29 < ((L T 10)).length)∧
  (B T 18=true→¬I T 2=0)∧
  (B T 18=true→¬I T 1=0):=by
 obtain⟨F0,A0⟩:=A0.cut
 have F1:=A0;clear A0
 have hw:g.wide=I T 1∧g.long=I T 2∧g.yard=I T 3∧g.nx=I T 8∧g.ny=I T 9∧g.cells=((L T 10)):=by
  rw[hg];exact⟨rfl,rfl,rfl,rfl,rfl,rfl⟩
 have hgg:g1=g:=by
  rw[z1,hg]
 have ho:(I T 13)=A6 g (I T 11) (I T 12)∧I T 15=A6 g (I T 11) (I T 12):=by
  obtain⟨e13,-,e15,-⟩:=F0
  replace e13:I T 13=(A6 g1 (I T 11) (I T 12)):=by rw[←show gAt 0 (lK.map (Rf.eval T))=g1 from z1.symm];exact e13
  replace e15:I T 15=(A6 g1 (I T 11) (I T 12)):=by rw[←show gAt 0 (lK.map (Rf.eval T))=g1 from z1.symm];exact e15
  exact⟨by rw[e13,hgg],by rw[e15,hgg]⟩
 have hc:(B T 14)=false↔A6 g (I T 11) (I T 12)=0:=by
  obtain⟨e13,e14,-⟩:=F0
  replace e13:I T 13=(A6 g1 (I T 11) (I T 12)):=by rw[←show gAt 0 (lK.map (Rf.eval T))=g1 from z1.symm];exact e13
  simp only[AE,zR] at e14
  rw[←ho.1]
  cases k:(B T 14) with
  |true=>exact iff_of_false (by simp) (e14.1 k)
  |false=>
   refine iff_of_true rfl ?_
   apply Classical.byContradiction
   intro hn
   have:=e14.2 hn
   simp[k] at this
 have hon:(B T 17)=onS g (I T 11) (I T 12):=by
  obtain⟨-,-,-,-,e17,-⟩:=F0
  replace e17:B T 17=(onS g1 (I T 11) (I T 12)):=by rw[←show gAt 0 (lK.map (Rf.eval T))=g1 from z1.symm];exact e17
  rw[e17,hgg]
 have hn:(B T 14)=false→onS g (I T 11) (I T 12)=true→I T 29=((mu g (I T 11) (I T 12):Nat):Int)∧(mu g (I T 11) (I T 12):Int) < ((L T 10)).length:=by
  obtain⟨e13,e14,-,-,-,-,-,e20,e21,e22,e23,e24,e25,e26,e27,e28,-⟩:=F0
  obtain⟨e29,-⟩:=F1
  replace e13:I T 13=(A6 g1 (I T 11) (I T 12)):=by rw[←show gAt 0 (lK.map (Rf.eval T))=g1 from z1.symm];exact e13
  simp only[AE,zR,AR,w2P] at*
  intro k hs
  obtain⟨h1,h2⟩:=lX (hc.1 k)
  have h3:=CP h1
  rw[hw.1,hw.2.1,hw.2.2.1] at h3
  obtain⟨⟨⟨d1,d2⟩,⟨d3,d4⟩,d5,d6⟩,d7,d8,-⟩:=h3
  have hcl:=nY h1
  rw[hw.2.2.2.1,hw.2.2.2.2.1,hw.2.2.2.2.2] at hcl
  obtain⟨⟨c1,c2⟩,⟨c3,c4⟩,c5⟩:=hcl
  unfold onS at hs
  rw[hw.1,hw.2.1,Bool.and_eq_true,Bm,Bm] at hs
  obtain⟨⟨q1,q2⟩,q3,q4⟩:=hs
  have m1:=L9 (a:=I T 11) (b:=I T 8) (A:=4194304) (B:=16) (by omega) (by omega)
  have m2:=L9 (a:=I T 12) (b:=I T 9) (A:=4194304) (B:=16) (by omega) (by omega)
  have n1:=Int.mul_nonneg q1 (show 0≤(I T 8) by omega)
  have n2:=Int.mul_nonneg q3 (show 0≤(I T 9) by omega)
  have y1:=e20 (by omega) (by omega)
  have y2:=e24 (by omega) (by omega)
  have y3:(I T 21)=I T 11*(I T 8) / (I T 1):=by rw[e21,ox (by omega) (by omega) (by omega),y1]
  have y4:(I T 25)=I T 12*(I T 9) / (I T 2):=by rw[e25,ox (by omega) (by omega) (by omega),y2]
  have y5:=e22 (by omega) (by omega)
  have y6:=e26 (by omega) (by omega)
  rw[y5] at e23
  rw[y6] at e27
  have z1:=nO q1 q2 d7.1 c1 y3 e23
  have z2:=nO q3 q4 d8.1 c3 y4 e27
  have z3:=ou z2 z1 c5
  have z4:=L9 (a:=I T 27) (b:=I T 8) (A:=16) (B:=16) (by omega) (by omega)
  have y7:=e28 (by omega) (by omega)
  have y8:=e29 (by omega) (by omega)
  have hN:mu g (I T 11) (I T 12)=((I T 27)*I T 8+I T 23).toNat:=by
   unfold mu
   rw[hw.1,hw.2.1,hw.2.2.2.1,hw.2.2.2.2.1,e23,e27,y3,y4]
  rw[hN,y8,y7]
  omega
 have hE:(I T 41)=lf g (I T 11) (I T 12):=by
  obtain⟨e13,e14,e15,e16,e17,-,e19,-⟩:=F0
  obtain⟨-,-,-,-,-,-,-,e36,-,-,-,-,e41,-⟩:=F1
  replace e13:I T 13=(A6 g1 (I T 11) (I T 12)):=by rw[←show gAt 0 (lK.map (Rf.eval T))=g1 from z1.symm];exact e13
  replace e15:I T 15=(A6 g1 (I T 11) (I T 12)):=by rw[←show gAt 0 (lK.map (Rf.eval T))=g1 from z1.symm];exact e15
  replace e17:B T 17=(onS g1 (I T 11) (I T 12)):=by rw[←show gAt 0 (lK.map (Rf.eval T))=g1 from z1.symm];exact e17
  simp only[AE,AF,zN,zR,zL] at*
  unfold lf
  rw[e41]
  cases k:(B T 14) with
  |true=>rw[if_pos rfl,if_pos (fun h=>by have:=hc.2 h;simp[k] at this),ho.2]
  |false=>
   rw[if_neg (by simp),if_neg (by simp[hc.1 k]),←hon,e36]
   have hb:(B T 19)=true↔B T 17=false:=by clear hc ho hon hn;grind
   cases k2:(B T 17) with
   |true=>rw[if_neg (fun h=>by have:=hb.1 h;simp[k2] at this),if_pos rfl]
   |false=>rw[if_pos (hb.2 k2),if_neg (by simp)]
 have hv0:(I T 38)=lP g (I T 11) (I T 12) 0:=by
  obtain⟨e13,e14,e15,e16,e17,-,e19,e20,e21,e22,e23,e24,e25,e26,e27,e28,-⟩:=F0
  obtain⟨e29,e30,-,-,e33,-,-,e36,-,e38,-,-,e41,-⟩:=F1
  replace e13:I T 13=(A6 g1 (I T 11) (I T 12)):=by rw[←show gAt 0 (lK.map (Rf.eval T))=g1 from z1.symm];exact e13
  replace e15:I T 15=(A6 g1 (I T 11) (I T 12)):=by rw[←show gAt 0 (lK.map (Rf.eval T))=g1 from z1.symm];exact e15
  replace e17:B T 17=(onS g1 (I T 11) (I T 12)):=by rw[←show gAt 0 (lK.map (Rf.eval T))=g1 from z1.symm];exact e17
  simp only[AE,AF,zN,zR,AR,w2P,zL] at*
  unfold lP
  rw[←hE,hw.2.2.2.2.2,e38,e33]
  have hz:(I T 41)=0↔((B T 14)=false∧B T 17=true):=by
   rw[hE,hon]
   unfold lf
   rw[hc]
   by_cases a:A6 g (I T 11) (I T 12)=0
   ·rw[if_neg (by simp[a])]
    by_cases b:onS g (I T 11) (I T 12)=true
    ·simp[a,b]
    ·simp[a,b]
   ·rw[if_pos a];simp[a]
  have hb:(B T 14)=false→((B T 19)=true↔B T 17=false):=by clear hc ho hon hn hE hz;grind
  by_cases h:(I T 41)=0
  ·obtain⟨k1,k2⟩:=hz.1 h
   rw[if_pos h,if_neg (by simp[k1]),if_neg (fun h=>by have:=(hb k1).1 h;simp[k2] at this),e30,(hn k1 (by rw[←hon];exact k2)).1]
   rfl
  ·rw[if_neg h]
   by_cases k1:(B T 14)=true
   ·rw[if_pos k1]
   ·rw[if_neg k1]
    have k1':(B T 14)=false:=by simpa using k1
    have k2:(B T 17)=false:=by
     cases k2:(B T 17) with
     |false=>rfl
     |true=>exact absurd (hz.2 ⟨k1',k2⟩) h
    rw[if_pos ((hb k1').2 k2)]
 have hv1:(I T 39)=lP g (I T 11) (I T 12) 1:=by
  obtain⟨e13,e14,e15,e16,e17,-,e19,e20,e21,e22,e23,e24,e25,e26,e27,e28,-⟩:=F0
  obtain⟨e29,-,e31,-,-,e34,-,e36,-,-,e39,-,e41,-⟩:=F1
  replace e13:I T 13=(A6 g1 (I T 11) (I T 12)):=by rw[←show gAt 0 (lK.map (Rf.eval T))=g1 from z1.symm];exact e13
  replace e15:I T 15=(A6 g1 (I T 11) (I T 12)):=by rw[←show gAt 0 (lK.map (Rf.eval T))=g1 from z1.symm];exact e15
  replace e17:B T 17=(onS g1 (I T 11) (I T 12)):=by rw[←show gAt 0 (lK.map (Rf.eval T))=g1 from z1.symm];exact e17
  simp only[AE,AF,zN,zR,AR,w2P,zL] at*
  unfold lP
  rw[←hE,hw.2.2.2.2.2,e39,e34]
  have hz:(I T 41)=0↔((B T 14)=false∧B T 17=true):=by
   rw[hE,hon]
   unfold lf
   rw[hc]
   by_cases a:A6 g (I T 11) (I T 12)=0
   ·rw[if_neg (by simp[a])]
    by_cases b:onS g (I T 11) (I T 12)=true
    ·simp[a,b]
    ·simp[a,b]
   ·rw[if_pos a];simp[a]
  have hb:(B T 14)=false→((B T 19)=true↔B T 17=false):=by clear hc ho hon hn hE hz;grind
  by_cases h:(I T 41)=0
  ·obtain⟨k1,k2⟩:=hz.1 h
   rw[if_pos h,if_neg (by simp[k1]),if_neg (fun h=>by have:=(hb k1).1 h;simp[k2] at this),e31,(hn k1 (by rw[←hon];exact k2)).1]
   rfl
  ·rw[if_neg h]
   by_cases k1:(B T 14)=true
   ·rw[if_pos k1]
   ·rw[if_neg k1]
    have k1':(B T 14)=false:=by simpa using k1
    have k2:(B T 17)=false:=by
     cases k2:(B T 17) with
     |false=>rfl
     |true=>exact absurd (hz.2 ⟨k1',k2⟩) h
    rw[if_pos ((hb k1').2 k2)]
 have hv2:(I T 40)=lP g (I T 11) (I T 12) 2:=by
  obtain⟨e13,e14,e15,e16,e17,-,e19,e20,e21,e22,e23,e24,e25,e26,e27,e28,-⟩:=F0
  obtain⟨e29,-,-,e32,-,-,e35,e36,-,-,-,e40,e41,-⟩:=F1
  replace e13:I T 13=(A6 g1 (I T 11) (I T 12)):=by rw[←show gAt 0 (lK.map (Rf.eval T))=g1 from z1.symm];exact e13
  replace e15:I T 15=(A6 g1 (I T 11) (I T 12)):=by rw[←show gAt 0 (lK.map (Rf.eval T))=g1 from z1.symm];exact e15
  replace e17:B T 17=(onS g1 (I T 11) (I T 12)):=by rw[←show gAt 0 (lK.map (Rf.eval T))=g1 from z1.symm];exact e17
  simp only[AE,AF,zN,zR,AR,w2P,zL] at*
  unfold lP
  rw[←hE,hw.2.2.2.2.2,e40,e35]
  have hz:(I T 41)=0↔((B T 14)=false∧B T 17=true):=by
   rw[hE,hon]
   unfold lf
   rw[hc]
   by_cases a:A6 g (I T 11) (I T 12)=0
   ·rw[if_neg (by simp[a])]
    by_cases b:onS g (I T 11) (I T 12)=true
    ·simp[a,b]
    ·simp[a,b]
   ·rw[if_pos a];simp[a]
  have hb:(B T 14)=false→((B T 19)=true↔B T 17=false):=by clear hc ho hon hn hE hz;grind
  by_cases h:(I T 41)=0
  ·obtain⟨k1,k2⟩:=hz.1 h
   rw[if_pos h,if_neg (by simp[k1]),if_neg (fun h=>by have:=(hb k1).1 h;simp[k2] at this),e32,(hn k1 (by rw[←hon];exact k2)).1]
   rfl
  ·rw[if_neg h]
   by_cases k1:(B T 14)=true
   ·rw[if_pos k1]
   ·rw[if_neg k1]
    have k1':(B T 14)=false:=by simpa using k1
    have k2:(B T 17)=false:=by
     cases k2:(B T 17) with
     |false=>rfl
     |true=>exact absurd (hz.2 ⟨k1',k2⟩) h
    rw[if_pos ((hb k1').2 k2)]
 refine⟨?_,?_,?_,?_,?_,?_,?_⟩
 ·obtain⟨e13,e14,-,e16,e17,-,e19,e20,e21,e22,e23,e24,e25,e26,e27,e28,-⟩:=F0
  obtain⟨e29,e30,-,-,e33,-,-,-,-,e38,-⟩:=F1
  replace e13:I T 13=(A6 g1 (I T 11) (I T 12)):=by rw[←show gAt 0 (lK.map (Rf.eval T))=g1 from z1.symm];exact e13
  replace e17:B T 17=(onS g1 (I T 11) (I T 12)):=by rw[←show gAt 0 (lK.map (Rf.eval T))=g1 from z1.symm];exact e17
  simp only[AE,AF,zN,zR,AR,w2P,zL] at*
  exact hv0
 ·obtain⟨e13,e14,-,e16,e17,-,e19,e20,e21,e22,e23,e24,e25,e26,e27,e28,-⟩:=F0
  obtain⟨e29,-,e31,-,-,e34,-,-,-,-,e39,-⟩:=F1
  replace e13:I T 13=(A6 g1 (I T 11) (I T 12)):=by rw[←show gAt 0 (lK.map (Rf.eval T))=g1 from z1.symm];exact e13
  replace e17:B T 17=(onS g1 (I T 11) (I T 12)):=by rw[←show gAt 0 (lK.map (Rf.eval T))=g1 from z1.symm];exact e17
  simp only[AE,AF,zN,zR,AR,w2P,zL] at*
  exact hv1
 ·obtain⟨e13,e14,-,e16,e17,-,e19,e20,e21,e22,e23,e24,e25,e26,e27,e28,-⟩:=F0
  obtain⟨e29,-,-,e32,-,-,e35,-,-,-,-,e40,-⟩:=F1
  replace e13:I T 13=(A6 g1 (I T 11) (I T 12)):=by rw[←show gAt 0 (lK.map (Rf.eval T))=g1 from z1.symm];exact e13
  replace e17:B T 17=(onS g1 (I T 11) (I T 12)):=by rw[←show gAt 0 (lK.map (Rf.eval T))=g1 from z1.symm];exact e17
  simp only[AE,AF,zN,zR,AR,w2P,zL] at*
  exact hv2
 ·obtain⟨e13,e14,e15,e16,e17,-,e19,-⟩:=F0
  obtain⟨-,-,-,-,-,-,-,e36,-,-,-,-,e41,-⟩:=F1
  replace e13:I T 13=(A6 g1 (I T 11) (I T 12)):=by rw[←show gAt 0 (lK.map (Rf.eval T))=g1 from z1.symm];exact e13
  replace e15:I T 15=(A6 g1 (I T 11) (I T 12)):=by rw[←show gAt 0 (lK.map (Rf.eval T))=g1 from z1.symm];exact e15
  replace e17:B T 17=(onS g1 (I T 11) (I T 12)):=by rw[←show gAt 0 (lK.map (Rf.eval T))=g1 from z1.symm];exact e17
  simp only[AE,AF,zN,zR,zL] at*
  exact hE
 ·obtain⟨e13,e14,-,e16,e17,e18,-,e20,e21,e22,e23,e24,e25,e26,e27,e28,-⟩:=F0
  obtain⟨e29,-⟩:=F1
  replace e13:I T 13=(A6 g1 (I T 11) (I T 12)):=by rw[←show gAt 0 (lK.map (Rf.eval T))=g1 from z1.symm];exact e13
  replace e17:B T 17=(onS g1 (I T 11) (I T 12)):=by rw[←show gAt 0 (lK.map (Rf.eval T))=g1 from z1.symm];exact e17
  simp only[AE,AF,zR,AR,w2P] at*
  intro h
  have h1:(B T 14)=false∧B T 17=true:=by clear hv0 hv1 hv2 hE hn hon hc ho;grind
  have:=hn h1.1 (by rw[←hon];exact h1.2)
  omega
 ·obtain⟨e13,e14,-,e16,e17,e18,-⟩:=F0
  replace e13:I T 13=(A6 g1 (I T 11) (I T 12)):=by rw[←show gAt 0 (lK.map (Rf.eval T))=g1 from z1.symm];exact e13
  replace e17:B T 17=(onS g1 (I T 11) (I T 12)):=by rw[←show gAt 0 (lK.map (Rf.eval T))=g1 from z1.symm];exact e17
  simp only[AE,AF,zR] at e14 e16 e18
  intro h
  have k:(B T 14)=false:=by clear hv0 hv1 hv2 hE hn hon hc ho;grind
  obtain⟨h1,h2⟩:=lX (hc.1 k)
  have h3:=CP h1
  rw[hw.1,hw.2.1,hw.2.2.1] at h3
  obtain⟨⟨⟨d1,d2⟩,⟨d3,d4⟩,d5,d6⟩,d7,d8,-⟩:=h3
  omega
 ·obtain⟨e13,e14,-,e16,e17,e18,-⟩:=F0
  replace e13:I T 13=(A6 g1 (I T 11) (I T 12)):=by rw[←show gAt 0 (lK.map (Rf.eval T))=g1 from z1.symm];exact e13
  replace e17:B T 17=(onS g1 (I T 11) (I T 12)):=by rw[←show gAt 0 (lK.map (Rf.eval T))=g1 from z1.symm];exact e17
  simp only[AE,AF,zR] at e14 e16 e18
  intro h
  have k:(B T 14)=false:=by clear hv0 hv1 hv2 hE hn hon hc ho;grind
  obtain⟨h1,h2⟩:=lX (hc.1 k)
  have h3:=CP h1
  rw[hw.1,hw.2.1,hw.2.2.1] at h3
  obtain⟨⟨⟨d1,d2⟩,⟨d3,d4⟩,d5,d6⟩,d7,d8,-⟩:=h3
  omega
theorem o7:Aq Try.prog 45 mU:=by
 refine Ai (l:=[(60,Oi),(84,iw)]) BX (by simp only[List.forall_mem_cons];exact⟨ok_one,kU,fun _ h=>absurd h (by simp)⟩) pW (by kernel_rfl) fun T us hpre hT hul hS hBd hE=>?_
 change us.length=13 at hul
 obtain⟨hz0,-,-,-,⟨hl4,he4⟩,-,-,-,-,-,⟨hl10,he10⟩,-⟩:=hBd
 replace hz0:(S T 0).size≤140737488355328:=hz0
 replace hl4:(L T 4).length≤140737488355328:=hl4
 replace hl10:(L T 10).length≤140737488355328:=hl10
 obtain⟨g,hg⟩:∃g:Ln,g=Ln.mk (S T 0) (I T 1) (I T 2) (I T 3) (L T 4) (I T 5) (I T 6) (I T 7) (I T 8) (I T 9) (L T 10):=⟨_,rfl⟩
 have hgu:gAt 0 us=g:=by rw[hg];exact DU hT hul (by decide)
 have ha11:aI us 11=I T 11:=inI hT hul (by decide)
 have ha12:aI us 12=I T 12:=inI hT hul (by decide)
 clear hpre
 skip
 obtain⟨A0,hO⟩:=Ar (tys:=[.i,.i,.i,.i]) (rs:=nw) hS (by kernel_rfl) hE
 obtain⟨g1,z1⟩:∃g:Ln,g=Ln.mk (S T 0) (I T 1) (I T 2) (I T 3) (L T 4) (I T 5) (I T 6) (I T 7) (I T 8) (I T 9) (L T 10):=⟨_,rfl⟩
 obtain⟨q0,q1,q2,q3,r0,r1,r2⟩:=pK hz0 hl4 hl10 g hg g1 z1 A0
 refine⟨⟨r0,r1,r2,trivial⟩,hO.trans ?_⟩
 exact (lc (by show U.int (I T 38)= .int (mM us);unfold mM;rw[hgu,ha11,ha12];exact congrArg U.int q0) (lc (by show U.int (I T 39)= .int (mQ us);unfold mQ;rw[hgu,ha11,ha12];exact congrArg U.int q1) (lc (by show U.int (I T 40)= .int (mO us);unfold mO;rw[hgu,ha11,ha12];exact congrArg U.int q2) (lc (by show U.int (I T 41)= .int (mI us);unfold mI;rw[hgu,ha11,ha12];exact congrArg U.int q3) rfl))))
end Go.Eng
end
