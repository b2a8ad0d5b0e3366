/-
  A part of the proof: K_cellatd K_cellat.
-/
import Derived.Test.YtmlmcidljiibaaaXQlPlaces
import Derived.Test.YtmlmcidljiibaaaE3
import Derived.Test.YtmlmcidljiibaaaE4
import Derived.Test.YtmlmcidljiibaaaKchk
set_option linter.unusedVariables false
set_option linter.unusedSimpArgs false
noncomputable section
open Go Go.Eng Go.Proofs
set_option maxHeartbeats 4000000
set_option maxRecDepth 100000
namespace Go.Eng
def ml:List U→Int:=fun us=>(lP (gAt 0 us) (aI us 11) (aI us 12) 0)
def mv:List U→Int:=fun us=>(lP (gAt 0 us) (aI us 11) (aI us 12) 1)
def mg:List U→Int:=fun us=>(lP (gAt 0 us) (aI us 11) (aI us 12) 2)
def mi:List U→Int:=fun us=>(lf (gAt 0 us) (aI us 11) (aI us 12))
def m8:Ak:={ sh:=[.agg [.str,k64,k64,k64,.list [k64,k64,k64,k64,.bool],k64,k64,k64,k64,k64,.list [k64,k64,k64]],.agg [k64,k64]],blks:=[],outs:=[(.s "cellat.0",Bj ml),(.s "cellat.1",Bj mv),(.s "cellat.2",Bj mg),(.s "cellat.3",Bj mi)],c:= .tup [.agg [(CR 13),(CR 14),(CR 15)],(CR 16)],m':=[],pre:=[] }
def lQ:List Rf:=[.e 0,.e 1,.e 2,.e 3,.e 4,.e 5,.e 6,.e 7,.e 8,.e 9,.e 10,.e 13]
def oM:List En:=[⟨13,.row 1 2 [.i,.i],[.e 11,.e 12]⟩,
 ⟨14,.outI "chk.0" KH,lQ⟩,
 ⟨15,.ne,[.e 14,.c (.int 0)]⟩,
 ⟨16,.not,[.e 15]⟩,
 ⟨17,.le,[.c (.int 0),.e 11]⟩,
 ⟨18,.and,[.e 16,.e 17]⟩,
 ⟨19,.le,[.e 11,.e 1]⟩,
 ⟨20,.and,[.e 17,.e 19]⟩,
 ⟨21,.and,[.e 16,.e 20]⟩,
 ⟨22,.le,[.c (.int 0),.e 12]⟩,
 ⟨23,.and,[.e 21,.e 22]⟩,
 ⟨24,.le,[.e 12,.e 2]⟩,
 ⟨25,.and,[.e 22,.e 24]⟩,
 ⟨26,.and,[.e 20,.e 25]⟩,
 ⟨27,.and,[.e 16,.e 26]⟩,
 ⟨28,.and,[.e 16,.n 26]⟩]
def oN:List En:=[⟨29,.w2 .i64 .mul,[.e 11,.e 8]⟩,
 ⟨30,.w2 .i64 .tdiv,[.e 29,.e 1]⟩,
 ⟨31,.w2 .i64 .sub,[.e 8,.c (.int 1)]⟩,
 ⟨32,.o2 .min,[.e 30,.e 31]⟩,
 ⟨33,.w2 .i64 .mul,[.e 12,.e 9]⟩,
 ⟨34,.w2 .i64 .tdiv,[.e 33,.e 2]⟩,
 ⟨35,.w2 .i64 .sub,[.e 9,.c (.int 1)]⟩,
 ⟨36,.o2 .min,[.e 34,.e 35]⟩,
 ⟨37,.w2 .i64 .mul,[.e 36,.e 8]⟩,
 ⟨38,.w2 .i64 .add,[.e 37,.e 32]⟩,
 ⟨39,.get .i 0,[.e 10,.e 38]⟩,
 ⟨40,.get .i 1,[.e 10,.e 38]⟩,
 ⟨41,.get .i 2,[.e 10,.e 38]⟩,
 ⟨42,.ite .i,[.e 28,.c (.int 0),.e 39]⟩,
 ⟨43,.ite .i,[.e 28,.c (.int 0),.e 40]⟩,
 ⟨44,.ite .i,[.e 28,.c (.int 0),.e 41]⟩]
def oW:List En:=[⟨45,.ite .i,[.e 28,.c (.int 5),.c (.int 0)]⟩,
 ⟨46,.or,[.e 28,.e 27]⟩,
 ⟨47,.ite .i,[.e 15,.c (.int 0),.e 42]⟩,
 ⟨48,.ite .i,[.e 15,.c (.int 0),.e 43]⟩,
 ⟨49,.ite .i,[.e 15,.c (.int 0),.e 44]⟩,
 ⟨50,.ite .i,[.e 15,.e 14,.e 45]⟩,
 ⟨51,.or,[.e 15,.e 46]⟩]
def nX:List En:=oM++(oN++(oW))
def qC:List ObE:=[⟨some 27,.inl,[.e 38,.e 10]⟩,
 ⟨some 27,.nez,[.e 2]⟩,
 ⟨some 27,.nez,[.e 1]⟩]
def oY:List Rf:=[.e 47,.e 48,.e 49,.e 50]
theorem pz:m8.sees oY (m8.run Try.prog [(52,JU)] Ah 3000 20 44)=some ((nX).map En.be,qC.map ObE.be,[]):=by kernel_rfl
theorem pv {T:Tab}(hz0:(S T 0).size≤140737488355328)(hl4:(L T 4).length≤140737488355328)(hl10:(L T 10).length≤140737488355328)(g:Ln)(hg:g=Ln.mk (S T 0) (I T 1) (I T 2) (I T 3) (L T 4) (I T 5) (I T 6) (I T 7) (I T 8) (I T 9) (L T 10))(g1:Ln)(z1:g1=Ln.mk (S T 0) (I T 1) (I T 2) (I T 3) (L T 4) (I T 5) (I T 6) (I T 7) (I T 8) (I T 9) (L T 10))(A0:AJ T nX):
  ((I T 47)=(lP g (I T 11) (I T 12) 0))∧
  ((I T 48)=(lP g (I T 11) (I T 12) 1))∧
  ((I T 49)=(lP g (I T 11) (I T 12) 2))∧
  ((I T 50)=(lf g (I T 11) (I T 12)))∧
  (B T 27=true→0≤I T 38∧I T 38 < ((L T 10)).length)∧
  (B T 27=true→¬I T 2=0)∧
  (B T 27=true→¬I T 1=0):=by
 obtain⟨F0,A0⟩:=A0.cut
 obtain⟨F1,A0⟩:=A0.cut
 have F2:=A0;clear A0
 have hw:g.wide=I T 1∧g.long=I T 2∧g.yard=I T 3∧g.nx=I T 8∧g.ny=I T 9∧g.cells=((L T 10)):=by
  rw[hg];exact⟨rfl,rfl,rfl,rfl,rfl,rfl⟩
 have hgg:g1=g:=by
  rw[z1,hg]
 have ho:(I T 14)=A6 g (I T 11) (I T 12):=by
  obtain⟨e13,e14,-⟩:=F0
  replace e14:I T 14=(Bo g1 (L T 13)):=by rw[←show gAt 0 (lQ.map (Rf.eval T))=g1 from z1.symm];exact e14
  simp only[AE,AF,zR,zL,zS,uR,Ab,zW] at e13
  rw[e14,hgg,e13]
  exact nl
 have hc:(B T 15)=false↔A6 g (I T 11) (I T 12)=0:=by
  obtain⟨e13,e14,e15,-⟩:=F0
  replace e14:I T 14=(Bo g1 (L T 13)):=by rw[←show gAt 0 (lQ.map (Rf.eval T))=g1 from z1.symm];exact e14
  simp only[AE,AF,zR,zL,zS,uR,Ab,zW] at e13 e15
  rw[←ho]
  cases k:(B T 15) with
  |true=>exact iff_of_false (by simp) (e15.1 k)
  |false=>
   refine iff_of_true rfl ?_
   apply Classical.byContradiction
   intro hn
   have:=e15.2 hn
   simp[k] at this
 have hon:(B T 26)=onS g (I T 11) (I T 12):=by
  obtain⟨-,-,-,-,e17,-,e19,e20,-,e22,-,e24,e25,e26,-⟩:=F0
  simp only[AE,AF,zR] at*
  refine Bool.eq_iff_iff.2 ?_
  unfold onS
  rw[hw.1,hw.2.1,Bool.and_eq_true,Bm,Bm,e26,e20,e25,e17,e19,e22,e24]
 have hn:(B T 15)=false→onS g (I T 11) (I T 12)=true→I T 38=((mu g (I T 11) (I T 12):Nat):Int)∧(mu g (I T 11) (I T 12):Int) < ((L T 10)).length:=by
  obtain⟨e13,e14,e15,-⟩:=F0
  obtain⟨e29,e30,e31,e32,e33,e34,e35,e36,e37,e38,-⟩:=F1
  replace e14:I T 14=(Bo g1 (L T 13)):=by rw[←show gAt 0 (lQ.map (Rf.eval T))=g1 from z1.symm];exact e14
  simp only[AE,AF,zR,AR,w2P,zL,zS,uR,Ab,zW] at*
  intro k hs
  obtain⟨h1,h2⟩:=lX (hc.1 k)
  have h3:=CP h1
  rw[hw.1,hw.2.1,hw.2.2.1] at h3
  obtain⟨⟨⟨d1,d2⟩,⟨d3,d4⟩,d5,d6⟩,d7,d8,-⟩:=h3
  have hcl:=nY h1
  rw[hw.2.2.2.1,hw.2.2.2.2.1,hw.2.2.2.2.2] at hcl
  obtain⟨⟨c1,c2⟩,⟨c3,c4⟩,c5⟩:=hcl
  unfold onS at hs
  rw[hw.1,hw.2.1,Bool.and_eq_true,Bm,Bm] at hs
  obtain⟨⟨q1,q2⟩,q3,q4⟩:=hs
  have m1:=L9 (a:=I T 11) (b:=I T 8) (A:=4194304) (B:=16) (by omega) (by omega)
  have m2:=L9 (a:=I T 12) (b:=I T 9) (A:=4194304) (B:=16) (by omega) (by omega)
  have n1:=Int.mul_nonneg q1 (show 0≤(I T 8) by omega)
  have n2:=Int.mul_nonneg q3 (show 0≤(I T 9) by omega)
  have y1:=e29 (by omega) (by omega)
  have y2:=e33 (by omega) (by omega)
  have y3:(I T 30)=I T 11*(I T 8) / (I T 1):=by rw[e30,ox (by omega) (by omega) (by omega),y1]
  have y4:(I T 34)=I T 12*(I T 9) / (I T 2):=by rw[e34,ox (by omega) (by omega) (by omega),y2]
  have y5:=e31 (by omega) (by omega)
  have y6:=e35 (by omega) (by omega)
  rw[y5] at e32
  rw[y6] at e36
  have z1:=nO q1 q2 d7.1 c1 y3 e32
  have z2:=nO q3 q4 d8.1 c3 y4 e36
  have z3:=ou z2 z1 c5
  have z4:=L9 (a:=I T 36) (b:=I T 8) (A:=16) (B:=16) (by omega) (by omega)
  have y7:=e37 (by omega) (by omega)
  have y8:=e38 (by omega) (by omega)
  have hN:mu g (I T 11) (I T 12)=((I T 36)*I T 8+I T 32).toNat:=by
   unfold mu
   rw[hw.1,hw.2.1,hw.2.2.2.1,hw.2.2.2.2.1,e32,e36,y3,y4]
  rw[hN,y8,y7]
  omega
 have hE:(I T 50)=lf g (I T 11) (I T 12):=by
  obtain⟨e13,e14,e15,e16,e17,-,e19,e20,-,e22,-,e24,e25,e26,-,e28,-⟩:=F0
  obtain⟨e45,-,-,-,-,e50,-⟩:=F2
  replace e14:I T 14=(Bo g1 (L T 13)):=by rw[←show gAt 0 (lQ.map (Rf.eval T))=g1 from z1.symm];exact e14
  simp only[AE,AF,zN,zR,zL,zS,uR,Ab,zW] at*
  unfold lf
  rw[e50]
  cases k:(B T 15) with
  |true=>rw[if_pos rfl,if_pos (fun h=>by have:=hc.2 h;simp[k] at this),ho]
  |false=>
   rw[if_neg (by simp),if_neg (by simp[hc.1 k]),←hon,e45]
   have hb:(B T 28)=true↔B T 26=false:=by clear hc ho hon hn;grind
   cases k2:(B T 26) with
   |true=>rw[if_neg (fun h=>by have:=hb.1 h;simp[k2] at this),if_pos rfl]
   |false=>rw[if_pos (hb.2 k2),if_neg (by simp)]
 have hv0:(I T 47)=lP g (I T 11) (I T 12) 0:=by
  obtain⟨e13,e14,e15,e16,e17,-,e19,e20,-,e22,-,e24,e25,e26,-,e28,-⟩:=F0
  obtain⟨e29,e30,e31,e32,e33,e34,e35,e36,e37,e38,e39,-,-,e42,-⟩:=F1
  obtain⟨e45,-,e47,-,-,e50,-⟩:=F2
  replace e14:I T 14=(Bo g1 (L T 13)):=by rw[←show gAt 0 (lQ.map (Rf.eval T))=g1 from z1.symm];exact e14
  simp only[AE,AF,zN,zR,AR,w2P,zL,zS,uR,Ab,zW] at*
  unfold lP
  rw[←hE,hw.2.2.2.2.2,e47,e42]
  have hz:(I T 50)=0↔((B T 15)=false∧B T 26=true):=by
   rw[hE,hon]
   unfold lf
   rw[hc]
   by_cases a:A6 g (I T 11) (I T 12)=0
   ·rw[if_neg (by simp[a])]
    by_cases b:onS g (I T 11) (I T 12)=true
    ·simp[a,b]
    ·simp[a,b]
   ·rw[if_pos a];simp[a]
  have hb:(B T 15)=false→((B T 28)=true↔B T 26=false):=by clear hc ho hon hn hE hz;grind
  by_cases h:(I T 50)=0
  ·obtain⟨k1,k2⟩:=hz.1 h
   rw[if_pos h,if_neg (by simp[k1]),if_neg (fun h=>by have:=(hb k1).1 h;simp[k2] at this),e39,(hn k1 (by rw[←hon];exact k2)).1]
   rfl
  ·rw[if_neg h]
   by_cases k1:(B T 15)=true
   ·rw[if_pos k1]
   ·rw[if_neg k1]
    have k1':(B T 15)=false:=by simpa using k1
    have k2:(B T 26)=false:=by
     cases k2:(B T 26) with
     |false=>rfl
     |true=>exact absurd (hz.2 ⟨k1',k2⟩) h
    rw[if_pos ((hb k1').2 k2)]
 have hv1:(I T 48)=lP g (I T 11) (I T 12) 1:=by
  obtain⟨e13,e14,e15,e16,e17,-,e19,e20,-,e22,-,e24,e25,e26,-,e28,-⟩:=F0
  obtain⟨e29,e30,e31,e32,e33,e34,e35,e36,e37,e38,-,e40,-,-,e43,-⟩:=F1
  obtain⟨e45,-,-,e48,-,e50,-⟩:=F2
  replace e14:I T 14=(Bo g1 (L T 13)):=by rw[←show gAt 0 (lQ.map (Rf.eval T))=g1 from z1.symm];exact e14
  simp only[AE,AF,zN,zR,AR,w2P,zL,zS,uR,Ab,zW] at*
  unfold lP
  rw[←hE,hw.2.2.2.2.2,e48,e43]
  have hz:(I T 50)=0↔((B T 15)=false∧B T 26=true):=by
   rw[hE,hon]
   unfold lf
   rw[hc]
   by_cases a:A6 g (I T 11) (I T 12)=0
   ·rw[if_neg (by simp[a])]
    by_cases b:onS g (I T 11) (I T 12)=true
    ·simp[a,b]
    ·simp[a,b]
   ·rw[if_pos a];simp[a]
  have hb:(B T 15)=false→((B T 28)=true↔B T 26=false):=by clear hc ho hon hn hE hz;grind
  by_cases h:(I T 50)=0
  ·obtain⟨k1,k2⟩:=hz.1 h
   rw[if_pos h,if_neg (by simp[k1]),if_neg (fun h=>by have:=(hb k1).1 h;simp[k2] at this),e40,(hn k1 (by rw[←hon];exact k2)).1]
   rfl
  ·rw[if_neg h]
   by_cases k1:(B T 15)=true
   ·rw[if_pos k1]
   ·rw[if_neg k1]
    have k1':(B T 15)=false:=by simpa using k1
    have k2:(B T 26)=false:=by
     cases k2:(B T 26) with
     |false=>rfl
     |true=>exact absurd (hz.2 ⟨k1',k2⟩) h
    rw[if_pos ((hb k1').2 k2)]
 have hv2:(I T 49)=lP g (I T 11) (I T 12) 2:=by
  obtain⟨e13,e14,e15,e16,e17,-,e19,e20,-,e22,-,e24,e25,e26,-,e28,-⟩:=F0
  obtain⟨e29,e30,e31,e32,e33,e34,e35,e36,e37,e38,-,-,e41,-,-,e44,-⟩:=F1
  obtain⟨e45,-,-,-,e49,e50,-⟩:=F2
  replace e14:I T 14=(Bo g1 (L T 13)):=by rw[←show gAt 0 (lQ.map (Rf.eval T))=g1 from z1.symm];exact e14
  simp only[AE,AF,zN,zR,AR,w2P,zL,zS,uR,Ab,zW] at*
  unfold lP
  rw[←hE,hw.2.2.2.2.2,e49,e44]
  have hz:(I T 50)=0↔((B T 15)=false∧B T 26=true):=by
   rw[hE,hon]
   unfold lf
   rw[hc]
   by_cases a:A6 g (I T 11) (I T 12)=0
   ·rw[if_neg (by simp[a])]
    by_cases b:onS g (I T 11) (I T 12)=true
    ·simp[a,b]
    ·simp[a,b]
   ·rw[if_pos a];simp[a]
  have hb:(B T 15)=false→((B T 28)=true↔B T 26=false):=by clear hc ho hon hn hE hz;grind
  by_cases h:(I T 50)=0
  ·obtain⟨k1,k2⟩:=hz.1 h
   rw[if_pos h,if_neg (by simp[k1]),if_neg (fun h=>by have:=(hb k1).1 h;simp[k2] at this),e41,(hn k1 (by rw[←hon];exact k2)).1]
   rfl
  ·rw[if_neg h]
   by_cases k1:(B T 15)=true
   ·rw[if_pos k1]
   ·rw[if_neg k1]
    have k1':(B T 15)=false:=by simpa using k1
    have k2:(B T 26)=false:=by
     cases k2:(B T 26) with
     |false=>rfl
     |true=>exact absurd (hz.2 ⟨k1',k2⟩) h
    rw[if_pos ((hb k1').2 k2)]
 refine⟨?_,?_,?_,?_,?_,?_,?_⟩
 ·obtain⟨e13,e14,e15,e16,e17,-,e19,e20,-,e22,-,e24,e25,e26,-,e28,-⟩:=F0
  obtain⟨e29,e30,e31,e32,e33,e34,e35,e36,e37,e38,e39,-,-,e42,-⟩:=F1
  obtain⟨-,-,e47,-⟩:=F2
  replace e14:I T 14=(Bo g1 (L T 13)):=by rw[←show gAt 0 (lQ.map (Rf.eval T))=g1 from z1.symm];exact e14
  simp only[AE,AF,zN,zR,AR,w2P,zL,zS,uR,Ab,zW] at*
  exact hv0
 ·obtain⟨e13,e14,e15,e16,e17,-,e19,e20,-,e22,-,e24,e25,e26,-,e28,-⟩:=F0
  obtain⟨e29,e30,e31,e32,e33,e34,e35,e36,e37,e38,-,e40,-,-,e43,-⟩:=F1
  obtain⟨-,-,-,e48,-⟩:=F2
  replace e14:I T 14=(Bo g1 (L T 13)):=by rw[←show gAt 0 (lQ.map (Rf.eval T))=g1 from z1.symm];exact e14
  simp only[AE,AF,zN,zR,AR,w2P,zL,zS,uR,Ab,zW] at*
  exact hv1
 ·obtain⟨e13,e14,e15,e16,e17,-,e19,e20,-,e22,-,e24,e25,e26,-,e28,-⟩:=F0
  obtain⟨e29,e30,e31,e32,e33,e34,e35,e36,e37,e38,-,-,e41,-,-,e44,-⟩:=F1
  obtain⟨-,-,-,-,e49,-⟩:=F2
  replace e14:I T 14=(Bo g1 (L T 13)):=by rw[←show gAt 0 (lQ.map (Rf.eval T))=g1 from z1.symm];exact e14
  simp only[AE,AF,zN,zR,AR,w2P,zL,zS,uR,Ab,zW] at*
  exact hv2
 ·obtain⟨e13,e14,e15,e16,e17,-,e19,e20,-,e22,-,e24,e25,e26,-,e28,-⟩:=F0
  obtain⟨e45,-,-,-,-,e50,-⟩:=F2
  replace e14:I T 14=(Bo g1 (L T 13)):=by rw[←show gAt 0 (lQ.map (Rf.eval T))=g1 from z1.symm];exact e14
  simp only[AE,AF,zN,zR,zL,zS,uR,Ab,zW] at*
  exact hE
 ·obtain⟨e13,e14,e15,e16,e17,-,e19,e20,-,e22,-,e24,e25,e26,e27,-⟩:=F0
  obtain⟨e29,e30,e31,e32,e33,e34,e35,e36,e37,e38,-⟩:=F1
  replace e14:I T 14=(Bo g1 (L T 13)):=by rw[←show gAt 0 (lQ.map (Rf.eval T))=g1 from z1.symm];exact e14
  simp only[AE,AF,zR,AR,w2P,zL,zS,uR,Ab,zW] at*
  intro h
  have h1:(B T 15)=false∧B T 26=true:=by clear hv0 hv1 hv2 hE hn hon hc ho;grind
  have:=hn h1.1 (by rw[←hon];exact h1.2)
  omega
 ·obtain⟨e13,e14,e15,e16,e17,-,e19,e20,-,e22,-,e24,e25,e26,e27,-⟩:=F0
  replace e14:I T 14=(Bo g1 (L T 13)):=by rw[←show gAt 0 (lQ.map (Rf.eval T))=g1 from z1.symm];exact e14
  simp only[AE,AF,zR,zL,zS,uR,Ab,zW] at*
  intro h
  have k:(B T 15)=false:=by clear hv0 hv1 hv2 hE hn hon hc ho;grind
  obtain⟨h1,h2⟩:=lX (hc.1 k)
  have h3:=CP h1
  rw[hw.1,hw.2.1,hw.2.2.1] at h3
  obtain⟨⟨⟨d1,d2⟩,⟨d3,d4⟩,d5,d6⟩,d7,d8,-⟩:=h3
  omega
 ·obtain⟨e13,e14,e15,e16,e17,-,e19,e20,-,e22,-,e24,e25,e26,e27,-⟩:=F0
  replace e14:I T 14=(Bo g1 (L T 13)):=by rw[←show gAt 0 (lQ.map (Rf.eval T))=g1 from z1.symm];exact e14
  simp only[AE,AF,zR,zL,zS,uR,Ab,zW] at*
  intro h
  have k:(B T 15)=false:=by clear hv0 hv1 hv2 hE hn hon hc ho;grind
  obtain⟨h1,h2⟩:=lX (hc.1 k)
  have h3:=CP h1
  rw[hw.1,hw.2.1,hw.2.2.1] at h3
  obtain⟨⟨⟨d1,d2⟩,⟨d3,d4⟩,d5,d6⟩,d7,d8,-⟩:=h3
  omega
theorem pG:Aq Try.prog 44 m8:=by
 refine Ai (l:=[(52,JU)]) BX (by simp only[List.forall_mem_cons];exact⟨ZD,fun _ h=>absurd h (by simp)⟩) pz (by kernel_rfl) fun T us hpre hT hul hS hBd hE=>?_
 change us.length=13 at hul
 obtain⟨hz0,-,-,-,⟨hl4,he4⟩,-,-,-,-,-,⟨hl10,he10⟩,-⟩:=hBd
 replace hz0:(S T 0).size≤140737488355328:=hz0
 replace hl4:(L T 4).length≤140737488355328:=hl4
 replace hl10:(L T 10).length≤140737488355328:=hl10
 obtain⟨g,hg⟩:∃g:Ln,g=Ln.mk (S T 0) (I T 1) (I T 2) (I T 3) (L T 4) (I T 5) (I T 6) (I T 7) (I T 8) (I T 9) (L T 10):=⟨_,rfl⟩
 have hgu:gAt 0 us=g:=by rw[hg];exact DU hT hul (by decide)
 have ha11:aI us 11=I T 11:=inI hT hul (by decide)
 have ha12:aI us 12=I T 12:=inI hT hul (by decide)
 clear hpre
 skip
 obtain⟨A0,hO⟩:=Ar (tys:=[.i,.i,.i,.i]) (rs:=oY) hS (by kernel_rfl) hE
 obtain⟨g1,z1⟩:∃g:Ln,g=Ln.mk (S T 0) (I T 1) (I T 2) (I T 3) (L T 4) (I T 5) (I T 6) (I T 7) (I T 8) (I T 9) (L T 10):=⟨_,rfl⟩
 obtain⟨q0,q1,q2,q3,r0,r1,r2⟩:=pv hz0 hl4 hl10 g hg g1 z1 A0
 refine⟨⟨r0,r1,r2,trivial⟩,hO.trans ?_⟩
 exact (lc (by show U.int (I T 47)= .int (ml us);unfold ml;rw[hgu,ha11,ha12];exact congrArg U.int q0) (lc (by show U.int (I T 48)= .int (mv us);unfold mv;rw[hgu,ha11,ha12];exact congrArg U.int q1) (lc (by show U.int (I T 49)= .int (mg us);unfold mg;rw[hgu,ha11,ha12];exact congrArg U.int q2) (lc (by show U.int (I T 50)= .int (mi us);unfold mi;rw[hgu,ha11,ha12];exact congrArg U.int q3) rfl))))
end Go.Eng
end
