/-
  A part of the proof: K_rwayd K_rway.
-/
import Derived.Test.YtmlmcidljiibaaaXQlTouches
import Derived.Test.YtmlmcidljiibaaaE3
import Derived.Test.YtmlmcidljiibaaaE4
import Derived.Test.YtmlmcidljiibaaaKone
import Derived.Test.YtmlmcidljiibaaaKrpoint
import Derived.Test.YtmlmcidljiibaaaKrball
import Derived.Test.YtmlmcidljiibaaaKrall
import Derived.Test.YtmlmcidljiibaaaKnearer
set_option linter.unusedVariables false
set_option linter.unusedSimpArgs false
noncomputable section
open Go Go.Eng Go.Proofs
set_option maxHeartbeats 4000000
set_option maxRecDepth 100000
namespace Go.Eng
def iD:List U→List (List U):=fun us=>(Nz (gAt 0 us) (aI us 11) (aI us 12) (aI us 13) (aI us 14) (aI us 15) (aL us 16))
def hM:List U→Int:=fun us=>(Kb (gAt 0 us) (aI us 11) (aI us 12) (aI us 13) (aI us 14) (aI us 15) (aL us 16))
def hG:Ak:={ sh:=[.agg [.str,k64,k64,k64,.list [k64,k64,k64,k64,.bool],k64,k64,k64,k64,k64,.list [k64,k64,k64]],.agg [k64,k64],.agg [k64,k64],.one (k64),.one (.list [k64,k64,k64])],blks:=[],outs:=[(.s "rway.0",PL iD),(.s "rway.1",Bj hM)],c:= .tup [.ro 17 [k64],(CR 18)],m':=[],pre:=[] }
def gV:List Rf:=[.e 0,.e 1,.e 2,.e 3,.e 4,.e 5,.e 6,.e 7,.e 8,.e 9,.e 10,.e 11,.e 12]
def gX:List Rf:=[.e 0,.e 1,.e 2,.e 3,.e 4,.e 5,.e 6,.e 7,.e 8,.e 9,.e 10,.e 16]
def jg:List En:=[⟨17,.outI "one.0" Jy,gV⟩,
 ⟨18,.ne,[.e 17,.c (.int 0)]⟩,
 ⟨19,.outI "one.0" Jy,gV⟩,
 ⟨20,.not,[.e 18]⟩,
 ⟨21,.outB "rpoint.0" GY,[.e 13,.e 14]⟩,
 ⟨22,.and,[.e 20,.e 21]⟩,
 ⟨23,.and,[.e 20,.n 21]⟩,
 ⟨24,.outI "rball.0" HL,[.e 15,.e 16]⟩,
 ⟨25,.ne,[.e 24,.c (.int 0)]⟩,
 ⟨26,.and,[.e 22,.e 25]⟩,
 ⟨27,.outI "rball.0" HL,[.e 15,.e 16]⟩,
 ⟨28,.and,[.e 22,.n 25]⟩,
 ⟨29,.outL "rall.0" iL,gX⟩,
 ⟨30,.id .l,[.c (.list [])]⟩]
def iO:List En:=jg
def jj:List En:=[⟨33,.len,[.e 29]⟩,
 ⟨34,.lt,[.e 31,.e 33]⟩,
 ⟨35,.and,[.e 28,.e 34]⟩,
 ⟨36,.and,[.e 28,.n 34]⟩,
 ⟨37,.get .i 0,[.e 29,.e 31]⟩,
 ⟨38,.get .i 1,[.e 29,.e 31]⟩,
 ⟨39,.get .i 2,[.e 29,.e 31]⟩,
 ⟨40,.w2 .i64 .add,[.e 15,.e 39]⟩,
 ⟨41,.outB "nearer.0" hL,[.e 11,.e 12,.e 13,.e 14,.e 37,.e 38,.e 40]⟩,
 ⟨42,.and,[.e 35,.e 41]⟩,
 ⟨43,.row 1 1 [.i],[.e 31]⟩,
 ⟨44,.app,[.e 32,.e 43]⟩,
 ⟨45,.and,[.e 35,.n 41]⟩,
 ⟨46,.ite .l,[.e 41,.e 44,.e 32]⟩,
 ⟨47,.ite .l,[.e 41,.e 43,.c (.list [])]⟩,
 ⟨48,.w2 .i64 .add,[.e 31,.c (.int 1)]⟩]
def gq:List En:=jj
def jG:List ObE:=[⟨some 42,.fits 8,[.e 32,.e 43]⟩,⟨some 35,.pre "nearer.p0" gw,[.e 11,.e 12,.e 13,.e 14,.e 37,.e 38,.e 40]⟩,⟨some 35,.pre "nearer.p1" gx,[.e 11,.e 12,.e 13,.e 14,.e 37,.e 38,.e 40]⟩,⟨some 35,.pre "nearer.p2" gy,[.e 11,.e 12,.e 13,.e 14,.e 37,.e 38,.e 40]⟩,⟨some 35,.pre "nearer.p3" gz,[.e 11,.e 12,.e 13,.e 14,.e 37,.e 38,.e 40]⟩,⟨some 35,.inl,[.e 31,.e 29]⟩,⟨some 35,.inl,[.e 31,.e 29]⟩]
def iN:Ae:=mkD 31 2 gq 35 [.e 48,.e 46] jG [11,12,13,14,15,29,28]
def il:List Rf:=[.e 11,.e 12,.e 13,.e 14,.e 15,.e 29,.e 28,.c (.int 0),.e 30]
def ji:List En:=[⟨49,.ite .l,[.e 26,.c (.list []),.e 32]⟩,
 ⟨50,.ite .i,[.e 26,.e 27,.c (.int 0)]⟩,
 ⟨51,.or,[.e 26,.e 28]⟩,
 ⟨52,.ite .l,[.e 23,.c (.list []),.e 49]⟩,
 ⟨53,.ite .i,[.e 23,.c (.int 2),.e 50]⟩,
 ⟨54,.or,[.e 23,.e 51]⟩,
 ⟨55,.ite .l,[.e 18,.c (.list []),.e 52]⟩,
 ⟨56,.ite .i,[.e 18,.e 19,.e 53]⟩,
 ⟨57,.or,[.e 18,.e 54]⟩]
def jS:List En:=ji
def kT:List ObE:=[⟨some 28,.owes iN,[.e 11,.e 12,.e 13,.e 14,.e 15,.e 29,.e 28,.c (.int 0),.e 30]⟩,
 ⟨some 28,.pre "rall.p0" iH,gX⟩,
 ⟨some 28,.pre "rall.p1" iE,gX⟩,
 ⟨some 28,.pre "rall.p2" iB,gX⟩]
def jt:List Rf:=[.e 55,.e 56]
theorem lB:hG.sees jt (hG.run Try.prog [(60,Oi),(80,FX),(61,II),(98,g7),(99,gZ)] Ah 3000 20 28)=some ((iO++((BJ iN [.i,.l] il)++(gq++(jS)))).map En.be,kT.map ObE.be,[]):=by kernel_rfl
theorem jy {T:Tab}(hz0:(S T 0).size≤140737488355328)(hl4:(L T 4).length≤140737488355328)(hl10:(L T 10).length≤140737488355328)(hl16:(L T 16).length≤140737488355328)(g:Ln)(hg:g=Ln.mk (S T 0) (I T 1) (I T 2) (I T 3) (L T 4) (I T 5) (I T 6) (I T 7) (I T 8) (I T 9) (L T 10))(g1:Ln)(z1:g1=Ln.mk (S T 0) (I T 1) (I T 2) (I T 3) (L T 4) (I T 5) (I T 6) (I T 7) (I T 8) (I T 9) (L T 10))(g2:Ln)(z2:g2=Ln.mk (S T 0) (I T 1) (I T 2) (I T 3) (L T 4) (I T 5) (I T 6) (I T 7) (I T 8) (I T 9) (L T 10))(A0:AJ T iO):
  (g1=g∧g2=g)∧((I T 17)=A6 g (I T 11) (I T 12)∧I T 19=I T 17)∧((B T 28)=true→AT g=0∧AH (I T 11) (I T 12)=true∧AH (I T 13) (I T 14)=true∧Bx (I T 15)=true∧((L T 16)).length≤12∧((L T 16)).all Ax=true)∧((L T 29)=BC g++L T 16)∧((B T 28)=true→Fp ((L T 29))∧((L T 29)).length≤37)∧((L T 30)=[]∧((L T 29)).length≤1000000000000000):=by
 have F0:=A0;clear A0
 have hg1:g1=g∧g2=g:=by
  exact⟨by rw[z1,hg],by rw[z2,hg]⟩
 have h17:(I T 17)=A6 g (I T 11) (I T 12)∧I T 19=I T 17:=by
  obtain⟨e17,-,e19,-⟩:=F0
  replace e17:I T 17=(A6 g1 (I T 11) (I T 12)):=by rw[←show gAt 0 (gV.map (Rf.eval T))=g1 from z1.symm];exact e17
  replace e19:I T 19=(A6 g1 (I T 11) (I T 12)):=by rw[←show gAt 0 (gV.map (Rf.eval T))=g1 from z1.symm];exact e19
  exact⟨by rw[e17,hg1.1],by rw[e19,e17]⟩
 have h28:(B T 28)=true→AT g=0∧AH (I T 11) (I T 12)=true∧AH (I T 13) (I T 14)=true∧Bx (I T 15)=true∧((L T 16)).length≤12∧((L T 16)).all Ax=true:=by
  obtain⟨e17,e18,-,e20,e21,e22,-,e24,e25,-,-,e28,-⟩:=F0
  replace e17:I T 17=(A6 g1 (I T 11) (I T 12)):=by rw[←show gAt 0 (gV.map (Rf.eval T))=g1 from z1.symm];exact e17
  replace e21:B T 21=(AH (I T 13) (I T 14)):=e21
  replace e24:I T 24=(AQ (I T 15) (L T 16)):=e24
  simp only[AE,AF,zN,zR] at*
  intro h
  have h1:=e28.1 h
  have h22:=e22.1 h1.1
  have h20:=e20.1 h22.1
  have h2:A6 g (I T 11) (I T 12)=0:=by
   rw[←h17.1]
   cases Classical.em ((I T 17)=0) with
   |inl h=>exact h
   |inr h=>have:=e18.2 h;simp[h20] at this
  have h3:AQ (I T 15) ((L T 16))=0:=by
   rw[←e24]
   cases Classical.em ((I T 24)=0) with
   |inl h=>exact h
   |inr h=>have:=e25.2 h;simp[h1.2] at this
  have h4:=Nh h3
  have h5:AT g=0∧AH (I T 11) (I T 12)=true:=by unfold A6 at h2;clear h17 e17 h4 h3 e24;grind
  have h6:=h22.2
  rw[e21] at h6
  exact⟨h5.1,h5.2,h6,h4⟩
 have h29:(L T 29)=BC g++L T 16:=by
  obtain⟨-,-,-,-,-,-,-,-,-,-,-,-,e29,-⟩:=F0
  replace e29:L T 29=(BC g2++L T 16):=by rw[←show gAt 0 (gX.map (Rf.eval T))=g2 from z2.symm];exact e29
  rw[e29,hg1.2]
 have hd:(B T 28)=true→Fp ((L T 29))∧((L T 29)).length≤37:=by
  obtain⟨e17,e18,-,e20,e21,e22,-,e24,e25,-,-,e28,e29,-⟩:=F0
  replace e17:I T 17=(A6 g1 (I T 11) (I T 12)):=by rw[←show gAt 0 (gV.map (Rf.eval T))=g1 from z1.symm];exact e17
  replace e21:B T 21=(AH (I T 13) (I T 14)):=e21
  replace e24:I T 24=(AQ (I T 15) (L T 16)):=e24
  replace e29:L T 29=(BC g2++L T 16):=by rw[←show gAt 0 (gX.map (Rf.eval T))=g2 from z2.symm];exact e29
  simp only[AE,AF,zN,zR] at*
  intro h
  obtain⟨h1,h2,h3,h4,h5,h6⟩:=h28 h
  rw[h29]
  exact eQ h1 h5 h6
 have h30:(L T 30)=[]∧((L T 29)).length≤1000000000000000:=by
  obtain⟨-,-,-,-,-,-,-,-,-,-,-,-,e29,e30,-⟩:=F0
  replace e29:L T 29=(BC g2++L T 16):=by rw[←show gAt 0 (gX.map (Rf.eval T))=g2 from z2.symm];exact e29
  simp only[AE,zR,zL] at e30
  exact⟨e30,by rw[h29,List.length_append,show (BC g).length=2*g.hoops.length+1 from JR,show g.hoops=((L T 4)) by rw[hg]];omega⟩
 exact⟨hg1,h17,h28,h29,hd,h30⟩
theorem kE {T:Tab}(g:Ln)(hg:g=Ln.mk (S T 0) (I T 1) (I T 2) (I T 3) (L T 4) (I T 5) (I T 6) (I T 7) (I T 8) (I T 9) (L T 10))(h28:(B T 28)=true→AT g=0∧AH (I T 11) (I T 12)=true∧AH (I T 13) (I T 14)=true∧Bx (I T 15)=true∧((L T 16)).length≤12∧((L T 16)).all Ax=true)(hd:(B T 28)=true→Fp ((L T 29))∧((L T 29)).length≤37)(h30:(L T 30)=[]∧((L T 29)).length≤1000000000000000)(hS:AL T (Al (BT 0 hG.ks) iO))(hB:Ag T (gq.map En.be))(hH:Ag T ((BJ iN [.i,.l] il).map En.be)):
  (iN).owes (il.map (Rf.eval T))∧AL T (hds 31 [.i,.l])∧(0≤I T 31∧I T 31≤((L T 29)).length∧L T 32=FQ (I T 11) (I T 12) (I T 13) (I T 14) (I T 15) ((L T 29)) (I T 31).toNat)∧¬B T 35=true:=by
 refine Bl (nh:=31) (k:=2) (pcn:=35) (top:=49) (bes:=gq) (bos:=jG) (nxt:=[.e 48,.e 46]) (inits:=[.c (.int 0),.e 30]) (fv:=[11,12,13,14,15,29,28]) (tys:=[.i,.l]) (by kernel_rfl) rfl rfl rfl rfl hS (by kernel_rfl) (by kernel_rfl) hB (BK hH) (fun s=>0≤(aI s 0)∧(aI s 0)≤((L T 29)).length∧(aL s 1)=FQ (I T 11) (I T 12) (I T 13) (I T 14) (I T 15) ((L T 29)) (aI s 0).toNat) (fun s=>(((L T 29)).length - (aI s 0)).toNat) ?_ ?_
 ·show 0≤(0:Int)∧(0:Int)≤((L T 29)).length∧L T 30=FQ (I T 11) (I T 12) (I T 13) (I T 14) (I T 15) ((L T 29)) (0:Int).toNat
  clear hS hB hH
  exact⟨by omega,by omega,h30.1⟩
 ·intro T2 hfv hF inv
  replace inv:0≤I T2 31∧I T2 31≤((L T 29)).length∧L T2 32=FQ (I T 11) (I T 12) (I T 13) (I T 14) (I T 15) ((L T 29)) (I T2 31).toNat:=inv
  clear hS hB hH
  replace hF:AJ T2 gq:=hF
  have F0:=hF;clear hF
  have fv11:I T2 11=I T 11:=fvI (hfv 11 (by decide))
  have fv12:I T2 12=I T 12:=fvI (hfv 12 (by decide))
  have fv13:I T2 13=I T 13:=fvI (hfv 13 (by decide))
  have fv14:I T2 14=I T 14:=fvI (hfv 14 (by decide))
  have fv15:I T2 15=I T 15:=fvI (hfv 15 (by decide))
  have fv29:L T2 29=L T 29:=fvL (hfv 29 (by decide))
  have fv28:B T2 28=B T 28:=fvB (hfv 28 (by decide))
  clear hfv
  suffices hz:(B T2 42=true→(((L T2 32)).length+((L T2 43)).length)*8≤140737488355328)∧(B T2 35=true→AH (I T2 11) (I T2 12)=true)∧(B T2 35=true→AH (I T2 13) (I T2 14)=true)∧(B T2 35=true→AH (I T2 37) (I T2 38)=true)∧(B T2 35=true→0≤I T2 40∧I T2 40≤65536)∧(B T2 35=true→0≤I T2 31∧I T2 31 < ((L T2 29)).length)∧(B T2 35=true→0≤I T2 31∧I T2 31 < ((L T2 29)).length)∧(B T2 35=true→(0≤I T2 48∧I T2 48≤((L T 29)).length∧L T2 46=FQ (I T 11) (I T 12) (I T 13) (I T 14) (I T 15) ((L T 29)) (I T2 48).toNat))∧(B T2 35=true→(((L T 29)).length - (I T2 48)).toNat < (((L T 29)).length - (I T2 31)).toNat) from
   let⟨r0,r1,r2,r3,r4,r5,r6,nx,mz⟩:=hz;⟨⟨r0,r1,r2,r3,r4,r5,r6,trivial⟩,fun hp=>⟨nx hp,mz hp⟩⟩
  refine⟨?_,?_,?_,?_,?_,?_,?_,?_,?_⟩
  ·obtain⟨e33,e34,e35,-,e37,e38,e39,e40,e41,e42,e43,-⟩:=F0
   replace e41:B T2 41=(Kp (I T2 11) (I T2 12) (I T2 13) (I T2 14) (I T2 37) (I T2 38) (I T2 40)):=e41
   simp only[AE,AF,zR,w2P,zL,zS,uR,Ab,zW] at*
   obtain⟨v1,v2,v3⟩:=inv
   intro hp
   have h:=e35.1 (e42.1 hp).1
   obtain⟨d1,d2⟩:=hd (fv28▸h.1)
   have:=am (ax:=I T 11) (ay:=I T 12) (bx:=I T 13) (by_:=I T 14) (r:=I T 15) (d:=L T 29) (n:=(I T2 31).toNat)
   rw[v3,e43]
   simp only[List.length_cons,List.length_nil]
   omega
  ·obtain⟨e33,e34,e35,-⟩:=F0
   simp only[AE,AF,zR,zL] at e33 e34 e35
   obtain⟨v1,v2,v3⟩:=inv
   intro hp
   have h0:=e35.1 hp
   have h:=e34.1 h0.2
   rw[e33,fv29] at h
   have h24:=h28 (fv28▸h0.1)
   obtain⟨d1,d2⟩:=hd (fv28▸h0.1)
   obtain⟨k1,k2,k3⟩:=d1 (I T2 31).toNat (by omega)
   have kr:=CN.1 h24.2.2.2.1
   rw[fv11,fv12]
   exact h24.2.1
  ·obtain⟨e33,e34,e35,-⟩:=F0
   simp only[AE,AF,zR,zL] at e33 e34 e35
   obtain⟨v1,v2,v3⟩:=inv
   intro hp
   have h0:=e35.1 hp
   have h:=e34.1 h0.2
   rw[e33,fv29] at h
   have h24:=h28 (fv28▸h0.1)
   obtain⟨d1,d2⟩:=hd (fv28▸h0.1)
   obtain⟨k1,k2,k3⟩:=d1 (I T2 31).toNat (by omega)
   have kr:=CN.1 h24.2.2.2.1
   rw[fv13,fv14]
   exact h24.2.2.1
  ·obtain⟨e33,e34,e35,-,e37,e38,-⟩:=F0
   simp only[AE,AF,zR,zL] at*
   obtain⟨v1,v2,v3⟩:=inv
   intro hp
   have h0:=e35.1 hp
   have h:=e34.1 h0.2
   rw[e33,fv29] at h
   have h24:=h28 (fv28▸h0.1)
   obtain⟨d1,d2⟩:=hd (fv28▸h0.1)
   obtain⟨k1,k2,k3⟩:=d1 (I T2 31).toNat (by omega)
   have kr:=CN.1 h24.2.2.2.1
   rw[e37,e38,fv29]
   exact k1
  ·obtain⟨e33,e34,e35,-,-,-,e39,e40,-⟩:=F0
   simp only[AE,AF,zR,w2P,zL] at*
   obtain⟨v1,v2,v3⟩:=inv
   intro hp
   have h0:=e35.1 hp
   have h:=e34.1 h0.2
   rw[e33,fv29] at h
   have h24:=h28 (fv28▸h0.1)
   obtain⟨d1,d2⟩:=hd (fv28▸h0.1)
   obtain⟨k1,k2,k3⟩:=d1 (I T2 31).toNat (by omega)
   have kr:=CN.1 h24.2.2.2.1
   rw[fv29] at e39
   rw[←e39] at k2 k3
   have x38:(I T2 40)=I T 15+I T2 39:=by rw[e40 (by omega) (by omega),fv15]
   omega
  ·obtain⟨e33,e34,e35,-⟩:=F0
   simp only[AE,AF,zR,zL] at e33 e34 e35
   obtain⟨v1,v2,v3⟩:=inv
   intro hp
   have h0:=e35.1 hp
   have h:=e34.1 h0.2
   rw[e33,fv29] at h
   have h24:=h28 (fv28▸h0.1)
   obtain⟨d1,d2⟩:=hd (fv28▸h0.1)
   obtain⟨k1,k2,k3⟩:=d1 (I T2 31).toNat (by omega)
   have kr:=CN.1 h24.2.2.2.1
   rw[fv29]
   omega
  ·obtain⟨e33,e34,e35,-⟩:=F0
   simp only[AE,AF,zR,zL] at e33 e34 e35
   obtain⟨v1,v2,v3⟩:=inv
   intro hp
   have h0:=e35.1 hp
   have h:=e34.1 h0.2
   rw[e33,fv29] at h
   have h24:=h28 (fv28▸h0.1)
   obtain⟨d1,d2⟩:=hd (fv28▸h0.1)
   obtain⟨k1,k2,k3⟩:=d1 (I T2 31).toNat (by omega)
   have kr:=CN.1 h24.2.2.2.1
   rw[fv29]
   omega
  ·obtain⟨e33,e34,e35,-,e37,e38,e39,e40,e41,-,e43,e44,-,e46,-,e48,-⟩:=F0
   replace e41:B T2 41=(Kp (I T2 11) (I T2 12) (I T2 13) (I T2 14) (I T2 37) (I T2 38) (I T2 40)):=e41
   simp only[AE,AF,zR,w2P,zL,zS,uR,Ab,zW] at*
   obtain⟨v1,v2,v3⟩:=inv
   intro hp
   have h0:=e35.1 hp
   have h:=e34.1 h0.2
   rw[e33,fv29] at h
   have h24:=h28 (fv28▸h0.1)
   obtain⟨d1,d2⟩:=hd (fv28▸h0.1)
   obtain⟨k1,k2,k3⟩:=d1 (I T2 31).toNat (by omega)
   have kr:=CN.1 h24.2.2.2.1
   have e:(I T2 48)=I T2 31+1:=e48 (by omega) (by omega)
   refine⟨by omega,by omega,ZA v1 e v3 ?_⟩
   rw[fv29] at e37 e38 e39
   rw[←e39] at k2 k3
   have x38:(I T2 40)=I T 15+I T2 39:=by rw[e40 (by omega) (by omega),fv15]
   rw[←e37,←e38,←e39,←x38,e46,e44,e43]
   have hb:(B T2 41)=Kp (I T 11) (I T 12) (I T 13) (I T 14) (I T2 37) (I T2 38) (I T2 40):=by
    rw[e41,fv11,fv12,fv13,fv14]
   rw[hb]
  ·obtain⟨e33,e34,e35,-,-,-,-,-,-,-,-,-,-,-,-,e48,-⟩:=F0
   simp only[AE,AF,zR,w2P,zL] at*
   obtain⟨v1,v2,v3⟩:=inv
   intro hp
   have h0:=e35.1 hp
   have h:=e34.1 h0.2
   rw[e33,fv29] at h
   obtain⟨d1,d2⟩:=hd (fv28▸h0.1)
   have e:(I T2 48)=I T2 31+1:=e48 (by omega) (by omega)
   omega
theorem kh {T:Tab}(hz0:(S T 0).size≤140737488355328)(hl4:(L T 4).length≤140737488355328)(hl10:(L T 10).length≤140737488355328)(hl16:(L T 16).length≤140737488355328)(g:Ln)(hg:g=Ln.mk (S T 0) (I T 1) (I T 2) (I T 3) (L T 4) (I T 5) (I T 6) (I T 7) (I T 8) (I T 9) (L T 10))(g1:Ln)(z1:g1=Ln.mk (S T 0) (I T 1) (I T 2) (I T 3) (L T 4) (I T 5) (I T 6) (I T 7) (I T 8) (I T 9) (L T 10))(g2:Ln)(z2:g2=Ln.mk (S T 0) (I T 1) (I T 2) (I T 3) (L T 4) (I T 5) (I T 6) (I T 7) (I T 8) (I T 9) (L T 10))(hg1:g1=g∧g2=g)(h17:(I T 17)=A6 g (I T 11) (I T 12)∧I T 19=I T 17)(h28:(B T 28)=true→AT g=0∧AH (I T 11) (I T 12)=true∧AH (I T 13) (I T 14)=true∧Bx (I T 15)=true∧((L T 16)).length≤12∧((L T 16)).all Ax=true)(h29:(L T 29)=BC g++L T 16)(hd:(B T 28)=true→Fp ((L T 29))∧((L T 29)).length≤37)(h30:(L T 30)=[]∧((L T 29)).length≤1000000000000000)(inv0:0≤I T 31∧I T 31≤((L T 29)).length∧L T 32=FQ (I T 11) (I T 12) (I T 13) (I T 14) (I T 15) ((L T 29)) (I T 31).toNat)(np0:¬B T 35=true)(A0:AJ T iO)(B0:AJ T gq)(A1:AJ T jS):
  ((L T 55)=(Nz g (I T 11) (I T 12) (I T 13) (I T 14) (I T 15) (L T 16)))∧
  ((I T 56)=(Kb g (I T 11) (I T 12) (I T 13) (I T 14) (I T 15) (L T 16)))∧
  (B T 28=true→BV (L T 4)=true)∧
  (B T 28=true→((L T 4)).length≤12)∧
  (B T 28=true→((L T 16)).length≤12):=by
 have F0:=A0;clear A0
 have F1:=B0;clear B0
 have F2:=A1;clear A1
 have hE:(I T 56)=Kb g (I T 11) (I T 12) (I T 13) (I T 14) (I T 15) ((L T 16)):=by
  obtain⟨e17,e18,e19,e20,e21,e22,e23,e24,e25,e26,e27,e28,-⟩:=F0
  obtain⟨-,e50,-,-,e53,-,-,e56,-⟩:=F2
  replace e17:I T 17=(A6 g1 (I T 11) (I T 12)):=by rw[←show gAt 0 (gV.map (Rf.eval T))=g1 from z1.symm];exact e17
  replace e19:I T 19=(A6 g1 (I T 11) (I T 12)):=by rw[←show gAt 0 (gV.map (Rf.eval T))=g1 from z1.symm];exact e19
  replace e21:B T 21=(AH (I T 13) (I T 14)):=e21
  replace e24:I T 24=(AQ (I T 15) (L T 16)):=e24
  replace e27:I T 27=(AQ (I T 15) (L T 16)):=e27
  simp only[AE,AF,zN,zR,zL] at*
  unfold Kb
  rw[←e24,←h17.1]
  have h2:=h17.2
  have h3:(I T 27)=I T 24:=by rw[e27,e24]
  rw[e56,e53,e50]
  clear e24 e27 e17 e19 h17 hd h29 hg1 h28
  grind
 have hb:(B T 28)=true↔I T 56=0:=by
  obtain⟨e17,e18,e19,e20,e21,e22,e23,e24,e25,e26,e27,e28,-⟩:=F0
  obtain⟨-,e50,-,-,e53,-,-,e56,-⟩:=F2
  replace e17:I T 17=(A6 g1 (I T 11) (I T 12)):=by rw[←show gAt 0 (gV.map (Rf.eval T))=g1 from z1.symm];exact e17
  replace e19:I T 19=(A6 g1 (I T 11) (I T 12)):=by rw[←show gAt 0 (gV.map (Rf.eval T))=g1 from z1.symm];exact e19
  replace e21:B T 21=(AH (I T 13) (I T 14)):=e21
  replace e24:I T 24=(AQ (I T 15) (L T 16)):=e24
  replace e27:I T 27=(AQ (I T 15) (L T 16)):=e27
  simp only[AE,AF,zN,zR,zL] at*
  have h2:=h17.2
  have h3:(I T 27)=I T 24:=by rw[e27,e24]
  clear e24 e27 e17 e19 hd h29 hg1 h28 hE h17
  grind
 refine⟨?_,?_,?_,?_,?_⟩
 ·obtain⟨e17,e18,-,e20,e21,e22,e23,e24,e25,e26,-,e28,e29,-⟩:=F0
  obtain⟨e33,e34,e35,-⟩:=F1
  obtain⟨e49,-,-,e52,-,-,e55,-⟩:=F2
  replace e17:I T 17=(A6 g1 (I T 11) (I T 12)):=by rw[←show gAt 0 (gV.map (Rf.eval T))=g1 from z1.symm];exact e17
  replace e21:B T 21=(AH (I T 13) (I T 14)):=e21
  replace e24:I T 24=(AQ (I T 15) (L T 16)):=e24
  replace e29:L T 29=(BC g2++L T 16):=by rw[←show gAt 0 (gX.map (Rf.eval T))=g2 from z2.symm];exact e29
  simp only[AE,AF,zN,zR,zL] at*
  obtain⟨v1,v2,v3⟩:=inv0
  unfold Nz
  rw[←hE]
  by_cases h:(B T 28)=true
  ·have hz:=hb.1 h
   have h2:¬I T 31 < ((L T 29)).length:=fun hlt=>by
    have:=e35.2 ⟨h,e34.2 (by rw[e33];omega)⟩
    simp[np0] at this
   have h1:=e28.1 h
   have n18:¬B T 18=true:=fun k=>by have:=e20.1 (e22.1 h1.1).1;simp[k] at this
   have n23:¬B T 23=true:=fun k=>by have:=(e23.1 k).2;have:=(e22.1 h1.1).2;simp_all
   have n26:¬B T 26=true:=fun k=>by have:=(e26.1 k).2;simp[h1.2] at this
   rw[if_pos hz,e55,if_neg n18,e52,if_neg n23,e49,if_neg n26,v3,h29]
   rw[h29] at v2 h2
   rw[show (I T 31).toNat=(BC g++L T 16).length by omega]
  ·have hz:¬I T 56=0:=fun k=>h (hb.2 k)
   rw[if_neg hz,e55,e52,e49]
   clear hE hb hd h29 hg1 h28 v3 h17
   grind
 ·obtain⟨e17,e18,e19,e20,e21,e22,e23,e24,e25,e26,e27,e28,e29,-⟩:=F0
  obtain⟨e33,e34,e35,-⟩:=F1
  obtain⟨-,e50,-,-,e53,-,-,e56,-⟩:=F2
  replace e17:I T 17=(A6 g1 (I T 11) (I T 12)):=by rw[←show gAt 0 (gV.map (Rf.eval T))=g1 from z1.symm];exact e17
  replace e19:I T 19=(A6 g1 (I T 11) (I T 12)):=by rw[←show gAt 0 (gV.map (Rf.eval T))=g1 from z1.symm];exact e19
  replace e21:B T 21=(AH (I T 13) (I T 14)):=e21
  replace e24:I T 24=(AQ (I T 15) (L T 16)):=e24
  replace e27:I T 27=(AQ (I T 15) (L T 16)):=e27
  replace e29:L T 29=(BC g2++L T 16):=by rw[←show gAt 0 (gX.map (Rf.eval T))=g2 from z2.symm];exact e29
  simp only[AE,AF,zN,zR,zL] at*
  exact hE
 ·obtain⟨e17,e18,-,e20,e21,e22,-,e24,e25,-,-,e28,-⟩:=F0
  replace e17:I T 17=(A6 g1 (I T 11) (I T 12)):=by rw[←show gAt 0 (gV.map (Rf.eval T))=g1 from z1.symm];exact e17
  replace e21:B T 21=(AH (I T 13) (I T 14)):=e21
  replace e24:I T 24=(AQ (I T 15) (L T 16)):=e24
  simp only[AE,AF,zN,zR] at*
  intro h
  have:=(CP (h28 h).1).2.2.2.2.2.1
  rw[hg] at this
  exact this
 ·obtain⟨e17,e18,-,e20,e21,e22,-,e24,e25,-,-,e28,-⟩:=F0
  replace e17:I T 17=(A6 g1 (I T 11) (I T 12)):=by rw[←show gAt 0 (gV.map (Rf.eval T))=g1 from z1.symm];exact e17
  replace e21:B T 21=(AH (I T 13) (I T 14)):=e21
  replace e24:I T 24=(AQ (I T 15) (L T 16)):=e24
  simp only[AE,AF,zN,zR] at*
  intro h
  have:=(CP (h28 h).1).2.2.2.1
  rw[hg] at this
  exact this
 ·obtain⟨e17,e18,-,e20,e21,e22,-,e24,e25,-,-,e28,-⟩:=F0
  replace e17:I T 17=(A6 g1 (I T 11) (I T 12)):=by rw[←show gAt 0 (gV.map (Rf.eval T))=g1 from z1.symm];exact e17
  replace e21:B T 21=(AH (I T 13) (I T 14)):=e21
  replace e24:I T 24=(AQ (I T 15) (L T 16)):=e24
  simp only[AE,AF,zN,zR] at*
  intro h
  exact (h28 h).2.2.2.2.1
theorem jV:Aq Try.prog 28 hG:=by
 refine Ai (l:=[(60,Oi),(80,FX),(61,II),(98,g7),(99,gZ)]) BX (by simp only[List.forall_mem_cons];exact⟨ok_one,Q8,Z0,kR,jr,fun _ h=>absurd h (by simp)⟩) lB (by kernel_rfl) fun T us hpre hT hul hS hBd hE=>?_
 change us.length=17 at hul
 obtain⟨hz0,-,-,-,⟨hl4,he4⟩,-,-,-,-,-,⟨hl10,he10⟩,-,-,-,-,-,⟨hl16,he16⟩,-⟩:=hBd
 replace hz0:(S T 0).size≤140737488355328:=hz0
 replace hl4:(L T 4).length≤140737488355328:=hl4
 replace hl10:(L T 10).length≤140737488355328:=hl10
 replace hl16:(L T 16).length≤140737488355328:=hl16
 obtain⟨g,hg⟩:∃g:Ln,g=Ln.mk (S T 0) (I T 1) (I T 2) (I T 3) (L T 4) (I T 5) (I T 6) (I T 7) (I T 8) (I T 9) (L T 10):=⟨_,rfl⟩
 have hgu:gAt 0 us=g:=by rw[hg];exact DU hT hul (by decide)
 have ha11:aI us 11=I T 11:=inI hT hul (by decide)
 have ha12:aI us 12=I T 12:=inI hT hul (by decide)
 have ha13:aI us 13=I T 13:=inI hT hul (by decide)
 have ha14:aI us 14=I T 14:=inI hT hul (by decide)
 have ha15:aI us 15=I T 15:=inI hT hul (by decide)
 have ha16:aL us 16=L T 16:=inL hT hul (by decide)
 clear hpre
 rw[List.map_append,List.map_append,List.map_append] at hE
 have hA:=hE.left
 replace hE:=hE.right
 have hH:=hE.left
 replace hE:=hE.right
 have hB:=hE.left
 replace hE:=hE.right
 obtain⟨A0,hS1⟩:=Ac hS (by kernel_rfl) hA
 obtain⟨g1,z1⟩:∃g:Ln,g=Ln.mk (S T 0) (I T 1) (I T 2) (I T 3) (L T 4) (I T 5) (I T 6) (I T 7) (I T 8) (I T 9) (L T 10):=⟨_,rfl⟩
 obtain⟨g2,z2⟩:∃g:Ln,g=Ln.mk (S T 0) (I T 1) (I T 2) (I T 3) (L T 4) (I T 5) (I T 6) (I T 7) (I T 8) (I T 9) (L T 10):=⟨_,rfl⟩
 obtain⟨hg1,h17,h28,h29,hd,h30⟩:=jy hz0 hl4 hl10 hl16 g hg g1 z1 g2 z2 A0
 obtain⟨ow0,hS2,inv0,np0⟩:=kE g hg h28 hd h30 hS1 hB hH
 have hF2:=(Ac (hS2.append hS1) (l:=gq) (by kernel_rfl) hB)
 obtain⟨B0,hS⟩:=hF2
 clear hA hB hH hS1 hS2
 obtain⟨A1,hO⟩:=Ar (tys:=[.l,.i]) (rs:=jt) hS (by kernel_rfl) hE
 obtain⟨q0,q1,r0,r1,r2⟩:=kh hz0 hl4 hl10 hl16 g hg g1 z1 g2 z2 hg1 h17 h28 h29 hd h30 inv0 np0 A0 B0 A1
 refine⟨⟨(fun _=>ow0),r0,r1,r2,trivial⟩,hO.trans ?_⟩
 exact (lc (by show U.list (L T 55)= .list (iD us);unfold iD;rw[hgu,ha11,ha12,ha13,ha14,ha15,ha16];exact congrArg U.list q0) (lc (by show U.int (I T 56)= .int (hM us);unfold hM;rw[hgu,ha11,ha12,ha13,ha14,ha15,ha16];exact congrArg U.int q1) rfl))
end Go.Eng
end
