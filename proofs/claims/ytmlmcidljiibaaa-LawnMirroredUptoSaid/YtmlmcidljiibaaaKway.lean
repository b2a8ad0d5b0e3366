/-
  A part of the proof: K_wayd K_way.
-/
import Derived.Test.YtmlmcidljiibaaaE4
import Derived.Test.YtmlmcidljiibaaaE5
import Derived.Test.YtmlmcidljiibaaaKchk
import Derived.Test.YtmlmcidljiibaaaKcball
import Derived.Test.YtmlmcidljiibaaaKtlies
import Derived.Test.YtmlmcidljiibaaaKposts
import Derived.Test.YtmlmcidljiibaaaKconcat
set_option linter.unusedVariables false
set_option linter.unusedSimpArgs false
noncomputable section
open Go Go.Eng Go.Proofs
set_option maxHeartbeats 4000000
set_option maxRecDepth 100000
namespace Go.Eng
def FX:List U→List (List U):=fun us=>(E3 (gAt 0 us) (aI us 11) (aI us 12) (aI us 13) (aI us 14) (aI us 15) (aL us 16))
def FO:List U→Int:=fun us=>(Cf (gAt 0 us) (aI us 11) (aI us 12) (aI us 13) (aI us 14) (aI us 15) (aL us 16))
def Hj:Ak:={ sh:=[.agg [.str,k64,k64,k64,.list [k64,k64,k64,k64,.bool],k64,k64,k64,k64,k64,.list [k64,k64,k64]],.agg [k64,k64],.agg [k64,k64],.one (k64),.one (.list [k64,k64,k64])],blks:=[],outs:=[(.s "way.0",LQ FX),(.s "way.1",Bi FO)],c:= .tup [.ro 17 [k64],(CP 18)],m':=[],pre:=[] }
def DK:List Rf:=[.e 0,.e 1,.e 2,.e 3,.e 4,.e 5,.e 6,.e 7,.e 8,.e 9,.e 10,.e 17]
def EP:List Rf:=[.e 0,.e 1,.e 2,.e 3,.e 4,.e 5,.e 6,.e 7,.e 8,.e 9,.e 10]
def Z6:List En:=[⟨17,.row 2 2 [.i,.i,.i,.i],[.e 11,.e 12,.e 13,.e 14]⟩,
 ⟨18,.outI "chk.0" K9,DK⟩,
 ⟨19,.ne,[.e 18,.c (.int 0)]⟩,
 ⟨20,.not,[.e 19]⟩,
 ⟨21,.outI "cball.0" H3,[.e 15,.e 16]⟩,
 ⟨22,.ne,[.e 21,.c (.int 0)]⟩,
 ⟨23,.and,[.e 20,.e 22]⟩,
 ⟨24,.and,[.e 20,.n 22]⟩,
 ⟨25,.outL "posts.0" Ht,EP⟩,
 ⟨26,.row 2 1 [.l,.l],[.e 25,.e 16]⟩,
 ⟨27,.outL "concat.0" IM,[.e 26]⟩,
 ⟨28,.len,[.e 27]⟩,
 ⟨29,.id .l,[.c (.list [])]⟩]
def N5:List En:=Z6
def bX:List En:=[⟨32,.lt,[.e 30,.e 28]⟩,
 ⟨33,.and,[.e 24,.e 32]⟩,
 ⟨34,.and,[.e 24,.n 32]⟩,
 ⟨35,.get .i 0,[.e 27,.e 30]⟩,
 ⟨36,.get .i 1,[.e 27,.e 30]⟩,
 ⟨37,.get .i 2,[.e 27,.e 30]⟩,
 ⟨38,.w2 .i64 .add,[.e 15,.e 37]⟩,
 ⟨39,.outI "tlies.0" Jw,[.e 11,.e 12,.e 13,.e 14,.e 35,.e 36,.e 38]⟩,
 ⟨40,.outI "tlies.1" Jq,[.e 11,.e 12,.e 13,.e 14,.e 35,.e 36,.e 38]⟩,
 ⟨41,.lt,[.e 39,.c (.int 0)]⟩,
 ⟨42,.and,[.e 33,.e 41]⟩,
 ⟨43,.row 1 1 [.i],[.e 30]⟩,
 ⟨44,.app,[.e 31,.e 43]⟩,
 ⟨45,.and,[.e 33,.n 41]⟩,
 ⟨46,.ite .l,[.e 41,.e 44,.e 31]⟩,
 ⟨47,.ite .l,[.e 41,.e 43,.c (.list [])]⟩]
def Zz:List En:=[⟨48,.w2 .i64 .add,[.e 30,.c (.int 1)]⟩]
def HG:List En:=bX++(Zz)
def Xp:List ObE:=[⟨some 42,.fits 8,[.e 31,.e 43]⟩,⟨some 33,.inl,[.e 30,.e 27]⟩]
def Np:Ae:=mkD 30 2 HG 33 [.e 48,.e 46] Xp [11,12,13,14,15,27,24,28]
def RG:List Rf:=[.e 11,.e 12,.e 13,.e 14,.e 15,.e 27,.e 24,.e 28,.c (.int 0),.e 29]
def bl:List En:=[⟨49,.ite .l,[.e 23,.c (.list []),.e 26]⟩,
 ⟨50,.ite .l,[.e 23,.c (.list []),.e 31]⟩,
 ⟨51,.ite .i,[.e 23,.e 21,.c (.int 0)]⟩,
 ⟨52,.or,[.e 23,.e 34]⟩,
 ⟨53,.ite .l,[.e 19,.c (.list []),.e 49]⟩,
 ⟨54,.ite .l,[.e 19,.c (.list []),.e 50]⟩,
 ⟨55,.ite .i,[.e 19,.e 18,.e 51]⟩,
 ⟨56,.or,[.e 19,.e 52]⟩]
def X2:List En:=bl
def jR:List ObE:=[⟨some 24,.owes Np,[.e 11,.e 12,.e 13,.e 14,.e 15,.e 27,.e 24,.e 28,.c (.int 0),.e 29]⟩,
 ⟨some 24,.pre "concat.p0" Gq,[.e 26]⟩,
 ⟨some 24,.pre "concat.p1" G1,[.e 26]⟩,
 ⟨some 24,.pre "posts.p0" GY,EP⟩,
 ⟨some 24,.pre "posts.p1" GW,EP⟩]
def ez:List Rf:=[.e 54,.e 55]
theorem ja:Hj.sees ez (Hj.run Try.prog [(52,J1),(53,GR),(72,LD),(74,EQ),(73,D7)] Ag 3000 20 17)=some ((N5++((Ax Np [.i,.l] RG)++(HG++(X2)))).map En.be,jR.map ObE.be,[]):=by kernel_rfl
theorem cg {T:Tab}(hz0:(S T 0).size≤140737488355328)(hl4:(L T 4).length≤140737488355328)(hl10:(L T 10).length≤140737488355328)(hl16:(L T 16).length≤140737488355328)(g:Ln)(hg:g=Ln.mk (S T 0) (I T 1) (I T 2) (I T 3) (L T 4) (I T 5) (I T 6) (I T 7) (I T 8) (I T 9) (L T 10))(g1:Ln)(z1:g1=Ln.mk (S T 0) (I T 1) (I T 2) (I T 3) (L T 4) (I T 5) (I T 6) (I T 7) (I T 8) (I T 9) (L T 10))(g2:Ln)(z2:g2=Ln.mk (S T 0) (I T 1) (I T 2) (I T 3) (L T 4) (I T 5) (I T 6) (I T 7) (I T 8) (I T 9) (L T 10))(A0:AI T N5):
  (g1=g∧g2=g)∧((I T 18)=if¬AO g=0 then AO g else if (AF (I T 11) (I T 12)=true∧AF (I T 13) (I T 14)=true) then 0 else 2)∧((B T 24)=true→AO g=0∧AF (I T 11) (I T 12)=true∧AF (I T 13) (I T 14)=true∧Bn (I T 15)=true∧((L T 16)).length≤12∧((L T 16)).all Aq=true)∧((L T 27)=AN g++L T 16)∧((B T 24)=true→Cr ((L T 27))∧((L T 27)).length≤37)∧((I T 28)=((L T 27)).length)∧((L T 29)=[]):=by
 have F0:=A0;clear A0
 have hg1:g1=g∧g2=g:=by
  exact⟨by rw[z1,hg],by rw[z2,hg]⟩
 have h18:(I T 18)=if¬AO g=0 then AO g else if (AF (I T 11) (I T 12)=true∧AF (I T 13) (I T 14)=true) then 0 else 2:=by
  obtain⟨e17,e18,-⟩:=F0
  replace e18:I T 18=(Br g1 (L T 17)):=by rw[←show gAt 0 (DK.map (Rf.eval T))=g1 from z1.symm];exact e18
  simp only[AE,AG,zR,zL,zS,uR,AY,zW] at e17
  rw[e18,hg1.1,e17]
  unfold Br
  split
  ·rfl
  ·rename_i hn
   by_cases k:AF (I T 11) (I T 12)=true∧AF (I T 13) (I T 14)=true
   ·rw[if_pos k,if_pos ((fM _ _ _ _).2 k)]
   ·rw[if_neg k,if_neg (fun h=>k ((fM _ _ _ _).1 h))]
 have h24:(B T 24)=true→AO g=0∧AF (I T 11) (I T 12)=true∧AF (I T 13) (I T 14)=true∧Bn (I T 15)=true∧((L T 16)).length≤12∧((L T 16)).all Aq=true:=by
  obtain⟨e17,e18,e19,e20,e21,e22,-,e24,-⟩:=F0
  replace e18:I T 18=(Br g1 (L T 17)):=by rw[←show gAt 0 (DK.map (Rf.eval T))=g1 from z1.symm];exact e18
  replace e21:I T 21=(AT (I T 15) (L T 16)):=e21
  simp only[AE,AG,zN,zR,zL,zS,uR,AY,zW] at*
  intro h
  have h1:=e24.1 h
  have h2:(I T 18)=0:=by clear h18 e18 e17 e21;grind
  have h3:AT (I T 15) ((L T 16))=0:=by rw[←e21];clear h18 e18 e17 e21;grind
  have h4:=O2 h3
  clear e18 e17 e21 h3 hg1
  grind
 have h27:(L T 27)=AN g++L T 16:=by
  obtain⟨-,-,-,-,-,-,-,-,e25,e26,e27,-⟩:=F0
  replace e25:L T 25=(AN g2):=by rw[←show gAt 0 (EP.map (Rf.eval T))=g2 from z2.symm];exact e25
  replace e27:L T 27=(Bs (L T 26)):=e27
  simp only[AE,AG,zR,zL,zS,uR,AY,zW] at e26
  rw[e27,e26]
  refine (gq _ _).trans ?_
  rw[e25,hg1.2]
 have hd:(B T 24)=true→Cr ((L T 27))∧((L T 27)).length≤37:=by
  obtain⟨e17,e18,e19,e20,e21,e22,-,e24,e25,e26,e27,-⟩:=F0
  replace e18:I T 18=(Br g1 (L T 17)):=by rw[←show gAt 0 (DK.map (Rf.eval T))=g1 from z1.symm];exact e18
  replace e21:I T 21=(AT (I T 15) (L T 16)):=e21
  replace e25:L T 25=(AN g2):=by rw[←show gAt 0 (EP.map (Rf.eval T))=g2 from z2.symm];exact e25
  replace e27:L T 27=(Bs (L T 26)):=e27
  simp only[AE,AG,zN,zR,zL,zS,uR,AY,zW] at*
  intro h
  obtain⟨h1,h2,h3,h4,h5,h6⟩:=h24 h
  rw[h27]
  exact U9 h1 h5 h6
 have h28:(I T 28)=((L T 27)).length:=by
  obtain⟨-,-,-,-,-,-,-,-,e25,e26,e27,e28,-⟩:=F0
  replace e25:L T 25=(AN g2):=by rw[←show gAt 0 (EP.map (Rf.eval T))=g2 from z2.symm];exact e25
  replace e27:L T 27=(Bs (L T 26)):=e27
  simp only[AE,AG,zR,zL,zS,uR,AY,zW] at e26 e28
  exact e28
 have h29:(L T 29)=[]:=by
  obtain⟨-,-,-,-,-,-,-,-,-,-,-,-,e29,-⟩:=F0
  simp only[AE,zR,zL] at e29
  exact e29
 exact⟨hg1,h18,h24,h27,hd,h28,h29⟩
theorem fq {T:Tab}(g:Ln)(hg:g=Ln.mk (S T 0) (I T 1) (I T 2) (I T 3) (L T 4) (I T 5) (I T 6) (I T 7) (I T 8) (I T 9) (L T 10))(h24:(B T 24)=true→AO g=0∧AF (I T 11) (I T 12)=true∧AF (I T 13) (I T 14)=true∧Bn (I T 15)=true∧((L T 16)).length≤12∧((L T 16)).all Aq=true)(hd:(B T 24)=true→Cr ((L T 27))∧((L T 27)).length≤37)(h28:(I T 28)=((L T 27)).length)(h29:(L T 29)=[])(hS:AL T (Am (BG 0 Hj.ks) N5))(hB:AX T (HG.map En.be))(hH:AX T ((Ax Np [.i,.l] RG).map En.be)):
  (Np).owes (RG.map (Rf.eval T))∧AL T (hds 30 [.i,.l])∧(0≤I T 30∧I T 30≤((L T 27)).length∧L T 31=Av (I T 11) (I T 12) (I T 13) (I T 14) (I T 15) ((L T 27)) (I T 30).toNat)∧¬B T 33=true:=by
 refine BS (nh:=30) (k:=2) (pcn:=33) (top:=49) (bes:=HG) (bos:=Xp) (nxt:=[.e 48,.e 46]) (inits:=[.c (.int 0),.e 29]) (fv:=[11,12,13,14,15,27,24,28]) (tys:=[.i,.l]) (by kernel_rfl) rfl rfl rfl rfl hS (by kernel_rfl) (by kernel_rfl) hB (Ay hH) (fun s=>0≤(aI s 0)∧(aI s 0)≤((L T 27)).length∧(aL s 1)=Av (I T 11) (I T 12) (I T 13) (I T 14) (I T 15) ((L T 27)) (aI s 0).toNat) (fun s=>(((L T 27)).length - (aI s 0)).toNat) ?_ ?_
 ·show 0≤(0:Int)∧(0:Int)≤((L T 27)).length∧L T 29=Av (I T 11) (I T 12) (I T 13) (I T 14) (I T 15) ((L T 27)) (0:Int).toNat
  clear hS hB hH
  exact⟨by omega,by omega,h29⟩
 ·intro T2 hfv hF inv
  replace inv:0≤I T2 30∧I T2 30≤((L T 27)).length∧L T2 31=Av (I T 11) (I T 12) (I T 13) (I T 14) (I T 15) ((L T 27)) (I T2 30).toNat:=inv
  clear hS hB hH
  replace hF:AI T2 HG:=hF
  obtain⟨F0,hF⟩:=hF.cut
  have F1:=hF;clear hF
  have fv11:I T2 11=I T 11:=fvI (hfv 11 (by decide))
  have fv12:I T2 12=I T 12:=fvI (hfv 12 (by decide))
  have fv13:I T2 13=I T 13:=fvI (hfv 13 (by decide))
  have fv14:I T2 14=I T 14:=fvI (hfv 14 (by decide))
  have fv15:I T2 15=I T 15:=fvI (hfv 15 (by decide))
  have fv27:L T2 27=L T 27:=fvL (hfv 27 (by decide))
  have fv24:B T2 24=B T 24:=fvB (hfv 24 (by decide))
  have fv28:I T2 28=I T 28:=fvI (hfv 28 (by decide))
  clear hfv
  suffices hz:(B T2 42=true→(((L T2 31)).length+((L T2 43)).length)*8≤140737488355328)∧(B T2 33=true→0≤I T2 30∧I T2 30 < ((L T2 27)).length)∧(B T2 33=true→(0≤I T2 48∧I T2 48≤((L T 27)).length∧L T2 46=Av (I T 11) (I T 12) (I T 13) (I T 14) (I T 15) ((L T 27)) (I T2 48).toNat))∧(B T2 33=true→(((L T 27)).length - (I T2 48)).toNat < (((L T 27)).length - (I T2 30)).toNat) from
   let⟨r0,r1,nx,mz⟩:=hz;⟨⟨r0,r1,trivial⟩,fun hp=>⟨nx hp,mz hp⟩⟩
  refine⟨?_,?_,?_,?_⟩
  ·obtain⟨e32,e33,-,e35,e36,e37,e38,e39,-,e41,e42,e43,-⟩:=F0
   replace e39:I T2 39=(if (AF (I T2 11) (I T2 12)=true∧AF (I T2 13) (I T2 14)=true∧AF (I T2 35) (I T2 36)=true)∧0≤I T2 38∧I T2 38≤8388608 then Hi (I T2 11) (I T2 12) (I T2 13) (I T2 14) (I T2 35) (I T2 36) (I T2 38) else 0):=e39
   simp only[AE,AG,zR,w2P,zL,zS,uR,AY,zW] at*
   obtain⟨v1,v2,v3⟩:=inv
   intro hp
   have h:=e33.1 (e42.1 hp).1
   obtain⟨d1,d2⟩:=hd (fv24▸h.1)
   have:=MM (ax:=I T 11) (ay:=I T 12) (bx:=I T 13) (by_:=I T 14) (r:=I T 15) (d:=L T 27) (n:=(I T2 30).toNat)
   rw[v3,e43]
   simp only[List.length_cons,List.length_nil]
   omega
  ·obtain⟨e32,e33,-⟩:=F0
   simp only[AE,AG,zR] at e32 e33
   obtain⟨v1,v2,v3⟩:=inv
   intro hp
   have h:=e32.1 (e33.1 hp).2
   rw[fv27]
   omega
  ·obtain⟨e32,e33,-,e35,e36,e37,e38,e39,-,e41,-,e43,e44,-,e46,-⟩:=F0
   obtain⟨e48,-⟩:=F1
   replace e39:I T2 39=(if (AF (I T2 11) (I T2 12)=true∧AF (I T2 13) (I T2 14)=true∧AF (I T2 35) (I T2 36)=true)∧0≤I T2 38∧I T2 38≤8388608 then Hi (I T2 11) (I T2 12) (I T2 13) (I T2 14) (I T2 35) (I T2 36) (I T2 38) else 0):=e39
   simp only[AE,AG,zR,w2P,zL,zS,uR,AY,zW] at*
   obtain⟨v1,v2,v3⟩:=inv
   intro hp
   have h0:=e33.1 hp
   have h:=e32.1 h0.2
   have h24:=h24 (fv24▸h0.1)
   obtain⟨d1,d2⟩:=hd (fv24▸h0.1)
   obtain⟨k1,k2,k3⟩:=d1 (I T2 30).toNat (by omega)
   have kr:=Bp.1 h24.2.2.2.1
   have e:(I T2 48)=I T2 30+1:=e48 (by omega) (by omega)
   refine⟨by omega,by omega,R6 v1 e v3 ?_⟩
   rw[fv27] at e35 e36 e37
   rw[←e37] at k2 k3
   have x38:(I T2 38)=I T 15+I T2 37:=by rw[e38 (by omega) (by omega),fv15]
   rw[←e35,←e36,←e37,←x38,e46,e44,e43]
   have hb:(B T2 41)=true↔CR (I T 11) (I T 12) (I T 13) (I T 14) (I T2 35) (I T2 36) (I T2 38)=true:=by
    rw[e41,e39,fv11,fv12,fv13,fv14]
    exact gP h24.2.1 h24.2.2.1 (by rw[e35,e36];exact k1) (by omega)
   by_cases k:(B T2 41)=true
   ·rw[if_pos k,if_pos (hb.1 k)]
   ·rw[if_neg k,if_neg (fun h=>k (hb.2 h))]
  ·obtain⟨e32,e33,-⟩:=F0
   obtain⟨e48,-⟩:=F1
   simp only[AE,AG,zR,w2P] at e32 e33 e48
   obtain⟨v1,v2,v3⟩:=inv
   intro hp
   have h0:=e33.1 hp
   have h:=e32.1 h0.2
   obtain⟨d1,d2⟩:=hd (fv24▸h0.1)
   have e:(I T2 48)=I T2 30+1:=e48 (by omega) (by omega)
   omega
theorem jx {T:Tab}(hz0:(S T 0).size≤140737488355328)(hl4:(L T 4).length≤140737488355328)(hl10:(L T 10).length≤140737488355328)(hl16:(L T 16).length≤140737488355328)(g:Ln)(hg:g=Ln.mk (S T 0) (I T 1) (I T 2) (I T 3) (L T 4) (I T 5) (I T 6) (I T 7) (I T 8) (I T 9) (L T 10))(g1:Ln)(z1:g1=Ln.mk (S T 0) (I T 1) (I T 2) (I T 3) (L T 4) (I T 5) (I T 6) (I T 7) (I T 8) (I T 9) (L T 10))(g2:Ln)(z2:g2=Ln.mk (S T 0) (I T 1) (I T 2) (I T 3) (L T 4) (I T 5) (I T 6) (I T 7) (I T 8) (I T 9) (L T 10))(hg1:g1=g∧g2=g)(h18:(I T 18)=if¬AO g=0 then AO g else if (AF (I T 11) (I T 12)=true∧AF (I T 13) (I T 14)=true) then 0 else 2)(h24:(B T 24)=true→AO g=0∧AF (I T 11) (I T 12)=true∧AF (I T 13) (I T 14)=true∧Bn (I T 15)=true∧((L T 16)).length≤12∧((L T 16)).all Aq=true)(h27:(L T 27)=AN g++L T 16)(hd:(B T 24)=true→Cr ((L T 27))∧((L T 27)).length≤37)(h28:(I T 28)=((L T 27)).length)(h29:(L T 29)=[])(inv0:0≤I T 30∧I T 30≤((L T 27)).length∧L T 31=Av (I T 11) (I T 12) (I T 13) (I T 14) (I T 15) ((L T 27)) (I T 30).toNat)(np0:¬B T 33=true)(A0:AI T N5)(B0:AI T HG)(A1:AI T X2):
  ((L T 54)=(E3 g (I T 11) (I T 12) (I T 13) (I T 14) (I T 15) (L T 16)))∧
  ((I T 55)=(Cf g (I T 11) (I T 12) (I T 13) (I T 14) (I T 15) (L T 16)))∧
  (B T 24=true→((L T 26)).length≤4)∧
  (B T 24=true→(∀j:Nat,(FK (L T 26) j 0).length≤1000))∧
  (B T 24=true→BN (L T 4)=true)∧
  (B T 24=true→((L T 4)).length≤12):=by
 have F0:=A0;clear A0
 obtain⟨F1,B0⟩:=B0.cut
 have F2:=B0;clear B0
 have F3:=A1;clear A1
 have hE:(I T 55)=Cf g (I T 11) (I T 12) (I T 13) (I T 14) (I T 15) ((L T 16)):=by
  obtain⟨e17,e18,e19,e20,e21,e22,e23,e24,-⟩:=F0
  obtain⟨-,-,e51,-,-,-,e55,-⟩:=F3
  replace e18:I T 18=(Br g1 (L T 17)):=by rw[←show gAt 0 (DK.map (Rf.eval T))=g1 from z1.symm];exact e18
  replace e21:I T 21=(AT (I T 15) (L T 16)):=e21
  simp only[AE,AG,zN,zR,zL,zS,uR,AY,zW] at*
  unfold Cf A7
  rw[←e21]
  rw[e55,e51]
  clear e21 e18 e17 hd h27 hg1 h24
  grind
 have hb:(B T 24)=true↔I T 55=0:=by
  obtain⟨e17,e18,e19,e20,e21,e22,e23,e24,-⟩:=F0
  obtain⟨-,-,e51,-,-,-,e55,-⟩:=F3
  replace e18:I T 18=(Br g1 (L T 17)):=by rw[←show gAt 0 (DK.map (Rf.eval T))=g1 from z1.symm];exact e18
  replace e21:I T 21=(AT (I T 15) (L T 16)):=e21
  simp only[AE,AG,zN,zR,zL,zS,uR,AY,zW] at*
  clear e21 e18 e17 hd h27 hg1 h24 hE
  grind
 refine⟨?_,?_,?_,?_,?_,?_⟩
 ·obtain⟨e17,e18,e19,e20,e21,e22,e23,e24,e25,e26,e27,e28,-⟩:=F0
  obtain⟨e32,e33,-⟩:=F1
  obtain⟨-,e50,-,-,-,e54,-⟩:=F3
  replace e18:I T 18=(Br g1 (L T 17)):=by rw[←show gAt 0 (DK.map (Rf.eval T))=g1 from z1.symm];exact e18
  replace e21:I T 21=(AT (I T 15) (L T 16)):=e21
  replace e25:L T 25=(AN g2):=by rw[←show gAt 0 (EP.map (Rf.eval T))=g2 from z2.symm];exact e25
  replace e27:L T 27=(Bs (L T 26)):=e27
  simp only[AE,AG,zN,zR,zL,zS,uR,AY,zW] at*
  obtain⟨v1,v2,v3⟩:=inv0
  unfold E3
  rw[←hE]
  by_cases h:(B T 24)=true
  ·have hz:=hb.1 h
   have h2:¬I T 30 < ((L T 27)).length:=fun hlt=>by
    have:=e33.2 ⟨h,e32.2 (by omega)⟩
    simp[np0] at this
   have h1:=e24.1 h
   have n19:¬B T 19=true:=fun k=>by have:=e20.1 h1.1;simp[k] at this
   have n23:¬B T 23=true:=fun k=>by have:=(e23.1 k).2;simp[h1.2] at this
   rw[if_pos hz,e54,if_neg n19,e50,if_neg n23,v3,h27]
   rw[h27] at v2 h2
   rw[show (I T 30).toNat=(AN g++L T 16).length by omega]
  ·have hz:¬I T 55=0:=fun k=>h (hb.2 k)
   rw[if_neg hz,e54,e50]
   clear hE hb hd h27 hg1 h24 v3 h18
   grind
 ·obtain⟨e17,e18,e19,e20,e21,e22,e23,e24,e25,e26,e27,e28,-⟩:=F0
  obtain⟨e32,e33,-⟩:=F1
  obtain⟨-,-,e51,-,-,-,e55,-⟩:=F3
  replace e18:I T 18=(Br g1 (L T 17)):=by rw[←show gAt 0 (DK.map (Rf.eval T))=g1 from z1.symm];exact e18
  replace e21:I T 21=(AT (I T 15) (L T 16)):=e21
  replace e25:L T 25=(AN g2):=by rw[←show gAt 0 (EP.map (Rf.eval T))=g2 from z2.symm];exact e25
  replace e27:L T 27=(Bs (L T 26)):=e27
  simp only[AE,AG,zN,zR,zL,zS,uR,AY,zW] at*
  exact hE
 ·obtain⟨e17,e18,e19,e20,e21,e22,-,e24,e25,e26,-⟩:=F0
  replace e18:I T 18=(Br g1 (L T 17)):=by rw[←show gAt 0 (DK.map (Rf.eval T))=g1 from z1.symm];exact e18
  replace e21:I T 21=(AT (I T 15) (L T 16)):=e21
  replace e25:L T 25=(AN g2):=by rw[←show gAt 0 (EP.map (Rf.eval T))=g2 from z2.symm];exact e25
  simp only[AE,AG,zN,zR,zL,zS,uR,AY,zW] at*
  intro _
  rw[e26]
  simp only[List.length_cons,List.length_nil]
  omega
 ·obtain⟨e17,e18,e19,e20,e21,e22,-,e24,e25,e26,-⟩:=F0
  replace e18:I T 18=(Br g1 (L T 17)):=by rw[←show gAt 0 (DK.map (Rf.eval T))=g1 from z1.symm];exact e18
  replace e21:I T 21=(AT (I T 15) (L T 16)):=e21
  replace e25:L T 25=(AN g2):=by rw[←show gAt 0 (EP.map (Rf.eval T))=g2 from z2.symm];exact e25
  simp only[AE,AG,zN,zR,zL,zS,uR,AY,zW] at*
  intro h j
  obtain⟨h1,h2,h3,h4,h5,h6⟩:=h24 h
  rw[e26]
  have:=(CI h1).2.2.2.1
  have hp:((L T 25)).length≤25:=by rw[e25,hg1.2,show (AN g).length=2*g.hoops.length+1 from J7];omega
  unfold FK
  match j with
  |0=>show ((L T 25)).length≤1000;omega
  |1=>show ((L T 16)).length≤1000;omega
  |j+2=>show 0≤1000;omega
 ·obtain⟨e17,e18,e19,e20,e21,e22,-,e24,-⟩:=F0
  replace e18:I T 18=(Br g1 (L T 17)):=by rw[←show gAt 0 (DK.map (Rf.eval T))=g1 from z1.symm];exact e18
  replace e21:I T 21=(AT (I T 15) (L T 16)):=e21
  simp only[AE,AG,zN,zR,zL,zS,uR,AY,zW] at*
  intro h
  have:=(CI (h24 h).1).2.2.2.2.2.1
  rw[hg] at this
  exact this
 ·obtain⟨e17,e18,e19,e20,e21,e22,-,e24,-⟩:=F0
  replace e18:I T 18=(Br g1 (L T 17)):=by rw[←show gAt 0 (DK.map (Rf.eval T))=g1 from z1.symm];exact e18
  replace e21:I T 21=(AT (I T 15) (L T 16)):=e21
  simp only[AE,AG,zN,zR,zL,zS,uR,AY,zW] at*
  intro h
  have:=(CI (h24 h).1).2.2.2.1
  rw[hg] at this
  exact this
theorem Tu:Ao Try.prog 17 Hj:=by
 refine AZ (l:=[(52,J1),(53,GR),(72,LD),(74,EQ),(73,D7)]) BH (by simp only[List.forall_mem_cons];exact⟨Zt,Tc,dS,Td,bM,fun _ h=>absurd h (by simp)⟩) ja (by kernel_rfl) fun T us hpre hT hul hS hBd hE=>?_
 change us.length=17 at hul
 obtain⟨hz0,-,-,-,⟨hl4,he4⟩,-,-,-,-,-,⟨hl10,he10⟩,-,-,-,-,-,⟨hl16,he16⟩,-⟩:=hBd
 replace hz0:(S T 0).size≤140737488355328:=hz0
 replace hl4:(L T 4).length≤140737488355328:=hl4
 replace hl10:(L T 10).length≤140737488355328:=hl10
 replace hl16:(L T 16).length≤140737488355328:=hl16
 obtain⟨g,hg⟩:∃g:Ln,g=Ln.mk (S T 0) (I T 1) (I T 2) (I T 3) (L T 4) (I T 5) (I T 6) (I T 7) (I T 8) (I T 9) (L T 10):=⟨_,rfl⟩
 have hgu:gAt 0 us=g:=by rw[hg];exact Cu hT hul (by decide)
 have ha11:aI us 11=I T 11:=inI hT hul (by decide)
 have ha12:aI us 12=I T 12:=inI hT hul (by decide)
 have ha13:aI us 13=I T 13:=inI hT hul (by decide)
 have ha14:aI us 14=I T 14:=inI hT hul (by decide)
 have ha15:aI us 15=I T 15:=inI hT hul (by decide)
 have ha16:aL us 16=L T 16:=inL hT hul (by decide)
 clear hpre
 rw[List.map_append,List.map_append,List.map_append] at hE
 have hA:=hE.left
 replace hE:=hE.right
 have hH:=hE.left
 replace hE:=hE.right
 have hB:=hE.left
 replace hE:=hE.right
 obtain⟨A0,hS1⟩:=AV hS (by kernel_rfl) hA
 obtain⟨g1,z1⟩:∃g:Ln,g=Ln.mk (S T 0) (I T 1) (I T 2) (I T 3) (L T 4) (I T 5) (I T 6) (I T 7) (I T 8) (I T 9) (L T 10):=⟨_,rfl⟩
 obtain⟨g2,z2⟩:∃g:Ln,g=Ln.mk (S T 0) (I T 1) (I T 2) (I T 3) (L T 4) (I T 5) (I T 6) (I T 7) (I T 8) (I T 9) (L T 10):=⟨_,rfl⟩
 obtain⟨hg1,h18,h24,h27,hd,h28,h29⟩:=cg hz0 hl4 hl10 hl16 g hg g1 z1 g2 z2 A0
 obtain⟨ow0,hS2,inv0,np0⟩:=fq g hg h24 hd h28 h29 hS1 hB hH
 have hF2:=(AV (hS2.append hS1) (l:=HG) (by kernel_rfl) hB)
 obtain⟨B0,hS⟩:=hF2
 clear hA hB hH hS1 hS2
 obtain⟨A1,hO⟩:=Ap (tys:=[.l,.i]) (rs:=ez) hS (by kernel_rfl) hE
 obtain⟨q0,q1,r0,r1,r2,r3⟩:=jx hz0 hl4 hl10 hl16 g hg g1 z1 g2 z2 hg1 h18 h24 h27 hd h28 h29 inv0 np0 A0 B0 A1
 refine⟨⟨(fun _=>ow0),r0,r1,r2,r3,trivial⟩,hO.trans ?_⟩
 exact (lc (by show U.list (L T 54)= .list (FX us);unfold FX;rw[hgu,ha11,ha12,ha13,ha14,ha15,ha16];exact congrArg U.list q0) (lc (by show U.int (I T 55)= .int (FO us);unfold FO;rw[hgu,ha11,ha12,ha13,ha14,ha15,ha16];exact congrArg U.int q1) rfl))
end Go.Eng
end
