/-
  A part of the proof: K_reventsd K_revents.
-/
import Derived.Test.YtcinpabggaepfaaE3
import Derived.Test.YtcinpabggaepfaaE4
set_option linter.unusedVariables false
set_option linter.unusedSimpArgs false
section
open Go Go.Eng Go.Proofs
set_option maxHeartbeats 4000000
set_option maxRecDepth 100000
namespace Go.Eng
def o_revents_0:List U→Bool:=fun us=>(eventsS (gAt 0 us) (aL us 26))
def t_revents:Tmpl:={ sh:=[.agg [k64,k64,k64,k64,k64,k64,k64,k64,k64,.bool,.bool,.bool,.bool,.bool,.bool,.bool,.bool,k64,k64,.bool,.bool,.bool,k64,k64,k64,k64],.one (.list [k64,k64])],blks:=[],outs:=[(.s "revents.0",outUB o_revents_0)],c:= .b 27,m':=[],pre:=[] }
noncomputable def b_revents_0_0:List En:=[⟨28,.len,[.e 26]⟩,
 ⟨29,.lt,[.e 27,.e 28]⟩,
 ⟨30,.not,[.e 29]⟩,
 ⟨31,.get .i 0,[.e 26,.e 27]⟩,
 ⟨32,.get .i 1,[.e 26,.e 27]⟩,
 ⟨33,.lt,[.e 31,.c (.int 1)]⟩,
 ⟨34,.and,[.e 29,.n 33]⟩,
 ⟨35,.lt,[.c (.int 5),.e 31]⟩,
 ⟨36,.or,[.e 33,.e 35]⟩,
 ⟨37,.and,[.e 29,.e 36]⟩,
 ⟨38,.and,[.e 29,.n 36]⟩,
 ⟨39,.eq,[.e 31,.c (.int 5)]⟩,
 ⟨40,.and,[.e 38,.e 39]⟩,
 ⟨41,.w2 .i64 .add,[.e 27,.c (.int 1)]⟩,
 ⟨42,.len,[.e 26]⟩,
 ⟨43,.lt,[.e 41,.e 42]⟩]
noncomputable def b_revents_0_1:List En:=[⟨44,.and,[.e 40,.e 43]⟩,
 ⟨45,.and,[.e 40,.n 43]⟩,
 ⟨46,.and,[.e 38,.n 39]⟩,
 ⟨47,.le,[.c (.int 0),.e 32]⟩,
 ⟨48,.and,[.e 46,.e 47]⟩,
 ⟨49,.lt,[.e 32,.c (.int 4)]⟩,
 ⟨50,.and,[.e 47,.e 49]⟩,
 ⟨51,.and,[.e 46,.e 50]⟩,
 ⟨52,.pick .b,[.e 32,.e 9,.e 10,.e 11,.e 12]⟩,
 ⟨53,.and,[.e 50,.e 52]⟩,
 ⟨54,.and,[.e 46,.e 53]⟩,
 ⟨55,.eq,[.e 31,.c (.int 1)]⟩,
 ⟨56,.and,[.e 54,.e 55]⟩,
 ⟨57,.eq,[.e 32,.e 3]⟩,
 ⟨58,.and,[.e 55,.e 57]⟩,
 ⟨59,.or,[.n 53,.e 58]⟩]
noncomputable def b_revents_0_2:List En:=[⟨60,.and,[.e 46,.e 59]⟩,
 ⟨61,.and,[.e 46,.n 59]⟩,
 ⟨62,.or,[.e 44,.e 60]⟩,
 ⟨63,.or,[.e 37,.e 62]⟩,
 ⟨64,.or,[.e 45,.e 61]⟩,
 ⟨65,.w2 .i64 .add,[.e 27,.c (.int 1)]⟩]
noncomputable def a_revents_0:List En:=[]
noncomputable def b_revents_0:List En:=b_revents_0_0++(b_revents_0_1++(b_revents_0_2))
noncomputable def u_revents_0:List ObE:=[⟨some 51,.inr,[.e 32,.c (.int 4)]⟩,⟨some 29,.inl,[.e 27,.e 26]⟩]
noncomputable def d_revents_0:LoopD:=mkD 27 1 b_revents_0 64 [.e 65] u_revents_0 [3,9,10,11,12,26]
def f_revents_0:List Rf:=[.e 3,.e 9,.e 10,.e 11,.e 12,.e 26,.c (.int 0)]
noncomputable def a_revents_1_0:List En:=[⟨66,.ite .b,[.e 63,.c (.bool false),.c (.bool true)]⟩,
 ⟨67,.or,[.e 63,.e 30]⟩]
noncomputable def a_revents_1:List En:=a_revents_1_0
noncomputable def q_revents:List ObE:=[⟨none,.owes d_revents_0,[.e 3,.e 9,.e 10,.e 11,.e 12,.e 26,.c (.int 0)]⟩]
def r_revents:List Rf:=[.e 66]
end Go.Eng
end
section
open Go Go.Eng Go.Proofs
set_option maxHeartbeats 4000000
set_option maxRecDepth 100000
namespace Go.Eng
theorem s_revents:t_revents.sees r_revents (t_revents.run Try.prog [] hints 3000 20 38)=some ((a_revents_0++((hdsE d_revents_0 [.i] f_revents_0)++(b_revents_0++(a_revents_1)))).map En.be,q_revents.map ObE.be,[]):=by kernel_rfl
theorem l_revents_0 {T:Tab}(hl26:(L T 26).length≤140737488355328)(hS:Strong T (chkE (envOf 0 t_revents.ks) a_revents_0))(hB:AllB T (b_revents_0.map En.be))(hH:AllB T ((hdsE d_revents_0 [.i] f_revents_0).map En.be)):
  (d_revents_0).owes (f_revents_0.map (Rf.eval T))∧Strong T (hds 27 [.i])∧(0≤I T 27∧I T 27≤((L T 26)).length∧okEvs (Gm.mk (I T 0) (I T 1) (I T 2) (I T 3) (I T 4) (I T 5) (I T 6) (I T 7) (I T 8) (B T 9) (B T 10) (B T 11) (B T 12) (B T 13) (B T 14) (B T 15) (B T 16) (I T 17) (I T 18) (B T 19) (B T 20) (B T 21) (I T 22) (I T 23) (I T 24) (I T 25)) (L T 26) (I T 27))∧¬B T 64=true:=by
 refine loop_ok (nh:=27) (k:=1) (pcn:=64) (top:=66) (bes:=b_revents_0) (bos:=u_revents_0) (nxt:=[.e 65]) (inits:=[.c (.int 0)]) (fv:=[3,9,10,11,12,26]) (tys:=[.i]) (by kernel_rfl) rfl rfl rfl rfl hS (by kernel_rfl) (by kernel_rfl) hB (heads_ok hH) (fun s=>0≤(aI s 0)∧(aI s 0)≤((L T 26)).length∧okEvs (Gm.mk (I T 0) (I T 1) (I T 2) (I T 3) (I T 4) (I T 5) (I T 6) (I T 7) (I T 8) (B T 9) (B T 10) (B T 11) (B T 12) (B T 13) (B T 14) (B T 15) (B T 16) (I T 17) (I T 18) (B T 19) (B T 20) (B T 21) (I T 22) (I T 23) (I T 24) (I T 25)) (L T 26) (aI s 0)) (fun s=>(((L T 26)).length - (aI s 0)).toNat) ?_ ?_
 ·show 0≤(0:Int)∧(0:Int)≤((L T 26)).length∧okEvs (Gm.mk (I T 0) (I T 1) (I T 2) (I T 3) (I T 4) (I T 5) (I T 6) (I T 7) (I T 8) (B T 9) (B T 10) (B T 11) (B T 12) (B T 13) (B T 14) (B T 15) (B T 16) (I T 17) (I T 18) (B T 19) (B T 20) (B T 21) (I T 22) (I T 23) (I T 24) (I T 25)) (L T 26) (0:Int)
  clear hS hB hH
  exact⟨by omega,by omega,fun j hj=>absurd hj (by omega)⟩
 ·intro T2 hfv hF inv
  replace inv:0≤I T2 27∧I T2 27≤((L T 26)).length∧okEvs (Gm.mk (I T 0) (I T 1) (I T 2) (I T 3) (I T 4) (I T 5) (I T 6) (I T 7) (I T 8) (B T 9) (B T 10) (B T 11) (B T 12) (B T 13) (B T 14) (B T 15) (B T 16) (I T 17) (I T 18) (B T 19) (B T 20) (B T 21) (I T 22) (I T 23) (I T 24) (I T 25)) (L T 26) (I T2 27):=inv
  clear hS hB hH
  replace hF:Facts T2 b_revents_0:=hF
  obtain⟨F0,hF⟩:=hF.cut
  obtain⟨F1,hF⟩:=hF.cut
  have F2:=hF;clear hF
  have fv3:I T2 3=I T 3:=fvI (hfv 3 (by decide))
  have fv9:B T2 9=B T 9:=fvB (hfv 9 (by decide))
  have fv10:B T2 10=B T 10:=fvB (hfv 10 (by decide))
  have fv11:B T2 11=B T 11:=fvB (hfv 11 (by decide))
  have fv12:B T2 12=B T 12:=fvB (hfv 12 (by decide))
  have fv26:L T2 26=L T 26:=fvL (hfv 26 (by decide))
  clear hfv
  suffices hz:(B T2 51=true→0≤I T2 32∧I T2 32 < 4)∧(B T2 29=true→0≤I T2 27∧I T2 27 < ((L T2 26)).length)∧(B T2 64=true→(0≤I T2 65∧I T2 65≤((L T 26)).length∧okEvs (Gm.mk (I T 0) (I T 1) (I T 2) (I T 3) (I T 4) (I T 5) (I T 6) (I T 7) (I T 8) (B T 9) (B T 10) (B T 11) (B T 12) (B T 13) (B T 14) (B T 15) (B T 16) (I T 17) (I T 18) (B T 19) (B T 20) (B T 21) (I T 22) (I T 23) (I T 24) (I T 25)) (L T 26) (I T2 65)))∧(B T2 64=true→(((L T 26)).length - (I T2 65)).toNat < (((L T 26)).length - (I T2 27)).toNat) from
   let⟨r0,r1,nx,mz⟩:=hz;⟨⟨r0,r1,trivial⟩,fun hp=>⟨nx hp,mz hp⟩⟩
  refine⟨?_,?_,?_,?_⟩
  ·obtain⟨e28,e29,-,e31,e32,e33,-,e35,e36,-,e38,e39,-⟩:=F0
   obtain⟨-,-,e46,e47,-,e49,e50,e51,-⟩:=F1
   simp only[fact,bR_e,zN,zR,zL] at e28 e29 e31 e32 e33 e35 e36 e38 e39 e46 e47 e49 e50 e51
   grind (splits:=100)
  ·obtain⟨e28,e29,-⟩:=F0
   simp only[fact,zR,zL] at e28 e29
   grind (splits:=100)
  ·obtain⟨e28,e29,-,e31,e32,e33,-,e35,e36,-,e38,e39,e40,e41,e42,e43,-⟩:=F0
   obtain⟨-,e45,e46,e47,-,e49,e50,-,e52,e53,-,e55,-,e57,e58,e59,-⟩:=F1
   obtain⟨-,e61,-,-,e64,e65,-⟩:=F2
   simp only[fact,bR_e,zN,zR,pickI,pickB,and_false,or_false,w2P,zL] at e28 e29 e31 e32 e33 e35 e36 e38 e39 e40 e41 e42 e43 e45 e46 e47 e49 e50 e52 e53 e55 e57 e58 e59 e61 e64 e65
   intro hp
   obtain⟨v1,v2,v3⟩:=inv
   have e:(I T2 65)=I T2 27+1:=by grind (splits:=60)
   refine⟨by omega,by grind (splits:=60),fun j hj=>?_⟩
   by_cases hj2:(j:Int) < I T2 27
   ·exact v3 j hj2
   ·obtain rfl:j=(I T2 27).toNat:=by omega
    simp only[okEv,inS,oneB,Bool.and_eq_true,Bool.or_eq_true,decide_eq_true_eq]
    clear v3
    grind (splits:=100)
  ·obtain⟨e28,e29,-,e31,e32,e33,-,e35,e36,-,e38,e39,e40,e41,e42,e43,-⟩:=F0
   obtain⟨-,e45,e46,e47,-,e49,e50,-,e52,e53,-,e55,-,e57,e58,e59,-⟩:=F1
   obtain⟨-,e61,-,-,e64,e65,-⟩:=F2
   simp only[fact,bR_e,zN,zR,pickI,pickB,and_false,or_false,w2P,zL] at e28 e29 e31 e32 e33 e35 e36 e38 e39 e40 e41 e42 e43 e45 e46 e47 e49 e50 e52 e53 e55 e57 e58 e59 e61 e64 e65
   grind (splits:=100)
theorem m_revents {T:Tab}(hl26:(L T 26).length≤140737488355328)(g:Gm)(hg:g=Gm.mk (I T 0) (I T 1) (I T 2) (I T 3) (I T 4) (I T 5) (I T 6) (I T 7) (I T 8) (B T 9) (B T 10) (B T 11) (B T 12) (B T 13) (B T 14) (B T 15) (B T 16) (I T 17) (I T 18) (B T 19) (B T 20) (B T 21) (I T 22) (I T 23) (I T 24) (I T 25))(inv0:0≤I T 27∧I T 27≤((L T 26)).length∧okEvs (Gm.mk (I T 0) (I T 1) (I T 2) (I T 3) (I T 4) (I T 5) (I T 6) (I T 7) (I T 8) (B T 9) (B T 10) (B T 11) (B T 12) (B T 13) (B T 14) (B T 15) (B T 16) (I T 17) (I T 18) (B T 19) (B T 20) (B T 21) (I T 22) (I T 23) (I T 24) (I T 25)) (L T 26) (I T 27))(np0:¬B T 64=true)(B0:Facts T b_revents_0)(A1:Facts T a_revents_1):
  ((B T 66)=(eventsS g (L T 26))):=by
 obtain⟨F0,B0⟩:=B0.cut
 obtain⟨F1,B0⟩:=B0.cut
 have F2:=B0;clear B0
 have F3:=A1;clear A1
 ·obtain⟨e28,e29,-,e31,e32,e33,-,e35,e36,e37,e38,e39,e40,e41,e42,e43,-⟩:=F0
  obtain⟨e44,e45,e46,e47,-,e49,e50,-,e52,e53,-,e55,-,e57,e58,e59,-⟩:=F1
  obtain⟨e60,e61,e62,e63,e64,-⟩:=F2
  obtain⟨e66,-⟩:=F3
  simp only[fact,bR_e,zN,zC,zR,pickI,pickB,and_false,or_false,w2P,zL] at e28 e29 e31 e32 e33 e35 e36 e37 e38 e39 e40 e41 e42 e43 e44 e45 e46 e47 e49 e50 e52 e53 e55 e57 e58 e59 e60 e61 e62 e63 e64 e66
  subst hg
  refine Bool.eq_iff_iff.2 (Iff.trans ?_ eventsS_iff.symm)
  obtain⟨v1,v2,v3⟩:=inv0
  constructor
  ·intro h
   have e:(I T 27)=(L T 26).length:=by grind (splits:=60)
   rw[←e];exact v3
  ·intro h
   have h2:=h (I T 27).toNat
   simp only[okEv,inS,oneB,Bool.and_eq_true,Bool.or_eq_true,decide_eq_true_eq] at h2
   grind (splits:=60)
theorem ok_revents:TmplOK Try.prog 38 t_revents:=by
 refine tmpl_sees (l:=[]) mixed (by intro p h;exact absurd h (by simp)) s_revents (by kernel_rfl) fun T us hpre hT hul hS hBd hE=>?_
 change us.length=27 at hul
 obtain⟨⟨lo0,hi0⟩,⟨lo1,hi1⟩,⟨lo2,hi2⟩,⟨lo3,hi3⟩,⟨lo4,hi4⟩,⟨lo5,hi5⟩,⟨lo6,hi6⟩,⟨lo7,hi7⟩,⟨lo8,hi8⟩,⟨lo17,hi17⟩,⟨lo18,hi18⟩,⟨lo22,hi22⟩,⟨lo23,hi23⟩,⟨lo24,hi24⟩,⟨lo25,hi25⟩,⟨hl26,he26⟩,-⟩:=hBd
 clear lo0 hi0
 clear lo1 hi1
 clear lo2 hi2
 clear lo3 hi3
 clear lo4 hi4
 clear lo5 hi5
 clear lo6 hi6
 clear lo7 hi7
 clear lo8 hi8
 clear lo17 hi17
 clear lo18 hi18
 clear lo22 hi22
 clear lo23 hi23
 clear lo24 hi24
 clear lo25 hi25
 replace hl26:(L T 26).length≤140737488355328:=hl26
 obtain⟨g,hg⟩:∃g:Gm,g=Gm.mk (I T 0) (I T 1) (I T 2) (I T 3) (I T 4) (I T 5) (I T 6) (I T 7) (I T 8) (B T 9) (B T 10) (B T 11) (B T 12) (B T 13) (B T 14) (B T 15) (B T 16) (I T 17) (I T 18) (B T 19) (B T 20) (B T 21) (I T 22) (I T 23) (I T 24) (I T 25):=⟨_,rfl⟩
 have hgu:gAt 0 us=g:=by rw[hg];exact gAt_in hT hul (by decide)
 have ha26:aL us 26=L T 26:=inL hT hul (by decide)
 clear hpre
 rw[List.map_append,List.map_append,List.map_append] at hE
 have hA:=hE.left
 replace hE:=hE.right
 have hH:=hE.left
 replace hE:=hE.right
 have hB:=hE.left
 replace hE:=hE.right
 obtain⟨A0,hS1⟩:=chkE_ok hS (by kernel_rfl) hA
 obtain⟨ow0,hS2,inv0,np0⟩:=l_revents_0 hl26 hS1 hB hH
 have hF2:=(chkE_ok (hS2.append hS1) (l:=b_revents_0) (by kernel_rfl) hB)
 obtain⟨B0,hS⟩:=hF2
 clear hA hB hH hS1 hS2
 obtain⟨A1,hO⟩:=chkO_ok (tys:=[.b]) (rs:=r_revents) hS (by kernel_rfl) hE
 have q0:=m_revents hl26 g hg inv0 np0 B0 A1
 refine⟨⟨(fun _=>ow0),trivial⟩,hO.trans ?_⟩
 exact (lc (by show U.bool (B T 66)= .bool (o_revents_0 us);unfold o_revents_0;rw[hgu,ha26];exact congrArg U.bool q0) rfl)
end Go.Eng
end
