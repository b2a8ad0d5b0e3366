/-
  A part of the proof: K_geventsd K_gevents.
-/
import Derived.Test.YtcinpabggaepfaaE3
import Derived.Test.YtcinpabggaepfaaE4
set_option linter.unusedVariables false
set_option linter.unusedSimpArgs false
section
open Go Go.Eng Go.Proofs
set_option maxHeartbeats 4000000
set_option maxRecDepth 100000
namespace Go.Eng
def o_gevents_0:List U→Bool:=fun us=>(eventsS (gAt 1 us) (aL us 0))
def t_gevents:Tmpl:={ sh:=[.ptr 0 0,.one (.list [k64,k64])],blks:=[([k64,k64,k64,k64,k64,k64,k64,k64,k64,.bool,.bool,.bool,.bool,.bool,.bool,.bool,.bool,k64,k64,.bool,.bool,.bool,k64,k64,k64,k64,k64,k64,k64,.bool,.bool,.bool],73)],outs:=[(.s "gevents.0",outUB o_gevents_0)],c:= .b 33,m':=[.cells [(aI64 1),(aI64 2),(aI64 3),(aI64 4),(aI64 5),(aI64 6),(aI64 7),(aI64 8),(aI64 9),.b 10,.b 11,.b 12,.b 13,.b 14,.b 15,.b 16,.b 17,(aI64 18),(aI64 19),.b 20,.b 21,.b 22,(aI64 23),(aI64 24),(aI64 25),(aI64 26),(aI64 27),(aI64 28),(aI64 29),.b 30,.b 31,.b 32] 73],pre:=[] }
noncomputable def a_gevents_0_0:List En:=[⟨33,.len,[.e 0]⟩]
noncomputable def b_gevents_0_0:List En:=[⟨35,.lt,[.e 34,.e 33]⟩,
 ⟨36,.not,[.e 35]⟩,
 ⟨37,.get .i 0,[.e 0,.e 34]⟩,
 ⟨38,.get .i 1,[.e 0,.e 34]⟩,
 ⟨39,.eq,[.e 37,.c (.int 5)]⟩,
 ⟨40,.and,[.e 35,.e 39]⟩,
 ⟨41,.len,[.e 0]⟩,
 ⟨42,.o2 .sub,[.e 41,.c (.int 1)]⟩,
 ⟨43,.lt,[.e 34,.e 42]⟩,
 ⟨44,.and,[.e 40,.e 43]⟩,
 ⟨45,.and,[.e 40,.n 43]⟩,
 ⟨46,.and,[.e 35,.n 39]⟩,
 ⟨47,.lt,[.e 37,.c (.int 1)]⟩,
 ⟨48,.and,[.e 46,.n 47]⟩,
 ⟨49,.lt,[.c (.int 4),.e 37]⟩,
 ⟨50,.or,[.e 47,.e 49]⟩]
noncomputable def b_gevents_0_1:List En:=[⟨51,.and,[.e 46,.n 50]⟩,
 ⟨52,.and,[.e 46,.n 50]⟩,
 ⟨53,.le,[.c (.int 0),.e 38]⟩,
 ⟨54,.and,[.e 52,.e 53]⟩,
 ⟨55,.lt,[.e 38,.c (.int 4)]⟩,
 ⟨56,.and,[.e 53,.e 55]⟩,
 ⟨57,.and,[.e 52,.e 56]⟩,
 ⟨58,.pick .b,[.e 38,.e 10,.e 11,.e 12,.e 13]⟩,
 ⟨59,.and,[.e 56,.e 58]⟩,
 ⟨60,.or,[.e 50,.n 59]⟩,
 ⟨61,.and,[.e 46,.n 60]⟩,
 ⟨62,.eq,[.e 37,.c (.int 1)]⟩,
 ⟨63,.and,[.e 61,.e 62]⟩,
 ⟨64,.and,[.e 61,.e 62]⟩,
 ⟨65,.eq,[.e 38,.e 4]⟩,
 ⟨66,.and,[.e 62,.e 65]⟩]
noncomputable def b_gevents_0_2:List En:=[⟨67,.or,[.e 60,.e 66]⟩,
 ⟨68,.and,[.e 46,.e 67]⟩,
 ⟨69,.and,[.e 46,.n 67]⟩,
 ⟨70,.or,[.e 44,.e 68]⟩,
 ⟨71,.or,[.e 45,.e 69]⟩,
 ⟨72,.w2 .i64 .add,[.e 34,.c (.int 1)]⟩]
noncomputable def a_gevents_0:List En:=a_gevents_0_0
noncomputable def b_gevents_0:List En:=b_gevents_0_0++(b_gevents_0_1++(b_gevents_0_2))
noncomputable def u_gevents_0:List ObE:=[⟨some 57,.inr,[.e 38,.c (.int 4)]⟩,⟨some 35,.inl,[.e 34,.e 0]⟩]
noncomputable def d_gevents_0:LoopD:=mkD 34 1 b_gevents_0 71 [.e 72] u_gevents_0 [4,10,11,12,13,0,33]
def f_gevents_0:List Rf:=[.e 4,.e 10,.e 11,.e 12,.e 13,.e 0,.e 33,.c (.int 0)]
noncomputable def a_gevents_1_0:List En:=[⟨73,.ite .b,[.e 70,.c (.bool false),.c (.bool true)]⟩,
 ⟨74,.or,[.e 70,.e 36]⟩]
noncomputable def a_gevents_1:List En:=a_gevents_1_0
noncomputable def q_gevents:List ObE:=[⟨none,.owes d_gevents_0,[.e 4,.e 10,.e 11,.e 12,.e 13,.e 0,.e 33,.c (.int 0)]⟩]
def r_gevents:List Rf:=[.e 73]
end Go.Eng
end
section
open Go Go.Eng Go.Proofs
set_option maxHeartbeats 4000000
set_option maxRecDepth 100000
namespace Go.Eng
theorem s_gevents:t_gevents.sees r_gevents (t_gevents.run Try.prog [] hints 3000 20 50)=some ((a_gevents_0++((hdsE d_gevents_0 [.i] f_gevents_0)++(b_gevents_0++(a_gevents_1)))).map En.be,q_gevents.map ObE.be,[]):=by kernel_rfl
theorem pf_gevents_0 {T:Tab}(hl0:(L T 0).length≤140737488355328)(g:Gm)(hg:g=Gm.mk (I T 1) (I T 2) (I T 3) (I T 4) (I T 5) (I T 6) (I T 7) (I T 8) (I T 9) (B T 10) (B T 11) (B T 12) (B T 13) (B T 14) (B T 15) (B T 16) (B T 17) (I T 18) (I T 19) (B T 20) (B T 21) (B T 22) (I T 23) (I T 24) (I T 25) (I T 26))(A0:Facts T a_gevents_0):
  ((I T 33)=((L T 0)).length):=by
 have F0:=A0;clear A0
 have h33:(I T 33)=((L T 0)).length:=by
  obtain⟨e33,-⟩:=F0
  simp only[fact,zR,zL] at e33
  exact e33
 exact h33
theorem l_gevents_0 {T:Tab}(hl0:(L T 0).length≤140737488355328)(h33:(I T 33)=((L T 0)).length)(hS:Strong T (chkE (envOf 0 t_gevents.ks) a_gevents_0))(hB:AllB T (b_gevents_0.map En.be))(hH:AllB T ((hdsE d_gevents_0 [.i] f_gevents_0).map En.be)):
  (d_gevents_0).owes (f_gevents_0.map (Rf.eval T))∧Strong T (hds 34 [.i])∧(0≤I T 34∧I T 34≤((L T 0)).length∧okEvs (Gm.mk (I T 1) (I T 2) (I T 3) (I T 4) (I T 5) (I T 6) (I T 7) (I T 8) (I T 9) (B T 10) (B T 11) (B T 12) (B T 13) (B T 14) (B T 15) (B T 16) (B T 17) (I T 18) (I T 19) (B T 20) (B T 21) (B T 22) (I T 23) (I T 24) (I T 25) (I T 26)) (L T 0) (I T 34))∧¬B T 71=true:=by
 refine loop_ok (nh:=34) (k:=1) (pcn:=71) (top:=73) (bes:=b_gevents_0) (bos:=u_gevents_0) (nxt:=[.e 72]) (inits:=[.c (.int 0)]) (fv:=[4,10,11,12,13,0,33]) (tys:=[.i]) (by kernel_rfl) rfl rfl rfl rfl hS (by kernel_rfl) (by kernel_rfl) hB (heads_ok hH) (fun s=>0≤(aI s 0)∧(aI s 0)≤((L T 0)).length∧okEvs (Gm.mk (I T 1) (I T 2) (I T 3) (I T 4) (I T 5) (I T 6) (I T 7) (I T 8) (I T 9) (B T 10) (B T 11) (B T 12) (B T 13) (B T 14) (B T 15) (B T 16) (B T 17) (I T 18) (I T 19) (B T 20) (B T 21) (B T 22) (I T 23) (I T 24) (I T 25) (I T 26)) (L T 0) (aI s 0)) (fun s=>(((L T 0)).length - (aI s 0)).toNat) ?_ ?_
 ·show 0≤(0:Int)∧(0:Int)≤((L T 0)).length∧okEvs (Gm.mk (I T 1) (I T 2) (I T 3) (I T 4) (I T 5) (I T 6) (I T 7) (I T 8) (I T 9) (B T 10) (B T 11) (B T 12) (B T 13) (B T 14) (B T 15) (B T 16) (B T 17) (I T 18) (I T 19) (B T 20) (B T 21) (B T 22) (I T 23) (I T 24) (I T 25) (I T 26)) (L T 0) (0:Int)
  clear hS hB hH
  exact⟨by omega,by omega,fun j hj=>absurd hj (by omega)⟩
 ·intro T2 hfv hF inv
  replace inv:0≤I T2 34∧I T2 34≤((L T 0)).length∧okEvs (Gm.mk (I T 1) (I T 2) (I T 3) (I T 4) (I T 5) (I T 6) (I T 7) (I T 8) (I T 9) (B T 10) (B T 11) (B T 12) (B T 13) (B T 14) (B T 15) (B T 16) (B T 17) (I T 18) (I T 19) (B T 20) (B T 21) (B T 22) (I T 23) (I T 24) (I T 25) (I T 26)) (L T 0) (I T2 34):=inv
  clear hS hB hH
  replace hF:Facts T2 b_gevents_0:=hF
  obtain⟨F0,hF⟩:=hF.cut
  obtain⟨F1,hF⟩:=hF.cut
  have F2:=hF;clear hF
  have fv4:I T2 4=I T 4:=fvI (hfv 4 (by decide))
  have fv10:B T2 10=B T 10:=fvB (hfv 10 (by decide))
  have fv11:B T2 11=B T 11:=fvB (hfv 11 (by decide))
  have fv12:B T2 12=B T 12:=fvB (hfv 12 (by decide))
  have fv13:B T2 13=B T 13:=fvB (hfv 13 (by decide))
  have fv0:L T2 0=L T 0:=fvL (hfv 0 (by decide))
  have fv33:I T2 33=I T 33:=fvI (hfv 33 (by decide))
  clear hfv
  suffices hz:(B T2 57=true→0≤I T2 38∧I T2 38 < 4)∧(B T2 35=true→0≤I T2 34∧I T2 34 < ((L T2 0)).length)∧(B T2 71=true→(0≤I T2 72∧I T2 72≤((L T 0)).length∧okEvs (Gm.mk (I T 1) (I T 2) (I T 3) (I T 4) (I T 5) (I T 6) (I T 7) (I T 8) (I T 9) (B T 10) (B T 11) (B T 12) (B T 13) (B T 14) (B T 15) (B T 16) (B T 17) (I T 18) (I T 19) (B T 20) (B T 21) (B T 22) (I T 23) (I T 24) (I T 25) (I T 26)) (L T 0) (I T2 72)))∧(B T2 71=true→(((L T 0)).length - (I T2 72)).toNat < (((L T 0)).length - (I T2 34)).toNat) from
   let⟨r0,r1,nx,mz⟩:=hz;⟨⟨r0,r1,trivial⟩,fun hp=>⟨nx hp,mz hp⟩⟩
  refine⟨?_,?_,?_,?_⟩
  ·obtain⟨e35,-,e37,e38,e39,-,-,-,-,-,-,e46,e47,-,e49,e50,-⟩:=F0
   obtain⟨-,e52,e53,-,e55,e56,e57,-⟩:=F1
   simp only[fact,bR_e,zN,zR,zL] at e35 e37 e38 e39 e46 e47 e49 e50 e52 e53 e55 e56 e57
   grind (splits:=100)
  ·obtain⟨e35,-⟩:=F0
   simp only[fact,zR] at e35
   grind (splits:=100)
  ·obtain⟨e35,-,e37,e38,e39,e40,e41,e42,e43,-,e45,e46,e47,-,e49,e50,-⟩:=F0
   obtain⟨-,-,e53,-,e55,e56,-,e58,e59,e60,-,e62,-,-,e65,e66,-⟩:=F1
   obtain⟨e67,-,e69,-,e71,e72,-⟩:=F2
   simp only[fact,bR_e,zN,zR,pickI,pickB,and_false,or_false,op2P,w2P,zL] at e35 e37 e38 e39 e40 e41 e42 e43 e45 e46 e47 e49 e50 e53 e55 e56 e58 e59 e60 e62 e65 e66 e67 e69 e71 e72
   intro hp
   obtain⟨v1,v2,v3⟩:=inv
   have e:(I T2 72)=I T2 34+1:=by grind (splits:=60)
   refine⟨by omega,by grind (splits:=60),fun j hj=>?_⟩
   by_cases hj2:(j:Int) < I T2 34
   ·exact v3 j hj2
   ·obtain rfl:j=(I T2 34).toNat:=by omega
    simp only[okEv,inS,oneB,Bool.and_eq_true,Bool.or_eq_true,decide_eq_true_eq]
    clear v3
    grind (splits:=100)
  ·obtain⟨e35,-,e37,e38,e39,e40,e41,e42,e43,-,e45,e46,e47,-,e49,e50,-⟩:=F0
   obtain⟨-,-,e53,-,e55,e56,-,e58,e59,e60,-,e62,-,-,e65,e66,-⟩:=F1
   obtain⟨e67,-,e69,-,e71,e72,-⟩:=F2
   simp only[fact,bR_e,zN,zR,pickI,pickB,and_false,or_false,op2P,w2P,zL] at e35 e37 e38 e39 e40 e41 e42 e43 e45 e46 e47 e49 e50 e53 e55 e56 e58 e59 e60 e62 e65 e66 e67 e69 e71 e72
   grind (splits:=100)
theorem m_gevents {T:Tab}(hl0:(L T 0).length≤140737488355328)(g:Gm)(hg:g=Gm.mk (I T 1) (I T 2) (I T 3) (I T 4) (I T 5) (I T 6) (I T 7) (I T 8) (I T 9) (B T 10) (B T 11) (B T 12) (B T 13) (B T 14) (B T 15) (B T 16) (B T 17) (I T 18) (I T 19) (B T 20) (B T 21) (B T 22) (I T 23) (I T 24) (I T 25) (I T 26))(h33:(I T 33)=((L T 0)).length)(inv0:0≤I T 34∧I T 34≤((L T 0)).length∧okEvs (Gm.mk (I T 1) (I T 2) (I T 3) (I T 4) (I T 5) (I T 6) (I T 7) (I T 8) (I T 9) (B T 10) (B T 11) (B T 12) (B T 13) (B T 14) (B T 15) (B T 16) (B T 17) (I T 18) (I T 19) (B T 20) (B T 21) (B T 22) (I T 23) (I T 24) (I T 25) (I T 26)) (L T 0) (I T 34))(np0:¬B T 71=true)(A0:Facts T a_gevents_0)(B0:Facts T b_gevents_0)(A1:Facts T a_gevents_1):
  ((B T 73)=(eventsS g (L T 0))):=by
 have F0:=A0;clear A0
 obtain⟨F1,B0⟩:=B0.cut
 obtain⟨F2,B0⟩:=B0.cut
 have F3:=B0;clear B0
 have F4:=A1;clear A1
 ·obtain⟨e33,-⟩:=F0
  obtain⟨e35,-,e37,e38,e39,e40,e41,e42,e43,e44,e45,e46,e47,-,e49,e50,-⟩:=F1
  obtain⟨-,-,e53,-,e55,e56,-,e58,e59,e60,-,e62,-,-,e65,e66,-⟩:=F2
  obtain⟨e67,e68,e69,e70,e71,-⟩:=F3
  obtain⟨e73,-⟩:=F4
  simp only[fact,bR_e,zN,zC,zR,pickI,pickB,and_false,or_false,op2P,zL] at e33 e35 e37 e38 e39 e40 e41 e42 e43 e44 e45 e46 e47 e49 e50 e53 e55 e56 e58 e59 e60 e62 e65 e66 e67 e68 e69 e70 e71 e73
  subst hg
  refine Bool.eq_iff_iff.2 (Iff.trans ?_ eventsS_iff.symm)
  obtain⟨v1,v2,v3⟩:=inv0
  constructor
  ·intro h
   have e:(I T 34)=(L T 0).length:=by grind (splits:=60)
   rw[←e];exact v3
  ·intro h
   have h2:=h (I T 34).toNat
   simp only[okEv,inS,oneB,Bool.and_eq_true,Bool.or_eq_true,decide_eq_true_eq] at h2
   grind (splits:=60)
theorem ok_gevents:TmplOK Try.prog 50 t_gevents:=by
 refine tmpl_sees (l:=[]) mixed (by intro p h;exact absurd h (by simp)) s_gevents (by kernel_rfl) fun T us hpre hT hul hS hBd hE=>?_
 change us.length=33 at hul
 obtain⟨⟨hl0,he0⟩,⟨lo1,hi1⟩,⟨lo2,hi2⟩,⟨lo3,hi3⟩,⟨lo4,hi4⟩,⟨lo5,hi5⟩,⟨lo6,hi6⟩,⟨lo7,hi7⟩,⟨lo8,hi8⟩,⟨lo9,hi9⟩,⟨lo18,hi18⟩,⟨lo19,hi19⟩,⟨lo23,hi23⟩,⟨lo24,hi24⟩,⟨lo25,hi25⟩,⟨lo26,hi26⟩,⟨lo27,hi27⟩,⟨lo28,hi28⟩,⟨lo29,hi29⟩,-⟩:=hBd
 replace hl0:(L T 0).length≤140737488355328:=hl0
 clear lo1 hi1
 clear lo2 hi2
 clear lo3 hi3
 clear lo4 hi4
 clear lo5 hi5
 clear lo6 hi6
 clear lo7 hi7
 clear lo8 hi8
 clear lo9 hi9
 clear lo18 hi18
 clear lo19 hi19
 clear lo23 hi23
 clear lo24 hi24
 clear lo25 hi25
 clear lo26 hi26
 clear lo27 hi27
 clear lo28 hi28
 clear lo29 hi29
 obtain⟨g,hg⟩:∃g:Gm,g=Gm.mk (I T 1) (I T 2) (I T 3) (I T 4) (I T 5) (I T 6) (I T 7) (I T 8) (I T 9) (B T 10) (B T 11) (B T 12) (B T 13) (B T 14) (B T 15) (B T 16) (B T 17) (I T 18) (I T 19) (B T 20) (B T 21) (B T 22) (I T 23) (I T 24) (I T 25) (I T 26):=⟨_,rfl⟩
 have hgu:gAt 1 us=g:=by rw[hg];exact gAt_in hT hul (by decide)
 have ha0:aL us 0=L T 0:=inL hT hul (by decide)
 clear hpre
 rw[List.map_append,List.map_append,List.map_append] at hE
 have hA:=hE.left
 replace hE:=hE.right
 have hH:=hE.left
 replace hE:=hE.right
 have hB:=hE.left
 replace hE:=hE.right
 obtain⟨A0,hS1⟩:=chkE_ok hS (by kernel_rfl) hA
 have h33:=pf_gevents_0 hl0 g hg A0
 obtain⟨ow0,hS2,inv0,np0⟩:=l_gevents_0 hl0 h33 hS1 hB hH
 have hF2:=(chkE_ok (hS2.append hS1) (l:=b_gevents_0) (by kernel_rfl) hB)
 obtain⟨B0,hS⟩:=hF2
 clear hA hB hH hS1 hS2
 obtain⟨A1,hO⟩:=chkO_ok (tys:=[.b]) (rs:=r_gevents) hS (by kernel_rfl) hE
 have q0:=m_gevents hl0 g hg h33 inv0 np0 A0 B0 A1
 refine⟨⟨(fun _=>ow0),trivial⟩,hO.trans ?_⟩
 exact (lc (by show U.bool (B T 73)= .bool (o_gevents_0 us);unfold o_gevents_0;rw[hgu,ha0];exact congrArg U.bool q0) rfl)
end Go.Eng
end
