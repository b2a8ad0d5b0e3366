/-
  A part of the proof: K_discsd K_discs.
-/
import Derived.Test.YtmlmcidljiibaaaXQlWays
import Derived.Test.YtmlmcidljiibaaaE3
import Derived.Test.YtmlmcidljiibaaaE4
import Derived.Test.YtmlmcidljiibaaaKrcheck
set_option linter.unusedVariables false
set_option linter.unusedSimpArgs false
noncomputable section
open Go Go.Eng Go.Proofs
set_option maxHeartbeats 4000000
set_option maxRecDepth 100000
namespace Go.Eng
def KA:List U→List (List U):=fun us=>(M8 (gAt 0 us)++(aL us 11))
def Hx:List U→Prop:=fun us=>((aL us 11)).length≤12
def HK:Ak:={ sh:=[.agg [.str,k64,k64,k64,.list [k64,k64,k64,k64,.bool],k64,k64,k64,k64,k64,.list [k64,k64,k64]],.one (.list [k64,k64,k64])],blks:=[],outs:=[(.s "discs.0",LQ KA)],c:= .ro 12 [k64,k64,k64],m':=[],pre:=[(.s "discs.p0",Hx)] }
def D2:List Rf:=[.e 0,.e 1,.e 2,.e 3,.e 4,.e 5,.e 6,.e 7,.e 8,.e 9,.e 10]
def Vt:List En:=[⟨12,.outI "rcheck.0" EB,D2⟩,
 ⟨13,.ne,[.e 12,.c (.int 0)]⟩,
 ⟨14,.outI "rcheck.0" EB,D2⟩,
 ⟨15,.not,[.e 13]⟩,
 ⟨16,.id .l,[.c (.list [])]⟩]
def KL:List En:=Vt
def Wh:List En:=[⟨19,.len,[.e 4]⟩,
 ⟨20,.lt,[.e 17,.e 19]⟩,
 ⟨21,.and,[.e 15,.e 20]⟩,
 ⟨22,.and,[.e 15,.n 20]⟩,
 ⟨23,.get .i 0,[.e 4,.e 17]⟩,
 ⟨24,.get .i 1,[.e 4,.e 17]⟩,
 ⟨25,.get .i 2,[.e 4,.e 17]⟩,
 ⟨26,.get .i 3,[.e 4,.e 17]⟩,
 ⟨27,.get .b 4,[.e 4,.e 17]⟩,
 ⟨28,.o2 .tdiv,[.e 25,.c (.int 2)]⟩,
 ⟨29,.w2 .i64 .add,[.e 28,.e 26]⟩,
 ⟨30,.w2 .i64 .sub,[.e 23,.e 29]⟩,
 ⟨31,.w2 .i64 .add,[.e 23,.e 29]⟩,
 ⟨32,.and,[.e 21,.e 27]⟩,
 ⟨33,.w2 .i64 .sub,[.e 24,.e 29]⟩,
 ⟨34,.w2 .i64 .add,[.e 24,.e 29]⟩]
def V4:List En:=[⟨35,.and,[.e 21,.n 27]⟩,
 ⟨36,.ite .i,[.e 27,.e 23,.e 30]⟩,
 ⟨37,.ite .i,[.e 27,.e 33,.e 24]⟩,
 ⟨38,.ite .i,[.e 27,.e 23,.e 31]⟩,
 ⟨39,.ite .i,[.e 27,.e 34,.e 24]⟩,
 ⟨40,.row 2 3 [.i,.i,.i,.i,.i,.i],[.e 36,.e 37,.e 26,.e 38,.e 39,.e 26]⟩,
 ⟨41,.app,[.e 18,.e 40]⟩,
 ⟨42,.w2 .i64 .add,[.e 17,.c (.int 1)]⟩]
def E0:List En:=Wh++(V4)
def R7:List ObE:=[⟨some 21,.fits 24,[.e 18,.e 40]⟩,⟨some 21,.inl,[.e 17,.e 4]⟩]
def J8:Ae:=mkD 17 2 E0 21 [.e 42,.e 41] R7 [4,15]
def Mj:List Rf:=[.e 4,.e 15,.c (.int 0),.e 16]
def V6:List En:=[⟨43,.row 1 3 [.i,.i,.i],[.e 5,.e 6,.e 7]⟩,
 ⟨44,.app,[.e 18,.e 43]⟩,
 ⟨45,.ite .l,[.e 13,.c (.list []),.e 44]⟩,
 ⟨46,.ite .l,[.e 13,.c (.list []),.e 43]⟩,
 ⟨47,.ite .i,[.e 13,.e 14,.c (.int 0)]⟩,
 ⟨48,.or,[.e 13,.e 15]⟩,
 ⟨49,.app,[.e 45,.e 11]⟩]
def RZ:List En:=V6
def fz:List ObE:=[⟨none,.fits 24,[.e 45,.e 11]⟩,
 ⟨some 22,.fits 24,[.e 18,.e 43]⟩,
 ⟨some 15,.owes J8,[.e 4,.e 15,.c (.int 0),.e 16]⟩]
def Xk:List Rf:=[.e 49]
theorem ft:HK.sees Xk (HK.run Try.prog [(16,Ci)] Ag 3000 20 23)=some ((KL++((Ax J8 [.i,.l] Mj)++(E0++(RZ)))).map En.be,fz.map ObE.be,[]):=by kernel_rfl
theorem YS {T:Tab}(hz0:(S T 0).size≤140737488355328)(hl4:(L T 4).length≤140737488355328)(hl10:(L T 10).length≤140737488355328)(hl11:(L T 11).length≤140737488355328)(g:Ln)(hg:g=Ln.mk (S T 0) (I T 1) (I T 2) (I T 3) (L T 4) (I T 5) (I T 6) (I T 7) (I T 8) (I T 9) (L T 10))(pre0:((L T 11)).length≤12)(g1:Ln)(z1:g1=Ln.mk (S T 0) (I T 1) (I T 2) (I T 3) (L T 4) (I T 5) (I T 6) (I T 7) (I T 8) (I T 9) (L T 10))(A0:AI T KL):
  (g1=g)∧((L T 16)=[])∧((B T 15)=true→BN ((L T 4))=true∧((L T 4)).length≤12):=by
 have F0:=A0;clear A0
 have hgg:g1=g:=by
  rw[z1,hg]
 have h11:(L T 16)=[]:=by
  obtain⟨-,-,-,-,e16,-⟩:=F0
  simp only[AE,zR,zL] at e16
  exact e16
 have hpre:(B T 15)=true→BN ((L T 4))=true∧((L T 4)).length≤12:=by
  obtain⟨e12,e13,-,e15,-⟩:=F0
  replace e12:I T 12=(AO g1):=by rw[←show gAt 0 (D2.map (Rf.eval T))=g1 from z1.symm];exact e12
  simp only[AE,AG,zR] at e13 e15
  intro h
  rw[hgg] at e12
  have h1:AO g=0:=by
   rw[←e12]
   apply Classical.byContradiction
   intro hn
   have:=e13.2 hn
   have:=e15.1 h
   simp_all
  have h2:=CI h1
  rw[hg] at h2
  exact⟨h2.2.2.2.2.2.1,h2.2.2.2.1⟩
 exact⟨hgg,h11,hpre⟩
theorem bZ {T:Tab}(hl4:(L T 4).length≤140737488355328)(h11:(L T 16)=[])(hpre:(B T 15)=true→BN ((L T 4))=true∧((L T 4)).length≤12)(hS:AL T (Am (BG 0 HK.ks) KL))(hB:AX T (E0.map En.be))(hH:AX T ((Ax J8 [.i,.l] Mj).map En.be)):
  (J8).owes (Mj.map (Rf.eval T))∧AL T (hds 17 [.i,.l])∧(0≤I T 17∧I T 17≤((L T 4)).length∧L T 18=(((L T 4)).take (I T 17).toNat).flatMap Bv)∧¬B T 21=true:=by
 refine BS (nh:=17) (k:=2) (pcn:=21) (top:=43) (bes:=E0) (bos:=R7) (nxt:=[.e 42,.e 41]) (inits:=[.c (.int 0),.e 16]) (fv:=[4,15]) (tys:=[.i,.l]) (by kernel_rfl) rfl rfl rfl rfl hS (by kernel_rfl) (by kernel_rfl) hB (Ay hH) (fun s=>0≤(aI s 0)∧(aI s 0)≤((L T 4)).length∧(aL s 1)=(((L T 4)).take (aI s 0).toNat).flatMap Bv) (fun s=>(((L T 4)).length - (aI s 0)).toNat) ?_ ?_
 ·show 0≤(0:Int)∧(0:Int)≤((L T 4)).length∧L T 16=(((L T 4)).take (0:Int).toNat).flatMap Bv
  clear hS hB hH
  exact⟨by omega,by omega,by rw[h11];rfl⟩
 ·intro T2 hfv hF inv
  replace inv:0≤I T2 17∧I T2 17≤((L T 4)).length∧L T2 18=(((L T 4)).take (I T2 17).toNat).flatMap Bv:=inv
  clear hS hB hH
  replace hF:AI T2 E0:=hF
  obtain⟨F0,hF⟩:=hF.cut
  have F1:=hF;clear hF
  have fv4:L T2 4=L T 4:=fvL (hfv 4 (by decide))
  have fv15:B T2 15=B T 15:=fvB (hfv 15 (by decide))
  clear hfv
  suffices hz:(B T2 21=true→(((L T2 18)).length+((L T2 40)).length)*24≤140737488355328)∧(B T2 21=true→0≤I T2 17∧I T2 17 < ((L T2 4)).length)∧(B T2 21=true→(0≤I T2 42∧I T2 42≤((L T 4)).length∧L T2 41=(((L T 4)).take (I T2 42).toNat).flatMap Bv))∧(B T2 21=true→(((L T 4)).length - (I T2 42)).toNat < (((L T 4)).length - (I T2 17)).toNat) from
   let⟨r0,r1,nx,mz⟩:=hz;⟨⟨r0,r1,trivial⟩,fun hp=>⟨nx hp,mz hp⟩⟩
  refine⟨?_,?_,?_,?_⟩
  ·obtain⟨e19,e20,e21,-,e23,e24,e25,e26,e27,e28,e29,e30,e31,-,e33,e34,-⟩:=F0
   obtain⟨-,e36,e37,e38,e39,e40,-⟩:=F1
   simp only[AE,AG,zR,AS,w2P,zL,zS,uR,AY,zW] at*
   obtain⟨v1,v2,v3⟩:=inv
   intro hp
   have p1:=(hpre (fv15▸(e21.1 hp).1)).2
   rw[v3,e40,DQ,List.length_take]
   simp only[List.length_cons,List.length_nil]
   omega
  ·obtain⟨e19,e20,e21,-⟩:=F0
   simp only[AE,AG,zR,zL] at e19 e20 e21
   obtain⟨v1,v2,v3⟩:=inv
   intro hp
   have p1:=(hpre (fv15▸(e21.1 hp).1)).2
   have h3:=e20.1 (e21.1 hp).2
   rw[e19,fv4] at h3
   rw[fv4]
   omega
  ·obtain⟨e19,e20,e21,-,e23,e24,e25,e26,e27,e28,e29,e30,e31,-,e33,e34,-⟩:=F0
   obtain⟨-,e36,e37,e38,e39,e40,e41,e42,-⟩:=F1
   simp only[AE,AG,zR,AS,w2P,zL,zS,uR,AY,zW] at*
   obtain⟨v1,v2,v3⟩:=inv
   intro hp
   have hlt:(I T2 17) < ((L T 4)).length:=by have h3:=e20.1 (e21.1 hp).2;rw[e19,fv4] at h3;omega
   have e:(I T2 42)=I T2 17+1:=e42 (by omega) (by omega)
   have hh:=Gc.1 (hpre (fv15▸(e21.1 hp).1)).1 (I T2 17).toNat (by omega)
   rw[←fv4,←e23,←e24,←e25,←e26,JR] at hh
   have d28:(I T2 28)=(I T2 25) / 2:=by rw[e28,if_pos (by omega)]
   have d29:=e29 (by omega) (by omega)
   have d30:=e30 (by omega) (by omega)
   have d31:=e31 (by omega) (by omega)
   have d33:=e33 (by omega) (by omega)
   have d34:=e34 (by omega) (by omega)
   refine⟨by omega,by omega,?_⟩
   rw[e41,v3,e,show ((I T2 17)+1).toNat=(I T2 17).toNat+1 by omega,MR (by omega)]
   refine congrArg _ ?_
   rw[e40,e36,e37,e38,e39]
   show _=IY (AA ((L T 4)) (I T2 17).toNat 0) (AA ((L T 4)) (I T2 17).toNat 1) (AA ((L T 4)) (I T2 17).toNat 2) (AA ((L T 4)) (I T2 17).toNat 3) (Ll ((L T 4)) (I T2 17).toNat 4)
   rw[←fv4,←e23,←e24,←e25,←e26,←e27]
   unfold IY MJ
   cases k:(B T2 27) with
   |true=>simp[d29,d28,d33,d34]
   |false=>simp[d29,d28,d30,d31]
  ·obtain⟨e19,e20,e21,-⟩:=F0
   obtain⟨-,-,-,-,-,-,-,e42,-⟩:=F1
   simp only[AE,AG,zR,w2P,zL] at*
   obtain⟨v1,v2,v3⟩:=inv
   intro hp
   have hlt:(I T2 17) < ((L T 4)).length:=by have h3:=e20.1 (e21.1 hp).2;rw[e19,fv4] at h3;omega
   have e:(I T2 42)=I T2 17+1:=e42 (by omega) (by omega)
   omega
theorem iE {T:Tab}(hz0:(S T 0).size≤140737488355328)(hl4:(L T 4).length≤140737488355328)(hl10:(L T 10).length≤140737488355328)(hl11:(L T 11).length≤140737488355328)(g:Ln)(hg:g=Ln.mk (S T 0) (I T 1) (I T 2) (I T 3) (L T 4) (I T 5) (I T 6) (I T 7) (I T 8) (I T 9) (L T 10))(pre0:((L T 11)).length≤12)(g1:Ln)(z1:g1=Ln.mk (S T 0) (I T 1) (I T 2) (I T 3) (L T 4) (I T 5) (I T 6) (I T 7) (I T 8) (I T 9) (L T 10))(hgg:g1=g)(h11:(L T 16)=[])(hpre:(B T 15)=true→BN ((L T 4))=true∧((L T 4)).length≤12)(inv0:0≤I T 17∧I T 17≤((L T 4)).length∧L T 18=(((L T 4)).take (I T 17).toNat).flatMap Bv)(np0:¬B T 21=true)(A0:AI T KL)(B0:AI T E0)(A1:AI T RZ):
  ((L T 49)=(M8 g++L T 11))∧
  ((((L T 45)).length+((L T 11)).length)*24≤140737488355328)∧
  (B T 22=true→(((L T 18)).length+((L T 43)).length)*24≤140737488355328):=by
 have F0:=A0;clear A0
 obtain⟨F1,B0⟩:=B0.cut
 have F2:=B0;clear B0
 have F3:=A1;clear A1
 have n43:(L T 43).length≤1:=by
  obtain⟨e43,-⟩:=F3
  simp only[AE,AG,zR,zL,zS,uR,AY,zW] at e43
  rw[e43];exact Nat.le_refl _
 have h15:(B T 13)=false→B T 15=true:=by
  obtain⟨-,-,-,e15,-⟩:=F0
  simp only[AE,AG,zR] at e15
  intro h
  clear hpre hgg hg inv0
  grind
 have hc:(B T 13)=false↔AO g=0:=by
  obtain⟨e12,e13,-⟩:=F0
  replace e12:I T 12=(AO g1):=by rw[←show gAt 0 (D2.map (Rf.eval T))=g1 from z1.symm];exact e12
  simp only[AE,zR] at e13
  rw[hgg] at e12
  rw[←e12]
  clear hgg hpre
  grind
 have h18:(B T 15)=true→L T 18=(((L T 4)).take (I T 17).toNat).flatMap Bv∧((L T 18)).length≤24:=by
  obtain⟨e12,e13,-,e15,-⟩:=F0
  replace e12:I T 12=(AO g1):=by rw[←show gAt 0 (D2.map (Rf.eval T))=g1 from z1.symm];exact e12
  simp only[AE,AG,zR] at e13 e15
  intro h
  obtain⟨w1,w2,w3⟩:=inv0
  have:=(hpre h).2
  refine⟨w3,?_⟩
  rw[w3,DQ,List.length_take]
  omega
 refine⟨?_,?_,?_⟩
 ·obtain⟨e12,e13,-,e15,-⟩:=F0
  obtain⟨e19,e20,e21,-⟩:=F1
  obtain⟨e43,e44,e45,-,-,-,e49,-⟩:=F3
  replace e12:I T 12=(AO g1):=by rw[←show gAt 0 (D2.map (Rf.eval T))=g1 from z1.symm];exact e12
  simp only[AE,AG,zR,zL,zS,uR,AY,zW] at*
  obtain⟨w1,w2,w3⟩:=inv0
  unfold M8
  rw[e49,e45]
  cases k:(B T 13) with
  |true=>rw[if_pos rfl,if_neg (fun h=>by have:=hc.2 h;simp[k] at this)]
  |false=>
   have h15:=h15 k
   have hn:¬I T 17 < ((L T 4)).length:=fun h=>by
    have z:=e21.2 ⟨h15,e20.2 (by rw[e19];exact h)⟩
    simp[np0] at z
   rw[if_neg (by simp),if_pos (hc.1 k),e44,w3,List.take_of_length_le (by omega),e43,hg]
   rfl
 ·obtain⟨e12,e13,-⟩:=F0
  obtain⟨e43,e44,e45,-⟩:=F3
  replace e12:I T 12=(AO g1):=by rw[←show gAt 0 (D2.map (Rf.eval T))=g1 from z1.symm];exact e12
  simp only[AE,AG,zR,zL,zS,uR,AY,zW] at*
  rw[e45]
  cases k:(B T 13) with
  |true=>simp;omega
  |false=>
   have h15:=h15 k
   have:=(h18 h15).2
   rw[if_neg (by simp),e44,List.length_append,e43]
   simp only[List.length_cons,List.length_nil]
   omega
 ·obtain⟨e12,e13,-,e15,-⟩:=F0
  obtain⟨e19,e20,-,e22,-⟩:=F1
  obtain⟨e43,-⟩:=F3
  replace e12:I T 12=(AO g1):=by rw[←show gAt 0 (D2.map (Rf.eval T))=g1 from z1.symm];exact e12
  simp only[AE,AG,zN,zR,zL,zS,uR,AY,zW] at*
  intro h
  have:=(h18 (e22.1 h).1).2
  rw[e43]
  simp only[List.length_cons,List.length_nil]
  omega
theorem eV:Ao Try.prog 23 HK:=by
 refine AZ (l:=[(16,Ci)]) BH (by simp only[List.forall_mem_cons];exact⟨Rv,fun _ h=>absurd h (by simp)⟩) ft (by kernel_rfl) fun T us hpre hT hul hS hBd hE=>?_
 change us.length=12 at hul
 obtain⟨hz0,-,-,-,⟨hl4,he4⟩,-,-,-,-,-,⟨hl10,he10⟩,⟨hl11,he11⟩,-⟩:=hBd
 replace hz0:(S T 0).size≤140737488355328:=hz0
 replace hl4:(L T 4).length≤140737488355328:=hl4
 replace hl10:(L T 10).length≤140737488355328:=hl10
 replace hl11:(L T 11).length≤140737488355328:=hl11
 obtain⟨g,hg⟩:∃g:Ln,g=Ln.mk (S T 0) (I T 1) (I T 2) (I T 3) (L T 4) (I T 5) (I T 6) (I T 7) (I T 8) (I T 9) (L T 10):=⟨_,rfl⟩
 have hgu:gAt 0 us=g:=by rw[hg];exact Cu hT hul (by decide)
 have ha11:aL us 11=L T 11:=inL hT hul (by decide)
 have pre0:((L T 11)).length≤12:=by
  have h:=hpre (.s "discs.p0",Hx) (by simp[HK])
  change Hx us at h
  unfold Hx at h
  simp only[ha11] at h
  exact h
 clear hpre
 rw[List.map_append,List.map_append,List.map_append] at hE
 have hA:=hE.left
 replace hE:=hE.right
 have hH:=hE.left
 replace hE:=hE.right
 have hB:=hE.left
 replace hE:=hE.right
 obtain⟨A0,hS1⟩:=AV hS (by kernel_rfl) hA
 obtain⟨g1,z1⟩:∃g:Ln,g=Ln.mk (S T 0) (I T 1) (I T 2) (I T 3) (L T 4) (I T 5) (I T 6) (I T 7) (I T 8) (I T 9) (L T 10):=⟨_,rfl⟩
 obtain⟨hgg,h11,hpre⟩:=YS hz0 hl4 hl10 hl11 g hg pre0 g1 z1 A0
 obtain⟨ow0,hS2,inv0,np0⟩:=bZ hl4 h11 hpre hS1 hB hH
 have hF2:=(AV (hS2.append hS1) (l:=E0) (by kernel_rfl) hB)
 obtain⟨B0,hS⟩:=hF2
 clear hA hB hH hS1 hS2
 obtain⟨A1,hO⟩:=Ap (tys:=[.l]) (rs:=Xk) hS (by kernel_rfl) hE
 obtain⟨q0,r0,r1⟩:=iE hz0 hl4 hl10 hl11 g hg pre0 g1 z1 hgg h11 hpre inv0 np0 A0 B0 A1
 refine⟨⟨(fun _=>r0),r1,(fun _=>ow0),trivial⟩,hO.trans ?_⟩
 exact (lc (by show U.list (L T 49)= .list (KA us);unfold KA;rw[hgu,ha11];exact congrArg U.list q0) rfl)
end Go.Eng
end
