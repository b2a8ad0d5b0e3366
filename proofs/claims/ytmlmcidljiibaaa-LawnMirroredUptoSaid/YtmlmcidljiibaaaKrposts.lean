/-
  A part of the proof: K_rpostsd K_rposts.
-/
import Derived.Test.YtmlmcidljiibaaaE4
import Derived.Test.YtmlmcidljiibaaaE5
set_option linter.unusedVariables false
set_option linter.unusedSimpArgs false
noncomputable section
open Go Go.Eng Go.Proofs
set_option maxHeartbeats 4000000
set_option maxRecDepth 100000
namespace Go.Eng
def Il:List U→List (List U):=fun us=>(AN (gAt 0 us))
def Gz:List U→Prop:=fun us=>BN (aL us 4)=true
def G2:List U→Prop:=fun us=>((aL us 4)).length≤12
def Ef:Ak:={ sh:=[.agg [.str,k64,k64,k64,.list [k64,k64,k64,k64,.bool],k64,k64,k64,k64,k64,.list [k64,k64,k64]]],blks:=[],outs:=[(.s "rposts.0",LQ Il)],c:= .ro 11 [k64,k64,k64],m':=[],pre:=[(.s "rposts.p0",Gz),(.s "rposts.p1",G2)] }
def TW:List En:=[⟨11,.id .l,[.c (.list [])]⟩]
def Ut:List En:=[⟨14,.len,[.e 4]⟩,
 ⟨15,.lt,[.e 12,.e 14]⟩,
 ⟨16,.not,[.e 15]⟩,
 ⟨17,.get .i 0,[.e 4,.e 12]⟩,
 ⟨18,.get .i 1,[.e 4,.e 12]⟩,
 ⟨19,.get .i 2,[.e 4,.e 12]⟩,
 ⟨20,.get .i 3,[.e 4,.e 12]⟩,
 ⟨21,.get .b 4,[.e 4,.e 12]⟩,
 ⟨22,.o2 .tdiv,[.e 19,.c (.int 2)]⟩,
 ⟨23,.w2 .i64 .add,[.e 22,.e 20]⟩,
 ⟨24,.w2 .i64 .sub,[.e 17,.e 23]⟩,
 ⟨25,.w2 .i64 .add,[.e 17,.e 23]⟩,
 ⟨26,.and,[.e 15,.e 21]⟩,
 ⟨27,.w2 .i64 .sub,[.e 18,.e 23]⟩,
 ⟨28,.w2 .i64 .add,[.e 18,.e 23]⟩,
 ⟨29,.and,[.e 15,.n 21]⟩]
def TO:List En:=[⟨30,.ite .i,[.e 21,.e 17,.e 24]⟩,
 ⟨31,.ite .i,[.e 21,.e 27,.e 18]⟩,
 ⟨32,.ite .i,[.e 21,.e 17,.e 25]⟩,
 ⟨33,.ite .i,[.e 21,.e 28,.e 18]⟩,
 ⟨34,.row 2 3 [.i,.i,.i,.i,.i,.i],[.e 30,.e 31,.e 20,.e 32,.e 33,.e 20]⟩,
 ⟨35,.app,[.e 13,.e 34]⟩,
 ⟨36,.w2 .i64 .add,[.e 12,.c (.int 1)]⟩]
def Ik:List En:=TW
def EH:List En:=Ut++(TO)
def QL:List ObE:=[⟨some 15,.fits 24,[.e 13,.e 34]⟩,⟨some 15,.inl,[.e 12,.e 4]⟩]
def IS:Ae:=mkD 12 2 EH 15 [.e 36,.e 35] QL [4]
def Lt:List Rf:=[.e 4,.c (.int 0),.e 11]
def UE:List En:=[⟨37,.row 1 3 [.i,.i,.i],[.e 5,.e 6,.e 7]⟩,
 ⟨38,.app,[.e 13,.e 37]⟩]
def PY:List En:=UE
def ew:List ObE:=[⟨some 16,.fits 24,[.e 13,.e 37]⟩,
 ⟨none,.owes IS,[.e 4,.c (.int 0),.e 11]⟩]
def TU:List Rf:=[.e 38]
theorem nk:Ef.sees TU (Ef.run Try.prog [] Ag 3000 20 69)=some ((Ik++((Ax IS [.i,.l] Lt)++(EH++(PY)))).map En.be,ew.map ObE.be,[]):=by kernel_rfl
theorem WB {T:Tab}(hz0:(S T 0).size≤140737488355328)(hl4:(L T 4).length≤140737488355328)(hl10:(L T 10).length≤140737488355328)(g:Ln)(hg:g=Ln.mk (S T 0) (I T 1) (I T 2) (I T 3) (L T 4) (I T 5) (I T 6) (I T 7) (I T 8) (I T 9) (L T 10))(pre0:BN (L T 4)=true)(pre1:((L T 4)).length≤12)(A0:AI T Ik):
  ((L T 11)=[]):=by
 have F0:=A0;clear A0
 have h11:(L T 11)=[]:=by
  obtain⟨e11,-⟩:=F0
  simp only[AE,zR,zL] at e11
  exact e11
 exact h11
theorem YE {T:Tab}(pre0:BN (L T 4)=true)(pre1:((L T 4)).length≤12)(h11:(L T 11)=[])(hS:AL T (Am (BG 0 Ef.ks) Ik))(hB:AX T (EH.map En.be))(hH:AX T ((Ax IS [.i,.l] Lt).map En.be)):
  (IS).owes (Lt.map (Rf.eval T))∧AL T (hds 12 [.i,.l])∧(0≤I T 12∧I T 12≤((L T 4)).length∧L T 13=(((L T 4)).take (I T 12).toNat).flatMap Bv)∧¬B T 15=true:=by
 refine BS (nh:=12) (k:=2) (pcn:=15) (top:=37) (bes:=EH) (bos:=QL) (nxt:=[.e 36,.e 35]) (inits:=[.c (.int 0),.e 11]) (fv:=[4]) (tys:=[.i,.l]) (by kernel_rfl) rfl rfl rfl rfl hS (by kernel_rfl) (by kernel_rfl) hB (Ay hH) (fun s=>0≤(aI s 0)∧(aI s 0)≤((L T 4)).length∧(aL s 1)=(((L T 4)).take (aI s 0).toNat).flatMap Bv) (fun s=>(((L T 4)).length - (aI s 0)).toNat) ?_ ?_
 ·show 0≤(0:Int)∧(0:Int)≤((L T 4)).length∧L T 11=(((L T 4)).take (0:Int).toNat).flatMap Bv
  clear hS hB hH
  exact⟨by omega,by omega,by rw[h11];rfl⟩
 ·intro T2 hfv hF inv
  replace inv:0≤I T2 12∧I T2 12≤((L T 4)).length∧L T2 13=(((L T 4)).take (I T2 12).toNat).flatMap Bv:=inv
  clear hS hB hH
  replace hF:AI T2 EH:=hF
  obtain⟨F0,hF⟩:=hF.cut
  have F1:=hF;clear hF
  have fv4:L T2 4=L T 4:=fvL (hfv 4 (by decide))
  clear hfv
  suffices hz:(B T2 15=true→(((L T2 13)).length+((L T2 34)).length)*24≤140737488355328)∧(B T2 15=true→0≤I T2 12∧I T2 12 < ((L T2 4)).length)∧(B T2 15=true→(0≤I T2 36∧I T2 36≤((L T 4)).length∧L T2 35=(((L T 4)).take (I T2 36).toNat).flatMap Bv))∧(B T2 15=true→(((L T 4)).length - (I T2 36)).toNat < (((L T 4)).length - (I T2 12)).toNat) from
   let⟨r0,r1,nx,mz⟩:=hz;⟨⟨r0,r1,trivial⟩,fun hp=>⟨nx hp,mz hp⟩⟩
  refine⟨?_,?_,?_,?_⟩
  ·obtain⟨e14,e15,-,e17,e18,e19,e20,e21,e22,e23,e24,e25,-,e27,e28,-⟩:=F0
   obtain⟨e30,e31,e32,e33,e34,-⟩:=F1
   simp only[AE,AG,zR,AS,w2P,zL,zS,uR,AY,zW] at*
   obtain⟨v1,v2,v3⟩:=inv
   intro hp
   rw[v3,e34,DQ,List.length_take]
   simp only[List.length_cons,List.length_nil]
   omega
  ·obtain⟨e14,e15,-⟩:=F0
   simp only[AE,zR,zL] at e14 e15
   obtain⟨v1,v2,v3⟩:=inv
   intro hp
   have h3:=e15.1 hp
   rw[e14,fv4] at h3
   rw[fv4]
   omega
  ·obtain⟨e14,e15,-,e17,e18,e19,e20,e21,e22,e23,e24,e25,-,e27,e28,-⟩:=F0
   obtain⟨e30,e31,e32,e33,e34,e35,e36,-⟩:=F1
   simp only[AE,AG,zR,AS,w2P,zL,zS,uR,AY,zW] at*
   obtain⟨v1,v2,v3⟩:=inv
   intro hp
   have hlt:(I T2 12) < ((L T 4)).length:=by have h3:=e15.1 hp;rw[e14,fv4] at h3;omega
   have e:(I T2 36)=I T2 12+1:=e36 (by omega) (by omega)
   have hh:=Gc.1 pre0 (I T2 12).toNat (by omega)
   rw[←fv4,←e17,←e18,←e19,←e20,JR] at hh
   have d22:(I T2 22)=(I T2 19) / 2:=by rw[e22,if_pos (by omega)]
   have d23:=e23 (by omega) (by omega)
   have d24:=e24 (by omega) (by omega)
   have d25:=e25 (by omega) (by omega)
   have d27:=e27 (by omega) (by omega)
   have d28:=e28 (by omega) (by omega)
   refine⟨by omega,by omega,?_⟩
   rw[e35,v3,e,show ((I T2 12)+1).toNat=(I T2 12).toNat+1 by omega,MR (by omega)]
   refine congrArg _ ?_
   rw[e34,e30,e31,e32,e33]
   show _=IY (AA ((L T 4)) (I T2 12).toNat 0) (AA ((L T 4)) (I T2 12).toNat 1) (AA ((L T 4)) (I T2 12).toNat 2) (AA ((L T 4)) (I T2 12).toNat 3) (Ll ((L T 4)) (I T2 12).toNat 4)
   rw[←fv4,←e17,←e18,←e19,←e20,←e21]
   unfold IY MJ
   cases k:(B T2 21) with
   |true=>simp[d23,d22,d27,d28]
   |false=>simp[d23,d22,d24,d25]
  ·obtain⟨e14,e15,-⟩:=F0
   obtain⟨-,-,-,-,-,-,e36,-⟩:=F1
   simp only[AE,zR,w2P,zL] at e14 e15 e36
   obtain⟨v1,v2,v3⟩:=inv
   intro hp
   have hlt:(I T2 12) < ((L T 4)).length:=by have h3:=e15.1 hp;rw[e14,fv4] at h3;omega
   have e:(I T2 36)=I T2 12+1:=e36 (by omega) (by omega)
   omega
theorem eh {T:Tab}(hz0:(S T 0).size≤140737488355328)(hl4:(L T 4).length≤140737488355328)(hl10:(L T 10).length≤140737488355328)(g:Ln)(hg:g=Ln.mk (S T 0) (I T 1) (I T 2) (I T 3) (L T 4) (I T 5) (I T 6) (I T 7) (I T 8) (I T 9) (L T 10))(pre0:BN (L T 4)=true)(pre1:((L T 4)).length≤12)(h11:(L T 11)=[])(inv0:0≤I T 12∧I T 12≤((L T 4)).length∧L T 13=(((L T 4)).take (I T 12).toNat).flatMap Bv)(np0:¬B T 15=true)(A0:AI T Ik)(B0:AI T EH)(A1:AI T PY):
  ((L T 38)=(AN g))∧
  (B T 16=true→(((L T 13)).length+((L T 37)).length)*24≤140737488355328):=by
 have F0:=A0;clear A0
 obtain⟨F1,B0⟩:=B0.cut
 have F2:=B0;clear B0
 have F3:=A1;clear A1
 have n37:(L T 37).length≤1:=by
  obtain⟨e37,-⟩:=F3
  simp only[AE,AG,zR,zL,zS,uR,AY,zW] at e37
  rw[e37];exact Nat.le_refl _
 refine⟨?_,?_⟩
 ·obtain⟨e14,e15,-⟩:=F1
  obtain⟨e37,e38,-⟩:=F3
  simp only[AE,AG,zR,zL,zS,uR,AY,zW] at*
  obtain⟨w1,w2,w3⟩:=inv0
  have h13:¬I T 12 < ((L T 4)).length:=fun h=>np0 (e15.2 (by rw[e14];exact h))
  rw[e38,w3,List.take_of_length_le (by omega),e37,hg]
  rfl
 ·obtain⟨e14,e15,e16,-⟩:=F1
  obtain⟨e37,-⟩:=F3
  simp only[AE,AG,zR,zL,zS,uR,AY,zW] at*
  obtain⟨w1,w2,w3⟩:=inv0
  intro h
  rw[w3,DQ,List.length_take,e37]
  simp only[List.length_cons,List.length_nil]
  omega
theorem an:Ao Try.prog 69 Ef:=by
 refine AZ (l:=[]) BH (by intro p h;exact absurd h (by simp)) nk (by kernel_rfl) fun T us hpre hT hul hS hBd hE=>?_
 change us.length=11 at hul
 obtain⟨hz0,-,-,-,⟨hl4,he4⟩,-,-,-,-,-,⟨hl10,he10⟩,-⟩:=hBd
 replace hz0:(S T 0).size≤140737488355328:=hz0
 replace hl4:(L T 4).length≤140737488355328:=hl4
 replace hl10:(L T 10).length≤140737488355328:=hl10
 obtain⟨g,hg⟩:∃g:Ln,g=Ln.mk (S T 0) (I T 1) (I T 2) (I T 3) (L T 4) (I T 5) (I T 6) (I T 7) (I T 8) (I T 9) (L T 10):=⟨_,rfl⟩
 have hgu:gAt 0 us=g:=by rw[hg];exact Cu hT hul (by decide)
 have ha4:aL us 4=L T 4:=inL hT hul (by decide)
 have pre0:BN (L T 4)=true:=by
  have h:=hpre (.s "rposts.p0",Gz) (by simp[Ef])
  change Gz us at h
  unfold Gz at h
  simp only[ha4] at h
  exact h
 have pre1:((L T 4)).length≤12:=by
  have h:=hpre (.s "rposts.p1",G2) (by simp[Ef])
  change G2 us at h
  unfold G2 at h
  simp only[ha4] at h
  exact h
 clear hpre
 rw[List.map_append,List.map_append,List.map_append] at hE
 have hA:=hE.left
 replace hE:=hE.right
 have hH:=hE.left
 replace hE:=hE.right
 have hB:=hE.left
 replace hE:=hE.right
 obtain⟨A0,hS1⟩:=AV hS (by kernel_rfl) hA
 have h11:=WB hz0 hl4 hl10 g hg pre0 pre1 A0
 obtain⟨ow0,hS2,inv0,np0⟩:=YE pre0 pre1 h11 hS1 hB hH
 have hF2:=(AV (hS2.append hS1) (l:=EH) (by kernel_rfl) hB)
 obtain⟨B0,hS⟩:=hF2
 clear hA hB hH hS1 hS2
 obtain⟨A1,hO⟩:=Ap (tys:=[.l]) (rs:=TU) hS (by kernel_rfl) hE
 obtain⟨q0,r0⟩:=eh hz0 hl4 hl10 g hg pre0 pre1 h11 inv0 np0 A0 B0 A1
 refine⟨⟨r0,(fun _=>ow0),trivial⟩,hO.trans ?_⟩
 exact (lc (by show U.list (L T 38)= .list (Il us);unfold Il;rw[hgu];exact congrArg U.list q0) rfl)
end Go.Eng
end
