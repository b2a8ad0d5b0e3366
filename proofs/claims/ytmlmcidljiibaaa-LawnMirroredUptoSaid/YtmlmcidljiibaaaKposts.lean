/-
  A part of the proof: K_postsd K_posts.
-/
import Derived.Test.YtmlmcidljiibaaaE4
import Derived.Test.YtmlmcidljiibaaaE5
set_option linter.unusedVariables false
set_option linter.unusedSimpArgs false
noncomputable section
open Go Go.Eng Go.Proofs
set_option maxHeartbeats 4000000
set_option maxRecDepth 100000
namespace Go.Eng
def Ht:List U→List (List U):=fun us=>(AN (gAt 0 us))
def GY:List U→Prop:=fun us=>BN (aL us 4)=true
def GW:List U→Prop:=fun us=>((aL us 4)).length≤12
def EQ:Ak:={ sh:=[.agg [.str,k64,k64,k64,.list [k64,k64,k64,k64,.bool],k64,k64,k64,k64,k64,.list [k64,k64,k64]]],blks:=[],outs:=[(.s "posts.0",LQ Ht)],c:= .ro 11 [k64,k64,k64],m':=[],pre:=[(.s "posts.p0",GY),(.s "posts.p1",GW)] }
def W3:List En:=[⟨11,.len,[.e 4]⟩,
 ⟨12,.id .l,[.c (.list [])]⟩]
def W0:List En:=[⟨15,.lt,[.e 13,.e 11]⟩,
 ⟨16,.not,[.e 15]⟩,
 ⟨17,.get .i 0,[.e 4,.e 13]⟩,
 ⟨18,.get .i 1,[.e 4,.e 13]⟩,
 ⟨19,.get .i 2,[.e 4,.e 13]⟩,
 ⟨20,.get .i 3,[.e 4,.e 13]⟩,
 ⟨21,.get .b 4,[.e 4,.e 13]⟩,
 ⟨22,.o2 .tdiv,[.e 19,.c (.int 2)]⟩,
 ⟨23,.w2 .i64 .add,[.e 22,.e 20]⟩,
 ⟨24,.and,[.e 15,.e 21]⟩,
 ⟨25,.and,[.e 15,.n 21]⟩,
 ⟨26,.ite .i,[.e 21,.c (.int 0),.e 23]⟩,
 ⟨27,.ite .i,[.e 21,.e 23,.c (.int 0)]⟩,
 ⟨28,.w2 .i64 .sub,[.e 17,.e 26]⟩,
 ⟨29,.w2 .i64 .sub,[.e 18,.e 27]⟩,
 ⟨30,.w2 .i64 .add,[.e 17,.e 26]⟩]
def Ww:List En:=[⟨31,.w2 .i64 .add,[.e 18,.e 27]⟩,
 ⟨32,.row 2 3 [.i,.i,.i,.i,.i,.i],[.e 28,.e 29,.e 20,.e 30,.e 31,.e 20]⟩,
 ⟨33,.app,[.e 14,.e 32]⟩,
 ⟨34,.w2 .i64 .add,[.e 13,.c (.int 1)]⟩]
def Jr:List En:=W3
def Er:List En:=W0++(Ww)
def Rq:List ObE:=[⟨some 15,.fits 24,[.e 14,.e 32]⟩,⟨some 15,.inl,[.e 13,.e 4]⟩]
def J0:Ae:=mkD 13 2 Er 15 [.e 34,.e 33] Rq [4,11]
def NL:List Rf:=[.e 4,.e 11,.c (.int 0),.e 12]
def Vi:List En:=[⟨35,.row 1 3 [.i,.i,.i],[.e 5,.e 6,.e 7]⟩,
 ⟨36,.app,[.e 14,.e 35]⟩]
def SU:List En:=Vi
def iC:List ObE:=[⟨some 16,.fits 24,[.e 14,.e 35]⟩,
 ⟨none,.owes J0,[.e 4,.e 11,.c (.int 0),.e 12]⟩]
def XT:List Rf:=[.e 36]
theorem gx:EQ.sees XT (EQ.run Try.prog [] Ag 3000 20 74)=some ((Jr++((Ax J0 [.i,.l] NL)++(Er++(SU)))).map En.be,iC.map ObE.be,[]):=by kernel_rfl
theorem YC {T:Tab}(hz0:(S T 0).size≤140737488355328)(hl4:(L T 4).length≤140737488355328)(hl10:(L T 10).length≤140737488355328)(g:Ln)(hg:g=Ln.mk (S T 0) (I T 1) (I T 2) (I T 3) (L T 4) (I T 5) (I T 6) (I T 7) (I T 8) (I T 9) (L T 10))(pre0:BN (L T 4)=true)(pre1:((L T 4)).length≤12)(A0:AI T Jr):
  ((I T 11)=((L T 4)).length)∧((L T 12)=[]):=by
 have F0:=A0;clear A0
 have h11:(I T 11)=((L T 4)).length:=by
  obtain⟨e11,-⟩:=F0
  simp only[AE,zR,zL] at e11
  exact e11
 have h12:(L T 12)=[]:=by
  obtain⟨-,e12,-⟩:=F0
  simp only[AE,zR,zL] at e12
  exact e12
 exact⟨h11,h12⟩
theorem cO {T:Tab}(pre0:BN (L T 4)=true)(pre1:((L T 4)).length≤12)(h11:(I T 11)=((L T 4)).length)(h12:(L T 12)=[])(hS:AL T (Am (BG 0 EQ.ks) Jr))(hB:AX T (Er.map En.be))(hH:AX T ((Ax J0 [.i,.l] NL).map En.be)):
  (J0).owes (NL.map (Rf.eval T))∧AL T (hds 13 [.i,.l])∧(0≤I T 13∧I T 13≤((L T 4)).length∧L T 14=(((L T 4)).take (I T 13).toNat).flatMap Bv)∧¬B T 15=true:=by
 refine BS (nh:=13) (k:=2) (pcn:=15) (top:=35) (bes:=Er) (bos:=Rq) (nxt:=[.e 34,.e 33]) (inits:=[.c (.int 0),.e 12]) (fv:=[4,11]) (tys:=[.i,.l]) (by kernel_rfl) rfl rfl rfl rfl hS (by kernel_rfl) (by kernel_rfl) hB (Ay hH) (fun s=>0≤(aI s 0)∧(aI s 0)≤((L T 4)).length∧(aL s 1)=(((L T 4)).take (aI s 0).toNat).flatMap Bv) (fun s=>(((L T 4)).length - (aI s 0)).toNat) ?_ ?_
 ·show 0≤(0:Int)∧(0:Int)≤((L T 4)).length∧L T 12=(((L T 4)).take (0:Int).toNat).flatMap Bv
  clear hS hB hH
  exact⟨by omega,by omega,by rw[h12];rfl⟩
 ·intro T2 hfv hF inv
  replace inv:0≤I T2 13∧I T2 13≤((L T 4)).length∧L T2 14=(((L T 4)).take (I T2 13).toNat).flatMap Bv:=inv
  clear hS hB hH
  replace hF:AI T2 Er:=hF
  obtain⟨F0,hF⟩:=hF.cut
  have F1:=hF;clear hF
  have fv4:L T2 4=L T 4:=fvL (hfv 4 (by decide))
  have fv11:I T2 11=I T 11:=fvI (hfv 11 (by decide))
  clear hfv
  suffices hz:(B T2 15=true→(((L T2 14)).length+((L T2 32)).length)*24≤140737488355328)∧(B T2 15=true→0≤I T2 13∧I T2 13 < ((L T2 4)).length)∧(B T2 15=true→(0≤I T2 34∧I T2 34≤((L T 4)).length∧L T2 33=(((L T 4)).take (I T2 34).toNat).flatMap Bv))∧(B T2 15=true→(((L T 4)).length - (I T2 34)).toNat < (((L T 4)).length - (I T2 13)).toNat) from
   let⟨r0,r1,nx,mz⟩:=hz;⟨⟨r0,r1,trivial⟩,fun hp=>⟨nx hp,mz hp⟩⟩
  refine⟨?_,?_,?_,?_⟩
  ·obtain⟨e15,-,e17,e18,e19,e20,e21,e22,e23,-,-,e26,e27,e28,e29,e30,-⟩:=F0
   obtain⟨e31,e32,-⟩:=F1
   simp only[AE,AG,zR,AS,w2P,zL,zS,uR,AY,zW] at*
   obtain⟨v1,v2,v3⟩:=inv
   intro hp
   rw[v3,e32,DQ,List.length_take]
   simp only[List.length_cons,List.length_nil]
   omega
  ·obtain⟨e15,-⟩:=F0
   simp only[AE,zR] at e15
   obtain⟨v1,v2,v3⟩:=inv
   intro hp
   have h3:=e15.1 hp
   rw[fv4]
   omega
  ·obtain⟨e15,-,e17,e18,e19,e20,e21,e22,e23,-,-,e26,e27,e28,e29,e30,-⟩:=F0
   obtain⟨e31,e32,e33,e34,-⟩:=F1
   simp only[AE,AG,zR,AS,w2P,zL,zS,uR,AY,zW] at*
   obtain⟨v1,v2,v3⟩:=inv
   intro hp
   have hlt:(I T2 13) < ((L T 4)).length:=by have h3:=e15.1 hp;omega
   have e:(I T2 34)=I T2 13+1:=e34 (by omega) (by omega)
   have hh:=Gc.1 pre0 (I T2 13).toNat (by omega)
   rw[←fv4,←e17,←e18,←e19,←e20,JR] at hh
   have d22:(I T2 22)=(I T2 19) / 2:=by rw[e22,if_pos (by omega)]
   have d23:=e23 (by omega) (by omega)
   have u26:0≤I T2 26∧I T2 26≤65536:=by rw[e26];split<;>omega
   have u27:0≤I T2 27∧I T2 27≤65536:=by rw[e27];split<;>omega
   have d28:=e28 (by omega) (by omega)
   have d29:=e29 (by omega) (by omega)
   have d30:=e30 (by omega) (by omega)
   have d31:=e31 (by omega) (by omega)
   refine⟨by omega,by omega,?_⟩
   rw[e33,v3,e,show ((I T2 13)+1).toNat=(I T2 13).toNat+1 by omega,MR (by omega)]
   refine congrArg _ ?_
   rw[e32,d28,d29,d30,d31,e26,e27]
   show _=IY (AA ((L T 4)) (I T2 13).toNat 0) (AA ((L T 4)) (I T2 13).toNat 1) (AA ((L T 4)) (I T2 13).toNat 2) (AA ((L T 4)) (I T2 13).toNat 3) (Ll ((L T 4)) (I T2 13).toNat 4)
   rw[←fv4,←e17,←e18,←e19,←e20,←e21]
   unfold IY MJ
   cases k:(B T2 21) with
   |true=>simp[d23,d22]
   |false=>simp[d23,d22]
  ·obtain⟨e15,-⟩:=F0
   obtain⟨-,-,-,e34,-⟩:=F1
   simp only[AE,zR,w2P] at e15 e34
   obtain⟨v1,v2,v3⟩:=inv
   intro hp
   have hlt:(I T2 13) < ((L T 4)).length:=by have h3:=e15.1 hp;omega
   have e:(I T2 34)=I T2 13+1:=e34 (by omega) (by omega)
   omega
theorem gA {T:Tab}(hz0:(S T 0).size≤140737488355328)(hl4:(L T 4).length≤140737488355328)(hl10:(L T 10).length≤140737488355328)(g:Ln)(hg:g=Ln.mk (S T 0) (I T 1) (I T 2) (I T 3) (L T 4) (I T 5) (I T 6) (I T 7) (I T 8) (I T 9) (L T 10))(pre0:BN (L T 4)=true)(pre1:((L T 4)).length≤12)(h11:(I T 11)=((L T 4)).length)(h12:(L T 12)=[])(inv0:0≤I T 13∧I T 13≤((L T 4)).length∧L T 14=(((L T 4)).take (I T 13).toNat).flatMap Bv)(np0:¬B T 15=true)(A0:AI T Jr)(B0:AI T Er)(A1:AI T SU):
  ((L T 36)=(AN g))∧
  (B T 16=true→(((L T 14)).length+((L T 35)).length)*24≤140737488355328):=by
 have F0:=A0;clear A0
 obtain⟨F1,B0⟩:=B0.cut
 have F2:=B0;clear B0
 have F3:=A1;clear A1
 have n35:(L T 35).length≤1:=by
  obtain⟨e35,-⟩:=F3
  simp only[AE,AG,zR,zL,zS,uR,AY,zW] at e35
  rw[e35];exact Nat.le_refl _
 refine⟨?_,?_⟩
 ·obtain⟨e11,-⟩:=F0
  obtain⟨e15,-⟩:=F1
  obtain⟨e35,e36,-⟩:=F3
  simp only[AE,AG,zR,zL,zS,uR,AY,zW] at*
  obtain⟨w1,w2,w3⟩:=inv0
  have h13:¬I T 13 < I T 11:=fun h=>np0 (e15.2 h)
  rw[e36,w3,List.take_of_length_le (by omega),e35,hg]
  rfl
 ·obtain⟨e11,-⟩:=F0
  obtain⟨e15,e16,-⟩:=F1
  obtain⟨e35,-⟩:=F3
  simp only[AE,AG,zR,zL,zS,uR,AY,zW] at*
  obtain⟨w1,w2,w3⟩:=inv0
  intro h
  rw[w3,DQ,List.length_take,e35]
  simp only[List.length_cons,List.length_nil]
  omega
theorem Td:Ao Try.prog 74 EQ:=by
 refine AZ (l:=[]) BH (by intro p h;exact absurd h (by simp)) gx (by kernel_rfl) fun T us hpre hT hul hS hBd hE=>?_
 change us.length=11 at hul
 obtain⟨hz0,-,-,-,⟨hl4,he4⟩,-,-,-,-,-,⟨hl10,he10⟩,-⟩:=hBd
 replace hz0:(S T 0).size≤140737488355328:=hz0
 replace hl4:(L T 4).length≤140737488355328:=hl4
 replace hl10:(L T 10).length≤140737488355328:=hl10
 obtain⟨g,hg⟩:∃g:Ln,g=Ln.mk (S T 0) (I T 1) (I T 2) (I T 3) (L T 4) (I T 5) (I T 6) (I T 7) (I T 8) (I T 9) (L T 10):=⟨_,rfl⟩
 have hgu:gAt 0 us=g:=by rw[hg];exact Cu hT hul (by decide)
 have ha4:aL us 4=L T 4:=inL hT hul (by decide)
 have pre0:BN (L T 4)=true:=by
  have h:=hpre (.s "posts.p0",GY) (by simp[EQ])
  change GY us at h
  unfold GY at h
  simp only[ha4] at h
  exact h
 have pre1:((L T 4)).length≤12:=by
  have h:=hpre (.s "posts.p1",GW) (by simp[EQ])
  change GW us at h
  unfold GW at h
  simp only[ha4] at h
  exact h
 clear hpre
 rw[List.map_append,List.map_append,List.map_append] at hE
 have hA:=hE.left
 replace hE:=hE.right
 have hH:=hE.left
 replace hE:=hE.right
 have hB:=hE.left
 replace hE:=hE.right
 obtain⟨A0,hS1⟩:=AV hS (by kernel_rfl) hA
 obtain⟨h11,h12⟩:=YC hz0 hl4 hl10 g hg pre0 pre1 A0
 obtain⟨ow0,hS2,inv0,np0⟩:=cO pre0 pre1 h11 h12 hS1 hB hH
 have hF2:=(AV (hS2.append hS1) (l:=Er) (by kernel_rfl) hB)
 obtain⟨B0,hS⟩:=hF2
 clear hA hB hH hS1 hS2
 obtain⟨A1,hO⟩:=Ap (tys:=[.l]) (rs:=XT) hS (by kernel_rfl) hE
 obtain⟨q0,r0⟩:=gA hz0 hl4 hl10 g hg pre0 pre1 h11 h12 inv0 np0 A0 B0 A1
 refine⟨⟨r0,(fun _=>ow0),trivial⟩,hO.trans ?_⟩
 exact (lc (by show U.list (L T 36)= .list (Ht us);unfold Ht;rw[hgu];exact congrArg U.list q0) rfl)
end Go.Eng
end
