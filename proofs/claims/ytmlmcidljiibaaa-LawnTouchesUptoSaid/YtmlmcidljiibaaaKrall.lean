/-
  A part of the proof: K_ralld K_rall.
-/
import Derived.Test.YtmlmcidljiibaaaXQlTouches
import Derived.Test.YtmlmcidljiibaaaE3
import Derived.Test.YtmlmcidljiibaaaE4
set_option linter.unusedVariables false
set_option linter.unusedSimpArgs false
noncomputable section
open Go Go.Eng Go.Proofs
set_option maxHeartbeats 4000000
set_option maxRecDepth 100000
namespace Go.Eng
def iL:List U→List (List U):=fun us=>(BC (gAt 0 us)++(aL us 11))
def iH:List U→Prop:=fun us=>BV (aL us 4)=true
def iE:List U→Prop:=fun us=>((aL us 4)).length≤12
def iB:List U→Prop:=fun us=>((aL us 11)).length≤12
def g7:Ak:={ sh:=[.agg [.str,k64,k64,k64,.list [k64,k64,k64,k64,.bool],k64,k64,k64,k64,k64,.list [k64,k64,k64]],.one (.list [k64,k64,k64])],blks:=[],outs:=[(.s "rall.0",PL iL)],c:= .ro 12 [k64,k64,k64],m':=[],pre:=[(.s "rall.p0",iH),(.s "rall.p1",iE),(.s "rall.p2",iB)] }
def jl:List En:=[⟨12,.id .l,[.c (.list [])]⟩]
def iM:List En:=jl
def jX:List En:=[⟨15,.len,[.e 4]⟩,
 ⟨16,.lt,[.e 13,.e 15]⟩,
 ⟨17,.not,[.e 16]⟩,
 ⟨18,.get .i 0,[.e 4,.e 13]⟩,
 ⟨19,.get .i 1,[.e 4,.e 13]⟩,
 ⟨20,.get .i 2,[.e 4,.e 13]⟩,
 ⟨21,.get .i 3,[.e 4,.e 13]⟩,
 ⟨22,.get .b 4,[.e 4,.e 13]⟩,
 ⟨23,.o2 .tdiv,[.e 20,.c (.int 2)]⟩,
 ⟨24,.w2 .i64 .add,[.e 23,.e 21]⟩,
 ⟨25,.w2 .i64 .sub,[.e 18,.e 24]⟩,
 ⟨26,.w2 .i64 .add,[.e 18,.e 24]⟩,
 ⟨27,.and,[.e 16,.e 22]⟩,
 ⟨28,.w2 .i64 .sub,[.e 19,.e 24]⟩,
 ⟨29,.w2 .i64 .add,[.e 19,.e 24]⟩,
 ⟨30,.and,[.e 16,.n 22]⟩]
def jh:List En:=[⟨31,.ite .i,[.e 22,.e 18,.e 25]⟩,
 ⟨32,.ite .i,[.e 22,.e 28,.e 19]⟩,
 ⟨33,.ite .i,[.e 22,.e 18,.e 26]⟩,
 ⟨34,.ite .i,[.e 22,.e 29,.e 19]⟩,
 ⟨35,.row 2 3 [.i,.i,.i,.i,.i,.i],[.e 31,.e 32,.e 21,.e 33,.e 34,.e 21]⟩,
 ⟨36,.app,[.e 14,.e 35]⟩,
 ⟨37,.w2 .i64 .add,[.e 13,.c (.int 1)]⟩]
def gu:List En:=jX++(jh)
def jE:List ObE:=[⟨some 16,.fits 24,[.e 14,.e 35]⟩,⟨some 16,.inl,[.e 13,.e 4]⟩]
def iS:Ae:=mkD 13 2 gu 16 [.e 37,.e 36] jE [4]
def io:List Rf:=[.e 4,.c (.int 0),.e 12]
def jm:List En:=[⟨38,.row 1 3 [.i,.i,.i],[.e 5,.e 6,.e 7]⟩,
 ⟨39,.app,[.e 14,.e 38]⟩,
 ⟨40,.app,[.e 39,.e 11]⟩]
def jP:List En:=jm
def ko:List ObE:=[⟨none,.fits 24,[.e 39,.e 11]⟩,
 ⟨some 17,.fits 24,[.e 14,.e 38]⟩,
 ⟨none,.owes iS,[.e 4,.c (.int 0),.e 12]⟩]
def j7:List Rf:=[.e 40]
theorem kq:g7.sees j7 (g7.run Try.prog [] Ah 3000 20 98)=some ((iM++((BJ iS [.i,.l] io)++(gu++(jP)))).map En.be,ko.map ObE.be,[]):=by kernel_rfl
theorem kB {T:Tab}(hz0:(S T 0).size≤140737488355328)(hl4:(L T 4).length≤140737488355328)(hl10:(L T 10).length≤140737488355328)(hl11:(L T 11).length≤140737488355328)(g:Ln)(hg:g=Ln.mk (S T 0) (I T 1) (I T 2) (I T 3) (L T 4) (I T 5) (I T 6) (I T 7) (I T 8) (I T 9) (L T 10))(pre0:BV (L T 4)=true)(pre1:((L T 4)).length≤12)(pre2:((L T 11)).length≤12)(A0:AJ T iM):
  ((L T 12)=[]):=by
 have F0:=A0;clear A0
 have h11:(L T 12)=[]:=by
  obtain⟨e12,-⟩:=F0
  simp only[AE,zR,zL] at e12
  exact e12
 exact h11
theorem kH {T:Tab}(pre0:BV (L T 4)=true)(pre1:((L T 4)).length≤12)(h11:(L T 12)=[])(hS:AL T (Al (BT 0 g7.ks) iM))(hB:Ag T (gu.map En.be))(hH:Ag T ((BJ iS [.i,.l] io).map En.be)):
  (iS).owes (io.map (Rf.eval T))∧AL T (hds 13 [.i,.l])∧(0≤I T 13∧I T 13≤((L T 4)).length∧L T 14=(((L T 4)).take (I T 13).toNat).flatMap Ce)∧¬B T 16=true:=by
 refine Bl (nh:=13) (k:=2) (pcn:=16) (top:=38) (bes:=gu) (bos:=jE) (nxt:=[.e 37,.e 36]) (inits:=[.c (.int 0),.e 12]) (fv:=[4]) (tys:=[.i,.l]) (by kernel_rfl) rfl rfl rfl rfl hS (by kernel_rfl) (by kernel_rfl) hB (BK hH) (fun s=>0≤(aI s 0)∧(aI s 0)≤((L T 4)).length∧(aL s 1)=(((L T 4)).take (aI s 0).toNat).flatMap Ce) (fun s=>(((L T 4)).length - (aI s 0)).toNat) ?_ ?_
 ·show 0≤(0:Int)∧(0:Int)≤((L T 4)).length∧L T 12=(((L T 4)).take (0:Int).toNat).flatMap Ce
  clear hS hB hH
  exact⟨by omega,by omega,by rw[h11];rfl⟩
 ·intro T2 hfv hF inv
  replace inv:0≤I T2 13∧I T2 13≤((L T 4)).length∧L T2 14=(((L T 4)).take (I T2 13).toNat).flatMap Ce:=inv
  clear hS hB hH
  replace hF:AJ T2 gu:=hF
  obtain⟨F0,hF⟩:=hF.cut
  have F1:=hF;clear hF
  have fv4:L T2 4=L T 4:=fvL (hfv 4 (by decide))
  clear hfv
  suffices hz:(B T2 16=true→(((L T2 14)).length+((L T2 35)).length)*24≤140737488355328)∧(B T2 16=true→0≤I T2 13∧I T2 13 < ((L T2 4)).length)∧(B T2 16=true→(0≤I T2 37∧I T2 37≤((L T 4)).length∧L T2 36=(((L T 4)).take (I T2 37).toNat).flatMap Ce))∧(B T2 16=true→(((L T 4)).length - (I T2 37)).toNat < (((L T 4)).length - (I T2 13)).toNat) from
   let⟨r0,r1,nx,mz⟩:=hz;⟨⟨r0,r1,trivial⟩,fun hp=>⟨nx hp,mz hp⟩⟩
  refine⟨?_,?_,?_,?_⟩
  ·obtain⟨e15,e16,-,e18,e19,e20,e21,e22,e23,e24,e25,e26,-,e28,e29,-⟩:=F0
   obtain⟨e31,e32,e33,e34,e35,-⟩:=F1
   simp only[AE,AF,zR,AR,w2P,zL,zS,uR,Ab,zW] at*
   obtain⟨v1,v2,v3⟩:=inv
   intro hp
   rw[v3,e35,EU,List.length_take]
   simp only[List.length_cons,List.length_nil]
   omega
  ·obtain⟨e15,e16,-⟩:=F0
   simp only[AE,zR,zL] at e15 e16
   obtain⟨v1,v2,v3⟩:=inv
   intro hp
   have h3:=e16.1 hp
   rw[e15,fv4] at h3
   rw[fv4]
   omega
  ·obtain⟨e15,e16,-,e18,e19,e20,e21,e22,e23,e24,e25,e26,-,e28,e29,-⟩:=F0
   obtain⟨e31,e32,e33,e34,e35,e36,e37,-⟩:=F1
   simp only[AE,AF,zR,AR,w2P,zL,zS,uR,Ab,zW] at*
   obtain⟨v1,v2,v3⟩:=inv
   intro hp
   have hlt:(I T2 13) < ((L T 4)).length:=by have h3:=e16.1 hp;rw[e15,fv4] at h3;omega
   have e:(I T2 37)=I T2 13+1:=e37 (by omega) (by omega)
   have hh:=G9.1 pre0 (I T2 13).toNat (by omega)
   rw[←fv4,←e18,←e19,←e20,←e21,LH] at hh
   have d23:(I T2 23)=(I T2 20) / 2:=by rw[e23,if_pos (by omega)]
   have d24:=e24 (by omega) (by omega)
   have d25:=e25 (by omega) (by omega)
   have d26:=e26 (by omega) (by omega)
   have d28:=e28 (by omega) (by omega)
   have d29:=e29 (by omega) (by omega)
   refine⟨by omega,by omega,?_⟩
   rw[e36,v3,e,show ((I T2 13)+1).toNat=(I T2 13).toNat+1 by omega,OQ (by omega)]
   refine congrArg _ ?_
   rw[e35,e31,e32,e33,e34]
   show _=Ku (AA ((L T 4)) (I T2 13).toNat 0) (AA ((L T 4)) (I T2 13).toNat 1) (AA ((L T 4)) (I T2 13).toNat 2) (AA ((L T 4)) (I T2 13).toNat 3) (M3 ((L T 4)) (I T2 13).toNat 4)
   rw[←fv4,←e18,←e19,←e20,←e21,←e22]
   unfold Ku ML
   cases k:(B T2 22) with
   |true=>simp[d24,d23,d28,d29]
   |false=>simp[d24,d23,d25,d26]
  ·obtain⟨e15,e16,-⟩:=F0
   obtain⟨-,-,-,-,-,-,e37,-⟩:=F1
   simp only[AE,zR,w2P,zL] at e15 e16 e37
   obtain⟨v1,v2,v3⟩:=inv
   intro hp
   have hlt:(I T2 13) < ((L T 4)).length:=by have h3:=e16.1 hp;rw[e15,fv4] at h3;omega
   have e:(I T2 37)=I T2 13+1:=e37 (by omega) (by omega)
   omega
theorem km {T:Tab}(hz0:(S T 0).size≤140737488355328)(hl4:(L T 4).length≤140737488355328)(hl10:(L T 10).length≤140737488355328)(hl11:(L T 11).length≤140737488355328)(g:Ln)(hg:g=Ln.mk (S T 0) (I T 1) (I T 2) (I T 3) (L T 4) (I T 5) (I T 6) (I T 7) (I T 8) (I T 9) (L T 10))(pre0:BV (L T 4)=true)(pre1:((L T 4)).length≤12)(pre2:((L T 11)).length≤12)(h11:(L T 12)=[])(inv0:0≤I T 13∧I T 13≤((L T 4)).length∧L T 14=(((L T 4)).take (I T 13).toNat).flatMap Ce)(np0:¬B T 16=true)(A0:AJ T iM)(B0:AJ T gu)(A1:AJ T jP):
  ((L T 40)=(BC g++L T 11))∧
  ((((L T 39)).length+((L T 11)).length)*24≤140737488355328)∧
  (B T 17=true→(((L T 14)).length+((L T 38)).length)*24≤140737488355328):=by
 have F0:=A0;clear A0
 obtain⟨F1,B0⟩:=B0.cut
 have F2:=B0;clear B0
 have F3:=A1;clear A1
 have n38:(L T 38).length≤1:=by
  obtain⟨e38,-⟩:=F3
  simp only[AE,AF,zR,zL,zS,uR,Ab,zW] at e38
  rw[e38];exact Nat.le_refl _
 refine⟨?_,?_,?_⟩
 ·obtain⟨e15,e16,-⟩:=F1
  obtain⟨e38,e39,e40,-⟩:=F3
  simp only[AE,AF,zR,zL,zS,uR,Ab,zW] at*
  obtain⟨w1,w2,w3⟩:=inv0
  have h13:¬I T 13 < ((L T 4)).length:=fun h=>np0 (e16.2 (by rw[e15];exact h))
  rw[e40,e39,w3,List.take_of_length_le (by omega),e38,hg]
  rfl
 ·obtain⟨e38,e39,-⟩:=F3
  simp only[AE,AF,zR,zL,zS,uR,Ab,zW] at e38 e39
  obtain⟨w1,w2,w3⟩:=inv0
  rw[e39,w3,List.length_append,EU,List.length_take,e38]
  simp only[List.length_cons,List.length_nil]
  omega
 ·obtain⟨e15,e16,e17,-⟩:=F1
  obtain⟨e38,-⟩:=F3
  simp only[AE,AF,zR,zL,zS,uR,Ab,zW] at*
  obtain⟨w1,w2,w3⟩:=inv0
  intro h
  rw[w3,EU,List.length_take,e38]
  simp only[List.length_cons,List.length_nil]
  omega
theorem kR:Aq Try.prog 98 g7:=by
 refine Ai (l:=[]) BX (by intro p h;exact absurd h (by simp)) kq (by kernel_rfl) fun T us hpre hT hul hS hBd hE=>?_
 change us.length=12 at hul
 obtain⟨hz0,-,-,-,⟨hl4,he4⟩,-,-,-,-,-,⟨hl10,he10⟩,⟨hl11,he11⟩,-⟩:=hBd
 replace hz0:(S T 0).size≤140737488355328:=hz0
 replace hl4:(L T 4).length≤140737488355328:=hl4
 replace hl10:(L T 10).length≤140737488355328:=hl10
 replace hl11:(L T 11).length≤140737488355328:=hl11
 obtain⟨g,hg⟩:∃g:Ln,g=Ln.mk (S T 0) (I T 1) (I T 2) (I T 3) (L T 4) (I T 5) (I T 6) (I T 7) (I T 8) (I T 9) (L T 10):=⟨_,rfl⟩
 have hgu:gAt 0 us=g:=by rw[hg];exact DU hT hul (by decide)
 have ha4:aL us 4=L T 4:=inL hT hul (by decide)
 have ha11:aL us 11=L T 11:=inL hT hul (by decide)
 have pre0:BV (L T 4)=true:=by
  have h:=hpre (.s "rall.p0",iH) (by simp[g7])
  change iH us at h
  unfold iH at h
  simp only[ha4] at h
  exact h
 have pre1:((L T 4)).length≤12:=by
  have h:=hpre (.s "rall.p1",iE) (by simp[g7])
  change iE us at h
  unfold iE at h
  simp only[ha4] at h
  exact h
 have pre2:((L T 11)).length≤12:=by
  have h:=hpre (.s "rall.p2",iB) (by simp[g7])
  change iB us at h
  unfold iB at h
  simp only[ha11] at h
  exact h
 clear hpre
 rw[List.map_append,List.map_append,List.map_append] at hE
 have hA:=hE.left
 replace hE:=hE.right
 have hH:=hE.left
 replace hE:=hE.right
 have hB:=hE.left
 replace hE:=hE.right
 obtain⟨A0,hS1⟩:=Ac hS (by kernel_rfl) hA
 have h11:=kB hz0 hl4 hl10 hl11 g hg pre0 pre1 pre2 A0
 obtain⟨ow0,hS2,inv0,np0⟩:=kH pre0 pre1 h11 hS1 hB hH
 have hF2:=(Ac (hS2.append hS1) (l:=gu) (by kernel_rfl) hB)
 obtain⟨B0,hS⟩:=hF2
 clear hA hB hH hS1 hS2
 obtain⟨A1,hO⟩:=Ar (tys:=[.l]) (rs:=j7) hS (by kernel_rfl) hE
 obtain⟨q0,r0,r1⟩:=km hz0 hl4 hl10 hl11 g hg pre0 pre1 pre2 h11 inv0 np0 A0 B0 A1
 refine⟨⟨(fun _=>r0),r1,(fun _=>ow0),trivial⟩,hO.trans ?_⟩
 exact (lc (by show U.list (L T 40)= .list (iL us);unfold iL;rw[hgu,ha11];exact congrArg U.list q0) rfl)
end Go.Eng
end
