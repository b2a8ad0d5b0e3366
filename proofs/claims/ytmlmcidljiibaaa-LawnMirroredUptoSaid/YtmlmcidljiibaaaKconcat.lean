/-
  A part of the proof: K_concatd K_concat.
-/
import Derived.Test.YtmlmcidljiibaaaE4
import Derived.Test.YtmlmcidljiibaaaE5
set_option linter.unusedVariables false
set_option linter.unusedSimpArgs false
noncomputable section
open Go Go.Eng Go.Proofs
set_option maxHeartbeats 4000000
set_option maxRecDepth 100000
namespace Go.Eng
def IM:List U→List (List U):=fun us=>(Bs (aL us 0))
def Gq:List U→Prop:=fun us=>((aL us 0)).length≤4
def G1:List U→Prop:=fun us=>(∀j:Nat,(FK (aL us 0) j 0).length≤1000)
def D7:Ak:={ sh:=[.one (.list [.list [k64,k64,k64]])],blks:=[],outs:=[(.s "concat.0",LQ IM)],c:= .ro 1 [k64,k64,k64],m':=[],pre:=[(.s "concat.p0",Gq),(.s "concat.p1",G1)] }
def Tq:List En:=[⟨1,.len,[.e 0]⟩]
def UI:List En:=[⟨4,.lt,[.e 3,.e 1]⟩,
 ⟨5,.not,[.e 4]⟩,
 ⟨6,.get .l 0,[.e 0,.e 3]⟩,
 ⟨7,.len,[.e 6]⟩,
 ⟨8,.o2 .add,[.e 2,.e 7]⟩,
 ⟨9,.w2 .i64 .add,[.e 3,.c (.int 1)]⟩]
def FN:List En:=Tq
def Cw:List En:=UI
def Qd:List ObE:=[⟨some 4,.inl,[.e 3,.e 0]⟩,⟨none,.btw (0) (1000000),[.e 2]⟩]
def IQ:Ae:=mkD 2 2 Cw 4 [.e 8,.e 9] Qd [0,1]
def LX:List Rf:=[.e 0,.e 1,.c (.int 0),.c (.int 0)]
def U5:List En:=[⟨10,.lt,[.c (.int 0),.e 2]⟩,
 ⟨11,.and,[.e 5,.e 10]⟩,
 ⟨12,.id .l,[.c (.list [])]⟩,
 ⟨13,.and,[.e 5,.n 10]⟩,
 ⟨14,.ite .l,[.e 10,.e 12,.c (.list [])]⟩,
 ⟨15,.len,[.e 0]⟩]
def U0:List En:=[⟨18,.lt,[.e 16,.e 15]⟩,
 ⟨19,.and,[.e 5,.e 18]⟩,
 ⟨20,.and,[.e 5,.n 18]⟩,
 ⟨21,.get .l 0,[.e 0,.e 16]⟩,
 ⟨22,.app,[.e 17,.e 21]⟩,
 ⟨23,.w2 .i64 .add,[.e 16,.c (.int 1)]⟩]
def Id:List En:=U5
def D9:List En:=U0
def PU:List ObE:=[⟨some 19,.fits 24,[.e 17,.e 21]⟩,⟨some 19,.inl,[.e 16,.e 0]⟩]
def Ih:Ae:=mkD 16 2 D9 19 [.e 23,.e 22] PU [0,5,15]
def LT:List Rf:=[.e 0,.e 5,.e 15,.c (.int 0),.e 14]
def ZY:List En:=[]
def eU:List ObE:=[⟨some 5,.owes Ih,[.e 0,.e 5,.e 15,.c (.int 0),.e 14]⟩,
 ⟨some 11,.btw (0) (68719476736),[.e 2]⟩,
 ⟨none,.owes IQ,[.e 0,.e 1,.c (.int 0),.c (.int 0)]⟩]
def VI:List Rf:=[.e 17]
theorem dm:D7.sees VI (D7.run Try.prog [] Ag 3000 20 73)=some ((FN++((Ax IQ [.i,.i] LX)++(Cw++(Id++((Ax Ih [.i,.l] LT)++(D9++(ZY))))))).map En.be,eU.map ObE.be,[]):=by kernel_rfl
theorem Wq {T:Tab}(hl0:(L T 0).length≤140737488355328)(pre0:((L T 0)).length≤4)(pre1:(∀j:Nat,(FK (L T 0) j 0).length≤1000))(A0:AI T FN):
  ((I T 1)=((L T 0)).length):=by
 have F0:=A0;clear A0
 have h1:(I T 1)=((L T 0)).length:=by
  obtain⟨e1,-⟩:=F0
  simp only[AE,zR,zL] at e1
  exact e1
 exact h1
theorem Ya {T:Tab}(pre0:((L T 0)).length≤4)(pre1:(∀j:Nat,(FK (L T 0) j 0).length≤1000))(h1:(I T 1)=((L T 0)).length)(hS:AL T (Am (BG 0 D7.ks) FN))(hB:AX T (Cw.map En.be))(hH:AX T ((Ax IQ [.i,.i] LX).map En.be)):
  (IQ).owes (LX.map (Rf.eval T))∧AL T (hds 2 [.i,.i])∧(0≤I T 3∧I T 3≤((L T 0)).length∧0≤I T 2∧I T 2≤1000*I T 3)∧¬B T 4=true:=by
 refine BS (nh:=2) (k:=2) (pcn:=4) (top:=10) (bes:=Cw) (bos:=Qd) (nxt:=[.e 8,.e 9]) (inits:=[.c (.int 0),.c (.int 0)]) (fv:=[0,1]) (tys:=[.i,.i]) (by kernel_rfl) rfl rfl rfl rfl hS (by kernel_rfl) (by kernel_rfl) hB (Ay hH) (fun s=>0≤(aI s 1)∧(aI s 1)≤((L T 0)).length∧0≤(aI s 0)∧(aI s 0)≤1000*(aI s 1)) (fun s=>(((L T 0)).length - (aI s 1)).toNat) ?_ ?_
 ·show 0≤(0:Int)∧(0:Int)≤((L T 0)).length∧0≤(0:Int)∧(0:Int)≤1000*(0:Int)
  clear hS hB hH
  exact⟨by omega,by omega,by omega,by omega⟩
 ·intro T2 hfv hF inv
  replace inv:0≤I T2 3∧I T2 3≤((L T 0)).length∧0≤I T2 2∧I T2 2≤1000*I T2 3:=inv
  clear hS hB hH
  replace hF:AI T2 Cw:=hF
  have F0:=hF;clear hF
  have fv0:L T2 0=L T 0:=fvL (hfv 0 (by decide))
  have fv1:I T2 1=I T 1:=fvI (hfv 1 (by decide))
  clear hfv
  suffices hz:(B T2 4=true→0≤I T2 3∧I T2 3 < ((L T2 0)).length)∧(0≤I T2 2∧I T2 2≤1000000)∧(B T2 4=true→(0≤I T2 9∧I T2 9≤((L T 0)).length∧0≤I T2 8∧I T2 8≤1000*I T2 9))∧(B T2 4=true→(((L T 0)).length - (I T2 9)).toNat < (((L T 0)).length - (I T2 3)).toNat) from
   let⟨r0,r1,nx,mz⟩:=hz;⟨⟨r0,(fun _=>r1),trivial⟩,fun hp=>⟨nx hp,mz hp⟩⟩
  refine⟨?_,?_,?_,?_⟩
  ·obtain⟨e4,-⟩:=F0
   simp only[AE,zR] at e4
   obtain⟨v1,v2,v3,v4⟩:=inv
   intro hp
   have h4:=e4.1 hp
   rw[fv0]
   omega
  ·obtain⟨v1,v2,v3,v4⟩:=inv
   omega
  ·obtain⟨e4,-,e6,e7,e8,e9,-⟩:=F0
   simp only[AE,zR,AS,w2P,zL] at*
   obtain⟨v1,v2,v3,v4⟩:=inv
   intro hp
   have h4:=e4.1 hp
   have e:(I T2 9)=I T2 3+1:=e9 (by omega) (by omega)
   have hl:=pre1 (I T2 3).toNat
   rw[←fv0,←e6] at hl
   exact⟨by omega,by omega,by omega,by omega⟩
  ·obtain⟨e4,-,-,-,-,e9,-⟩:=F0
   simp only[AE,zR,w2P] at e4 e9
   obtain⟨v1,v2,v3,v4⟩:=inv
   intro hp
   have h4:=e4.1 hp
   have e:(I T2 9)=I T2 3+1:=e9 (by omega) (by omega)
   omega
theorem WT {T:Tab}(hl0:(L T 0).length≤140737488355328)(pre0:((L T 0)).length≤4)(pre1:(∀j:Nat,(FK (L T 0) j 0).length≤1000))(h1:(I T 1)=((L T 0)).length)(inv0:0≤I T 3∧I T 3≤((L T 0)).length∧0≤I T 2∧I T 2≤1000*I T 3)(np0:¬B T 4=true)(A0:AI T FN)(B0:AI T Cw)(A1:AI T Id):
  ((I T 15)=((L T 0)).length)∧((L T 14)=[]):=by
 have F0:=A0;clear A0
 have F1:=B0;clear B0
 have F2:=A1;clear A1
 have h15:(I T 15)=((L T 0)).length:=by
  obtain⟨-,-,-,-,-,e15,-⟩:=F2
  simp only[AE,zR,zL] at e15
  exact e15
 have h14:(L T 14)=[]:=by
  obtain⟨e10,-,e12,-,e14,-⟩:=F2
  simp only[AE,AG,zR,zL] at e10 e12 e14
  rw[e14,e12]
  split<;>rfl
 exact⟨h15,h14⟩
theorem Yd {T:Tab}(pre0:((L T 0)).length≤4)(pre1:(∀j:Nat,(FK (L T 0) j 0).length≤1000))(h15:(I T 15)=((L T 0)).length)(h14:(L T 14)=[])(hS:AL T (Am (Am (hds 2 [.i,.i]++Am (BG 0 D7.ks) FN) Cw) Id))(hB:AX T (D9.map En.be))(hH:AX T ((Ax Ih [.i,.l] LT).map En.be)):
  (Ih).owes (LT.map (Rf.eval T))∧AL T (hds 16 [.i,.l])∧(0≤I T 16∧I T 16≤((L T 0)).length∧L T 17=Bs (((L T 0)).take (I T 16).toNat))∧¬B T 19=true:=by
 refine BS (nh:=16) (k:=2) (pcn:=19) (top:=24) (bes:=D9) (bos:=PU) (nxt:=[.e 23,.e 22]) (inits:=[.c (.int 0),.e 14]) (fv:=[0,5,15]) (tys:=[.i,.l]) (by kernel_rfl) rfl rfl rfl rfl hS (by kernel_rfl) (by kernel_rfl) hB (Ay hH) (fun s=>0≤(aI s 0)∧(aI s 0)≤((L T 0)).length∧(aL s 1)=Bs (((L T 0)).take (aI s 0).toNat)) (fun s=>(((L T 0)).length - (aI s 0)).toNat) ?_ ?_
 ·show 0≤(0:Int)∧(0:Int)≤((L T 0)).length∧L T 14=Bs (((L T 0)).take (0:Int).toNat)
  clear hS hB hH
  exact⟨by omega,by omega,by rw[h14];rfl⟩
 ·intro T2 hfv hF inv
  replace inv:0≤I T2 16∧I T2 16≤((L T 0)).length∧L T2 17=Bs (((L T 0)).take (I T2 16).toNat):=inv
  clear hS hB hH
  replace hF:AI T2 D9:=hF
  have F0:=hF;clear hF
  have fv0:L T2 0=L T 0:=fvL (hfv 0 (by decide))
  have fv5:B T2 5=B T 5:=fvB (hfv 5 (by decide))
  have fv15:I T2 15=I T 15:=fvI (hfv 15 (by decide))
  clear hfv
  suffices hz:(B T2 19=true→(((L T2 17)).length+((L T2 21)).length)*24≤140737488355328)∧(B T2 19=true→0≤I T2 16∧I T2 16 < ((L T2 0)).length)∧(B T2 19=true→(0≤I T2 23∧I T2 23≤((L T 0)).length∧L T2 22=Bs (((L T 0)).take (I T2 23).toNat)))∧(B T2 19=true→(((L T 0)).length - (I T2 23)).toNat < (((L T 0)).length - (I T2 16)).toNat) from
   let⟨r0,r1,nx,mz⟩:=hz;⟨⟨r0,r1,trivial⟩,fun hp=>⟨nx hp,mz hp⟩⟩
  refine⟨?_,?_,?_,?_⟩
  ·obtain⟨e18,e19,-,e21,-⟩:=F0
   simp only[AE,AG,zR,zL] at e18 e19 e21
   obtain⟨v1,v2,v3⟩:=inv
   intro hp
   have h4:=e18.1 (e19.1 hp).2
   have hl:=pre1 (I T2 16).toNat
   have hc:=QE pre1 (I T2 16).toNat (by omega)
   rw[v3,e21,fv0]
   omega
  ·obtain⟨e18,e19,-⟩:=F0
   simp only[AE,AG,zR] at e18 e19
   obtain⟨v1,v2,v3⟩:=inv
   intro hp
   have h4:=e18.1 (e19.1 hp).2
   rw[fv0]
   omega
  ·obtain⟨e18,e19,-,e21,e22,e23,-⟩:=F0
   simp only[AE,AG,zR,w2P,zL] at*
   obtain⟨v1,v2,v3⟩:=inv
   intro hp
   have h4:=e18.1 (e19.1 hp).2
   have e:(I T2 23)=I T2 16+1:=e23 (by omega) (by omega)
   refine⟨by omega,by omega,?_⟩
   rw[e22,v3,e21,fv0,e,show ((I T2 16)+1).toNat=(I T2 16).toNat+1 by omega,OW (by omega)]
  ·obtain⟨e18,e19,-,-,-,e23,-⟩:=F0
   simp only[AE,AG,zR,w2P] at e18 e19 e23
   obtain⟨v1,v2,v3⟩:=inv
   intro hp
   have h4:=e18.1 (e19.1 hp).2
   have e:(I T2 23)=I T2 16+1:=e23 (by omega) (by omega)
   omega
theorem dA {T:Tab}(hl0:(L T 0).length≤140737488355328)(pre0:((L T 0)).length≤4)(pre1:(∀j:Nat,(FK (L T 0) j 0).length≤1000))(h1:(I T 1)=((L T 0)).length)(inv0:0≤I T 3∧I T 3≤((L T 0)).length∧0≤I T 2∧I T 2≤1000*I T 3)(np0:¬B T 4=true)(h15:(I T 15)=((L T 0)).length)(h14:(L T 14)=[])(inv1:0≤I T 16∧I T 16≤((L T 0)).length∧L T 17=Bs (((L T 0)).take (I T 16).toNat))(np1:¬B T 19=true)(A0:AI T FN)(B0:AI T Cw)(A1:AI T Id)(B1:AI T D9):
  ((L T 17)=(Bs (L T 0)))∧
  (B T 11=true→0≤I T 2∧I T 2≤68719476736):=by
 have F0:=A0;clear A0
 have F1:=B0;clear B0
 have F2:=A1;clear A1
 have F3:=B1;clear B1
 refine⟨?_,?_⟩
 ·obtain⟨e1,-⟩:=F0
  obtain⟨e4,e5,-⟩:=F1
  obtain⟨-,-,-,-,-,e15,-⟩:=F2
  obtain⟨e18,e19,-⟩:=F3
  simp only[AE,AG,zR,zL] at*
  obtain⟨w1,w2,w3⟩:=inv1
  have h16:¬I T 16 < I T 15:=fun h=>np1 (e19.2 ⟨e5.2 np0,e18.2 h⟩)
  rw[w3,List.take_of_length_le (by omega)]
 ·obtain⟨e1,-⟩:=F0
  obtain⟨e4,e5,-⟩:=F1
  obtain⟨e10,e11,-⟩:=F2
  simp only[AE,AG,zR,zL] at*
  obtain⟨w1,w2,w3,w4⟩:=inv0
  intro h
  omega
theorem bM:Ao Try.prog 73 D7:=by
 refine AZ (l:=[]) BH (by intro p h;exact absurd h (by simp)) dm (by kernel_rfl) fun T us hpre hT hul hS hBd hE=>?_
 change us.length=1 at hul
 obtain⟨⟨hl0,he0⟩,-⟩:=hBd
 replace hl0:(L T 0).length≤140737488355328:=hl0
 have ha0:aL us 0=L T 0:=inL hT hul (by decide)
 have pre0:((L T 0)).length≤4:=by
  have h:=hpre (.s "concat.p0",Gq) (by simp[D7])
  change Gq us at h
  unfold Gq at h
  simp only[ha0] at h
  exact h
 have pre1:(∀j:Nat,(FK (L T 0) j 0).length≤1000):=by
  have h:=hpre (.s "concat.p1",G1) (by simp[D7])
  change G1 us at h
  unfold G1 at h
  simp only[ha0] at h
  exact h
 clear hpre
 rw[List.map_append,List.map_append,List.map_append,List.map_append,List.map_append,List.map_append] at hE
 have hA:=hE.left
 replace hE:=hE.right
 have hH:=hE.left
 replace hE:=hE.right
 have hB:=hE.left
 replace hE:=hE.right
 obtain⟨A0,hS1⟩:=AV hS (by kernel_rfl) hA
 have h1:=Wq hl0 pre0 pre1 A0
 obtain⟨ow0,hS2,inv0,np0⟩:=Ya pre0 pre1 h1 hS1 hB hH
 have hF2:=(AV (hS2.append hS1) (l:=Cw) (by kernel_rfl) hB)
 obtain⟨B0,hS⟩:=hF2
 clear hA hB hH hS1 hS2
 have hA:=hE.left
 replace hE:=hE.right
 have hH:=hE.left
 replace hE:=hE.right
 have hB:=hE.left
 replace hE:=hE.right
 obtain⟨A1,hS1⟩:=AV hS (by kernel_rfl) hA
 obtain⟨h15,h14⟩:=WT hl0 pre0 pre1 h1 inv0 np0 A0 B0 A1
 obtain⟨ow1,hS2,inv1,np1⟩:=Yd pre0 pre1 h15 h14 hS1 hB hH
 have hF2:=(AV (hS2.append hS1) (l:=D9) (by kernel_rfl) hB)
 obtain⟨B1,hS⟩:=hF2
 clear hA hB hH hS1 hS2
 obtain⟨A2,hO⟩:=Ap (tys:=[.l]) (rs:=VI) hS (by kernel_rfl) hE
 obtain⟨q0,r0⟩:=dA hl0 pre0 pre1 h1 inv0 np0 h15 h14 inv1 np1 A0 B0 A1 B1
 refine⟨⟨(fun _=>ow1),r0,(fun _=>ow0),trivial⟩,hO.trans ?_⟩
 exact (lc (by show U.list (L T 17)= .list (IM us);unfold IM;rw[ha0];exact congrArg U.list q0) rfl)
end Go.Eng
end
