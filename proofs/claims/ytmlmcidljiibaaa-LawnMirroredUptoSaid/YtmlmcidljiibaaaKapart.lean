/-
  A part of the proof: K_apartd K_apart.
-/
import Derived.Test.YtmlmcidljiibaaaE4
import Derived.Test.YtmlmcidljiibaaaE5
import Derived.Test.YtmlmcidljiibaaaKtouch
set_option linter.unusedVariables false
set_option linter.unusedSimpArgs false
noncomputable section
open Go Go.Eng Go.Proofs
set_option maxHeartbeats 4000000
set_option maxRecDepth 100000
namespace Go.Eng
def KN:List U→Bool:=fun us=>(Dm (aI us 1) (aI us 2) (aL us 11))
def Hl:List U→Prop:=fun us=>CJ (aL us 11)=true
def Hk:List U→Prop:=fun us=>(65536≤(aI us 1)∧(aI us 1)≤4194304)∧65536≤(aI us 2)∧(aI us 2)≤4194304
def Dw:Ak:={ sh:=[.agg [.str,k64,k64,k64,.list [k64,k64,k64,k64,.bool],k64,k64,k64,k64,k64,.list [k64,k64,k64]],.one (.list [k64,k64,k64])],blks:=[],outs:=[(.s "apart.0",DF KN)],c:= .b 12,m':=[],pre:=[(.s "apart.p0",Hl),(.s "apart.p1",Hk)] }
def WQ:List En:=[⟨12,.len,[.e 11]⟩]
def nj:List En:=WQ
def Sy:List En:=[⟨14,.lt,[.e 13,.e 12]⟩,
 ⟨15,.not,[.e 14]⟩,
 ⟨16,.get .i 0,[.e 11,.e 13]⟩,
 ⟨17,.get .i 1,[.e 11,.e 13]⟩,
 ⟨18,.get .i 2,[.e 11,.e 13]⟩,
 ⟨19,.w2 .i64 .sub,[.e 1,.e 18]⟩,
 ⟨20,.le,[.e 18,.e 16]⟩,
 ⟨21,.and,[.e 14,.e 20]⟩,
 ⟨22,.le,[.e 16,.e 19]⟩,
 ⟨23,.and,[.e 20,.e 22]⟩,
 ⟨24,.and,[.e 14,.e 23]⟩,
 ⟨25,.w2 .i64 .sub,[.e 2,.e 18]⟩,
 ⟨26,.le,[.e 18,.e 17]⟩,
 ⟨27,.and,[.e 24,.e 26]⟩,
 ⟨28,.le,[.e 17,.e 25]⟩,
 ⟨29,.and,[.e 26,.e 28]⟩]
def St:List En:=[⟨30,.or,[.n 23,.n 29]⟩,
 ⟨31,.and,[.e 14,.e 30]⟩,
 ⟨32,.and,[.e 14,.n 30]⟩,
 ⟨33,.take,[.e 11,.e 13]⟩,
 ⟨34,.len,[.e 33]⟩]
def EX:List En:=Sy++(St)
def Vm:List En:=[⟨36,.lt,[.e 35,.e 34]⟩,
 ⟨37,.and,[.e 32,.e 36]⟩,
 ⟨38,.and,[.e 32,.n 36]⟩,
 ⟨39,.get .i 0,[.e 33,.e 35]⟩,
 ⟨40,.get .i 1,[.e 33,.e 35]⟩,
 ⟨41,.get .i 2,[.e 33,.e 35]⟩,
 ⟨42,.outI "touch.0" Jj,[.e 16,.e 17,.e 18,.e 39,.e 40,.e 41]⟩,
 ⟨43,.outI "touch.1" KJ,[.e 16,.e 17,.e 18,.e 39,.e 40,.e 41]⟩,
 ⟨44,.lt,[.e 42,.c (.int 0)]⟩,
 ⟨45,.and,[.e 37,.e 44]⟩,
 ⟨46,.and,[.e 37,.n 44]⟩,
 ⟨47,.w2 .i64 .add,[.e 35,.c (.int 1)]⟩]
def DY:List En:=Vm
def SI:List ObE:=[⟨some 37,.inl,[.e 35,.e 33]⟩]
def Hn:Ae:=mkD 35 1 DY 46 [.e 47] SI [16,17,18,33,32,34]
def KB:List Rf:=[.e 16,.e 17,.e 18,.e 33,.e 32,.e 34,.c (.int 0)]
def Sr:List En:=[⟨48,.or,[.e 31,.e 45]⟩,
 ⟨49,.w2 .i64 .add,[.e 13,.c (.int 1)]⟩]
def Hh:List En:=Sr
def GP:List En:=EX++((Ax Hn [.i] KB)++(DY++(Hh)))
def Ro:List ObE:=[⟨some 32,.owes Hn,[.e 16,.e 17,.e 18,.e 33,.e 32,.e 34,.c (.int 0)]⟩,⟨some 32,.take,[.e 11,.e 13]⟩,⟨some 14,.inl,[.e 13,.e 11]⟩]
def KD:Ae:=mkD 13 1 GP 38 [.e 49] Ro [11,2,1,12]
def Mh:List Rf:=[.e 11,.e 2,.e 1,.e 12,.c (.int 0)]
def Vq:List En:=[⟨50,.ite .b,[.e 48,.c (.bool false),.c (.bool true)]⟩,
 ⟨51,.or,[.e 48,.e 15]⟩]
def Rp:List En:=Vq
def gY:List ObE:=[⟨none,.owes KD,[.e 11,.e 2,.e 1,.e 12,.c (.int 0)]⟩]
def Xo:List Rf:=[.e 50]
theorem f9:Dw.sees Xo (Dw.run Try.prog [(118,K0)] Ag 3000 20 107)=some ((nj++((Ax KD [.i] Mh)++(GP++(Rp)))).map En.be,gY.map ObE.be,[]):=by kernel_rfl
theorem Zc {T:Tab}(hz0:(S T 0).size≤140737488355328)(hl4:(L T 4).length≤140737488355328)(hl10:(L T 10).length≤140737488355328)(hl11:(L T 11).length≤140737488355328)(g:Ln)(hg:g=Ln.mk (S T 0) (I T 1) (I T 2) (I T 3) (L T 4) (I T 5) (I T 6) (I T 7) (I T 8) (I T 9) (L T 10))(pre0:CJ (L T 11)=true)(pre1:(65536≤I T 1∧I T 1≤4194304)∧65536≤I T 2∧I T 2≤4194304)(A0:AI T nj):
  ((I T 12)=((L T 11)).length):=by
 have F0:=A0;clear A0
 have h12:(I T 12)=((L T 11)).length:=by
  obtain⟨e12,-⟩:=F0
  simp only[AE,zR,zL] at e12
  exact e12
 exact h12
theorem YU {T:Tab}(g11:((L T 11)).length≤140737488355328)(C0_0:AI T EX):
  ((I T 34)=((L T 33)).length∧((L T 33)).length≤140737488355328):=by
 obtain⟨F0,C0_0⟩:=C0_0.cut
 have F1:=C0_0;clear C0_0
 have h34:(I T 34)=((L T 33)).length∧((L T 33)).length≤140737488355328:=by
  obtain⟨-,-,-,e33,e34,-⟩:=F1
  simp only[AE,zR,zL] at e33 e34
  exact⟨e34,by rw[e33,List.length_take];omega⟩
 exact h34
theorem aq {T:Tab}(h34:(I T 34)=((L T 33)).length∧((L T 33)).length≤140737488355328)(hS:AL T (Am (hds 13 [.i]++Gm [11,2,1,12] (Am (BG 0 Dw.ks) nj)) EX))(hB:AX T (DY.map En.be))(hH:AX T ((Ax Hn [.i] KB).map En.be)):
  (Hn).owes (KB.map (Rf.eval T))∧AL T (hds 35 [.i])∧(0≤I T 35∧((I T 35)≤I T 34)∧∀q:Nat,(q:Int) < I T 35→¬Cv (I T 16) (I T 17) (I T 18) (AA ((L T 33)) q 0) (AA ((L T 33)) q 1) (AA ((L T 33)) q 2) < 0)∧¬B T 46=true:=by
 refine BS (nh:=35) (k:=1) (pcn:=46) (top:=48) (bes:=DY) (bos:=SI) (nxt:=[.e 47]) (inits:=[.c (.int 0)]) (fv:=[16,17,18,33,32,34]) (tys:=[.i]) (by kernel_rfl) rfl rfl rfl rfl hS (by kernel_rfl) (by kernel_rfl) hB (Ay hH) (fun s=>0≤(aI s 0)∧((aI s 0)≤I T 34)∧∀q:Nat,(q:Int) < (aI s 0)→¬Cv (I T 16) (I T 17) (I T 18) (AA ((L T 33)) q 0) (AA ((L T 33)) q 1) (AA ((L T 33)) q 2) < 0) (fun s=>((I T 34) - (aI s 0)).toNat) ?_ ?_
 ·show 0≤(0:Int)∧((0:Int)≤I T 34)∧∀q:Nat,(q:Int) < (0:Int)→¬Cv (I T 16) (I T 17) (I T 18) (AA ((L T 33)) q 0) (AA ((L T 33)) q 1) (AA ((L T 33)) q 2) < 0
  clear hS hB hH
  exact⟨by omega,by omega,fun q h=>absurd h (by omega)⟩
 ·intro T2 hfv hF inv
  replace inv:0≤I T2 35∧((I T2 35)≤I T 34)∧∀q:Nat,(q:Int) < I T2 35→¬Cv (I T 16) (I T 17) (I T 18) (AA ((L T 33)) q 0) (AA ((L T 33)) q 1) (AA ((L T 33)) q 2) < 0:=inv
  clear hS hB hH
  replace hF:AI T2 DY:=hF
  have F0:=hF;clear hF
  have fv16:I T2 16=I T 16:=fvI (hfv 16 (by decide))
  have fv17:I T2 17=I T 17:=fvI (hfv 17 (by decide))
  have fv18:I T2 18=I T 18:=fvI (hfv 18 (by decide))
  have fv33:L T2 33=L T 33:=fvL (hfv 33 (by decide))
  have fv32:B T2 32=B T 32:=fvB (hfv 32 (by decide))
  have fv34:I T2 34=I T 34:=fvI (hfv 34 (by decide))
  clear hfv
  suffices hz:(B T2 37=true→0≤I T2 35∧I T2 35 < ((L T2 33)).length)∧(B T2 46=true→(0≤I T2 47∧((I T2 47)≤I T 34)∧∀q:Nat,(q:Int) < I T2 47→¬Cv (I T 16) (I T 17) (I T 18) (AA ((L T 33)) q 0) (AA ((L T 33)) q 1) (AA ((L T 33)) q 2) < 0))∧(B T2 46=true→((I T 34) - (I T2 47)).toNat < ((I T 34) - (I T2 35)).toNat) from
   let⟨r0,nx,mz⟩:=hz;⟨⟨r0,trivial⟩,fun hp=>⟨nx hp,mz hp⟩⟩
  refine⟨?_,?_,?_⟩
  ·obtain⟨e36,e37,-⟩:=F0
   simp only[AE,AG,zR] at e36 e37
   obtain⟨v1,v2,v3⟩:=inv
   intro hp
   have h:=e36.1 (e37.1 hp).2
   rw[fv33]
   omega
  ·obtain⟨e36,e37,-,e39,e40,e41,e42,-,e44,-,e46,e47,-⟩:=F0
   replace e42:I T2 42=(Cv (I T2 16) (I T2 17) (I T2 18) (I T2 39) (I T2 40) (I T2 41)):=e42
   simp only[AE,AG,zN,zR,w2P,zL] at*
   obtain⟨v1,v2,v3⟩:=inv
   intro hp
   have h46:=e46.1 hp
   have h:=e36.1 (e37.1 h46.1).2
   have e:(I T2 47)=I T2 35+1:=e47 (by omega) (by omega)
   refine⟨by omega,by omega,fun q hq=>?_⟩
   by_cases hq2:(q:Int) < I T2 35
   ·exact v3 q hq2
   obtain rfl:q=(I T2 35).toNat:=by omega
   rw[←fv33,←e39,←e40,←e41,←fv16,←fv17,←fv18,←e42]
   intro hc
   have h44:=e44.2 hc
   have z:=h46.2
   simp[h44] at z
  ·obtain⟨e36,e37,-,e39,e40,e41,e42,-,e44,-,e46,e47,-⟩:=F0
   replace e42:I T2 42=(Cv (I T2 16) (I T2 17) (I T2 18) (I T2 39) (I T2 40) (I T2 41)):=e42
   simp only[AE,AG,zN,zR,w2P,zL] at*
   obtain⟨v1,v2,v3⟩:=inv
   intro hp
   have h46:=e46.1 hp
   have h:=e36.1 (e37.1 h46.1).2
   have e:(I T2 47)=I T2 35+1:=e47 (by omega) (by omega)
   omega
theorem SM {T:Tab}(g11:((L T 11)).length≤140737488355328)(hS:AL T (hds 13 [.i]++Gm [11,2,1,12] (Am (BG 0 Dw.ks) nj)))(hE:AX T (GP.map En.be)):
  (AI T EX)∧((Hn).owes (KB.map (Rf.eval T)))∧(0≤I T 35∧((I T 35)≤I T 34)∧∀q:Nat,(q:Int) < I T 35→¬Cv (I T 16) (I T 17) (I T 18) (AA ((L T 33)) q 0) (AA ((L T 33)) q 1) (AA ((L T 33)) q 2) < 0)∧(¬B T 46=true)∧(AI T DY)∧(AI T Hh)∧AL T (Am (Am (hds 35 [.i]++Am (hds 13 [.i]++Gm [11,2,1,12] (Am (BG 0 Dw.ks) nj)) EX) DY) Hh):=by
 unfold GP at hE
 rw[List.map_append,List.map_append,List.map_append] at hE
 have hA:=hE.left
 replace hE:=hE.right
 have hH:=hE.left
 replace hE:=hE.right
 have hB:=hE.left
 replace hE:=hE.right
 obtain⟨C0_0,hS1⟩:=AV hS (by kernel_rfl) hA
 have h34:=YU g11 C0_0
 obtain⟨ow1,hS2,inv1,np1⟩:=aq h34 hS1 hB hH
 have hF2:=(AV (hS2.append hS1) (l:=DY) (by kernel_rfl) hB)
 obtain⟨B1,hS⟩:=hF2
 clear hA hB hH hS1 hS2
 obtain⟨C0_1,hSe⟩:=AV hS (by kernel_rfl) hE
 exact⟨C0_0,ow1,inv1,np1,B1,C0_1,hSe⟩
theorem bD {T:Tab}(hl11:(L T 11).length≤140737488355328)(pre0:CJ (L T 11)=true)(pre1:(65536≤I T 1∧I T 1≤4194304)∧65536≤I T 2∧I T 2≤4194304)(h12:(I T 12)=((L T 11)).length)(hS:AL T (Am (BG 0 Dw.ks) nj))(hB:AX T (GP.map En.be))(hH:AX T ((Ax KD [.i] Mh).map En.be)):
  (KD).owes (Mh.map (Rf.eval T))∧AL T (hds 13 [.i])∧(0≤I T 13∧I T 13≤((L T 11)).length∧∀q:Nat,(q:Int) < I T 13→By (I T 1) (I T 2) ((L T 11)) q)∧¬B T 38=true:=by
 refine O8 (nh:=13) (k:=1) (pcn:=38) (top:=50) (bes:=GP) (bos:=Ro) (nxt:=[.e 49]) (inits:=[.c (.int 0)]) (fv:=[11,2,1,12]) (tys:=[.i]) (by kernel_rfl) rfl rfl rfl rfl hS (by kernel_rfl) hB (Ay hH) (fun s=>0≤(aI s 0)∧(aI s 0)≤((L T 11)).length∧∀q:Nat,(q:Int) < (aI s 0)→By (I T 1) (I T 2) ((L T 11)) q) (fun s=>(((L T 11)).length - (aI s 0)).toNat) ?_ ?_
 ·show 0≤(0:Int)∧(0:Int)≤((L T 11)).length∧∀q:Nat,(q:Int) < (0:Int)→By (I T 1) (I T 2) ((L T 11)) q
  clear hS hB hH
  exact⟨by omega,by omega,fun q h=>absurd h (by omega)⟩
 ·intro T2 hfv hS2 hE inv
  replace inv:0≤I T2 13∧I T2 13≤((L T 11)).length∧∀q:Nat,(q:Int) < I T2 13→By (I T 1) (I T 2) ((L T 11)) q:=inv
  have fv11:L T2 11=L T 11:=fvL (hfv 11 (by decide))
  have fv2:I T2 2=I T 2:=fvI (hfv 2 (by decide))
  have fv1:I T2 1=I T 1:=fvI (hfv 1 (by decide))
  have fv12:I T2 12=I T 12:=fvI (hfv 12 (by decide))
  clear hfv
  clear hS hB hH
  have g11:((L T2 11)).length≤140737488355328:=by
   rw[fv11];exact hl11
  obtain⟨C0_0,ow1,inv1,np1,B1,C0_1,hSe⟩:=SM g11 hS2 hE
  clear hS2 hE
  have hN:=FU hSe (ts:=[.i]) (rs:=[.e 49]) (by kernel_rfl)
  clear hSe
  obtain⟨F0,C0_0⟩:=C0_0.cut
  have F1:=C0_0;clear C0_0
  have F2:=B1;clear B1
  have F3:=C0_1;clear C0_1
  suffices hz:(B T2 32=true→0≤I T2 13∧I T2 13≤((L T2 11)).length)∧(B T2 14=true→0≤I T2 13∧I T2 13 < ((L T2 11)).length)∧(B T2 38=true→(0≤I T2 49∧I T2 49≤((L T 11)).length∧∀q:Nat,(q:Int) < I T2 49→By (I T 1) (I T 2) ((L T 11)) q))∧(B T2 38=true→(((L T 11)).length - (I T2 49)).toNat < (((L T 11)).length - (I T2 13)).toNat) from
   let⟨r0,r1,nx,mz⟩:=hz;⟨hN,⟨(fun _=>ow1),r0,r1,trivial⟩,fun hp=>⟨nx hp,mz hp⟩⟩
  refine⟨?_,?_,?_,?_⟩
  ·obtain⟨e14,-,e16,e17,e18,e19,e20,-,e22,e23,-,e25,e26,-,e28,e29,-⟩:=F0
   obtain⟨e30,-,e32,-⟩:=F1
   simp only[AE,AG,zN,zR,w2P,zL] at*
   obtain⟨v1,v2,v3⟩:=inv
   intro hp
   have h14:=e14.1 (e32.1 hp).1
   rw[fv11]
   omega
  ·obtain⟨e14,-⟩:=F0
   simp only[AE,zR] at e14
   obtain⟨v1,v2,v3⟩:=inv
   intro hp
   have h14:=e14.1 hp
   rw[fv11]
   omega
  ·obtain⟨e14,-,e16,e17,e18,e19,e20,-,e22,e23,-,e25,e26,-,e28,e29,-⟩:=F0
   obtain⟨e30,-,e32,e33,e34,-⟩:=F1
   obtain⟨e36,-,e38,-⟩:=F2
   obtain⟨-,e49,-⟩:=F3
   simp only[AE,AG,zN,zR,w2P,zL] at*
   obtain⟨v1,v2,v3⟩:=inv
   intro hp
   have h32:=e32.1 (e38.1 hp).1
   have h36:¬I T2 35 < I T2 34:=fun h=>by
    have z:=(e38.1 hp).2
    have:=e36.2 h
    simp[this] at z
   have h14:(I T2 13) < ((L T 11)).length:=by have:=e14.1 h32.1;omega
   have e:(I T2 49)=I T2 13+1:=e49 (by omega) (by omega)
   have hr:=DX.1 pre0
   have hn:(I T2 34)=I T2 13:=by rw[e34,e33,fv11,List.length_take];omega
   have r13:=hr (I T2 13).toNat (by omega)
   rw[fv11] at e16 e17 e18
   have d19:=e19 (by omega) (by omega)
   have d25:=e25 (by omega) (by omega)
   clear e19 e25
   have h30:(B T2 30)=false:=by simpa using h32.2
   refine⟨by omega,by omega,fun q hq=>?_⟩
   by_cases hq2:(q:Int) < I T2 13
   ·exact v3 q hq2
   obtain rfl:q=(I T2 13).toNat:=by omega
   have hin:(AA ((L T 11)) (I T2 13).toNat 2≤AA ((L T 11)) (I T2 13).toNat 0∧AA ((L T 11)) (I T2 13).toNat 0≤I T 1 - AA ((L T 11)) (I T2 13).toNat 2)∧(AA ((L T 11)) (I T2 13).toNat 2≤AA ((L T 11)) (I T2 13).toNat 1∧AA ((L T 11)) (I T2 13).toNat 1≤I T 2 - AA ((L T 11)) (I T2 13).toNat 2):=by
    rw[←e16,←e17,←e18,←fv1,←fv2]
    clear v3 hr inv1 fv11 hl11 h12 pre0 np1 g11 e49 e38 pre1 r13 e16 e17 e18
    grind
   refine⟨hin.1,hin.2,fun k hk=>?_⟩
   obtain⟨w1,w2,w3⟩:=inv1
   have hk3:=w3 k (by omega)
   have rk:=hr k (by omega)
   have pk:=v3 k (by omega)
   unfold By at pk
   rw[e33,fv11,Ga hk,Ga hk,Ga hk,e16,e17,e18] at hk3
   rwa [Pz (w:=I T 1) (h:=I T 2) pre1.1.2 pre1.2.2 r13 rk hin.1 hin.2 pk.1 pk.2.1] at hk3
  ·obtain⟨e14,-,e16,e17,e18,e19,e20,-,e22,e23,-,e25,e26,-,e28,e29,-⟩:=F0
   obtain⟨e30,-,e32,e33,e34,-⟩:=F1
   obtain⟨e36,-,e38,-⟩:=F2
   obtain⟨-,e49,-⟩:=F3
   simp only[AE,AG,zN,zR,w2P,zL] at*
   obtain⟨v1,v2,v3⟩:=inv
   intro hp
   have h14:=e14.1 (e32.1 (e38.1 hp).1).1
   have e:(I T2 49)=I T2 13+1:=e49 (by omega) (by omega)
   omega
theorem fu {T:Tab}(hz0:(S T 0).size≤140737488355328)(hl4:(L T 4).length≤140737488355328)(hl10:(L T 10).length≤140737488355328)(hl11:(L T 11).length≤140737488355328)(g:Ln)(hg:g=Ln.mk (S T 0) (I T 1) (I T 2) (I T 3) (L T 4) (I T 5) (I T 6) (I T 7) (I T 8) (I T 9) (L T 10))(pre0:CJ (L T 11)=true)(pre1:(65536≤I T 1∧I T 1≤4194304)∧65536≤I T 2∧I T 2≤4194304)(h12:(I T 12)=((L T 11)).length)(inv0:0≤I T 13∧I T 13≤((L T 11)).length∧∀q:Nat,(q:Int) < I T 13→By (I T 1) (I T 2) ((L T 11)) q)(np0:¬B T 38=true)(inv1:0≤I T 35∧((I T 35)≤I T 34)∧∀q:Nat,(q:Int) < I T 35→¬Cv (I T 16) (I T 17) (I T 18) (AA ((L T 33)) q 0) (AA ((L T 33)) q 1) (AA ((L T 33)) q 2) < 0)(np1:¬B T 46=true)(g11:((L T 11)).length≤140737488355328)(A0:AI T nj)(C0_0:AI T EX)(B1:AI T DY)(C0_1:AI T Hh)(A2:AI T Rp):
  ((B T 50)=(Dm (I T 1) (I T 2) (L T 11))):=by
 have F0:=A0;clear A0
 obtain⟨F1,C0_0⟩:=C0_0.cut
 have F2:=C0_0;clear C0_0
 have F3:=B1;clear B1
 have F4:=C0_1;clear C0_1
 have F5:=A2;clear A2
 ·obtain⟨e12,-⟩:=F0
  obtain⟨e14,-,e16,e17,e18,e19,e20,-,e22,e23,-,e25,e26,-,e28,e29,-⟩:=F1
  obtain⟨e30,e31,e32,e33,e34,-⟩:=F2
  obtain⟨e36,e37,e38,e39,e40,e41,e42,-,e44,e45,e46,-⟩:=F3
  obtain⟨e48,-⟩:=F4
  obtain⟨e50,-⟩:=F5
  replace e42:I T 42=(Cv (I T 16) (I T 17) (I T 18) (I T 39) (I T 40) (I T 41)):=e42
  simp only[AE,AG,zN,zC,zR,w2P,zL] at*
  obtain⟨w1,w2,w3⟩:=inv0
  obtain⟨v1,v2,v3⟩:=inv1
  have h45:∀h:(B T 45)=true,(I T 35) < I T 34∧Cv (I T 16) (I T 17) (I T 18) (I T 39) (I T 40) (I T 41) < 0:=fun h=>by
   have:=e45.1 h
   refine⟨e36.1 (e37.1 this.1).2,?_⟩
   have:=e44.1 this.2
   rwa [e42] at this
  refine Bool.eq_iff_iff.2 (Iff.trans ?_ KU.symm)
  have hb:(B T 50)=true↔¬B T 48=true:=by rw[e50];simp
  have n0:¬B T 38=true:=fun h=>by simp[np0] at h
  have n1:¬B T 46=true:=fun h=>by simp[np1] at h
  rw[hb,e48]
  constructor
  ·intro h
   have h31:¬B T 31=true:=fun q=>h (.inl q)
   have h45':¬B T 45=true:=fun q=>h (.inr q)
   have hn:¬I T 13 < ((L T 11)).length:=fun hlt=>by
    have h14:(B T 14)=true:=e14.2 (by omega)
    have h30:(B T 30)=false:=by
     cases k:(B T 30) with
     |false=>rfl
     |true=>exact absurd (e31.2 ⟨h14,k⟩) h31
    have h32:(B T 32)=true:=e32.2 ⟨h14,h30⟩
    have h36:(B T 36)=true:=by
     cases k:(B T 36) with
     |true=>rfl
     |false=>exact absurd (e38.2 ⟨h32,k⟩) n0
    have h37:(B T 37)=true:=e37.2 ⟨h32,h36⟩
    cases k:(B T 44) with
    |true=>exact h45' (e45.2 ⟨h37,k⟩)
    |false=>exact n1 (e46.2 ⟨h37,k⟩)
   exact fun i hi=>w3 i (by omega)
  ·intro hall
   have hr:=DX.1 pre0
   rintro (h|h)
   ·have h31:=e31.1 h
    have h14:=e14.1 h31.1
    have pk:=hall (I T 13).toNat (by omega)
    have r13:=hr (I T 13).toNat (by omega)
    unfold By at pk
    rw[←e16,←e17,←e18] at pk
    rw[←e18] at r13
    have d19:=e19 (by omega) (by omega)
    have d25:=e25 (by omega) (by omega)
    have h30:=h31.2
    obtain⟨p1,p2,-⟩:=pk
    clear e19 e25 e16 e17 e18 w3 v3 hall hr e45 h45 e42 e44 e36 e37 e38 e46 n0 n1 np0 np1 hb e50 e48
    grind
   ·have h2:=h45 h
    have hc:=e45.1 h
    have h14:=e14.1 (e32.1 (e37.1 hc.1).1).1
    have hn:(I T 34)=I T 13:=by rw[e34,e33,List.length_take];omega
    have pk:=hall (I T 13).toNat (by omega)
    have pj:=hall (I T 35).toNat (by omega)
    have r13:=hr (I T 13).toNat (by omega)
    have rj:=hr (I T 35).toNat (by omega)
    have hlt:(I T 35).toNat < (I T 13).toNat:=by omega
    rw[e39,e40,e41,e33,Ga hlt,Ga hlt,Ga hlt,e16,e17,e18,Pz (w:=I T 1) (h:=I T 2) pre1.1.2 pre1.2.2 r13 rj pk.1 pk.2.1 pj.1 pj.2.1] at h2
    exact pk.2.2 (I T 35).toNat hlt h2.2
theorem eu:Ao Try.prog 107 Dw:=by
 refine AZ (l:=[(118,K0)]) BH (by simp only[List.forall_mem_cons];exact⟨dZ,fun _ h=>absurd h (by simp)⟩) f9 (by kernel_rfl) fun T us hpre hT hul hS hBd hE=>?_
 change us.length=12 at hul
 obtain⟨hz0,-,-,-,⟨hl4,he4⟩,-,-,-,-,-,⟨hl10,he10⟩,⟨hl11,he11⟩,-⟩:=hBd
 replace hz0:(S T 0).size≤140737488355328:=hz0
 replace hl4:(L T 4).length≤140737488355328:=hl4
 replace hl10:(L T 10).length≤140737488355328:=hl10
 replace hl11:(L T 11).length≤140737488355328:=hl11
 obtain⟨g,hg⟩:∃g:Ln,g=Ln.mk (S T 0) (I T 1) (I T 2) (I T 3) (L T 4) (I T 5) (I T 6) (I T 7) (I T 8) (I T 9) (L T 10):=⟨_,rfl⟩
 have hgu:gAt 0 us=g:=by rw[hg];exact Cu hT hul (by decide)
 have ha1:aI us 1=I T 1:=inI hT hul (by decide)
 have ha2:aI us 2=I T 2:=inI hT hul (by decide)
 have ha11:aL us 11=L T 11:=inL hT hul (by decide)
 have pre0:CJ (L T 11)=true:=by
  have h:=hpre (.s "apart.p0",Hl) (by simp[Dw])
  change Hl us at h
  unfold Hl at h
  simp only[ha11] at h
  exact h
 have pre1:(65536≤I T 1∧I T 1≤4194304)∧65536≤I T 2∧I T 2≤4194304:=by
  have h:=hpre (.s "apart.p1",Hk) (by simp[Dw])
  change Hk us at h
  unfold Hk at h
  simp only[ha1,ha2] at h
  exact h
 clear hpre
 rw[List.map_append,List.map_append,List.map_append] at hE
 have hA:=hE.left
 replace hE:=hE.right
 have hH:=hE.left
 replace hE:=hE.right
 have hB:=hE.left
 replace hE:=hE.right
 obtain⟨A0,hS1⟩:=AV hS (by kernel_rfl) hA
 have h12:=Zc hz0 hl4 hl10 hl11 g hg pre0 pre1 A0
 obtain⟨ow0,hS2,inv0,np0⟩:=bD hl11 pre0 pre1 h12 hS1 hB hH
 have g11:((L T 11)).length≤140737488355328:=by
  have fv11:L T 11=L T 11:=rfl
  have fv2:I T 2=I T 2:=rfl
  have fv1:I T 1=I T 1:=rfl
  have fv12:I T 12=I T 12:=rfl
  have inv:=inv0
  rw[fv11];exact hl11
 obtain⟨C0_0,ow1,inv1,np1,B1,C0_1,hSe⟩:=SM g11 (hS2.append (Dj (fun _ _=>rfl) hS1)) hB
 have hS:=hSe.append hS1
 clear hA hB hH hS1 hS2 hSe
 obtain⟨A2,hO⟩:=Ap (tys:=[.b]) (rs:=Xo) hS (by kernel_rfl) hE
 have q0:=fu hz0 hl4 hl10 hl11 g hg pre0 pre1 h12 inv0 np0 inv1 np1 g11 A0 C0_0 B1 C0_1 A2
 refine⟨⟨(fun _=>ow0),trivial⟩,hO.trans ?_⟩
 exact (lc (by show U.bool (B T 50)= .bool (KN us);unfold KN;rw[ha1,ha11,ha2];exact congrArg U.bool q0) rfl)
end Go.Eng
end
