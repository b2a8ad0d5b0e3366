/-
  A part of the proof: K_chkd K_chk.
-/
import Derived.Test.YtmlmcidljiibaaaE4
import Derived.Test.YtmlmcidljiibaaaE5
import Derived.Test.YtmlmcidljiibaaaKcheck
import Derived.Test.YtmlmcidljiibaaaKtcheck
set_option linter.unusedVariables false
set_option linter.unusedSimpArgs false
noncomputable section
open Go Go.Eng Go.Proofs
set_option maxHeartbeats 4000000
set_option maxRecDepth 100000
namespace Go.Eng
def K9:List U→Int:=fun us=>(Br (gAt 0 us) (aL us 11))
def J1:Ak:={ sh:=[.agg [.str,k64,k64,k64,.list [k64,k64,k64,k64,.bool],k64,k64,k64,k64,k64,.list [k64,k64,k64]],.one (.list [k64,k64])],blks:=[],outs:=[(.s "chk.0",Bi K9)],c:=(CP 12),m':=[],pre:=[] }
def Qu:List Rf:=[.e 0,.e 1,.e 2,.e 3,.e 4,.e 5,.e 6,.e 7,.e 8,.e 9,.e 10]
def bH:List En:=[⟨12,.outI "check.0" Hy,Qu⟩,
 ⟨13,.ne,[.e 12,.c (.int 0)]⟩,
 ⟨14,.not,[.e 13]⟩,
 ⟨15,.len,[.e 11]⟩]
def Nu:List En:=bH
def aE:List En:=[⟨17,.lt,[.e 16,.e 15]⟩,
 ⟨18,.and,[.e 14,.e 17]⟩,
 ⟨19,.and,[.e 14,.n 17]⟩,
 ⟨20,.get .i 0,[.e 11,.e 16]⟩,
 ⟨21,.get .i 1,[.e 11,.e 16]⟩,
 ⟨22,.outI "tcheck.0" FM,[.e 20,.e 21]⟩,
 ⟨23,.ne,[.e 22,.c (.int 0)]⟩,
 ⟨24,.and,[.e 18,.e 23]⟩,
 ⟨25,.and,[.e 18,.n 23]⟩,
 ⟨26,.w2 .i64 .add,[.e 16,.c (.int 1)]⟩]
def HS:List En:=aE
def Xb:List ObE:=[⟨some 18,.inl,[.e 16,.e 11]⟩]
def No:Ae:=mkD 16 1 HS 25 [.e 26] Xb [11,14,15]
def RJ:List Rf:=[.e 11,.e 14,.e 15,.c (.int 0)]
def bg:List En:=[⟨27,.ite .i,[.e 24,.c (.int 2),.c (.int 0)]⟩,
 ⟨28,.or,[.e 24,.e 19]⟩,
 ⟨29,.ite .i,[.e 13,.e 12,.e 27]⟩,
 ⟨30,.or,[.e 13,.e 28]⟩]
def XC:List En:=bg
def jv:List ObE:=[⟨some 14,.owes No,[.e 11,.e 14,.e 15,.c (.int 0)]⟩]
def fC:List Rf:=[.e 29]
theorem jb:J1.sees fC (J1.run Try.prog [(86,FI),(76,EA)] Ag 3000 20 52)=some ((Nu++((Ax No [.i] RJ)++(HS++(XC)))).map En.be,jv.map ObE.be,[]):=by kernel_rfl
theorem cp {T:Tab}(hz0:(S T 0).size≤140737488355328)(hl4:(L T 4).length≤140737488355328)(hl10:(L T 10).length≤140737488355328)(hl11:(L T 11).length≤140737488355328)(g:Ln)(hg:g=Ln.mk (S T 0) (I T 1) (I T 2) (I T 3) (L T 4) (I T 5) (I T 6) (I T 7) (I T 8) (I T 9) (L T 10))(g1:Ln)(z1:g1=Ln.mk (S T 0) (I T 1) (I T 2) (I T 3) (L T 4) (I T 5) (I T 6) (I T 7) (I T 8) (I T 9) (L T 10))(A0:AI T Nu):
  ((I T 15)=((L T 11)).length):=by
 have F0:=A0;clear A0
 have h15:(I T 15)=((L T 11)).length:=by
  obtain⟨-,-,-,e15,-⟩:=F0
  simp only[AE,zR,zL] at e15
  exact e15
 exact h15
theorem fx {T:Tab}(hl11:(L T 11).length≤140737488355328)(h15:(I T 15)=((L T 11)).length)(hS:AL T (Am (BG 0 J1.ks) Nu))(hB:AX T (HS.map En.be))(hH:AX T ((Ax No [.i] RJ).map En.be)):
  (No).owes (RJ.map (Rf.eval T))∧AL T (hds 16 [.i])∧(0≤I T 16∧I T 16≤((L T 11)).length∧∀q:Nat,(q:Int) < I T 16→AF (AA ((L T 11)) q 0) (AA ((L T 11)) q 1)=true)∧¬B T 25=true:=by
 refine BS (nh:=16) (k:=1) (pcn:=25) (top:=27) (bes:=HS) (bos:=Xb) (nxt:=[.e 26]) (inits:=[.c (.int 0)]) (fv:=[11,14,15]) (tys:=[.i]) (by kernel_rfl) rfl rfl rfl rfl hS (by kernel_rfl) (by kernel_rfl) hB (Ay hH) (fun s=>0≤(aI s 0)∧(aI s 0)≤((L T 11)).length∧∀q:Nat,(q:Int) < (aI s 0)→AF (AA ((L T 11)) q 0) (AA ((L T 11)) q 1)=true) (fun s=>(((L T 11)).length - (aI s 0)).toNat) ?_ ?_
 ·show 0≤(0:Int)∧(0:Int)≤((L T 11)).length∧∀q:Nat,(q:Int) < (0:Int)→AF (AA ((L T 11)) q 0) (AA ((L T 11)) q 1)=true
  clear hS hB hH
  exact⟨by omega,by omega,fun q h=>absurd h (by omega)⟩
 ·intro T2 hfv hF inv
  replace inv:0≤I T2 16∧I T2 16≤((L T 11)).length∧∀q:Nat,(q:Int) < I T2 16→AF (AA ((L T 11)) q 0) (AA ((L T 11)) q 1)=true:=inv
  clear hS hB hH
  replace hF:AI T2 HS:=hF
  have F0:=hF;clear hF
  have fv11:L T2 11=L T 11:=fvL (hfv 11 (by decide))
  have fv14:B T2 14=B T 14:=fvB (hfv 14 (by decide))
  have fv15:I T2 15=I T 15:=fvI (hfv 15 (by decide))
  clear hfv
  suffices hz:(B T2 18=true→0≤I T2 16∧I T2 16 < ((L T2 11)).length)∧(B T2 25=true→(0≤I T2 26∧I T2 26≤((L T 11)).length∧∀q:Nat,(q:Int) < I T2 26→AF (AA ((L T 11)) q 0) (AA ((L T 11)) q 1)=true))∧(B T2 25=true→(((L T 11)).length - (I T2 26)).toNat < (((L T 11)).length - (I T2 16)).toNat) from
   let⟨r0,nx,mz⟩:=hz;⟨⟨r0,trivial⟩,fun hp=>⟨nx hp,mz hp⟩⟩
  refine⟨?_,?_,?_⟩
  ·obtain⟨e17,e18,-⟩:=F0
   simp only[AE,AG,zR] at e17 e18
   obtain⟨v1,v2,v3⟩:=inv
   intro hp
   have h:=e17.1 (e18.1 hp).2
   rw[fv11]
   omega
  ·obtain⟨e17,e18,-,e20,e21,e22,e23,-,e25,e26,-⟩:=F0
   replace e22:I T2 22=(if AF (I T2 20) (I T2 21)=true then 0 else 2):=e22
   simp only[AE,AG,zN,zR,w2P,zL] at*
   obtain⟨v1,v2,v3⟩:=inv
   intro hp
   have hq:=e25.1 hp
   have h:=e17.1 (e18.1 hq.1).2
   have e:(I T2 26)=I T2 16+1:=e26 (by omega) (by omega)
   refine⟨by omega,by omega,fun q hq'=>?_⟩
   by_cases hq2:(q:Int) < I T2 16
   ·exact v3 q hq2
   obtain rfl:q=(I T2 16).toNat:=by omega
   rw[←fv11,←e20,←e21]
   have h23:=hq.2
   clear v3
   grind
  ·obtain⟨e17,e18,-,e20,e21,e22,e23,-,e25,e26,-⟩:=F0
   replace e22:I T2 22=(if AF (I T2 20) (I T2 21)=true then 0 else 2):=e22
   simp only[AE,AG,zN,zR,w2P,zL] at*
   obtain⟨v1,v2,v3⟩:=inv
   intro hp
   have h:=e17.1 (e18.1 (e25.1 hp).1).2
   have e:(I T2 26)=I T2 16+1:=e26 (by omega) (by omega)
   omega
theorem je {T:Tab}(hz0:(S T 0).size≤140737488355328)(hl4:(L T 4).length≤140737488355328)(hl10:(L T 10).length≤140737488355328)(hl11:(L T 11).length≤140737488355328)(g:Ln)(hg:g=Ln.mk (S T 0) (I T 1) (I T 2) (I T 3) (L T 4) (I T 5) (I T 6) (I T 7) (I T 8) (I T 9) (L T 10))(g1:Ln)(z1:g1=Ln.mk (S T 0) (I T 1) (I T 2) (I T 3) (L T 4) (I T 5) (I T 6) (I T 7) (I T 8) (I T 9) (L T 10))(h15:(I T 15)=((L T 11)).length)(inv0:0≤I T 16∧I T 16≤((L T 11)).length∧∀q:Nat,(q:Int) < I T 16→AF (AA ((L T 11)) q 0) (AA ((L T 11)) q 1)=true)(np0:¬B T 25=true)(A0:AI T Nu)(B0:AI T HS)(A1:AI T XC):
  ((I T 29)=(Br g (L T 11))):=by
 have F0:=A0;clear A0
 have F1:=B0;clear B0
 have F2:=A1;clear A1
 have hgg:g1=g:=by
  rw[z1,hg]
 have hf:(B T 14)=true→((B T 24)=false↔B6 ((L T 11))=true):=by
  obtain⟨e12,e13,e14,e15,-⟩:=F0
  obtain⟨e17,e18,-,e20,e21,e22,e23,e24,e25,-⟩:=F1
  replace e12:I T 12=(AO g1):=by rw[←show gAt 0 (Qu.map (Rf.eval T))=g1 from z1.symm];exact e12
  replace e22:I T 22=(if AF (I T 20) (I T 21)=true then 0 else 2):=e22
  simp only[AE,AG,zN,zR,zL] at*
  intro hb
  obtain⟨v1,v2,v3⟩:=inv0
  rw[Up]
  constructor
  ·intro h
   have h2:¬I T 16 < ((L T 11)).length:=fun h2=>by
    have hc:(B T 18)=true:=e18.2 ⟨hb,e17.2 (by omega)⟩
    cases k:(B T 23) with
    |true=>have z:=e24.2 ⟨hc,k⟩;simp[h] at z
    |false=>have z:=e25.2 ⟨hc,k⟩;simp[np0] at z
   exact fun j hj=>v3 j (by omega)
  ·intro hall
   cases k:(B T 24) with
   |false=>rfl
   |true=>
    have h1:=e24.1 k
    have h2:=e17.1 (e18.1 h1.1).2
    have h3:=hall (I T 16).toNat (by omega)
    rw[←e20,←e21] at h3
    have h4:=e23.1 h1.2
    rw[e22,if_pos h3] at h4
    exact absurd rfl h4
 ·obtain⟨e12,e13,e14,e15,-⟩:=F0
  obtain⟨e17,e18,-,e20,e21,e22,e23,e24,e25,-⟩:=F1
  obtain⟨e27,-,e29,-⟩:=F2
  replace e12:I T 12=(AO g1):=by rw[←show gAt 0 (Qu.map (Rf.eval T))=g1 from z1.symm];exact e12
  replace e22:I T 22=(if AF (I T 20) (I T 21)=true then 0 else 2):=e22
  simp only[AE,AG,zN,zR,zL] at*
  unfold Br
  rw[e29,e12,hgg,e27]
  have h13:(B T 13)=true↔¬AO g=0:=by rw[e13,e12,hgg]
  clear e12
  grind
theorem Zt:Ao Try.prog 52 J1:=by
 refine AZ (l:=[(86,FI),(76,EA)]) BH (by simp only[List.forall_mem_cons];exact⟨VF,Nj,fun _ h=>absurd h (by simp)⟩) jb (by kernel_rfl) fun T us hpre hT hul hS hBd hE=>?_
 change us.length=12 at hul
 obtain⟨hz0,-,-,-,⟨hl4,he4⟩,-,-,-,-,-,⟨hl10,he10⟩,⟨hl11,he11⟩,-⟩:=hBd
 replace hz0:(S T 0).size≤140737488355328:=hz0
 replace hl4:(L T 4).length≤140737488355328:=hl4
 replace hl10:(L T 10).length≤140737488355328:=hl10
 replace hl11:(L T 11).length≤140737488355328:=hl11
 obtain⟨g,hg⟩:∃g:Ln,g=Ln.mk (S T 0) (I T 1) (I T 2) (I T 3) (L T 4) (I T 5) (I T 6) (I T 7) (I T 8) (I T 9) (L T 10):=⟨_,rfl⟩
 have hgu:gAt 0 us=g:=by rw[hg];exact Cu hT hul (by decide)
 have ha11:aL us 11=L T 11:=inL hT hul (by decide)
 clear hpre
 rw[List.map_append,List.map_append,List.map_append] at hE
 have hA:=hE.left
 replace hE:=hE.right
 have hH:=hE.left
 replace hE:=hE.right
 have hB:=hE.left
 replace hE:=hE.right
 obtain⟨A0,hS1⟩:=AV hS (by kernel_rfl) hA
 obtain⟨g1,z1⟩:∃g:Ln,g=Ln.mk (S T 0) (I T 1) (I T 2) (I T 3) (L T 4) (I T 5) (I T 6) (I T 7) (I T 8) (I T 9) (L T 10):=⟨_,rfl⟩
 have h15:=cp hz0 hl4 hl10 hl11 g hg g1 z1 A0
 obtain⟨ow0,hS2,inv0,np0⟩:=fx hl11 h15 hS1 hB hH
 have hF2:=(AV (hS2.append hS1) (l:=HS) (by kernel_rfl) hB)
 obtain⟨B0,hS⟩:=hF2
 clear hA hB hH hS1 hS2
 obtain⟨A1,hO⟩:=Ap (tys:=[.i]) (rs:=fC) hS (by kernel_rfl) hE
 have q0:=je hz0 hl4 hl10 hl11 g hg g1 z1 h15 inv0 np0 A0 B0 A1
 refine⟨⟨(fun _=>ow0),trivial⟩,hO.trans ?_⟩
 exact (lc (by show U.int (I T 29)= .int (K9 us);unfold K9;rw[hgu,ha11];exact congrArg U.int q0) rfl)
end Go.Eng
end
