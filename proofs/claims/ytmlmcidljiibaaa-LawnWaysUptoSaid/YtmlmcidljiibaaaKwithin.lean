/-
  A part of the proof: K_withind K_within.
-/
import Derived.Test.YtmlmcidljiibaaaXQlWays
import Derived.Test.YtmlmcidljiibaaaE3
import Derived.Test.YtmlmcidljiibaaaE4
import Derived.Test.YtmlmcidljiibaaaKhas
set_option linter.unusedVariables false
set_option linter.unusedSimpArgs false
noncomputable section
open Go Go.Eng Go.Proofs
set_option maxHeartbeats 4000000
set_option maxRecDepth 100000
namespace Go.Eng
def Gf:List U→Bool:=fun us=>(Iy (aL us 0) (aL us 1))
def HQ:Ak:={ sh:=[.one (.list [k64]),.one (.list [k64])],blks:=[],outs:=[(.s "within.0",DF Gf)],c:= .b 2,m':=[],pre:=[] }
def Pp:List En:=[]
def Uv:List En:=[⟨3,.len,[.e 0]⟩,
 ⟨4,.lt,[.e 2,.e 3]⟩,
 ⟨5,.not,[.e 4]⟩,
 ⟨6,.get .i 0,[.e 0,.e 2]⟩,
 ⟨7,.outB "has.0" LM,[.e 1,.e 6]⟩,
 ⟨8,.and,[.e 4,.e 7]⟩,
 ⟨9,.and,[.e 4,.n 7]⟩,
 ⟨10,.w2 .i64 .add,[.e 2,.c (.int 1)]⟩]
def EC:List En:=Uv
def Qh:List ObE:=[⟨some 4,.inl,[.e 2,.e 0]⟩]
def Ii:Ae:=mkD 2 1 EC 8 [.e 10] Qh [1,0]
def Lh:List Rf:=[.e 1,.e 0,.c (.int 0)]
def VK:List En:=[⟨11,.ite .b,[.e 9,.c (.bool false),.c (.bool true)]⟩,
 ⟨12,.or,[.e 9,.e 5]⟩]
def PW:List En:=VK
def eg:List ObE:=[⟨none,.owes Ii,[.e 1,.e 0,.c (.int 0)]⟩]
def Uu:List Rf:=[.e 11]
theorem du:HQ.sees Uu (HQ.run Try.prog [(18,Jz)] Ag 3000 20 22)=some ((Pp++((Ax Ii [.i] Lh)++(EC++(PW)))).map En.be,eg.map ObE.be,[]):=by kernel_rfl
theorem YY {T:Tab}(hl0:(L T 0).length≤140737488355328)(hS:AL T (Am (BG 0 HQ.ks) Pp))(hB:AX T (EC.map En.be))(hH:AX T ((Ax Ii [.i] Lh).map En.be)):
  (Ii).owes (Lh.map (Rf.eval T))∧AL T (hds 2 [.i])∧(0≤I T 2∧I T 2≤((L T 0)).length∧∀q:Nat,(q:Int) < I T 2→EJ ((L T 1)) (AA ((L T 0)) q 0)=true)∧¬B T 8=true:=by
 refine BS (nh:=2) (k:=1) (pcn:=8) (top:=11) (bes:=EC) (bos:=Qh) (nxt:=[.e 10]) (inits:=[.c (.int 0)]) (fv:=[1,0]) (tys:=[.i]) (by kernel_rfl) rfl rfl rfl rfl hS (by kernel_rfl) (by kernel_rfl) hB (Ay hH) (fun s=>0≤(aI s 0)∧(aI s 0)≤((L T 0)).length∧∀q:Nat,(q:Int) < (aI s 0)→EJ ((L T 1)) (AA ((L T 0)) q 0)=true) (fun s=>(((L T 0)).length - (aI s 0)).toNat) ?_ ?_
 ·show 0≤(0:Int)∧(0:Int)≤((L T 0)).length∧∀q:Nat,(q:Int) < (0:Int)→EJ ((L T 1)) (AA ((L T 0)) q 0)=true
  clear hS hB hH
  exact⟨by omega,by omega,fun q h=>absurd h (by omega)⟩
 ·intro T2 hfv hF inv
  replace inv:0≤I T2 2∧I T2 2≤((L T 0)).length∧∀q:Nat,(q:Int) < I T2 2→EJ ((L T 1)) (AA ((L T 0)) q 0)=true:=inv
  clear hS hB hH
  replace hF:AI T2 EC:=hF
  have F0:=hF;clear hF
  have fv1:L T2 1=L T 1:=fvL (hfv 1 (by decide))
  have fv0:L T2 0=L T 0:=fvL (hfv 0 (by decide))
  clear hfv
  suffices hz:(B T2 4=true→0≤I T2 2∧I T2 2 < ((L T2 0)).length)∧(B T2 8=true→(0≤I T2 10∧I T2 10≤((L T 0)).length∧∀q:Nat,(q:Int) < I T2 10→EJ ((L T 1)) (AA ((L T 0)) q 0)=true))∧(B T2 8=true→(((L T 0)).length - (I T2 10)).toNat < (((L T 0)).length - (I T2 2)).toNat) from
   let⟨r0,nx,mz⟩:=hz;⟨⟨r0,trivial⟩,fun hp=>⟨nx hp,mz hp⟩⟩
  refine⟨?_,?_,?_⟩
  ·obtain⟨e3,e4,-⟩:=F0
   simp only[AE,zR,zL] at e3 e4
   obtain⟨v1,v2,v3⟩:=inv
   intro hp
   have h:=e4.1 hp
   rw[e3,fv0] at h
   rw[fv0]
   omega
  ·obtain⟨e3,e4,-,e6,e7,e8,-,e10,-⟩:=F0
   replace e7:B T2 7=(EJ (L T2 1) (I T2 6)):=e7
   simp only[AE,AG,zR,w2P,zL] at*
   obtain⟨v1,v2,v3⟩:=inv
   intro hp
   have hq:=e8.1 hp
   have h:=e4.1 hq.1
   rw[e3,fv0] at h
   have e:(I T2 10)=I T2 2+1:=e10 (by omega) (by omega)
   refine⟨by omega,by omega,fun q hq'=>?_⟩
   by_cases hq2:(q:Int) < I T2 2
   ·exact v3 q hq2
   obtain rfl:q=(I T2 2).toNat:=by omega
   rw[←fv0,←fv1,←e6,←e7]
   exact hq.2
  ·obtain⟨e3,e4,-,e6,e7,e8,-,e10,-⟩:=F0
   replace e7:B T2 7=(EJ (L T2 1) (I T2 6)):=e7
   simp only[AE,AG,zR,w2P,zL] at*
   obtain⟨v1,v2,v3⟩:=inv
   intro hp
   have hq:=e8.1 hp
   have h:=e4.1 hq.1
   rw[e3,fv0] at h
   have e:(I T2 10)=I T2 2+1:=e10 (by omega) (by omega)
   omega
theorem eC {T:Tab}(hl0:(L T 0).length≤140737488355328)(hl1:(L T 1).length≤140737488355328)(inv0:0≤I T 2∧I T 2≤((L T 0)).length∧∀q:Nat,(q:Int) < I T 2→EJ ((L T 1)) (AA ((L T 0)) q 0)=true)(np0:¬B T 8=true)(B0:AI T EC)(A1:AI T PW):
  ((B T 11)=(Iy (L T 0) (L T 1))):=by
 have F0:=B0;clear B0
 have F1:=A1;clear A1
 ·obtain⟨e3,e4,-,e6,e7,e8,e9,-⟩:=F0
  obtain⟨e11,-⟩:=F1
  replace e7:B T 7=(EJ (L T 1) (I T 6)):=e7
  simp only[AE,AG,zN,zC,zR,zL] at*
  obtain⟨v1,v2,v3⟩:=inv0
  refine Bool.eq_iff_iff.2 ?_
  rw[Py]
  have h11:(B T 11)=true↔B T 9=false:=by clear v3 e7;grind
  rw[h11]
  constructor
  ·intro h
   have hn:¬I T 2 < ((L T 0)).length:=fun hlt=>by
    have h4:(B T 4)=true:=e4.2 (by omega)
    cases k:(B T 7) with
    |true=>have z:=e8.2 ⟨h4,k⟩;simp[np0] at z
    |false=>have z:=e9.2 ⟨h4,k⟩;simp[h] at z
   exact fun j hj=>v3 j (by omega)
  ·intro hall
   refine Bool.eq_false_iff.2 fun k=>?_
   have h1:=e9.1 k
   have h2:=e4.1 h1.1
   have h3:=hall (I T 2).toNat (by omega)
   rw[←e6,←e7,h1.2] at h3
   exact Bool.false_ne_true h3
theorem Zh:Ao Try.prog 22 HQ:=by
 refine AZ (l:=[(18,Jz)]) BH (by simp only[List.forall_mem_cons];exact⟨bu,fun _ h=>absurd h (by simp)⟩) du (by kernel_rfl) fun T us hpre hT hul hS hBd hE=>?_
 change us.length=2 at hul
 obtain⟨⟨hl0,he0⟩,⟨hl1,he1⟩,-⟩:=hBd
 replace hl0:(L T 0).length≤140737488355328:=hl0
 replace hl1:(L T 1).length≤140737488355328:=hl1
 have ha0:aL us 0=L T 0:=inL hT hul (by decide)
 have ha1:aL us 1=L T 1:=inL hT hul (by decide)
 clear hpre
 rw[List.map_append,List.map_append,List.map_append] at hE
 have hA:=hE.left
 replace hE:=hE.right
 have hH:=hE.left
 replace hE:=hE.right
 have hB:=hE.left
 replace hE:=hE.right
 obtain⟨A0,hS1⟩:=AV hS (by kernel_rfl) hA
 obtain⟨ow0,hS2,inv0,np0⟩:=YY hl0 hS1 hB hH
 have hF2:=(AV (hS2.append hS1) (l:=EC) (by kernel_rfl) hB)
 obtain⟨B0,hS⟩:=hF2
 clear hA hB hH hS1 hS2
 obtain⟨A1,hO⟩:=Ap (tys:=[.b]) (rs:=Uu) hS (by kernel_rfl) hE
 have q0:=eC hl0 hl1 inv0 np0 B0 A1
 refine⟨⟨(fun _=>ow0),trivial⟩,hO.trans ?_⟩
 exact (lc (by show U.bool (B T 11)= .bool (Gf us);unfold Gf;rw[ha0,ha1];exact congrArg U.bool q0) rfl)
end Go.Eng
end
