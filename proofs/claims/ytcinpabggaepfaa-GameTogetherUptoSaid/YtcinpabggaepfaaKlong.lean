/-
  A part of the proof: K_longd K_long.
-/
import Derived.Test.YtcinpabggaepfaaE3
import Derived.Test.YtcinpabggaepfaaE4
set_option linter.unusedVariables false
set_option linter.unusedSimpArgs false
noncomputable section
open Go Go.Eng Go.Proofs
set_option maxHeartbeats 4000000
set_option maxRecDepth 100000
namespace Go.Eng
def LZ:List U→Bool:=fun us=>(V8 (aL us 0))
def LQ:Bc:={ sh:=[.one (.list [k64,k64,.bool,.list [k64,k64]])],blks:=[],outs:=[(.s "long.0",AQ LZ)],c:= .b 1,m':=[],pre:=[] }
def eF:List En:=[⟨1,.len,[.e 0]⟩,
 ⟨2,.lt,[.c (.int 100),.e 1]⟩,
 ⟨3,.id .b,[.e 2]⟩,
 ⟨4,.len,[.e 0]⟩,
 ⟨5,.le,[.e 4,.c (.int 1000)]⟩,
 ⟨6,.and,[.e 2,.e 5]⟩,
 ⟨7,.not,[.e 6]⟩,
 ⟨8,.len,[.e 0]⟩,
 ⟨9,.lt,[.c (.int 1100),.e 8]⟩,
 ⟨10,.or,[.e 6,.e 9]⟩,
 ⟨11,.not,[.e 10]⟩]
def dt:List En:=[⟨13,.len,[.e 0]⟩,
 ⟨14,.lt,[.e 12,.e 13]⟩,
 ⟨15,.and,[.e 11,.e 14]⟩,
 ⟨16,.and,[.e 11,.n 14]⟩,
 ⟨17,.get .l 3,[.e 0,.e 12]⟩,
 ⟨18,.len,[.e 17]⟩,
 ⟨19,.lt,[.c (.int 40),.e 18]⟩,
 ⟨20,.and,[.e 15,.e 19]⟩,
 ⟨21,.and,[.e 15,.n 19]⟩,
 ⟨22,.w2 .i64 .add,[.e 12,.c (.int 1)]⟩]
def P6:List En:=eF
def Hv:List En:=dt
def W4:List ObE:=[⟨some 15,.inl,[.e 12,.e 0]⟩]
def Lf:BW:=mkD 12 1 Hv 21 [.e 22] W4 [0,11]
def Pq:List Rf:=[.e 0,.e 11,.c (.int 0)]
def cI:List En:=[⟨23,.ite .b,[.e 20,.c (.bool true),.c (.bool false)]⟩,
 ⟨24,.or,[.e 20,.e 16]⟩,
 ⟨25,.ite .b,[.e 10,.c (.bool true),.e 23]⟩,
 ⟨26,.or,[.e 10,.e 24]⟩]
def Wg:List En:=cI
def kw:List ObE:=[⟨some 11,.owes Lf,[.e 0,.e 11,.c (.int 0)]⟩]
def fk:List Rf:=[.e 25]
theorem lH:LQ.sees fk (LQ.run Try.prog [] RN 3000 20 20)=some ((P6++((Ek Lf [.i] Pq)++(Hv++(Wg)))).map En.be,kw.map ObE.be,[]):=by kernel_rfl
theorem iV {T:Tab}(hl0:(L T 0).length≤140737488355328)(hS:Ay T (J7 (EE 0 LQ.ks) P6))(hB:CJ T (Hv.map En.be))(hH:CJ T ((Ek Lf [.i] Pq).map En.be)):
  (Lf).owes (Pq.map (Rf.eval T))∧Ay T (hds 12 [.i])∧(0≤I T 12∧I T 12≤((L T 0)).length∧(∀j:Nat,(j:Int) < I T 12→¬40 < (EF (L T 0) j 3).length))∧¬B T 21=true:=by
 refine Gx (nh:=12) (k:=1) (pcn:=21) (top:=23) (bes:=Hv) (bos:=W4) (nxt:=[.e 22]) (inits:=[.c (.int 0)]) (fv:=[0,11]) (tys:=[.i]) (by kernel_rfl) rfl rfl rfl rfl hS (by kernel_rfl) (by kernel_rfl) hB (Ec hH) (fun s=>0≤(aI s 0)∧(aI s 0)≤((L T 0)).length∧(∀j:Nat,(j:Int) < (aI s 0)→¬40 < (EF (L T 0) j 3).length)) (fun s=>(((L T 0)).length - (aI s 0)).toNat) ?_ ?_
 ·show 0≤(0:Int)∧(0:Int)≤((L T 0)).length∧(∀j:Nat,(j:Int) < (0:Int)→¬40 < (EF (L T 0) j 3).length)
  clear hS hB hH
  exact⟨by omega,by omega,fun j hj=>absurd hj (by omega)⟩
 ·intro T2 hfv hF inv
  replace inv:0≤I T2 12∧I T2 12≤((L T 0)).length∧(∀j:Nat,(j:Int) < I T2 12→¬40 < (EF (L T 0) j 3).length):=inv
  clear hS hB hH
  replace hF:AK T2 Hv:=hF
  have F0:=hF;clear hF
  have fv0:L T2 0=L T 0:=fvL (hfv 0 (by decide))
  have fv11:B T2 11=B T 11:=fvB (hfv 11 (by decide))
  clear hfv
  suffices hz:(B T2 15=true→0≤I T2 12∧I T2 12 < ((L T2 0)).length)∧(B T2 21=true→(0≤I T2 22∧I T2 22≤((L T 0)).length∧(∀j:Nat,(j:Int) < I T2 22→¬40 < (EF (L T 0) j 3).length)))∧(B T2 21=true→(((L T 0)).length - (I T2 22)).toNat < (((L T 0)).length - (I T2 12)).toNat) from
   let⟨r0,nx,mz⟩:=hz;⟨⟨r0,trivial⟩,fun hp=>⟨nx hp,mz hp⟩⟩
  refine⟨?_,?_,?_⟩
  ·obtain⟨e13,e14,e15,-⟩:=F0
   simp only[AA,AD,zR,zL] at e13 e14 e15
   obtain⟨v1,v2,v3⟩:=inv
   clear v3
   grind
  ·obtain⟨e13,e14,e15,-,e17,e18,e19,-,e21,e22,-⟩:=F0
   simp only[AA,AD,zN,zR,w2P,zL] at*
   intro hp
   obtain⟨v1,v2,v3⟩:=inv
   have hlt:(I T2 12) < ((L T 0)).length:=by clear v3;grind
   have e:(I T2 22)=I T2 12+1:=e22 (by omega) (by omega)
   refine⟨by omega,by omega,fun j hj=>?_⟩
   by_cases hj2:(j:Int) < I T2 12
   ·exact v3 j hj2
   ·obtain rfl:j=(I T2 12).toNat:=by omega
    clear v3
    grind
  ·obtain⟨e13,e14,e15,-,-,-,-,-,e21,e22,-⟩:=F0
   simp only[AA,AD,zN,zR,w2P,zL] at*
   intro hp
   obtain⟨v1,v2,v3⟩:=inv
   have hlt:(I T2 12) < ((L T 0)).length:=by clear v3;grind
   have e:(I T2 22)=I T2 12+1:=e22 (by omega) (by omega)
   omega
theorem kq {T:Tab}(hl0:(L T 0).length≤140737488355328)(inv0:0≤I T 12∧I T 12≤((L T 0)).length∧(∀j:Nat,(j:Int) < I T 12→¬40 < (EF (L T 0) j 3).length))(np0:¬B T 21=true)(A0:AK T P6)(B0:AK T Hv)(A1:AK T Wg):
  ((B T 25)=(V8 (L T 0))):=by
 have F0:=A0;clear A0
 have F1:=B0;clear B0
 have F2:=A1;clear A1
 ·obtain⟨e1,e2,-,e4,e5,e6,-,e8,e9,e10,e11,-⟩:=F0
  obtain⟨e13,e14,e15,-,e17,e18,e19,e20,e21,-⟩:=F1
  obtain⟨e23,-,e25,-⟩:=F2
  simp only[AA,AD,zN,zC,zR,zL] at*
  obtain⟨w1,w2,w3⟩:=inv0
  refine Bool.eq_iff_iff.2 (Iff.trans ?_ fx.symm)
  constructor
  ·intro h
   cases h10:(B T 10) with
   |true=>left;clear w3;grind
   |false=>right;exact⟨(I T 12).toNat,by clear w3;grind,by clear w3;grind⟩
  ·rintro (h|⟨j,hj,h⟩)
   ·clear w3;grind
   ·refine Classical.byContradiction fun hn=>?_
    have hle:(((L T 0)).length:Int)≤I T 12:=by clear w3;grind
    exact w3 j (by omega) h
theorem ju:CA Try.prog 20 LQ:=by
 refine Bu (l:=[]) C6 (by intro p h;exact absurd h (by simp)) lH (by kernel_rfl) fun T us hpre hT hul hS hBd hE=>?_
 change us.length=1 at hul
 obtain⟨⟨hl0,he0⟩,-⟩:=hBd
 replace hl0:(L T 0).length≤140737488355328:=hl0
 have ha0:aL us 0=L T 0:=inL hT hul (by decide)
 clear hpre
 rw[List.map_append,List.map_append,List.map_append] at hE
 have hA:=hE.left
 replace hE:=hE.right
 have hH:=hE.left
 replace hE:=hE.right
 have hB:=hE.left
 replace hE:=hE.right
 obtain⟨A0,hS1⟩:=Cp hS (by kernel_rfl) hA
 obtain⟨ow0,hS2,inv0,np0⟩:=iV hl0 hS1 hB hH
 have hF2:=(Cp (hS2.append hS1) (l:=Hv) (by kernel_rfl) hB)
 obtain⟨B0,hS⟩:=hF2
 clear hA hB hH hS1 hS2
 obtain⟨A1,hO⟩:=CK (tys:=[.b]) (rs:=fk) hS (by kernel_rfl) hE
 have q0:=kq hl0 inv0 np0 A0 B0 A1
 refine⟨⟨(fun _=>ow0),trivial⟩,hO.trans ?_⟩
 exact (lc (by show U.bool (B T 25)= .bool (LZ us);unfold LZ;rw[ha0];exact congrArg U.bool q0) rfl)
end Go.Eng
end
