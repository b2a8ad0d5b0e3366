/-
  A part of the proof: the evaluator of code and its soundness.
-/
import Derived.Test.YtikbgnmcfncnaaaE2
import Derived.Scope
import Derived.Deep.Slices
import Derived.OpenShut
import Derived.Below
set_option linter.unusedVariables false
set_option linter.unusedSimpArgs false
noncomputable section
namespace Go.Eng
section
open Go Go.RowKit
section
variable {P:Program}{T:Tab}{call:Au}{aj:Ys}{r:Option Nat}{ai:Nat}{J:Array Oper}{ac:PC}
theorem Dc {a b:Nat}(h:Nat.blt a b=true):a < b:=uF h
theorem Ve {b:Bool}{p:List Nat}{R i k:Nat}:∀{l:List Nat} {M:Nat},Tw b p R i k M l=true->∀j c,l[j]? =some c->M+j < i->(k=3->R.testBit (M+j)=true\/c=0)/\(k=2->R.testBit (M+j)=true\/c<=2\/b=true/\c<=3)
 |[],_,_,j,c,hj,_=>by simp at hj
 |aP::l,M,h,j,c,hj,hlt=>by
  simp only[Tw,tV] at h;cases j with
  |zero=>
   simp at hj;subst hj;have C:=h.1;have u:Nat.ble i M=false:=by
    cases y:Nat.ble i M with
    |false=>rfl
    |true=>have:=uF y;omega
   simp only[u,Bool.false_or,Nat.add_zero] at C⊢;refine⟨fun d=>?_,fun d=>?_⟩
   .subst d;simp only[show Nat.beq 3 3=true from rfl,if_true,uN] at C;exact C.imp (fun h=>h) fun h=>tW h
   .subst d;simp only[show Nat.beq 2 3=false from rfl,show Nat.beq 2 2=true from rfl,uN] at C;rcases (show R.testBit M=true\/Nat.ble aP (bif b then 3 else 2)=true by simpa using C) with h|h
    .exact .inl h
    .cases b with
     |false=>exact .inr (.inl (uF h))
     |true=>exact .inr (.inr ⟨rfl,uF h⟩)
  |succ j=>
   have:=Ve h.2 j c (by simpa using hj) (by omega);rw[show M+1+j=M+(j+1) by omega] at this;exact this
theorem ST {b:Bool}{p:List Nat}:∀{d ks:List Nat} {y:Nat},XB b p y d ks=true->∀i R k,d[i]? =some R->ks[i]? =some k->∀j c,p[j]? =some c->j < y+i->(k=3->R.testBit j=true\/c=0)/\(k=2->R.testBit j=true\/c<=2\/b=true/\c<=3)
 |[],_,_,_,i,R,k,h,_,_,_,_,_=>by simp at h
 |_::_,[],_,_,i,R,k,_,h,_,_,_,_=>by simp at h
 |R0::d,k0::ks,y,h,i,R,k,C,O,j,c,hj,hlt=>by
  simp only[XB,tV] at h;cases i with
  |zero=>
   simp at C O;subst C;subst O;have:=Ve h.1 j c hj (by omega);rw[tj] at this;exact this
  |succ i=>exact ST h.2 i R k (by simpa using C) (by simpa using O) j c hj (by omega)
theorem SZ {R:Nat}:∀{n aM:Nat} {l:List Nat},Te R n aM l=true->∀m c,l[m]? =some c->m < n->R.testBit (aM+m)=true\/c=0
 |0,_,_,_,m,c,_,h=>by omega
 |n+1,_,[],_,m,c,h,_=>by simp at h
 |n+1,aM,aP::l,h,m,c,hm,hlt=>by
  simp only[Te,tV,uN] at h;cases m with
  |zero=>
   simp at hm;subst hm;exact h.1.imp (fun h=>h) fun h=>tW h
  |succ m=>
   have:=SZ h.2 m c (by simpa using hm) (by omega);rw[show aM+1+m=aM+(m+1) by omega] at this;exact this
theorem LH:∀{l:List Nat} {M j:Nat},l[j]? =some 4->M+j∈LS M l
 |[],_,j,h=>by simp at h
 |c::l,M,j,h=>by
  cases j with
  |zero=>
   simp at h;subst h;exact tl
  |succ j=>
   have:=LH (l:=l) (M:=M+1) (j:=j) (by simpa using h);rw[show M+1+j=M+(j+1) by omega] at this;unfold LS;cases Nat.beq c 4 with
   |true=>exact th _ this
   |false=>exact this
theorem SL {z u:List Nat}:∀{p ks:List Nat} {y:Nat},wides z u y p ks=true->∀i R k,p[i]? =some R->ks[i]? =some k->k≠0->k≠4->∀j∈u,j < y+i->R.testBit j=true->Te R j 0 z=true
 |[],_,_,_,i,R,k,h,_,_,_,_,_,_,_=>by simp at h
 |_::_,[],_,_,i,R,k,_,h,_,_,_,_,_,_=>by simp at h
 |R0::p,k0::ks,y,h,i,R,k,C,O,n0,n4,j,hj,hlt,hb=>by
  simp only[wides,tV] at h;cases i with
  |zero=>
   simp at C O;subst C;subst O;have E:=h.1;have N:Nat.beq k0 0=false:=by
    cases d:Nat.beq k0 0 with
    |false=>rfl
    |true=>exact absurd (tW d) n0
   have X:Nat.beq k0 4=false:=by
    cases d:Nat.beq k0 4 with
    |false=>rfl
    |true=>exact absurd (tW d) n4
   rw[N,X,Bool.false_or,Bool.false_or] at E;have M:=uK.1 E j hj;have Y:Nat.ble y j=false:=by
    cases d:Nat.ble y j with
    |false=>rfl
    |true=>have:=uF d;omega
   rw[Y,hb] at M;simpa using M
  |succ i=>exact SL h.2 i R k (by simpa using C) (by simpa using O) n0 n4 j hj (by omega) hb
mutual
theorem AC.nlt_ok {n ak:Nat}{V :Nat->Option Nat}{m:Mem}{w:World}:∀(c:AC) (z:Value),AC.nlt n c=true->AA T ak V m w c z->AA T n V m w c z
 | .any,_,_,_=>trivial
 | .anyc,_,_,h=>h
 | .on _ a,z,hc,h=>by
  simp only[AC.nlt,tV] at hc;exact⟨Dc hc.1,fun C=>AC.nlt_ok a z hc.2 (h.2 C)⟩
 | .gd _ a,z,hc,h=>by
  simp only[AC.nlt,tV] at hc;exact⟨Dc hc.1,fun C=>AC.nlt_ok a z hc.2 (h.2.1 C),h.2.2⟩
 | .cb _,_,_,h=>h
 | .b _,_,hc,h=>⟨Dc hc,h.2⟩
 | .nb _,_,hc,h=>⟨Dc hc,h.2⟩
 | .ci _ _,_,_,h=>h
 | .i _ _ _ _,_,hc,h=>⟨Dc hc,h.2⟩
 | .cv _,_,_,h=>h
 | .v _,_,hc,h=>⟨Dc hc,h.2⟩
 | .s _,_,hc,h=>⟨Dc hc,h.2⟩
 | .ptr _ _,_,_,h=>h
 | .pix _ _ _ _ _ _,_,hc,h=>⟨Dc hc,h.2⟩
 | .ro _ _,_,hc,h=>⟨Dc hc,h.2⟩
 | .rp _ _ _ _,_,hc,h=>by
  simp only[AC.nlt,tV] at hc;exact⟨⟨Dc hc.1,Dc hc.2⟩,h.2⟩
 | .vec _ _ _,_,hc,h=>⟨Dc hc,h.2⟩
 | .fn _ f c,_,hc,⟨W,us,e,C,O⟩=>by
  simp only[AC.nlt,tV] at hc;exact⟨W,us,e,AC.nltL_ok f W hc.1 C,AC.nltL_ok c us hc.2 O⟩
 | .sel _ l,z,hc,⟨_,j,e,C,O⟩=>by
  simp only[AC.nlt,tV] at hc;exact⟨Dc hc.1,j,e,C,AC.nltA_ok l j.toNat z hc.2 O⟩
 | .yl _,_,_,h=>h
 | .asl _ _ _,_,_,h=>h
 | .rsv _ _ _,_,hc,h=>⟨Dc hc,h.2⟩
 | .mr _ _,_,hc,h=>⟨⟨Dc hc,h.1.2⟩,h.2⟩
 | .mp _ _ _ _ _,_,hc,h=>by
  simp only[AC.nlt,tV] at hc;exact⟨⟨Dc hc.1,Dc hc.2,h.1.2.2⟩,h.2⟩
 | .mv _,_,_,h=>h
 | .agg l,_,hc,⟨W,e,C⟩=>⟨W,e,AC.nltL_ok l W hc C⟩
 | .tup l,_,hc,⟨W,e,C⟩=>⟨W,e,AC.nltL_ok l W hc C⟩
theorem AC.nltL_ok {n ak:Nat}{V :Nat->Option Nat}{m:Mem}{w:World}:∀(l:List AC) (W:List Value),AC.nltL n l=true->AB T ak V m w l W->AB T n V m w l W
 |[],_,_,h=>h
 |a::l,W,hc,⟨u,us,e,C,O⟩=>by
  simp only[AC.nltL,tV] at hc;exact⟨u,us,e,AC.nlt_ok a u hc.1 C,AC.nltL_ok l us hc.2 O⟩
theorem AC.nltA_ok {n ak:Nat}{V :Nat->Option Nat}{m:Mem}{w:World}:∀(l:List AC) (j:Nat) (z:Value),AC.nltL n l=true->Am T ak V m w l j z->Am T n V m w l j z
 |[],_,_,_,h=>h
 |a::l,0,z,hc,h=>by
  simp only[AC.nltL,tV] at hc;exact AC.nlt_ok a z hc.1 h
 |a::l,j+1,z,hc,h=>by
  simp only[AC.nltL,tV] at hc;exact AC.nltA_ok l j z hc.2 h
end
theorem Si:∀{m ad:Mem},Bf m ad=true->∀id x ks e,m.at id= .tok x ks e->ad.at id= .tok x ks e
 |[],_,_,id,x,ks,e,h=>by simp[Mem.at] at h
 |b::m,ad,hh,id,x,ks,e,h=>by
  cases id with
  |zero=>
   have p:b= .tok x ks e:=by simpa [Mem.at] using h
   subst p;cases ad with
   |nil=>simp[Bf] at hh
   |cons d ad=>
    simp only[Bf,tV] at hh;have:=V6 _ _ hh.1;simp[Mem.at,<-this]
  |succ id=>
   have p:Mem.at m id= .tok x ks e:=by simpa [Mem.at] using h
   have u:Bf m ad.tail=true:=by
    cases b with
    |tok _ _ _=>
     cases ad with
     |nil=>simp[Bf] at hh
     |cons d ad=>simp only[Bf,tV] at hh;exact hh.2
    |mrow _ _ _ _=>
     cases ad with
     |nil=>simp[Bf] at hh
     |cons d ad=>simp only[Bf,tV] at hh;exact hh.2
    |_=>simpa [Bf] using hh
   have:=Si u id x ks e p;cases ad with
   |nil=>simp[Mem.at] at this
   |cons d ad=>simpa [Mem.at] using this
section
variable {n:Nat}{V ab:Nat->Option Nat}{m ad:Mem}{w Z:World}
mutual
theorem AA.monoV (h:AH T n V m w ab ad Z){k:Nat}:∀(c:AC) (v:Value),AC.noVec c=true->AA T k V m w c v->AA T k ab ad Z c v
 | .any,_,_,_=>trivial
 | .anyc,_,_,hh=>hh
 | .on _ a,v,hc,hh=>⟨hh.1,fun C=>AA.monoV h a v hc (hh.2 C)⟩
 | .gd _ a,v,hc,hh=>⟨hh.1,fun C=>AA.monoV h a v hc (hh.2.1 C),hh.2.2⟩
 | .cb _,_,_,hh=>hh
 | .b _,_,_,hh=>hh
 | .nb _,_,_,hh=>hh
 | .ci _ _,_,_,hh=>hh
 | .i _ _ _ _,_,_,hh=>hh
 | .cv _,_,_,hh=>hh
 | .v _,_,_,hh=>hh
 | .s _,_,_,hh=>hh
 | .ptr id off,v,_,⟨b,C,O,h3⟩=>⟨b,by rw[(h.rho id h3).1];exact C,O,(h.rho id h3).2⟩
 | .pix id base aD aW x aP,v,_,⟨h0,b,j,C,O,h5,h6,h7,h3⟩=>⟨h0,b,j,by rw[(h.rho id h3).1];exact C,O,h5,h6,h7,(h.rho id h3).2⟩
 | .ro x ks,v,_,⟨h0,O⟩=>⟨h0,AT.mono (fun _ _ aa=>h.safe0 aa) _ _ v O⟩
 | .rp x t off ks,v,_,⟨h0,j,b,o,us,O,h3,h4,h5,h6⟩=>⟨h0,j,b,o,us,O,h3,h4,h5,Af.mono (fun _ _ aa=>h.safe0 aa) _ _ _ _ h6⟩
 | .vec _ _ _,_,hc,_=>by cases hc
 | .fn f first I,v,hc,⟨W,us,C,O,h3⟩=>by
  simp only[AC.noVec,tV] at hc;exact⟨W,us,C,AB.monoV h first W hc.1 O,AB.monoV h I us hc.2 h3⟩
 | .sel x alts,v,hc,⟨h0,j,C,O,h3⟩=>⟨h0,j,C,O,Am.monoV h alts j.toNat v hc h3⟩
 | .yl id,v,_,⟨b,C,O,h3⟩=>⟨b,by rw[(h.rho id h3).1];exact C,O,(h.rho id h3).2⟩
 | .asl id off len,v,_,⟨b,C,O,h3⟩=>⟨b,by rw[(h.rho id h3).1];exact C,O,(h.rho id h3).2⟩
 | .rsv _ _ _,_,hc,_=>by cases hc
 | .mr _ _,_,hc,_=>by cases hc
 | .mp _ _ _ _ _,_,hc,_=>by cases hc
 | .mv id,v,_,⟨b,C,O,h3⟩=>⟨b,by rw[(h.rho id h3).1];exact C,O,(h.rho id h3).2⟩
 | .agg l,v,hc,⟨W,C,O⟩=>⟨W,C,AB.monoV h l W hc O⟩
 | .tup l,v,hc,⟨W,C,O⟩=>⟨W,C,AB.monoV h l W hc O⟩
theorem AB.monoV (h:AH T n V m w ab ad Z){k:Nat}:∀(l:List AC) (W:List Value),AC.noVecL l=true->AB T k V m w l W->AB T k ab ad Z l W
 |[],_,_,hh=>hh
 |c::l,_,hc,⟨u,us,C,O,h3⟩=>by
  simp only[AC.noVecL,tV] at hc;exact⟨u,us,C,AA.monoV h c u hc.1 O,AB.monoV h l us hc.2 h3⟩
theorem Am.monoV (h:AH T n V m w ab ad Z){k:Nat}:∀(l:List AC) (j:Nat) (v:Value),AC.noVecL l=true->Am T k V m w l j v->Am T k ab ad Z l j v
 |[],_,_,_,hh=>hh
 |c::_,0,v,hc,hh=>by
  simp only[AC.noVecL,tV] at hc;exact AA.monoV h c v hc.1 hh
 |_::l,j+1,v,hc,hh=>by
  simp only[AC.noVecL,tV] at hc;exact Am.monoV h l j v hc.2 hh
end
end
variable{s:RS}{o:Oper}{x aO:AC}{ag:Mem}{aI:R}{t:TypeId}{g:G}{az:Operand->AC}
theorem Pm (m:Mem){base:List Nat}{j:Nat}{aX:Bool}{c:AC}:EP ac base { s with mem:=m } j aX c=(EP ac base s j aX c).map fun p=>(p.1,{ p.2 with mem:=m }):=by
 cases c<;>simp only[EP,uy,Option.map_none];split<;>rfl
theorem b9 (m:Mem):Dj J ac { s with mem:=m } o=(Dj J ac s o).map fun p=>(p.1,{ p.2 with mem:=m }):=by
 unfold Dj;cases o.guard with
 |none=>rfl
 |some g=>
  obtain⟨j,aX⟩:=g;simp only;split
  .rfl
  .cases J[j]? with
   |none=>rfl
   |some aq=>
    simp only[tX,uM];cases aq.dst with
    |none=>rfl
    |some d=>
     simp only[uM];cases h:s.tmps.get d with
     |none=>rfl
     |some c=>
      simp only[uM];split
      .rfl
      .rename_i aV a;cases s.gl.find? (fun e=>Nat.beq e.p aV) with
       |none=>rfl
       |some e=>simp only[uM];exact Pm m
      .exact Pm m
theorem Wc {m:Mem}(h:Fl x m=some aI):aI.m=m/\Fl x ag=some { aI with m:=ag }:=by
 unfold Fl at h⊢;grind
theorem Ue {f:Nat}{m:Mem}(h:GQ P t x f m=some aI):aI.m=m/\GQ P t x f ag=some { aI with m:=ag }:=by
 unfold GQ at h⊢;split at h
 .simp only[tX,tU] at h⊢;grind
 .cases h
theorem Pv {size:Nat}{n:Rf}{m:Mem}(h:Cg.aIndexSl size x aO n m g=some aI):aI.m=m/\Cg.aIndexSl size x aO n ag g=some { aI with m:=ag }:=by
 unfold Cg.aIndexSl at h⊢;simp only[tX,tU] at h⊢;grind
theorem VA {m:Mem}(h:Cg P t x aO m g=some aI):aI.m=m/\Cg P t x aO ag g=some { aI with m:=ag }:=by
 unfold Cg at h⊢;simp only[tX,tU] at h⊢;obtain⟨⟨k,ap,Y,n⟩,C,h⟩:=h;simp only at h;split at h
 .rename_i len e p;simp only[tX,tU] at h;obtain⟨i,O,h⟩:=h;split at h
  .cases h
  rename_i M;split at h
  .grind
  .rename_i z;split at h
   .simp only[tX,tU] at h;grind
   .cases h
 .rename_i e p;simp only[tX,tU] at h;obtain⟨i,O,h⟩:=h;split at h
  .rename_i d;split at h
   .grind
   .rename_i E;obtain⟨u,y⟩:=Pv (ag:=ag) h;grind
  .rename_i d;obtain⟨u,y⟩:=Pv (ag:=ag) h;grind
 .cases h
def Sk:Op->Bool
 | .move _| .assign _| .nilCheck _| .fieldAddr .. | .indexAddr .. =>true
 |_=>false
theorem ov {op:Op}{m:Mem}(d:Sk op=true)(h:aOp P az op m g=some aI):aI.m=m/\aOp P az op ag g=some { aI with m:=ag }:=by
 cases op<;>first
  |(cases d;done)
  |(simp only[aOp] at h⊢;cases h;exact⟨rfl,rfl⟩)
  |(simp only[aOp] at h⊢;exact Wc h)
  |(simp only[aOp] at h⊢;exact Ue h)
  |(simp only[aOp] at h⊢;exact VA h)
theorem kw {k:Nat}{op:Op}{m:Mem}(d:Sk op=true)(h:EM k P az op m g=some aI):aI.m=m/\EM k P az op ag g=some { aI with m:=ag }:=by
 unfold EM at h⊢;cases op<;>first
  |(cases d;done)
  |(split at h<;>first
    |(cases h;done)
    |exact ov d h)
theorem dx {an:RS}(d:Sk o.op=true)(h:Bt P call aj J ac s o=some an):an.mem=s.mem/\∀m,Bt P call aj J ac { s with mem:=m } o=some { an with mem:=m }:=by
 unfold Bt at h⊢;simp only[tX,tU] at h;obtain⟨⟨run,aD⟩,u,h⟩:=h;have X:=(Hq u).2.2;simp only at h;have z:∀m,Dj J ac { s with mem:=m } o=some (run,{ aD with mem:=m }):=fun m=>by rw[b9,u];rfl
 simp only[tX,z,uM];split at h
 .cases h
 rename_i E;simp only[E,uE,if_false];split at h
 .grind
 .rename_i a1 a0;split at h
  .rename_i f args ar p;rw[p] at d;cases d
  .rename_i p;rw[p] at d;cases d
  .rename_i op C O;simp only[tU] at h;obtain⟨aI,N,h⟩:=h;have al:=fun ag=>kw (ag:=ag) d N;split at h
   .grind
   .rename_i ao Y;split at h
    .grind
    .rename_i y;exact absurd (by cases M:o.op<;>rw[M] at d<;>first|rfl|cases d) y
end
section
variable {P:Program}{call:Au}{aj:Ys}{J:Array Oper}{ac:PC}{au ag:Mem}{g:G}{r:R}
variable{t:TypeId}
theorem WS {p:AC}(C:(match p with| .ptr _ _=>true| .rp _ _ _ _=>true|_=>false)=true)(z:∀id,au.at id≠ .pad->ag.at id=au.at id)(h:Of P t p au g=some r):r.m=au/\Of P t p ag g=some { r with m:=ag }:=by
 unfold Of at h⊢;cases aa:FP P t with
 |none=>rw[aa] at h;cases h
 |some x=>
  obtain⟨size,E⟩:=x;rw[aa] at h;simp only[tX,uM] at h⊢;cases p with
  |ptr id off=>
   simp only at h⊢;split at h
   .rename_i l e y;rw[z id (by rw[y];exact fun h=>by cases h),y];simp only;split at h
    .rename_i u;rw[vC u];split at h
     .rename_i d;cases h;rw[vC d];exact⟨rfl,rfl⟩
     .rename_i d;rw[vA d];rw[uC] at h;obtain⟨c,u,rfl⟩:=h;rw[u];exact⟨rfl,rfl⟩
    .cases h
   .cases h
  |rp x t off ks=>
   simp only at h⊢;split at h
   .rename_i u;rw[vC u];split at h
    .rename_i d;cases h;rw[vC d];exact⟨rfl,rfl⟩
    .rename_i d;rw[vA d];rw[uC] at h;obtain⟨c,u,rfl⟩:=h;rw[u];exact⟨rfl,rfl⟩
   .cases h
  |_=>cases C
theorem gt {y:Nat}{ks:List Kd}{ap Y:Option AC}(h:Jo P t (.ro y ks) ap Y au g=some r):r.m=au/\Jo P t (.ro y ks) ap Y ag g=some { r with m:=ag }:=by
 unfold Jo at h⊢;split at h
 .cases h
 .rename_i e E;cases u:P.info? e with
  |none=>rw[u] at h;cases h
  |some i=>
   rw[u] at h;simp only[tX,uM,Io] at h⊢;split at h
   .rename_i C;rw[vC C];cases ap with
    |none=>
     cases Y with
     |none=>cases h
     |some b=>
      cases d:CE b with
      |none=>simp[d] at h
      |some x=>simp only[d,uM] at h⊢;cases h;exact⟨rfl,rfl⟩
    |some a=>
     cases p:CE a with
     |none=>cases Y<;>simp[p] at h
     |some x=>
      cases Y with
      |none=>simp only[p,uM] at h⊢;cases h;exact⟨rfl,rfl⟩
      |some b=>
       cases d:CE b with
       |none=>simp[p,d] at h
       |some z=>simp only[p,d,uM] at h⊢;cases h;exact⟨rfl,rfl⟩
   .cases h
 .cases h
theorem ZQ {len:Nat}{parts:List (Nat × AC)}(h:Iq P t len parts au g=some r):r.m=au++[.gone]/\Iq P t len parts ag g=some { r with m:=ag++[.gone] }:=by
 have X:∀u,DG P t len parts au g=some u->∃x ks N,u.c= .vec au.length x ks/\DG P t len parts ag g=some { u with c:= .vec ag.length x ks,m:=ag++N }:=by
  intro u d;unfold DG at d⊢;split at d
  .rename_i e O;cases Y:P.info? e with
   |none=>rw[Y] at d;cases d
   |some i=>
    rw[Y] at d;simp only[tX,uM] at d⊢;cases E:i.zero with
    |none=>rw[E] at d;cases d
    |some z=>
     rw[E] at d;simp only[uM] at d⊢;split at d
     .rename_i y;rw[vC y];cases p:parts.mapM (fun x=>x.2.cellsOf) with
      |none=>simp[p] at d
      |some ls=>
       simp only[p,uM] at d⊢;split at d
       .rename_i C;rw[vC C];cases d;exact⟨_,_,_,rfl,rfl⟩
       .cases d
     .rename_i y;rw[vA y];split at d
      .rename_i C;rw[vC C];cases p:(Iu z).cellsOf with
       |none=>simp[p] at d
       |some l=>
        simp only[p,uM] at d⊢;split at d
        .rename_i M;rw[vC M];cases d;exact⟨_,_,_,rfl,rfl⟩
        .cases d
      .cases d
  .cases d
 unfold Iq at h⊢;simp only[tX,tU] at h;grind
theorem nw {k:Nat}{az:Operand->AC}{op:Op}(d:L8 k az op=true)(p:∀id,au.at id≠ .pad->ag.at id=au.at id)(h:EM k P az op au g=some r):
  (A9 op=true/\r.m=au/\EM k P az op ag g=some { r with m:=ag })\/(A9 op=false/\r.m=au++[.gone]/\EM k P az op ag g=some { r with m:=ag++[.gone] }):=by
 cases op with
 |load t x=>
  simp only[L8] at d
  match k,h with
  |0,h=>exact .inl ⟨rfl,WS d p h⟩
  |1,h=>nomatch h
  |k+2,h=>exact .inl ⟨rfl,WS d p h⟩
 |slice t x ap Y a2=>
  cases a2 with
  |some a2=>simp[L8] at d
  |none=>
   simp only[L8] at d;cases u:az x with
   |ro y ks=>
    have z:∀h:Jo P t (az x) (ap.map az) (Y.map az) au g=some r,r.m=au/\Jo P t (az x) (ap.map az) (Y.map az) ag g=some { r with m:=ag }:=fun h=>by
     rw[u] at h⊢;exact gt h
    match k,h with
    |0,h=>exact .inl ⟨rfl,z h⟩
    |1,h=>cases Y<;>nomatch h
    |k+2,h=>exact .inl ⟨rfl,z h⟩
   |_=>rw[u] at d;cases d
 |buildSlice t n ps=>
  have C:k=3:=tW d;subst C;exact .inr ⟨rfl,ZQ h⟩
 |_=>simp[L8] at d
theorem jd {s an:RS}{o:Oper}(d:W8 aj s.tmps o=true)(O:∀id,s.mem.at id≠ .pad->ag.at id=s.mem.at id)(h:Bt P call aj J ac s o=some an):
  ∃x,(x=[]\/x=[.gone]/\A9 o.op=false)/\an.mem=s.mem++x/\Bt P call aj J ac { s with mem:=ag } o=some { an with mem:=ag++x }:=by
 unfold W8 at d;rw[tV] at d;obtain⟨E,d⟩:=d;have E:o.guard=none:=by
  cases C:o.guard with
  |none=>rfl
  |some g=>rw[C] at E;cases E
 unfold Bt Dj at h⊢;simp only[E,tX,uM] at h⊢;split at h
 .cases h
 .rename_i X;rw[vA X];have M:∀op,o.op=op->(∀f as ar,op≠ .call { callee:= .value f,args:=as,argTypes:=ar })->(∀c a b,op≠ .pick c a b)->L8 (SN aj o.dst) (C0 [] s.tmps) op=true->
    ∀aI,EM (SN aj o.dst) P (C0 [] s.tmps) op s.mem s.g=some aI->∃x,(x=[]\/x=[.gone]/\A9 op=false)/\aI.m=s.mem++x/\EM (SN aj o.dst) P (C0 [] s.tmps) op ag s.g=some { aI with m:=ag++x }:=by
   intro op _ _ _ d aI z;rcases nw (ag:=ag) d O z with⟨_,p,u⟩|⟨N,p,u⟩
   .exact⟨[],.inl rfl,by rw[p,uj],by rw[u,uj]⟩
   .exact⟨[.gone],.inr ⟨rfl,N⟩,p,u⟩
  cases y:o.op with
  |load t x=>
   rw[y] at h d;simp only[tX,tU] at h;obtain⟨aI,z,h⟩:=h;cases h;obtain⟨x,C,p,u⟩:=M _ y (fun _ _ _ h=>by cases h) (fun _ _ _ h=>by cases h) d aI z;refine⟨x,C,p,?_⟩;simp only[u];rfl
  |slice t x ap Y a2=>
   rw[y] at h d;simp only[tX,tU] at h;obtain⟨aI,z,h⟩:=h;cases h;obtain⟨x,C,p,u⟩:=M _ y (fun _ _ _ h=>by cases h) (fun _ _ _ h=>by cases h) d aI z;refine⟨x,C,p,?_⟩;simp only[u];rfl
  |buildSlice t n ps=>
   rw[y] at h d;simp only[tX,tU] at h;obtain⟨aI,z,h⟩:=h;cases h;obtain⟨x,C,p,u⟩:=M _ y (fun _ _ _ h=>by cases h) (fun _ _ _ h=>by cases h) d aI z;refine⟨x,C,p,?_⟩;simp only[u];rfl
  |_=>rw[y] at d;simp[L8] at d
end
section
variable {L aC:Bool}{tg:List Tmp}{P:Program}{T:Tab}{call:Au}{aj:Ys}{r:Option Nat}{ai:Nat}{J:Array Oper}{ac:PC}
variable{k j:Nat}{D:List (Tmp × Nat)}{o:Oper}
theorem cQ {m:Mem}(h:k≠2\/M1 tg=none):HG tg k m=m:=by
 unfold HG;cases d:M1 tg with
 |none=>rfl
 |some n=>
  simp only;rcases h with h|h
  .have:Nat.beq k 2=false:=by
    cases p:Nat.beq k 2 with
    |false=>rfl
    |true=>exact absurd (tW p) h
   rw[this];rfl
  .rw[d] at h;cases h
theorem Gr {S:DS}{ok:Nat->Bool}{R:Nat}{Bs:List Tmp}{an:RS}(h:Bt P call aj J ac { S.masked D ok R Bs with mem:=HG tg k S.mem } o=some an)(d:k≠2\/M1 tg=none):Bt P call aj J ac (S.masked D ok R Bs) o=some an:=by
 rw[cQ d] at h;exact h
theorem DF {R:Nat}{S S':DS}{p:List (Tmp × Nat)}{RA:List Nat}(h:TG L aC tg P call aj J D p RA ac R j o S=some S'):
  ∃an c,Bt P call aj J ac { S.masked D (okG RA R j) R (As J o) with mem:=HG tg (AL L p o) S.mem } o=some an/\S'=⟨Cv S.tmps o.dst c,if Nat.ble 3 (AL L p o) then (if Nat.beq (AL L p o) 4 then Km tg o.dst S.mem an.mem else an.mem) else S.mem,an.g,(Gz an (G3 R S.gls).length).map (fun e=>(j,e))++S.gls⟩/\
   (∀d,o.dst=some d->c=(an.tmps.get d).getD .any)/\(AL L p o=3->aC=false->Bf S.mem an.mem=true)/\(AL L p o=0->AC.nlt an.g.n c=true/\W0 S.g.n (S.masked D (okG RA R j) R (As J o)).tmps o c=true)/\
   (aC=true->AL L p o < 2->∀d aP,o.dst=some d->S'.tmps.get d=some aP->AC.noVec aP=true\/eg R j=true)/\
   (∀e∈Gz an (G3 R S.gls).length,e∈an.gl/\R.testBit e.j=true)/\(AL L p o=4->∃d,o.dst=some d/\d < S.tmps.n)/\
   (AL L p o=2->A9 o.op=true\/((∀id,(HG tg (AL L p o) S.mem).at id≠ .pad->an.mem.at id=(HG tg (AL L p o) S.mem).at id)/\(AC.free c=true\/∀id,an.mem.at id≠ .pad->(HG tg (AL L p o) S.mem).at id≠ .pad)))/\
   (∀n,M1 tg=some n->aC=true/\AL L p o < 4/\(AL L p o=3->n<=S.mem.length/\GL (S.mem.take n) an.mem=true)/\(AL L p o=2->W8 aj (S.masked D (okG RA R j) R (As J o)).tmps o=true/\∀d aP,o.dst=some d->S'.tmps.get d=some aP->AC.noVec aP=true)):=by
 unfold TG at h;simp only[tX,tU] at h;obtain⟨an,aa,h⟩:=h;rw[Option.ite_none_right_eq_some] at h;obtain⟨hX,h⟩:=h
 .injection h with h
  rw[tV,tV,tV,tV,tV] at hX;obtain⟨⟨⟨C,⟨O,X⟩,Y⟩,z⟩,M⟩:=hX;have a7:S'.tmps=Cv S.tmps o.dst (Fg an.tmps o.dst):=by rw[<-h]
  refine⟨an,_,aa,h.symm,fun d hd=>by rw[hd];rfl,fun u hm=>?_,fun u=>?_,fun hm u d aP hd y=>?_,fun e he=>⟨List.mem_of_mem_take he,uK.1 C e he⟩,fun u=>?_,fun u=>?_,fun n hn=>?_⟩
  .rw[u,hm] at O;exact O
  .rw[u] at O;have a4:(AC.nlt an.g.n (Fg an.tmps o.dst)&&W0 S.g.n (S.masked D (okG RA R j) R (As J o)).tmps o (Fg an.tmps o.dst))=true:=O;rw[tV] at a4;exact a4
  .have hb:Nat.ble 2 (AL L p o)=false:=by
    cases hx:Nat.ble 2 (AL L p o) with
    |false=>rfl
    |true=>have:=uF hx;omega
   rw[hm,hb] at X;simp only[Bool.not_true,Bool.or_self,Bool.false_or,uN] at X;rw[a7] at y;rw[hd] at X y;simp only[Fg] at X;simp only[Fg] at y;rw[y] at X;exact X
  .rw[u] at Y;rw[show Nat.beq 4 4=true from rfl,Bool.not_true,Bool.false_or] at Y;cases hd:o.dst with
   |none=>rw[hd] at Y;exact absurd Y (by simp)
   |some d=>
    rw[hd] at Y;exact⟨d,rfl,Dc Y⟩
  .rw[show Nat.beq (AL L p o) 2=true by rw[u];rfl,Bool.not_true,Bool.false_or,uN] at z;rcases z with z|z
   .exact .inl z
   .right;rw[tV,uN] at z;obtain⟨k1,E⟩:=GD z.1;have ba:∀id,(HG tg (AL L p o) S.mem).at id≠ .pad->id < (HG tg (AL L p o) S.mem).length:=fun id hp=>by
     rcases tu id (HG tg (AL L p o) S.mem).length with h|h
     .exact h
     .exact absurd (Mem.at_ge h) hp
    refine⟨fun id hp=>E id (ba id hp),z.2.symm.imp (fun h=>h) fun M id hp=>?_⟩;have hl:=tW M;have bj:id < an.mem.length:=by
     rcases tu id an.mem.length with h|h
     .exact h
     .exact absurd (Mem.at_ge h) hp
    rw[<-E id (by omega)];exact hp
  .unfold iQ at M;rw[hn] at M;simp only at M;rw[tV,tV] at M;obtain⟨⟨g1,ao⟩,N⟩:=M;refine⟨g1,Dc ao,fun u=>?_,fun u=>?_⟩
   .rw[vC (by rw[u];rfl),tV] at N;exact⟨uF N.1,N.2⟩
   .rw[vA (by rw[u];decide),vC (by rw[u];rfl),tV] at N;refine⟨N.1,fun d aP hd y=>?_⟩;have g4:=N.2;rw[a7] at y;rw[hd] at g4 y;simp only[Fg] at g4;simp only[Fg] at y;rw[y] at g4;exact g4
theorem VK:∀{m:Mem} {n id:Nat},Mem.at (m.take n) id≠ .pad->Mem.at (m.take n) id=m.at id
 |[],n,id,h=>by simp
 |b::m,0,id,h=>by simp[Mem.at] at h
 |b::m,n+1,0,h=>by simp[Mem.at]
 |b::m,n+1,id+1,h=>by
  have d:Mem.at (m.take n) id≠ .pad:=by simpa [Mem.at] using h
  have:=VK d;simpa [Mem.at] using this
theorem lB {R i:Nat}(h:eg R j=true)(Y:i < j):R.testBit i=true:=by
 have O:R+1=2 ^ j:=tW h;have:R=2 ^ j - 1:=by omega
 grind
structure BR (qc md:Bool) (tg:List Tmp) (P:Program) (T:Tab) (call:Au) (ys:Ys) (ops:Array Oper) (pc:PC) (S:Nat->DS):Prop where
 step:∀j o,ops[j]? =some o->∃R,(AW ops.toList [])[j]? =some R/\TG qc md tg P call ys ops (An 0 ops.toList) (AQ 0 ops.toList) (AW ops.toList []) pc R j o (S j)=some (S (j+1))
 masks:GB (AW ops.toList []) 0=true
 nodup:Fz (ops.toList.filterMap (·.dst))=true
 ord:∀(i:Nat) (o:Oper) (R:Nat),ops[i]? =some o->(AW ops.toList [])[i]? =some R->∀j oj,ops[j]? =some oj->j < i->
  (AL qc (AQ 0 ops.toList) o=3->R.testBit j=true\/AL qc (AQ 0 ops.toList) oj=0)/\(AL qc (AQ 0 ops.toList) o=2->R.testBit j=true\/AL qc (AQ 0 ops.toList) oj<=2\/(M1 tg).isSome=true/\AL qc (AQ 0 ops.toList) oj<=3)
 wide:∀(i:Nat) (o:Oper) (R:Nat),ops[i]? =some o->(AW ops.toList [])[i]? =some R->AL qc (AQ 0 ops.toList) o≠0->AL qc (AQ 0 ops.toList) o≠4->∀j oj,ops[j]? =some oj->j < i->AL qc (AQ 0 ops.toList) oj=4->R.testBit j=true->
  ∀m om,ops[m]? =some om->m < j->R.testBit m=true\/AL qc (AQ 0 ops.toList) om=0
 call:∀T,CL P T call
 ys:Ce P T.lp ys
 gl0:(S 0).gls=[]
variable {S:Nat->DS}
theorem BR.op {j:Nat}(d:j < J.size):∃o,J[j]? =some o:=⟨_,uq d⟩
structure so (S S':DS):Prop where
 grow:AX S.g S'.g
 len:S'.tmps.n=S.tmps.n
 gls:∀p∈S.gls,p∈S'.gls
theorem BR.later (H:BR L aC tg P T call aj J ac S)(i:Nat):∀k,i+k<=J.size->so (S i) (S (i+k))/\
  (∀t,(∀j o,i<=j->j < i+k->J[j]? =some o->o.dst≠some t)->(S (i+k)).tmps.get t=(S i).tmps.get t)/\
  ((∀j o,i<=j->j < i+k->J[j]? =some o->AL L (AQ 0 J.toList) o < 3)->(S (i+k)).mem=(S i).mem)
 |0,_=>⟨⟨AX.refl _,rfl,fun _ h=>h⟩,fun _ _=>rfl,fun _=>rfl⟩
 |k+1,hk=>by
  obtain⟨C,O,N⟩:=H.later i k (by omega);obtain⟨o,u⟩:=BR.op (J:=J) (j:=i+k) (by omega);obtain⟨R,hR,aa⟩:=H.step (i+k) o u;obtain⟨an,c,E,d,a3,a4,a5,a7,a6,a8,a9,-⟩:=DF aa;obtain⟨M,_⟩:=K6 (r:=none) (ai:=0) (H.call T) H.ys E;have e:S (i+(k+1))=S (i+k+1):=rfl;refine⟨⟨?_,?_,?_⟩,fun t z=>?_,fun y=>?_⟩
  .rw[e,d];exact C.grow.trans M
  .rw[e,d];simp only;rw[<-C.len,Gl]
  .intro p Y;rw[e,d];exact tp _ (C.gls p Y)
  .rw[e,d];simp only;rw[<-O t (fun j o C O=>z j o C (by omega))];exact Q9 _ _ (z (i+k) o (by omega) (by omega) u)
  .rw[e,d];have bb:=y (i+k) o (by omega) (by omega) u;have X:Nat.ble 3 (AL L (AQ 0 J.toList) o)=false:=by
    cases hx:Nat.ble 3 (AL L (AQ 0 J.toList) o) with
    |false=>rfl
    |true=>have:=uF hx;omega
   simp only[X];exact N fun j o C O=>y j o C (by omega)
theorem BR.gls (H:BR L aC tg P T call aj J ac S):∀k,k<=J.size->∀p∈(S k).gls,p.1 < k/\p∈(S (p.1+1)).gls
 |0,_,p,hp=>by rw[H.gl0] at hp;cases hp
 |k+1,hk,p,hp=>by
  obtain⟨o,h⟩:=BR.op (J:=J) (j:=k) (by omega);obtain⟨R,hR,aa⟩:=H.step k o h;obtain⟨an,c,z,d,E,M,N,X,O,Y,a9,-⟩:=DF aa;have u:=hp;rw[d] at hp;rcases uY.1 hp with C|C
  .obtain⟨e,he,rfl⟩:=vG.1 C;exact⟨Nat.lt_succ_self _,u⟩
  .obtain⟨q1,y⟩:=H.gls k (by omega) p C;exact⟨by omega,y⟩
theorem BR.keep (H:BR L aC tg P T call aj J ac S){n:Nat}(p:M1 tg=some n)(i:Nat):∀k,i+k<=J.size->∀id,Mem.at ((S (i+k)).mem.take n) id≠ .pad->(S i).mem.at id=Mem.at ((S (i+k)).mem.take n) id
 |0,_,id,hp=>by
  rw[Nat.add_zero] at hp⊢;exact (VK hp).symm
 |k+1,hk,id,hp=>by
  obtain⟨o,X⟩:=BR.op (J:=J) (j:=i+k) (by omega);obtain⟨R,hR,aa⟩:=H.step (i+k) o X;obtain⟨an,c,a1,u,a3,a4,a5,a7,a6,a8,a9,z⟩:=DF aa;obtain⟨b1,b2,M,b4⟩:=z n p;have e:(S (i+(k+1)))=S (i+k+1):=rfl;rw[e] at hp⊢;by_cases y:AL L (AQ 0 J.toList) o=3
  .obtain⟨aL,N⟩:=M y;have d:(S (i+k+1)).mem=an.mem:=by rw[u,y];rfl
   obtain⟨k1,E⟩:=GD N;have bj:id < n:=by
    rcases tu id n with h|h
    .exact h
    .exact absurd (Mem.at_ge (by rw[uX];omega)) hp
   have C:Mem.at ((S (i+k+1)).mem.take n) id=Mem.at ((S (i+k)).mem.take n) id:=by
    rw[VK hp,d];exact E id (by rw[uX];omega)
   rw[C] at hp⊢;exact H.keep p i k (by omega) id hp
  .have d:(S (i+k+1)).mem=(S (i+k)).mem:=by
    have O:Nat.ble 3 (AL L (AQ 0 J.toList) o)=false:=by
     cases Y:Nat.ble 3 (AL L (AQ 0 J.toList) o) with
     |false=>rfl
     |true=>have:=uF Y;omega
    rw[u];simp only[O];rfl
   rw[d] at hp⊢;exact H.keep p i k (by omega) id hp
def Pd (L:Bool)(J:Array Oper)(listed:Array Bool)(q:Nat)(A:Nat->Nat)(b:Nat):Prop:=
 ∃i o,J[i]? =some o/\AL L (AQ 0 J.toList) o=4/\listed.getD i false=true/\q<=i/\A i=b
def frO (L:Bool)(T:Tab)(J:Array Oper)(listed:Array Bool)(q:Nat)(A:Nat->Nat):Nat->Nat->Prop:=fun b off=>T.fr b off/\¬Pd L J listed q A b
structure BH (qc:Bool) (P:Program) (T:Tab) (ops:Array Oper) (S:Nat->DS) (ρ0:Nat->Option Nat) (w0:World) (A:Nat->Nat) (q:Nat) (listed:Array Bool) (ρ :Nat->Option Nat) (a:Act) (w:World):Prop where
 size:listed.size=ops.size
 closed:NB ops listed
 qle:q<=ops.size
 base:∀j o,j < q->ops[j]? =some o->listed.getD j false=true\/AL qc (AQ 0 ops.toList) o=0
 mlist:∀j o,ops[j]? =some o->AL qc (AQ 0 ops.toList) o=3->(listed.getD j false=true↔j < q)
 defers:DE T.base ρ (S q).mem w a.defers
 asize:a.tmps.size=(S 0).tmps.n
 mem:AG (T.wf (frO qc T ops listed q A)) (S q).g.n ρ (S q).mem w
 init:∀t c,(S 0).tmps.get t=some c->(∀i o,ops[i]? =some o->o.dst=some t->listed.getD i false=false)->AA (T.wf (frO qc T ops listed q A)) (S 0).g.n ρ (S q).mem w c (a.tmps.getD t undef)
 facts:∀i o d c,listed.getD i false=true->ops[i]? =some o->o.dst=some d->(S (i+1)).tmps.get d=some c->(AL qc (AQ 0 ops.toList) o=4->i < q)->AA (T.wf (frO qc T ops listed q A)) (S (i+1)).g.n ρ (S q).mem w c (a.tmps.getD d undef)
 gfacts:∀p∈(S ops.size).gls,listed.getD p.1 false=true->Fh T ops (S (p.1+1)).g.n a p.2/\listed.getD p.2.j false=true
 pend:∀i o,ops[i]? =some o->AL qc (AQ 0 ops.toList) o=4->listed.getD i false=true->q<=i->w0.heap.size<=A i/\(∀id,((S q).mem.at id).tracked=true-> ρ id≠some (A i))/\
  (∀d,o.dst=some d->a.tmps.getD d undef= .pointer (some ⟨A i,0,none⟩))/\∃t l vs,o.op= .alloc t/\(S (i+1)).mem=(S i).mem++[.cells l t]/\w.heap[A i]? =some (.cells (vs:List Value).toArray t (0,0))/\∀(T:Tab) (n:Nat) (ρ :Nat->Option Nat) (m:Mem) (w:World),AB T n ρ m w l vs
 inj:∀i j oi oj,ops[i]? =some oi->ops[j]? =some oj->AL qc (AQ 0 ops.toList) oi=4->AL qc (AQ 0 ops.toList) oj=4->listed.getD i false=true->listed.getD j false=true->q<=i->q<=j->A i=A j->i=j
 st:AH T (S 0).g.n ρ0 (S 0).mem w0 ρ (S q).mem w
variable {aT:Nat->Option Nat}{aG:World}{A:Nat->Nat}{q:Nat}{listed:Array Bool}{V :Nat->Option Nat}{a:Act}{w:World}
variable{c:AC}{F:Nat->Nat->Prop}{e:GE}
theorem BH.val (H:BR L aC tg P T call aj J ac S)(I:BH L P T J S aT aG A q listed V a w){k:Nat}(hk:k<=J.size){t:Nat}(d:(S k).tmps.get t=some c)
  (Y:∀i o,J[i]? =some o->o.dst=some t->(listed.getD i false=true/\i < k/\(AL L (AQ 0 J.toList) o=4->i < q))\/listed.getD i false=false/\k<=i):AA (T.wf (frO L T J listed q A)) (S k).g.n V (S q).mem w c (a.tmps.getD t undef):=by
 by_cases y:∃i o,J[i]? =some o/\o.dst=some t/\i < k
 .obtain⟨i,o,h,hd,al⟩:=y;rcases Y i o h hd with⟨C,_,E⟩|⟨_,O⟩
  .obtain⟨X,ae,_⟩:=H.later (i+1) (k - (i+1)) (by omega);rw[show i+1+(k - (i+1))=k by omega] at X ae;have:=ae t (fun j z M N u p=>by
    have:=C3 H.nodup h u hd p;omega)
   rw[this] at d;exact (I.facts i o t c C h hd d E).up0 X.grow.n
  .omega
 .obtain⟨X,ae,_⟩:=H.later 0 k (by omega);rw[tj] at X ae;have:=ae t (fun j z M N u p=>y ⟨j,z,u,p,by omega⟩);rw[this] at d;refine (I.init t c d fun i o h hd=>?_).up0 X.grow.n;grind
theorem Hj (D:List (Tmp × Nat))(ok:Nat->Bool)(s:AV):∀(l:List Tmp) (t:Tmp) (c:AC),BF (B7 D ok s l) t=some c->t∈l
 |[],_,_,h=>by simp[B7,BF] at h
 |x::r,t,c,h=>by
  have u:∀aP:AC,BF ((x,aP)::B7 D ok s r) t=some c->t∈x::r:=fun aP h=>by
   by_cases e:t=x
   .rw[e];exact tl
   .refine th _ (Hj D ok s r t c ?_);have y:Nat.beq x t=false:=by
     cases z:Nat.beq x t with
     |false=>rfl
     |true=>exact absurd (tW z).symm e
    change (bif Nat.beq x t then some aP else BF (B7 D ok s r) t)=some c at h;rw[y] at h;exact h
  simp only[B7] at h;cases d:s.get x with
  |none=>rw[d] at h;exact th _ (Hj D ok s r t c h)
  |some aP=>
   rw[d] at h;simp only at h;cases p:Ay D x with
   |none=>rw[p] at h;exact u aP (by simpa using h)
   |some i=>
    rw[p] at h;simp only at h;split at h
    .exact u aP h
    .exact th _ (Hj D ok s r t c h)
theorem dw {S:DS}{D:List (Tmp × Nat)}{ok:Nat->Bool}{R:Nat}{Bs:List Tmp}{t:Tmp}(h:(S.masked D ok R Bs).tmps.get t=some c):t∈Bs:=by
 simp only[DS.masked,AV.get] at h;cases p:BF (B7 D ok S.tmps Bs) t with
 |none=>rw[p] at h;simp[Tr.get] at h
 |some d=>exact Hj _ _ _ _ _ _ p
theorem Fh.wf {n:Nat}(h:Fh T J n a e):Fh (T.wf F) J n a e:=⟨h.lt,h.bool,h.iff,h.imp,h.ne⟩
theorem Fh.un {n:Nat}(h:Fh (T.wf F) J n a e):Fh T J n a e:=⟨h.lt,h.bool,h.iff,h.imp,h.ne⟩
theorem BH.masked {Bs:List Tmp}(H:BR L aC tg P T call aj J ac S)(I:BH L P T J S aT aG A q listed V a w){j R:Nat}{g:G}(hj:j < J.size)(a7:listed.getD j false=false)(hR:(AW J.toList [])[j]? =some R)(N:∀i,R.testBit i=true->listed.getD i false=true)
  (a2:∀t i u,t∈Bs->J[i]? =some u->u.dst=some t->AL L (AQ 0 J.toList) u=4->R.testBit i=true->i < q) (M:(S j).g.n<=g.n) (a3:(S q).g.n<=g.n):
  Bu (T.wf (frO L T J listed q A)) V J { (S j).masked (An 0 J.toList) (okG (AW J.toList []) R j) R Bs with mem:=(S q).mem,g:=g } a w:=by
 obtain⟨X,_⟩:=H.later 0 j (by omega);rw[tj] at X;have al:=E2 _ 0 H.masks j R hR;refine⟨⟨I.defers,?_,fun t c z=>?_,I.mem.mono a3⟩,fun e E=>?_⟩
 .simp only[DS.masked];rw[I.asize,X.len]
 .obtain⟨C,O⟩:=Sr (R:=R) H.nodup z;have a6:=dw (R:=R) z;refine (I.val H (by omega) C fun i o h hd=>?_).up0 M;have d:=O i o h hd;simp only[okG,uN] at d;rcases d with d|d
  .exact .inl ⟨N i d,by have:=al i d;omega,fun h4=>a2 t i o a6 h hd h4 d⟩
  .right;have Y:i < (AW J.toList []).length:=by
    rw[CY];exact (te.1 h).1
   have y:(AW J.toList [])[i]? =some ((AW J.toList []).getD i 0):=by
    simp[List.getD,tZ Y]
   have ba:=E2 _ 0 H.masks i _ y j d;refine⟨?_,by omega⟩;cases hx:listed.getD i false with
   |false=>rfl
   |true=>
    have:=CN I.closed y h (I.closed i o h hx) j d;rw[a7] at this;cases this
 .simp only[DS.masked,G3,vG,List.mem_filter] at E;obtain⟨p,⟨hp,d⟩,rfl⟩:=E;have a4:=N p.1 d;have bb:p.1 < j:=by have:=al p.1 d;omega
  obtain⟨ae,_⟩:=H.later j (J.size - j) (by omega);rw[show j+(J.size - j)=J.size by omega] at ae;obtain⟨l3,_⟩:=H.later (p.1+1) (j - (p.1+1)) (by omega);rw[show p.1+1+(j - (p.1+1))=j by omega] at l3;exact ((I.gfacts p (ae.gls p hp) a4).1.up (t8 l3.grow.n M)).wf
end
section
variable {L aC:Bool}{tg:List Tmp}{P:Program}{T:Tab}{call:Au}{aj:Ys}{r:Option Nat}{ai:Nat}{J:Array Oper}{ac:PC}
variable{az:Operand->AC}{x:Operand}{s an:RS}{o:Oper}{t:TypeId}{D:List (Tmp × Nat)}
theorem fu {op:Op}(d:op= .move x\/op= .assign x\/∃k,op= .extract x k)(k:Nat):(∀m g,EM k P az op m g=aOp P az op m g)\/∀m g,EM k P az op m g=none:=by
 match k with
 |0=>exact .inl fun _ _=>rfl
 |1=>rcases d with rfl|rfl|⟨k,rfl⟩<;>exact .inr fun _ _=>rfl
 |n+2=>rcases d with rfl|rfl|⟨k,rfl⟩<;>exact .inl fun _ _=>rfl
theorem fS (y:o.guard=none)(p:o.op= .move x\/o.op= .assign x\/∃k,o.op= .extract x k)(h:Bt P call aj J ac s o=some an):
  an.mem=s.mem/\an.g=s.g/\an.gl=s.gl/\∀m g,Bt P call aj J ac { s with mem:=m,g:=g } o=some { an with mem:=m,g:=g }:=by
 unfold Bt Dj at h⊢;simp only[y,tX,uM] at h⊢;split at h
 .cases h
 rename_i z;simp only[z];have d:=fu (P:=P) (az:=C0 [] s.tmps) p (SN aj o.dst);generalize SN aj o.dst=K at h d⊢;rcases p with p|p|⟨k,p⟩
 .rw[p] at h d⊢;rcases d with d|d
  .simp only[d,aOp,uM] at h⊢;cases h;exact⟨rfl,rfl,rfl,fun m g=>rfl⟩
  .simp only[d] at h;cases h
 .rw[p] at h d⊢;rcases d with d|d
  .simp only[d,aOp,uM] at h⊢;cases h;exact⟨rfl,rfl,rfl,fun m g=>rfl⟩
  .simp only[d] at h;cases h
 .rw[p] at h d⊢;rcases d with d|d
  .simp only[d,aOp,Nt] at h⊢;generalize C0 [] s.tmps x=e at h⊢;cases e
   case tup l=>
    simp only[tU,uC] at h;obtain⟨aI,⟨c,u,rfl⟩,h⟩:=h;cases h;refine⟨rfl,rfl,rfl,fun m g=>?_⟩;simp only[u,uy,uM];rfl
   all_goals simp at h
  .simp only[d] at h;cases h
theorem if23 {b:Bool}:(b=true/\(if b=true then 2 else 3)=2)\/(b=false/\(if b=true then 2 else 3)=3):=by cases b<;>simp
theorem kS {op:BinOp}{p:TypeId}{y:Operand}(u:o.guard=none)(z:o.op= .binOp op t x y p)(h:Bt P call aj J ac s o=some an):
  ∃aI,Xu P op t (C0 [] s.tmps x) (C0 [] s.tmps y) s.mem s.g=some aI/\an.mem=aI.m/\an.g=(s.g.pushAll aI.us).needAll ac aI.ps/\an.gl=s.gl/\an.tmps=Cv s.tmps o.dst aI.c:=by
 unfold Bt Dj at h;simp only[u,tX,uM] at h;split at h
 .cases h
 simp only[z,tU] at h;obtain⟨aI,C,h⟩:=h;cases h;have E:∀k,EM k P (C0 [] s.tmps) (.binOp op t x y p) s.mem s.g=some aI->Xu P op t (C0 [] s.tmps x) (C0 [] s.tmps y) s.mem s.g=some aI:=fun k d=>by
  match k,d with
  |0,d=>exact d
  |1,d=>cases d
  |n+2,d=>exact d
 grind
theorem AA.intAny {T:Tab}{n:Nat}{V ab:Nat->Option Nat}{m ad:Mem}{w Z:World}{c:AC}{v:Value}(d:(CE c).isSome=true)(h:AA T n V m w c v):AA T n ab ad Z c v:=by
 cases c<;>first|exact h|cases d
theorem Mq {L:Bool}(D:List (Tmp × Nat))(o:Oper):(AL L D o=0/\o.guard=none/\((∃x,(o.op= .move x\/o.op= .assign x\/∃k,o.op= .extract x k)/\∀t,x= .tmp t->Ay D t=none)\/∃op t x y u,o.op= .binOp op t x y u/\(∀t,x= .tmp t->Ay D t=none)/\∀t,y= .tmp t->Ay D t=none))\/(AL L D o=1/\Sk o.op=true)\/(AL L D o=2/\(A9 o.op=true\/(∃f as ar,o.op= .call { callee:= .value f,args:=as,argTypes:=ar })\/∃t n ps,o.op= .buildSlice t n ps))\/AL L D o=3\/(AL L D o=4/\o.guard=none/\∃t,o.op= .alloc t):=by
 unfold AL;have p:∀(b:Bool) (n:Nat),((if (o.guard.isNone&&b)=true then 0 else n)=0/\o.guard=none/\b=true)\/(if (o.guard.isNone&&b)=true then 0 else n)=n:=by
  intro b n;cases b<;>cases o.guard<;>simp
 cases d:o.op with
 |move x|assign x=>
  simp only;refine (p _ _).elim (fun h=> .inl ⟨h.1,h.2.1,.inl ⟨x,by simp,fun t e=>?_⟩⟩) (fun h=> .inr (.inl ⟨h,rfl⟩));have O:=h.2.2;subst e;simpa using O
 |extract x k=>
  simp only;refine (p _ _).elim (fun h=> .inl ⟨h.1,h.2.1,.inl ⟨x,by simp,fun t e=>?_⟩⟩) (fun h=> .inr (.inr (.inl ⟨h,.inl rfl⟩)));have O:=h.2.2;subst e;simpa using O
 |binOp op aR x y u=>
  simp only;have z:∀x:Operand,(match x with| .tmp t=>(Ay D t).isNone|_=>true)=true->∀t,x= .tmp t->Ay D t=none:=fun x h t e=>by
   subst e;simpa using h
  refine (p _ _).elim (fun h=> .inl ⟨h.1,h.2.1,.inr ⟨op,aR,x,y,u,rfl,?_⟩⟩) (fun h=> .inr (.inr (.inl ⟨h,.inl rfl⟩)));have O:=h.2.2;rw[tV,tV] at O;exact⟨z x O.1.2,z y O.2⟩
 |nilCheck x=>exact .inr (.inl ⟨rfl,rfl⟩)
 |fieldAddr a b c=>exact .inr (.inl ⟨rfl,rfl⟩)
 |indexAddr a b c=>exact .inr (.inl ⟨rfl,rfl⟩)
 |buildSlice t n ps=>
  simp only;cases (L&&Nat.blt 0 n) with
  |true=>exact .inr (.inr (.inl ⟨rfl,.inr (.inr ⟨t,n,ps,rfl⟩)⟩))
  |false=>exact .inr (.inr (.inr (.inl rfl)))
 |alloc t=>
  simp only;cases M:o.guard with
  |none=>exact .inr (.inr (.inr (.inr ⟨rfl,rfl,t,rfl⟩)))
  |some g=>exact .inr (.inr (.inr (.inl rfl)))
 |call c=>
  obtain⟨E,as,ar⟩:=c;cases E with
  |value f=>
   cases f with
   |func k=>
    simp only;cases L with
    |true=>exact .inr (.inr (.inl ⟨rfl,.inr (.inl ⟨_,as,ar,rfl⟩)⟩))
    |false=>exact .inr (.inr (.inr (.inl rfl)))
   |_=>exact .inr (.inr (.inr (.inl rfl)))
  |_=>
   simp only;rcases @if23 (A9 o.op) with⟨C,O⟩|⟨_,O⟩
   .rw[d] at C O;exact .inr (.inr (.inl ⟨O,.inl C⟩))
   .rw[d] at O;exact .inr (.inr (.inr (.inl O)))
 |_=>
  simp only;rcases @if23 (A9 o.op) with⟨C,O⟩|⟨_,O⟩
  .rw[d] at C O;exact .inr (.inr (.inl ⟨O,.inl C⟩))
  .rw[d] at O;exact .inr (.inr (.inr (.inl O)))
theorem Lh:∀(l:List Oper) (k j:Nat) (o:Oper) (t:Tmp) (aR:TypeId),l[j]? =some o->o.op= .alloc aR->o.dst=some t->Ay (AQ k l) t≠none
 |[],_,_,_,_,_,h,_,_=>by simp at h
 |o0::l,k,j,o,t,aR,h,ho,hd=>by
  cases j with
  |zero=>
   simp at h;subst h;unfold AQ;rw[ho,hd];show (bif Nat.beq t t then some k else _)≠none;rw[Nat.beq_refl];exact fun h=>by cases h
  |succ j=>
   have d:=Lh l (k+1) j o t aR (by simpa using h) ho hd;unfold AQ;split
   .rename_i p _ _;show (bif Nat.beq p t then some k else Ay (AQ (k+1) l) t)≠none;cases Nat.beq p t with
    |true=>exact fun h=>by cases h
    |false=>exact d
   .exact d
theorem DH {L:Bool}(h:AL L D o=4):o.guard=none/\∃t,o.op= .alloc t:=by
 rcases Mq (L:=L) D o with⟨C,_⟩|⟨C,_⟩|⟨C,_⟩|C|⟨_,O⟩
 .omega
 .omega
 .omega
 .omega
 .exact O
theorem KG {L:Bool}:AL L D o=0\/AL L D o=1\/AL L D o=2\/AL L D o=3\/AL L D o=4:=by
 rcases Mq (L:=L) D o with⟨C,_⟩|⟨C,_⟩|⟨C,_⟩|C|⟨C,_⟩<;>simp[C]
theorem Zh {k:Nat}{m:Mem}{g:G}{r:R}(h:EM k P az (.alloc t) m g=some r):IP P t m=some r:=
 match k,h with
 |0,h=>h
 |1,h=>nomatch h
 |_+2,h=>h
theorem Gn (p:o.guard=none)(y:o.op= .alloc t)(h:Bt P call aj J ac s o=some an):
  ∃l,IP P t []=some (Pa l t [])/\an.tmps=Cv s.tmps o.dst (.ptr s.mem.length 0)/\an.mem=s.mem++[.cells l t]/\an.g=s.g/\an.gl=s.gl:=by
 unfold Bt Dj at h;simp only[p,tX,uM] at h;split at h
 .cases h
 .rw[y] at h;simp only[tX,tU] at h;obtain⟨aI,d,h⟩:=h;cases h;replace d:IP P t s.mem=some aI:=Zh d;unfold IP at d⊢;simp only[tX,tU] at d;obtain⟨i,Y,z,C,l,u,d⟩:=d;cases d;refine⟨l,?_,rfl,rfl,rfl,rfl⟩;simp only[Y,C,u,tX,uM]
variable {S:Nat->DS}{aT:Nat->Option Nat}{aG:World}{A:Nat->Nat}{q:Nat}{listed:Array Bool}{V ab:Nat->Option Nat}{a:Act}{w Z:World}
theorem jC {z:Array Bool}{E:Nat}(h:∀j aq,J[j]? =some aq->AL L (AQ 0 J.toList) aq=4->((z.getD j false=true/\E<=j)↔(listed.getD j false=true/\q<=j))):frO L T J z E A=frO L T J listed q A:=by
 funext b off;apply propext;constructor
 .rintro⟨C,O⟩;exact⟨C,fun⟨i,o,p,d,u,y,e⟩=>O ⟨i,o,p,d,((h i o p d).2 ⟨u,y⟩).1,((h i o p d).2 ⟨u,y⟩).2,e⟩⟩
 .rintro⟨C,O⟩;exact⟨C,fun⟨i,o,p,d,u,y,e⟩=>O ⟨i,o,p,d,((h i o p d).1 ⟨u,y⟩).1,((h i o p d).1 ⟨u,y⟩).2,e⟩⟩
variable{i:Nat}{o:Oper}
theorem BH.plt (I:BH L P T J S aT aG A q listed V a w)(u:J[i]? =some o)(d:AL L (AQ 0 J.toList) o=4)(p:listed.getD i false=true)(y:q<=i):A i < w.heap.size:=by
 obtain⟨_,_,_,t,l,W,_,_,h,_⟩:=I.pend i o u d p y;grind
theorem AV.get_set_self (s:AV){d:Nat}(c:AC)(h:d < s.n):(s.set d c).get d=some c:=by
 unfold AV.set;have p:Nat.blt d s.n=true:=Nat.ble_eq_true_of_le h;rw[p];show (match (bif Nat.beq d d then some c else BF s.loc d) with|some c=>some c|none=>_)=some c;rw[Nat.beq_refl];rfl
theorem BH.act1 (H:BR L aC tg P T call aj J ac S)(I:BH L P T J S aT aG A q listed V a w)(Y:J[q]? =some o)(hl:listed.getD q false=true\/AL L (AQ 0 J.toList) o=0)(X:AL L (AQ 0 J.toList) o≠3):
  ∃ ab,BH L P T J S aT aG A (q+1) listed ab a w:=by
 have ee:q < J.size:=(te.1 Y).1;obtain⟨lq,_,lm⟩:=H.later q 1 (by omega);have b3:∀j o,j < q+1->J[j]? =some o->listed.getD j false=true\/AL L (AQ 0 J.toList) o=0:=fun j aq hj E=>by
  rcases tu j q with h|h
  .exact I.base j aq h E
  .have:j=q:=by omega
   subst this;rw[Y] at E;cases E;exact hl
 have b7:∀j o,J[j]? =some o->AL L (AQ 0 J.toList) o=3->(listed.getD j false=true↔j < q+1):=fun j aq E b5=>by
  have b8:j≠q:=fun e=>by subst e;rw[Y] at E;cases E;exact X b5
  rw[I.mlist j aq E b5];omega
 by_cases p:AL L (AQ 0 J.toList) o=4
 .
  have bt:listed.getD q false=true:=hl.resolve_right (by omega);obtain⟨p1,p2,p3,t,l,W,p4,p5,p6,p7⟩:=I.pend q o Y p bt (tY _);obtain⟨R,hR,aa⟩:=H.step q o Y;obtain⟨an,c,a1,ce,a3,a4,d2,d4,d3,ch,d5,-⟩:=DF aa;replace a1:=Gr a1 (.inl (by omega));obtain⟨d,hd,b4⟩:=ch p;obtain⟨hg,_⟩:=DH p;obtain⟨l0,d6,ci,d7,d8,d9⟩:=Gn hg p4 a1;obtain⟨k,hk⟩:∃k,k=(S q).mem.length:=⟨_,rfl⟩;have z:(S (q+1)).mem=(S q).mem++[.cells l t]:=p5;have b1:(S q).mem.at k= .pad:=Mem.at_ge (by omega);obtain⟨ab,bb⟩:∃ ab, ab=CI V k (A q):=⟨_,rfl⟩;have a2: ab k=some (A q):=by rw[bb];exact Ap _ _ _
  have a7:((S q).mem++[Blk.cells l t]).at k= .cells l t:=by rw[hk,AS,vC rfl]
  have a8:∀id,id≠k->((S q).mem++[Blk.cells l t]).at id=(S q).mem.at id:=fun id e=>by rw[AS,vA (by rw[<-hk];exact e)]
  have b2:∀id,(S q).mem.at id≠ .pad->((S q).mem++[Blk.cells l t]).at id=(S q).mem.at id/\ ab id= V id:=fun id hp=>by
   have e:id≠k:=fun e=>by rw[e] at hp;exact hp b1
   exact⟨a8 id e,by rw[bb];exact Ao _ _ _ e⟩
  have b0:∀id,(S q).mem.at id= .pad->id≠k->((S q).mem++[Blk.cells l t]).at id= .pad:=fun id hp e=>by rw[a8 id e];exact hp
  have cx:∀b,Pd L J listed (q+1) A b->Pd L J listed q A b:=fun b ⟨i,u,C,O,X,p,h5⟩=>⟨i,u,C,O,X,by omega,h5⟩;have hF:∀b off,frO L T J listed q A b off->frO L T J listed (q+1) A b off:=fun b off ⟨C,O⟩=>⟨C,fun h=>O (cx b h)⟩;have chg:Chg T (frO L T J listed q A) (frO L T J listed (q+1) A) V ab (S q).mem ((S q).mem++[Blk.cells l t]) w:=by
   refine⟨b2,fun b off ⟨C,O,X⟩=>⟨C,hF b off O,fun id=>?_⟩⟩;by_cases e:id=k
   .subst e;rw[a7];show ab id≠some b;rw[a2];intro N;exact O.2 ⟨q,o,Y,p,bt,tY _,Option.some.inj N⟩
   .by_cases hp:(S q).mem.at id= .pad
    .rw[b0 id hp e];trivial
    .obtain⟨e1,N⟩:=b2 id hp;rw[e1,N];exact X id
  have c4:AG (T.wf (frO L T J listed (q+1) A)) (S q).g.n ab ((S q).mem++[Blk.cells l t]) w:=by
   refine AG.more I.mem chg b1 b0 a2 p2 ?_ (fun b off hb=>?_) fun id b _ _ h off=>hF b off (h off)
   .rw[a7];exact⟨A q,W,a2,p6,p7 _ _ _ _ _⟩
   .exact hF b off (I.mem.fr b off hb)
  refine⟨ab,⟨I.size,I.closed,by omega,b3,b7,?_,I.asize,?_,fun tt c hc bx=>?_,fun i u di ba ao M a5 a0 a6=>?_,I.gfacts,fun i u M a9 ao a6=>?_,fun i j u aq C O X p h5 h6 h7 h8=>I.inj i j u aq C O X p h5 h6 (by omega) (by omega),?_⟩⟩
  .rw[z];obtain⟨h0,Ds,C,O,X⟩:=I.defers;refine⟨h0,Ds,C,O,fun D hD=>?_⟩;obtain⟨p,h5,h6⟩:=X D hD;refine⟨p,h5,fun id ht e=>?_⟩;by_cases N:id=k
   .rw[N,a2] at e;cases e;rw[p6] at h5;cases h5
   .rw[a8 id N] at ht;rw[bb,Ao _ _ _ N] at e;exact h6 id ht e
  .rw[z];exact c4.mono lq.grow.n
  .rw[z];exact AA.chg chg _ _ (I.init tt c hc bx)
  .rw[z];by_cases e:i=q
   .subst e;rw[Y] at M;cases M;rw[hd] at a5;cases a5;have c0:c= .ptr (S i).mem.length 0:=by
     rw[a3 d hd,ci,hd];show ((((S i).masked (An 0 J.toList) (okG (AW J.toList []) R i) R (As J o)).tmps.set d (.ptr (S i).mem.length 0)).get d).getD .any=_;rw[AV.get_set_self ((S i).masked (An 0 J.toList) (okG (AW J.toList []) R i) R (As J o)).tmps _ b4];rfl
    have c1:ba= .ptr k 0:=by
     rw[ce] at a0;simp only[hd,Cv] at a0;rw[AV.get_set_self _ _ b4] at a0;cases a0;rw[c0,hk]
    rw[c1];exact⟨A i,a2,p3 d hd,by rw[a7];rfl⟩
   .exact AA.chg chg _ _ (I.facts i u di ba ao M a5 a0 fun h=>by have:=a6 h;omega)
  .obtain⟨ax,aE,r3,t2,ae,d0,r4,r5,r6,r7⟩:=I.pend i u M a9 ao (by omega);refine⟨ax,fun id ht e=>?_,r3,t2,ae,d0,r4,r5,r6,r7⟩;rw[z] at ht;by_cases N:id=k
   .rw[N,a2] at e;have:=I.inj q i o u Y M p a9 bt ao (tY _) (by omega) (Option.some.inj e);omega
   .rw[a8 id N] at ht;rw[bb,Ao _ _ _ N] at e;exact aE id ht e
  .rw[z];exact AH.more I.st b2 b1 b0 (by rw[a7];rfl) a2 p1
 .have z:(S (q+1)).mem=(S q).mem:=lm fun j aq C O E=>by
   have:j=q:=by omega
   subst this;rw[Y] at E;cases E;have:=KG (L:=L) (D:=AQ 0 J.toList) (o:=o);omega
  have bm:frO L T J listed (q+1) A=frO L T J listed q A:=jC fun j aq E c3=>by
   have b8:j≠q:=fun e=>by subst e;rw[Y] at E;cases E;exact p c3
   constructor<;>(rintro⟨x,y⟩;exact⟨x,by omega⟩)
  refine⟨V,⟨I.size,I.closed,by omega,b3,b7,by rw[z];exact I.defers,I.asize,by rw[bm,z];exact I.mem.mono lq.grow.n,fun tt c hc bx=>by rw[bm,z];exact I.init tt c hc bx,fun i u di ba ao M a5 a0 a6=>?_,I.gfacts,fun i u M a9 ao a6=>?_,fun i j u aq C O X p h5 h6 h7 h8=>I.inj i j u aq C O X p h5 h6 (by omega) (by omega),by rw[z];exact I.st⟩⟩
  .rw[bm,z];refine I.facts i u di ba ao M a5 a0 fun h=>?_;have:=a6 h;have b8:i≠q:=fun e=>by subst e;rw[Y] at M;cases M;exact p h
   omega
  .rw[z];exact I.pend i u M a9 ao (by omega)
theorem BH.acts (H:BR L aC tg P T call aj J ac S):∀(k:Nat) {q:Nat} {V :Nat->Option Nat},BH L P T J S aT aG A q listed V a w->q+k<=J.size->
  (∀j o,q<=j->j < q+k->J[j]? =some o->(listed.getD j false=true\/AL L (AQ 0 J.toList) o=0)/\AL L (AQ 0 J.toList) o≠3)->∃ ab,BH L P T J S aT aG A (q+k) listed ab a w
 |0,_, V,I,_,_=>⟨V,I⟩
 |k+1,q, V,I,hk,h=>by
  obtain⟨o,d⟩:=BR.op (J:=J) (j:=q) (by omega);obtain⟨C,O⟩:=h q o (tY _) (by omega) d;obtain⟨E,p⟩:=I.act1 H d C O;have:=BH.acts H k p (by omega) fun j aq y z u=>h j aq (by omega) (by omega) u;rw[show q+1+k=q+(k+1) by omega] at this;exact this
theorem BH.reach (H:BR L aC tg P T call aj J ac S)(I:BH L P T J S aT aG A q listed V a w){R:Nat}(E:J[i]? =some o)(O:(AW J.toList [])[i]? =some R)(C:∀j,R.testBit j=true->listed.getD j false=true)(N:AL L (AQ 0 J.toList) o≠0)(u:AL L (AQ 0 J.toList) o≠4)(hq:q<=i):
  ∀k,k<=i->∃y ab,BH L P T J S aT aG A y listed ab a w/\q<=y/\y<=i/\∀j aq,j < k->J[j]? =some aq->AL L (AQ 0 J.toList) aq=4->R.testBit j=true->j < y
 |0,_=>⟨q, V,I,tY _,hq,fun j aq h=>by omega⟩
 |k+1,hk=>by
  obtain⟨p, a9,z,a5,a6,hc⟩:=I.reach H E O C N u hq k (by omega);have ba:i < J.size:=(te.1 E).1;obtain⟨ok,ao⟩:=BR.op (J:=J) (j:=k) (by omega);by_cases hx:AL L (AQ 0 J.toList) ok=4/\R.testBit k=true/\p<=k
  .obtain⟨x1,x2,x3⟩:=hx;have hw:=H.wide i o R E O N u k ok ao (by omega) x1 x2;obtain⟨aW,M⟩:=BH.acts H (k+1 - p) z (by omega) fun j aq bb bc d=>by
    have al:listed.getD j false=true\/AL L (AQ 0 J.toList) aq=0:=by
     by_cases e:j=k
     .subst e;exact .inl (C j x2)
     .exact (hw j aq d (by omega)).imp (C j) (fun h=>h)
    refine⟨al,fun h3=>?_⟩;rcases al with h|h
    .have:=(z.mlist j aq d h3).1 h;omega
    .omega
   rw[show p+(k+1 - p)=k+1 by omega] at M;exact⟨k+1, aW,M,by omega,by omega,fun j aq Y _ _ _=>Y⟩
  .refine⟨p, a9,z,a5,a6,fun j aq Y d u X=>?_⟩;by_cases e:j=k
   .subst e;rw[ao] at d;cases d;rcases tu j p with h|h
    .exact h
    .exact absurd ⟨u,X,h⟩ hx
   .exact hc j aq (by omega) d u X
end
section
variable {L aC:Bool}{tg:List Tmp}{P:Program}{T:Tab}{call:Au}{aj:Ys}{r:Option Nat}{ai:Nat}{J:Array Oper}{ac:PC}
variable {S:Nat->DS}{aT:Nat->Option Nat}{aG:World}{A:Nat->Nat}{q:Nat}{listed:Array Bool}{V ab:Nat->Option Nat}{a:Act}{w Z:World}
variable{i:Nat}{o:Oper}{v:Value}{ad:Mem}
theorem BH.next (H:BR L aC tg P T call aj J ac S)(I:BH L P T J S aT aG A q listed V a w)(ho:J[i]? =some o)(ci:listed.getD i false=false)
  (cc:∀e∈o.after,Region.binds .any e=true->listed.getD e.on false=true) {E:Nat}  (cb:E<=J.size) (bs:AL L (AQ 0 J.toList) o≠4)
  (a3:∀j aq,J[j]? =some aq->AL L (AQ 0 J.toList) aq=4->listed.getD j false=true->(j < E↔j < q)) {n0:Nat} (rs:AH T n0 V (S q).mem w ab (S E).mem Z) (ce:AH T (S 0).g.n aT (S 0).mem aG ab (S E).mem Z)
  (st0:∀c z,AA (T.wf (frO L T J listed q A)) (S 0).g.n V (S q).mem w c z->AA (T.wf (frO L T J listed q A)) (S 0).g.n ab (S E).mem Z c z)
  (st:∀j aq d c z,listed.getD j false=true->J[j]? =some aq->aq.dst=some d->(S (j+1)).tmps.get d=some c->AA (T.wf (frO L T J listed q A)) (S (j+1)).g.n V (S q).mem w c z->AA (T.wf (frO L T J listed q A)) (S (j+1)).g.n ab (S E).mem Z c z) (b7:AG (T.wf (frO L T J listed q A)) (S E).g.n ab (S E).mem Z) (cf:(a.put o.dst v).tmps.size=(S 0).tmps.n)
  (b4:DE T.base ab (S E).mem Z (a.put o.dst v).defers)
  (b3:∀j o',j < E->J[j]? =some o'->(listed.setIfInBounds i true).getD j false=true\/AL L (AQ 0 J.toList) o'=0)
  (b8:∀j o',J[j]? =some o'->AL L (AQ 0 J.toList) o'=3->((listed.setIfInBounds i true).getD j false=true↔j < E))
  (cj:∀d aP,o.dst=some d->(S (i+1)).tmps.get d=some aP->AA (T.wf (frO L T J listed q A)) (S (i+1)).g.n ab (S E).mem Z aP ((a.put o.dst v).tmps.getD d undef))
  (b5:∀p∈(S J.size).gls,p.1=i->Fh T J (S (i+1)).g.n (a.put o.dst v) p.2/\listed.getD p.2.j false=true):
  BH L P T J S aT aG A E (listed.setIfInBounds i true) ab (a.put o.dst v) Z:=by
 have Y:i < listed.size:=by rw[I.size];exact (te.1 ho).1
 have M:∀j aq,J[j]? =some aq->AL L (AQ 0 J.toList) aq=4->(listed.setIfInBounds i true).getD j false=true->listed.getD j false=true/\j≠i:=fun j aq u N hl=>by
  have X:j≠i:=fun e=>by subst e;rw[ho] at u;cases u;exact bs N
  rw[Av _ _ _ Y,vA X] at hl;exact⟨hl,X⟩
 have bb:frO L T J (listed.setIfInBounds i true) E A=frO L T J listed q A:=jC fun j aq u N=>by
  have X:j≠i:=fun e=>by subst e;rw[ho] at u;cases u;exact bs N
  rw[Av _ _ _ Y,vA X];constructor
  .rintro⟨x,y⟩;have:=a3 j aq u N x;exact⟨x,by omega⟩
  .rintro⟨x,y⟩;have:=a3 j aq u N x;exact⟨x,by omega⟩
 refine⟨by simp[I.size],?_,cb,b3,b8,b4,cf,by rw[bb];exact b7,?_,?_,?_,?_,?_,ce⟩
 .
  intro j aq u M e he hb;rw[Av _ _ _ Y] at M⊢;split
  .rfl
  .split at M
   .rename_i ao;subst ao;rw[ho] at u;cases u;exact cc e he hb
   .exact I.closed j aq u M e he hb
 .
  intro t aP hc b0;rw[bb];have X:o.dst≠some t:=fun hd=>by
   have:=b0 i o ho hd;rw[Av _ _ _ Y,vC rfl] at this;cases this
  rw[Df X];refine st0 _ _ (I.init t aP hc fun j aq u hd=>?_);have:=b0 j aq u hd;rw[Av _ _ _ Y] at this;split at this
  .cases this
  .exact this
 .
  intro j aq d aP M u hd hc bt;rw[bb];rw[Av _ _ _ Y] at M;split at M
  .rename_i ao;subst ao;rw[ho] at u;cases u;exact cj d aP hd hc
  .rename_i ao;have X:o.dst≠some d:=fun ba=>ao (C3 H.nodup u ho hd ba);rw[Df X];exact st j aq d aP _ M u hd hc (I.facts j aq d aP M u hd hc fun h4=>(a3 j aq u h4 M).1 (bt h4))
 .
  intro p hp bc;rw[Av _ _ _ Y] at bc;split at bc
  .rename_i bj;obtain⟨C,O⟩:=b5 p hp bj;refine⟨by rw[bj];exact C,?_⟩;rw[Av _ _ _ Y];split
   .rfl
   .exact O
  .rename_i bj;obtain⟨q1,q2⟩:=I.gfacts p hp bc;have ao:p.2.j≠i:=fun e=>by rw[e,ci] at q2;cases q2
   refine⟨⟨q1.lt,q1.bool,?_,q1.imp,q1.ne⟩,by rw[Av _ _ _ Y,vA ao];exact q2⟩;have hy:yielded J (a.put o.dst v).tmps p.2.j=yielded J a.tmps p.2.j:=by
    cases hd:o.dst with
    |none=>rfl
    |some d=>
     refine JJ ?_ v;intro he;cases bi:J[p.2.j]? with
     |none=>rw[bi] at he;cases he
     |some op=>
      rw[bi] at he;exact ao (C3 H.nodup bi ho he hd)
   rw[hy];exact q1.iff
 .
  intro j aq u N hl bt;obtain⟨hl,X⟩:=M j aq u N hl;have bx:q<=j:=by have:=a3 j aq u N hl;omega
  have b6:=I.plt u N hl bx;obtain⟨p1,p2,p3,t,l,W,p4,p5,p6,p7⟩:=I.pend j aq u N hl bx;refine⟨p1,fun id ht e=>?_,fun d hd=>?_,t,l,W,p4,p5,by rw[rs.old (A j) b6 p2];exact p6,p7⟩
  .rcases rs.back ht e with h|⟨C,O⟩
   .omega
   .exact p2 id C O
  .have ca:o.dst≠some d:=fun ba=>X (C3 H.nodup u ho hd ba);rw[Df ca];exact p3 d hd
 .intro j k aq ok C O h3 h4 h5 h6 h7 h8;obtain⟨h5,_⟩:=M j aq C h3 h5;obtain⟨h6,_⟩:=M k ok O h4 h6;have:=a3 j aq C h3 h5;have:=a3 k ok O h4 h6;exact I.inj j k aq ok C O h3 h4 h5 h6 (by omega) (by omega)
theorem Rb:∀{m ad:Mem},Bf m ad=true->∀id x y ks e,m.at id= .mrow x y ks e->∃aA ah,ad.at id= .mrow aA y ah e/\ah.length=ks.length
 |[],_,_,id,x,y,ks,e,h=>by simp[Mem.at] at h
 |b::m,ad,hh,id,x,y,ks,e,h=>by
  cases id with
  |zero=>
   have p:b= .mrow x y ks e:=by simpa [Mem.at] using h
   subst p;cases ad with
   |nil=>simp[Bf] at hh
   |cons u ad=>
    simp only[Bf,tV] at hh;have d:=hh.1;split at d
    .simp only[tV] at d;obtain⟨⟨C,O⟩,z⟩:=d;rw[tW C,tW z];exact⟨_,_,rfl,(tW O).symm⟩
    .cases d
  |succ id=>
   have p:Mem.at m id= .mrow x y ks e:=by simpa [Mem.at] using h
   have E:Bf m ad.tail=true:=by
    cases b with
    |tok=>
     cases ad with
     |nil=>simp[Bf] at hh
     |cons u ad=>simp only[Bf,tV] at hh;exact hh.2
    |mrow=>
     cases ad with
     |nil=>simp[Bf] at hh
     |cons u ad=>simp only[Bf,tV] at hh;exact hh.2
    |_=>simpa [Bf] using hh
   obtain⟨aA,ah,C,O⟩:=Rb E id x y ks e p;refine⟨aA,ah,?_,O⟩;rw[<-C];cases ad<;>simp[Mem.at]
theorem AH.any {n:Nat}{m:Mem}(h:AH T n V m w ab ad Z)(M:AG T n V m w)(z:∀id x ks e,m.at id= .tok x ks e->ad.at id= .tok x ks e)(Y:∀id x y ks e,m.at id= .mrow x y ks e->∃aA ah,ad.at id= .mrow aA y ah e/\ah.length=ks.length)(ak:Nat):AH T ak V m w ab ad Z:=
 ⟨h.os,h.tape,h.output,h.size,h.mlen,h.rho,h.untr,h.fresh,h.old,fun id x ks e d=>by
  rcases h.tok id x ks e d with C|⟨_,O|⟨aA,ah,e',O,u,_⟩⟩
  .exact .inl C
  .rw[z id x ks e d] at O;cases O
  .rw[z id x ks e d] at O;injection O with p X
   have:=M.tok_lt d;omega,
  fun id x y ks e d=>by
  obtain⟨x2,ao,N,E⟩:=Y id x y ks e d;rcases h.row id x y ks e d with O|⟨aA,aS,ah,O,u,p|⟨p,_⟩⟩
  .rw[N] at O;cases O
  .exact .inr ⟨aA,aS,ah,O,u,.inl p⟩
  .rw[N] at O;injection O with X h6
   have:=(M.row_lt d).2;omega⟩
theorem BH.own (H:BR L aC tg P T call aj J ac S)(I:BH L P T J S aT aG A q listed V a w)(y:J[i]? =some o)(a0:listed.getD i false=false){c aP:AC}{d:Tmp}(hd:o.dst=some d)
   (z:(S (i+1)).tmps=Cv (S i).tmps o.dst c) (N:(S i).g.n<=(S (i+1)).g.n) (st:AH (T.wf (frO L T J listed q A)) (S i).g.n V (S q).mem w ab ad Z) (p:AA (T.wf (frO L T J listed q A)) (S (i+1)).g.n ab ad Z c ((a.put o.dst v).tmps.getD d undef))
  (h:(S (i+1)).tmps.get d=some aP):AA (T.wf (frO L T J listed q A)) (S (i+1)).g.n ab ad Z aP ((a.put o.dst v).tmps.getD d undef):=by
 have a2:i < J.size:=(te.1 y).1;obtain⟨X,_,_⟩:=H.later 0 i (by omega);rw[tj] at X;rw[z] at h;simp only[hd,Cv] at h;rcases AV.get_set _ _ _ _ h with⟨_,_,C⟩|⟨M,al⟩
 .rw[C];exact p
 .
  have O:=M rfl;have u:¬d < a.tmps.size:=by rw[I.asize,<-X.len];exact O
  have p:=I.val H (by omega) al fun i' o' Y E=>by
   have:=C3 H.nodup y Y hd E;subst this;exact .inr ⟨a0,tY _⟩
  have ao:(a.put o.dst v).tmps.getD d undef=a.tmps.getD d undef:=by
   rw[hd];simp only[Act.put,tf,ul,if_true,vA u];rw[Array.getElem?_eq_none (Nat.le_of_not_lt u)]
  rw[ao];exact AA.mono0 st N _ _ p
end
section
variable {L aC:Bool}{tg:List Tmp}{P:Program}{T:Tab}{call:Au}{aj:Ys}{r:Option Nat}{ai:Nat}{J:Array Oper}{ac:PC}
variable {S:Nat->DS}{aT:Nat->Option Nat}{aG:World}{A:Nat->Nat}{q:Nat}{listed:Array Bool}{V ab:Nat->Option Nat}{a:Act}{w Z:World}
variable{F:Nat->Nat->Prop}{g:G}
theorem Agr.wf (h:Agr T g):Agr (T.wf F) g:=⟨h.eqs,h.lps⟩
theorem Aj.wf (h:Aj T g):Aj (T.wf F) g:=h
theorem BK.wf {ac:PC}(h:BK T g ac):BK (T.wf F) g ac:=h
theorem NM {ac:PC}(h:pcv T ac):pcv (T.wf F) ac:=h
theorem BH.early (H:BR L aC tg P T call aj J ac S)(I:BH L P T J S aT aG A q listed V a w)(db:AG T (S 0).g.n aT (S 0).mem aG){i:Nat}{o:Oper}(ho:J[i]? =some o)
  (b1:listed.getD i false=false) (di:∀e∈o.after,Region.binds .any e=true->listed.getD e.on false=true) (h4:AL L (AQ 0 J.toList) o=4) {K:Act->World->Prop} {Q:Exit->Act->World->Prop}
  (hK:∀Y q' ab v Z,BH L P T J S aT aG Y q' (listed.setIfInBounds i true) ab (a.put o.dst v) Z->(∃ob,Z=w.alloc ob)->K (a.put o.dst v) Z):Cx P r ai J o a w K Q:=by
 have c6:i < J.size:=(te.1 ho).1;have bs:i < listed.size:=by rw[I.size];exact c6
 obtain⟨hg,t,ht⟩:=DH h4;obtain⟨R,hR,aa⟩:=H.step i o ho;obtain⟨an,c,a1,a2,a3,a4,ea,a7,eb,a8,a9,-⟩:=DF aa;replace a1:=Gr a1 (.inl (by omega));obtain⟨d,hd,c5⟩:=a8 h4;obtain⟨l,cj,b2,b3,b4,cs⟩:=Gn hg ht a1;obtain⟨W,ax,ch⟩:=kN (P:=P) (a:=a) cj ht;obtain⟨af,dd,aE⟩:∃af,(S (i+1)).mem=(S i).mem++[.cells af t]/\∀(T:Tab) (n:Nat) (V :Nat->Option Nat) (m:Mem) (w:World),AB T n V m w af W:=by
  have e:(S (i+1)).mem=Km tg o.dst (S i).mem an.mem:=by rw[a2,h4];rfl
  rw[e,b3];have e2:((S i).masked (An 0 J.toList) (okG (AW J.toList []) R i) R (As J o)).mem=(S i).mem:=rfl;rw[e2];unfold Km;cases hb:isTg tg o.dst with
  |true=>
   rw[vC rfl];refine⟨l.map fun _=> .any,?_,fun T n V m w=>AB.of_get ?_ fun j c u C O=>?_⟩
   .rw[List.drop_left];rfl
   .have:=(ch T n V m w).length;simp[this]
   .simp only[uP,uC] at C;obtain⟨_,_,rfl⟩:=C;trivial
  |false=>
   rw[vA (by decide)];exact⟨l,rfl,ch⟩
 obtain⟨X,_,_⟩:=H.later 0 i (by omega);rw[tj] at X;have hq:q<=i:=by
  rcases tu i q with h|h
  .rcases I.base i o h ho with C|C
   .rw[b1] at C;cases C
   .omega
  .exact h
 unfold Cx;rw[vC (by unfold Region.wanted;rw[hg])];refine Hf (by rw[ht];exact fun c h=>by cases h) ?_;rw[ax w];show K (a.put o.dst (.pointer (some ⟨w.heap.size,0,none⟩))) (w.alloc (.cells W.toArray t));obtain⟨Y,b5⟩:∃Y:Nat->Nat,Y=fun j=>if j=i then w.heap.size else A j:=⟨_,rfl⟩
 have ba:Y i=w.heap.size:=by rw[b5];simp
 have a5:∀j,j≠i->Y j=A j:=fun j h=>by rw[b5];simp[h]
 have ao:∀j,(listed.setIfInBounds i true).getD j false=true↔(j=i\/listed.getD j false=true):=fun j=>by
  rw[Av _ _ _ bs];split
  .rename_i e;simp[e]
  .rename_i e;simp[e]
 have c1:∀b,Pd L J (listed.setIfInBounds i true) q Y b↔(b=w.heap.size\/Pd L J listed q A b):=fun b=>by
  constructor
  .rintro⟨j,aq,N,M,q3,q4,q5⟩;by_cases e:j=i
   .subst e;left;rw[<-q5,ba]
   .right;exact⟨j,aq,N,M,((ao j).1 q3).resolve_left e,q4,by rw[<-a5 j e];exact q5⟩
  .rintro (h|⟨j,aq,N,M,q3,q4,q5⟩)
   .exact⟨i,o,ho,h4,(ao i).2 (.inl rfl),hq,by rw[ba,h]⟩
   .have e:j≠i:=fun e=>by subst e;rw[b1] at q3;cases q3
    exact⟨j,aq,N,M,(ao j).2 (.inr q3),q4,by rw[a5 j e];exact q5⟩
 have hF:∀b off,b≠w.heap.size->frO L T J listed q A b off->frO L T J (listed.setIfInBounds i true) q Y b off:=fun b off hb ⟨C,O⟩=>⟨C,fun h=>((c1 b).1 h).elim hb O⟩;have chg:Chg T (frO L T J listed q A) (frO L T J (listed.setIfInBounds i true) q Y) V V (S q).mem (S q).mem w:=
  ⟨fun _ _=>⟨rfl,rfl⟩,fun b off ⟨C,O,h3⟩=>⟨C,hF b off (by omega) O,h3⟩⟩
 have aw:∀n,AH T n V (S q).mem w V (S q).mem (w.alloc (.cells W.toArray t)):=fun n=>(AH.wf (F:=frO L T J listed q A) (aY:=T.fr) (OO I.mem (.cells W.toArray t) n):_);have cx:∀n,AH (T.wf (frO L T J (listed.setIfInBounds i true) q Y)) n V (S q).mem w V (S q).mem (w.alloc (.cells W.toArray t)):=fun n=>AH.wf (F:=frO L T J listed q A) (OO I.mem (.cells W.toArray t) n);have bt:∀j aq,J[j]? =some aq->AL L (AQ 0 J.toList) aq=4->listed.getD j false=true->q<=j->A j < w.heap.size:=fun j aq N M q3 q4=>I.plt N M q3 q4;have move:∀{n:Nat} {c:AC} {z:Value},AA (T.wf (frO L T J listed q A)) n V (S q).mem w c z->AA (T.wf (frO L T J (listed.setIfInBounds i true) q Y)) n V (S q).mem (w.alloc (.cells W.toArray t)) c z:=fun {n c z} h=>
  AA.mono0 (cx n) (tY _) c z (AA.chg chg c z h)
 refine hK Y q V _ _ ⟨by simp[I.size],?_,I.qle,fun j aq hj y=>?_,fun j aq y c8=>?_,?_,by rw[<-I.asize];cases o.dst<;>simp[Act.put],?_,?_,?_,?_,?_,?_,I.st.trans db (tY _) (aw _)⟩ ⟨_,rfl⟩
 .intro j aq y E e he hb;rw[ao] at E⊢;rcases E with E|E
  .subst E;rw[ho] at y;cases y;exact .inr (di e he hb)
  .exact .inr (I.closed j aq y E e he hb)
 .rw[ao];exact (I.base j aq hj y).imp .inr (fun h=>h)
 .have e:j≠i:=fun e=>by subst e;rw[ho] at y;cases y;omega
  rw[ao,or_iff_right e];exact I.mlist j aq y c8
 .have:=I.defers.on (aw (S q).g.n);cases o.dst<;>exact this
 .exact jN I.mem _ chg (fun b off hb=>hF b off (by omega) (I.mem.fr b off (by omega))) fun id b hx hb h off=>hF b off (by have:=I.mem.lt hx hb;omega) (h off)
 .intro tt cc hc cb;have bc:o.dst≠some tt:=fun hd=>by
   have:=cb i o ho hd;rw[Av _ _ _ bs,vC rfl] at this;cases this
  rw[Df bc];refine move (I.init tt cc hc fun j aq y hd=>?_);have:=cb j aq y hd;rw[Av _ _ _ bs] at this;split at this
  .cases this
  .exact this
 .intro j aq dj cv E y b6 c3 bb;rw[ao] at E;have e:j≠i:=fun e=>by subst e;rw[ho] at y;cases y;have:=bb h4;omega
  have bc:o.dst≠some dj:=fun a6=>e (C3 H.nodup y ho b6 a6);rw[Df bc];exact move (I.facts j aq dj cv (E.resolve_left e) y b6 c3 bb)
 .intro p hp ca;rw[ao] at ca;obtain⟨_,M⟩:=H.gls J.size (tY _) p hp;have b0:p.1≠i:=fun b0=>by
   rw[b0,a2] at M;rcases uY.1 M with C|C
   .unfold Gz at C;rw[cs] at C;simp[DS.masked] at C
   .have:=(H.gls i (by omega) p C).1;omega
  obtain⟨N,M⟩:=I.gfacts p hp (ca.resolve_left b0);have c9:p.2.j≠i:=fun e=>by rw[e,b1] at M;cases M
  refine⟨⟨N.lt,N.bool,?_,N.imp,N.ne⟩,by rw[ao];exact .inr M⟩;have hy:yielded J (a.put o.dst (.pointer (some ⟨w.heap.size,0,none⟩))).tmps p.2.j=yielded J a.tmps p.2.j:=by
   rw[hd];refine JJ ?_ _;intro he;cases bx:J[p.2.j]? with
   |none=>rw[bx] at he;cases he
   |some op=>
    rw[bx] at he;exact c9 (C3 H.nodup bx ho he hd)
  rw[hy];exact N.iff
 .intro j aq y b8 E bb;rw[ao] at E;by_cases e:j=i
  .subst e;rw[ho] at y;cases y;rw[ba];refine⟨I.st.size,fun id ht e=>?_,fun d' a6=>?_,t,af,W,ht,dd,Cq _ _,aE⟩
   .have:=I.mem.lt ht e;omega
   .rw[hd] at a6;cases a6;rw[hd];simp only[Act.put,tf];rw[ul,vC rfl,vC (by rw[I.asize,<-X.len];exact c5)];rfl
  .have E:=E.resolve_left e;obtain⟨p1,p2,p3,t2,ae,d7,p4,p5,p6,p7⟩:=I.pend j aq y b8 E bb;rw[a5 j e];refine⟨p1,p2,fun d' a6=>?_,t2,ae,d7,p4,p5,by rw[BB _ _ _ (bt j aq y b8 E bb)];exact p6,p7⟩;have bc:o.dst≠some d':=fun c4=>e (C3 H.nodup y ho a6 c4);rw[Df bc];exact p3 d' a6
 .intro j k aq ok N M q3 q4 q5 q6 q7 q8 q9;rw[ao] at q5 q6;by_cases e:j=i<;>by_cases e2:k=i
  .rw[e,e2]
  .rw[e,ba,a5 k e2] at q9;have:=bt k ok M q4 (q6.resolve_left e2) q8;omega
  .rw[e2,ba,a5 j e] at q9;have:=bt j aq N q3 (q5.resolve_left e) q7;omega
  .rw[a5 j e,a5 k e2] at q9;exact I.inj j k aq ok N M q3 q4 (q5.resolve_left e) (q6.resolve_left e2) q7 q8 q9
end
section
variable {L aC:Bool}{tg:List Tmp}{P:Program}{T:Tab}{call:Au}{aj:Ys}{r:Option Nat}{ai:Nat}{J:Array Oper}{ac:PC}
variable {S:Nat->DS}{aT:Nat->Option Nat}{aG:World}{A:Nat->Nat}{q:Nat}{listed:Array Bool}{V ab:Nat->Option Nat}{a:Act}{w Z:World}
variable{D:List (Tmp × Nat)}{o:Oper}{i:Nat}{K:Act->World->Prop}{Q:Exit->Act->World->Prop}
theorem Nd {L:Bool}(h:loud L D o=3):AL L D o=3\/(AL L D o=2/\A9 o.op=false):=by
 unfold loud at h;split at h
 .rename_i d;rw[tV] at d;exact .inr ⟨tW d.1,by simpa using d.2⟩
 .exact .inl h
theorem iL {L:Bool}(h:A9 o.op=false)(O:AL L D o=2):loud L D o=3:=by
 unfold loud;rw[h,O];rfl
theorem BH.comesw (H:BR L aC tg P T call aj J ac S)(hA:Agr T (S J.size).g)(gl:Aj T (S J.size).g)(c1:pcv T ac)(di:BK T (S 0).g ac)(c9:AG T (S 0).g.n aT (S 0).mem aG)(I0:BH L P T J S aT aG A q listed V a w)(Y:J[i]? =some o)
  (al:listed.getD i false=false) (ch:∀e∈o.after,Region.binds .any e=true->listed.getD e.on false=true)  
  (hK:∀A' q' ab v Z,BH L P T J S aT aG A' q' (listed.setIfInBounds i true) ab (a.put o.dst v) Z->(loud L (AQ 0 J.toList) o≠3->Z=w\/∃ob,Z=w.alloc ob)->(loud L (AQ 0 J.toList) o=3->∀(k:Nat) (ok:Oper),J[k]? =some ok->AL L (AQ 0 J.toList) ok=4->listed.getD k false=true->i<=k->Z.heap[A k]? =w.heap[A k]?)->K (a.put o.dst v) Z):Cx P r ai J o a w K Q:=by
 have cc:i < J.size:=(te.1 Y).1;have bl:i < listed.size:=by rw[I0.size];exact cc
 obtain⟨R,hR,aa⟩:=H.step i o Y;obtain⟨an,c,a1,a2,c2,a4,a5,a7,d0,a8,a9,a0⟩:=DF aa;have ba:=CN I0.closed hR Y ch;have ga:=E2 _ 0 H.masks i R hR;obtain⟨X,_,_⟩:=H.later 0 i (by omega);rw[tj] at X;obtain⟨ae,_,_⟩:=H.later (i+1) (J.size - (i+1)) (by omega);rw[show i+1+(J.size - (i+1))=J.size by omega] at ae;have hg:(S (i+1)).g=an.g:=by rw[a2]
 have dk:(S (i+1)).tmps=Cv (S i).tmps o.dst c:=by rw[a2]
 have db:(S i).g.n<=(S (i+1)).g.n:=by
  obtain⟨l,_,_⟩:=H.later i 1 (by omega);exact l.grow.n
 have c4:Agr T an.g:=by rw[<-hg];exact hA.of ae.grow
 have dd:Aj T an.g:=by rw[<-hg];exact gl.of ae.grow
 have c7:∀{a':Act},(∀e∈Gz an (G3 R (S i).gls).length,Fh T J (S (i+1)).g.n a' e)->∀p∈(S J.size).gls,p.1=i->Fh T J (S (i+1)).g.n a' p.2/\listed.getD p.2.j false=true:=by
  intro a' hO p hp h1;obtain⟨_,q2⟩:=H.gls J.size (tY _) p hp;rw[h1,a2] at q2;rcases uY.1 q2 with C|C
  .obtain⟨e,he,rfl⟩:=vG.1 C;obtain⟨u1,u2⟩:=d0 e he;exact⟨hO e he,ba e.j u2⟩
  .have:=(H.gls i (by omega) p C).1;omega
 have d5:=H.ord i o R Y hR;rcases Mq (L:=L) (AQ 0 J.toList) o with⟨k0,kg,⟨x,kx,iv⟩|hB⟩|g2
 .
  have I:=I0;obtain⟨lq,_,_⟩:=H.later 0 q (by have:=I.qle;omega);rw[tj] at lq;replace a1:=Gr a1 (.inl (by omega));obtain⟨e1,e2,hi,hm⟩:=fS kg kx a1;obtain⟨M,hw,em,c5,hC⟩:∃M,M<=J.size/\(S i).g.n<=(S M).g.n/\(S q).g.n<=(S M).g.n/\(S 0).g.n<=(S M).g.n:=by
   rcases Nat.le_total q i with h|h
   .obtain⟨l,_,_⟩:=H.later q (i - q) (by omega);rw[show q+(i - q)=i by omega] at l;exact⟨i,by omega,tY _,l.grow.n,X.grow.n⟩
   .have:=I.qle;obtain⟨l,_,_⟩:=H.later i (q - i) (by omega);rw[show i+(q - i)=q by omega] at l;exact⟨q,by omega,l.grow.n,tY _,lq.grow.n⟩
  obtain⟨lM,_,_⟩:=H.later M (J.size - M) (by omega);rw[show M+(J.size - M)=J.size by omega] at lM;obtain⟨d9,_,_⟩:=H.later 0 M (by omega);rw[tj] at d9;have e3:∀t∈As J o,x= .tmp t:=by
   intro t ht;unfold As at ht;rw[kg] at ht;simp only[uj,List.mem_filterMap] at ht;obtain⟨y,hy,g0⟩:=ht;have ie:y=x:=by
    rcases kx with h|h|⟨k,h⟩<;>(rw[h] at hy;simpa [Op.operands] using hy)
   subst ie;cases y<;>simp at g0;rw[g0]
  have b0:=I.masked (Bs:=As J o) (g:=(S M).g) H cc al hR ba (fun t j aq ht N hd bm _=>by
   obtain⟨_,aR,d6⟩:=DH bm;exact absurd (iv t (e3 t ht)) (Lh J.toList 0 j aq t aR (by simpa using N) d6 hd)) em c5
  obtain⟨b1,b2⟩:=JO (T:=T.wf (frO L T J listed q A)) (r:=r) (ai:=ai) (H.call _) H.ys (hm (S q).mem (S M).g);refine b2 (Agr.wf (hA.of lM.grow)) (Aj.wf (gl.of lM.grow)) (NM c1) (BK.wf (di.grow d9.grow)) V a w K Q b0 fun ab v Z ax aE r3=>?_;have a3:AH (T.wf (frO L T J listed q A)) (S M).g.n V (S q).mem w ab (S q).mem Z:=aE;have dn:AG (T.wf (frO L T J listed q A)) (S M).g.n ab (S q).mem Z:=ax.rel.mem;obtain⟨f1,f2⟩:=(a3.down c5).forget I.mem dn (fun _ _=>rfl);have dj:=a3.same (I.mem.mono c5) (fun _ _=>rfl);have st:=AH.any f1 I.mem (fun _ _ _ _ h=>h) (fun _ _ _ ks _ h=>⟨_,ks,h,rfl⟩);have bi:AH T (S 0).g.n V (S q).mem w V (S q).mem Z:=(AH.wf (F:=frO L T J listed q A) (aY:=T.fr) (st (S 0).g.n):_);refine hK A q V v Z (I.next H Y al ch I.qle (by omega) (fun _ _ _ _ _=>Iff.rfl) bi (I.st.trans c9 (tY _) bi) (fun c z=>AA.mono0 (st _) (tY _) c z) (fun j aq d c z _ _ _ _=>AA.mono0 (st _) (tY _) c z) f2 ?_ ?_ ?_ ?_ ?_ (c7 ?_)) (fun _=> .inl (r3 (by rcases kx with h|h|⟨k,h⟩<;>(rw[h];rfl)))) (fun h=>by rcases Nd h with h|⟨h,_⟩<;>omega)
  .rw[<-I.asize];cases o.dst<;>simp[Act.put]
  .have:=I.defers.on f1;cases o.dst<;>exact this
  .intro j o' hj u;rw[Av _ _ _ bl];split
   .exact .inl rfl
   .exact I.base j o' hj u
  .intro j o' u h3;rw[Av _ _ _ bl];have a6:j≠i:=fun e=>by subst e;rw[Y] at u;cases u;omega
   rw[vA a6];exact I.mlist j o' u h3
  .intro d aP hd hc;have hv:AA (T.wf (frO L T J listed q A)) (S M).g.n ab (S q).mem Z c ((a.put o.dst v).tmps.getD d undef):=by
    have:=ax.rel.at d;rw[c2 d hd];exact this
   have ci:=AA.backF dj _ _ (.inr fun id h=>h) hv;have gr:=AC.nlt_ok _ _ (a5 k0).1 ci;rw[<-hg] at gr;exact I.own H Y al hd dk db (st _) gr hc
  .intro e he;unfold Gz at he;rw[hi] at he;simp[DS.masked] at he
 .
  obtain⟨fj,bt,x,y,yt,c6,hF,hH⟩:=hB;have I:=I0;obtain⟨lq,_,_⟩:=H.later 0 q (by have:=I.qle;omega);rw[tj] at lq;obtain⟨M,hw,em,c5,hC⟩:∃M,M<=J.size/\(S i).g.n<=(S M).g.n/\(S q).g.n<=(S M).g.n/\(S 0).g.n<=(S M).g.n:=by
   rcases Nat.le_total q i with h|h
   .obtain⟨l,_,_⟩:=H.later q (i - q) (by omega);rw[show q+(i - q)=i by omega] at l;exact⟨i,by omega,tY _,l.grow.n,X.grow.n⟩
   .have:=I.qle;obtain⟨l,_,_⟩:=H.later i (q - i) (by omega);rw[show i+(q - i)=q by omega] at l;exact⟨q,by omega,l.grow.n,tY _,lq.grow.n⟩
  obtain⟨lM,_,_⟩:=H.later M (J.size - M) (by omega);rw[show M+(J.size - M)=J.size by omega] at lM;obtain⟨d9,_,_⟩:=H.later 0 M (by omega);rw[tj] at d9;replace a1:=Gr a1 (.inl (by omega));obtain⟨aI,b1,b2,d1,b4,b5⟩:=kS kg c6 a1;have e3:∀t∈As J o,x= .tmp t\/y= .tmp t:=by
   intro t ht;unfold As at ht;rw[kg] at ht;simp only[uj,List.mem_filterMap] at ht;obtain⟨z,hz,d8⟩:=ht;have ih:z=x\/z=y:=by rw[c6] at hz;simpa [Op.operands] using hz
   rcases ih with rfl|rfl
   .cases z<;>simp at d8;exact .inl (by rw[d8])
   .cases z<;>simp at d8;exact .inr (by rw[d8])
  have b0:=I.masked (Bs:=As J o) (g:=(S M).g) H cc al hR ba (fun t j aq ht N hd bm _=>by
   obtain⟨_,aR,d6⟩:=DH bm;rcases e3 t ht with h|h
   .exact absurd (hF t h) (Lh J.toList 0 j aq t aR (by simpa using N) d6 hd)
   .exact absurd (hH t h) (Lh J.toList 0 j aq t aR (by simpa using N) d6 hd)) em c5
  have d4:=(a5 k0).2;unfold W0 at d4;rw[c6] at d4;simp only[tV] at d4;obtain⟨⟨⟨⟨f1,f2⟩,hn⟩,ho⟩,f5⟩:=d4;have f6:∀z:Operand,AA (T.wf (frO L T J listed q A)) (S M).g.n V (S q).mem w (C0 [] ((S i).masked (An 0 J.toList) (okG (AW J.toList []) R i) R (As J o)).tmps z) (a.eval z):=fun z=>GA b0.rel (fun c hc=>by cases hc) z;have h8:=AC.nlt_ok _ _ hn (f6 x);have h9:=AC.nlt_ok _ _ ho (f6 y);have hs:Agr (T.wf (frO L T J listed q A)) (((S i).g.pushAll aI.us).needAll ac aI.ps):=by
   have:=Agr.wf (F:=frO L T J listed q A) c4;rw[d1] at this;exact this
  have hD:Aj (T.wf (frO L T J listed q A)) (((S i).g.pushAll aI.us).needAll ac aI.ps):=by
   have:=Aj.wf (F:=frO L T J listed q A) dd;rw[d1] at this;exact this
  obtain⟨z,ax,aE,r3⟩:=Qq (V := V) (w:=w) b1 hs.need.new (hD.need (NM c1)) (AA.intAny f1 h8) (AA.intAny f2 h9) x y;have hP:an.g.n=(S i).g.n+aI.us.length:=by rw[d1,(DB _ _ _).1,Bb];rfl
  have h7:(execOp a.eval o).run P w= .ok (.value z) w:=MF (s:=do eqGuard fj bt x y (a.eval x) (a.eval y);binOp fj bt (a.eval x) (a.eval y)) (by simp only[execOp,c6]) ax;unfold Cx;rw[vC (by simp[Region.wanted,kg])];refine Hf (by rw[c6];exact fun c h=>by cases h) ?_;rw[h7];have st:∀n,AH (T.wf (frO L T J listed q A)) n V (S q).mem w V (S q).mem w:=fun n=>AH.refl _ _ _ _ _;refine hK A q V z w (I.next H Y al ch I.qle (by omega) (fun _ _ _ _ _=>Iff.rfl) (AH.refl T (S 0).g.n V (S q).mem w) I.st (fun c z h=>h) (fun j aq d c z _ _ _ _ h=>h) I.mem ?_ ?_ ?_ ?_ ?_ (c7 ?_)) (fun _=> .inl rfl) (fun h=>by rcases Nd h with h|⟨h,_⟩<;>omega)
  .rw[<-I.asize];cases o.dst<;>simp[Act.put]
  .have:=I.defers;cases o.dst<;>exact this
  .intro j o' hj u;rw[Av _ _ _ bl];split
   .exact .inl rfl
   .exact I.base j o' hj u
  .intro j o' u h3;rw[Av _ _ _ bl];have a6:j≠i:=fun e=>by subst e;rw[Y] at u;cases u;omega
   rw[vA a6];exact I.mlist j o' u h3
  .intro d aP hd hc;have c0:c=(an.tmps.get d).getD .any:=c2 d hd;have hv:AA (T.wf (frO L T J listed q A)) (S (i+1)).g.n V (S q).mem w c ((a.put o.dst z).tmps.getD d undef):=by
    have hV:(S (i+1)).g.n=(S i).g.n+aI.us.length:=by rw[hg,hP]
    have gm:((S i).masked (An 0 J.toList) (okG (AW J.toList []) R i) R (As J o)).tmps.n=a.tmps.size:=b0.rel.size.symm;rw[b5,hd] at c0;rw[hd];by_cases d3:d < a.tmps.size
    .have e1:(Cv ((S i).masked (An 0 J.toList) (okG (AW J.toList []) R i) R (As J o)).tmps (some d) aI.c).get d=some aI.c:=by
      have hb:Nat.blt d ((S i).masked (An 0 J.toList) (okG (AW J.toList []) R i) R (As J o)).tmps.n=true:=by rw[gm,Nat.blt_eq];exact d3
      simp[Cv,AV.set,hb,AV.get,BF]
     rw[e1] at c0;have e2:(a.put (some d) z).tmps.getD d undef=z:=by simp[Act.put,tf,d3]
     rw[e2,c0,hV];rw[c0] at f5;exact AA.intAny f5 r3
    .have hb:Nat.blt d ((S i).masked (An 0 J.toList) (okG (AW J.toList []) R i) R (As J o)).tmps.n=false:=by
      rw[gm];cases hx:Nat.blt d a.tmps.size with
      |false=>rfl
      |true=>rw[Nat.blt_eq] at hx;exact absurd hx d3
     have e1:Cv ((S i).masked (An 0 J.toList) (okG (AW J.toList []) R i) R (As J o)).tmps (some d) aI.c=((S i).masked (An 0 J.toList) (okG (AW J.toList []) R i) R (As J o)).tmps:=by
      simp[Cv,AV.set,hb]
     rw[e1] at c0;have e2:(a.put (some d) z).tmps.getD d undef=a.tmps.getD d undef:=by simp[Act.put,tf,ul,d3]
     rw[e2,hg];refine AC.nlt_ok (ak:=(S M).g.n) _ _ (a5 k0).1 ?_;rw[c0];exact b0.rel.at d
   exact I.own H Y al hd dk db (st _) hv hc
  .intro e he;unfold Gz at he;rw[b4] at he;simp[DS.masked] at he
 by_cases h4:AL L (AQ 0 J.toList) o=4
 .exact I0.early H c9 Y al ch h4 fun A' q' ab v Z C O=>hK A' q' ab v Z C (fun _=> .inr O) (fun h=>by rcases Nd h with h|⟨h,_⟩<;>omega)
 have h0:AL L (AQ 0 J.toList) o≠0:=by
  rcases g2 with⟨h,_⟩|⟨h,_⟩|h|⟨h,_⟩<;>omega
 have h6:q<=i:=by
  rcases tu i q with h|h
  .rcases I0.base i o h Y with C|C
   .rw[al] at C;cases C
   .omega
  .exact h
 obtain⟨q, V,I,_,hq,eo⟩:=I0.reach H Y hR ba h0 h4 h6 i (tY _);have d2:∀t j aq,t∈As J o->J[j]? =some aq->aq.dst=some t->AL L (AQ 0 J.toList) aq=4->R.testBit j=true->j < q:=fun t j aq _ N _ bm hb=>eo j aq (by have:=ga j hb;omega) N bm hb;obtain⟨lq,_,_⟩:=H.later 0 q (by omega);rw[tj] at lq;obtain⟨b3,_,_⟩:=H.later q (i - q) (by omega);rw[show q+(i - q)=i by omega] at b3;have same:(∀j aq,q<=j->j < i->J[j]? =some aq->3<=AL L (AQ 0 J.toList) aq->R.testBit j=true)->(S i).mem=(S q).mem:=fun hh=>by
  obtain⟨_,_,lm⟩:=H.later q (i - q) (by omega);rw[show q+(i - q)=i by omega] at lm;refine lm fun j aq C O N=>?_;rcases tu (AL L (AQ 0 J.toList) aq) 3 with h|h
  .exact h
  .exfalso;have hb:=hh j aq C O N h;have jp:=KG (L:=L) (D:=AQ 0 J.toList) (o:=aq);rcases tu (AL L (AQ 0 J.toList) aq) 4 with h5|h5
   .have:=(I.mlist j aq N (by omega)).1 (ba j hb);omega
   .have:=eo j aq O N (by omega) hb;omega
 rcases g2 with⟨k1,kp⟩|⟨E,kf⟩|k3|⟨h,_⟩
 .
  replace a1:=Gr a1 (.inl (by omega));obtain⟨e1,e2⟩:=dx kp a1;have b0:=I.masked (Bs:=As J o) (g:=(S i).g) H cc al hR ba d2 (tY _) b3.grow.n;obtain⟨b1,b2⟩:=JO (T:=T.wf (frO L T J listed q A)) (r:=r) (ai:=ai) (H.call _) H.ys (e2 (S q).mem);refine b2 (Agr.wf c4) (Aj.wf dd) (NM c1) (BK.wf (di.grow X.grow)) V a w K Q b0 fun ab v Z ax aE r3=>?_;have a3:AH (T.wf (frO L T J listed q A)) (S i).g.n V (S q).mem w ab (S q).mem Z:=aE;have dn:AG (T.wf (frO L T J listed q A)) an.g.n ab (S q).mem Z:=ax.rel.mem;obtain⟨f1,f2⟩:=(a3.down b3.grow.n).forget I.mem dn (fun _ _=>rfl);have dj:=a3.same (I.mem.mono b3.grow.n) (fun _ _=>rfl);have st:=AH.any f1 I.mem (fun _ _ _ _ h=>h) (fun _ _ _ ks _ h=>⟨_,ks,h,rfl⟩);have bi:AH T (S 0).g.n V (S q).mem w V (S q).mem Z:=(AH.wf (F:=frO L T J listed q A) (aY:=T.fr) (st (S 0).g.n):_);refine hK A q V v Z (I.next H Y al ch I.qle h4 (fun _ _ _ _ _=>Iff.rfl) bi (I.st.trans c9 (tY _) bi) (fun c z=>AA.mono0 (st _) (tY _) c z) (fun j aq d c z _ _ _ _=>AA.mono0 (st _) (tY _) c z) f2 ?_ ?_ ?_ ?_ ?_ (c7 ?_)) (fun _=> .inl (r3 (by cases hX:o.op<;>rw[hX] at kp<;>first|rfl|cases kp))) (fun h=>by rcases Nd h with h|⟨h,_⟩<;>omega)
  .rw[<-I.asize];cases o.dst<;>simp[Act.put]
  .have:=I.defers.on f1;cases o.dst<;>exact this
  .intro j o' hj u;rw[Av _ _ _ bl];split
   .exact .inl rfl
   .exact I.base j o' hj u
  .intro j o' u h3;rw[Av _ _ _ bl];have a6:j≠i:=fun e=>by subst e;rw[Y] at u;cases u;omega
   rw[vA a6];exact I.mlist j o' u h3
  .intro d aP hd hc;have hv:AA (T.wf (frO L T J listed q A)) an.g.n ab (S q).mem Z c ((a.put o.dst v).tmps.getD d undef):=by
    have:=ax.rel.at d;rw[c2 d hd];exact this
   have ci:=AA.backF dj _ _ (.inr fun id h=>h) hv;rw[<-hg] at ci;exact I.own H Y al hd dk db (st _) ci hc
  .intro e he;rw[hg];exact (ax.ges e (d0 e he).1).un
 .
  obtain⟨s2,a1,t1,t2,t3,ev⟩:∃s2,Bt P call aj J ac { (S i).masked (An 0 J.toList) (okG (AW J.toList []) R i) R (As J o) with mem:=(S q).mem } o=some s2/\s2.tmps=an.tmps/\s2.g=an.g/\s2.gl=an.gl/\
    (∀id,(S q).mem.at id≠ .pad->s2.mem.at id=(S q).mem.at id)/\(AC.free c=true\/∀id,s2.mem.at id≠ .pad->(S q).mem.at id≠ .pad):=by
   have hT:Bu (T.wf (frO L T J listed q A)) V J { (S i).masked (An 0 J.toList) (okG (AW J.toList []) R i) R (As J o) with mem:=(S q).mem } a w:=
    I.masked (Bs:=As J o) (g:=(S i).g) H cc al hR ba d2 (tY _) b3.grow.n
   cases cy:M1 tg with
   |none=>
    have gd:=same fun j aq C O N h3=>((d5 j aq N O).2 E).resolve_right fun h=>by
     rcases h with h|⟨h,_⟩
     .omega
     .rw[cy] at h;cases h
    have fd:=Gr a1 (.inr cy);have fr:{ (S i).masked (An 0 J.toList) (okG (AW J.toList []) R i) R (As J o) with mem:=(S q).mem }=(S i).masked (An 0 J.toList) (okG (AW J.toList []) R i) R (As J o):=by rw[<-gd];rfl
    refine⟨an,by rw[fr];exact fd,rfl,rfl,rfl,?_⟩;rw[cQ (.inr cy)] at a9;rw[<-gd];rcases a9 E with kf|hk
    .have cf:an.mem=(S i).mem:=PJ fd kf (Agr.wf c4) (Aj.wf dd) (NM c1) (BK.wf (di.grow X.grow)) (by rw[<-fr];exact hT);rw[cf];exact⟨fun _ _=>rfl,.inr fun _ h=>h⟩
    .exact hk
   |some n=>
    obtain⟨b1,b2,d1,b4⟩:=a0 n cy;obtain⟨hS,_⟩:=b4 E;have f8:HG tg (AL L (AQ 0 J.toList) o) (S i).mem=(S i).mem.take n:=by
     unfold HG;rw[cy,E];rfl
    rw[f8] at a1;have hN:∀id,Mem.at ((S i).mem.take n) id≠ .pad->(S q).mem.at id=Mem.at ((S i).mem.take n) id:=fun id hp=>by
     have:=H.keep cy q (i - q) (by omega) id;rw[show q+(i - q)=i by omega] at this;exact this hp
    obtain⟨x,hx,e1,e2⟩:=jd (ag:=(S q).mem) (s:={ (S i).masked (An 0 J.toList) (okG (AW J.toList []) R i) R (As J o) with mem:=(S i).mem.take n }) hS hN a1;refine⟨_,e2,rfl,rfl,rfl,?_⟩;rcases hx with rfl|⟨rfl,hf⟩
    .rw[uj];exact⟨fun _ _=>rfl,.inr fun _ h=>h⟩
    .refine⟨fun id hp=>?_,.inl ?_⟩
     .rw[AS,vA fun e=>hp (Mem.at_ge (by omega))]
     .rcases a9 E with kf|⟨_,kf|kf⟩
      .rw[hf] at kf;cases kf
      .exact kf
      .rw[f8] at kf;refine absurd (Mem.at_ge (tY _)) (kf ((S i).mem.take n).length ?_);rw[e1,AS,vC rfl];exact fun h=>by cases h
  obtain⟨b1,b2⟩:=JO (T:=T.wf (frO L T J listed q A)) (r:=r) (ai:=ai) (H.call _) H.ys a1;refine b2 (by rw[t2];exact Agr.wf c4) (by rw[t2];exact Aj.wf dd) (NM c1) (BK.wf (di.grow X.grow)) V a w K Q (I.masked (Bs:=As J o) (g:=(S i).g) H cc al hR ba d2 (tY _) b3.grow.n) fun ab v Z ax aE r3=>?_;have a3:AH (T.wf (frO L T J listed q A)) (S i).g.n V (S q).mem w ab s2.mem Z:=aE;have dn:AG (T.wf (frO L T J listed q A)) s2.g.n ab s2.mem Z:=ax.rel.mem;obtain⟨f1,f2⟩:=(a3.down b3.grow.n).forget I.mem dn ev.1;have dj:=a3.same (I.mem.mono b3.grow.n) ev.1;have st:=AH.any f1 I.mem (fun _ _ _ _ h=>h) (fun _ _ _ ks _ h=>⟨_,ks,h,rfl⟩);have bi:AH T (S 0).g.n V (S q).mem w V (S q).mem Z:=(AH.wf (F:=frO L T J listed q A) (aY:=T.fr) (st (S 0).g.n):_);refine hK A q V v Z (I.next H Y al ch I.qle h4 (fun _ _ _ _ _=>Iff.rfl) bi (I.st.trans c9 (tY _) bi) (fun c z=>AA.mono0 (st _) (tY _) c z) (fun j aq d c z _ _ _ _=>AA.mono0 (st _) (tY _) c z) f2 ?_ ?_ ?_ ?_ ?_ (c7 ?_)) (fun hl=> .inl (r3 (by cases hf:A9 o.op with|true=>rfl|false=>exact absurd (iL hf E) hl))) (fun _ k ok hk c3 c8 er=>f1.old (A k) (I.plt hk c3 c8 (by omega)) (I.pend k ok hk c3 c8 (by omega)).2.1)
  .rw[<-I.asize];cases o.dst<;>simp[Act.put]
  .have:=I.defers.on f1;cases o.dst<;>exact this
  .intro j o' hj u;rw[Av _ _ _ bl];split
   .exact .inl rfl
   .exact I.base j o' hj u
  .intro j o' u h3;rw[Av _ _ _ bl];have a6:j≠i:=fun e=>by subst e;rw[Y] at u;cases u;omega
   rw[vA a6];exact I.mlist j o' u h3
  .intro d aP hd hc;have hv:AA (T.wf (frO L T J listed q A)) s2.g.n ab s2.mem Z c ((a.put o.dst v).tmps.getD d undef):=by
    have:=ax.rel.at d;rw[c2 d hd,<-t1];exact this
   have ci:=AA.backF dj _ _ ev.2 hv;rw[t2,<-hg] at ci;exact I.own H Y al hd dk db (st _) ci hc
  .intro e he;rw[hg];have:=(ax.ges e (by rw[t3];exact (d0 e he).1)).un;rw[t2] at this;exact this
 .
  replace a1:=Gr a1 (.inl (by omega));obtain⟨V,I⟩:=BH.acts H (i - q) I (by omega) fun j aq jA jB N=>by
   have hl:=((d5 j aq N (by omega)).1 k3).imp (ba j) (fun h=>h);refine⟨hl,fun h3=>?_⟩;rcases hl with h|h
   .have:=(I.mlist j aq N h3).1 h;omega
   .omega
  rw[show q+(i - q)=i by omega] at I;clear same eo d2 b3 lq hq;obtain⟨F,jw⟩:∃F,F=frO L T J listed i A:=⟨_,rfl⟩;have b0:Bu (T.wf (frO L T J listed i A)) V J ((S i).masked (An 0 J.toList) (okG (AW J.toList []) R i) R (As J o)) a w:=
   I.masked (Bs:=As J o) (g:=(S i).g) H cc al hR ba (fun t j aq _ _ _ _ hb=>by have:=ga j hb;omega) (tY _) (tY _)
  have cf:(S (i+1)).mem=an.mem:=by rw[a2,k3];rfl
  obtain⟨b1,b2⟩:=JO (T:=T.wf (frO L T J listed i A)) (r:=r) (ai:=ai) (H.call _) H.ys a1;refine b2 (Agr.wf c4) (Aj.wf dd) (NM c1) (BK.wf (di.grow X.grow)) V a w K Q b0 fun ab v Z ax aE r3=>?_;have a3:AH (T.wf (frO L T J listed i A)) (S i).g.n V (S i).mem w ab (S (i+1)).mem Z:=by
   have:AH (T.wf (frO L T J listed i A)) (S i).g.n V (S i).mem w ab an.mem Z:=aE;rw[cf];exact this
  have st:∀j aq d c z,listed.getD j false=true->J[j]? =some aq->aq.dst=some d->(S (j+1)).tmps.get d=some c->AA (T.wf (frO L T J listed i A)) (S (j+1)).g.n V (S i).mem w c z->AA (T.wf (frO L T J listed i A)) (S (j+1)).g.n ab (S (i+1)).mem Z c z:=by
   intro j aq d c z ey N hd hc;have et:j < J.size:=(te.1 N).1;rcases tu j i with a6|a6
   .obtain⟨lj,_,_⟩:=H.later (j+1) (i - (j+1)) (by omega);rw[show j+1+(i - (j+1))=i by omega] at lj;exact AA.mono0 (a3.down lj.grow.n) (tY _) c z
   .have j0:j≠i:=fun e=>by subst e;rw[al] at ey;cases ey
    by_cases bm:AL L (AQ 0 J.toList) aq=4
    .
     obtain⟨Rj,_,e4⟩:=H.step j aq N;obtain⟨sj,cj,aL,g7,g8,i3,i4,i6,i5,ha,i7,-⟩:=DF e4;replace aL:=Gr aL (.inl (by omega));obtain⟨i8,f3,f4⟩:=ha bm;rw[hd] at f3;cases f3;obtain⟨kg,t,kt⟩:=DH bm;obtain⟨l,_,q2,_,_,_⟩:=Gn kg kt aL;have hL:cj= .ptr (S j).mem.length 0:=by
      rw[g8 d hd,q2,hd];show ((((S j).masked (An 0 J.toList) (okG (AW J.toList []) Rj j) Rj (As J aq)).tmps.set d (.ptr (S j).mem.length 0)).get d).getD .any=_;rw[AV.get_set_self ((S j).masked (An 0 J.toList) (okG (AW J.toList []) Rj j) Rj (As J aq)).tmps _ f4];rfl
     have hI:c= .ptr (S j).mem.length 0:=by
      rw[g7] at hc;simp only[hd,Cv] at hc;rw[AV.get_set_self _ _ f4] at hc;cases hc;exact hL
     rw[hI];exact AA.monoV a3 _ z rfl
    .cases e0:aC with
     |false=>
      have gn:=Si (a4 k3 e0);have gp:=Rb (a4 k3 e0);rw[<-cf] at gn gp;exact AA.mono0 (AH.any a3 I.mem gn gp _) (tY _) c z
     |true=>
      have es:j < (AW J.toList []).length:=by rw[CY];exact et
      have en:=tZ es;obtain⟨Rj,f0,e4⟩:=H.step j aq N;obtain⟨_,_,_,_,_,_,_,hW,_,_,_,hE⟩:=DF e4;have e8:Rj.testBit i=true->False:=fun hb=>by
       have:=CN I.closed f0 N (fun e he hb=>I.closed j aq N ey e he hb) i hb;rw[al] at this;cases this
      have gk:=H.ord j aq _ N f0 i o Y (by omega);have i9:=KG (L:=L) (D:=AQ 0 J.toList) (o:=aq);by_cases hk:AL L (AQ 0 J.toList) aq < 2
      .rcases hW e0 hk d c hd hc with h|h
       .exact AA.monoV a3 c z h
       .exact (e8 (lB h (by omega))).elim
      .by_cases f7:AL L (AQ 0 J.toList) aq=2
       .rcases gk.2 f7 with h|h|⟨h,_⟩
        .exact (e8 h).elim
        .omega
        .obtain⟨n,hU⟩:=Option.isSome_iff_exists.1 h;exact AA.monoV a3 c z (((hE n hU).2.2.2 f7).2 d c hd hc)
       .rcases gk.1 (by omega) with h|h
        .exact (e8 h).elim
        .omega
  have bi:AH T (S 0).g.n V (S i).mem w ab (S (i+1)).mem Z:=(AH.wf (F:=frO L T J listed i A) (aY:=T.fr) (a3.down X.grow.n):_);refine hK A (i+1) ab v Z (I.next H Y al ch (by omega) h4 (fun j aq N bm hl=>?_) bi (I.st.trans c9 (tY _) bi) (fun c z=>AA.mono0 (a3.down X.grow.n) (tY _) c z) st ?_ ?_ ?_ ?_ ?_ ?_ (c7 ?_)) (fun h=>absurd (by unfold loud;rw[k3];rfl) h) (fun _ k ok hk c3 c8 er=>a3.old (A k) (I.plt hk c3 c8 er) (I.pend k ok hk c3 c8 er).2.1)
  .have a6:j≠i:=fun e=>by subst e;rw[Y] at N;cases N;exact h4 bm
   constructor<;>(intro h;omega)
  .rw[hg,cf];exact ax.rel.mem
  .rw[<-I.asize];cases o.dst<;>simp[Act.put]
  .rw[cf];exact ax.rel.defers
  .intro j o' hj u;rw[Av _ _ _ bl];split
   .exact .inl rfl
   .rename_i a6;exact ((d5 j o' u (by omega)).1 k3).imp (ba j) (fun h=>h)
  .intro j o' u h3;rw[Av _ _ _ bl];split
   .rename_i a6;subst a6;simp
   .rename_i a6;have et:j < J.size:=(te.1 u).1;rcases tu j i with h|h
    .have:=ba j (((d5 j o' u h).1 k3).resolve_right (by omega));rw[this];simp;omega
    .constructor
     .intro hl;exfalso;have es:j < (AW J.toList []).length:=by rw[CY];exact et
      have en:=tZ es;have hb:=((H.ord j o' _ u en i o Y (by omega)).1 h3).resolve_right (by omega);have:=CN I.closed en u (fun e he hb=>I.closed j o' u hl e he hb) i hb;rw[al] at this;cases this
     .intro h;omega
  .intro d aP hd hc;have hv:AA (T.wf (frO L T J listed i A)) (S (i+1)).g.n ab (S (i+1)).mem Z c ((a.put o.dst v).tmps.getD d undef):=by
    have:=ax.rel.at d;rw[c2 d hd,hg,cf];exact this
   exact I.own H Y al hd dk db a3 hv hc
  .intro e he;rw[hg];exact (ax.ges e (d0 e he).1).un
 .omega
theorem BH.comes (H:BR L aC tg P T call aj J ac S)(u:Agr T (S J.size).g)(M:Aj T (S J.size).g)(N:pcv T ac)(O:BK T (S 0).g ac)(z:AG T (S 0).g.n aT (S 0).mem aG)(p:BH L P T J S aT aG A q listed V a w)(E:J[i]? =some o)
  (Y:listed.getD i false=false) (X:∀e∈o.after,Region.binds .any e=true->listed.getD e.on false=true)  
  (y:∀d h ab v Z,BH L P T J S aT aG d h (listed.setIfInBounds i true) ab (a.put o.dst v) Z->K (a.put o.dst v) Z):Cx P r ai J o a w K Q:=by
 exact p.comesw H u M N O z E Y X fun d h ab v Z C _ _=>y d h ab v Z C
end
section
variable {L aC:Bool}{tg:List Tmp}{P:Program}{T:Tab}{call:Au}{aj:Ys}{r:Option Nat}{ai:Nat}{J:Array Oper}{ac:PC}
variable{aT:Nat->Option Nat}{aG:World}
theorem BH.full {S:Nat->DS}(H:BR L aC tg P T call aj J ac S){A:Nat->Nat}{q:Nat}{listed:Array Bool}{V :Nat->Option Nat}{a:Act}{w:World}(y:BH L P T J S aT aG A q listed V a w)(u:∀j,j < J.size->listed.getD j false=true):
  ∃ ab,Bu T ab J ⟨(S J.size).tmps,(S J.size).mem,(S J.size).g,(S J.size).gls.map (·.2)⟩ a w/\AH T (S 0).g.n aT (S 0).mem aG ab (S J.size).mem w:=by
 have a3:=y.qle;obtain⟨V,I⟩:=BH.acts H (J.size - q) y (by omega) fun j o C O d=>by
  refine⟨.inl (u j (by omega)),fun Y=>?_⟩;have:=(y.mlist j o d Y).1 (u j (by omega));omega
 rw[show q+(J.size - q)=J.size by omega] at I;obtain⟨X,_,_⟩:=H.later 0 J.size (by omega);rw[tj] at X;have a0:T.wf (frO L T J listed J.size A)=T:=by
  have e:frO L T J listed J.size A=T.fr:=by
   funext b off;apply propext;constructor
   .exact fun h=>h.1
   .exact fun h=>⟨h,fun⟨i,o,d,_,_,hq,_⟩=>by have:=(te.1 d).1;omega⟩
  rw[e];rfl
 have E:=I.mem;rw[a0] at E;refine⟨V,⟨⟨I.defers,by rw[I.asize,X.len],fun t c hc=>?_,E⟩,fun e he=>?_⟩,I.st⟩
 .have:=I.val H (tY _) hc fun i o d hd=> .inl (by
   have z:i < J.size:=(te.1 d).1;exact⟨u i z,z,fun _=>z⟩)
  grind
 .obtain⟨p,M,rfl⟩:=vG.1 he;have a1:=(H.gls J.size (tY _) p M).1;obtain⟨N,_,_⟩:=H.later (p.1+1) (J.size - (p.1+1)) (by omega);rw[show p.1+1+(J.size - (p.1+1))=J.size by omega] at N;exact (I.gfacts p M (u p.1 a1)).1.up N.grow.n
theorem oN {S:Nat->DS}(H:BR L aC tg P T call aj J ac S)(hA:Agr T (S J.size).g)(bt:Aj T (S J.size).g)(bx:pcv T ac)(b0:BK T (S 0).g ac){Q:Exit->Act->World->Prop}(bl:AG T (S 0).g.n aT (S 0).mem aG)
  (hK:∀ V a w,Bu T V J ⟨(S J.size).tmps,(S J.size).mem,(S J.size).g,(S J.size).gls.map (·.2)⟩ a w->AH T (S 0).g.n aT (S 0).mem aG V (S J.size).mem w->Q .normal a w):
  ∀(aK:Nat) (listed:Array Bool) (A:Nat->Nat) (V :Nat->Option Nat) (q:Nat) (a:Act) (w:World),BH L P T J S aT aG A q listed V a w->Cd listed=aK->wpAnyIn (fen r) ai P .any J Q aK listed a w:=by
 intro aK;induction aK with
 |zero=>
  intro listed A V q a w I hu;have d:∀j,j < J.size->listed.getD j false=true:=fun j z=>by
   cases E:listed.getD j false with
   |true=>rfl
   |false=>
    have:=Ej (listed:=listed) (i:=j) (by rw[I.size];exact z) E;omega
  obtain⟨aW,C,O⟩:=I.full H d;refine wpAnyIn_done ?_ (hK aW a w C O) _;refine List.eq_nil_iff_forall_not_mem.2 fun i Y=>?_;obtain⟨C,o,y,_⟩:=mem_ready.1 Y;have u:i < J.size:=(te.1 y).1;have O:=d i u;rw[tf] at C O;have N:i < listed.size:=by rw[I.size];exact u
  rw[uq N] at C O;simp only[Option.getD_some] at C O;rw[C] at O;cases O
 |succ aK ih=>
  intro listed A V q a w I hu;by_cases d:∀j,j < J.size->listed.getD j false=true
  .have hc:=GZ (h:=J.size) (by rw[I.size];exact tY _) (fun j=>by
    refine⟨fun h=>?_,d j⟩;rcases tu j J.size with C|C
    .exact C
    .rw[tf,Array.getElem?_eq_none (by rw[I.size];exact C)] at h;cases h)
   rw[hu,I.size] at hc;omega
  .simp only[Classical.not_forall] at d;obtain⟨j,z,E⟩:=d;have bm:∃j,j < J.size/\listed.getD j false=false/\∀i,i < j->listed.getD i false=true:=by
    have b3:∀n,(∃j,j < n/\j < J.size/\listed.getD j false=false)->∃j,j < J.size/\listed.getD j false=false/\∀i,i < j->listed.getD i false=true:=by
     intro n;induction n with
     |zero=>rintro⟨j,C,_⟩;omega
     |succ n b2=>
      rintro⟨j,C,O,h3⟩;by_cases p:∃j,j < n/\j < J.size/\listed.getD j false=false
      .exact b2 p
      .have bi:j=n:=by
        rcases tu j n with h|h
        .exact absurd ⟨j,h,O,h3⟩ p
        .omega
       subst bi;refine⟨j,O,h3,fun i Y=>?_⟩;cases bj:listed.getD i false with
       |true=>rfl
       |false=>exact absurd ⟨i,Y,by omega,bj⟩ p
    exact b3 (j+1) ⟨j,Nat.lt_succ_self _,z,by simpa using E⟩
   obtain⟨M,h0,a0,a9⟩:=bm;have a4:∀i,listed.getD i true=false->listed.getD i false=false:=fun i h=>by
    rw[tf] at h⊢;cases p:listed[i]? with
    |none=>rfl
    |some b=>rw[p] at h;exact h
   have a1:M∈Region.ready .any J listed:=by
    obtain⟨o,y⟩:=BR.op (J:=J) h0;refine mem_ready.2 ⟨?_,o,y,fun e he hb=>a9 e.on (Qo H.masks y he hb)⟩;have N:M < listed.size:=by rw[I.size];exact h0
    rw[tf,uq N] at a0⊢;simpa using a0
   refine⟨(fun bs=>by rw[bs] at a1;cases a1),fun i bc=>?_⟩;obtain⟨q1,o,X,q3⟩:=mem_ready.1 bc;have u:i < J.size:=(te.1 X).1;refine Gd X (I.comes H hA bt bx b0 bl X (a4 i q1) q3 fun A' q' ab v Z I'=>?_);refine ih _ _ _ _ _ Z I' ?_;have:=Ej (listed:=listed) (i:=i) (by rw[I.size];exact u) (a4 i q1);omega
theorem LZ {D z:List (Tmp × Nat)}{E:List Nat}:∀{l:List Oper} {u:List Nat} {M:Nat} {d p:DS},P2 L aC tg P call aj J D z E ac u l M d=some p->
  ∃S:Nat->DS,S M=d/\S (M+l.length)=p/\∀i o,l[i]? =some o->∃R,u[i]? =some R/\TG L aC tg P call aj J D z E ac R (M+i) o (S (M+i))=some (S (M+i+1))
 |[],u,M,d,p,h=>by
  have X:some d=some p:=by cases u<;>exact h
  cases X;exact⟨fun _=>d,rfl,rfl,fun i o ho=>by simp at ho⟩
 |o::l,[],M,d,p,h=>by simp[P2] at h
 |o::l,R::u,M,d,p,h=>by
  simp only[P2,tX,tU] at h;obtain⟨S1,C,O⟩:=h;obtain⟨S,q1,q2,q3⟩:=LZ O;refine⟨fun k=>if k=M then d else S k,by simp,?_,fun i o' y=>?_⟩
  .simp only[uJ];rw[vA (by omega),<-q2];congr 1;omega
  .cases i with
   |zero=>
    simp at y;subst y;refine⟨R,rfl,?_⟩;simp only[Nat.add_zero,if_true];rw[vA (by omega),q1];exact C
   |succ i=>
    obtain⟨N,Y,this⟩:=q3 i o' (by simpa using y);refine⟨N,by simpa using Y,?_⟩;simp only;rw[vA (by omega),vA (by omega),show M+(i+1)=M+1+i by omega];exact this
theorem iO (hm:P.follows .mixedOrders=true)(bm:∀T,CL P T call)(cf:Ce P T.lp aj){l:Loc}{g:G}{an:RS}(h:FJ L aC tg P call aj J ac l g=some an):
  AX g an.g/\an.tmps.n=l.tmps.n/\(Agr T an.g->Aj T an.g->pcv T ac->BK T g ac->∀id V a w Q,Rel T g.n V l a w->
   (∀ ab a' Z,Bu T ab J an a' Z->AH T g.n V l.mem w ab an.mem Z->Q .normal a' Z)->(Code.region id J true).wpIn (fen r) ai P Q a w):=by
 unfold FJ at h;simp only at h;split at h
 .rename_i N;rw[tV,tV,tV] at N;obtain⟨⟨⟨b3,b5⟩,b8⟩,ce⟩:=N;simp only[tX,tU] at h;obtain⟨Sh,hh,ht⟩:=h;obtain⟨S,O,q2,q3⟩:=LZ hh;rw[tj,Array.length_toList] at q2;have H:BR L aC tg P T call aj J ac S:=by
   refine⟨fun j o E=>?_,b3,b5,fun i o R E u j aq a0 b1=>?_,fun i o R E u n0 n4 j aq a0 b1 h4 hb m om b7 b4=>?_,bm,cf,by rw[O]⟩
   .obtain⟨R,u,this⟩:=q3 j o (by simpa using E);rw[tj] at this;exact⟨R,u,this⟩
   .have:=ST b8 i R (AL L (AQ 0 J.toList) o) u (by simp[E]) j (AL L (AQ 0 J.toList) aq) (by simp[a0]) (by omega);exact⟨this.1,this.2⟩
   .have al:∀(j:Nat) (aq:Oper),J[j]? =some aq->(J.toList.map (AL L (AQ 0 J.toList)))[j]? =some (AL L (AQ 0 J.toList) aq):=fun j aq h=>by simp[h]
    have a6:=LH (M:=0) (j:=j) (by rw[al j aq a0,h4]);rw[tj] at a6;have bt:=SL ce i R _ u (al i o E) n0 n4 j a6 (by omega) hb;have:=SZ bt m _ (al m om b7) b4;rw[tj] at this;exact this
  obtain⟨X,_,_⟩:=H.later 0 J.size (by omega);rw[tj] at X;have z:(S 0).g=g:=by rw[O]
  have aM:(S 0).mem=l.mem:=by rw[O]
  have a2:(S 0).tmps=l.tmps:=by rw[O]
  subst q2;injection ht with ht
  subst ht;refine⟨?_,?_,fun hA b6 ca cb id V a w Q u hK=>?_⟩
  .rw[<-z];exact X.grow
  .rw[<-a2];exact X.len
  .refine wpIn_region_any hm ?_;have a8:=AH.drawn T (S 0).g.n V (S 0).mem w (w.drawn+1);have a5:AG T (S 0).g.n V (S 0).mem { w with drawn:=w.drawn+1 }:=by rw[z,aM];exact u.mem.drawn _
   have C:∀j,(Array.replicate J.size false).getD j false=false:=fun j=>by
    rw[tf,Array.getElem?_replicate];split<;>rfl
   have hT:T.wf (frO L T J (Array.replicate J.size false) 0 (fun _=>0))=T:=by
    have e:frO L T J (Array.replicate J.size false) 0 (fun _=>0)=T.fr:=by
     funext b off;apply propext;constructor
     .exact fun h=>h.1
     .exact fun h=>⟨h,fun⟨i,o,E,_,y,_,_⟩=>by rw[C] at y;cases y⟩
    rw[e];rfl
   have I0:BH L P T J S V { w with drawn:=w.drawn+1 } (fun _=>0) 0 (Array.replicate J.size false) V a { w with drawn:=w.drawn+1 }:=by
    refine⟨by simp,fun j o _ hj=>?_,uQ _,fun j o hj=>by omega,fun j o _ _=>?_,(by rw[aM];exact u.defers.on (AH.drawn T g.n V l.mem w (w.drawn+1))),by rw[a2];exact u.size,by rw[hT];exact a5,fun t c N _=>?_,fun i o d c Y=>?_,fun p _ hp=>?_,fun i o _ _ y=>?_,fun i j oi aq _ _ _ _ y=>?_,AH.refl _ _ _ _ _⟩
    .rw[C] at hj;cases hj
    .rw[C];simp
    .rw[a2] at N;have:=u.tmps t c N;rw[hT,z,aM];exact AA.mono0 (by rw[<-z,<-aM];exact a8) (tY _) _ _ this
    .rw[C] at Y;cases Y
    .rw[C] at hp;cases hp
    .rw[C] at y;cases y
    .rw[C] at y;cases y
   have bs:Cd (Array.replicate J.size false)=J.size:=by simp[Cd,List.countP_replicate]
   refine oN H hA b6 ca (by rw[z];exact cb) a5 (fun aW bb w2 b0 cc=>?_) J.size _ _ V 0 a _ I0 bs;refine hK aW bb w2 b0 ?_;rw[<-z,<-aM];exact a8.trans (by rw[z,aM];exact u.mem) (tY _) cc
 .cases h
end
section
variable {T:Tab}{n:Nat}{V :Nat->Option Nat}{m:Mem}{w Z:World}{b:Nat}
def Blk.isRow:Blk->Bool| .tok .. | .mrow .. =>true|_=>false
mutual
theorem AA.frame (aa:∀b off,AY T V m w b off->AY T V m Z b off/\Z.cell? ⟨b,off,none⟩=w.cell? ⟨b,off,none⟩)(d:∀id b,(m.at id).isRow=true-> V id=some b->Z.heap[b]? =w.heap[b]?):∀(c:AC) (v:Value),AA T n V m w c v->AA T n V m Z c v
 | .any,_,_=>trivial
 | .anyc,_,hh=>hh
 | .on _ a,v,hh=>⟨hh.1,fun C=>AA.frame aa d a v (hh.2 C)⟩
 | .gd _ a,v,hh=>⟨hh.1,fun C=>AA.frame aa d a v (hh.2.1 C),hh.2.2⟩
 | .cb _,_,hh=>hh
 | .b _,_,hh=>hh
 | .nb _,_,hh=>hh
 | .ci _ _,_,hh=>hh
 | .i _ _ _ _,_,hh=>hh
 | .cv _,_,hh=>hh
 | .v _,_,hh=>hh
 | .s _,_,hh=>hh
 | .ptr _ _,_,hh=>hh
 | .pix _ _ _ _ _ _,_,hh=>hh
 | .ro x ks,v,⟨h0,O⟩=>⟨h0,AT.mono aa _ _ v O⟩
 | .rp x t off ks,v,⟨h0,j,b,o,us,O,h3,h4,h5,h6⟩=>⟨h0,j,b,o,us,O,h3,h4,h5,Af.mono aa _ _ _ _ h6⟩
 | .vec id x ks,v,⟨h0,hp,O,h3⟩=>⟨h0,hp,AT.mono aa _ _ v O,fun ah e h=>by
   rcases h3 ah e h with X|⟨b,I,W,X,ae,p,u⟩
   .exact .inl X
   .exact .inr ⟨b,I,W,X,ae,by rw[d id b (by rw[h];rfl) X];exact p,u⟩⟩
 | .fn f first I,v,⟨W,us,C,O,h3⟩=>⟨W,us,C,AB.frame aa d first W O,AB.frame aa d I us h3⟩
 | .sel x alts,v,⟨h0,j,C,O,h3⟩=>⟨h0,j,C,O,Am.frame aa d alts j.toNat v h3⟩
 | .yl _,_,hh=>hh
 | .asl _ _ _,_,hh=>hh
 | .rsv id x ks,v,⟨h0,hp,O,h4,h3⟩=>⟨h0,hp,O,h4,fun ah e h=>by
   rcases h3 ah e h with X|⟨b,len,I,W,X,ae,z,p,u⟩
   .exact .inl X
   .exact .inr ⟨b,len,I,W,X,ae,z,by rw[d id b (by rw[h];rfl) X];exact p,u⟩⟩
 | .mr id y,v,⟨h0,j,a,I,k1,E,k3,k4,k5⟩=>⟨h0,j,a,I,k1,E,k3,k4,fun x ks e h=>by
   rcases k5 x ks e h with X|⟨b,W,X,ae,p,u⟩
   .exact .inl X
   .exact .inr ⟨b,W,X,ae,by rw[d id b (by rw[h];rfl) X];exact p,u⟩⟩
 | .mp _ _ _ _ _,_,hh=>hh
 | .mv _,_,hh=>hh
 | .agg l,v,⟨W,C,O⟩=>⟨W,C,AB.frame aa d l W O⟩
 | .tup l,v,⟨W,C,O⟩=>⟨W,C,AB.frame aa d l W O⟩
theorem AB.frame (aa:∀b off,AY T V m w b off->AY T V m Z b off/\Z.cell? ⟨b,off,none⟩=w.cell? ⟨b,off,none⟩)(d:∀id b,(m.at id).isRow=true-> V id=some b->Z.heap[b]? =w.heap[b]?):∀(l:List AC) (W:List Value),AB T n V m w l W->AB T n V m Z l W
 |[],_,hh=>hh
 |c::l,_,⟨u,us,C,O,h3⟩=>⟨u,us,C,AA.frame aa d c u O,AB.frame aa d l us h3⟩
theorem Am.frame (aa:∀b off,AY T V m w b off->AY T V m Z b off/\Z.cell? ⟨b,off,none⟩=w.cell? ⟨b,off,none⟩)(d:∀id b,(m.at id).isRow=true-> V id=some b->Z.heap[b]? =w.heap[b]?):∀(l:List AC) (j:Nat) (v:Value),Am T n V m w l j v->Am T n V m Z l j v
 |[],_,_,hh=>hh
 |c::_,0,v,hh=>AA.frame aa d c v hh
 |_::l,j+1,v,hh=>Am.frame aa d l j v hh
end
structure JA (w w':World) (b:Nat):Prop where
 os:w'.os=w.os
 tape:w'.tape=w.tape
 output:w'.output=w.output
 size:w'.heap.size=w.heap.size
 oth:∀k,k≠b->w'.heap[k]? =w.heap[k]?
variable{W:Array Value}{e:TypeId}{k:Nat}
theorem hM {w:World}{b:Nat}(xs:Array Value)(h:w.heap[b]? =some (.cells W e (0,0))):(w.setRow b xs).heap[b]? =some (.cells xs e (0,0)):=by
 have d:=(te.1 h).1;have O:=(te.1 h).2;simp[World.setRow,Array.getElem?_modify,h]
theorem JA.setRow (w:World)(b:Nat)(xs:Array Value):JA w (w.setRow b xs) b where
 os:=rfl
 tape:=rfl
 output:=rfl
 size:=by simp[World.setRow]
 oth:=fun k d=>by
  simp only[World.setRow,Array.getElem?_modify];rw[vA (by omega)]
theorem JA.cell (h:JA w Z b)(d:k≠b)(off:Nat):Z.cell? ⟨k,off,none⟩=w.cell? ⟨k,off,none⟩:=Be (h.oth k d) off
theorem AY.poke (h:JA w Z b)(p:∀off,¬AY T V m w b off){off:Nat}(aa:AY T V m w k off):AY T V m Z k off/\Z.cell? ⟨k,off,none⟩=w.cell? ⟨k,off,none⟩:=by
 have u:k≠b:=fun e=>p off (by rw[<-e];exact aa);obtain⟨C,O,d⟩:=aa;exact⟨⟨by rw[h.size];exact C,O,d⟩,h.cell u off⟩
theorem AG.poke (hm:AG T n V m w)(h:JA w Z b)(hb:∀off,¬AY T V m w b off)(ht:∀id,(m.at id).isRow=true-> V id≠some b)(hk:∀id,(m.at id).tracked=true-> V id=some b->BJ T n V m Z id (m.at id)):AG T n V m Z:=by
 have aa:∀k off,AY T V m w k off->AY T V m Z k off/\Z.cell? ⟨k,off,none⟩=w.cell? ⟨k,off,none⟩:=fun k off aa=>AY.poke h hb aa;have hl:∀id k,(m.at id).isRow=true-> V id=some k->Z.heap[k]? =w.heap[k]? :=fun id k he Y=>h.oth k fun e2=>ht id he (by rw[Y,e2]);refine⟨fun id=>?_,hm.inj,fun k off hk=>hm.fr k off (by rw[<-h.size];exact hk)⟩;by_cases Y:(m.at id).tracked=true/\ V id=some b
 .exact hk id Y.1 Y.2
 .have p:=hm.blk id;have u:∀k,(m.at id).tracked=true-> V id=some k->Z.heap[k]? =w.heap[k]? :=fun k C O=>h.oth k fun e=>Y ⟨C,by rw[O,e]⟩;cases hx:m.at id with
  |pad=>trivial
  |gone=>trivial
  |cells l e=>
   rw[hx] at p u;obtain⟨k,W,C,O,z⟩:=p;exact⟨k,W,C,by rw[u k rfl C];exact O,AB.frame aa hl l W z⟩
  |lp x st=>
   rw[hx] at p u;obtain⟨k,q,C,O,z,d,E,h9,N,j,X,h8⟩:=p;exact⟨k,q,C,by rw[u k rfl C];exact O,z,d,E,h9,fun i c hc=>AA.frame aa hl _ _ (N i c hc),j,AA.frame aa hl _ _ X,h8⟩
  |tok x ks e=>
   rw[hx] at p u;obtain⟨M,r,C,O⟩:=p;refine⟨M,r,C,?_⟩;rcases O with O|⟨k,W,O,z,d,E⟩
   .exact .inl O
   .exact .inr ⟨k,W,O,by rw[u k rfl O];exact z,d,E⟩
  |mrow x y ks e=>
   rw[hx] at p u;obtain⟨M,r,C,O,z,d⟩:=p;refine⟨M,r,C,O,z,?_⟩;rcases d with d|⟨k,W,us,d,E,N,X⟩
   .exact .inl d
   .exact .inr ⟨k,W,us,d,by rw[u k rfl d];exact E,Ab.mono aa N,X⟩
  |mapb x ai ka aN aU=>
   rw[hx] at p u;obtain⟨M,r,k,aw,a6,C,O,z,d,E,N,X⟩:=p;exact⟨M,r,k,aw,a6,C,O,by rw[u k rfl O];exact z,d,E,fun i us e h8 h9=>by
    obtain⟨u1,u2,g1,ao,g3⟩:=N i us e h8 h9;exact⟨u1,u2,g1,Bw.mono aa ao,Bw.mono aa g3⟩,X⟩
theorem DE.poke {B:Nat}{ds:List Deferred}(hd:DE B V m w ds)(h:JA w Z b)(M:w.heap[b]? =some (.cells W e (0,0))):DE B V m Z ds:=by
 obtain⟨u,p,C,O,y⟩:=hd;refine⟨by rw[h.size];exact u,p,C,O,fun D z=>?_⟩;obtain⟨N,d,E⟩:=y D z;refine⟨N,?_,E⟩;rw[h.oth D fun e=>by rw[e,M] at d;cases d];exact d
theorem AH.poke {n0:Nat}{aT:Nat->Option Nat}{aM:Mem}{aG:World}(s:AH T n0 aT aM aG V m w)(h:JA w Z b)(X:b < aG.heap.size->∃id,(aM.at id).tracked=true/\ aT id=some b)(ht:∀id,(aM.at id).isRow=true-> aT id≠some b):AH T n0 aT aM aG V m Z where
 os:=h.os.trans s.os
 tape:=h.tape.trans s.tape
 output:=h.output.trans s.output
 size:=by rw[h.size];exact s.size
 mlen:=s.mlen
 rho:=s.rho
 untr:=s.untr
 fresh:=s.fresh
 old:=fun k Y al=>by
  rw[h.oth k fun e=>by
   subst e;obtain⟨id,C,O⟩:=X Y;exact al id C O]
  exact s.old k Y al
 tok:=fun id x ks e M=>by
  have N:∀d, aT id=some d->d≠b:=fun d C O=>ht id (by rw[M];rfl) (by rw[C,O]);rcases s.tok id x ks e M with⟨p,z,E⟩|⟨p,z⟩
  .exact .inl ⟨p,z,fun d u=>by rw[h.oth d (N d u)];exact E d u⟩
  .exact .inr ⟨fun d u off X=>by rw[h.cell (N d u) off];exact p d u off X,z⟩
 row:=fun id x y ks e M=>by
  have N:∀d, aT id=some d->d≠b:=fun d C O=>ht id (by rw[M];rfl) (by rw[C,O]);rcases s.row id x y ks e M with p|⟨aA,aS,ah,p,z,⟨E,a4,a5⟩|E⟩
  .exact .inl p
  .exact .inr ⟨aA,aS,ah,p,z,.inl ⟨E,a4,fun d W u hv=>by
    rw[h.oth d (N d u)];exact a5 d W u hv⟩⟩
  .exact .inr ⟨aA,aS,ah,p,z,.inr E⟩
end
theorem UD:∀{l:List AC},Fd l=true->∀c∈l,c= .any
 |[],_,c,h=>by cases h
 |a::l,h,c,hc=>by
  cases a<;>first|(cases h;done)|skip
  rcases List.mem_cons.1 hc with C|C
  .exact C
  .exact UD (l:=l) h c C
theorem Pk {T:Tab}{n:Nat}{V :Nat->Option Nat}{m:Mem}{w:World}{l:List AC}(h:Fd l=true){W:List Value}(d:W.length=l.length):AB T n V m w l W:=
 AB.of_get d fun i c u C _=>by
  rw[UD h c (List.mem_of_getElem? C)];trivial
section
variable {L aC:Bool}{tg:List Tmp}{P:Program}{T:Tab}{call:Au}{aj:Ys}{r:Option Nat}{ai:Nat}{J:Array Oper}{ac:PC}
variable {S:Nat->DS}{aT:Nat->Option Nat}{aG:World}{A:Nat->Nat}{q:Nat}{listed:Array Bool}{V ab:Nat->Option Nat}{a:Act}{w Z:World}
theorem BR.grows (H:BR L aC tg P T call aj J ac S){K:Nat}(p:∀(j:Nat) (o:Oper),K<=j->J[j]? =some o->AL L (AQ 0 J.toList) o≠3)(i:Nat)(M:K<=i):∀k,i+k<=J.size->∃ag,(S (i+k)).mem=(S i).mem++ag
 |0,_=>⟨[],by simp⟩
 |k+1,hk=>by
  obtain⟨ag,O⟩:=H.grows p i M k (by omega);obtain⟨o,y⟩:=BR.op (J:=J) (j:=i+k) (by omega);obtain⟨R,hR,aa⟩:=H.step (i+k) o y;obtain⟨an,c,d,h,_⟩:=DF aa;have e:(S (i+(k+1))).mem=(S (i+k+1)).mem:=rfl;by_cases u:AL L (AQ 0 J.toList) o=4
  .obtain⟨X,t,Y⟩:=DH u;replace d:=Gr d (.inl (by omega));obtain⟨l,_,_,z,_,_⟩:=Gn X Y d;have C:(S (i+k+1)).mem=Km tg o.dst (S (i+k)).mem an.mem:=by rw[h,u];rfl
   have E:((S (i+k)).masked (An 0 J.toList) (okG (AW J.toList []) R (i+k)) R (As J o)).mem=(S (i+k)).mem:=rfl;rw[e,C,z,E,O];unfold Km;split
   .exact⟨ag++_,by rw[uU]⟩
   .exact⟨ag++_,by rw[uU]⟩
  .have a0:AL L (AQ 0 J.toList) o < 3:=by
    have:=KG (L:=L) (D:=AQ 0 J.toList) (o:=o);have:=p (i+k) o (by omega) y;omega
   have N:Nat.ble 3 (AL L (AQ 0 J.toList) o)=false:=by
    cases hx:Nat.ble 3 (AL L (AQ 0 J.toList) o) with
    |false=>rfl
    |true=>have:=uF hx;omega
   refine⟨ag,?_⟩;rw[e,h];simp only[N];exact O
theorem BR.atN (H:BR L aC tg P T call aj J ac S){K:Nat}(d:∀(j:Nat) (o:Oper),K<=j->J[j]? =some o->AL L (AQ 0 J.toList) o≠3){i j:Nat}(p:K<=i)(y:i<=j)(z:j<=J.size){id:Nat}(u:(S i).mem.at id≠ .pad):(S j).mem.at id=(S i).mem.at id:=by
 obtain⟨ag,h⟩:=H.grows d i p (j - i) (by omega);rw[show i+(j - i)=j by omega] at h;rw[h];unfold Mem.at;have C:id < (S i).mem.length:=by
  rcases tu id (S i).mem.length with h|h
  .exact h
  .exact absurd (Mem.at_ge h) u
 grind
def YH (L:Bool)(aT:Nat->Option Nat)(aG:World)(J:Array Oper)(S:Nat->DS)(A:Nat->Nat)(q:Nat)(listed:Array Bool)(V :Nat->Option Nat)(b:Nat):Prop:=
 (∃k o l t,J[k]? =some o/\AL L (AQ 0 J.toList) o=4/\listed.getD k false=true/\q<=k/\A k=b/\(S (k+1)).mem=(S k).mem++[.cells l t]/\Fd l=true)\/
 (∃id l e,(S q).mem.at id= .cells l e/\ V id=some b/\Fd l=true/\(aG.heap.size<=b\/∃d,((∃p h,(S 0).mem.at d= .cells p h)/\ aT d=some b)))
theorem Sb {b:Blk}(h:b.isRow=true):b.tracked=true:=by cases b<;>first|rfl|cases h
theorem BH.poke (bj:AG T (S 0).g.n aT (S 0).mem aG)(I:BH L P T J S aT aG A q listed V a w){b:Nat}(hp:YH L aT aG J S A q listed V b)(h:JA w Z b){W a1:List Value}{e:TypeId}(hb:w.heap[b]? =some (.cells W.toArray e (0,0)))(ca:Z.heap[b]? =some (.cells a1.toArray e (0,0)))
  (hl:a1.length=W.length):BH L P T J S aT aG A q listed V a Z:=by
 have bl:∀off,¬AY (T.wf (frO L T J listed q A)) V (S q).mem w b off:=by
  rintro off ⟨aD,s2,s3⟩;rcases hp with⟨k,o,l,t,p,u,M,y,Y,_,_⟩|⟨id,l,N,p,u,_⟩
  .exact s2.2 ⟨k,o,p,u,M,y,Y⟩
  .grind
 have b1:∀id,((S q).mem.at id).tracked=true-> V id=some b->∃l e,(S q).mem.at id= .cells l e/\Fd l=true:=by
  intro id ht z;rcases hp with⟨k,o,l,t,p,u,M,y,Y,_,_⟩|⟨bx,l,N,p,u,M,_⟩
  .obtain⟨_,c2,_⟩:=I.pend k o p u M y;grind
  .have:=I.mem.inj id bx b ht (by rw[p];rfl) z u;grind
 have bm:∀id,((S q).mem.at id).isRow=true-> V id≠some b:=by
  intro id X z;obtain⟨l,N,C,_⟩:=b1 id (Sb X) z;rw[C] at X;cases X
 have aa:∀k off,AY (T.wf (frO L T J listed q A)) V (S q).mem w k off->AY (T.wf (frO L T J listed q A)) V (S q).mem Z k off/\Z.cell? ⟨k,off,none⟩=w.cell? ⟨k,off,none⟩:=fun k off aa=>AY.poke h bl aa;have bi:∀id k,((S q).mem.at id).isRow=true-> V id=some k->Z.heap[k]? =w.heap[k]? :=fun id k X z=>h.oth k fun N=>bm id X (by rw[z,N]);have cc:=AG.poke I.mem h bl bm fun id ht z=>by
  obtain⟨l,N,C,O⟩:=b1 id ht z;have ba:=I.mem.blk id;rw[C] at ba⊢;obtain⟨b2,a2,k1,E,k3⟩:=ba;rw[z] at k1;cases k1;rw[hb] at E;injection E with E
  injection E with k4 k5
  have e4:W=a2:=by simpa using vD Array.toList k4
  subst e4;subst k5;exact⟨b,a1,z,ca,Pk O (hl.trans k3.length)⟩
 refine⟨I.size,I.closed,I.qle,I.base,I.mlist,I.defers.poke h hb,I.asize,cc,fun t c hc ce=>AA.frame aa bi _ _ (I.init t c hc ce),fun i o d c C O h4 h5 h6=>AA.frame aa bi _ _ (I.facts i o d c C O h4 h5 h6),I.gfacts,fun i o ho h4 bc bt=>?_,I.inj,?_⟩
 .obtain⟨aL,c2,c3,t,l,a2,c4,c5,c6,c7⟩:=I.pend i o ho h4 bc bt;refine⟨aL,c2,c3,t,l,?_⟩;by_cases N:A i=b
  .refine⟨a1,c4,c5,?_,?_⟩
   .grind
   .have cf:a2.length=W.length:=by
     grind
    rcases hp with⟨k,ok,ae,t2,p,u,M,y,Y,p6,p7⟩|⟨id,ae,e3,p,u,_⟩
    .have:=I.inj i k o ok ho p h4 u bc M bt y (by rw[N,Y]);subst this;rw[p6] at c5;have e5:=List.append_cancel_left c5;injection e5 with e5
     injection e5 with e6 e7
     subst e6;intro T n V m w;refine Pk p7 ?_;rw[hl,<-cf];exact (c7 T n V m w).length
    .exact absurd (by rw[N];exact u) (c2 id (by rw[p];rfl))
  .exact⟨a2,c4,c5,by rw[h.oth _ N];exact c6,c7⟩
 .refine I.st.poke h (fun c1=>?_) fun id X z=>?_
  .rcases hp with⟨k,o,l,t,p,u,M,y,Y,_,_⟩|⟨id,l,N,p,u,M,y|⟨a6,⟨l0,e0,y⟩,Y⟩⟩
   .have:=(I.pend k o p u M y).1;omega
   .omega
   .exact⟨a6,by rw[y];rfl,Y⟩
  .have c8:=bj.lt (Sb X) z;rcases hp with⟨k,o,l,t,p,u,M,y,Y,_,_⟩|⟨bx,l,N,p,u,M,y|⟨a6,⟨l0,e0,y⟩,Y⟩⟩
   .have:=(I.pend k o p u M y).1;omega
   .omega
   .have:=bj.inj id a6 b (Sb X) (by rw[y];rfl) z Y;subst this;rw[y] at X;cases X
end
theorem G1 (o:Oper):(BT o).after=o.after:=by unfold BT;split<;>rfl
theorem JC (o:Oper):(BT o).dst=o.dst:=by unfold BT;split<;>rfl
theorem Wz (o:Oper):(BT o).guard=o.guard:=by unfold BT;split<;>rfl
theorem Mx {o:Oper}(h:BD o=false):BT o=o:=by unfold BT;rw[h];rfl
theorem Ee {o:Oper}(h:BD o=true):∃aR t x,o.op= .store aR (.tmp t) x/\((∃y,x= .tmp y)\/∃v,x= .const v)/\o.guard=none/\o.dst=none:=by
 unfold BD at h;split at h
 .rename_i aR t y d;rw[tV,Option.isNone_iff_eq_none,Option.isNone_iff_eq_none] at h;grind
 .rename_i aR t v d;rw[tV,Option.isNone_iff_eq_none,Option.isNone_iff_eq_none] at h;grind
 .cases h
theorem UV:∀(l:List Oper) (aA:List Nat),AW (l.map BT) aA=AW l aA
 |[],_=>rfl
 |o::l,aA=>by simp only[tx,AW,G1,UV l]
theorem dO:∀(l:List Oper) (k:Nat),An k (l.map BT)=An k l
 |[],_=>rfl
 |o::l,k=>by simp only[tx,An,JC,dO l]
theorem kh:∀(l:List Oper) (k:Nat),AQ k (l.map BT)=AQ k l
 |[],_=>rfl
 |o::l,k=>by
  simp only[tx,AQ,kh l];cases d:BD o with
  |false=>rw[Mx d]
  |true=>
   obtain⟨aR,t,x,h,_,_,hd⟩:=Ee d;rw[JC,hd,h];unfold BT;rw[d];simp
section
variable {L aC:Bool}{tg:List Tmp}{P:Program}{T:Tab}{call:Au}{aj:Ys}{r:Option Nat}{ai:Nat}{K:Nat}{J aB:Array Oper}{ac:PC}
variable {S:Nat->DS}{aT:Nat->Option Nat}{aG:World}{A:Nat->Nat}{q:Nat}{listed:Array Bool}{V ab:Nat->Option Nat}{a:Act}{w Z:World}
theorem IH (h:aB=(J.toList.map BT).toArray)(j:Nat):aB[j]? =(J[j]?).map BT:=by
 grind
theorem YK (h:aB=(J.toList.map BT).toArray)(tmps:Array Value)(j:Nat):yielded aB tmps j=yielded J tmps j:=by
 unfold yielded;rw[IH h j];cases J[j]? with
 |none=>rfl
 |some o=>simp only[uy,uM,JC]
theorem PZ:∀{l:List Oper} {k:Nat} {t:Tmp} {i:Nat},Ay (An k l) t=some i->k<=i/\∃o,l[i - k]? =some o/\o.dst=some t
 |[],k,t,i,h=>by simp[An,Ay] at h
 |o::l,k,t,i,h=>by
  unfold An at h;cases hd:o.dst with
  |none=>
   rw[hd] at h;obtain⟨C,o2,O,p⟩:=PZ (l:=l) h;exact⟨by omega,o2,by rw[show i - k=(i - (k+1))+1 by omega];simpa using O,p⟩
  |some d=>
   rw[hd] at h;simp only[Ay] at h;cases u:Nat.beq d t with
   |true=>
    rw[u] at h;simp only[cond_true,ug] at h;subst h;exact⟨tY _,o,by simp,by rw[hd,tW u]⟩
   |false=>
    rw[u] at h;obtain⟨C,o2,O,p⟩:=PZ (l:=l) h;exact⟨by omega,o2,by rw[show i - k=(i - (k+1))+1 by omega];simpa using O,p⟩
theorem JV:∀{l:List Oper} {k:Nat} {t:Tmp},Ay (An k l) t=none->∀(j:Nat) (o:Oper),l[j]? =some o->o.dst≠some t
 |[],k,t,h,j,o,hj=>by simp at hj
 |o0::l,k,t,h,j,o,hj=>by
  unfold An at h;cases hd:o0.dst with
  |none=>
   rw[hd] at h;cases j with
   |zero=>simp at hj;subst hj;rw[hd];exact fun h=>by cases h
   |succ j=>exact JV h j o (by simpa using hj)
  |some d=>
   rw[hd] at h;simp only[Ay] at h;cases p:Nat.beq d t with
   |true=>rw[p] at h;cases h
   |false=>
    rw[p] at h;cases j with
    |zero=>
     simp at hj;subst hj;rw[hd];intro e;cases e;rw[Nat.beq_refl] at p;cases p
    |succ j=>exact JV h j o (by simpa using hj)
theorem R4:∀{l:List Oper} {k:Nat} {t:Tmp} {i:Nat},Ay (AQ k l) t=some i->k<=i/\∃o aR,l[i - k]? =some o/\o.op= .alloc aR/\o.dst=some t
 |[],k,t,i,h=>by simp[AQ,Ay] at h
 |o::l,k,t,i,h=>by
  unfold AQ at h;split at h
  .rename_i aR d z hd;simp only[Ay] at h;cases u:Nat.beq d t with
   |true=>
    rw[u] at h;simp only[cond_true,ug] at h;subst h;exact⟨tY _,o,aR,by simp,z,by rw[hd,tW u]⟩
   |false=>
    rw[u] at h;obtain⟨C,o2,y,O,p⟩:=R4 (l:=l) h;exact⟨by omega,o2,y,by rw[show i - k=(i - (k+1))+1 by omega];simpa using O,p⟩
  .obtain⟨C,o2,y,O,p⟩:=R4 (l:=l) h;exact⟨by omega,o2,y,by rw[show i - k=(i - (k+1))+1 by omega];simpa using O,p⟩
theorem RQ {D p:List (Tmp × Nat)}:∀{d:List Nat} {l:List Oper},OJ D p d l=true->∀(i R:Nat) (o:Oper),d[i]? =some R->l[i]? =some o->Qx D p R o=true
 |[],_,_,i,R,o,h,_=>by simp at h
 |R0::d,[],_,i,R,o,_,h=>by simp at h
 |R0::d,o0::l,h,i,R,o,C,O=>by
  simp only[OJ,tV] at h;cases i with
  |zero=>simp at C O;subst C;subst O;exact h.1
  |succ i=>exact RQ h.2 i R o (by simpa using C) (by simpa using O)
structure FOk (qc:Bool) (K:Nat) (ops ops0:Array Oper) (S:Nat->DS) (P:Program):Prop where
 eq0:ops0=(ops.toList.map BT).toArray
 ok:∀(i R:Nat) (o:Oper),(AW ops.toList [])[i]? =some R->ops[i]? =some o->Qx (An 0 ops.toList) (AQ 0 ops.toList) R o=true
 loud:∀(j:Nat) (o:Oper),K<=j->ops0[j]? =some o->loud qc (AQ 0 ops0.toList) o≠3
 late:∀(i:Nat) (o:Oper) (t:Tmp),ops[i]? =some o->Nc o=some t->K=0\/∃k,Ay (AQ 0 ops.toList) t=some k/\K<=k
 fresh:K=0\/∀(i:Nat) (o:Oper) (id off:Nat) (cs:List AC),ops[i]? =some o->BD o=true->CU P (S ops0.size).tmps o=some (id,off,cs)->(S 0).mem.length<=id
 fin:∀(i:Nat) (o:Oper),ops[i]? =some o->BD o=true->∃id off cs c e,CU P (S ops0.size).tmps o=some (id,off,cs)/\(S ops0.size).mem.at id= .cells c e/\Fd c=true/\off+cs.length<=c.length
 dist:∀(i j:Nat) (oi oj:Oper) (id off:Nat) (cs:List AC) (id' off':Nat) (cs':List AC),ops[i]? =some oi->ops[j]? =some oj->BD oi=true->BD oj=true->i≠j->CU P (S ops0.size).tmps oi=some (id,off,cs)->CU P (S ops0.size).tmps oj=some (id',off',cs')->id≠id'
variable{o aq:Oper}{i id j:Nat}{aR e:TypeId}{t:Tmp}{x:Operand}{av c:List AC}
theorem fT {L:Bool}{D:List (Tmp × Nat)}(h:AL L D o=3):Go.Eng.loud L D o=3:=by unfold Go.Eng.loud;rw[h];rfl
theorem FOk.three (F:FOk L K J aB S P):∀(j:Nat) (o:Oper),K<=j->aB[j]? =some o->AL L (AQ 0 aB.toList) o≠3:=fun j o d p h=>F.loud j o d p (fT h)
theorem FOk.size (F:FOk L K J aB S P):aB.size=J.size:=by rw[F.eq0];simp
theorem FOk.rs (F:FOk L K J aB S P):AW aB.toList []=AW J.toList []:=by rw[F.eq0];simp[UV]
theorem FOk.ds (F:FOk L K J aB S P):An 0 aB.toList=An 0 J.toList:=by rw[F.eq0];simp[dO]
theorem FOk.as (F:FOk L K J aB S P):AQ 0 aB.toList=AQ 0 J.toList:=by rw[F.eq0];simp[kh]
theorem FOk.parts (F:FOk L K J aB S P)(N:J[i]? =some o)(hf:BD o=true)(a1:o.op= .store aR (.tmp t) x):∃R,(AW J.toList [])[i]? =some R/\
  ((Ay (An 0 J.toList) t=none/\K=0)\/∃k ok X,Ay (An 0 J.toList) t=some k/\R.testBit k=true/\aB[k]? =some ok/\ok.op= .alloc X/\ok.dst=some t/\K<=k)/\
  (∀y,x= .tmp y->(Ay (An 0 J.toList) y=none)\/∃k ok,Ay (An 0 J.toList) y=some k/\R.testBit k=true/\aB[k]? =some ok/\ok.dst=some y/\Ay (AQ 0 J.toList) y=none):=by
 have Y:i < (AW J.toList []).length:=by rw[CY];exact (te.1 N).1
 refine⟨_,tZ Y,?_⟩;have h:=F.ok i _ o (tZ Y) N;unfold Qx at h;rw[a1] at h;simp only[hf,Bool.not_true,Bool.false_or,tV,decide_eq_true_eq] at h;obtain⟨⟨C,O⟩,p⟩:=h;have conv:∀{k:Nat} {ok:Oper},J[k]? =some ok->BD ok=false->aB[k]? =some ok:=fun {k ok} hk hn=>by rw[IH F.eq0,hk,uy,Mx hn]
 have nf:∀{ok:Oper} {d:Tmp},ok.dst=some d->BD ok=false:=fun {ok d} hd=>by
  cases hx:BD ok with
  |false=>rfl
  |true=>
   obtain⟨_,_,_,_,_,_,e⟩:=Ee hx;rw[hd] at e;cases e
 have a4:Nc o=some t:=by unfold Nc;rw[hf,a1];rfl
 have a0:=F.late i o t N a4;constructor
 .cases z:Ay (An 0 J.toList) t with
  |none=>
   rw[z] at O;rcases a0 with u|⟨k,u,_⟩
   .exact .inl ⟨rfl,u⟩
   .rw[u] at O;cases O
  |some k=>
   right;unfold Sw at C;rw[z] at C O;obtain⟨_,ok,X,M,E,e3⟩:=R4 O.symm;refine⟨k,ok,X,rfl,C,conv (by simpa using M) (nf e3),E,e3,?_⟩;rcases a0 with u|⟨k',u,a5⟩
   .omega
   .rw[u] at O;cases O;exact a5
 .intro y hy;subst hy;simp only[tV,Option.isNone_iff_eq_none] at p;obtain⟨p,h4⟩:=p;cases z:Ay (An 0 J.toList) y with
  |none=>exact .inl rfl
  |some k=>
   right;unfold Sw at p;rw[z] at p;obtain⟨_,ok,M,E⟩:=PZ z;exact⟨k,ok,rfl,p,conv (by simpa using M) (nf E),E,h4⟩
def nR (J:Array Oper)(listed:Array Bool)(a:Act)(w:World):Prop:=
 ∀(i:Nat) (o:Oper) (aR:TypeId) (d:Tmp) (x:Operand),J[i]? =some o->BD o=true->o.op= .store aR (.tmp d) x->listed.getD i false=true->
  ∃b off W us e,a.tmps.getD d undef= .pointer (some ⟨b,off,none⟩)/\w.heap[b]? =some (.cells (W:List Value).toArray e (0,0))/\(a.eval x).cells=(us:List Value).toArray/\off+us.length<=W.length/\(W.drop off).take us.length=us
theorem Ei {tmps:AV}{off:Nat}(d:o.op= .store aR (.tmp t) x)(h:CU P tmps o=some (id,off,av)):tmps.get t=some (.ptr id off)/\(C0 [] tmps x).cellsOf=some av/\∃i,P.info? aR=some i/\av.length=i.size:=by
 unfold CU at h;grind
theorem BR.lastT (H:BR L aC tg P T call aj aB ac S){k:Nat}{ok:Oper}(d:aB[k]? =some ok)(hd:ok.dst=some t):(S aB.size).tmps.get t=(S (k+1)).tmps.get t:=by
 have z:k < aB.size:=(te.1 d).1;obtain⟨_,ae,_⟩:=H.later (k+1) (aB.size - (k+1)) (by omega);rw[show k+1+(aB.size - (k+1))=aB.size by omega] at ae;exact ae t fun j o u y p h=>by
  have:=C3 H.nodup d p hd h;omega
theorem BR.lastT0 (H:BR L aC tg P T call aj aB ac S)(d:∀(j:Nat) (o:Oper),aB[j]? =some o->o.dst≠some t):(S aB.size).tmps.get t=(S 0).tmps.get t:=by
 obtain⟨_,ae,_⟩:=H.later 0 aB.size (by omega);grind
theorem BH.tgt (H:BR L aC tg P T call aj aB ac S)(F:FOk L K J aB S P)(I:BH L P T aB S aT aG A q listed V a w)(ho:J[i]? =some o)(hf:BD o=true)(bx:o.op= .store aR (.tmp t) x)
  (cv:∀R,(AW J.toList [])[i]? =some R->∀k,R.testBit k=true->listed.getD k false=true) {off:Nat}   (ba:CU P (S aB.size).tmps o=some (id,off,av)) (hm:(S aB.size).mem.at id= .cells c e) (a9:Fd c=true):
  ∃b,a.tmps.getD t undef= .pointer (some ⟨b,off,none⟩)/\YH L aT aG aB S A q listed V b/\(∃W:List Value,w.heap[b]? =some (.cells W.toArray e (0,0))/\W.length=c.length)/\
   ((∃k ok,aB[k]? =some ok/\AL L (AQ 0 aB.toList) ok=4/\listed.getD k false=true/\q<=k/\A k=b/\ok.dst=some t)\/(V id=some b/\(S q).mem.at id= .cells c e)):=by
 obtain⟨p,ao,_⟩:=Ei bx ba;obtain⟨R,hR,p1,_⟩:=F.parts ho hf bx;have a8:∀{n:Nat},K<=q->AA (T.wf (frO L T aB listed q A)) n V (S q).mem w (.ptr id off) (a.tmps.getD t undef)->∃b,a.tmps.getD t undef= .pointer (some ⟨b,off,none⟩)/\YH L aT aG aB S A q listed V b/\(∃W:List Value,w.heap[b]? =some (.cells W.toArray e (0,0))/\W.length=c.length)/\
   ((∃k ok,aB[k]? =some ok/\AL L (AQ 0 aB.toList) ok=4/\listed.getD k false=true/\q<=k/\A k=b/\ok.dst=some t)\/(V id=some b/\(S q).mem.at id= .cells c e)):=by
  rintro n ci ⟨b,C,O,z⟩;have X:(S q).mem.at id= .cells c e:=by rw[<-hm];exact (H.atN F.three ci I.qle (tY _) (BI z)).symm
  have cu:aG.heap.size<=b\/∃b0,((∃l0 e0,(S 0).mem.at b0= .cells l0 e0)/\ aT b0=some b):=by
   by_cases a5:(S 0).mem.at id= .pad
   .exact .inl (I.st.fresh id b a5 (by rw[X];rfl) C)
   .rcases F.fresh with hK|cs
    .right;have e1:=H.atN F.three (show K<=0 by omega) (uQ q) I.qle a5;rw[X] at e1;exact⟨id,⟨c,e,e1.symm⟩,by rw[<-(I.st.rho id (by rw[<-e1];rfl)).1];exact C⟩
    .exact absurd (Mem.at_ge (cs i o id off av ho hf ba)) a5
  have bc:=I.mem.blk id;rw[X] at bc;obtain⟨b2,W,k1,E,k3⟩:=bc;rw[C] at k1;cases k1;exact⟨b,O,.inr ⟨id,c,e,X,C,a9,cu⟩,⟨W,E,k3.length⟩,.inr ⟨C,X⟩⟩
 rcases p1 with⟨p1,de⟩|⟨k,ok,tk,p1,p2,u,p4,y,ch⟩
 .have bs:∀(j:Nat) (aq:Oper),aB[j]? =some aq->aq.dst≠some t:=fun j aq hj=>JV (by rw[F.ds];exact p1) j aq (by simpa using hj);rw[H.lastT0 bs] at p;exact a8 (by omega) (I.init t _ p fun j aq hj hd=>absurd hd (bs j aq hj))
 .have al:=cv R hR k p2;rw[H.lastT u y] at p;have M:AL L (AQ 0 aB.toList) ok=4:=by
   have hg:ok.guard=none:=by
    have z:=F.three k ok ch u;unfold AL at z;rw[p4] at z;simp only at z;cases hx:ok.guard with
    |none=>rfl
    |some g=>rw[hx] at z;exact absurd rfl z
   unfold AL;rw[p4,hg];rfl
  rcases tu k q with N|N
  .exact a8 (by omega) (I.facts k ok t _ al u y p fun _=>N)
  .obtain⟨aL,db,c3,t2,ae,c2,c4,c5,c6,c7⟩:=I.pend k ok u M al N;obtain⟨Y,_,aa⟩:=H.step k ok u;obtain⟨an,cc,a1,a2,a3,_,_,_,_,b7,_⟩:=DF aa;obtain⟨d,hd,bi⟩:=b7 M;rw[y] at hd;cases hd;obtain⟨hg,_⟩:=DH M;replace a1:=Gr a1 (.inl (by omega));obtain⟨l0,b1,b2,b3,_,_⟩:=Gn hg c4 a1;have cl:cc= .ptr (S k).mem.length 0:=by
    rw[a3 t y,b2,y];show ((((S k).masked (An 0 aB.toList) (okG (AW aB.toList []) Y k) Y (As aB ok)).tmps.set t (.ptr (S k).mem.length 0)).get t).getD .any=_;rw[AV.get_set_self ((S k).masked (An 0 aB.toList) (okG (AW aB.toList []) Y k) Y (As aB ok)).tmps _ bi];rfl
   rw[a2] at p;simp only[y,Cv] at p;rw[AV.get_set_self _ _ bi,cl] at p;cases p;have di:k < aB.size:=(te.1 u).1;have bb:(S (k+1)).mem.at (S k).mem.length= .cells ae t2:=by rw[c5,AS,vC rfl]
   have bl:=H.atN F.three (show K<=k+1 by omega) (show k+1<=aB.size by omega) (tY _) (id:=(S k).mem.length) (by rw[bb];exact fun h=>by cases h);rw[hm,bb] at bl;cases bl;exact⟨A k,c3 t y,.inl ⟨k,ok,c,e,u,M,al,N,rfl,c5,a9⟩,⟨c2,c6,(c7 T 0 V (S q).mem w).length⟩,.inl ⟨k,ok,u,M,al,N,rfl,y⟩⟩
theorem BH.what (H:BR L aC tg P T call aj aB ac S)(F:FOk L K J aB S P)(I:BH L P T aB S aT aG A q listed V a w)(ho:J[i]? =some o)(hf:BD o=true)(M:o.op= .store aR (.tmp t) x)
  (a7:∀R,(AW J.toList [])[i]? =some R->∀k,R.testBit k=true->listed.getD k false=true) {off:Nat}  (a3:CU P (S aB.size).tmps o=some (id,off,av)):
  ∃us:List Value,(a.eval x).cells=us.toArray/\us.length=av.length/\∀u∈us,u.oneCell'=true:=by
 obtain⟨g1,ao,_⟩:=Ei M a3;obtain⟨R,hR,_,h⟩:=F.parts ho hf M;have a9:∃n,AA (T.wf (frO L T aB listed q A)) n V (S q).mem w (C0 [] (S aB.size).tmps x) (a.eval x):=by
  obtain⟨_,_,aA,Y,e2,_⟩:=Ee hf;rw[M] at Y;cases Y;rcases e2 with⟨y,rfl⟩|⟨v,rfl⟩
  .have a4:C0 [] (S aB.size).tmps (.tmp y)=((S aB.size).tmps.get y).getD .any:=by
    show OQ [] (((S aB.size).tmps.get y).getD .any)=_;generalize ((S aB.size).tmps.get y).getD .any=z;cases z<;>simp[OQ]
   rw[a4];cases d:(S aB.size).tmps.get y with
   |none=>exact⟨0,trivial⟩
   |some cc=>
    rcases h y rfl with h|⟨k,ok,h,p3,N,X,p6⟩
    .have a0:∀(j:Nat) (aq:Oper),aB[j]? =some aq->aq.dst≠some y:=fun j aq E=>JV (by rw[F.ds];exact h) j aq (by simpa using E);rw[H.lastT0 a0] at d;exact⟨_,I.init y _ d fun j aq E hd=>absurd hd (a0 j aq E)⟩
    .rw[H.lastT N X] at d;refine⟨_,I.facts k ok y _ (a7 R hR k p3) N X d fun p=>?_⟩;obtain⟨_,bc,a8⟩:=DH p;exact absurd (by rw[F.as];exact p6) (Lh aB.toList 0 k ok y bc (by simpa using N) a8 X)
  .exact⟨0,Hb v⟩
 obtain⟨n,hn⟩:=a9;obtain⟨us,C,O,_,p⟩:=CP ao hn;exact⟨us,C,O.length,p⟩
theorem FOk.stay (F:FOk L K J aB S P)(hn:Fz (aB.toList.filterMap (·.dst))=true)(ho:J[i]? =some o)(z:BD o=true)(M:o.op= .store aR (.tmp t) x)
  (a6:∀R,(AW J.toList [])[i]? =some R->∀k,R.testBit k=true->listed.getD k false=true)   (E:aB[j]? =some aq) (a7:listed.getD j false=false) (a:Act) (v:Value):
  (a.put aq.dst v).tmps.getD t undef=a.tmps.getD t undef/\(a.put aq.dst v).eval x=a.eval x:=by
 obtain⟨R,hR,p1,p2⟩:=F.parts ho z M;have N:∀y,((Ay (An 0 J.toList) y=none)\/∃k ok,R.testBit k=true/\aB[k]? =some ok/\ok.dst=some y)->aq.dst≠some y:=by
  intro y hy hd;rcases hy with h|⟨k,ok,C,O,Y⟩
  .exact JV (by rw[F.ds];exact h) j aq (by simpa using E) hd
  .have:=C3 hn E O hd Y;grind
 constructor
 .exact Df (N t (p1.imp (fun h=>h.1) fun⟨k,ok,tk,_,d,p,_,q5,_⟩=>⟨k,ok,d,p,q5⟩)) v
 .obtain⟨_,_,aA,u,X,_⟩:=Ee z;rw[M] at u;cases u;rcases X with⟨y,rfl⟩|⟨c,rfl⟩
  .exact Df (N y ((p2 y rfl).imp (fun h=>h) fun⟨k,ok,_,d,p,q4,_⟩=>⟨k,ok,d,p,q4⟩)) v
  .rfl
theorem BH.tgt3 (F:FOk L K J aB S P)(I:BH L P T aB S aT aG A q listed V a w)(ho:J[i]? =some o)(Y:BD o=true)(a0:o.op= .store aR (.tmp t) x)
  (a1:∀R,(AW J.toList [])[i]? =some R->∀k,R.testBit k=true->listed.getD k false=true)   (z:aB[j]? =some aq) (d:loud L (AQ 0 aB.toList) aq=3) (a2:listed.getD j false=false):
  ∃k ok,aB[k]? =some ok/\AL L (AQ 0 aB.toList) ok=4/\listed.getD k false=true/\j<=k/\a.tmps.getD t undef= .pointer (some ⟨A k,0,none⟩):=by
 have a7:j < K:=by
  rcases tu j K with h|h
  .exact h
  .exact absurd d (F.loud j aq h z)
 have a8:q<=j:=by
  rcases tu j q with h|h
  .rcases I.base j aq h z with C|C
   .rw[a2] at C;cases C
   .rcases Nd d with O|⟨O,_⟩<;>omega
  .exact h
 obtain⟨R,X,p,_⟩:=F.parts ho Y a0;rcases p with⟨p,a6⟩|⟨k,ok,tk,p,p2,u,M,p5,N⟩
 .omega
 .have E:=a1 R X k p2;have y:AL L (AQ 0 aB.toList) ok=4:=by
   have hg:ok.guard=none:=by
    have d:=F.three k ok N u;unfold AL at d;rw[M] at d;simp only at d;cases hx:ok.guard with
    |none=>rfl
    |some g=>rw[hx] at d;exact absurd rfl d
   unfold AL;rw[M,hg];rfl
  exact⟨k,ok,u,y,E,by omega,(I.pend k ok u y E (by omega)).2.2.1 t p5⟩
theorem BH.apart (_H:BR L aC tg P T call aj aB ac S)(F:FOk L K J aB S P)(I:BH L P T aB S aT aG A q listed V a w){p:Oper}(Y:J[i]? =some p)(hj:J[j]? =some aq)(fi:BD p=true)(fj:BD aq=true)(bb:i≠j)
  {off d a4:Nat} {y aV:List AC} {e':TypeId} {b u:Nat} {t':Tmp} {bj:TypeId} {aA:Operand} (bc:p.op= .store aR (.tmp t) x) (bi:aq.op= .store bj (.tmp t') aA) (z:CU P (S aB.size).tmps p=some (id,off,av)) (N:CU P (S aB.size).tmps aq=some (d,a4,y))
  (C:(∃k ok,aB[k]? =some ok/\AL L (AQ 0 aB.toList) ok=4/\listed.getD k false=true/\q<=k/\A k=b/\ok.dst=some t)\/(V id=some b/\(S q).mem.at id= .cells c e))
  (O:(∃k ok,aB[k]? =some ok/\AL L (AQ 0 aB.toList) ok=4/\listed.getD k false=true/\q<=k/\A k=u/\ok.dst=some t')\/(V d=some u/\(S q).mem.at d= .cells aV e')):b≠u:=by
 have a9:=F.dist i j p aq id off av d a4 y Y hj fi fj bb z N;obtain⟨g1,_⟩:=Ei bc z;obtain⟨bm,_⟩:=Ei bi N;intro hb;subst hb;rcases C with⟨k,ok,h,E,k3,k4,k5,k6⟩|⟨h,E⟩<;>rcases O with⟨X,M,au,ag,m3,m4,m5,m6⟩|⟨au,ag⟩
 .have:=I.inj k X ok M h au E ag k3 m3 k4 m4 (by rw[k5,m5]);grind
 .exact (I.pend k ok h E k3 k4).2.1 d (by rw[ag];rfl) (by rw[k5];exact au)
 .exact (I.pend X M au ag m3 m4).2.1 id (by rw[E];rfl) (by rw[m5];exact h)
 .exact a9 (I.mem.inj id d b (by rw[E];rfl) (by rw[ag];rfl) h au)
end
section
variable {L aC:Bool}{tg:List Tmp}{P:Program}{T:Tab}{call:Au}{aj:Ys}{r:Option Nat}{ai:Nat}{K:Nat}{J aB:Array Oper}{ac:PC}
variable {S:Nat->DS}{aT:Nat->Option Nat}{aG:World}{A:Nat->Nat}{q:Nat}{listed:Array Bool}{V ab:Nat->Option Nat}{a:Act}{w Z:World}
variable{i id:Nat}{o:Oper}{W:List Value}{Q:Exit->Act->World->Prop}{c aV:List AC}{e:TypeId}
theorem BH.skip (H:BR L aC tg P T call aj aB ac S)(z:Agr T (S aB.size).g)(X:Aj T (S aB.size).g)(Y:pcv T ac)(al:BK T (S 0).g ac)(M:AG T (S 0).g.n aT (S 0).mem aG)(I:BH L P T aB S aT aG A q listed V a w)(N:aB[i]? =some o)
  (a1:listed.getD i false=false) (ao:∀e∈o.after,Region.binds .any e=true->listed.getD e.on false=true) (u:o.op= .move (.const (.bool true))) (E:o.guard=none) (hd:o.dst=none):
  ∃d p ab,BH L P T aB S aT aG d p (listed.setIfInBounds i true) ab a w:=by
 have h:=I.comesw (r:=none) (ai:=0) (K:=fun y Z=>∃d p ab,BH L P T aB S aT aG d p (listed.setIfInBounds i true) ab y Z) (Q:=fun _ _ _=>False) H z X Y al M N a1 ao fun d p ab v Z C _ _=>⟨d,p, ab,C⟩;unfold Cx at h;rw[vC (by unfold Region.wanted;rw[E])] at h;have O:=h.2;rw[Oper.semAt_eq _ _ _ (by rw[u];exact fun c h=>by cases h)] at O;have a0:(execOp a.eval o).run P w= .ok (.value (.bool true)) w:=by simp[execOp,u,Act.eval]
 rw[a0] at O;rw[Oper.uponIn_value,hd] at O;exact O
theorem bC {us:List Value}{off:Nat}(h:off+us.length<=W.length):((BQ W off us).drop off).take us.length=us/\(BQ W off us).length=W.length:=by
 unfold BQ;grind
theorem BH.floats (H:BR L aC tg P T call aj aB ac S)(F:FOk L K J aB S P)(hA:Agr T (S aB.size).g)(cs:Aj T (S aB.size).g)(cu:pcv T ac)(cv:BK T (S 0).g ac)(bi:AG T (S 0).g.n aT (S 0).mem aG)(I:BH L P T aB S aT aG A q listed V a w)(cy:nR J listed a w)(p:J[i]? =some o)
  (z:BD o=true) (c2:listed.getD i false=false) (bt:∀e∈o.after,Region.binds .any e=true->listed.getD e.on false=true) {K:Act->World->Prop} 
  (hK:∀A' q' ab Z,BH L P T aB S aT aG A' q' (listed.setIfInBounds i true) ab a Z->nR J (listed.setIfInBounds i true) a Z->K a Z):Cx P r ai J o a w K Q:=by
 have ba:i < listed.size:=by rw[I.size,F.size];exact (te.1 p).1
 have cl:aB[i]? =some (BT o):=by rw[IH F.eq0,p];rfl
 obtain⟨aR,t,x,u,_,hg,hd⟩:=Ee z;have ci:(BT o).op= .move (.const (.bool true)):=by unfold BT;rw[z];rfl
 have cx:∀e∈(BT o).after,Region.binds .any e=true->listed.getD e.on false=true:=by rw[G1];exact bt
 have cb:∀{j:Nat} {aq:Oper},J[j]? =some aq->(∀e∈aq.after,Region.binds .any e=true->listed.getD e.on false=true)->∀R,(AW J.toList [])[j]? =some R->∀k,R.testBit k=true->listed.getD k false=true:=by
  intro j aq d c0 R N;rw[<-F.rs] at N;exact CN I.closed N (show aB[j]? =some (BT aq) by rw[IH F.eq0,d];rfl) (by rw[G1];exact c0)
 have bm:=cb p bt;obtain⟨id,off,av,c,e,M,f2,f3,f4⟩:=F.fin i o p z;obtain⟨b,t1,t2,⟨W,t3,t4⟩,t5⟩:=I.tgt H F p z u bm M f2 f3;obtain⟨us,u1,u2,u3⟩:=I.what H F p z u bm M;obtain⟨_,_,d3,ce,bc⟩:=Ei u M;obtain⟨A',q', ab,C⟩:=I.skip H hA cs cu cv bi cl c2 cx ci (by rw[Wz];exact hg) (by rw[JC];exact hd);have c1:(execOp a.eval o).run P w= .ok .skip (w.setRow b (BQ W off us).toArray):=by
  have:=Gv (P:=P) (w:=w) ce b off e (W:=us) (v:=a.eval x) t3 u1 (by rw[u2,bc]) (by rw[<-bc,t4];exact f4) u3;have ea:a.eval (.tmp t)= .pointer (some ⟨b,off,none⟩):=t1;simp[execOp,u,ea,Instr.storeAt,Instr.sureAddr,this]
 unfold Cx;rw[vC (by unfold Region.wanted;rw[hg])];refine Hf (by rw[u];exact fun c h=>by cases h) ?_;rw[c1,Oper.uponIn_skip,hd];show K a _;have bb:off+us.length<=W.length:=by rw[u2,t4];exact f4
 obtain⟨de,b0⟩:=bC bb;have bl:=JA.setRow w b (BQ W off us).toArray;have a8:=hM (BQ W off us).toArray t3;have bs:∀{j:Nat} {aq:Oper},J[j]? =some aq->(listed.setIfInBounds i true).getD j false=true->∀R,(AW J.toList [])[j]? =some R->∀k,R.testBit k=true->(listed.setIfInBounds i true).getD k false=true:=by
  intro j aq d O R N;rw[<-F.rs] at N;have cc:=C.closed j (BT aq) (by rw[IH F.eq0,d];rfl) O;exact CN C.closed N (show aB[j]? =some (BT aq) by rw[IH F.eq0,d];rfl) cc
 have cf:(listed.setIfInBounds i true).getD i false=true:=by rw[Av _ _ _ ba,vC rfl]
 obtain⟨b2,aD,s2,_,s5⟩:=C.tgt H F p z u (bs p cf) M f2 f3;have eb:b2=b:=by
  rw[t1] at aD;injection aD with aD
  injection aD with aD
  injection aD with aD
  exact aD.symm
 subst eb;have I3:=C.poke bi s2 bl t3 a8 b0;refine hK A' q' ab _ I3 ?_;intro j aq dj t' aA d Y X O;by_cases a0:j=i
 .subst a0;rw[p] at d;cases d;rw[u] at X;cases X;exact⟨b2,off,BQ W off us,us,e,t1,a8,u1,by rw[b0];exact bb,de⟩
 .have ch:listed.getD j false=true:=by rw[Av _ _ _ ba,vA a0] at O;exact O
  obtain⟨b',c6,dn,dm,e',ax,aE,r3,r4,r5⟩:=cy j aq dj t' aA d Y X ch;obtain⟨d2,d5,d0,dv,ej,j1,j2,j3,j4⟩:=F.fin j aq d Y;obtain⟨bj,y,E,_,k5⟩:=C.tgt H F d Y X (bs d O) j1 j2 j3;have b7:bj=b':=by
   rw[ax] at y;injection y with y
   injection y with y
   injection y with y
   exact y.symm
  subst b7;have cj:=C.apart H F d p Y z a0 X u j1 M k5 s5;exact⟨bj,c6,dn,dm,e',ax,by rw[bl.oth bj cj];exact aE,r3,r4,r5⟩
theorem mP (H:BR L aC tg P T call aj aB ac S)(F:FOk L K J aB S P)(hA:Agr T (S aB.size).g)(bm:Aj T (S aB.size).g)(bt:pcv T ac)(bx:BK T (S 0).g ac){aT:Nat->Option Nat}{aG:World}(bl:AG T (S 0).g.n aT (S 0).mem aG)
  (hK:∀ V a w,Bu T V aB ⟨(S aB.size).tmps,(S aB.size).mem,(S aB.size).g,(S aB.size).gls.map (·.2)⟩ a w->AH T (S 0).g.n aT (S 0).mem aG V (S aB.size).mem w->
   (∀(i:Nat) (o:Oper) (aR:TypeId) (ta:Tmp) (x:Operand),J[i]? =some o->BD o=true->o.op= .store aR (.tmp ta) x->∃b off W us e,a.tmps.getD ta undef= .pointer (some ⟨b,off,none⟩)/\w.heap[b]? =some (.cells (W:List Value).toArray e (0,0))/\(a.eval x).cells=(us:List Value).toArray/\off+us.length<=W.length/\(W.drop off).take us.length=us)->Q .normal a w):
  ∀(aK:Nat) (listed:Array Bool) (A:Nat->Nat) (V :Nat->Option Nat) (q:Nat) (a:Act) (w:World),BH L P T aB S aT aG A q listed V a w->nR J listed a w->Cd listed=aK->wpAnyIn (fen r) ai P .any J Q aK listed a w:=by
 intro aK;induction aK with
 |zero=>
  intro listed A V q a w I a4 hu;have d:∀j,j < aB.size->listed.getD j false=true:=fun j hj=>by
   cases p:listed.getD j false with
   |true=>rfl
   |false=>
    have:=Ej (listed:=listed) (i:=j) (by rw[I.size];exact hj) p;omega
  obtain⟨aW,C,O⟩:=I.full H d;refine wpAnyIn_done ?_ (hK aW a w C O fun i o aR ta x Y N cu=>a4 i o aR ta x Y N cu (d i (by rw[F.size];exact (te.1 Y).1))) _;refine List.eq_nil_iff_forall_not_mem.2 fun i Y=>?_;obtain⟨C,o,ho,_⟩:=mem_ready.1 Y;have X:i < aB.size:=by rw[F.size];exact (te.1 ho).1
  have O:=d i X;rw[tf] at C O;have bj:i < listed.size:=by rw[I.size];exact X
  rw[uq bj] at C O;simp only[Option.getD_some] at C O;rw[C] at O;cases O
 |succ aK ih=>
  intro listed A V q a w I a4 hu;by_cases d:∀j,j < aB.size->listed.getD j false=true
  .have hc:=GZ (h:=aB.size) (by rw[I.size];exact tY _) (fun j=>by
    refine⟨fun h=>?_,d j⟩;rcases tu j aB.size with C|C
    .exact C
    .rw[tf,Array.getElem?_eq_none (by rw[I.size];exact C)] at h;cases h)
   rw[hu,I.size] at hc;omega
  .simp only[Classical.not_forall] at d;obtain⟨j,hj,p⟩:=d;have cl:∃j,j < aB.size/\listed.getD j false=false/\∀i,i < j->listed.getD i false=true:=by
    have cy:∀n,(∃j,j < n/\j < aB.size/\listed.getD j false=false)->∃j,j < aB.size/\listed.getD j false=false/\∀i,i < j->listed.getD i false=true:=by
     intro n;induction n with
     |zero=>rintro⟨j,C,_⟩;omega
     |succ n cx=>
      rintro⟨j,C,O,h3⟩;by_cases hx:∃j,j < n/\j < aB.size/\listed.getD j false=false
      .exact cx hx
      .have ci:j=n:=by
        grind
       subst ci;refine⟨j,O,h3,fun i Y=>?_⟩;cases cj:listed.getD i false with
       |true=>rfl
       |false=>exact absurd ⟨i,Y,by omega,cj⟩ hx
    exact cy (j+1) ⟨j,Nat.lt_succ_self _,hj,by simpa using p⟩
   obtain⟨M,h0,c6,cb⟩:=cl;have a0:∀i,listed.getD i true=false->listed.getD i false=false:=fun i h=>by
    grind
   have b0:M∈Region.ready .any J listed:=by
    obtain⟨o,ho⟩:=BR.op (J:=J) (j:=M) (by rw[<-F.size];exact h0);refine mem_ready.2 ⟨?_,o,ho,fun e he hb=>cb e.on ?_⟩
    .have bj:M < listed.size:=by rw[I.size];exact h0
     grind
    .exact Qo H.masks (show aB[M]? =some (BT o) by rw[IH F.eq0,ho];rfl) (by rw[G1];exact he) hb
   refine⟨(fun cs=>by rw[cs] at b0;cases b0),fun i cf=>?_⟩;obtain⟨q1,o,y,q3⟩:=mem_ready.1 cf;have X:i < aB.size:=by rw[F.size];exact (te.1 y).1
   have c5:=Ej (listed:=listed) (i:=i) (by rw[I.size];exact X) (a0 i q1);have a3:aB[i]? =some (BT o):=by rw[IH F.eq0,y];rfl
   cases N:BD o with
   |true=>
    exact Gd y (I.floats H F hA bm bt bx bl a4 y N (a0 i q1) q3 fun A' q' ab Z I' cv=>ih _ _ _ _ _ Z I' cv (by omega))
   |false=>
    rw[Mx N] at a3;have hg:=I.comesw (r:=r) (ai:=ai) (K:=wpAnyIn (fen r) ai P .any J Q aK (listed.setIfInBounds i true)) (Q:=Q) H hA bm bt bx bl a3 (a0 i q1) q3 fun A' q' ab v Z I' hw c7=>ih _ _ _ _ _ Z I' (by
     intro j aq aR t x u z a9 p;have ch:j≠i:=fun e=>by subst e;rw[y] at u;cases u;rw[N] at z;cases z
     have bi:listed.getD j false=true:=by rw[Av _ _ _ (by rw[I.size];exact X),vA ch] at p;exact p
     obtain⟨b,off,W,us,e,ax,aE,r3,r4,r5⟩:=a4 j aq aR t x u z a9 bi;have b1:∀R,(AW J.toList [])[j]? =some R->∀k,R.testBit k=true->listed.getD k false=true:=fun R hR=>by
      rw[<-F.rs] at hR;have bs:aB[j]? =some (BT aq):=by rw[IH F.eq0,u];rfl
      exact CN I.closed hR bs (I.closed j _ bs bi)
     have b2:=F.stay H.nodup u z a9 (listed:=listed) b1 a3 (a0 i q1) a v;refine⟨b,off,W,us,e,by rw[b2.1];exact ax,?_,by rw[b2.2];exact r3,r4,r5⟩;by_cases h3:loud L (AQ 0 aB.toList) o=3
     .obtain⟨k,ok,k1,E,k3,k4,k5⟩:=I.tgt3 F u z a9 b1 a3 h3 (a0 i q1);grind
     .rcases hw h3 with hw|⟨c0,hw⟩
      .rw[hw];exact aE
      .rw[hw,BB w c0 b (te.1 aE).1];exact aE) (by omega)
    refine Gd y ?_;unfold Cx at hg⊢;rw[show yielded aB a.tmps=yielded J a.tmps from funext fun j=>YK F.eq0 _ j] at hg;exact hg
theorem AH.recell {n:Nat}{m:Mem}(h:m.at id= .cells c e):AH T n V m w V (m.set id (.cells aV e)) w:=by
 have p:=Dn m id (.cells aV e);have u:m.at id≠ .pad:=by rw[h];exact fun h=>by cases h
 refine⟨rfl,rfl,rfl,tY _,fun k d=>?_,fun k d=>⟨rfl,?_⟩,fun k _ d=>?_,fun k b E d _=>?_,fun _ _ _=>rfl,fun k x ks z N=> .inl ⟨?_,rfl,fun _ _=>rfl⟩,fun k x y ks z N=> .inr ⟨x,y,ks,?_,rfl,.inl ⟨rfl,rfl,fun _ W _ M=>⟨W,M,rfl⟩⟩⟩⟩
 .grind
 .rw[p k u];split
  .rfl
  .exact d
 .rw[p k u] at d;split at d
  .rename_i C;rw[C,h];rfl
  .exact d
 .rw[p k u] at d;split at d
  .grind
  .rw[E] at d;cases d
 .grind
 .grind
theorem AG.recell {n:Nat}{m:Mem}{b:Nat}(u:AG T n V m w)(h:m.at id= .cells c e)(hr: V id=some b)(Y:w.heap[b]? =some (.cells W.toArray e (0,0)))(hl:AB T n V m w aV W):AG T n V (m.set id (.cells aV e)) w:=by
 have p:=Dn m id (.cells aV e);have y:m.at id≠ .pad:=by rw[h];exact fun h=>by cases h
 have M:AH T n V m w V (m.set id (.cells aV e)) w:=AH.recell h;have z:∀k,(Mem.at (m.set id (.cells aV e)) k).tracked=true->(m.at k).tracked=true:=fun k d=>by
  rw[p k y] at d;split at d
  .rename_i X;rw[X,h];rfl
  .exact d
 refine⟨fun k=>?_,fun k E N C O=>u.inj k E N (z k C) (z E O),u.fr⟩;by_cases d:k=id
 .rw[p k y,vC d];exact⟨b,W,by rw[d];exact hr,Y,AB.mono0 M (tY _) _ _ hl⟩
 .exact BJ.step M u (tY _) (by rw[p k y,vA d]) rfl (fun _ _=>rfl)
theorem LV {tmps:AV}:∀{l:List Oper} {a1:List Nat} {m ad:Mem},HF P tmps l a1 m=some ad->
  (∀(i:Nat) (o:Oper),l[i]? =some o->BD o=true->∃id off av c e,CU P tmps o=some (id,off,av)/\m.at id= .cells c e/\Fd c=true/\off+av.length<=c.length/\id ∉ a1)/\
  (∀(i j:Nat) (y aq:Oper) (id off:Nat) (av:List AC) (d u:Nat) (p:List AC),l[i]? =some y->l[j]? =some aq->BD y=true->BD aq=true->i≠j->CU P tmps y=some (id,off,av)->CU P tmps aq=some (d,u,p)->id≠d)
 |[],a1,m,ad,h=>⟨fun i o Y=>by simp at Y,fun i j y aq _ _ _ _ _ _ Y=>by simp at Y⟩
 |o::l,a1,m,ad,h=>by
  unfold HF at h;cases hf:BD o with
  |false=>
   rw[hf] at h;simp only[uE,if_false] at h;obtain⟨C,O⟩:=LV h;constructor
   .intro i o2 Y E;cases i with
    |zero=>simp at Y;subst Y;rw[hf] at E;cases E
    |succ i=>exact C i o2 (by simpa using Y) E
   .intro i j y aq id off av d u p Y z N X bc;cases i with
    |zero=>simp at Y;subst Y;rw[hf] at N;cases N
    |succ i=>
     cases j with
     |zero=>simp at z;subst z;rw[hf] at X;cases X
     |succ j=>exact O i j y aq id off av d u p (by simpa using Y) (by simpa using z) N X (by omega)
  |true=>
   rw[hf] at h;simp only[if_true] at h;split at h
   .rename_i id off av a5;split at h
    .rename_i c e hm;split at h
     .rename_i hc;simp only[tV,Bool.not_eq_true',List.contains_eq_mem,decide_eq_false_iff_not] at hc;obtain⟨⟨aL,c2⟩,c3⟩:=hc;have c3:=uF c3;obtain⟨C,O⟩:=LV h;have bc:m.at id≠ .pad:=by rw[hm];exact fun h=>by cases h
      have a9:∀(i:Nat) (o2:Oper),l[i]? =some o2->BD o2=true->∃d u p aV e',CU P tmps o2=some (d,u,p)/\m.at d= .cells aV e'/\Fd aV=true/\u+p.length<=aV.length/\d ∉ a1/\d≠id:=by
       intro i o2 Y E;obtain⟨d,u,p,aV,e',M,q2,q3,q4,q5⟩:=C i o2 Y E;have hx:d≠id:=fun e=>q5 (by rw[e];exact tl);rw[Dn m id _ d bc,vA hx] at q2;exact⟨d,u,p,aV,e',M,q2,q3,q4,fun h=>q5 (th _ h),hx⟩
      constructor
      .intro i o2 Y E;cases i with
       |zero=>simp at Y;subst Y;exact⟨id,off,av,c,e,a5,hm,aL,c3,c2⟩
       |succ i=>
        obtain⟨d,u,p,aV,e',M,q2,q3,q4,q5,_⟩:=a9 i o2 (by simpa using Y) E;exact⟨d,u,p,aV,e',M,q2,q3,q4,q5⟩
      .intro i j y aq bj a2 a3 b1 b2 b3 Y z N X b4 e1 e2;cases i with
       |zero=>
        simp at Y;subst Y;rw[a5] at e1;cases e1;cases j with
        |zero=>exact absurd rfl b4
        |succ j=>
         obtain⟨d,u,p,aV,e',M,_,_,_,_,q6⟩:=a9 j aq (by simpa using z) X;rw[M] at e2;cases e2;exact fun h=>q6 h.symm
       |succ i=>
        cases j with
        |zero=>
         simp at z;subst z;rw[a5] at e2;cases e2;obtain⟨d,u,p,aV,e',M,_,_,_,_,q6⟩:=a9 i y (by simpa using Y) N;rw[M] at e1;cases e1;exact q6
        |succ j=>exact O i j y aq bj a2 a3 b1 b2 b3 (by simpa using Y) (by simpa using z) N X (by omega) e1 e2
     .cases h
    .cases h
   .cases h
theorem LQ {tmps:AV}{n:Nat}:∀{l:List Oper} {X:List Nat} {m ad:Mem},HF P tmps l X m=some ad->AG T n V m w->(∀t c,tmps.get t=some c->AA T n V m w c (a.tmps.getD t undef))->
  (∀(i:Nat) (o:Oper) (aR:TypeId) (u:Tmp) (x:Operand),l[i]? =some o->BD o=true->o.op= .store aR (.tmp u) x->∃b off W us e,a.tmps.getD u undef= .pointer (some ⟨b,off,none⟩)/\w.heap[b]? =some (.cells (W:List Value).toArray e (0,0))/\(a.eval x).cells=(us:List Value).toArray/\off+us.length<=W.length/\(W.drop off).take us.length=us)->
  AG T n V ad w/\AH T n V m w V ad w
 |[],X,m,ad,h,hm,ht,hr=>by
  cases h;exact⟨hm,AH.refl _ _ _ _ _⟩
 |o::l,X,m,ad,h,hm,ht,hr=>by
  unfold HF at h;cases z:BD o with
  |false=>
   rw[z] at h;simp only[uE,if_false] at h;exact LQ h hm ht fun i o2 aR u x Y=>hr (i+1) o2 aR u x (by simpa using Y)
  |true=>
   rw[z] at h;simp only[if_true] at h;split at h
   .rename_i id off av a6;split at h
    .rename_i c e N;split at h
     .rename_i p;simp only[tV] at p;have c3:=uF p.2;obtain⟨aR,t,x,a0,hx,_,_⟩:=Ee z;obtain⟨g1,ao,_⟩:=Ei a0 a6;obtain⟨b,d,W,us,e',ax,aE,r3,r4,r5⟩:=hr 0 o aR t x rfl z a0;obtain⟨b2,k1,E,_⟩:=ht t _ g1;rw[ax] at E;injection E with E
      injection E with E
      injection E with E k3
      subst E;subst k3;obtain⟨b0,M,q2⟩:=BJ.get hm N k1;rw[aE] at M;injection M with M
      injection M with q3 q4
      have q5:W=b0:=by simpa using vD Array.toList q3
      subst q5;subst q4;have a7:AA T n V m w (C0 [] tmps x) (a.eval x):=by
       rcases hx with⟨y,rfl⟩|⟨v,rfl⟩
       .show AA T n V m w (OQ [] ((tmps.get y).getD .any)) _;refine Qz (fun c p=>by cases p) ?_;cases hg:tmps.get y with
        |none=>exact trivial
        |some c=>exact ht y c hg
       .exact Hb v
      obtain⟨bx,z1,z2,_,_⟩:=CP ao a7;rw[r3] at z1;have z3:us=bx:=by simpa using vD Array.toList z1
      subst z3;have ba:AB T n V m w (c.take d++av++c.drop (d+av.length)) W:=by
       have hh:=LT q2 z2 d av.length rfl;have e1:BQ W d us=W:=by
        unfold BQ;have C:=ui d W;have O:=ui us.length (W.drop d);rw[r5,ut] at O;rw[<-O,<-uU] at C;exact C
       rw[e1] at hh;exact hh
      have a9:=AG.recell hm N k1 aE ba;have st:∀k,AH T k V m w V (m.set id (.cells (c.take d++av++c.drop (d+av.length)) e')) w:=fun k=>AH.recell N;obtain⟨au,ag⟩:=LQ h a9 (fun t c p=>AA.mono0 (st n) (tY _) _ _ (ht t c p)) fun i o2 aR u x Y=>hr (i+1) o2 aR u x (by simpa using Y);exact⟨au,(st n).trans hm (tY _) ag⟩
     .cases h
    .cases h
   .cases h
end
section
variable {L aC:Bool}{tg:List Tmp}{P:Program}{T:Tab}{call:Au}{aj:Ys}{r:Option Nat}{ai:Nat}{J aB:Array Oper}{ac:PC}
variable {V :Nat->Option Nat}{a:Act}{w Z:World}
def Wk (m ad:Mem):Prop:=∀id,ad.at id=m.at id\/∃l af e,m.at id= .cells l e/\ad.at id= .cells af e
variable{ad:Mem}{l:Loc}{g:G}{an:RS}
theorem Wk.symm {m:Mem}(h:Wk m ad):Wk ad m:=fun id=>by
 rcases h id with h|⟨l,af,e,C,O⟩
 .exact .inl h.symm
 .exact .inr ⟨af,l,e,O,C⟩
theorem Wk.step {n:Nat}{m:Mem}(h:Wk m ad):AH T n V m w V ad w:=by
 refine⟨rfl,rfl,rfl,tY _,fun id d=>?_,fun id d=>⟨rfl,?_⟩,fun id _ u=>?_,fun id b d u _=>?_,fun _ _ _=>rfl,fun id x ks e p=> .inl ⟨?_,rfl,fun _ _=>rfl⟩,fun id x y ks e p=> .inr ⟨x,y,ks,?_,rfl,.inl ⟨rfl,rfl,fun _ W _ z=>⟨W,z,rfl⟩⟩⟩⟩<;>rcases h id with h|⟨l,af,E,C,O⟩
 .rw[h];exact d
 .grind
 .rw[h];exact d
 .rw[O];rfl
 .rw[h] at u;exact u
 .rw[C];rfl
 .rw[h,d] at u;cases u
 .rw[C] at d;cases d
 .rw[h];exact p
 .rw[C] at p;cases p
 .rw[h];exact p
 .rw[C] at p;cases p
theorem KO (tmps:AV):∀(l:List Oper) (m:Mem),Wk m (Dk tmps l m)/\∀(n:Nat),AG T n V m w->AG T n V (Dk tmps l m) w
 |[],m=>⟨fun id=> .inl rfl,fun n h=>h⟩
 |o::l,m=>by
  have one:∀id,Wk m (m.set id (QZ (m.at id)))/\∀n,AG T n V m w->AG T n V (m.set id (QZ (m.at id))) w:=by
   intro id;cases d:m.at id with
   |cells c e=>
    have a0:m.at id≠ .pad:=by rw[d];exact fun h=>by cases h
    refine⟨fun k=>?_,fun n p=>?_⟩
    .rw[Dn m id _ k a0];split
     .rename_i e2;right;rw[e2];exact⟨c,_,e,d,rfl⟩
     .exact .inl rfl
    .have z:=p.blk id;rw[d] at z;obtain⟨b,W,C,O,h3⟩:=z;exact AG.recell p d C O (AB.of_get (by simp[h3.length]) fun j aV u Y _=>by
      simp only[uP,uC] at Y;obtain⟨_,_,rfl⟩:=Y;trivial)
   |_=>
    have y:m.set id (QZ (m.at id))=m:=by
     have hw:QZ (m.at id)=m.at id:=by rw[d];rfl
     rw[hw];unfold Mem.at;rcases tu id m.length with h|h
     .rw[tZ h,Option.getD_some,List.set_getElem_self]
     .rw[List.set_eq_of_length_le h]
    rw[d] at y;rw[y];exact⟨fun id=> .inl rfl,fun n h=>h⟩
  have tr:∀{au:Mem},(Wk m au/\∀n,AG T n V m w->AG T n V au w)->Wk m (Dk tmps l au)/\∀n,AG T n V m w->AG T n V (Dk tmps l au) w:=by
   intro au h;obtain⟨C,O⟩:=KO tmps l au;refine⟨fun id=>?_,fun n p=>O n (h.2 n p)⟩;rcases C id with k|⟨X,ae,e,M,E⟩
   .rw[k];exact h.1 id
   .rcases h.1 id with k|⟨l3,l4,e',k3,N⟩
    .right;exact⟨X,ae,e,by rw[<-k];exact M,E⟩
    .rw[M] at N;cases N;exact .inr ⟨l3,ae,e,k3,E⟩
  unfold Dk;split
  .split
   .exact tr (one _)
   .exact KO tmps l m
  .exact KO tmps l m
theorem bh (al:∀T,CL P T call)(a8:Ce P T.lp aj)(h:FJ L aC tg P call aj J ac l g=some an):
  ∃S:Nat->DS,BR L aC tg P T call aj J ac S/\S 0=⟨l.tmps,l.mem,g,[]⟩/\an=⟨(S J.size).tmps,(S J.size).mem,(S J.size).g,(S J.size).gls.map (·.2)⟩:=by
 unfold FJ at h;simp only at h;split at h
 .rename_i C;rw[tV,tV,tV] at C;obtain⟨⟨⟨a2,a4⟩,a6⟩,a7⟩:=C;simp only[tX,tU] at h;obtain⟨Sh,hh,z⟩:=h;obtain⟨S,N,O,q3⟩:=LZ hh;rw[tj,Array.length_toList] at O;refine⟨S,?_,N,?_⟩
  .refine⟨fun j o p=>?_,a2,a4,fun i o R p d j aq y a1=>?_,fun i o R p d n0 n4 j aq y a1 X Y m om a5 a3=>?_,al,a8,by rw[N]⟩
   .obtain⟨R,d,this⟩:=q3 j o (by simpa using p);rw[tj] at this;exact⟨R,d,this⟩
   .have:=ST a6 i R (AL L (AQ 0 J.toList) o) d (by simp[p]) j (AL L (AQ 0 J.toList) aq) (by simp[y]) (by omega);exact⟨this.1,this.2⟩
   .have u:∀(j:Nat) (aq:Oper),J[j]? =some aq->(J.toList.map (AL L (AQ 0 J.toList)))[j]? =some (AL L (AQ 0 J.toList) aq):=fun j aq h=>by simp[h]
    have E:=LH (M:=0) (j:=j) (by rw[u j aq y,X]);rw[tj] at E;have ao:=SL a7 i R _ d (u i o p) n0 n4 j E (by omega) Y;have:=SZ ao m _ (u m om a5) a3;rw[tj] at this;exact this
  .subst O;injection z with z
   exact z.symm
 .cases h
theorem YI:∀(l:List Nat) (M K j:Nat),l[j]? =some 3->M+j < OS M l K
 |[],_,_,_,h=>by simp at h
 |k::l,M,K,j,h=>by
  have mono:∀(l:List Nat) (M K:Nat),K<=M->K<=OS M l K:=by
   intro l;induction l with
   |nil=>intro M K _;exact tY _
   |cons k l d=>
    intro M K h;unfold OS;split
    .exact t8 (by omega) (d (M+1) (M+1) (tY _))
    .exact d (M+1) K (by omega)
  unfold OS;cases j with
  |zero=>
   simp at h;subst h;rw[vC (by rfl)];have:=mono l (M+1) (M+1) (tY _);omega
  |succ j=>
   have:=YI l (M+1) (if Nat.beq k 3 then M+1 else K) j (by simpa using h);omega
theorem jJ (hm:P.follows .mixedOrders=true)(b8:∀T,CL P T call)(c1:Ce P T.lp aj)(h:Ja L aC P call aj J ac l g=some an):
  AX g an.g/\an.tmps.n=l.tmps.n/\(Agr T an.g->Aj T an.g->pcv T ac->BK T g ac->∀id V a w Q,Rel T g.n V l a w->
   (∀ ab a' Z,Bu T ab J an a' Z->AH T g.n V l.mem w ab an.mem Z->Q .normal a' Z)->(Code.region id J true).wpIn (fen r) ai P Q a w):=by
 unfold Ja at h;simp only at h;split at h
 .rename_i N;simp only[tV] at N;obtain⟨⟨_,cc⟩,a8⟩:=N;simp only[tX,tU] at h;obtain⟨s,aa,m,bi,h⟩:=h;split at h
  case isFalse=>cases h
  rename_i a2;cases h;obtain⟨aB,al⟩:∃aB,aB=(J.toList.map BT).toArray:=⟨_,rfl⟩;rw[<-al] at aa;have ch:aB.toList=List.map BT J.toList:=by rw[al]
  rw[<-ch] at a8 a2;obtain⟨K,hK⟩:∃K,K=OS 0 (aB.toList.map (loud L (AQ 0 aB.toList))) 0:=⟨_,rfl⟩;rw[<-hK] at a8 a2;obtain⟨S,H,q1,cu⟩:=bh (T:=T) b8 c1 aa;subst cu;have cy:aB.size=J.size:=by rw[al];simp
  obtain⟨ce,cf⟩:=LV bi;have F:FOk L K J aB S P:=by
   refine⟨al,fun i R o z y=>RQ cc i R o z (by simpa using y),fun j o c9 y h3=>?_,fun i o t y ht=>?_,?_,fun i o y hf=>?_,fun i j oi aq a1 a4 a3 b1 b2 b3 Y hj=>cf i j oi aq a1 a4 a3 b1 b2 b3 (by simpa using Y) (by simpa using hj)⟩
   .have:=YI (aB.toList.map (loud L (AQ 0 aB.toList))) 0 0 j (by rw[uP,show aB.toList[j]? =some o by simpa using y];simp[h3]);omega
   .have:=uK.1 a8 o (List.mem_of_getElem? (show J.toList[i]? =some o by simpa using y));unfold pR at this;rw[ht] at this;simp only[uN] at this;rcases this with h|h
    .exact .inl (tW h)
    .right;cases hm:Ay (AQ 0 J.toList) t with
     |none=>rw[hm] at h;cases h
     |some k=>rw[hm] at h;exact⟨k,rfl,uF h⟩
   .rw[uN] at a2;rcases a2 with h|h
    .exact .inl (tW h)
    .right;intro i o id off av y hf b7;have:=uK.1 h o (List.mem_of_getElem? (show J.toList[i]? =some o by simpa using y));unfold new3 at this;rw[hf] at this;simp only[Bool.not_true,Bool.false_or] at this;change (match CU P (S aB.size).tmps o with|some (id,_,_)=>Nat.ble (Dk l.tmps J.toList l.mem).length id|none=>false)=true at this;rw[b7] at this;rw[q1];exact uF this
   .obtain⟨id,off,av,c,e,k1,E,k3,k4,_⟩:=ce i o (by simpa using y) hf;exact⟨id,off,av,c,e,k1,E,k3,k4⟩
  obtain⟨X,_,_⟩:=H.later 0 aB.size (by omega);rw[tj] at X;have M:(S 0).g=g:=by rw[q1]
  have aM:(S 0).mem=Dk l.tmps J.toList l.mem:=by rw[q1]
  have a9:(S 0).tmps=l.tmps:=by rw[q1]
  refine⟨?_,?_,fun hA ci cj cl id V a w Q z hK=>?_⟩
  .rw[<-M];exact X.grow
  .rw[<-a9];exact X.len
  .refine wpIn_region_any hm ?_;obtain⟨wk,wm⟩:=KO (T:=T) (V := V) (w:=w) l.tmps J.toList l.mem;have ba:∀n,AH T n V l.mem w V (Dk l.tmps J.toList l.mem) w:=fun n=>wk.step;have cx:=AH.drawn T (S 0).g.n V (S 0).mem w (w.drawn+1);have bj:AG T (S 0).g.n V (S 0).mem { w with drawn:=w.drawn+1 }:=by rw[M,aM];exact (wm g.n z.mem).drawn _
   have C:∀j,(Array.replicate J.size false).getD j false=false:=fun j=>by
    rw[tf,Array.getElem?_replicate];split<;>rfl
   have hT:T.wf (frO L T aB (Array.replicate J.size false) 0 (fun _=>0))=T:=by
    have e:frO L T aB (Array.replicate J.size false) 0 (fun _=>0)=T.fr:=by
     funext b off;apply propext;constructor
     .exact fun h=>h.1
     .exact fun h=>⟨h,fun⟨i,o,y,_,u,_,_⟩=>by rw[C] at u;cases u⟩
    rw[e];rfl
   have I0:BH L P T aB S V { w with drawn:=w.drawn+1 } (fun _=>0) 0 (Array.replicate J.size false) V a { w with drawn:=w.drawn+1 }:=by
    refine⟨by simp[cy],fun j o _ hj=>?_,uQ _,fun j o hj=>by omega,fun j o _ _=>?_,(by rw[aM];exact (z.defers.on (ba g.n)).on (AH.drawn T g.n V _ w (w.drawn+1))),by rw[a9];exact z.size,by rw[hT];exact bj,fun t c N _=>?_,fun i o d c Y=>?_,fun p _ hp=>?_,fun i o _ _ u=>?_,fun i j oi aq _ _ _ _ u=>?_,AH.refl _ _ _ _ _⟩
    .rw[C] at hj;cases hj
    .rw[C];simp
    .rw[a9] at N;have:=AA.mono0 (ba g.n) (tY _) _ _ (z.tmps t c N);rw[hT,M,aM];exact AA.mono0 (by rw[<-M,<-aM];exact cx) (tY _) _ _ this
    .rw[C] at Y;cases Y
    .rw[C] at hp;cases hp
    .rw[C] at u;cases u
    .rw[C] at u;cases u
   have ca:Cd (Array.replicate J.size false)=J.size:=by simp[Cd,List.countP_replicate]
   refine mP H F hA ci cj (by rw[M];exact cl) bj (fun aW a4 w2 O cv cs=>?_) J.size _ _ V 0 a _ I0 (fun j aq _ _ _ _ _ _ u=>by rw[C] at u;cases u) ca;obtain⟨e1,e2⟩:=LQ bi O.rel.mem O.rel.tmps fun i o aR ta x Y=>cs i o aR ta x (by simpa using Y);refine hK aW a4 w2 ⟨⟨O.rel.defers.on e2,O.rel.size,fun t c N=>AA.mono0 e2 (tY _) _ _ (O.rel.tmps t c N),e1⟩,fun e he=>?_⟩ ?_
   .have ao:=O.ges e he;refine⟨ao.lt,ao.bool,?_,ao.imp,ao.ne⟩;rw[<-YK al];exact ao.iff
   .have aD:AH T g.n V l.mem w V (S 0).mem { w with drawn:=w.drawn+1 }:=by
     rw[aM];exact (ba g.n).trans z.mem (tY _) (AH.drawn T g.n V _ w (w.drawn+1))
    have s2:AH T g.n V l.mem w aW (S aB.size).mem w2:=aD.trans z.mem (Nat.le_of_eq (by rw[M])) cv;exact s2.trans z.mem (by rw[<-M];exact X.grow.n) e2
 .cases h
end
section
variable {P:Program}{F:Fence}{n:Nat}{Q:Exit->Act->World->Prop}{a:Act}{w:World}
variable{b:Frame}{k:List Item}{av:List Frame}{c:Code}
theorem FS :step P (lone (b.atR a (.code (.scope c)::k)) av w)= .next (lone (b.atR a (.code c:: .inScope c::k)) av w):=
 step_lone_go (by simp[stepG,stepG.exec,Frame.atR])
theorem Ws :step P (lone (b.atR a (.inScope c::k)) av w)= .next (lone (b.atR a k) av w):=
 step_lone_go (by simp[stepG,stepG.exec,Frame.atR])
theorem gV (h:c.wpIn F n P (Exit.noGoto Q) a w):(Code.scope c).wpIn F n P Q a w:=by
 intro b k av al E N;have d:(lone (b.atR a (.code (.scope c)::k)) av w).fenced P F:=fenced_calm E N rfl;obtain⟨e,y,z,u,p⟩:=h b (.inScope c::k) av al E N;cases e with
 |normal=>exact⟨.normal,y,z,u,.head d FS (StepsIn.trans p (.one (fenced_calm E N rfl) Ws))⟩
 |exit id=>
  have X:exitTo id (.inScope c::k)=exitTo id k:=by simp[exitTo]
  exact⟨.exit id,y,z,u,fun k' M=> .head d FS (p.1 k' (by rw[X];exact M)),
   fun Y M=>let⟨a0,C,O⟩:=p.2 Y (by rw[X];exact M);⟨a0,C,.head d FS O⟩⟩
 |goto l=>exact u.elim
 |ret=>exact⟨_,y,z,u,.of_steps (.one d FS) p⟩
 |panic ch=>exact⟨_,y,z,u,.of_steps (.one d FS) p⟩
 |outgrown=>exact⟨_,y,z,u,.of_steps (.one d FS) p⟩
end
section
variable {T:Tab}{n:Nat}{V :Nat->Option Nat}{m:Mem}{w:World}
def IA:Blk->Blk| .mrow _ _ _ _=> .gone|b=>b
theorem OR (f:Blk->Blk)(d:f .pad= .pad)(m:Mem)(id:Nat):Mem.at (m.map f) id=f (m.at id):=by
 unfold Mem.at;grind
theorem Kz (m:Mem)(id:Nat):Mem.at (m.map IA) id=IA (m.at id):=OR _ rfl m id
theorem BW (m:Mem)(id:Nat):Mem.at (m.map IA) id=m.at id\/Mem.at (m.map IA) id= .gone:=by
 rw[Kz];cases m.at id<;>simp[IA]
theorem dY {b off:Nat}(h:AY T V m w b off):AY T V (m.map IA) w b off:=
 ⟨h.1,h.2.1,fun id=>by
  have:=h.2.2 id;rw[Kz];cases d:m.at id<;>rw[d] at this<;>first|exact this|trivial⟩
mutual
theorem Qk (d:AG T n V m w):∀(c:AC) (v:Value),AA T n V m w c v->AA T n V (m.map IA) w (LO m c) v
 | .mr id y,v,h=>by
  have back:AA T n V (m.map IA) w (.mr id y) v:=AA.mono0 (AH.weaken (BW m)) (tY _) _ _ h;unfold LO;split
  .rename_i x aS ks e N;split
   .rename_i hy;have hy:=tW hy;subst hy;obtain⟨⟨h0,C⟩,j,a,I,k1,E,k3,⟨k4,k5⟩,k6⟩:=h;have hb:=d.blk id;rw[N] at hb;obtain⟨⟨g0,_⟩,l,g1,ao,g3,u⟩:=hb;have e1:j=l.length:=by rw[k1] at ao;injection ao
    have e2:j.toNat=l.length:=by omega
    refine⟨g0,l,g1,g3.1,fun e=>absurd e g3.2,a,I,by rw[k3,e2],by omega,fun ba=>?_⟩;rcases u with⟨_,rfl⟩|⟨X,W,us,u,g5,g6,g7⟩
    .simp at ba
    .rcases k6 _ _ _ N with⟨M,_⟩|⟨b3,b5,M,q2,_⟩
     .rw[u] at M;cases M
     .rw[u] at M;cases M;refine⟨X,0,q2,?_⟩;have b0:=g6.len;refine Ab.holds (ok:=AY T V m w) (o:=0) (fun b off aa=>⟨dY aa,rfl⟩) g6 (fun p hp=>⟨⟨(te.1 g5).1,g7 _,fun z=>?_⟩,?_⟩)
      .rw[Kz];by_cases a5:z=id
       .rw[a5,N];trivial
       .have a0:(m.at z).tracked=true-> V z≠some X:=fun ht Y=>a5 (d.inj z id X ht (by rw[N];rfl) Y u);cases bc:m.at z<;>rw[bc] at a0<;>first|trivial|exact a0 rfl|exact fun Y=>absurd Y (a0 rfl)
      .rw[tj,Fa g5,tv (by omega)]
   .exact back
  .exact back
 | .on c a,v,h=>⟨h.1,fun C=>Qk d a v (h.2 C)⟩
 | .gd c a,v,h=>⟨h.1,fun C=>Qk d a v (h.2.1 C),h.2.2⟩
 | .fn f a b,v,⟨W,us,C,O,h3⟩=>⟨W,us,C,Ku d a W O,Ku d b us h3⟩
 | .agg l,v,⟨W,C,O⟩=>⟨W,C,Ku d l W O⟩
 | .tup l,v,⟨W,C,O⟩=>⟨W,C,Ku d l W O⟩
 | .any,v,h=>AA.mono0 (AH.weaken (BW m)) (tY _) _ _ h
 | .anyc,v,h=>AA.mono0 (AH.weaken (BW m)) (tY _) _ _ h
 | .cb _,v,h=>AA.mono0 (AH.weaken (BW m)) (tY _) _ _ h
 | .b _,v,h=>AA.mono0 (AH.weaken (BW m)) (tY _) _ _ h
 | .nb _,v,h=>AA.mono0 (AH.weaken (BW m)) (tY _) _ _ h
 | .ci _ _,v,h=>AA.mono0 (AH.weaken (BW m)) (tY _) _ _ h
 | .i _ _ _ _,v,h=>AA.mono0 (AH.weaken (BW m)) (tY _) _ _ h
 | .cv _,v,h=>AA.mono0 (AH.weaken (BW m)) (tY _) _ _ h
 | .v _,v,h=>AA.mono0 (AH.weaken (BW m)) (tY _) _ _ h
 | .s _,v,h=>AA.mono0 (AH.weaken (BW m)) (tY _) _ _ h
 | .ptr _ _,v,h=>AA.mono0 (AH.weaken (BW m)) (tY _) _ _ h
 | .pix _ _ _ _ _ _,v,h=>AA.mono0 (AH.weaken (BW m)) (tY _) _ _ h
 | .ro _ _,v,h=>AA.mono0 (AH.weaken (BW m)) (tY _) _ _ h
 | .rp _ _ _ _,v,h=>AA.mono0 (AH.weaken (BW m)) (tY _) _ _ h
 | .vec _ _ _,v,h=>AA.mono0 (AH.weaken (BW m)) (tY _) _ _ h
 | .sel _ _,v,h=>AA.mono0 (AH.weaken (BW m)) (tY _) _ _ h
 | .yl _,v,h=>AA.mono0 (AH.weaken (BW m)) (tY _) _ _ h
 | .asl _ _ _,v,h=>AA.mono0 (AH.weaken (BW m)) (tY _) _ _ h
 | .rsv _ _ _,v,h=>AA.mono0 (AH.weaken (BW m)) (tY _) _ _ h
 | .mp _ _ _ _ _,v,h=>AA.mono0 (AH.weaken (BW m)) (tY _) _ _ h
 | .mv _,v,h=>AA.mono0 (AH.weaken (BW m)) (tY _) _ _ h
theorem Ku (d:AG T n V m w):∀(l:List AC) (W:List Value),AB T n V m w l W->AB T n V (m.map IA) w (Pq m l) W
 |[],_,h=>h
 |c::l,_,⟨u,us,C,O,h3⟩=>⟨u,us,C,Qk d c u O,Ku d l us h3⟩
end
theorem TD (m:Mem):Wk (m.map IA) (QS m):=fun id=>by
 unfold QS;rw[Kz,OR _ rfl];cases m.at id with
 |cells l e=>exact .inr ⟨l,Pq m l,e,rfl,rfl⟩
 |_=>exact .inl rfl
theorem oS {k:Nat}(h:AG T n V m w)(d:n<=k):AH T n V m w V (QS m) w:=
 (AH.weaken (BW m)).trans h d ((TD m).step (n:=k))
theorem qN (d:AG T n V m w):AG T n V (QS m) w:=by
 have Y:=AG.weaken d (BW m);have M:AH T n V (m.map IA) w V (QS m) w:=(TD m).step;have u:∀id,Mem.at (QS m) id=frzB m (m.at id):=fun id=>OR _ rfl m id;have z:∀id,(Mem.at (QS m) id).tracked=true->(m.at id).tracked=true:=fun id h=>by
  rw[u] at h;cases p:m.at id<;>rw[p] at h<;>first|rfl|exact h
 refine⟨fun id=>?_,fun id E b C O=>d.inj id E b (z id C) (z E O),d.fr⟩;rcases TD m id with h|⟨l,af,e,C,O⟩
 .exact BJ.step M Y (tY _) h rfl (fun _ _=>rfl)
 .cases p:m.at id with
  |cells l0 e0=>
   have y:=d.blk id;rw[p] at y;obtain⟨b,W,N,ao,X⟩:=y;rw[u,p];exact⟨b,W,N,ao,AB.mono0 M (tY _) _ _ (Ku d l0 W X)⟩
  |_=>rw[Kz,p] at C;cases C
theorem Po (m:Mem):∀(t:Tr) (i:Nat),(Th m t).get i=(t.get i).map (LO m)
 | .nil,i=>rfl
 | .node v l r,i=>by
  simp only[Th,Tr.get];rw[Po m l,Po m r];cases Nat.beq i 0<;>simp only[cond];cases Nat.beq (i % 2) 1<;>rfl
theorem m7 (m:Mem)(s:AV)(i:Nat):(fI m s).get i=(s.get i).map (LO m):=by
 have h:∀l:List (Nat × AC),BF (l.map fun p=>(p.1,LO m p.2)) i=(BF l i).map (LO m):=by
  intro l;induction l with
  |nil=>rfl
  |cons p l d=>
   obtain⟨j,c⟩:=p;simp only[tx,BF];cases Nat.beq j i<;>first|exact d|rfl
 unfold AV.get fI;simp only[h];cases BF s.loc i with
 |some c=>rfl
 |none=>exact Po m s.t i
theorem oY {b:Bool}{l:Loc}{a:Act}(h:Rel T n V l a w):AH T n V l.mem w V (KU b l).mem w/\Rel T n V (KU b l) a w/\(KU b l).tmps.n=l.tmps.n:=by
 cases b with
 |false=>exact⟨AH.weaken fun _=> .inl rfl,h,rfl⟩
 |true=>
  have p:=oS h.mem (tY n);refine⟨p,⟨h.defers.on p,h.size,fun i c d=>?_,qN h.mem⟩,rfl⟩;have d:(fI l.mem l.tmps).get i=some c:=d;rw[m7,uC] at d;obtain⟨aP,u,rfl⟩:=d;exact AA.mono0 (TD l.mem).step (tY _) _ _ (Qk h.mem _ _ (h.tmps i aP u))
end
section
variable {P:Program}{call:Au}
theorem kI {T:Tab}(h:Option (Tmp × Int × Int))(ac:PC)(t:AV)(g:G):AX g (CD h ac t g).2/\(CD h ac t g).2.n=g.n/\(CD h ac t g).1.n=t.n/\
  (Aj T (CD h ac t g).2->pcv T ac->∀n V m a w,Rel T n V ⟨t,m⟩ a w->Rel T n V ⟨(CD h ac t g).1,m⟩ a w):=by
 unfold CD;split
 .exact⟨AX.refl _,rfl,rfl,fun _ _ _ _ _ _ _ h=>h⟩
 .rename_i i ap Y;split
  .rename_i k a0 ao x M;dsimp only;refine⟨AX.need _ _ _,(DB _ _ _).1,AV.set_n _ _ _,fun C E n V m a w d=>?_⟩;have p:=Aj.need C E _ (uT.2 rfl);refine⟨d.defers,by rw[d.size];exact (AV.set_n _ _ _).symm,fun j c y=>?_,d.mem⟩;rcases AV.get_set _ _ _ _ y with⟨rfl,_,rfl⟩|⟨_,O⟩
   .obtain⟨N,z,u,X,_⟩:=d.tmps _ _ M;have q3:T.get x= .int z:=u;simp only[Pr.holds,Du,tx,uW,u0,Rf.eval,q3,U.toI] at p;exact⟨N,z,u,X,p.1,p.2⟩
   .exact d.tmps j c O
  .dsimp only;exact⟨AX.refl _,rfl,rfl,fun _ _ _ _ _ _ _ h=>h⟩
theorem YP {k:XK}:∀{l:List BA},noK k l=true->G5 k l=none
 |[],_=>rfl
 |o::l,h=>by
  simp only[noK,List.all_cons,tV,Bool.not_eq_true',decide_eq_false_iff_not] at h;unfold G5;rw[vA h.1,YP (l:=l) h.2];rfl
theorem KJ (hm:P.follows .mixedOrders=true)(bc:∀T,CL P T call)(aY:DI):∀(aK:Nat) (a8:Bool) (aj:Ys) (T:Tab) (r:Option Nat) (ai d:Nat) (c:Code),(a8=false->r=none)->Ce P T.lp aj->
  Cf T (Pt P r ai (aY.plan d).isSome aK c) (Bj P call aY a8 aj aK d c)
 |0,_,_,_,_,_,_,_,_,_=>fun ac l g M al h=>by simp only[Bj] at h;cases h
 |aK+1,a8,aj,T,r,ai,d,c,hr,hys=>by
  have cf:∀(T':Tab),T'.lp=T.lp->∀d c,TX P T' r ai c (Bj P call aY a8 aj aK d c):=fun T' b1 d c=>(KJ hm bc aY aK a8 aj T' r ai d c hr (by rw[b1];exact hys)).mono fun Q a w h=>Ql h;have ih:∀d c,TX P T r ai c (Bj P call aY a8 aj aK d c):=fun d c=>cf T rfl d c;have a6:∀{c:Code} {run:PC->Loc->G->Option (List BA × G)},(∀b,c≠ .loop b)->TX P T r ai c run->Cf T (Pt P r ai (aY.plan d).isSome (aK+1) c) run:=fun hc h=>h.mono fun Q a w hh=>dI (fun b e=>absurd e (hc b)) hh;cases c with
  |skip=>exact a6 (fun _ h=>by cases h) (S5 .normal fun Q a w h=>wpIn_skip h)
  |label l=>exact a6 (fun _ h=>by cases h) (S5 .normal fun Q a w h=>wpIn_label h)
  |exit id=>exact a6 (fun _ h=>by cases h) (S5 (.exit id) fun Q a w h=>wpIn_exit h)
  |ret=>exact a6 (fun _ h=>by cases h) (S5 .ret fun Q a w h=>wpIn_ret h)
  |seq x y=>exact a6 (fun _ h=>by cases h) ((Sd (ih d x) (ih d y)).mono fun Q a w h=>wpIn_seq h)
  |loop b=>
   cases hp:aY.plan d with
   |some p=>
    have O:Cf T (Pt P r ai false aK (.loop b)) (fun _ _ _=>none):=fun ac l g M al h=>by cases h
    have h3:=(Sd (ih d b) O).mono (K2:=Pt P r ai false (aK+1) (.loop b)) fun Q a w h=>h;have h4:=h3.mono (K2:=Pt P r ai true (aK+1) (.loop b)) fun Q a w h=>dI (fun _ _=>rfl) (Ql h);intro ac l g M al h;simp only[Bj,hp] at h;split at h
    .rename_i ax ho;cases h;unfold pP at ho;split at ho
     .rename_i db g1 hb;split at ho
      .rename_i hn;cases ho;refine h4 ac l g M al ?_;simp only[hb,tX,uM];unfold TE;rw[YP hn]
      .cases ho
     .cases ho
    .exact jG (r:=r) (ai:=ai) (c:=b) (fun T' b1=>cf T' b1 d b) p ac l g M al h
   |none=>
    have O:=KJ hm bc aY aK a8 aj T r ai d (.loop b) hr hys;rw[hp] at O;have:=(Sd (ih d b) O).mono (K2:=Pt P r ai false (aK+1) (.loop b)) fun Q a w h=>h;intro ac l g M al h;simp only[Bj,hp] at h;exact this ac l g M al h
  |block id b=>
   refine a6 (fun _ h=>by cases h) ?_;have:=(ij (id:=id) (ih id b)).mono (K2:=fun Q a w=>(Code.block id b).wpIn (fen r) ai P Q a w) fun Q a w h=>wpIn_block h;intro ac l g M al h;simp only[Bj] at h;exact this ac l g M al h
  |scope b=>
   refine a6 (fun _ h=>by cases h) ?_;intro ac l g M al h;simp only[Bj] at h;obtain⟨g1,ao⟩:=ih d b ac l g M al h;refine⟨g1,fun hA hp=>?_⟩;obtain⟨h3,h4,h5⟩:=ao hA hp;refine⟨h3,h4,fun ho z V a w Q u hO=>gV (h5 ho z V a w _ u fun o hm C ab a' Z O h6=>?_)⟩;have:=hO o hm C ab a' Z O h6;cases hk:o.k<;>(rw[hk] at this;exact this)
  |region id J bs=>
   refine a6 (fun _ h=>by cases h) ?_;intro ac l g M al h;simp only[Bj,tX,tU] at h;obtain⟨s,aa,h⟩:=h;cases h;unfold co at aa;have cc:AX g s.g->s.tmps.n=l.tmps.n->(Agr T s.g->Aj T s.g->pcv T ac->BK T g ac->∀ V a w Q,Rel T g.n V l a w->
     (∀ ab a' Z,Bu T ab J s a' Z->AH T g.n V l.mem w ab s.mem Z->Q .normal a' Z)->(Code.region id J bs).wpIn (fen r) ai P Q a w)->
     AX g (CD (aY.nar id) ac s.tmps s.g).2/\(Agr T (CD (aY.nar id) ac s.tmps s.g).2->Cu g ac->D3 T (CD (aY.nar id) ac s.tmps s.g).2 l.tmps.n [⟨.normal,ac,KU (aY.frz id) ⟨(CD (aY.nar id) ac s.tmps s.g).1.commit aY.keep,s.mem⟩⟩]/\(∀o∈([⟨.normal,ac,KU (aY.frz id) ⟨(CD (aY.nar id) ac s.tmps s.g).1.commit aY.keep,s.mem⟩⟩]:List BA),pcv T o.pc->pcv T ac)/\
      (Aj T (CD (aY.nar id) ac s.tmps s.g).2->pcv T ac->∀ V a w Q,Rel T g.n V l a w->ZS T g.n V l.mem w (CD (aY.nar id) ac s.tmps s.g).2.n [⟨.normal,ac,KU (aY.frz id) ⟨(CD (aY.nar id) ac s.tmps s.g).1.commit aY.keep,s.mem⟩⟩] Q->(Code.region id J bs).wpIn (fen r) ai P Q a w)):=by
    intro gr b4 k;obtain⟨am,ay,n3,n4⟩:=kI (T:=T) (aY.nar id) ac s.tmps s.g;refine⟨gr.trans am,fun hA hp=>?_⟩;have hN:(KU (aY.frz id) ⟨(CD (aY.nar id) ac s.tmps s.g).1.commit aY.keep,s.mem⟩).tmps.n=l.tmps.n:=by
     have h0:((CD (aY.nar id) ac s.tmps s.g).1.commit aY.keep).n=l.tmps.n:=by rw[AV.commit_n];exact n3.trans b4
     cases aY.frz id<;>exact h0
    obtain⟨C,O⟩:=D3.one (T:=T) (k:= .normal) (l:=KU (aY.frz id) ⟨(CD (aY.nar id) ac s.tmps s.g).1.commit aY.keep,s.mem⟩) (N:=l.tmps.n) (hp.grow (gr.trans am)) hN;refine⟨C,O,fun a5 z V a w Q u hO=>?_⟩;refine k (hA.of am) (a5.of am) z (hp.ok z) V a w Q u fun ab a' Z Y b6=>?_;have c4:Rel T (CD (aY.nar id) ac s.tmps s.g).2.n ab ⟨(CD (aY.nar id) ac s.tmps s.g).1.commit aY.keep,s.mem⟩ a' Z:=
     Rel.less (l:=⟨(CD (aY.nar id) ac s.tmps s.g).1,s.mem⟩) (n4 a5 z _ _ _ _ _ (by rw[ay];exact Y.rel)) (AV.commit_n _ _) fun i c hc=>AV.get_commit _ _ _ hc
    obtain⟨f1,f2,_⟩:=oY (b:=aY.frz id) c4;exact hO _ (uT.2 rfl) z ab a' Z (b6.trans u.mem (gr.trans am).n f1) f2
   cases bs with
   |true=>
    rw[vC rfl] at aa;have c5:XD P call aj J ac l g=some s\/(∃L aC tg,FJ L aC tg P call aj J ac l g=some s)\/∃L aC,Ja L aC P call aj J ac l g=some s:=by
     split at aa
     .rename_i aD C;injection aa with aa;subst aa;exact .inl C
     .right;have c7:∀ns:List Nat,UW P call aj J ac l g ns=some s->(∃L aC tg,FJ L aC tg P call aj J ac l g=some s)\/∃L aC,Ja L aC P call aj J ac l g=some s:=by
       intro ns;induction ns with
       |nil=>intro h;cases h
       |cons n ns ih=>
        intro h;unfold UW at h;split at h
        .rename_i aD C;injection h with h
         subst h;split at C<;>first|exact .inl ⟨_,_,_,C⟩|exact .inr ⟨_,_,C⟩
        .exact ih h
      exact c7 _ aa
    have hk:AX g s.g/\s.tmps.n=l.tmps.n/\(Agr T s.g->Aj T s.g->pcv T ac->BK T g ac->∀id V a w Q,Rel T g.n V l a w->
      (∀ ab a' Z,Bu T ab J s a' Z->AH T g.n V l.mem w ab s.mem Z->Q .normal a' Z)->(Code.region id J true).wpIn (fen r) ai P Q a w):=by
     rcases c5 with aa|⟨L,aC,tg,aa⟩|⟨L,aC,aa⟩
     .exact lw (T:=T) (r:=r) (ai:=ai) hm (bc T) hys aa
     .exact iO (T:=T) (r:=r) (ai:=ai) hm bc hys aa
     .exact jJ (T:=T) (r:=r) (ai:=ai) hm bc hys aa
    obtain⟨gr,b4,k⟩:=hk;exact cc gr b4 fun hA a5 z b5 V a w Q u hK=>k hA a5 z b5 id V a w Q u hK
   |false=>
    rw[vA (by simp)] at aa;obtain⟨gr,k⟩:=Jn (T:=T) (r:=r) (ai:=ai) (bc T) hys aa;refine cc gr (X9 aa) fun hA a5 z b5 V a w Q u hK=>?_;refine wpIn_region ?_;rw[List.range_eq_range',<-Array.length_toList];exact k hA a5 z b5 0 V a w Q (fun j=>by simp) ⟨u,fun e he=>by cases he⟩ fun ab a' Z Y b6=>hK ab a' Z Y b6
  |cond c x y=>
   refine a6 (fun _ h=>by cases h) ?_;intro ac l g M al h;simp only[Bj] at h;have b2:∀{V a w},Rel T g.n V l a w->AA T g.n V l.mem w (C0 [] l.tmps c) (a.eval c):=fun u=>GA u (fun c hc=>by cases hc) c;have ch:∀{e:Nat} {x y:Code} {pol:Bool},UP (Bj P call aY a8 aj aK d) e x y ac l g=some (M,al)->
     (∀ V a w,Rel T g.n V l a w->∃t,T e= .bool t/\a.eval c= .bool (t==pol))->∀(X bl:Code),(pol=true->X=x/\bl=y)->(pol=false->X=y/\bl=x)->
     AX g al/\(Agr T al->Cu g ac->D3 T al l.tmps.n M/\(∀o∈M,pcv T o.pc->pcv T ac)/\(Aj T al->pcv T ac->∀ V a w Q,Rel T g.n V l a w->ZS T g.n V l.mem w al.n M Q->(Code.cond c X bl).wpIn (fen r) ai P Q a w)):=by
    intro e x y pol h c6 X bl C O;obtain⟨gr,k⟩:=l6 (ih d x) (ih d y) ac l g M al h;refine⟨gr,fun hA hp=>?_⟩;obtain⟨q1,q2,q3⟩:=k hA hp;refine⟨q1,q2,fun a5 z V a w Q u hO=>?_⟩;obtain⟨t,e1,e2⟩:=c6 V a w u;obtain⟨k1,E⟩:=q3 a5 z V a w Q u hO;rw[e1] at k1 E;refine wpIn_cond e2 ?_;cases pol with
    |true=>
     obtain⟨rfl,rfl⟩:=C rfl;cases t with
     |true=>exact k1 rfl
     |false=>exact E rfl
    |false=>
     obtain⟨rfl,rfl⟩:=O rfl;cases t with
     |true=>exact k1 rfl
     |false=>exact E rfl
   split at h
   .rename_i t ht;obtain⟨gr,k⟩:=ih d _ ac l g M al h;refine⟨gr,fun hA hp=>?_⟩;obtain⟨q1,q2,q3⟩:=k hA hp;refine⟨q1,q2,fun a5 z V a w Q u hO=>?_⟩;have:=b2 u;rw[ht] at this;exact wpIn_cond (t:=t) this (by cases t<;>exact q3 a5 z V a w Q u hO)
   .rename_i e ht;refine ch (pol:=true) h (fun V a w u=>?_) x y (fun _=>⟨rfl,rfl⟩) (fun h=>by cases h);have:=b2 u;rw[ht] at this;obtain⟨_,t,C,O⟩:=this;exact⟨t,C,by rw[O];cases t<;>rfl⟩
   .rename_i e ht;refine ch (pol:=false) h (fun V a w u=>?_) x y (fun h=>by cases h) (fun _=>⟨rfl,rfl⟩);have:=b2 u;rw[ht] at this;obtain⟨_,t,C,O⟩:=this;exact⟨t,C,by rw[O];cases t<;>rfl⟩
   .cases h
  |_=>intro ac l g M al h;simp only[Bj] at h;cases h
theorem K0 (p:P.follows .mixedOrders=true)(d:∀T,CL P T call)(aY:DI)(aK:Nat)(aj:Ys)(T:Tab)(ai:Nat)(c:Code)(u:Ce P T.lp aj):TX P T none ai c (Bj P call aY false aj aK 0 c):=
 (KJ p d aY aK false aj T none ai 0 c (fun _=>rfl) u).mono fun _ _ _ h=>Ql h
end
section
variable {P:Program}{T:Tab}{g:G}{n:Nat}{V :Nat->Option Nat}{w:World}{a:Act}
theorem PM {aZ d:Type}(f:aZ->Sem d)(r:aZ->d)(w:World):∀(l:List aZ),(∀x∈l,(f x).run P w= .ok (r x) w)->(l.mapM f).run P w= .ok (l.map r) w
 |[],_=>by simp
 |x::l,h=>by
  have C:=h x (tl ..);have O:=PM f r w l (fun y p=>h y (th _ p));simp[List.mapM_cons,C,O]
variable{v:Value}{l:Loc}{c:AC}{D:Nat}{o:Obj}
theorem nF {t:TypeId}{u:Value}(h:(Instr.loadAt t v).run P w= .ok u w):(do loadVar t (<-asAddr v):Sem Value).run P w= .ok u w:=by
 unfold Instr.loadAt at h;cases v with
 |pointer p=>
  cases p with
  |some q=>simpa [Instr.sureAddr,asAddr] using h
  |none=>simp[Instr.sureAddr] at h
 |_=>simp[Instr.sureAddr] at h
def NE (tmps:Array Value):ResultVar->Sem Value
 | .tmp t=>pure (tmps.getD t undef)
 | .cell a t=>do loadVar t (<-asAddr (tmps.getD a undef))
theorem ez (M:Agr T g)(d:Rel T g.n V l a w){x:ResultVar}{us:List Ex}(h:Kq P l g x=some (c,us)):
  ∃v,(NE a.tmps x).run P w= .ok v w/\AA T g.n V l.mem w c v:=by
 cases x with
 |tmp t=>
  simp only[Kq,ug,Prod.mk.injEq] at h;obtain⟨rfl,rfl⟩:=h;exact⟨_,rfl,d.at t⟩
 |cell p t=>
  simp only[Kq,tU] at h;obtain⟨r,E,h⟩:=h;split at h
  .rename_i N z;cases h;obtain⟨u,C,O,y⟩:=OV E (by rw[z];exact New.nil _ _) d.mem (d.at p);rw[z] at y;exact⟨u,nF C,y⟩
  .cases h
theorem bP {aF:Func}(M:Agr T g)(N:Rel T g.n V l a w)(h:Rq P aF l g=some c):∃v,(results aF a.tmps).run P w= .ok v w/\AA T g.n V l.mem w c v:=by
 unfold Rq at h;simp only[tX,tU] at h;obtain⟨rs,a1,h⟩:=h;obtain⟨y,al⟩:=ER _ _ _ a1;have z:∀x∈aF.results.toList,∃v,(NE a.tmps x).run P w= .ok v w/\∀c us,Kq P l g x=some (c,us)->AA T g.n V l.mem w c v:=by
  intro x d;obtain⟨i,Y⟩:=uH.1 d;have C:=al i x Y;have:i < rs.length:=by rw[y];exact (tc.1 Y).1
  rw[tZ this] at C;obtain⟨v,O,h3⟩:=ez (c:=rs[i].1) (us:=rs[i].2) M N C.symm;grind
 have a4:∃f:ResultVar->Value,∀x∈aF.results.toList,(NE a.tmps x).run P w= .ok (f x) w/\∀c us,Kq P l g x=some (c,us)->AA T g.n V l.mem w c (f x):=by
  classical
  refine⟨fun x=>if d:x∈aF.results.toList then (z x d).choose else undef,fun x d=>?_⟩;grind
 obtain⟨f,X⟩:=a4;have a2:=PM (P:=P) (NE a.tmps) f w aF.results.toList (fun x d=>(X x d).1);have p:AB T g.n V l.mem w (rs.map (·.1)) (aF.results.toList.map f):=by
  refine AB.of_get (by simp[y]) fun i c u hc hu=>?_;grind
 have a0:(results aF a.tmps).run P w= .ok (if h:(aF.results.toList.map f).toArray.size=1 then (aF.results.toList.map f).toArray[0] else .tuple (aF.results.toList.map f).toArray) w:=by
  have e:(aF.results.mapM (NE a.tmps)).run P w= .ok (aF.results.toList.map f).toArray w:=by
   rw[Array.mapM_eq_mapM_toList];simp[a2]
  have E:results aF a.tmps=(do let W<-aF.results.mapM (NE a.tmps);pure (if h:W.size=1 then W[0] else .tuple W)):=rfl;rw[E,ua];rw[e];simp
 refine⟨_,a0,?_⟩;split at h
 .rename_i aP bb;cases h;obtain⟨u,us,e1,e2,e3⟩:=p;grind
 .rename_i ao;cases h;have a3:(aF.results.toList.map f).toArray.size≠1:=by
   have:=p.length;simp at this⊢;intro C;rw[C] at this;cases rs with
   |nil=>simp at this
   |cons r rs=>
    cases rs with
    |nil=>exact ao _ _ rfl
    |cons=>simp at this
  rw[dif_neg a3];exact⟨_,rfl,p⟩
def pX:Obj->Bool| .deferred _=>true| .mapIter .. =>true|_=>false
def NoC (w:World)(D:Nat):Prop:=∃d,w.heap[D]? =some d/\pX d=true
theorem NoC.no {w:World}(h:NoC w D)(k:w.heap[D]? =some o)(d:pX o=false):False:=by
 obtain⟨p,C,O⟩:=h;grind
theorem jP (h:NoC w D)(z:∀W e p,o≠ .cells W e p){b off:Nat}(d:w.cell? ⟨b,off,none⟩=some v):(w.putObj D o).cell? ⟨b,off,none⟩=some v:=by
 have u:b≠D:=fun e=>by
  subst e;obtain⟨y,C,O⟩:=h;cases y<;>first|(cases O;done)|(simp[World.cell?,C] at d)
 rw[<-d];exact Be (World.putObj_heap_other u) off
mutual
theorem AT.put {D:Nat}{o:Obj}(h:NoC w D)(E:∀W e d,o≠ .cells W e d){ok M:Nat->Nat->Prop}(N:∀b off,ok b off->M b off):∀(k:Kd) (u:U) (v:Value),AT ok w k u v->AT M (w.putObj D o) k u v
 | .int _ _ _,_,_,hh=>hh
 | .bool,_,_,hh=>hh
 | .str,_,_,hh=>hh
 | .val,_,_,hh=>hh
 | .any,_,_,hh=>hh
 | .list ks,u,v,⟨l,h0,C,O,a,I,h3,h4,h5⟩=>by
  refine⟨l,h0,C,O,a,I,h3,h4,fun z=>?_⟩;obtain⟨b,X,p,y⟩:=h5 z;exact⟨b,X,p,fun i us Y=>Af.put h E N ks b _ us (y i us Y)⟩
theorem Af.put {D:Nat}{o:Obj}(h:NoC w D)(d:∀W e y,o≠ .cells W e y){ok M:Nat->Nat->Prop}(p:∀b off,ok b off->M b off):∀(ks:List Kd) (b off:Nat) (us:List U),Af ok w ks b off us->Af M (w.putObj D o) ks b off us
 |[],_,_,_,hh=>hh
 |k::ks,b,off,us,⟨u,us',e,⟨C,v,O,h3⟩,h4⟩=>
  ⟨u,us',e,⟨p b off C,v,jP h d O,AT.put h d p k u v h3⟩,Af.put h d p ks b _ us' h4⟩
end
theorem AP.put {D:Nat}{o:Obj}(h:NoC w D)(d:∀W e y,o≠ .cells W e y){ok M:Nat->Nat->Prop}(p:∀b off,ok b off->M b off):∀{ks:List Kd} {us:List U} {W:List Value},AP ok w ks us W->AP M (w.putObj D o) ks us W
 |[],_,_,hh=>hh
 |k::_,_,_,⟨u,us',v,vs',e1,e2,C,O⟩=>⟨u,us',v,vs',e1,e2,AT.put h d p k u v C,AP.put h d p O⟩
theorem A7.put {D:Nat}{o:Obj}(h:NoC w D)(d:∀W e u,o≠ .cells W e u){ok M:Nat->Nat->Prop}(p:∀b off,ok b off->M b off){ks:List Kd}:∀{l:List (List U)} {aH:List (List Value)},A7 ok w ks l aH->A7 M (w.putObj D o) ks l aH
 |[],_,hh=>hh
 |_::_,_,⟨W,vss',e,C,O⟩=>⟨W,vss',e,AP.put h d p C,A7.put h d p O⟩
theorem Ab.put {D:Nat}{o:Obj}(h:NoC w D)(u:∀W e d,o≠ .cells W e d){ok M:Nat->Nat->Prop}(y:∀b off,ok b off->M b off){ks:List Kd}{l:List (List U)}{W:List Value}(p:Ab ok w ks l W):Ab M (w.putObj D o) ks l W:=by
 obtain⟨aH,C,O⟩:=p;exact⟨aH,C,A7.put h u y O⟩
theorem Bw.put {D:Nat}{o:Obj}(h:NoC w D)(u:∀W e d,o≠ .cells W e d){ok M:Nat->Nat->Prop}(y:∀b off,ok b off->M b off){ks:List Kd}{a7:Bool}{us:List U}{v:Value}(p:Bw ok w ks a7 us v):Bw M (w.putObj D o) ks a7 us v:=by
 obtain⟨W,C,O⟩:=p;exact⟨W,AP.put h u y C,O⟩
section
variable {m:Mem}{D:Nat}{o:Obj}
theorem AY.put {b off:Nat}(h:AY T V m w b off):AY T V m (w.putObj D o) b off:=⟨by rw[World.putObj_size];exact h.1,h.2.1,h.2.2⟩
mutual
theorem AA.put (h:NoC w D)(d:∀W e Y,o≠ .cells W e Y):∀(c:AC) (v:Value),AA T n V m w c v->AA T n V m (w.putObj D o) c v
 | .any,_,_=>trivial
 | .anyc,_,hh=>hh
 | .on _ a,v,hh=>⟨hh.1,fun N=>AA.put h d a v (hh.2 N)⟩
 | .gd _ a,v,hh=>⟨hh.1,fun N=>AA.put h d a v (hh.2.1 N),hh.2.2⟩
 | .cb _,_,hh=>hh
 | .b _,_,hh=>hh
 | .nb _,_,hh=>hh
 | .ci _ _,_,hh=>hh
 | .i _ _ _ _,_,hh=>hh
 | .cv _,_,hh=>hh
 | .v _,_,hh=>hh
 | .s _,_,hh=>hh
 | .ptr _ _,_,hh=>hh
 | .pix _ _ _ _ _ _,_,hh=>hh
 | .ro x ks,v,⟨h0,C⟩=>⟨h0,AT.put h d (fun _ _ aa=>AY.put aa) _ _ _ C⟩
 | .rp x t off ks,v,⟨h0,j,b,o',us,C,O,h3,h4,h5⟩=>⟨h0,j,b,o',us,C,O,h3,h4,Af.put h d (fun _ _ aa=>AY.put aa) _ _ _ _ h5⟩
 | .vec id x ks,v,⟨h0,C,O,h3⟩=>⟨h0,C,AT.put h d (fun _ _ aa=>AY.put aa) _ _ _ O,fun ah e u=>by
   rcases h3 ah e u with⟨X,ae⟩|⟨b,I,W,X,ae,p,M⟩
   .exact .inl ⟨X,ae⟩
   .have z:b≠D:=fun e=>by subst e;exact h.no p rfl
    exact .inr ⟨b,I,W,X,ae,by rw[World.putObj_heap_other z];exact p,M⟩⟩
 | .fn f first I,v,⟨W,us,C,O,h3⟩=>⟨W,us,C,AB.put h d first W O,AB.put h d I us h3⟩
 | .sel x alts,v,⟨h0,j,C,O,h3⟩=>⟨h0,j,C,O,Am.put h d alts j.toNat v h3⟩
 | .yl _,_,hh=>hh
 | .asl _ _ _,_,hh=>hh
 | .rsv id x ks,v,⟨h0,C,O,h4,h3⟩=>⟨h0,C,O,h4,fun ah e u=>by
   rcases h3 ah e u with⟨X,ae⟩|⟨b,len,I,W,X,ae,l0,p,M⟩
   .exact .inl ⟨X,ae⟩
   .have z:b≠D:=fun e=>by subst e;exact h.no p rfl
    exact .inr ⟨b,len,I,W,X,ae,l0,by rw[World.putObj_heap_other z];exact p,M⟩⟩
 | .mr id y,v,⟨h0,j,a,I,k1,E,k3,k4,k5⟩=>⟨h0,j,a,I,k1,E,k3,k4,fun x ks e u=>by
   rcases k5 x ks e u with X|⟨b,W,X,ae,p,M⟩
   .exact .inl X
   .have z:b≠D:=fun e=>by subst e;exact h.no p rfl
    exact .inr ⟨b,W,X,ae,by rw[World.putObj_heap_other z];exact p,M⟩⟩
 | .mp _ _ _ _ _,_,hh=>hh
 | .mv _,_,hh=>hh
 | .agg l,v,⟨W,C,O⟩=>⟨W,C,AB.put h d l W O⟩
 | .tup l,v,⟨W,C,O⟩=>⟨W,C,AB.put h d l W O⟩
theorem AB.put (h:NoC w D)(d:∀W e p,o≠ .cells W e p):∀(l:List AC) (W:List Value),AB T n V m w l W->AB T n V m (w.putObj D o) l W
 |[],_,hh=>hh
 |c::l,W,⟨u,us,C,O,h3⟩=>⟨u,us,C,AA.put h d c u O,AB.put h d l us h3⟩
theorem Am.put (h:NoC w D)(d:∀W e p,o≠ .cells W e p):∀(l:List AC) (j:Nat) (v:Value),Am T n V m w l j v->Am T n V m (w.putObj D o) l j v
 |[],_,_,hh=>hh.elim
 |c::_,0,v,hh=>AA.put h d c v hh
 |_::l,j+1,v,hh=>Am.put h d l j v hh
end
theorem AG.put (h:NoC w D)(M:∀W e fr,o≠ .cells W e fr)(hm:AG T n V m w):AG T n V m (w.putObj D o):=by
 refine⟨fun id=>?_,hm.inj,fun b off d=>hm.fr b off (by rw[World.putObj_size] at d;exact d)⟩;have d:=hm.blk id;cases hx:m.at id with
 |pad=>trivial
 |gone=>trivial
 |cells l e=>
  rw[hx] at d;obtain⟨b,W,C,O,p⟩:=d;have z:b≠D:=fun e=>by subst e;exact h.no O rfl
  exact⟨b,W,C,by rw[World.putObj_heap_other z];exact O,AB.put h M l W p⟩
 |tok x ks e=>
  rw[hx] at d;obtain⟨N,l,C,O⟩:=d;refine⟨N,l,C,?_⟩;rcases O with O|⟨b,W,O,p,u⟩
  .exact .inl O
  .have z:b≠D:=fun e=>by subst e;exact h.no p rfl
   exact .inr ⟨b,W,O,by rw[World.putObj_heap_other z];exact p,u⟩
 |lp s st=>
  rw[hx] at d;obtain⟨b,q,C,O,p,u,E,X,Y,j,h8,h9⟩:=d;have z:b≠D:=fun e=>by subst e;exact h.no O rfl
  exact⟨b,q,C,by rw[World.putObj_heap_other z];exact O,p,u,E,X,fun i c hc=>AA.put h M c _ (Y i c hc),j,AA.put h M st _ h8,h9⟩
 |mrow x y ks e=>
  rw[hx] at d;obtain⟨N,l,C,O,p,u⟩:=d;refine⟨N,l,C,O,p,?_⟩;rcases u with u|⟨b,W,us,u,E,X,Y⟩
  .exact .inl u
  .have z:b≠D:=fun e=>by subst e;exact h.no E rfl
   exact .inr ⟨b,W,us,u,by rw[World.putObj_heap_other z];exact E,Ab.put h M (fun _ _ aa=>AY.put aa) X,Y⟩
 |mapb x ai ka aN aU=>
  rw[hx] at d;obtain⟨N,l,b,aw,a6,C,O,p,u,E,X,Y⟩:=d;have z:b≠D:=fun e=>by subst e;exact h.no p rfl
  exact⟨N,l,b,aw,a6,C,O,by rw[World.putObj_heap_other z];exact p,u,E,fun i us e h8 h9=>by
   obtain⟨u1,u2,g1,ao,g3⟩:=X i us e h8 h9;exact⟨u1,u2,g1,Bw.put h M (fun _ _ aa=>AY.put aa) ao,Bw.put h M (fun _ _ aa=>AY.put aa) g3⟩,Y⟩
structure DO (T:Tab) (n:Nat) (ρ :Nat->Option Nat) (m:Mem) (B:Nat) (w w':World):Prop where
 os:w'.os=w.os
 tape:w'.tape=w.tape
 output:w'.output=w.output
 size:w'.heap.size=w.heap.size
 low:∀k,k < B->w'.heap[k]? =w.heap[k]?
 holds:∀c v,AA T n ρ m w c v->AA T n ρ m w' c v
 mem:AG T n ρ m w->AG T n ρ m w'
theorem DO.refl (T:Tab)(n:Nat)(V :Nat->Option Nat)(m:Mem)(B:Nat)(w:World):DO T n V m B w w:=⟨rfl,rfl,rfl,rfl,fun _ _=>rfl,fun _ _ h=>h,fun h=>h⟩
theorem DO.trans {B:Nat}{Z al:World}(h:DO T n V m B w Z)(k:DO T n V m B Z al):DO T n V m B w al:=
 ⟨k.os.trans h.os,k.tape.trans h.tape,k.output.trans h.output,k.size.trans h.size,fun i Y=>(k.low i Y).trans (h.low i Y),fun c v d=>k.holds c v (h.holds c v d),fun d=>k.mem (h.mem d)⟩
theorem DO.put {B:Nat}(h:NoC w D)(y:B<=D)(p:∀W e u,o≠ .cells W e u):DO T n V m B w (w.putObj D o):=
 ⟨rfl,rfl,rfl,World.putObj_size,fun k z=>World.putObj_heap_other (by omega),fun c v d=>AA.put h p c v d,fun d=>d.put h p⟩
theorem AH.after {n0:Nat}{aT:Nat->Option Nat}{aM:Mem}{aG Z:World}(h:AH T n0 aT aM aG V m w)(z:AG T n0 aT aM aG)(k:DO T n V m aG.heap.size w Z):AH T n0 aT aM aG V m Z where
 os:=k.os.trans h.os
 tape:=k.tape.trans h.tape
 output:=k.output.trans h.output
 size:=by rw[k.size];exact h.size
 mlen:=h.mlen
 rho:=h.rho
 untr:=h.untr
 fresh:=h.fresh
 old:=fun i Y N=>(k.low i Y).trans (h.old i Y N)
 tok:=fun id x ks e u=>by
  have lt:∀b, aT id=some b->b < aG.heap.size:=fun b d=>z.lt (by rw[u];rfl) d;rcases h.tok id x ks e u with⟨C,O,p⟩|⟨C,O⟩
  .exact .inl ⟨C,O,fun b d=>(k.low b (lt b d)).trans (p b d)⟩
  .exact .inr ⟨fun b d off X=>(Be (k.low b (lt b d)) off).trans (C b d off X),O⟩
 row:=fun id x y ks e u=>by
  have lt:∀b, aT id=some b->b < aG.heap.size:=fun b d=>z.lt (by rw[u];rfl) d;rcases h.row id x y ks e u with C|⟨aA,aS,ah,C,O,⟨p,E,M⟩|p⟩
  .exact .inl C
  .exact .inr ⟨aA,aS,ah,C,O,.inl ⟨p,E,fun b W d hv=>by rw[k.low b (lt b d)];exact M b W d hv⟩⟩
  .exact .inr ⟨aA,aS,ah,C,O,.inr p⟩
theorem Mn {aF:Func}{tmps:Array Value}{R:Ending->World->Prop}{ai B:Nat}:∀(d:List Nat) (w:World),d.Nodup->(∀D∈d,B<=D/\w.heap[D]? =some (.deferred (some [])))->
  (∀Z,DO T n V m B w Z->∃v,(results aF tmps).run P Z= .ok v Z/\R (.returned v) Z)->
  LeavesInM (fen none) ai P aF tmps R (d.map fun D=>{ target:= .collected D,args:= #[] }) .returning w
 |[],w,_,_,hK=>hK w (DO.refl _ _ _ _ _ _)
 |D::d,w,hn,hD,hK=>by
  obtain⟨C,O⟩:=hD D (tl ..);have y:DO T n V m B w (w.putObj D (.deferred none)):=DO.put ⟨_,O,rfl⟩ C (fun _ _ _ h=>by cases h);refine⟨fun h=>(by cases h),.inl ⟨D,_,rfl,run_takeDeferred O,?_⟩⟩;refine Mn d _ (List.nodup_cons.1 hn).2 (fun u p=>?_) fun Z z=>hK Z (y.trans z);obtain⟨M,E⟩:=hD u (th _ p);refine⟨M,?_⟩;rw[World.putObj_heap_other (fun e=>(List.nodup_cons.1 hn).1 (by rw[<-e];exact p))];exact E
end
theorem QY:∀(args:List AC) (i:Nat) (t:Tr) (j:Nat) (c:AC),(MT i args t).get j=some c->(∃k,j=i+k/\args[k]? =some c)\/t.get j=some c
 |[],i,t,j,c,h=> .inr h
 |a::args,i,t,j,c,h=>by
  simp only[MT] at h;rcases QY args (i+1) _ j c h with⟨k,C,O⟩|C
  .exact .inl ⟨k+1,by omega,by simpa using O⟩
  .rcases Tr.get_setF _ _ _ _ _ _ C with⟨d,E⟩|⟨_,E⟩
   .exact .inl ⟨0,by omega,by simpa using E⟩
   .exact .inr E
def aH (P:Program)(aF:Func)(k:XK)(a:Act)(w:World)(v:Value)(Z:World):Prop:=(k= .ret\/k= .normal)/\Z=w/\(results aF a.tmps).run P w= .ok v w
theorem V3 {aF:Func}:∀o g c m,JU P aF o g=some (c,m)->Agr T g->∀ V a w,True->Rel T g.n V o.l a w->∃v Z ab,aH P aF o.k a w v Z/\AH T g.n V o.l.mem w ab m Z/\AG T g.n ab m Z/\AA T g.n ab m Z c v:=by
 intro o g c m h y V a w _ d;unfold JU at h;split at h
 .rename_i z;simp only[uC] at h;obtain⟨aP,C,O⟩:=h;cases O;obtain⟨v,p,u⟩:=bP y d C;exact⟨v,w, V,⟨z,rfl,p⟩,AH.refl _ _ _ _ _,d.mem,u⟩
 .cases h
theorem Rh {aF:Func}:∀{M:List BA} {g al:G} {c:AC} {ad:Mem},Cm (JU P aF) M g=some (c,ad,al)->∀o∈M,o.k= .ret\/o.k= .normal
 |[],g,al,c,ad,h=>by simp only[Cm] at h;cases h
 |[o],g,al,c,ad,h=>by
  simp only[Cm,tX,tU] at h;obtain⟨⟨aP,aM⟩,h,_⟩:=h;intro u d;simp at d;subst d;unfold JU at h;split at h
  .rename_i p;exact p
  .cases h
 |o::o2::os,g,al,c,ad,h=>by
  simp only[Cm,tX,tU] at h;obtain⟨⟨y,ag,z⟩,C,⟨aP,aM⟩,h,_⟩:=h;intro u d;cases d with
  |head=>
   unfold JU at h;split at h
   .rename_i p;exact p
   .cases h
  |tail _ d=>exact Rh (M:=o2::os) C u d
theorem dR {call:Au}{Aa:FuncId->DI}{aK:Nat}(hm:P.follows .mixedOrders=true)(bc:∀T,CL P T call)(T:Tab):CL P T (eF P call Aa aK):=by
 intro aj k args ac m g c ad al a0 h;unfold eF at h;simp only[tX,tU] at h;obtain⟨aF,bj,body,bb,h⟩:=h;split at h
 .cases h
 rename_i bi;simp only[uN,not_or,Bool.not_eq_true] at bi;obtain⟨cl,ba⟩:=bi;have c6:args.length<=aF.ntmps:=by
  rcases tu aF.ntmps args.length with bm|cf
  .rw[<-Nat.blt_eq] at bm;rw[bm] at ba;cases ba
  .exact cf
 simp only[tU] at h;obtain⟨⟨M,y⟩,hc,h⟩:=h;simp only at h;generalize c1:({ aj with mu:=(Aa k).mu }:Ys)=ys1 at hc;have a0:Ce P T.lp ys1:=by subst c1;exact a0
 have a7:=(K0 hm bc (Aa k) aK ys1 T 0 body a0 ac _ g M y hc).1;have a2:=Hi h;refine⟨a7.trans a2,fun hA cs hp cv V w W b0 bt=>⟨⟨aF,bj,by rw[bb];rfl,cl⟩,?_⟩⟩;let p:=T.atBase w.heap.size;have d:=JE T w.heap.size;have z:AG p g.n V m w:=bt.tab (d _);have c0:AB p g.n V m w args W:=AB.tab (d _) (fun b off hh=>(d _).safe bt hh) _ _ b0;obtain⟨_,k1⟩:=K0 hm bc (Aa k) aK ys1 p 0 body a0 ac _ g M y hc;obtain⟨q1,q2,q3⟩:=k1 (OP (hA.of a2)) cv.lt;refine (callsIn_wide (n:=0)).1 (callsIn_of_wp_marks (F:=fen none) bj bb trivial ?_);have cj:=b0.length;have hR:Rel p g.n V ⟨Gw aF.ntmps args,m⟩ { tmps:=(W:List Value).toArray++Array.replicate (aF.ntmps - (W:List Value).toArray.size) undef,defers:=[] } w:=by
  refine⟨DE.nil _ _ _ (tY _),?_,fun i c Y=>?_,z⟩
  .simp[Gw,cj];omega
  .have ch:(MT 0 args .nil).get i=some c:=by
    have:(Gw aF.ntmps args).get i=(MT 0 args .nil).get i:=by simp[Gw,AV.get,BF]
    rw[<-this];exact Y
   rcases QY _ _ _ _ _ ch with⟨j,C,O⟩|C
   .rw[tj] at C;subst C;obtain⟨u,h3,h4⟩:=c0.get O;have:((W:List Value).toArray++Array.replicate (aF.ntmps - (W:List Value).toArray.size) undef).getD i undef=u:=by
     have ci:i < W.length:=(tc.1 h3).1;simp[tf,Array.getElem?_append,ci];grind
    rw[this];exact h4
   .simp[Tr.get] at C
 refine q3 (Tc (cs.of a2)) (OI.2 hp) V _ w _ hR fun o ho cx ab a' Z aa X=>?_;have ce:LeavesInM (fen none) 0 P aF a'.tmps (GY T g V m w c ad al) a'.defers .returning Z:=by
  obtain⟨d0,Ds,d1,d2,d3⟩:=X.defers;rw[d1];refine Mn (T:=p) (n:=y.n) (V := ab) (m:=o.l.mem) (B:=w.heap.size) Ds Z d2 (fun D hD=>⟨(d3 D hD).1,(d3 D hD).2.1⟩) fun w2 ao=>?_;have cy:Rel p y.n ab o.l { tmps:=a'.tmps,defers:=[] } w2:=⟨DE.nil _ _ _ (by rw[ao.size];exact d0),X.size,fun i c Y=>ao.holds _ _ (X.tmps i c Y),ao.mem X.mem⟩;obtain⟨v,w3, aW,⟨_,rfl,e1⟩,e2,e3,e4⟩:=Ot (T:=p) (I:=fun _=>True) (E:=aH P aF) (N:=(Gw aF.ntmps args).n) V3 h (OP hA) q1 o ho cx ab _ w2 trivial cy;refine⟨v,e1,v, aW,rfl,?_,e3.tab (d _).symm,AA.tab (d _).symm (fun b off hh=>(d _).symm.safe e3 hh) _ _ e4⟩;have st:=(aa.after z ao).trans z a7.n e2;exact AH.tab (d _).symm z st (fun _ _ _ _ _=>rfl)
 rcases Rh h o ho with hk|hk<;>rw[hk]<;>exact ce
theorem HS {bf:FuncId->Option Au}{Aa:FuncId->DI}{aK:Nat}(y:P.follows .mixedOrders=true)(u:∀f c,bf f=some c->∀T,∀aj k args ac m g aV ad al,k=f->Ce P T.lp aj->c aj k args ac m g=some (aV,ad,al)->AX g al/\(Agr T al->Aj T al->pcv T ac->BK T g ac->∀ V w W,AB T g.n V m w args W->AG T g.n V m w->
  (∃aF,P.funcs[k]? =some aF/\aF.body.isSome=true/\(aF.name== "runtime.NumGoroutine")=false)/\Calls P k (W:List Value).toArray w (GY T g V m w aV ad al))):
  ∀(d:Nat) (T:Tab),CL P T (FL P bf Aa aK d)
 |0,T=>fun aj k args ac m g c ad al _ h=>by simp only[FL] at h;cases h
 |d+1,T=>by
  intro aj k args ac m g c ad al z h;simp only[FL] at h;cases p:bf k with
  |some C=>
   rw[p] at h;exact u k C p T aj k args ac m g c ad al rfl z h
  |none=>
   rw[p] at h;exact dR y (HS y u d) T aj k args ac m g c ad al z h
end
end
section
open Go Go.RowKit Go.Deep
def Jh (P:Program)(d:TypeId->Option (List Kd)):List Field->Nat->Option (List Kd)
 |[],_=>some []
 |f::fs,off=>do
  let ks<-d f.type
  if Nat.beq f.offset off&&Nat.beq ks.length (P.cellsOf f.type) then
   let r<-Jh P d fs (off+ks.length)
   some (ks++r)
  else none
def EZ (P:Program):Nat->TypeId->Option (List Kd)
 |0,_=>none
 |d+1,t=>
  match P.underlying t with
  |some .bool=>some [.bool]
  |some (.int k)=>some [.int k k.min k.max]
  |some .string=>some [.str]
  |some (.slice e)=>do
   let ks<-EZ P d e
   if Nat.beq ks.length (P.cellsOf e)&&Nat.blt 0 ks.length then some [.list ks] else none
  |some (.struct fs)=>do
   let ks<-Jh P (EZ P d) fs.toList 0
   if Nat.beq ks.length (P.cellsOf t) then some ks else none
  |some (.array n e)=>do
   let ks<-EZ P d e
   if Nat.beq ks.length (P.cellsOf e)&&Nat.beq (n*ks.length) (P.cellsOf t) then some (List.replicate n ks).flatten else none
  |_=>none
inductive DZ {H:Type} (B:Nat):DataW H->Prop where
 |lit {l:Lit} (h:∀s,l= .string s->s.length<=B):DZ B (.lit l)
 |nil:DZ B .nil
 |slice {l s:List (DataW H)} (hl:l.length<=B) (h:∀d∈l,DZ B d):DZ B (.slice l s)
 |agg {l:List (DataW H)} (h:∀d∈l,DZ B d):DZ B (.agg l)
 |ptr (d:DataW H):DZ B (.ptr d)
 |iface (t:String) (d:DataW H):DZ B (.iface t d)
 |map (es:List (Lit × DataW H)):DZ B (.map es)
 |held (h:H):DZ B (.held h)
mutual
def KdU (B:Nat):Kd->U->Prop
 | .int _ ap Y,u=>∃n,u= .int n/\ap<=n/\n<=Y
 | .bool,u=>∃b,u= .bool b
 | .str,u=>∃s,u= .str s/\s.size<=B
 | .val,_=>True
 | .any,_=>True
 | .list ks,u=>∃l:List (List U),u= .list l/\l.length<=B/\∀(i:Nat) (us:List U),l[i]? =some us->AK B ks us
def AK (B:Nat):List Kd->List U->Prop
 |[],us=>us=[]
 |k::ks,us=>∃u d,us=u::d/\KdU B k u/\AK B ks d
end
theorem AK.append {B:Nat}:∀{ks ah:List Kd} {us d:List U},AK B ks us->AK B ah d->AK B (ks++ah) (us++d)
 |[],_,us,d,h,h'=>by rw[show us=[] from h];exact h'
 |k::ks,_,us,d,⟨u,us1,e,C,O⟩,h'=>by
  subst e;exact⟨u,us1++d,rfl,C,AK.append O h'⟩
def C7 (ok:Nat->Nat->Prop)(w:World):List Kd->List U->List Value->Prop
 |[],[],[]=>True
 |k::ks,u::us,c::av=>AT ok w k u c/\C7 ok w ks us av
 |_,_,_=>False
section
variable {ok:Nat->Nat->Prop}{w:World}
theorem C7.len:∀{ks:List Kd} {us:List U} {av:List Value},C7 ok w ks us av->us.length=ks.length/\av.length=ks.length
 |[],[],[],_=>⟨rfl,rfl⟩
 |_::_,_::_,_::_,h=>by
  obtain⟨C,O⟩:=C7.len h.2;simp[C,O]
 |[],_::_,_,h=>by cases h
 |[],[],_::_,h=>by cases h
 |_::_,[],_,h=>by cases h
 |_::_,_::_,[],h=>by cases h
theorem C7.append:∀{ks ah:List Kd} {us p:List U} {av d:List Value},C7 ok w ks us av->C7 ok w ah p d->C7 ok w (ks++ah) (us++p) (av++d)
 |[],_,[],_,[],_,_,h=>h
 |_::_,_,_::_,_,_::_,_,h,h'=>⟨h.1,C7.append h.2 h'⟩
 |[],_,_::_,_,_,_,h,_=>by cases h
 |[],_,[],_,_::_,_,h,_=>by cases h
 |_::_,_,[],_,_,_,h,_=>by cases h
 |_::_,_,_::_,_,[],_,h,_=>by cases h
theorem C7.mem {b:Nat}:∀{ks:List Kd} {us:List U} {av:List Value} {off:Nat},C7 ok w ks us av->(∀j c,av[j]? =some c->ok b (off+j)/\w.cell? ⟨b,off+j,none⟩=some c)->Af ok w ks b off us
 |[],[],[],_,_,_=>rfl
 |k::ks,u::us,c::av,off,h,hm=>by
  obtain⟨au,ag⟩:=hm 0 c rfl;refine⟨u,us,rfl,⟨au,c,ag,h.1⟩,C7.mem h.2 fun j d hd=>?_⟩;have:=hm (j+1) d (by simpa using hd);rw[show off+(j+1)=off+1+j by omega] at this;exact this
 |[],_::_,_,_,h,_=>by cases h
 |[],[],_::_,_,h,_=>by cases h
 |_::_,[],_,_,h,_=>by cases h
 |_::_,_::_,[],_,h,_=>by cases h
end
theorem UN {w:World}{base n:Nat}{a:Addr}{av:List Value}(h:w.cells? base a n=some av):av.length=n/\∀j,j < n->w.cell? (a.add j)=av[j]? :=by
 unfold World.cells? at h;split at h
 .obtain⟨C,O⟩:=ER _ _ _ h;grind
 .cases h
section
variable {H:Type}{enc:TypeId × Value->H}{P:Program}{w:World}{base:Nat}{aQ:Nat->Bool}{bd:Bool}{B:Nat}
theorem Bs (hB:B<=AD):∀(d:Nat) {t:TypeId} {ks:List Kd} {aK:Nat} {av:List Value} {x:DataW H × List MemPlace},EZ P d t=some ks->DataW.trod enc P w base aQ bd aK t av=some x->DZ B x.1->
  ∃us,C7 (fun b _=>b < w.heap.size) w ks us av/\AK B ks us
 |0,t,ks,aK,av,x,p,_,_=>by simp[EZ] at p
 |d+1,t,ks,aK,av,x,p,h,aa=>by
  simp only[EZ] at p;split at p
  .rename_i z;obtain⟨b,rfl,rfl⟩:=DataW.trod_bool z h;cases p;exact⟨[.bool b],⟨⟨b,rfl,rfl⟩,trivial⟩,_,_,rfl,⟨b,rfl⟩,rfl⟩
  .rename_i k z;obtain⟨n,rfl,rfl,cy⟩:=DataW.trod_int z h;cases p;have hb:k.min<=n/\n<=k.max:=by simpa [Lit.wf] using cy
   exact⟨[.int n],⟨⟨n,rfl,rfl,hb⟩,trivial⟩,_,_,rfl,⟨n,rfl,hb⟩,rfl⟩
  .rename_i z;obtain⟨s,rfl,rfl,_⟩:=DataW.trod_string z h;cases p;cases aa with
   |lit aa=>
   have hb:=aa _ rfl;have b6:s.size<=B:=by simpa using hb
   exact⟨[.str s],⟨⟨s,rfl,rfl,t8 b6 hB⟩,trivial⟩,_,_,rfl,⟨s,rfl,b6⟩,rfl⟩
  .
   rename_i e z;simp only[tX,tU] at p;obtain⟨u,he,p⟩:=p;split at p
   .rename_i y;rw[tV] at y;have a9:=tW y.1;have b8:=BC y.2;cases p;rcases open_slice z h with⟨rfl,rfl⟩|⟨a,len,I,m,n,D,Pl,rfl,_,bm,_,hm,rfl,cj⟩
    .exact⟨[.list []],⟨⟨[],rfl,uQ _,fun _=>rfl,none,0,rfl,tY _,fun h=>absurd h (by simp)⟩,trivial⟩,_,_,rfl,⟨[],rfl,uQ _,fun i us Y=>by simp at Y⟩,rfl⟩
    .have c6:len<=m:=by rw[hm];split<;>omega
     cases aa with
     |slice hl a2=>
     have b4:∀i,i < len->∃us,∃M,w.cells? base (a.add (i*P.cellsOf e)) (P.cellsOf e)=some M/\C7 (fun b _=>b < w.heap.size) w u us M/\AK B u us:=fun i Y=>by
      obtain⟨M,C,O⟩:=cj i (by omega);obtain⟨us,N⟩:=Bs hB d he O (a2 _ (vG.2 ⟨i,by simp[Y],rfl⟩));exact⟨us,M,C,N⟩
     have c2:∃f:Nat->List U,∀i,i < len->∃M,w.cells? base (a.add (i*P.cellsOf e)) (P.cellsOf e)=some M/\C7 (fun b _=>b < w.heap.size) w u (f i) M/\AK B u (f i):=by
      classical
      refine⟨fun i=>if Y:i < len then (b4 i Y).choose else [],fun i Y=>?_⟩;simp only[Y,dif_pos];exact (b4 i Y).choose_spec
     obtain⟨f,hf⟩:=c2;refine⟨[.list ((List.range len).map f)],⟨⟨(List.range len).map f,rfl,by simp at hl⊢;omega,fun h0=>?_,some a,I,by simp,by simpa using bm,fun h0=>?_⟩,trivial⟩,_,_,rfl,⟨_,rfl,by simpa using hl,fun i us Y=>?_⟩,rfl⟩
     .rw[h0] at b8;simp at b8
     .have h0:0 < len:=by simpa using h0
      have ca:a.spot=none:=by
       obtain⟨M,C,_⟩:=hf 0 h0;obtain⟨k1,E⟩:=UN C;have X:=E 0 (by omega);rw[tZ (by omega)] at X;simp only[Nat.zero_mul,Addr.add,if_true] at X;unfold World.cell? at X;split at X
       .split at X
        .cases X
        .rename_i cx;simpa using cx
       .cases X
      obtain⟨bb,ao,c4⟩:=a;simp only at ca;subst ca;have ch:∀i j,((⟨bb,ao,none⟩:Addr).add i).add j=⟨bb,ao+i+j,none⟩:=fun i j=>by
       unfold Addr.add;split<;>split<;>simp_all
      refine⟨bb,ao,rfl,fun i us Y=>?_⟩;rw[uP,uC] at Y;obtain⟨i',bl,rfl⟩:=Y;obtain⟨bs,rfl⟩:=tc.1 bl;simp only[List.getElem_range];have a7:i < len:=by simpa using bs
      obtain⟨M,C,O,_⟩:=hf i a7;obtain⟨k1,E⟩:=UN C;refine C7.mem O fun j c hj=>?_;have c5:j < M.length:=(tc.1 hj).1;have y:=E j (by omega);rw[hj,ch,<-a9] at y;refine⟨?_,y⟩;unfold World.cell? at y;split at y
      .rename_i hb;exact (te.1 hb).1
      .cases y
     .rw[uP,uC] at Y;obtain⟨i',bl,rfl⟩:=Y;obtain⟨bs,rfl⟩:=tc.1 bl;simp only[List.getElem_range];obtain⟨_,_,_,h3⟩:=hf i (by simpa using bs);exact h3
   .cases p
  .
   rename_i fs z;simp only[tX,tU] at p;obtain⟨ah,hf,p⟩:=p;split at p
   .rename_i y;have a9:=tW y;cases p;obtain⟨xs,n,rfl,rfl,ci,cb,bt⟩:=DataW.trod_struct z h;cases aa with
    |agg a2=>
    have b0:∀(l:List Field) (off i:Nat) (ks:List Kd),Jh P (EZ P d) l off=some ks->(∀j f,l[j]? =some f->fs[i+j]? =some f)->off+ks.length<=av.length->∃us,C7 (fun b _=>b < w.heap.size) w ks us ((av.drop off).take ks.length)/\AK B ks us:=by
     intro l;induction l with
     |nil=>intro off i ks p _ _;simp only[Jh] at p;cases p;exact⟨[],by simp[C7],rfl⟩
     |cons f l ih=>
      intro off i ks p hl bm;simp only[Jh,tX,tU] at p;obtain⟨kf,cs,p⟩:=p;split at p
      .rename_i y;rw[tV] at y;have e1:=tW y.1;have e2:=tW y.2;simp only[tU] at p;obtain⟨kr,cu,p⟩:=p;cases p;rw[tq] at bm;have b7:=hl 0 f rfl;have a7:i < xs.length:=by rw[cb];exact (te.1 (by simpa using b7)).1
       have hx:=bt i f (by simpa using b7);rw[tZ a7] at hx;obtain⟨b2,a3⟩:=Bs hB d cs hx (a2 _ (vG.2 ⟨_,um a7,rfl⟩));obtain⟨b3,a4⟩:=ih (off+kf.length) (i+1) kr cu (fun j g hg=>by have:=hl (j+1) g (by simpa using hg);rw[show i+(j+1)=i+1+j by omega] at this;exact this) (by omega);refine⟨b2++b3,?_,a3.2.append a4.2⟩;have:=a3.1.append a4.1;rw[e1,<-e2] at this;have e3:(av.drop off).take (kf++kr).length=(av.drop off).take kf.length++(av.drop (off+kf.length)).take kr.length:=by
        rw[tq,List.take_add,ut]
       rw[e3];exact this
      .cases p
    obtain⟨us,N⟩:=b0 fs.toList 0 0 ks hf (fun j f hj=>by simpa using hj) (by omega);refine⟨us,?_,N.2⟩;have:(av.drop 0).take ks.length=av:=by rw[List.drop_zero,List.take_of_length_le (by omega)]
    rw[this] at N;exact N.1
   .cases p
  .
   rename_i n e z;simp only[tX,tU] at p;obtain⟨u,he,p⟩:=p;split at p
   .rename_i y;rw[tV] at y;have a9:=tW y.1;have c7:=tW y.2;cases p;obtain⟨xs,m,rfl,rfl,ci,cb,bt⟩:=DataW.trod_array z h;cases aa with
    |agg a2=>
    have b0:∀(j i:Nat),i+j<=n->∃us,C7 (fun b _=>b < w.heap.size) w (List.replicate j u).flatten us ((av.drop (i*u.length)).take (j*u.length))/\AK B (List.replicate j u).flatten us:=by
     intro j;induction j with
     |zero=>intro i _;exact⟨[],by simp[C7],rfl⟩
     |succ j ih=>
      intro i Y;have hx:=bt i (by omega);rw[tZ (by omega)] at hx;obtain⟨b2,a3⟩:=Bs hB d he hx (a2 _ (vG.2 ⟨_,um (by omega),rfl⟩));obtain⟨b3,a4⟩:=ih (i+1) (by omega);rw[List.replicate_succ,vF];refine⟨b2++b3,?_,a3.2.append a4.2⟩;have:=a3.1.append a4.1;rw[<-a9] at this;have e3:(av.drop (i*u.length)).take ((j+1)*u.length)=(av.drop (i*u.length)).take u.length++(av.drop ((i+1)*u.length)).take (j*u.length):=by
       rw[show (j+1)*u.length=u.length+j*u.length by rw[Nat.succ_mul];omega,List.take_add,ut,show (i+1)*u.length=i*u.length+u.length by rw[Nat.succ_mul]]
      rw[e3];exact this
    obtain⟨us,N⟩:=b0 n 0 (by omega);refine⟨us,?_,N.2⟩;have:(av.drop (0*u.length)).take (n*u.length)=av:=by rw[Nat.zero_mul,List.drop_zero,List.take_of_length_le (by omega)]
    rw[this] at N;exact N.1
   .cases p
  .cases p
end
end
section
open Go Go.RowKit
def Qb:Nat->List Kd->List AC
 |_,[]=>[]
 |x,k::ks=>QJ k x::Qb (x+1) ks
def pQ (P:Program)(t:TypeId)(x:Nat)(ks:List Kd):Option AC:=
 if CB P t then some (.agg (Qb x ks)) else match ks with
  |[k]=>some (QJ k x)
  |_=>none
def Jj (P:Program)(d:Nat):List TypeId->Nat->Option (List AC × List Kd)
 |[],_=>some ([],[])
 |t::ar,x=>do
  let ks<-EZ P d t;let a<-pQ P t x ks;let (as,r) <-Jj P d ar (x+ks.length)
  some (a::as,ks++r)
def SD:CO:=⟨⟨0,[],.nil⟩, #[],.skip,.skip,[]⟩
def YM (lps:List (Nat × CO))(us:List U):Tab:=⟨fun x=>us.getD x default,fun _ _=>True,fun s=>(Fe lps s).getD SD,0⟩
def OM:List (Nat × CO)->Bool
 |[]=>true
 |(s,_)::r=>(r.all fun p=> !Nat.beq p.1 s)&&OM r
def MQ (n:Nat)(g:G):Bool:=CK [] 0 n g.n g.eqs&&OM g.lps
def tB (T:Tab):AC->Prop
 | .cb b=>b=true
 | .b x=>T x= .bool true
 | .nb x=>T x= .bool false
 |_=>False
theorem Pf:∀{lps:List (Nat × CO)},OM lps=true->∀p∈lps,Fe lps p.1=some p.2
 |[],_,p,d=>by cases d
 |(s,S)::r,h,p,d=>by
  simp only[OM,tV] at h;simp only[Fe];cases d with
  |head=>simp only[(Dl s s).2 rfl,if_true]
  |tail _ d=>
   have u:=uK.1 h.1 p d;split
   .rename_i y;have e:=tW y;rw[(Dl p.1 s).2 e.symm] at u;cases u
   .exact Pf h.2 p d
section
variable {P:Program}{T:Tab}{n:Nat}{V :Nat->Option Nat}{w:World}{B:Nat}
variable{v:Value}{t:TypeId}{base:Nat}
theorem qg {ok:Nat->Nat->Prop}(u:∀b off,ok b off->AY T V [] w b off){k:Kd}{x:Nat}(d:x < n)(h:AT ok w k (T x) v):AA T n V [] w (QJ k x) v:=by
 cases k with
 |int k ap Y=>exact⟨d,h⟩
 |bool=>exact⟨d,h⟩
 |str=>exact⟨d,h⟩
 |val=>exact⟨d,h.1,h.2⟩
 |any=>exact h.one
 |list ks=>exact⟨d,AT.mono (fun b off p=>⟨u b off p,rfl⟩) _ _ _ h⟩
theorem X5 {ok:Nat->Nat->Prop}(d:∀b off,ok b off->AY T V [] w b off):∀{ks:List Kd} {us:List U} {av:List Value} {x:Nat},C7 ok w ks us av->(∀j u,us[j]? =some u->T (x+j)=u)->x+ks.length<=n->AB T n V [] w (Qb x ks) av
 |[],[],[],_,_,_,_=>rfl
 |k::ks,u::us,c::av,x,h,hT,hn=>by
  simp only[uJ] at hn;refine⟨c,av,rfl,qg d (by omega) ?_,X5 d h.2 (fun j v p=>?_) (by omega)⟩
  .have:=hT 0 u rfl;rw[Nat.add_zero] at this;rw[this];exact h.1
  .have:=hT (j+1) v (by simpa using p);rw[show x+(j+1)=x+1+j by omega] at this;exact this
 |[],_::_,_,_,h,_,_=>by cases h
 |[],[],_::_,_,h,_,_=>by cases h
 |_::_,[],_,_,h,_,_=>by cases h
 |_::_,_::_,[],_,h,_,_=>by cases h
theorem sa {d:Nat}{ks:List Kd}(h:EZ P d t=some ks)(p:CB P t=false)(u:Value.okWide P w .any base t v):∀av,v≠ .agg av:=by
 intro av e;subst e;cases d with
 |zero=>simp[EZ] at h
 |succ d=>
  simp only[EZ] at h;unfold Value.okWide at u;unfold CB at p;split at h<;>rename_i y<;>simp only[y] at u p<;>first
   |(cases p;done)
   |(simp[Cell.okWide,Cell.ok,y] at u;done)
   |(cases h;done)
theorem iy (d:CB P t=true)(h:Value.okWide P w .any base t v):∃av,v= .agg av:=by
 unfold CB at d;unfold Value.okWide at h;grind
theorem cg {H:Type}{enc:TypeId × Value->H}{sp:Nat->Bool}{bd:Bool}{base:Nat}(hB:B<=AD){dd:Nat}:∀(ar:List TypeId) {x:Nat} {as:List AC} {ks:List Kd} {W:List Value} {ds:List (DataW H)} {ps:List MemPlace},Jj P dd ar x=some (as,ks)->
  DataW.TrodAll enc P w 0 sp bd ar W ds ps->(∀(j:Nat) t v,ar[j]? =some t->W[j]? =some v->Value.okWide P w .any base t v)->(∀d∈ds,DZ B d)->
  ∃us,AK B ks us/\us.length=ks.length/\∀(T:Tab) V,(∀b off,b < w.heap.size->AY T V [] w b off)->(∀j u,us[j]? =some u->T (x+j)=u)->∀n,x+ks.length<=n->AB T n V [] w as W
 |[],x,as,ks,W,ds,ps,h,ht,_,_=>by
  simp only[Jj] at h;cases h;cases W with
  |nil=>exact⟨[],rfl,rfl,fun _ _ _ _ _ _=>rfl⟩
  |cons v W=>cases ds<;>exact ht.elim
 |t::ar,x,as,ks,W,ds,ps,h,ht,hv,aa=>by
  simp only[Jj,tX,tU] at h;obtain⟨k1,hk,a,y,⟨b3,E⟩,hr,h⟩:=h;cases h;cases W with
  |nil=>cases ds<;>exact ht.elim
  |cons v W=>
   cases ds with
   |nil=>exact ht.elim
   |cons d ds=>
    obtain⟨p,q,⟨aK,C⟩,O,_⟩:=ht;obtain⟨b0,u1,u2,u3⟩:=cg hB ar hr O (fun j t' v' z bb=>hv (j+1) t' v' (by simpa using z) (by simpa using bb)) (fun d' hd=>aa d' (th _ hd));obtain⟨Y,aJ,w2⟩:=Bs hB dd hk C (aa d (tl ..));have a5:=hv 0 t v rfl rfl;obtain⟨X,ae⟩:=aJ.len;refine⟨Y++b0,w2.append u1,by simp[X,u2],fun T V a4 hT n hn=>?_⟩;rw[tq] at hn;have bc:x+k1.length+E.length<=n:=by simp only at hn;omega
    have a9:∀j u,Y[j]? =some u->T (x+j)=u:=fun j u z=>hT j u (by rw[tv (tc.1 z).1];exact z);have a1:=X5 (T:=T) (n:=n) (V := V) (x:=x) a4 aJ a9 (by omega);refine⟨v,W,rfl,?_,u3 T V a4 (fun j u z=>?_) n bc⟩
    .unfold pQ at y;split at y
     .rename_i N;cases y;obtain⟨av,rfl⟩:=iy N a5;exact⟨av.toList,by simp,a1⟩
     .rename_i N;split at y
      .rename_i k;cases y;obtain⟨u,bx,M,e2,e3⟩:=a1;rw[show bx=[] from e3] at M;have bi:=sa hk (by simpa using N) a5;have ba:v.cells= #[v]:=by cases v<;>first|rfl|exact absurd rfl (bi _)
       rw[ba] at M;simp at M;rw[M];exact e2
      .cases y
    .have:=hT (Y.length+j) u (by rw[tw (by omega)];simpa using z);rw[X,<-Nat.add_assoc] at this;exact this
end
end
end Go.Eng
end
