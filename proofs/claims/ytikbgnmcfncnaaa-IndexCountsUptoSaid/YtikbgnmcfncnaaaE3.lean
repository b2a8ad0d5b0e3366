/-
  A part of the proof: the evaluator of code and its soundness.
-/
import Derived.Test.YtikbgnmcfncnaaaE2
import Derived.Scope
import Derived.Deep.Slices
import Derived.OpenShut
import Derived.Below
set_option linter.unusedVariables false
set_option linter.unusedSimpArgs false
noncomputable section
namespace Go.Eng
section
open Go Go.RowKit
def Tab.wf (T:Tab)(F:Nat->Nat->Prop):Tab:={ T with fr:=F }
structure Chg (T:Tab) (F F':Nat->Nat->Prop) (ρ ρ':Nat->Option Nat) (m m':Mem) (w:World):Prop where
 same:∀id,m.at id≠ .pad->m'.at id=m.at id/\ ρ' id= ρ id
 safe:∀b off,AS (T.wf F) ρ m w b off->AS (T.wf F') ρ' m' w b off
section
variable {T:Tab}{F F':Nat->Nat->Prop}{n:Nat}{ρ ρ':Nat->Option Nat}{m m':Mem}{w:World}
mutual
theorem AA.chg (h:Chg T F F' ρ ρ' m m' w):∀(c:AC) (v:Value),AA (T.wf F) n ρ m w c v->AA (T.wf F') n ρ' m' w c v
 | .any,_,_=>trivial
 | .anyc,_,hh=>hh
 | .on _ a,v,hh=>⟨hh.1,fun h1=>AA.chg h a v (hh.2 h1)⟩
 | .gd _ a,v,hh=>⟨hh.1,fun h1=>AA.chg h a v (hh.2.1 h1),hh.2.2⟩
 | .cb _,_,hh=>hh
 | .b _,_,hh=>hh
 | .nb _,_,hh=>hh
 | .ci _ _,_,hh=>hh
 | .i _ _ _ _,_,hh=>hh
 | .cv _,_,hh=>hh
 | .v _,_,hh=>hh
 | .s _,_,hh=>hh
 | .ptr id off,v,⟨b,h1,h2,h3⟩=>⟨b,by rw[(h.same id (A7 h3)).2];exact h1,h2,by rw[(h.same id (A7 h3)).1];exact h3⟩
 | .pix id base stride cnt x plus,v,⟨h0,b,j,h1,h2,h5,h6,h7,h3⟩=>⟨h0,b,j,by rw[(h.same id (A7 h3)).2];exact h1,h2,h5,h6,h7,by rw[(h.same id (A7 h3)).1];exact h3⟩
 | .ro x ks,v,⟨h0,h2⟩=>⟨h0,AM.mono (fun b off hs=>⟨h.safe b off hs,rfl⟩) _ _ v h2⟩
 | .rp x t off ks,v,⟨h0,j,b,o,us,h2,h3,h4,h5,h6⟩=>⟨h0,j,b,o,us,h2,h3,h4,h5,AX.mono (fun b off hs=>⟨h.safe b off hs,rfl⟩) _ _ _ _ h6⟩
 | .vec id x ks,v,⟨h0,hp,h2,h3⟩=>⟨h0,by rw[(h.same id hp).1];exact hp,AM.mono (fun b off hs=>⟨h.safe b off hs,rfl⟩) _ _ v h2,fun ks' e he=>by
   rw[(h.same id hp).1] at he;rcases h3 ks' e he with⟨l1,l2⟩|⟨b,cap,vs,l1,l2,l3,l4⟩
   .exact .inl ⟨by rw[(h.same id hp).2];exact l1,l2⟩
   .exact .inr ⟨b,cap,vs,by rw[(h.same id hp).2];exact l1,l2,l3,l4⟩⟩
 | .fn f first cap,v,⟨vs,us,h1,h2,h3⟩=>⟨vs,us,h1,AB.chg h first vs h2,AB.chg h cap us h3⟩
 | .sel x alts,v,⟨h0,j,h1,h2,h3⟩=>⟨h0,j,h1,h2,Aa.chg h alts j.toNat v h3⟩
 | .yl id,v,⟨b,h1,h2,h3⟩=>⟨b,by rw[(h.same id (A7 h3)).2];exact h1,h2,by rw[(h.same id (A7 h3)).1];exact h3⟩
 | .asl id off len,v,⟨b,h1,h2,h3⟩=>⟨b,by rw[(h.same id (A7 h3)).2];exact h1,h2,by rw[(h.same id (A7 h3)).1];exact h3⟩
 | .rsv id x ks,v,⟨h0,hp,h2,h4,h3⟩=>⟨h0,by rw[(h.same id hp).1];exact hp,h2,h4,fun ks' e he=>by
   rw[(h.same id hp).1] at he;rcases h3 ks' e he with⟨l1,l2⟩|⟨b,len,cap,vs,l1,l2,l0,l3,l4⟩
   .exact .inl ⟨by rw[(h.same id hp).2];exact l1,l2⟩
   .exact .inr ⟨b,len,cap,vs,by rw[(h.same id hp).2];exact l1,l2,l0,l3,l4⟩⟩
 | .mr id y,v,⟨⟨h1,hp⟩,j,a,cap,k1,k2,k3,k4,k5⟩=>⟨⟨h1,by rw[(h.same id hp).1];exact hp⟩,j,a,cap,k1,k2,k3,k4,fun x ks e he=>by
   rw[(h.same id hp).1] at he;rcases k5 x ks e he with⟨l1,l2⟩|⟨b,vs,l1,l2,l3,l4⟩
   .exact .inl ⟨by rw[(h.same id hp).2];exact l1,l2⟩
   .exact .inr ⟨b,vs,by rw[(h.same id hp).2];exact l1,l2,l3,l4⟩⟩
 | .mp id y t sz off,v,⟨⟨h1,h1',hp⟩,j,L,b,k1,k2,k3,k4,k5⟩=>⟨⟨h1,h1',by rw[(h.same id hp).1];exact hp⟩,j,L,b,k1,k2,k3,k4,fun x ks e he=>by
   rw[(h.same id hp).1] at he;rw[(h.same id hp).2];exact k5 x ks e he⟩
 | .mv id,v,⟨b,h1,h2,h3⟩=>⟨b,by rw[(h.same id (A7 h3)).2];exact h1,h2,by rw[(h.same id (A7 h3)).1];exact h3⟩
 | .agg l,v,⟨vs,h1,h2⟩=>⟨vs,h1,AB.chg h l vs h2⟩
 | .tup l,v,⟨vs,h1,h2⟩=>⟨vs,h1,AB.chg h l vs h2⟩
theorem AB.chg (h:Chg T F F' ρ ρ' m m' w):∀(l:List AC) (vs:List Value),AB (T.wf F) n ρ m w l vs->AB (T.wf F') n ρ' m' w l vs
 |[],_,hh=>hh
 |c::l,_,⟨u,us,h1,h2,h3⟩=>⟨u,us,h1,AA.chg h c u h2,AB.chg h l us h3⟩
theorem Aa.chg (h:Chg T F F' ρ ρ' m m' w):∀(l:List AC) (j:Nat) (v:Value),Aa (T.wf F) n ρ m w l j v->Aa (T.wf F') n ρ' m' w l j v
 |[],_,_,hh=>hh
 |c::_,0,v,hh=>AA.chg h c v hh
 |_::l,j+1,v,hh=>Aa.chg h l j v hh
end
theorem BB.chg (h:Chg T F F' ρ ρ' m m' w){id:Nat}(hp:m.at id≠ .pad)(hk:∀b,(m.at id).tracked=true-> ρ id=some b->(∀off,F b off)->∀off,F' b off)(hb:BB (T.wf F) n ρ m w id (m.at id)):BB (T.wf F') n ρ' m' w id (m'.at id):=by
 rw[(h.same id hp).1];have hr:=(h.same id hp).2;cases hx:m.at id with
 |pad=>trivial
 |gone=>trivial
 |cells l e=>
  rw[hx] at hb;obtain⟨b,vs,h1,h2,h3⟩:=hb;exact⟨b,vs,by rw[hr];exact h1,h2,AB.chg h l vs h3⟩
 |tok x ks e=>
  rw[hx] at hb;obtain⟨h0,l,h1,h2⟩:=hb;refine⟨h0,l,h1,?_⟩;rcases h2 with h2|⟨b,vs,h2,h3,h4,h5⟩
  .exact .inl (by rw[hr];exact h2)
  .exact .inr ⟨b,vs,by rw[hr];exact h2,h3,h4,hk b (by rw[hx];rfl) h2 h5⟩
 |mrow x y ks e=>
  rw[hx] at hb;obtain⟨h0,l,h1,h1',h1'',h2⟩:=hb;refine⟨h0,l,h1,h1',h1'',?_⟩;rcases h2 with⟨h2,h3⟩|⟨b,vs,us,h2,h3,h4,h5⟩
  .exact .inl ⟨by rw[hr];exact h2,h3⟩
  .exact .inr ⟨b,vs,us,by rw[hr];exact h2,h3,AU.mono (fun b off hs=>⟨h.safe b off hs,rfl⟩) h4,hk b (by rw[hx];rfl) h2 h5⟩
 |mapb x kk ka vk va=>
  rw[hx] at hb;obtain⟨h0,l,b,es,cl,h1,h2,h3,h4,h5,h6,h7⟩:=hb;refine⟨h0,l,b,es,cl,h1,by rw[hr];exact h2,h3,h4,h5,fun i us e hl he=>?_,h7⟩;obtain⟨u1,u2,q1,q2,q3⟩:=h6 i us e hl he;exact⟨u1,u2,q1,Bn.mono (fun b off hs=>⟨h.safe b off hs,rfl⟩) q2,Bn.mono (fun b off hs=>⟨h.safe b off hs,rfl⟩) q3⟩
 |lp x st=>
  rw[hx] at hb;obtain⟨b,q,h1,h2,h3,h4,h5,h6,h7,j,h8,h9⟩:=hb;exact⟨b,q,by rw[hr];exact h1,h2,h3,h4,h5,h6,fun i c hc=>AA.chg h c _ (h7 i c hc),j,AA.chg h st _ h8,h9⟩
theorem AD.wf (hm:AD (T.wf F) n ρ m w)(h:Chg T F F' ρ ρ m m w)(hF:∀b off,w.heap.size<=b->F' b off)(hk:∀id b,(m.at id).tracked=true-> ρ id=some b->(∀off,F b off)->∀off,F' b off):AD (T.wf F') n ρ m w:=by
 refine⟨fun id=>?_,hm.inj,hF⟩;by_cases hp:m.at id= .pad
 .rw[hp];trivial
 .exact BB.chg h hp (hk id) (hm.blk id)
theorem AD.more (hm:AD (T.wf F) n ρ m w){k b:Nat}(h:Chg T F F' ρ ρ' m m' w)(hpk:m.at k= .pad)(hpad:∀id,m.at id= .pad->id≠k->m'.at id= .pad)(hb: ρ' k=some b)(hno:∀id,(m.at id).tracked=true-> ρ id≠some b)
  (hbk:BB (T.wf F') n ρ' m' w k (m'.at k)) (hF:∀b off,w.heap.size<=b->F' b off) (hk:∀id b,(m.at id).tracked=true-> ρ id=some b->(∀off,F b off)->∀off,F' b off):AD (T.wf F') n ρ' m' w:=by
 have htr:∀id,(m'.at id).tracked=true->id=k\/((m.at id).tracked=true/\ ρ' id= ρ id):=fun id ht=>by
  by_cases e:id=k
  .exact .inl e
  .by_cases hp:m.at id= .pad
   .rw[hpad id hp e] at ht;cases ht
   .obtain⟨h1,h2⟩:=h.same id hp;rw[h1] at ht;exact .inr ⟨ht,h2⟩
 refine⟨fun id=>?_,fun id id' b' t1 t2 e1 e2=>?_,hF⟩
 .by_cases e:id=k
  .rw[e];exact hbk
  .by_cases hp:m.at id= .pad
   .rw[hpad id hp e];trivial
   .exact BB.chg h hp (hk id) (hm.blk id)
 .rcases htr id t1 with h1|⟨h1,h2⟩<;>rcases htr id' t2 with h3|⟨h3,h4⟩
  .rw[h1,h3]
  .rw[h1,hb] at e1;rw[h4,<-e1] at e2;exact absurd e2 (hno id' h3)
  .rw[h3,hb] at e2;rw[h2,<-e2] at e1;exact absurd e1 (hno id h1)
  .rw[h2] at e1;rw[h4] at e2;exact hm.inj id id' b' h1 h3 e1 e2
theorem AE.wf {w':World}(h:AE (T.wf F) n ρ m w ρ' m' w'):AE (T.wf F') n ρ m w ρ' m' w':=⟨h.os,h.tape,h.output,h.size,h.mlen,h.rho,h.untr,h.fresh,h.old,h.tok,h.row⟩
theorem AE.more {n0:Nat}{ρ0:Nat->Option Nat}{m0:Mem}{w0:World}{k b:Nat}(s:AE T n0 ρ0 m0 w0 ρ m w)(hs:∀id,m.at id≠ .pad->m'.at id=m.at id/\ ρ' id= ρ id)(hpk:m.at k= .pad)(hpad:∀id,m.at id= .pad->id≠k->m'.at id= .pad)(hkp:(m'.at k).ptrOk=true)(hb: ρ' k=some b)(hw:w0.heap.size<=b):AE T n0 ρ0 m0 w0 ρ' m' w:=by
 have ne:∀id,m0.at id≠ .pad->m.at id≠ .pad:=s.mlen;refine⟨s.os,s.tape,s.output,s.size,fun id hp=>?_,fun id hp=>?_,fun id hp ht=>?_,fun id b' hp ht e=>?_,s.old,fun id x ks e hx=>?_,fun id x y ks e hx=>?_⟩
 .rw[(hs id (ne id hp)).1];exact ne id hp
 .have h1:=s.rho id hp;obtain⟨h2,h3⟩:=hs id (A7 h1.2);exact⟨h3.trans h1.1,by rw[h2];exact h1.2⟩
 .rw[(hs id (ne id hp)).1] at ht;exact s.untr id hp ht
 .by_cases e2:id=k
  .rw[e2,hb] at e;cases e;exact hw
  .by_cases hp2:m.at id= .pad
   .rw[hpad id hp2 e2] at ht;cases ht
   .obtain⟨h2,h3⟩:=hs id hp2;rw[h2] at ht;rw[h3] at e;exact s.fresh id b' hp ht e
 .have hp:m0.at id≠ .pad:=by rw[hx];exact fun h=>by cases h
  obtain⟨h2,h3⟩:=hs id (ne id hp);rw[h2];rcases s.tok id x ks e hx with⟨a1,a2,a3⟩|⟨a1,a2⟩
  .exact .inl ⟨a1,h3.trans a2,a3⟩
  .exact .inr ⟨a1,a2.imp (fun h=>h) fun⟨x',ks',e',q1,q2,q3⟩=>⟨x',ks',e',q1,q2,fun b' hb'=>q3 b' (by rw[<-h3];exact hb')⟩⟩
 .have hp:m0.at id≠ .pad:=by rw[hx];exact fun h=>by cases h
  obtain⟨h2,h3⟩:=hs id (ne id hp);rw[h2];rcases s.row id x y ks e hx with a1|⟨x',y',ks',a1,a2,⟨a3,a4,a5⟩|⟨a3,a4⟩⟩
  .exact .inl a1
  .exact .inr ⟨x',y',ks',a1,a2,.inl ⟨a3,h3.trans a4,a5⟩⟩
  .exact .inr ⟨x',y',ks',a1,a2,.inr ⟨a3,fun b' hb'=>a4 b' (by rw[<-h3];exact hb')⟩⟩
theorem BB.step0 {w':World}(h:AE T n ρ m w ρ m w'){id:Nat}(hw:∀b,(m.at id).tracked=true-> ρ id=some b->w'.heap[b]? =w.heap[b]?)(hb:BB T n ρ m w id (m.at id)):BB T n ρ m w' id (m.at id):=by
 cases hx:m.at id with
 |pad=>trivial
 |gone=>trivial
 |cells l e=>
  rw[hx] at hb hw;obtain⟨b,vs,h1,h2,h3⟩:=hb;exact⟨b,vs,h1,by rw[hw b rfl h1];exact h2,AB.mono0 h (vr _) l vs h3⟩
 |lp x st=>
  rw[hx] at hb hw;obtain⟨b,q,h1,h2,h3,h4,h5,h9,h6,j,h7,h8⟩:=hb;exact⟨b,q,h1,by rw[hw b rfl h1];exact h2,h3,h4,h5,h9,fun i c hc=>AA.mono0 h (vr _) _ _ (h6 i c hc),j,AA.mono0 h (vr _) _ _ h7,h8⟩
 |tok x ks e=>
  rw[hx] at hb hw;obtain⟨h0,r,h1,h2⟩:=hb;refine⟨h0,r,h1,?_⟩;rcases h2 with h2|⟨b,vs,h2,h3,h4,h5⟩
  .exact .inl h2
  .exact .inr ⟨b,vs,h2,by rw[hw b rfl h2];exact h3,h4,h5⟩
 |mrow x y ks e=>
  rw[hx] at hb hw;obtain⟨h0,r,h1,h1',h1'',h2⟩:=hb;refine⟨h0,r,h1,h1',h1'',?_⟩;rcases h2 with⟨h2,h3⟩|⟨b,vs,us,h2,h3,h4,h5⟩
  .exact .inl ⟨h2,h3⟩
  .exact .inr ⟨b,vs,us,h2,by rw[hw b rfl h2];exact h3,AU.mono (fun _ _ hs=>h.safe0 hs) h4,h5⟩
 |mapb x kk ka vk va=>
  rw[hx] at hb hw;obtain⟨h0,l,b,es,cl,h1,h2,h3,h4,h5,h6,h7⟩:=hb;refine⟨h0,l,b,es,cl,h1,h2,by rw[hw b rfl h2];exact h3,h4,h5,fun i us e hl he=>?_,h7⟩;obtain⟨u1,u2,q1,q2,q3⟩:=h6 i us e hl he;exact⟨u1,u2,q1,Bn.mono (fun _ _ hs=>h.safe0 hs) q2,Bn.mono (fun _ _ hs=>h.safe0 hs) q3⟩
theorem Lo (hm:AD T n ρ m w)(o:Obj)(n':Nat):AE T n' ρ m w ρ m (w.alloc o):=
 ⟨rfl,rfl,rfl,by simp,fun _ h=>h,fun _ h=>⟨rfl,h⟩,fun _ _ h=>h,fun id b h ht _=>(by rw[h] at ht;cases ht),fun k hk _=>At w o k hk,
  fun id y ks e h=> .inl ⟨h,rfl,fun b hb=>At w o b (hm.lt (by rw[h];rfl) hb)⟩,
  fun id x y ks e h=> .inr ⟨x,y,ks,h,rfl,.inl ⟨rfl,rfl,fun b vs hb hv=>⟨vs,by rw[At w o b (hm.lt (by rw[h];rfl) hb)];exact hv,rfl⟩⟩⟩⟩
theorem bn (hm:AD (T.wf F) n ρ m w)(o:Obj)(h:Chg T F F' ρ ρ m m w)(hF:∀b off,w.heap.size < b->F' b off)(hk:∀id b,(m.at id).tracked=true-> ρ id=some b->(∀off,F b off)->∀off,F' b off):AD (T.wf F') n ρ m (w.alloc o):=by
 have st:AE (T.wf F') n ρ m w ρ m (w.alloc o):=(Lo hm o n).wf;refine⟨fun id=>?_,hm.inj,fun b off hb=>hF b off (by simp at hb;omega)⟩;by_cases hp:m.at id= .pad
 .rw[hp];trivial
 .exact BB.step0 st (fun b ht hb=>At w o b (hm.lt ht hb)) (BB.chg h hp (hk id) (hm.blk id))
theorem aK {P:Program}{t:TypeId}{a:Act}{o:Oper}{l:List AC}(h:Gy P t []=some (M3 l t []))(ho:o.op= .alloc t):
  ∃vs:List Value,(∀w:World,(execOp a.eval o).run P w= .ok (.value (.pointer (some ⟨w.heap.size,0,none⟩))) (w.alloc (.cells vs.toArray t)))/\∀(T:Tab) (n:Nat) (ρ :Nat->Option Nat) (m:Mem) (w:World),AB T n ρ m w l vs:=by
 unfold Gy at h;simp only[vq,vn] at h;obtain⟨i,hi,z,hz,l',hl,h⟩:=h;have el:l'=l:=by
  simp only[M3,Option.some.injEq,R.mk.injEq,List.nil_append,List.cons.injEq,Blk.cells.injEq] at h;exact h.2.1.1.1
 subst el;have key:∀(T:Tab) (n:Nat) (ρ :Nat->Option Nat) (m:Mem) (w:World),∃vs,z.cells=(vs:List Value).toArray/\AB T n ρ m w l' vs:=fun T n ρ m w=>by
  obtain⟨vs,h1,h2,_,_⟩:=CC hl (GJ (T:=T) (n:=n) (ρ := ρ) (m:=m) (w:=w) z);exact⟨vs,h1,h2⟩
 refine⟨z.cells.toList,fun w=>?_,fun T n ρ m w=>?_⟩
 .simp[execOp,ho,Instr.alloc,Fq hi hz,LX]
 .obtain⟨vs,h1,h2⟩:=key T n ρ m w;rw[h1];exact h2
end
section
variable {P:Program}{T:Tab}{call:Ak}{ys:Ys}{r:Option Nat}{kk:Nat}{ops:Array Oper}{pc:PC}
theorem DL {a b:Nat}(h:Nat.blt a b=true):a < b:=wN h
theorem SQ {cls:List Nat}{R i k:Nat}:∀{l:List Nat} {j0:Nat},Qd cls R i k j0 l=true->∀j c,l[j]? =some c->j0+j < i->(k=3->R.testBit (j0+j)=true\/c=0)/\(k=2->R.testBit (j0+j)=true\/c<=2)
 |[],_,_,j,c,hj,_=>by simp at hj
 |c0::l,j0,h,j,c,hj,hlt=>by
  simp only[Qd,vo] at h;cases j with
  |zero=>
   simp at hj;subst hj;have h1:=h.1;have hb:Nat.ble i j0=false:=by
    cases hx:Nat.ble i j0 with
    |false=>rfl
    |true=>have:=wN hx;omega
   simp only[hb,Bool.false_or,Nat.add_zero] at h1⊢;refine⟨fun hk=>?_,fun hk=>?_⟩
   .subst hk;simp only[show Nat.beq 3 3=true from rfl,if_true,wU] at h1;exact h1.imp (fun h=>h) fun h=>vp h
   .subst hk;simp only[show Nat.beq 2 3=false from rfl,show Nat.beq 2 2=true from rfl,wU] at h1;rcases (show R.testBit j0=true\/Nat.ble c0 2=true by simpa using h1) with h|h
    .exact .inl h
    .exact .inr (wN h)
  |succ j=>
   have:=SQ h.2 j c (by simpa using hj) (by omega);rw[show j0+1+j=j0+(j+1) by omega] at this;exact this
theorem O6 {cls:List Nat}:∀{Rs ks:List Nat} {i0:Nat},TL cls i0 Rs ks=true->∀i R k,Rs[i]? =some R->ks[i]? =some k->∀j c,cls[j]? =some c->j < i0+i->(k=3->R.testBit j=true\/c=0)/\(k=2->R.testBit j=true\/c<=2)
 |[],_,_,_,i,R,k,h,_,_,_,_,_=>by simp at h
 |_::_,[],_,_,i,R,k,_,h,_,_,_,_=>by simp at h
 |R0::Rs,k0::ks,i0,h,i,R,k,h1,h2,j,c,hj,hlt=>by
  simp only[TL,vo] at h;cases i with
  |zero=>
   simp at h1 h2;subst h1;subst h2;have:=SQ h.1 j c hj (by omega);rw[v8] at this;exact this
  |succ i=>exact O6 h.2 i R k (by simpa using h1) (by simpa using h2) j c hj (by omega)
theorem O4 {R:Nat}:∀{n m0:Nat} {l:List Nat},QJ R n m0 l=true->∀m c,l[m]? =some c->m < n->R.testBit (m0+m)=true\/c=0
 |0,_,_,_,m,c,_,h=>by omega
 |n+1,_,[],_,m,c,h,_=>by simp at h
 |n+1,m0,c0::l,h,m,c,hm,hlt=>by
  simp only[QJ,vo,wU] at h;cases m with
  |zero=>
   simp at hm;subst hm;exact h.1.imp (fun h=>h) fun h=>vp h
  |succ m=>
   have:=O4 h.2 m c (by simpa using hm) (by omega);rw[show m0+1+m=m0+(m+1) by omega] at this;exact this
theorem Iy:∀{l:List Nat} {j0 j:Nat},l[j]? =some 4->j0+j∈JQ j0 l
 |[],_,j,h=>by simp at h
 |c::l,j0,j,h=>by
  cases j with
  |zero=>
   simp at h;subst h;exact wA
  |succ j=>
   have:=Iy (l:=l) (j0:=j0+1) (j:=j) (by simpa using h);rw[show j0+1+j=j0+(j+1) by omega] at this;unfold JQ;cases Nat.beq c 4 with
   |true=>exact vz _ this
   |false=>exact this
theorem PD {cls als:List Nat}:∀{Rs ks:List Nat} {i0:Nat},wides cls als i0 Rs ks=true->∀i R k,Rs[i]? =some R->ks[i]? =some k->k≠0->k≠4->∀j∈als,j < i0+i->R.testBit j=true->QJ R j 0 cls=true
 |[],_,_,_,i,R,k,h,_,_,_,_,_,_,_=>by simp at h
 |_::_,[],_,_,i,R,k,_,h,_,_,_,_,_,_=>by simp at h
 |R0::Rs,k0::ks,i0,h,i,R,k,h1,h2,n0,n4,j,hj,hlt,hb=>by
  simp only[wides,vo] at h;cases i with
  |zero=>
   simp at h1 h2;subst h1;subst h2;have h3:=h.1;have e0:Nat.beq k0 0=false:=by
    cases hx:Nat.beq k0 0 with
    |false=>rfl
    |true=>exact absurd (vp hx) n0
   have e4:Nat.beq k0 4=false:=by
    cases hx:Nat.beq k0 4 with
    |false=>rfl
    |true=>exact absurd (vp hx) n4
   rw[e0,e4,Bool.false_or,Bool.false_or] at h3;have h4:=wR.1 h3 j hj;have e5:Nat.ble i0 j=false:=by
    cases hx:Nat.ble i0 j with
    |false=>rfl
    |true=>have:=wN hx;omega
   rw[e5,hb] at h4;simpa using h4
  |succ i=>exact PD h.2 i R k (by simpa using h1) (by simpa using h2) n0 n4 j hj (by omega) hb
mutual
theorem AC.nlt_ok {n n':Nat}{ρ :Nat->Option Nat}{m:Mem}{w:World}:∀(c:AC) (z:Value),AC.nlt n c=true->AA T n' ρ m w c z->AA T n ρ m w c z
 | .any,_,_,_=>trivial
 | .anyc,_,_,h=>h
 | .on _ a,z,hc,h=>by
  simp only[AC.nlt,vo] at hc;exact⟨DL hc.1,fun h1=>AC.nlt_ok a z hc.2 (h.2 h1)⟩
 | .gd _ a,z,hc,h=>by
  simp only[AC.nlt,vo] at hc;exact⟨DL hc.1,fun h1=>AC.nlt_ok a z hc.2 (h.2.1 h1),h.2.2⟩
 | .cb _,_,_,h=>h
 | .b _,_,hc,h=>⟨DL hc,h.2⟩
 | .nb _,_,hc,h=>⟨DL hc,h.2⟩
 | .ci _ _,_,_,h=>h
 | .i _ _ _ _,_,hc,h=>⟨DL hc,h.2⟩
 | .cv _,_,_,h=>h
 | .v _,_,hc,h=>⟨DL hc,h.2⟩
 | .s _,_,hc,h=>⟨DL hc,h.2⟩
 | .ptr _ _,_,_,h=>h
 | .pix _ _ _ _ _ _,_,hc,h=>⟨DL hc,h.2⟩
 | .ro _ _,_,hc,h=>⟨DL hc,h.2⟩
 | .rp _ _ _ _,_,hc,h=>by
  simp only[AC.nlt,vo] at hc;exact⟨⟨DL hc.1,DL hc.2⟩,h.2⟩
 | .vec _ _ _,_,hc,h=>⟨DL hc,h.2⟩
 | .fn _ f c,_,hc,⟨vs,us,e,h1,h2⟩=>by
  simp only[AC.nlt,vo] at hc;exact⟨vs,us,e,AC.nltL_ok f vs hc.1 h1,AC.nltL_ok c us hc.2 h2⟩
 | .sel _ l,z,hc,⟨_,j,e,h1,h2⟩=>by
  simp only[AC.nlt,vo] at hc;exact⟨DL hc.1,j,e,h1,AC.nltA_ok l j.toNat z hc.2 h2⟩
 | .yl _,_,_,h=>h
 | .asl _ _ _,_,_,h=>h
 | .rsv _ _ _,_,hc,h=>⟨DL hc,h.2⟩
 | .mr _ _,_,hc,h=>⟨⟨DL hc,h.1.2⟩,h.2⟩
 | .mp _ _ _ _ _,_,hc,h=>by
  simp only[AC.nlt,vo] at hc;exact⟨⟨DL hc.1,DL hc.2,h.1.2.2⟩,h.2⟩
 | .mv _,_,_,h=>h
 | .agg l,_,hc,⟨vs,e,h1⟩=>⟨vs,e,AC.nltL_ok l vs hc h1⟩
 | .tup l,_,hc,⟨vs,e,h1⟩=>⟨vs,e,AC.nltL_ok l vs hc h1⟩
theorem AC.nltL_ok {n n':Nat}{ρ :Nat->Option Nat}{m:Mem}{w:World}:∀(l:List AC) (vs:List Value),AC.nltL n l=true->AB T n' ρ m w l vs->AB T n ρ m w l vs
 |[],_,_,h=>h
 |a::l,vs,hc,⟨u,us,e,h1,h2⟩=>by
  simp only[AC.nltL,vo] at hc;exact⟨u,us,e,AC.nlt_ok a u hc.1 h1,AC.nltL_ok l us hc.2 h2⟩
theorem AC.nltA_ok {n n':Nat}{ρ :Nat->Option Nat}{m:Mem}{w:World}:∀(l:List AC) (j:Nat) (z:Value),AC.nltL n l=true->Aa T n' ρ m w l j z->Aa T n ρ m w l j z
 |[],_,_,_,h=>h
 |a::l,0,z,hc,h=>by
  simp only[AC.nltL,vo] at hc;exact AC.nlt_ok a z hc.1 h
 |a::l,j+1,z,hc,h=>by
  simp only[AC.nltL,vo] at hc;exact AC.nltA_ok l j z hc.2 h
end
theorem Pz:∀{m m':Mem},BW m m'=true->∀id x ks e,m.at id= .tok x ks e->m'.at id= .tok x ks e
 |[],_,_,id,x,ks,e,h=>by simp[Mem.at] at h
 |b::m,m',hh,id,x,ks,e,h=>by
  cases id with
  |zero=>
   have h0:b= .tok x ks e:=by simpa [Mem.at] using h
   subst h0;cases m' with
   |nil=>simp[BW] at hh
   |cons b' m'=>
    simp only[BW,vo] at hh;have:=SI _ _ hh.1;simp[Mem.at,<-this]
  |succ id=>
   have h0:Mem.at m id= .tok x ks e:=by simpa [Mem.at] using h
   have hrest:BW m m'.tail=true:=by
    cases b with
    |tok _ _ _=>
     cases m' with
     |nil=>simp[BW] at hh
     |cons b' m'=>simp only[BW,vo] at hh;exact hh.2
    |mrow _ _ _ _=>
     cases m' with
     |nil=>simp[BW] at hh
     |cons b' m'=>simp only[BW,vo] at hh;exact hh.2
    |_=>simpa [BW] using hh
   have:=Pz hrest id x ks e h0;cases m' with
   |nil=>simp[Mem.at] at this
   |cons b' m'=>simpa [Mem.at] using this
section
variable {n:Nat}{ρ ρ':Nat->Option Nat}{m m':Mem}{w w':World}
mutual
theorem AA.monoV (h:AE T n ρ m w ρ' m' w'){k:Nat}:∀(c:AC) (v:Value),AC.noVec c=true->AA T k ρ m w c v->AA T k ρ' m' w' c v
 | .any,_,_,_=>trivial
 | .anyc,_,_,hh=>hh
 | .on _ a,v,hc,hh=>⟨hh.1,fun h1=>AA.monoV h a v hc (hh.2 h1)⟩
 | .gd _ a,v,hc,hh=>⟨hh.1,fun h1=>AA.monoV h a v hc (hh.2.1 h1),hh.2.2⟩
 | .cb _,_,_,hh=>hh
 | .b _,_,_,hh=>hh
 | .nb _,_,_,hh=>hh
 | .ci _ _,_,_,hh=>hh
 | .i _ _ _ _,_,_,hh=>hh
 | .cv _,_,_,hh=>hh
 | .v _,_,_,hh=>hh
 | .s _,_,_,hh=>hh
 | .ptr id off,v,_,⟨b,h1,h2,h3⟩=>⟨b,by rw[(h.rho id h3).1];exact h1,h2,(h.rho id h3).2⟩
 | .pix id base stride cnt x plus,v,_,⟨h0,b,j,h1,h2,h5,h6,h7,h3⟩=>⟨h0,b,j,by rw[(h.rho id h3).1];exact h1,h2,h5,h6,h7,(h.rho id h3).2⟩
 | .ro x ks,v,_,⟨h0,h2⟩=>⟨h0,AM.mono (fun _ _ hs=>h.safe0 hs) _ _ v h2⟩
 | .rp x t off ks,v,_,⟨h0,j,b,o,us,h2,h3,h4,h5,h6⟩=>⟨h0,j,b,o,us,h2,h3,h4,h5,AX.mono (fun _ _ hs=>h.safe0 hs) _ _ _ _ h6⟩
 | .vec _ _ _,_,hc,_=>by cases hc
 | .fn f first cap,v,hc,⟨vs,us,h1,h2,h3⟩=>by
  simp only[AC.noVec,vo] at hc;exact⟨vs,us,h1,AB.monoV h first vs hc.1 h2,AB.monoV h cap us hc.2 h3⟩
 | .sel x alts,v,hc,⟨h0,j,h1,h2,h3⟩=>⟨h0,j,h1,h2,Aa.monoV h alts j.toNat v hc h3⟩
 | .yl id,v,_,⟨b,h1,h2,h3⟩=>⟨b,by rw[(h.rho id h3).1];exact h1,h2,(h.rho id h3).2⟩
 | .asl id off len,v,_,⟨b,h1,h2,h3⟩=>⟨b,by rw[(h.rho id h3).1];exact h1,h2,(h.rho id h3).2⟩
 | .rsv _ _ _,_,hc,_=>by cases hc
 | .mr _ _,_,hc,_=>by cases hc
 | .mp _ _ _ _ _,_,hc,_=>by cases hc
 | .mv id,v,_,⟨b,h1,h2,h3⟩=>⟨b,by rw[(h.rho id h3).1];exact h1,h2,(h.rho id h3).2⟩
 | .agg l,v,hc,⟨vs,h1,h2⟩=>⟨vs,h1,AB.monoV h l vs hc h2⟩
 | .tup l,v,hc,⟨vs,h1,h2⟩=>⟨vs,h1,AB.monoV h l vs hc h2⟩
theorem AB.monoV (h:AE T n ρ m w ρ' m' w'){k:Nat}:∀(l:List AC) (vs:List Value),AC.noVecL l=true->AB T k ρ m w l vs->AB T k ρ' m' w' l vs
 |[],_,_,hh=>hh
 |c::l,_,hc,⟨u,us,h1,h2,h3⟩=>by
  simp only[AC.noVecL,vo] at hc;exact⟨u,us,h1,AA.monoV h c u hc.1 h2,AB.monoV h l us hc.2 h3⟩
theorem Aa.monoV (h:AE T n ρ m w ρ' m' w'){k:Nat}:∀(l:List AC) (j:Nat) (v:Value),AC.noVecL l=true->Aa T k ρ m w l j v->Aa T k ρ' m' w' l j v
 |[],_,_,_,hh=>hh
 |c::_,0,v,hc,hh=>by
  simp only[AC.noVecL,vo] at hc;exact AA.monoV h c v hc.1 hh
 |_::l,j+1,v,hc,hh=>by
  simp only[AC.noVecL,vo] at hc;exact Aa.monoV h l j v hc.2 hh
end
end
theorem Mt (m:Mem){base:List Nat}{s:RS}{j:Nat}{want:Bool}{c:AC}:Di pc base { s with mem:=m } j want c=(Di pc base s j want c).map fun p=>(p.1,{ p.2 with mem:=m }):=by
 cases c<;>simp only[Di,Option.map_some,Option.map_none];split<;>rfl
theorem Wn (m:Mem){s:RS}{o:Oper}:DV ops pc { s with mem:=m } o=(DV ops pc s o).map fun p=>(p.1,{ p.2 with mem:=m }):=by
 unfold DV;cases o.guard with
 |none=>rfl
 |some g=>
  obtain⟨j,want⟩:=g;simp only;split
  .rfl
  .cases ops[j]? with
   |none=>rfl
   |some oj=>
    simp only[vq,wT];cases oj.dst with
    |none=>rfl
    |some d=>
     simp only[wT];cases hc:s.tmps.get d with
     |none=>rfl
     |some c=>
      simp only[wT];split
      .rfl
      .rename_i c' a;cases s.gl.find? (fun e=>Nat.beq e.p c') with
       |none=>rfl
       |some e=>simp only[wT];exact Mt m
      .exact Mt m
theorem Se {x:AC}{m m2:Mem}{rr:R}(h:Ep x m=some rr):rr.m=m/\Ep x m2=some { rr with m:=m2 }:=by
 unfold Ep at h⊢;split at h<;>first|(cases h;exact⟨rfl,rfl⟩)|cases h
theorem Q8 {t:TypeId}{x:AC}{f:Nat}{m m2:Mem}{rr:R}(h:FE P t x f m=some rr):rr.m=m/\FE P t x f m2=some { rr with m:=m2 }:=by
 unfold FE at h⊢;split at h
 .simp only[vq,vn] at h⊢;obtain⟨fd,h1,i,h2,h⟩:=h;split at h
  .cases h
  .rename_i hz;split at h<;>first
    |(cases h;done)
    |(cases h;exact⟨rfl,fd,h1,i,h2,by rw[if_neg hz]⟩)
 .cases h
theorem Mk {size:Nat}{x ix:AC}{n:Rf}{g:G}{m m2:Mem}{rr:R}(h:CQ.aIndexSl size x ix n m g=some rr):rr.m=m/\CQ.aIndexSl size x ix n m2 g=some { rr with m:=m2 }:=by
 unfold CQ.aIndexSl at h⊢;simp only[vq,vn] at h⊢;obtain⟨⟨y,us⟩,h3,h⟩:=h;simp only at h;split at h
 .cases h;exact⟨rfl,⟨y,us⟩,h3,rfl⟩
 .split at h
  .rename_i hz;cases h;exact⟨rfl,⟨y,us⟩,h3,by simp only[if_pos hz]⟩
  .cases h
 .split at h
  .rename_i hz;cases h;exact⟨rfl,⟨y,us⟩,h3,by simp only[if_pos hz]⟩
  .cases h
 .cases h
theorem Q7 {t:TypeId}{x ix:AC}{g:G}{m m2:Mem}{rr:R}(h:CQ P t x ix m g=some rr):rr.m=m/\CQ P t x ix m2 g=some { rr with m:=m2 }:=by
 unfold CQ at h⊢;simp only[vq,vn] at h⊢;obtain⟨⟨k,lo,hi,n⟩,h1,h⟩:=h;simp only at h;split at h
 .rename_i len e hu;simp only[vq,vn] at h;obtain⟨i,h2,h⟩:=h;split at h
  .cases h
  rename_i hz;split at h
  .rename_i heq;split at h
   .rename_i hin;split at h<;>first
     |(cases h;done)
     |(cases h;exact⟨rfl,⟨k,lo,hi,n⟩,h1,by simp only[hu];simp only[vq,h2,wT,if_neg hz,if_pos heq,if_pos hin]⟩)
   .cases h
  .rename_i hne;split at h
   .simp only[vq,vn] at h;obtain⟨⟨y,us⟩,h3,h⟩:=h;cases h;exact⟨rfl,⟨k,lo,hi,n⟩,h1,by simp only[hu];simp only[vq,h2,wT,if_neg hz,if_neg hne,h3]⟩
   .cases h
 .rename_i e hu;simp only[vq,vn] at h;obtain⟨i,h2,h⟩:=h;split at h
  .rename_i hc;split at h
   .rename_i id off len;split at h
    .rename_i hr;cases h;exact⟨rfl,⟨k,lo,hi,n⟩,h1,by simp only[hu];simp only[vq,h2,wT,if_pos hc,if_pos hr]⟩
    .cases h
   .rename_i hx;obtain⟨q1,q2⟩:=Mk (m2:=m2) h;refine⟨q1,⟨k,lo,hi,n⟩,h1,?_⟩;simp only[hu];simp only[vq,h2,wT,if_pos hc];exact q2
  .rename_i hc;obtain⟨q1,q2⟩:=Mk (m2:=m2) h;exact⟨q1,⟨k,lo,hi,n⟩,h1,by simp only[hu];simp only[vq,h2,wT,if_neg hc];exact q2⟩
 .cases h
def Pe:Op->Bool
 | .move _| .assign _| .nilCheck _| .fieldAddr .. | .indexAddr .. =>true
 |_=>false
theorem dT {ev:Operand->AC}{op:Op}{m m2:Mem}{g:G}{rr:R}(hp:Pe op=true)(h:aOp P ev op m g=some rr):rr.m=m/\aOp P ev op m2 g=some { rr with m:=m2 }:=by
 cases op<;>first
  |(cases hp;done)
  |(simp only[aOp] at h⊢;cases h;exact⟨rfl,rfl⟩)
  |(simp only[aOp] at h⊢;exact Se h)
  |(simp only[aOp] at h⊢;exact Q8 h)
  |(simp only[aOp] at h⊢;exact Q7 h)
theorem bN {k:Nat}{ev:Operand->AC}{op:Op}{m m2:Mem}{g:G}{rr:R}(hp:Pe op=true)(h:FP k P ev op m g=some rr):rr.m=m/\FP k P ev op m2 g=some { rr with m:=m2 }:=by
 unfold FP at h⊢;cases op<;>first
  |(cases hp;done)
  |(split at h<;>first
    |(cases h;done)
    |exact dT hp h)
theorem ZH {s s':RS}{o:Oper}(hp:Pe o.op=true)(h:CO P call ys ops pc s o=some s'):s'.mem=s.mem/\∀m,CO P call ys ops pc { s with mem:=m } o=some { s' with mem:=m }:=by
 unfold CO at h⊢;simp only[vq,vn] at h;obtain⟨⟨run,s1⟩,hg,h⟩:=h;have gm:=(Gi hg).2.2;simp only at h;have hg2:∀m,DV ops pc { s with mem:=m } o=some (run,{ s1 with mem:=m }):=fun m=>by rw[Wn,hg];rfl
 simp only[vq,hg2,wT];split at h
 .cases h
 rename_i hno;simp only[hno,wM,if_false];split at h
 .cases h;exact⟨gm,fun m=>rfl⟩
 .rename_i pc' imp;split at h
  .rename_i f args ts ho;rw[ho] at hp;cases hp
  .rename_i ho;rw[ho] at hp;cases hp
  .rename_i op h1 h2;simp only[vn] at h;obtain⟨rr,hr,h⟩:=h;have hr2:=fun m2=>bN (m2:=m2) hp hr;split at h
   .cases h;refine⟨(hr2 s.mem).1.trans gm,fun m=>?_⟩;rw[(hr2 m).2];rfl
   .rename_i imp' hne;split at h
    .rename_i hf;cases h;refine⟨gm,fun m=>?_⟩;have hr3:=(hr2 m).2;cases imp with
     |nil=>exact absurd rfl hne
     |cons c imp=>
      simp only at hr3⊢;rw[hr3];simp only[wT,hf,if_true]
    .rename_i hf;exact absurd (by cases hop:o.op<;>rw[hop] at hp<;>first|rfl|cases hp) hf
end
section
variable {qc md:Bool}{tg:List Tmp}{P:Program}{T:Tab}{call:Ak}{ys:Ys}{r:Option Nat}{kk:Nat}{ops:Array Oper}{pc:PC}
theorem C1 {R j:Nat}{o:Oper}{S S':DS}{D DA:List (Tmp × Nat)}{RA:List Nat}(h:Qi qc md tg P call ys ops D DA RA pc R j o S=some S'):
  ∃s' c,CO P call ys ops pc (S.masked D (okG RA R j) R (Ap ops o)) o=some s'/\S'=⟨Ci S.tmps o.dst c,if Nat.ble 3 (AG qc DA o) then (if Nat.beq (AG qc DA o) 4 then Iq tg o.dst S.mem s'.mem else s'.mem) else S.mem,s'.g,(FH s' (FF R S.gls).length).map (fun e=>(j,e))++S.gls⟩/\
   (∀d,o.dst=some d->c=(s'.tmps.get d).getD .any)/\(AG qc DA o=3->md=false->BW S.mem s'.mem=true)/\(AG qc DA o=0->AC.nlt s'.g.n c=true/\Ph S.g.n (S.masked D (okG RA R j) R (Ap ops o)).tmps o c=true)/\
   (md=true->AG qc DA o < 2->∀d c0,o.dst=some d->S'.tmps.get d=some c0->AC.noVec c0=true)/\
   (∀e∈FH s' (FF R S.gls).length,e∈s'.gl/\R.testBit e.j=true)/\(AG qc DA o=4->∃d,o.dst=some d/\d < S.tmps.n)/\
   (AG qc DA o=2->BA o.op=true\/((∀id,S.mem.at id≠ .pad->s'.mem.at id=S.mem.at id)/\(AC.free c=true\/∀id,s'.mem.at id≠ .pad->S.mem.at id≠ .pad))):=by
 unfold Qi at h;simp only[vq,vn] at h;obtain⟨s',hs,h⟩:=h;generalize hX:((FH s' (FF R S.gls).length).all (fun e=>R.testBit e.j)&&((if Nat.ble 3 (AG qc DA o) then (md||BW S.mem s'.mem) else if Nat.beq (AG qc DA o) 0 then AC.nlt s'.g.n (EP s'.tmps o.dst)&&Ph S.g.n (S.masked D (okG RA R j) R (Ap ops o)).tmps o (EP s'.tmps o.dst) else true)&&(!md||Nat.ble 2 (AG qc DA o)||AC.noVec (EP (Ci S.tmps o.dst (EP s'.tmps o.dst)) o.dst))&&(!Nat.beq (AG qc DA o) 4||(match o.dst with|some d=>Nat.blt d S.tmps.n|none=>false)))&&(!Nat.beq (AG qc DA o) 2||BA o.op||(GO S.mem s'.mem&&(Nat.beq s'.mem.length S.mem.length||AC.free (EP s'.tmps o.dst)))))=X at h;cases X with
 |false=>simp at h
 |true=>
  rw[vo,vo,vo,vo] at hX;obtain⟨⟨h1,⟨h2,h3⟩,h4⟩,h5⟩:=hX;rw[if_pos rfl] at h;injection h with h
  refine⟨s',_,hs,h.symm,fun d hd=>by rw[hd];rfl,fun hk hm=>?_,fun hk=>?_,fun hm hk d c0 hd hc=>?_,fun e he=>⟨List.mem_of_mem_take he,wR.1 h1 e he⟩,fun hk=>?_,fun hk=>?_⟩
  .rw[hk,hm] at h2;exact h2
  .rw[hk] at h2;have h2':(AC.nlt s'.g.n (EP s'.tmps o.dst)&&Ph S.g.n (S.masked D (okG RA R j) R (Ap ops o)).tmps o (EP s'.tmps o.dst))=true:=h2;rw[vo] at h2';exact h2'
  .have hb:Nat.ble 2 (AG qc DA o)=false:=by
    cases hx:Nat.ble 2 (AG qc DA o) with
    |false=>rfl
    |true=>have:=wN hx;omega
   rw[hm,hb] at h3;simp only[Bool.not_true,Bool.or_self,Bool.false_or] at h3;rw[<-h] at hc;simp only at hc;rw[hd] at h3 hc;simp only[EP] at h3;simp only[EP] at hc;rw[hc] at h3;exact h3
  .rw[hk] at h4;rw[show Nat.beq 4 4=true from rfl,Bool.not_true,Bool.false_or] at h4;cases hd:o.dst with
   |none=>rw[hd] at h4;exact absurd h4 (by simp)
   |some d=>
    rw[hd] at h4;exact⟨d,rfl,DL h4⟩
  .rw[hk] at h5;rw[show Nat.beq 2 2=true from rfl,Bool.not_true,Bool.false_or,wU] at h5;rcases h5 with h5|h5
   .exact .inl h5
   .right;rw[vo,wU] at h5;obtain⟨k1,k2⟩:=Gd h5.1;have hlt:∀id,S.mem.at id≠ .pad->id < S.mem.length:=fun id hp=>by
     rcases wD id S.mem.length with h|h
     .exact h
     .exact absurd (Mem.at_ge h) hp
    refine⟨fun id hp=>k2 id (hlt id hp),?_⟩;rcases h5.2 with h6|h6
    .right;intro id hp;have hl:=vp h6;have hlt2:id < s'.mem.length:=by
      rcases wD id s'.mem.length with h|h
      .exact h
      .exact absurd (Mem.at_ge h) hp
     rw[<-k2 id (by omega)];exact hp
    .exact .inl h6
structure BL (qc md:Bool) (tg:List Tmp) (P:Program) (T:Tab) (call:Ak) (ys:Ys) (ops:Array Oper) (pc:PC) (S:Nat->DS):Prop where
 step:∀j o,ops[j]? =some o->∃R,(AQ ops.toList [])[j]? =some R/\Qi qc md tg P call ys ops (Ah 0 ops.toList) (AL 0 ops.toList) (AQ ops.toList []) pc R j o (S j)=some (S (j+1))
 masks:FM (AQ ops.toList []) 0=true
 nodup:Ej (ops.toList.filterMap (·.dst))=true
 ord:∀(i:Nat) (o:Oper) (R:Nat),ops[i]? =some o->(AQ ops.toList [])[i]? =some R->∀j oj,ops[j]? =some oj->j < i->
  (AG qc (AL 0 ops.toList) o=3->R.testBit j=true\/AG qc (AL 0 ops.toList) oj=0)/\(AG qc (AL 0 ops.toList) o=2->R.testBit j=true\/AG qc (AL 0 ops.toList) oj<=2)
 wide:∀(i:Nat) (o:Oper) (R:Nat),ops[i]? =some o->(AQ ops.toList [])[i]? =some R->AG qc (AL 0 ops.toList) o≠0->AG qc (AL 0 ops.toList) o≠4->∀j oj,ops[j]? =some oj->j < i->AG qc (AL 0 ops.toList) oj=4->R.testBit j=true->
  ∀m om,ops[m]? =some om->m < j->R.testBit m=true\/AG qc (AL 0 ops.toList) om=0
 call:∀T,CS P T call
 ys:CL P T.lp ys
 gl0:(S 0).gls=[]
variable {S:Nat->DS}
theorem BL.op {j:Nat}(hj:j < ops.size):∃o,ops[j]? =some o:=⟨_,Array.getElem?_eq_getElem hj⟩
structure iW (S S':DS):Prop where
 grow:AR S.g S'.g
 len:S'.tmps.n=S.tmps.n
 gls:∀p∈S.gls,p∈S'.gls
theorem BL.later (H:BL qc md tg P T call ys ops pc S)(i:Nat):∀k,i+k<=ops.size->iW (S i) (S (i+k))/\
  (∀t,(∀j o,i<=j->j < i+k->ops[j]? =some o->o.dst≠some t)->(S (i+k)).tmps.get t=(S i).tmps.get t)/\
  ((∀j o,i<=j->j < i+k->ops[j]? =some o->AG qc (AL 0 ops.toList) o < 3)->(S (i+k)).mem=(S i).mem)
 |0,_=>⟨⟨AR.refl _,rfl,fun _ h=>h⟩,fun _ _=>rfl,fun _=>rfl⟩
 |k+1,hk=>by
  obtain⟨h1,h2,h3⟩:=H.later i k (by omega);obtain⟨o,ho⟩:=BL.op (ops:=ops) (j:=i+k) (by omega);obtain⟨R,hR,hs⟩:=H.step (i+k) o ho;obtain⟨s',c,a1,a2,a3,a4,a5,a7,a6,a8,a9⟩:=C1 hs;obtain⟨b1,_⟩:=I7 (r:=none) (kk:=0) (H.call T) H.ys a1;have e:S (i+(k+1))=S (i+k+1):=rfl;refine⟨⟨?_,?_,?_⟩,fun t ht=>?_,fun hm=>?_⟩
  .rw[e,a2];exact h1.grow.trans b1
  .rw[e,a2];simp only;rw[<-h1.len,Fb]
  .intro p hp;rw[e,a2];exact wB _ (h1.gls p hp)
  .rw[e,a2];simp only;rw[<-h2 t (fun j o h1 h2=>ht j o h1 (by omega))];exact OZ _ _ (ht (i+k) o (by omega) (by omega) ho)
  .rw[e,a2];have hne:=hm (i+k) o (by omega) (by omega) ho;have hb:Nat.ble 3 (AG qc (AL 0 ops.toList) o)=false:=by
    cases hx:Nat.ble 3 (AG qc (AL 0 ops.toList) o) with
    |false=>rfl
    |true=>have:=wN hx;omega
   simp only[hb];exact h3 fun j o h1 h2=>hm j o h1 (by omega)
theorem BL.gls (H:BL qc md tg P T call ys ops pc S):∀k,k<=ops.size->∀p∈(S k).gls,p.1 < k/\p∈(S (p.1+1)).gls
 |0,_,p,hp=>by rw[H.gl0] at hp;cases hp
 |k+1,hk,p,hp=>by
  obtain⟨o,ho⟩:=BL.op (ops:=ops) (j:=k) (by omega);obtain⟨R,hR,hs⟩:=H.step k o ho;obtain⟨s',c,a1,a2,a3,a4,a5,a7,a6,a8,a9⟩:=C1 hs;have hp0:=hp;rw[a2] at hp;rcases wc.1 hp with h1|h1
  .obtain⟨e,he,rfl⟩:=List.mem_map.1 h1;exact⟨Nat.lt_succ_self _,hp0⟩
  .obtain⟨q1,q2⟩:=H.gls k (by omega) p h1;exact⟨by omega,q2⟩
def Pd (qc:Bool)(ops:Array Oper)(listed:Array Bool)(q:Nat)(A:Nat->Nat)(b:Nat):Prop:=
 ∃i o,ops[i]? =some o/\AG qc (AL 0 ops.toList) o=4/\listed.getD i false=true/\q<=i/\A i=b
def frO (qc:Bool)(T:Tab)(ops:Array Oper)(listed:Array Bool)(q:Nat)(A:Nat->Nat):Nat->Nat->Prop:=fun b off=>T.fr b off/\¬Pd qc ops listed q A b
structure A9 (qc:Bool) (P:Program) (T:Tab) (ops:Array Oper) (S:Nat->DS) (ρ0:Nat->Option Nat) (w0:World) (A:Nat->Nat) (q:Nat) (listed:Array Bool) (ρ :Nat->Option Nat) (a:Act) (w:World):Prop where
 size:listed.size=ops.size
 closed:K3 ops listed
 qle:q<=ops.size
 base:∀j o,j < q->ops[j]? =some o->listed.getD j false=true\/AG qc (AL 0 ops.toList) o=0
 mlist:∀j o,ops[j]? =some o->AG qc (AL 0 ops.toList) o=3->(listed.getD j false=true↔j < q)
 defers:Co T.base ρ (S q).mem w a.defers
 asize:a.tmps.size=(S 0).tmps.n
 mem:AD (T.wf (frO qc T ops listed q A)) (S q).g.n ρ (S q).mem w
 init:∀t c,(S 0).tmps.get t=some c->(∀i o,ops[i]? =some o->o.dst=some t->listed.getD i false=false)->AA (T.wf (frO qc T ops listed q A)) (S 0).g.n ρ (S q).mem w c (a.tmps.getD t undef)
 facts:∀i o d c,listed.getD i false=true->ops[i]? =some o->o.dst=some d->(S (i+1)).tmps.get d=some c->(AG qc (AL 0 ops.toList) o=4->i < q)->AA (T.wf (frO qc T ops listed q A)) (S (i+1)).g.n ρ (S q).mem w c (a.tmps.getD d undef)
 gfacts:∀p∈(S ops.size).gls,listed.getD p.1 false=true->El T ops (S (p.1+1)).g.n a p.2/\listed.getD p.2.j false=true
 pend:∀i o,ops[i]? =some o->AG qc (AL 0 ops.toList) o=4->listed.getD i false=true->q<=i->w0.heap.size<=A i/\(∀id,((S q).mem.at id).tracked=true-> ρ id≠some (A i))/\
  (∀d,o.dst=some d->a.tmps.getD d undef= .pointer (some ⟨A i,0,none⟩))/\∃t l vs,o.op= .alloc t/\(S (i+1)).mem=(S i).mem++[.cells l t]/\w.heap[A i]? =some (.cells (vs:List Value).toArray t (0,0))/\∀(T:Tab) (n:Nat) (ρ :Nat->Option Nat) (m:Mem) (w:World),AB T n ρ m w l vs
 inj:∀i j oi oj,ops[i]? =some oi->ops[j]? =some oj->AG qc (AL 0 ops.toList) oi=4->AG qc (AL 0 ops.toList) oj=4->listed.getD i false=true->listed.getD j false=true->q<=i->q<=j->A i=A j->i=j
 st:AE T (S 0).g.n ρ0 (S 0).mem w0 ρ (S q).mem w
variable {ρ0:Nat->Option Nat}{w0:World}{A:Nat->Nat}{q:Nat}{listed:Array Bool}{ρ :Nat->Option Nat}{a:Act}{w:World}
theorem A9.val (H:BL qc md tg P T call ys ops pc S)(I:A9 qc P T ops S ρ0 w0 A q listed ρ a w){k:Nat}(hk:k<=ops.size){t:Nat}{c:AC}(hc:(S k).tmps.get t=some c)
  (hl:∀i o,ops[i]? =some o->o.dst=some t->(listed.getD i false=true/\i < k/\(AG qc (AL 0 ops.toList) o=4->i < q))\/listed.getD i false=false/\k<=i):AA (T.wf (frO qc T ops listed q A)) (S k).g.n ρ (S q).mem w c (a.tmps.getD t undef):=by
 by_cases hex:∃i o,ops[i]? =some o/\o.dst=some t/\i < k
 .obtain⟨i,o,ho,hd,hik⟩:=hex;rcases hl i o ho hd with⟨h1,_,h4⟩|⟨_,h2⟩
  .obtain⟨l1,l2,_⟩:=H.later (i+1) (k - (i+1)) (by omega);rw[show i+1+(k - (i+1))=k by omega] at l1 l2;have:=l2 t (fun j o' hj1 hj2 ho' hd'=>by
    have:=Cg H.nodup ho ho' hd hd';omega)
   rw[this] at hc;exact (I.facts i o t c h1 ho hd hc h4).up0 l1.grow.n
  .omega
 .obtain⟨l1,l2,_⟩:=H.later 0 k (by omega);rw[v8] at l1 l2;have:=l2 t (fun j o' hj1 hj2 ho' hd'=>hex ⟨j,o',ho',hd',by omega⟩);rw[this] at hc;refine (I.init t c hc fun i o ho hd=>?_).up0 l1.grow.n;rcases hl i o ho hd with⟨_,h2,_⟩|⟨h1,_⟩
  .exact absurd ⟨i,o,ho,hd,h2⟩ hex
  .exact h1
theorem Gv (D:List (Tmp × Nat))(ok:Nat->Bool)(s:AO):∀(l:List Tmp) (t:Tmp) (c:AC),A6 (Bq D ok s l) t=some c->t∈l
 |[],_,_,h=>by simp[Bq,A6] at h
 |x::r,t,c,h=>by
  have key:∀c0:AC,A6 ((x,c0)::Bq D ok s r) t=some c->t∈x::r:=fun c0 h=>by
   by_cases e:t=x
   .rw[e];exact wA
   .refine vz _ (Gv D ok s r t c ?_);have hb:Nat.beq x t=false:=by
     cases hx:Nat.beq x t with
     |false=>rfl
     |true=>exact absurd (vp hx).symm e
    change (bif Nat.beq x t then some c0 else A6 (Bq D ok s r) t)=some c at h;rw[hb] at h;exact h
  simp only[Bq] at h;cases hc0:s.get x with
  |none=>rw[hc0] at h;exact vz _ (Gv D ok s r t c h)
  |some c0=>
   rw[hc0] at h;simp only at h;cases hm:An D x with
   |none=>rw[hm] at h;exact key c0 (by simpa using h)
   |some i=>
    rw[hm] at h;simp only at h;split at h
    .exact key c0 h
    .exact vz _ (Gv D ok s r t c h)
theorem Yv {S:DS}{D:List (Tmp × Nat)}{ok:Nat->Bool}{R:Nat}{CD:List Tmp}{t:Tmp}{c:AC}(h:(S.masked D ok R CD).tmps.get t=some c):t∈CD:=by
 simp only[DS.masked,AO.get] at h;cases hx:A6 (Bq D ok S.tmps CD) t with
 |none=>rw[hx] at h;simp[Tr.get] at h
 |some d=>exact Gv _ _ _ _ _ _ hx
theorem El.wf {F:Nat->Nat->Prop}{n:Nat}{e:GE}(h:El T ops n a e):El (T.wf F) ops n a e:=⟨h.lt,h.bool,h.iff,h.imp,h.ne⟩
theorem El.un {F:Nat->Nat->Prop}{n:Nat}{e:GE}(h:El (T.wf F) ops n a e):El T ops n a e:=⟨h.lt,h.bool,h.iff,h.imp,h.ne⟩
theorem A9.masked {CD:List Tmp}(H:BL qc md tg P T call ys ops pc S)(I:A9 qc P T ops S ρ0 w0 A q listed ρ a w){j R:Nat}{g:G}(hj:j < ops.size)(hun:listed.getD j false=false)(hR:(AQ ops.toList [])[j]? =some R)(hlR:∀i,R.testBit i=true->listed.getD i false=true)
  (hcov:∀t i oi,t∈CD->ops[i]? =some oi->oi.dst=some t->AG qc (AL 0 ops.toList) oi=4->R.testBit i=true->i < q) (hg1:(S j).g.n<=g.n) (hg2:(S q).g.n<=g.n):
  Bm (T.wf (frO qc T ops listed q A)) ρ ops { (S j).masked (Ah 0 ops.toList) (okG (AQ ops.toList []) R j) R CD with mem:=(S q).mem,g:=g } a w:=by
 obtain⟨l1,_⟩:=H.later 0 j (by omega);rw[v8] at l1;have hlt:=EI _ 0 H.masks j R hR;refine⟨⟨I.defers,?_,fun t c hc=>?_,I.mem.mono hg2⟩,fun e he=>?_⟩
 .simp only[DS.masked];rw[I.asize,l1.len]
 .obtain⟨h1,h2⟩:=Pa (R:=R) H.nodup hc;have hrd:=Yv (R:=R) hc;refine (I.val H (by omega) h1 fun i o ho hd=>?_).up0 hg1;have hb:=h2 i o ho hd;simp only[okG,wU] at hb;rcases hb with hb|hb
  .exact .inl ⟨hlR i hb,by have:=hlt i hb;omega,fun h4=>hcov t i o hrd ho hd h4 hb⟩
  .right;have hi:i < (AQ ops.toList []).length:=by
    rw[CJ];exact (vx.1 ho).1
   have hRi:(AQ ops.toList [])[i]? =some ((AQ ops.toList []).getD i 0):=by
    simp[List.getD,vt hi]
   have hlt2:=EI _ 0 H.masks i _ hRi j hb;refine⟨?_,by omega⟩;cases hx:listed.getD i false with
   |false=>rfl
   |true=>
    have:=CB I.closed hRi ho (I.closed i o ho hx) j hb;rw[hun] at this;cases this
 .simp only[DS.masked,FF,List.mem_map,List.mem_filter] at he;obtain⟨p,⟨hp,hb⟩,rfl⟩:=he;have hlp:=hlR p.1 hb;have hpj:p.1 < j:=by have:=hlt p.1 hb;omega
  obtain⟨l2,_⟩:=H.later j (ops.size - j) (by omega);rw[show j+(ops.size - j)=ops.size by omega] at l2;obtain⟨l3,_⟩:=H.later (p.1+1) (j - (p.1+1)) (by omega);rw[show p.1+1+(j - (p.1+1))=j by omega] at l3;exact ((I.gfacts p (l2.gls p hp) hlp).1.up (wI l3.grow.n hg1)).wf
end
section
variable {qc md:Bool}{tg:List Tmp}{P:Program}{T:Tab}{call:Ak}{ys:Ys}{r:Option Nat}{kk:Nat}{ops:Array Oper}{pc:PC}
theorem Xo {ev:Operand->AC}{op:Op}{x:Operand}(ho:op= .move x\/op= .assign x\/∃k,op= .extract x k)(k:Nat):(∀m g,FP k P ev op m g=aOp P ev op m g)\/∀m g,FP k P ev op m g=none:=by
 match k with
 |0=>exact .inl fun _ _=>rfl
 |1=>rcases ho with rfl|rfl|⟨k,rfl⟩<;>exact .inr fun _ _=>rfl
 |n+2=>rcases ho with rfl|rfl|⟨k,rfl⟩<;>exact .inl fun _ _=>rfl
theorem YU {s s':RS}{o:Oper}{x:Operand}(hg:o.guard=none)(ho:o.op= .move x\/o.op= .assign x\/∃k,o.op= .extract x k)(h:CO P call ys ops pc s o=some s'):
  s'.mem=s.mem/\s'.g=s.g/\s'.gl=s.gl/\∀m g,CO P call ys ops pc { s with mem:=m,g:=g } o=some { s' with mem:=m,g:=g }:=by
 unfold CO DV at h⊢;simp only[hg,vq,wT] at h⊢;split at h
 .cases h
 rename_i hno;simp only[hno];have key:=Xo (P:=P) (ev:=DF [] s.tmps) ho (dg ys o.dst);generalize dg ys o.dst=K at h key⊢;rcases ho with ho|ho|⟨k,ho⟩
 .rw[ho] at h key⊢;rcases key with key|key
  .simp only[key,aOp,wT] at h⊢;cases h;exact⟨rfl,rfl,rfl,fun m g=>rfl⟩
  .simp only[key] at h;cases h
 .rw[ho] at h key⊢;rcases key with key|key
  .simp only[key,aOp,wT] at h⊢;cases h;exact⟨rfl,rfl,rfl,fun m g=>rfl⟩
  .simp only[key] at h;cases h
 .rw[ho] at h key⊢;rcases key with key|key
  .simp only[key,aOp,Lv] at h⊢;generalize DF [] s.tmps x=e at h⊢;cases e
   case tup l=>
    simp only[vn,wK] at h;obtain⟨rr,⟨c,hc,rfl⟩,h⟩:=h;cases h;refine⟨rfl,rfl,rfl,fun m g=>?_⟩;simp only[hc,Option.map_some,wT];rfl
   all_goals simp at h
  .simp only[key] at h;cases h
theorem if23 {b:Bool}:(b=true/\(if b=true then 2 else 3)=2)\/(b=false/\(if b=true then 2 else 3)=3):=by cases b<;>simp
theorem cD {s s':RS}{o:Oper}{op:BinOp}{t yt:TypeId}{x y:Operand}(hg:o.guard=none)(ho:o.op= .binOp op t x y yt)(h:CO P call ys ops pc s o=some s'):
  ∃rr,U8 P op t (DF [] s.tmps x) (DF [] s.tmps y) s.mem s.g=some rr/\s'.mem=rr.m/\s'.g=(s.g.pushAll rr.us).needAll pc rr.ps/\s'.gl=s.gl/\s'.tmps=Ci s.tmps o.dst rr.c:=by
 unfold CO DV at h;simp only[hg,vq,wT] at h;split at h
 .cases h
 simp only[ho,vn] at h;obtain⟨rr,hr,h⟩:=h;cases h;have key:∀k,FP k P (DF [] s.tmps) (.binOp op t x y yt) s.mem s.g=some rr->U8 P op t (DF [] s.tmps x) (DF [] s.tmps y) s.mem s.g=some rr:=fun k hk=>by
  match k,hk with
  |0,hk=>exact hk
  |1,hk=>cases hk
  |n+2,hk=>exact hk
 exact⟨rr,key _ hr,rfl,rfl,rfl,rfl⟩
theorem AA.intAny {T:Tab}{n:Nat}{ρ ρ':Nat->Option Nat}{m m':Mem}{w w':World}{c:AC}{v:Value}(hc:(CM c).isSome=true)(h:AA T n ρ m w c v):AA T n ρ' m' w' c v:=by
 cases c<;>first|exact h|cases hc
theorem KZ {qc:Bool}(D:List (Tmp × Nat))(o:Oper):(AG qc D o=0/\o.guard=none/\((∃x,(o.op= .move x\/o.op= .assign x\/∃k,o.op= .extract x k)/\∀t,x= .tmp t->An D t=none)\/∃op t x y yt,o.op= .binOp op t x y yt/\(∀t,x= .tmp t->An D t=none)/\∀t,y= .tmp t->An D t=none))\/(AG qc D o=1/\Pe o.op=true)\/(AG qc D o=2/\(BA o.op=true\/(∃f as ts,o.op= .call { callee:= .value f,args:=as,argTypes:=ts })\/∃t n ps,o.op= .buildSlice t n ps))\/AG qc D o=3\/(AG qc D o=4/\o.guard=none/\∃t,o.op= .alloc t):=by
 unfold AG;have key:∀(b:Bool) (n:Nat),((if (o.guard.isNone&&b)=true then 0 else n)=0/\o.guard=none/\b=true)\/(if (o.guard.isNone&&b)=true then 0 else n)=n:=by
  intro b n;cases b<;>cases o.guard<;>simp
 cases ho:o.op with
 |move x|assign x=>
  simp only;refine (key _ _).elim (fun h=> .inl ⟨h.1,h.2.1,.inl ⟨x,by simp,fun t e=>?_⟩⟩) (fun h=> .inr (.inl ⟨h,rfl⟩));have h2:=h.2.2;subst e;simpa using h2
 |extract x k=>
  simp only;refine (key _ _).elim (fun h=> .inl ⟨h.1,h.2.1,.inl ⟨x,by simp,fun t e=>?_⟩⟩) (fun h=> .inr (.inr (.inl ⟨h,.inl rfl⟩)));have h2:=h.2.2;subst e;simpa using h2
 |binOp op ty x y yt=>
  simp only;have two:∀x:Operand,(match x with| .tmp t=>(An D t).isNone|_=>true)=true->∀t,x= .tmp t->An D t=none:=fun x h t e=>by
   subst e;simpa using h
  refine (key _ _).elim (fun h=> .inl ⟨h.1,h.2.1,.inr ⟨op,ty,x,y,yt,rfl,?_⟩⟩) (fun h=> .inr (.inr (.inl ⟨h,.inl rfl⟩)));have h2:=h.2.2;rw[vo,vo] at h2;exact⟨two x h2.1.2,two y h2.2⟩
 |nilCheck x=>exact .inr (.inl ⟨rfl,rfl⟩)
 |fieldAddr a b c=>exact .inr (.inl ⟨rfl,rfl⟩)
 |indexAddr a b c=>exact .inr (.inl ⟨rfl,rfl⟩)
 |buildSlice t n ps=>
  simp only;cases qc with
  |true=>exact .inr (.inr (.inl ⟨rfl,.inr (.inr ⟨t,n,ps,rfl⟩)⟩))
  |false=>exact .inr (.inr (.inr (.inl rfl)))
 |alloc t=>
  simp only;cases hg:o.guard with
  |none=>exact .inr (.inr (.inr (.inr ⟨rfl,rfl,t,rfl⟩)))
  |some g=>exact .inr (.inr (.inr (.inl rfl)))
 |call c=>
  obtain⟨ce,as,ts⟩:=c;cases ce with
  |value f=>
   cases f with
   |func k=>
    simp only;cases qc with
    |true=>exact .inr (.inr (.inl ⟨rfl,.inr (.inl ⟨_,as,ts,rfl⟩)⟩))
    |false=>exact .inr (.inr (.inr (.inl rfl)))
   |_=>exact .inr (.inr (.inr (.inl rfl)))
  |_=>
   simp only;rcases @if23 (BA o.op) with⟨h1,h2⟩|⟨_,h2⟩
   .rw[ho] at h1 h2;exact .inr (.inr (.inl ⟨h2,.inl h1⟩))
   .rw[ho] at h2;exact .inr (.inr (.inr (.inl h2)))
 |_=>
  simp only;rcases @if23 (BA o.op) with⟨h1,h2⟩|⟨_,h2⟩
  .rw[ho] at h1 h2;exact .inr (.inr (.inl ⟨h2,.inl h1⟩))
  .rw[ho] at h2;exact .inr (.inr (.inr (.inl h2)))
theorem I5:∀(l:List Oper) (k j:Nat) (o:Oper) (t:Tmp) (ty:TypeId),l[j]? =some o->o.op= .alloc ty->o.dst=some t->An (AL k l) t≠none
 |[],_,_,_,_,_,h,_,_=>by simp at h
 |o0::l,k,j,o,t,ty,h,ho,hd=>by
  cases j with
  |zero=>
   simp at h;subst h;unfold AL;rw[ho,hd];show (bif Nat.beq t t then some k else _)≠none;rw[Nat.beq_refl];exact fun h=>by cases h
  |succ j=>
   have ih:=I5 l (k+1) j o t ty (by simpa using h) ho hd;unfold AL;split
   .rename_i t0 _ _;show (bif Nat.beq t0 t then some k else An (AL (k+1) l) t)≠none;cases Nat.beq t0 t with
    |true=>exact fun h=>by cases h
    |false=>exact ih
   .exact ih
theorem Cs {qc:Bool}{D:List (Tmp × Nat)}{o:Oper}(h:AG qc D o=4):o.guard=none/\∃t,o.op= .alloc t:=by
 rcases KZ (qc:=qc) D o with⟨h1,_⟩|⟨h1,_⟩|⟨h1,_⟩|h1|⟨_,h2⟩
 .omega
 .omega
 .omega
 .omega
 .exact h2
theorem IW {qc:Bool}{D:List (Tmp × Nat)}{o:Oper}:AG qc D o=0\/AG qc D o=1\/AG qc D o=2\/AG qc D o=3\/AG qc D o=4:=by
 rcases KZ (qc:=qc) D o with⟨h1,_⟩|⟨h1,_⟩|⟨h1,_⟩|h1|⟨h1,_⟩<;>simp[h1]
theorem VI {k:Nat}{ev:Operand->AC}{t:TypeId}{m:Mem}{g:G}{r:R}(h:FP k P ev (.alloc t) m g=some r):Gy P t m=some r:=
 match k,h with
 |0,h=>h
 |1,h=>nomatch h
 |_+2,h=>h
theorem FY {s s':RS}{o:Oper}{t:TypeId}(hg:o.guard=none)(ho:o.op= .alloc t)(h:CO P call ys ops pc s o=some s'):
  ∃l,Gy P t []=some (M3 l t [])/\s'.tmps=Ci s.tmps o.dst (.ptr s.mem.length 0)/\s'.mem=s.mem++[.cells l t]/\s'.g=s.g/\s'.gl=s.gl:=by
 unfold CO DV at h;simp only[hg,vq,wT] at h;split at h
 .cases h
 .rw[ho] at h;simp only[vq,vn] at h;obtain⟨rr,hr,h⟩:=h;cases h;replace hr:Gy P t s.mem=some rr:=VI hr;unfold Gy at hr⊢;simp only[vq,vn] at hr;obtain⟨i,hi,z,hz,l,hl,hr⟩:=hr;cases hr;refine⟨l,?_,rfl,rfl,rfl,rfl⟩;simp only[hi,hz,hl,vq,wT]
variable {S:Nat->DS}{ρ0:Nat->Option Nat}{w0:World}{A:Nat->Nat}{q:Nat}{listed:Array Bool}{ρ ρ':Nat->Option Nat}{a:Act}{w w':World}
theorem ap {listed':Array Bool}{q':Nat}(h:∀j oj,ops[j]? =some oj->AG qc (AL 0 ops.toList) oj=4->((listed'.getD j false=true/\q'<=j)↔(listed.getD j false=true/\q<=j))):frO qc T ops listed' q' A=frO qc T ops listed q A:=by
 funext b off;apply propext;constructor
 .rintro⟨h1,h2⟩;exact⟨h1,fun⟨i,o,ho,h4,hl,hq,e⟩=>h2 ⟨i,o,ho,h4,((h i o ho h4).2 ⟨hl,hq⟩).1,((h i o ho h4).2 ⟨hl,hq⟩).2,e⟩⟩
 .rintro⟨h1,h2⟩;exact⟨h1,fun⟨i,o,ho,h4,hl,hq,e⟩=>h2 ⟨i,o,ho,h4,((h i o ho h4).1 ⟨hl,hq⟩).1,((h i o ho h4).1 ⟨hl,hq⟩).2,e⟩⟩
theorem A9.plt (I:A9 qc P T ops S ρ0 w0 A q listed ρ a w){i:Nat}{o:Oper}(ho:ops[i]? =some o)(h4:AG qc (AL 0 ops.toList) o=4)(hl:listed.getD i false=true)(hq:q<=i):A i < w.heap.size:=by
 obtain⟨_,_,_,t,l,vs,_,_,h,_⟩:=I.pend i o ho h4 hl hq;exact (vx.1 h).1
theorem AO.get_set_self (s:AO){d:Nat}(c:AC)(h:d < s.n):(s.set d c).get d=some c:=by
 unfold AO.set;have hb:Nat.blt d s.n=true:=Nat.ble_eq_true_of_le h;rw[hb];show (match (bif Nat.beq d d then some c else A6 s.loc d) with|some c=>some c|none=>_)=some c;rw[Nat.beq_refl];rfl
theorem A9.act1 (H:BL qc md tg P T call ys ops pc S)(I:A9 qc P T ops S ρ0 w0 A q listed ρ a w){o:Oper}(ho:ops[q]? =some o)(hl:listed.getD q false=true\/AG qc (AL 0 ops.toList) o=0)(h3:AG qc (AL 0 ops.toList) o≠3):
  ∃ ρ',A9 qc P T ops S ρ0 w0 A (q+1) listed ρ' a w:=by
 have hqN:q < ops.size:=(vx.1 ho).1;obtain⟨lq,_,lm⟩:=H.later q 1 (by omega);have hbase:∀j o,j < q+1->ops[j]? =some o->listed.getD j false=true\/AG qc (AL 0 ops.toList) o=0:=fun j oj hj hoj=>by
  rcases wD j q with h|h
  .exact I.base j oj h hoj
  .have:j=q:=by omega
   subst this;rw[ho] at hoj;cases hoj;exact hl
 have hml:∀j o,ops[j]? =some o->AG qc (AL 0 ops.toList) o=3->(listed.getD j false=true↔j < q+1):=fun j oj hoj hj3=>by
  have hne:j≠q:=fun e=>by subst e;rw[ho] at hoj;cases hoj;exact h3 hj3
  rw[I.mlist j oj hoj hj3];omega
 by_cases h4:AG qc (AL 0 ops.toList) o=4
 .
  have hlq:listed.getD q false=true:=hl.resolve_right (by omega);obtain⟨p1,p2,p3,t,l,vs,p4,p5,p6,p7⟩:=I.pend q o ho h4 hlq (vr _);obtain⟨R,hR,hs⟩:=H.step q o ho;obtain⟨s',c,a1,a2,a3,a4,a5,a7,a6,a8,a9⟩:=C1 hs;obtain⟨d,hd,hdn⟩:=a8 h4;obtain⟨hg,_⟩:=Cs h4;obtain⟨l0,b1,b2,b3,b4,b5⟩:=FY hg p4 a1;obtain⟨k,hk⟩:∃k,k=(S q).mem.length:=⟨_,rfl⟩;have hm:(S (q+1)).mem=(S q).mem++[.cells l t]:=p5;have hpk:(S q).mem.at k= .pad:=Mem.at_ge (by omega);obtain⟨ρ',hρ⟩:∃ ρ', ρ'=B5 ρ k (A q):=⟨_,rfl⟩;have hρk: ρ' k=some (A q):=by rw[hρ];exact Af _ _ _
  have hatk:((S q).mem++[Blk.cells l t]).at k= .cells l t:=by rw[hk,AN,if_pos rfl]
  have hato:∀id,id≠k->((S q).mem++[Blk.cells l t]).at id=(S q).mem.at id:=fun id e=>by rw[AN,if_neg (by rw[<-hk];exact e)]
  have hsame:∀id,(S q).mem.at id≠ .pad->((S q).mem++[Blk.cells l t]).at id=(S q).mem.at id/\ ρ' id= ρ id:=fun id hp=>by
   have e:id≠k:=fun e=>by rw[e] at hp;exact hp hpk
   exact⟨hato id e,by rw[hρ];exact Ad _ _ _ e⟩
  have hpad:∀id,(S q).mem.at id= .pad->id≠k->((S q).mem++[Blk.cells l t]).at id= .pad:=fun id hp e=>by rw[hato id e];exact hp
  have hPd:∀b,Pd qc ops listed (q+1) A b->Pd qc ops listed q A b:=fun b ⟨i,oi,h1,h2,h3,h4,h5⟩=>⟨i,oi,h1,h2,h3,by omega,h5⟩;have hF:∀b off,frO qc T ops listed q A b off->frO qc T ops listed (q+1) A b off:=fun b off ⟨h1,h2⟩=>⟨h1,fun h=>h2 (hPd b h)⟩;have chg:Chg T (frO qc T ops listed q A) (frO qc T ops listed (q+1) A) ρ ρ' (S q).mem ((S q).mem++[Blk.cells l t]) w:=by
   refine⟨hsame,fun b off ⟨h1,h2,h3⟩=>⟨h1,hF b off h2,fun id=>?_⟩⟩;by_cases e:id=k
   .subst e;rw[hatk];show ρ' id≠some b;rw[hρk];intro e2;exact h2.2 ⟨q,o,ho,h4,hlq,vr _,Option.some.inj e2⟩
   .by_cases hp:(S q).mem.at id= .pad
    .rw[hpad id hp e];trivial
    .obtain⟨e1,e2⟩:=hsame id hp;rw[e1,e2];exact h3 id
  have hmem:AD (T.wf (frO qc T ops listed (q+1) A)) (S q).g.n ρ' ((S q).mem++[Blk.cells l t]) w:=by
   refine AD.more I.mem chg hpk hpad hρk p2 ?_ (fun b off hb=>?_) fun id b _ _ h off=>hF b off (h off)
   .rw[hatk];exact⟨A q,vs,hρk,p6,p7 _ _ _ _ _⟩
   .exact hF b off (I.mem.fr b off hb)
  refine⟨ρ',⟨I.size,I.closed,by omega,hbase,hml,?_,I.asize,?_,fun tt c hc hno=>?_,fun i oi di ci hli hoi hdi hci hqi=>?_,I.gfacts,fun i oi hoi hi4 hli hqi=>?_,fun i j oi oj h1 h2 h3 h4 h5 h6 h7 h8=>I.inj i j oi oj h1 h2 h3 h4 h5 h6 (by omega) (by omega),?_⟩⟩
  .rw[hm];obtain⟨h0,Ds,h1,h2,h3⟩:=I.defers;refine⟨h0,Ds,h1,h2,fun D hD=>?_⟩;obtain⟨h4,h5,h6⟩:=h3 D hD;refine⟨h4,h5,fun id ht e=>?_⟩;by_cases e2:id=k
   .rw[e2,hρk] at e;cases e;rw[p6] at h5;cases h5
   .rw[hato id e2] at ht;rw[hρ,Ad _ _ _ e2] at e;exact h6 id ht e
  .rw[hm];exact hmem.mono lq.grow.n
  .rw[hm];exact AA.chg chg _ _ (I.init tt c hc hno)
  .rw[hm];by_cases e:i=q
   .subst e;rw[ho] at hoi;cases hoi;rw[hd] at hdi;cases hdi;have hcc:c= .ptr (S i).mem.length 0:=by
     rw[a3 d hd,b2,hd];show ((((S i).masked (Ah 0 ops.toList) (okG (AQ ops.toList []) R i) R (Ap ops o)).tmps.set d (.ptr (S i).mem.length 0)).get d).getD .any=_;rw[AO.get_set_self ((S i).masked (Ah 0 ops.toList) (okG (AQ ops.toList []) R i) R (Ap ops o)).tmps _ hdn];rfl
    have hci2:ci= .ptr k 0:=by
     rw[a2] at hci;simp only[hd,Ci] at hci;rw[AO.get_set_self _ _ hdn] at hci;cases hci;rw[hcc,hk]
    rw[hci2];exact⟨A i,hρk,p3 d hd,by rw[hatk];rfl⟩
   .exact AA.chg chg _ _ (I.facts i oi di ci hli hoi hdi hci fun h=>by have:=hqi h;omega)
  .obtain⟨r1,r2,r3,t2,l2,vs2,r4,r5,r6,r7⟩:=I.pend i oi hoi hi4 hli (by omega);refine⟨r1,fun id ht e=>?_,r3,t2,l2,vs2,r4,r5,r6,r7⟩;rw[hm] at ht;by_cases e2:id=k
   .rw[e2,hρk] at e;have:=I.inj q i o oi ho hoi h4 hi4 hlq hli (vr _) (by omega) (Option.some.inj e);omega
   .rw[hato id e2] at ht;rw[hρ,Ad _ _ _ e2] at e;exact r2 id ht e
  .rw[hm];exact AE.more I.st hsame hpk hpad (by rw[hatk];rfl) hρk p1
 .have hm:(S (q+1)).mem=(S q).mem:=lm fun j oj h1 h2 hoj=>by
   have:j=q:=by omega
   subst this;rw[ho] at hoj;cases hoj;have:=IW (qc:=qc) (D:=AL 0 ops.toList) (o:=o);omega
  have hfr:frO qc T ops listed (q+1) A=frO qc T ops listed q A:=ap fun j oj hoj hj4=>by
   have hne:j≠q:=fun e=>by subst e;rw[ho] at hoj;cases hoj;exact h4 hj4
   constructor<;>(rintro⟨x,y⟩;exact⟨x,by omega⟩)
  refine⟨ρ,⟨I.size,I.closed,by omega,hbase,hml,by rw[hm];exact I.defers,I.asize,by rw[hfr,hm];exact I.mem.mono lq.grow.n,fun tt c hc hno=>by rw[hfr,hm];exact I.init tt c hc hno,fun i oi di ci hli hoi hdi hci hqi=>?_,I.gfacts,fun i oi hoi hi4 hli hqi=>?_,fun i j oi oj h1 h2 h3 h4 h5 h6 h7 h8=>I.inj i j oi oj h1 h2 h3 h4 h5 h6 (by omega) (by omega),by rw[hm];exact I.st⟩⟩
  .rw[hfr,hm];refine I.facts i oi di ci hli hoi hdi hci fun h=>?_;have:=hqi h;have hne:i≠q:=fun e=>by subst e;rw[ho] at hoi;cases hoi;exact h4 h
   omega
  .rw[hm];exact I.pend i oi hoi hi4 hli (by omega)
theorem A9.acts (H:BL qc md tg P T call ys ops pc S):∀(k:Nat) {q:Nat} {ρ :Nat->Option Nat},A9 qc P T ops S ρ0 w0 A q listed ρ a w->q+k<=ops.size->
  (∀j o,q<=j->j < q+k->ops[j]? =some o->(listed.getD j false=true\/AG qc (AL 0 ops.toList) o=0)/\AG qc (AL 0 ops.toList) o≠3)->∃ ρ',A9 qc P T ops S ρ0 w0 A (q+k) listed ρ' a w
 |0,_, ρ,I,_,_=>⟨ρ,I⟩
 |k+1,q, ρ,I,hk,h=>by
  obtain⟨o,ho⟩:=BL.op (ops:=ops) (j:=q) (by omega);obtain⟨h1,h2⟩:=h q o (vr _) (by omega) ho;obtain⟨ρ1,I1⟩:=I.act1 H ho h1 h2;have:=A9.acts H k I1 (by omega) fun j oj hj1 hj2 hoj=>h j oj (by omega) (by omega) hoj;rw[show q+1+k=q+(k+1) by omega] at this;exact this
theorem A9.reach (H:BL qc md tg P T call ys ops pc S)(I:A9 qc P T ops S ρ0 w0 A q listed ρ a w){i R:Nat}{o:Oper}(ho:ops[i]? =some o)(hR:(AQ ops.toList [])[i]? =some R)(hlR:∀j,R.testBit j=true->listed.getD j false=true)(h0:AG qc (AL 0 ops.toList) o≠0)(h4:AG qc (AL 0 ops.toList) o≠4)(hq:q<=i):
  ∀k,k<=i->∃q' ρ',A9 qc P T ops S ρ0 w0 A q' listed ρ' a w/\q<=q'/\q'<=i/\∀j oj,j < k->ops[j]? =some oj->AG qc (AL 0 ops.toList) oj=4->R.testBit j=true->j < q'
 |0,_=>⟨q, ρ,I,vr _,hq,fun j oj h=>by omega⟩
 |k+1,hk=>by
  obtain⟨q1, ρ1,I1,hq1,hq2,hc⟩:=I.reach H ho hR hlR h0 h4 hq k (by omega);have hiN:i < ops.size:=(vx.1 ho).1;obtain⟨ok,hok⟩:=BL.op (ops:=ops) (j:=k) (by omega);by_cases hx:AG qc (AL 0 ops.toList) ok=4/\R.testBit k=true/\q1<=k
  .obtain⟨x1,x2,x3⟩:=hx;have hw:=H.wide i o R ho hR h0 h4 k ok hok (by omega) x1 x2;obtain⟨ρ2,I2⟩:=A9.acts H (k+1 - q1) I1 (by omega) fun j oj hj1 hj2 hoj=>by
    have hjl:listed.getD j false=true\/AG qc (AL 0 ops.toList) oj=0:=by
     by_cases e:j=k
     .subst e;exact .inl (hlR j x2)
     .exact (hw j oj hoj (by omega)).imp (hlR j) (fun h=>h)
    refine⟨hjl,fun h3=>?_⟩;rcases hjl with h|h
    .have:=(I1.mlist j oj hoj h3).1 h;omega
    .omega
   rw[show q1+(k+1 - q1)=k+1 by omega] at I2;exact⟨k+1, ρ2,I2,by omega,by omega,fun j oj hj _ _ _=>hj⟩
  .refine⟨q1, ρ1,I1,hq1,hq2,fun j oj hj hoj h4 hb=>?_⟩;by_cases e:j=k
   .subst e;rw[hok] at hoj;cases hoj;rcases wD j q1 with h|h
    .exact h
    .exact absurd ⟨h4,hb,h⟩ hx
   .exact hc j oj (by omega) hoj h4 hb
end
section
variable {qc md:Bool}{tg:List Tmp}{P:Program}{T:Tab}{call:Ak}{ys:Ys}{r:Option Nat}{kk:Nat}{ops:Array Oper}{pc:PC}
variable {S:Nat->DS}{ρ0:Nat->Option Nat}{w0:World}{A:Nat->Nat}{q:Nat}{listed:Array Bool}{ρ ρ':Nat->Option Nat}{a:Act}{w w':World}
theorem A9.next (H:BL qc md tg P T call ys ops pc S)(I:A9 qc P T ops S ρ0 w0 A q listed ρ a w){i:Nat}{o:Oper}(ho:ops[i]? =some o)(hun:listed.getD i false=false)
  (hready:∀e∈o.after,Region.binds .any e=true->listed.getD e.on false=true) {q':Nat} {v:Value} (hq':q'<=ops.size) (hi4:AG qc (AL 0 ops.toList) o≠4)
  (hc4:∀j oj,ops[j]? =some oj->AG qc (AL 0 ops.toList) oj=4->listed.getD j false=true->(j < q'↔j < q)) {n0:Nat} (rs:AE T n0 ρ (S q).mem w ρ' (S q').mem w') (hst:AE T (S 0).g.n ρ0 (S 0).mem w0 ρ' (S q').mem w')
  (st0:∀c z,AA (T.wf (frO qc T ops listed q A)) (S 0).g.n ρ (S q).mem w c z->AA (T.wf (frO qc T ops listed q A)) (S 0).g.n ρ' (S q').mem w' c z)
  (st:∀j oj d c z,listed.getD j false=true->ops[j]? =some oj->oj.dst=some d->(S (j+1)).tmps.get d=some c->AA (T.wf (frO qc T ops listed q A)) (S (j+1)).g.n ρ (S q).mem w c z->AA (T.wf (frO qc T ops listed q A)) (S (j+1)).g.n ρ' (S q').mem w' c z) (hmem:AD (T.wf (frO qc T ops listed q A)) (S q').g.n ρ' (S q').mem w') (hsz:(a.put o.dst v).tmps.size=(S 0).tmps.n)
  (hdef:Co T.base ρ' (S q').mem w' (a.put o.dst v).defers)
  (hbase:∀j o',j < q'->ops[j]? =some o'->(listed.setIfInBounds i true).getD j false=true\/AG qc (AL 0 ops.toList) o'=0)
  (hml:∀j o',ops[j]? =some o'->AG qc (AL 0 ops.toList) o'=3->((listed.setIfInBounds i true).getD j false=true↔j < q'))
  (hval:∀d c0,o.dst=some d->(S (i+1)).tmps.get d=some c0->AA (T.wf (frO qc T ops listed q A)) (S (i+1)).g.n ρ' (S q').mem w' c0 ((a.put o.dst v).tmps.getD d undef))
  (hge:∀p∈(S ops.size).gls,p.1=i->El T ops (S (i+1)).g.n (a.put o.dst v) p.2/\listed.getD p.2.j false=true):
  A9 qc P T ops S ρ0 w0 A q' (listed.setIfInBounds i true) ρ' (a.put o.dst v) w':=by
 have hisz:i < listed.size:=by rw[I.size];exact (vx.1 ho).1
 have hlj:∀j oj,ops[j]? =some oj->AG qc (AL 0 ops.toList) oj=4->(listed.setIfInBounds i true).getD j false=true->listed.getD j false=true/\j≠i:=fun j oj hoj hj4 hl=>by
  have hne:j≠i:=fun e=>by subst e;rw[ho] at hoj;cases hoj;exact hi4 hj4
  rw[Aj _ _ _ hisz,if_neg hne] at hl;exact⟨hl,hne⟩
 have hfr:frO qc T ops (listed.setIfInBounds i true) q' A=frO qc T ops listed q A:=ap fun j oj hoj hj4=>by
  have hne:j≠i:=fun e=>by subst e;rw[ho] at hoj;cases hoj;exact hi4 hj4
  rw[Aj _ _ _ hisz,if_neg hne];constructor
  .rintro⟨x,y⟩;have:=hc4 j oj hoj hj4 x;exact⟨x,by omega⟩
  .rintro⟨x,y⟩;have:=hc4 j oj hoj hj4 x;exact⟨x,by omega⟩
 refine⟨by simp[I.size],?_,hq',hbase,hml,hdef,hsz,by rw[hfr];exact hmem,?_,?_,?_,?_,?_,hst⟩
 .
  intro j oj hoj hlj e he hb;rw[Aj _ _ _ hisz] at hlj⊢;split
  .rfl
  .split at hlj
   .rename_i hji;subst hji;rw[ho] at hoj;cases hoj;exact hready e he hb
   .exact I.closed j oj hoj hlj e he hb
 .
  intro t c0 hc hno;rw[hfr];have hne:o.dst≠some t:=fun hd=>by
   have:=hno i o ho hd;rw[Aj _ _ _ hisz,if_pos rfl] at this;cases this
  rw[C6 hne];refine st0 _ _ (I.init t c0 hc fun j oj hoj hd=>?_);have:=hno j oj hoj hd;rw[Aj _ _ _ hisz] at this;split at this
  .cases this
  .exact this
 .
  intro j oj d c0 hlj hoj hd hc hjq;rw[hfr];rw[Aj _ _ _ hisz] at hlj;split at hlj
  .rename_i hji;subst hji;rw[ho] at hoj;cases hoj;exact hval d c0 hd hc
  .rename_i hji;have hne:o.dst≠some d:=fun hd'=>hji (Cg H.nodup hoj ho hd hd');rw[C6 hne];exact st j oj d c0 _ hlj hoj hd hc (I.facts j oj d c0 hlj hoj hd hc fun h4=>(hc4 j oj hoj h4 hlj).1 (hjq h4))
 .
  intro p hp hlp;rw[Aj _ _ _ hisz] at hlp;split at hlp
  .rename_i hpi;obtain⟨h1,h2⟩:=hge p hp hpi;refine⟨by rw[hpi];exact h1,?_⟩;rw[Aj _ _ _ hisz];split
   .rfl
   .exact h2
  .rename_i hpi;obtain⟨q1,q2⟩:=I.gfacts p hp hlp;have hji:p.2.j≠i:=fun e=>by rw[e,hun] at q2;cases q2
   refine⟨⟨q1.lt,q1.bool,?_,q1.imp,q1.ne⟩,by rw[Aj _ _ _ hisz,if_neg hji];exact q2⟩;have hy:yielded ops (a.put o.dst v).tmps p.2.j=yielded ops a.tmps p.2.j:=by
    cases hd:o.dst with
    |none=>rfl
    |some d=>
     refine Hm ?_ v;intro he;cases hop:ops[p.2.j]? with
     |none=>rw[hop] at he;cases he
     |some op=>
      rw[hop] at he;exact hji (Cg H.nodup hop ho he hd)
   rw[hy];exact q1.iff
 .
  intro j oj hoj hj4 hl hjq;obtain⟨hl,hne⟩:=hlj j oj hoj hj4 hl;have hjq2:q<=j:=by have:=hc4 j oj hoj hj4 hl;omega
  have hlt:=I.plt hoj hj4 hl hjq2;obtain⟨p1,p2,p3,t,l,vs,p4,p5,p6,p7⟩:=I.pend j oj hoj hj4 hl hjq2;refine⟨p1,fun id ht e=>?_,fun d hd=>?_,t,l,vs,p4,p5,by rw[rs.old (A j) hlt p2];exact p6,p7⟩
  .rcases rs.back ht e with h|⟨h1,h2⟩
   .omega
   .exact p2 id h1 h2
  .have hne2:o.dst≠some d:=fun hd'=>hne (Cg H.nodup hoj ho hd hd');rw[C6 hne2];exact p3 d hd
 .intro j k oj ok h1 h2 h3 h4 h5 h6 h7 h8;obtain⟨h5,_⟩:=hlj j oj h1 h3 h5;obtain⟨h6,_⟩:=hlj k ok h2 h4 h6;have:=hc4 j oj h1 h3 h5;have:=hc4 k ok h2 h4 h6;exact I.inj j k oj ok h1 h2 h3 h4 h5 h6 (by omega) (by omega)
theorem OW:∀{m m':Mem},BW m m'=true->∀id x y ks e,m.at id= .mrow x y ks e->∃x' ks',m'.at id= .mrow x' y ks' e/\ks'.length=ks.length
 |[],_,_,id,x,y,ks,e,h=>by simp[Mem.at] at h
 |b::m,m',hh,id,x,y,ks,e,h=>by
  cases id with
  |zero=>
   have h0:b= .mrow x y ks e:=by simpa [Mem.at] using h
   subst h0;cases m' with
   |nil=>simp[BW] at hh
   |cons b' m'=>
    simp only[BW,vo] at hh;have hb:=hh.1;split at hb
    .simp only[vo] at hb;obtain⟨⟨h1,h2⟩,h3⟩:=hb;rw[vp h1,vp h3];exact⟨_,_,rfl,(vp h2).symm⟩
    .cases hb
  |succ id=>
   have h0:Mem.at m id= .mrow x y ks e:=by simpa [Mem.at] using h
   have hrest:BW m m'.tail=true:=by
    cases b with
    |tok=>
     cases m' with
     |nil=>simp[BW] at hh
     |cons b' m'=>simp only[BW,vo] at hh;exact hh.2
    |mrow=>
     cases m' with
     |nil=>simp[BW] at hh
     |cons b' m'=>simp only[BW,vo] at hh;exact hh.2
    |_=>simpa [BW] using hh
   obtain⟨x',ks',h1,h2⟩:=OW hrest id x y ks e h0;refine⟨x',ks',?_,h2⟩;rw[<-h1];cases m'<;>simp[Mem.at]
theorem AE.any {n:Nat}{m m':Mem}(h:AE T n ρ m w ρ' m' w')(hm:AD T n ρ m w)(hk:∀id x ks e,m.at id= .tok x ks e->m'.at id= .tok x ks e)(hk2:∀id x y ks e,m.at id= .mrow x y ks e->∃x' ks',m'.at id= .mrow x' y ks' e/\ks'.length=ks.length)(n':Nat):AE T n' ρ m w ρ' m' w':=
 ⟨h.os,h.tape,h.output,h.size,h.mlen,h.rho,h.untr,h.fresh,h.old,fun id x ks e hx=>by
  rcases h.tok id x ks e hx with h1|⟨_,h2|⟨x',ks',e',h2,h3,_⟩⟩
  .exact .inl h1
  .rw[hk id x ks e hx] at h2;cases h2
  .rw[hk id x ks e hx] at h2;injection h2 with h4 h5
   have:=hm.tok_lt hx;omega,
  fun id x y ks e hx=>by
  obtain⟨x2,ks2,k1,k2⟩:=hk2 id x y ks e hx;rcases h.row id x y ks e hx with h2|⟨x',y',ks',h2,h3,h4|⟨h4,_⟩⟩
  .rw[k1] at h2;cases h2
  .exact .inr ⟨x',y',ks',h2,h3,.inl h4⟩
  .rw[k1] at h2;injection h2 with h5 h6
   have:=(hm.row_lt hx).2;omega⟩
theorem A9.own (H:BL qc md tg P T call ys ops pc S)(I:A9 qc P T ops S ρ0 w0 A q listed ρ a w){i:Nat}{o:Oper}(ho:ops[i]? =some o)(hun:listed.getD i false=false){v:Value}{c c0:AC}{d:Tmp}(hd:o.dst=some d)
  {m':Mem} (hS:(S (i+1)).tmps=Ci (S i).tmps o.dst c) (hn:(S i).g.n<=(S (i+1)).g.n) (st:AE (T.wf (frO qc T ops listed q A)) (S i).g.n ρ (S q).mem w ρ' m' w') (hv:AA (T.wf (frO qc T ops listed q A)) (S (i+1)).g.n ρ' m' w' c ((a.put o.dst v).tmps.getD d undef))
  (hc:(S (i+1)).tmps.get d=some c0):AA (T.wf (frO qc T ops listed q A)) (S (i+1)).g.n ρ' m' w' c0 ((a.put o.dst v).tmps.getD d undef):=by
 have hiN:i < ops.size:=(vx.1 ho).1;obtain⟨l1,_,_⟩:=H.later 0 i (by omega);rw[v8] at l1;rw[hS] at hc;simp only[hd,Ci] at hc;rcases AO.get_set _ _ _ _ hc with⟨_,_,hcc⟩|⟨hdn,hold⟩
 .rw[hcc];exact hv
 .
  have hn':=hdn rfl;have hnn:¬d < a.tmps.size:=by rw[I.asize,<-l1.len];exact hn'
  have hv:=I.val H (by omega) hold fun i' o' ho' hd'=>by
   have:=Cg H.nodup ho ho' hd hd';subst this;exact .inr ⟨hun,vr _⟩
  have hput:(a.put o.dst v).tmps.getD d undef=a.tmps.getD d undef:=by
   rw[hd];simp only[Act.put,vy,Array.getElem?_setIfInBounds,if_true,if_neg hnn];rw[Array.getElem?_eq_none (Nat.le_of_not_lt hnn)]
  rw[hput];exact AA.mono0 st hn _ _ hv
end
section
variable {qc md:Bool}{tg:List Tmp}{P:Program}{T:Tab}{call:Ak}{ys:Ys}{r:Option Nat}{kk:Nat}{ops:Array Oper}{pc:PC}
variable {S:Nat->DS}{ρ0:Nat->Option Nat}{w0:World}{A:Nat->Nat}{q:Nat}{listed:Array Bool}{ρ ρ':Nat->Option Nat}{a:Act}{w w':World}
theorem Agr.wf {F:Nat->Nat->Prop}{g:G}(h:Agr T g):Agr (T.wf F) g:=⟨h.eqs,h.lps⟩
theorem AY.wf {F:Nat->Nat->Prop}{g:G}(h:AY T g):AY (T.wf F) g:=h
theorem A8.wf {F:Nat->Nat->Prop}{g:G}{pc:PC}(h:A8 T g pc):A8 (T.wf F) g pc:=h
theorem LD {F:Nat->Nat->Prop}{pc:PC}(h:pcv T pc):pcv (T.wf F) pc:=h
theorem A9.early (H:BL qc md tg P T call ys ops pc S)(I:A9 qc P T ops S ρ0 w0 A q listed ρ a w)(hm0:AD T (S 0).g.n ρ0 (S 0).mem w0){i:Nat}{o:Oper}(ho:ops[i]? =some o)
  (hun:listed.getD i false=false) (hready:∀e∈o.after,Region.binds .any e=true->listed.getD e.on false=true) (h4:AG qc (AL 0 ops.toList) o=4) {K:Act->World->Prop} {Q:Exit->Act->World->Prop}
  (hK:∀A' q' ρ' v w',A9 qc P T ops S ρ0 w0 A' q' (listed.setIfInBounds i true) ρ' (a.put o.dst v) w'->(∃ob,w'=w.alloc ob)->K (a.put o.dst v) w'):Ce P r kk ops o a w K Q:=by
 have hiN:i < ops.size:=(vx.1 ho).1;have hisz:i < listed.size:=by rw[I.size];exact hiN
 obtain⟨hg,t,ht⟩:=Cs h4;obtain⟨R,hR,hs⟩:=H.step i o ho;obtain⟨s',c,a1,a2,a3,a4,a5,a7,a6,a8,a9⟩:=C1 hs;obtain⟨d,hd,hdn⟩:=a8 h4;obtain⟨l,b1,b2,b3,b4,b5⟩:=FY hg ht a1;obtain⟨vs,r1,r20⟩:=aK (P:=P) (a:=a) b1 ht;obtain⟨l',hm1,r2⟩:∃l',(S (i+1)).mem=(S i).mem++[.cells l' t]/\∀(T:Tab) (n:Nat) (ρ :Nat->Option Nat) (m:Mem) (w:World),AB T n ρ m w l' vs:=by
  have e:(S (i+1)).mem=Iq tg o.dst (S i).mem s'.mem:=by rw[a2,h4];rfl
  rw[e,b3];have e2:((S i).masked (Ah 0 ops.toList) (okG (AQ ops.toList []) R i) R (Ap ops o)).mem=(S i).mem:=rfl;rw[e2];unfold Iq;cases hb:isTg tg o.dst with
  |true=>
   rw[if_pos rfl];refine⟨l.map fun _=> .any,?_,fun T n ρ m w=>AB.of_get ?_ fun j c u h1 h2=>?_⟩
   .rw[List.drop_left];rfl
   .have:=(r20 T n ρ m w).length;simp[this]
   .simp only[wW,wK] at h1;obtain⟨_,_,rfl⟩:=h1;trivial
  |false=>
   rw[if_neg (by decide)];exact⟨l,rfl,r20⟩
 obtain⟨l1,_,_⟩:=H.later 0 i (by omega);rw[v8] at l1;have hq:q<=i:=by
  rcases wD i q with h|h
  .rcases I.base i o h ho with h1|h1
   .rw[hun] at h1;cases h1
   .omega
  .exact h
 unfold Ce;rw[if_pos (by unfold Region.wanted;rw[hg])];refine GU (by rw[ht];exact fun c h=>by cases h) ?_;rw[r1 w];show K (a.put o.dst (.pointer (some ⟨w.heap.size,0,none⟩))) (w.alloc (.cells vs.toArray t));obtain⟨A',hA'⟩:∃A':Nat->Nat,A'=fun j=>if j=i then w.heap.size else A j:=⟨_,rfl⟩
 have hAi:A' i=w.heap.size:=by rw[hA'];simp
 have hAj:∀j,j≠i->A' j=A j:=fun j h=>by rw[hA'];simp[h]
 have hli:∀j,(listed.setIfInBounds i true).getD j false=true↔(j=i\/listed.getD j false=true):=fun j=>by
  rw[Aj _ _ _ hisz];split
  .rename_i e;simp[e]
  .rename_i e;simp[e]
 have hPd:∀b,Pd qc ops (listed.setIfInBounds i true) q A' b↔(b=w.heap.size\/Pd qc ops listed q A b):=fun b=>by
  constructor
  .rintro⟨j,oj,q1,q2,q3,q4,q5⟩;by_cases e:j=i
   .subst e;left;rw[<-q5,hAi]
   .right;exact⟨j,oj,q1,q2,((hli j).1 q3).resolve_left e,q4,by rw[<-hAj j e];exact q5⟩
  .rintro (h|⟨j,oj,q1,q2,q3,q4,q5⟩)
   .exact⟨i,o,ho,h4,(hli i).2 (.inl rfl),hq,by rw[hAi,h]⟩
   .have e:j≠i:=fun e=>by subst e;rw[hun] at q3;cases q3
    exact⟨j,oj,q1,q2,(hli j).2 (.inr q3),q4,by rw[hAj j e];exact q5⟩
 have hF:∀b off,b≠w.heap.size->frO qc T ops listed q A b off->frO qc T ops (listed.setIfInBounds i true) q A' b off:=fun b off hb ⟨h1,h2⟩=>⟨h1,fun h=>((hPd b).1 h).elim hb h2⟩;have chg:Chg T (frO qc T ops listed q A) (frO qc T ops (listed.setIfInBounds i true) q A') ρ ρ (S q).mem (S q).mem w:=
  ⟨fun _ _=>⟨rfl,rfl⟩,fun b off ⟨h1,h2,h3⟩=>⟨h1,hF b off (by omega) h2,h3⟩⟩
 have es:∀n,AE T n ρ (S q).mem w ρ (S q).mem (w.alloc (.cells vs.toArray t)):=fun n=>(AE.wf (F:=frO qc T ops listed q A) (F':=T.fr) (Lo I.mem (.cells vs.toArray t) n):_);have es2:∀n,AE (T.wf (frO qc T ops (listed.setIfInBounds i true) q A')) n ρ (S q).mem w ρ (S q).mem (w.alloc (.cells vs.toArray t)):=fun n=>AE.wf (F:=frO qc T ops listed q A) (Lo I.mem (.cells vs.toArray t) n);have hlt:∀j oj,ops[j]? =some oj->AG qc (AL 0 ops.toList) oj=4->listed.getD j false=true->q<=j->A j < w.heap.size:=fun j oj q1 q2 q3 q4=>I.plt q1 q2 q3 q4;have move:∀{n:Nat} {c:AC} {z:Value},AA (T.wf (frO qc T ops listed q A)) n ρ (S q).mem w c z->AA (T.wf (frO qc T ops (listed.setIfInBounds i true) q A')) n ρ (S q).mem (w.alloc (.cells vs.toArray t)) c z:=fun {n c z} h=>
  AA.mono0 (es2 n) (vr _) c z (AA.chg chg c z h)
 refine hK A' q ρ _ _ ⟨by simp[I.size],?_,I.qle,fun j oj hj hoj=>?_,fun j oj hoj hj3=>?_,?_,by rw[<-I.asize];cases o.dst<;>simp[Act.put],?_,?_,?_,?_,?_,?_,I.st.trans hm0 (vr _) (es _)⟩ ⟨_,rfl⟩
 .intro j oj hoj hlj e he hb;rw[hli] at hlj⊢;rcases hlj with hlj|hlj
  .subst hlj;rw[ho] at hoj;cases hoj;exact .inr (hready e he hb)
  .exact .inr (I.closed j oj hoj hlj e he hb)
 .rw[hli];exact (I.base j oj hj hoj).imp .inr (fun h=>h)
 .have e:j≠i:=fun e=>by subst e;rw[ho] at hoj;cases hoj;omega
  rw[hli,or_iff_right e];exact I.mlist j oj hoj hj3
 .have:=I.defers.on (es (S q).g.n);cases o.dst<;>exact this
 .exact bn I.mem _ chg (fun b off hb=>hF b off (by omega) (I.mem.fr b off (by omega))) fun id b hx hb h off=>hF b off (by have:=I.mem.lt hx hb;omega) (h off)
 .intro tt cc hc hno;have hne:o.dst≠some tt:=fun hd=>by
   have:=hno i o ho hd;rw[Aj _ _ _ hisz,if_pos rfl] at this;cases this
  rw[C6 hne];refine move (I.init tt cc hc fun j oj hoj hd=>?_);have:=hno j oj hoj hd;rw[Aj _ _ _ hisz] at this;split at this
  .cases this
  .exact this
 .intro j oj dj cj hlj hoj hdj hcj hjq;rw[hli] at hlj;have e:j≠i:=fun e=>by subst e;rw[ho] at hoj;cases hoj;have:=hjq h4;omega
  have hne:o.dst≠some dj:=fun hd'=>e (Cg H.nodup hoj ho hdj hd');rw[C6 hne];exact move (I.facts j oj dj cj (hlj.resolve_left e) hoj hdj hcj hjq)
 .intro p hp hlp;rw[hli] at hlp;obtain⟨_,q2⟩:=H.gls ops.size (vr _) p hp;have hpi:p.1≠i:=fun hpi=>by
   rw[hpi,a2] at q2;rcases wc.1 q2 with h1|h1
   .unfold FH at h1;rw[b5] at h1;simp[DS.masked] at h1
   .have:=(H.gls i (by omega) p h1).1;omega
  obtain⟨q1,q2⟩:=I.gfacts p hp (hlp.resolve_left hpi);have hji:p.2.j≠i:=fun e=>by rw[e,hun] at q2;cases q2
  refine⟨⟨q1.lt,q1.bool,?_,q1.imp,q1.ne⟩,by rw[hli];exact .inr q2⟩;have hy:yielded ops (a.put o.dst (.pointer (some ⟨w.heap.size,0,none⟩))).tmps p.2.j=yielded ops a.tmps p.2.j:=by
   rw[hd];refine Hm ?_ _;intro he;cases hop:ops[p.2.j]? with
   |none=>rw[hop] at he;cases he
   |some op=>
    rw[hop] at he;exact hji (Cg H.nodup hop ho he hd)
  rw[hy];exact q1.iff
 .intro j oj hoj hj4 hlj hjq;rw[hli] at hlj;by_cases e:j=i
  .subst e;rw[ho] at hoj;cases hoj;rw[hAi];refine⟨I.st.size,fun id ht e=>?_,fun d' hd'=>?_,t,l',vs,ht,hm1,CX _ _,r2⟩
   .have:=I.mem.lt ht e;omega
   .rw[hd] at hd';cases hd';rw[hd];simp only[Act.put,vy];rw[Array.getElem?_setIfInBounds,if_pos rfl,if_pos (by rw[I.asize,<-l1.len];exact hdn)];rfl
  .have hlj:=hlj.resolve_left e;obtain⟨p1,p2,p3,t2,l2,vs2,p4,p5,p6,p7⟩:=I.pend j oj hoj hj4 hlj hjq;rw[hAj j e];refine⟨p1,p2,fun d' hd'=>?_,t2,l2,vs2,p4,p5,by rw[At _ _ _ (hlt j oj hoj hj4 hlj hjq)];exact p6,p7⟩;have hne:o.dst≠some d':=fun hd''=>e (Cg H.nodup hoj ho hd' hd'');rw[C6 hne];exact p3 d' hd'
 .intro j k oj ok q1 q2 q3 q4 q5 q6 q7 q8 q9;rw[hli] at q5 q6;by_cases e:j=i<;>by_cases e2:k=i
  .rw[e,e2]
  .rw[e,hAi,hAj k e2] at q9;have:=hlt k ok q2 q4 (q6.resolve_left e2) q8;omega
  .rw[e2,hAi,hAj j e] at q9;have:=hlt j oj q1 q3 (q5.resolve_left e) q7;omega
  .rw[hAj j e,hAj k e2] at q9;exact I.inj j k oj ok q1 q2 q3 q4 (q5.resolve_left e) (q6.resolve_left e2) q7 q8 q9
end
section
variable {qc md:Bool}{tg:List Tmp}{P:Program}{T:Tab}{call:Ak}{ys:Ys}{r:Option Nat}{kk:Nat}{ops:Array Oper}{pc:PC}
variable {S:Nat->DS}{ρ0:Nat->Option Nat}{w0:World}{A:Nat->Nat}{q:Nat}{listed:Array Bool}{ρ ρ':Nat->Option Nat}{a:Act}{w w':World}
theorem K6 {qc:Bool}{D:List (Tmp × Nat)}{o:Oper}(h:loud qc D o=3):AG qc D o=3\/(AG qc D o=2/\BA o.op=false):=by
 unfold loud at h;split at h
 .rename_i hc;rw[vo] at hc;exact .inr ⟨vp hc.1,by simpa using hc.2⟩
 .exact .inl h
theorem Z7 {qc:Bool}{D:List (Tmp × Nat)}{o:Oper}(h:BA o.op=false)(h2:AG qc D o=2):loud qc D o=3:=by
 unfold loud;rw[h,h2];rfl
theorem A9.comesw (H:BL qc md tg P T call ys ops pc S)(hA:Agr T (S ops.size).g)(hob:AY T (S ops.size).g)(hpc:pcv T pc)(hpk:A8 T (S 0).g pc)(hm0:AD T (S 0).g.n ρ0 (S 0).mem w0)(I0:A9 qc P T ops S ρ0 w0 A q listed ρ a w){i:Nat}{o:Oper}(ho:ops[i]? =some o)
  (hun:listed.getD i false=false) (hready:∀e∈o.after,Region.binds .any e=true->listed.getD e.on false=true) {K:Act->World->Prop} {Q:Exit->Act->World->Prop}
  (hK:∀A' q' ρ' v w',A9 qc P T ops S ρ0 w0 A' q' (listed.setIfInBounds i true) ρ' (a.put o.dst v) w'->(loud qc (AL 0 ops.toList) o≠3->w'=w\/∃ob,w'=w.alloc ob)->(loud qc (AL 0 ops.toList) o=3->∀(k:Nat) (ok:Oper),ops[k]? =some ok->AG qc (AL 0 ops.toList) ok=4->listed.getD k false=true->i<=k->w'.heap[A k]? =w.heap[A k]?)->K (a.put o.dst v) w'):Ce P r kk ops o a w K Q:=by
 have hiN:i < ops.size:=(vx.1 ho).1;have hisz:i < listed.size:=by rw[I0.size];exact hiN
 obtain⟨R,hR,hs⟩:=H.step i o ho;obtain⟨s',c,a1,a2,a3,a4,a5,a7,a6,a8,a9⟩:=C1 hs;have hlR:=CB I0.closed hR ho hready;have hlt:=EI _ 0 H.masks i R hR;obtain⟨l1,_,_⟩:=H.later 0 i (by omega);rw[v8] at l1;obtain⟨l2,_,_⟩:=H.later (i+1) (ops.size - (i+1)) (by omega);rw[show i+1+(ops.size - (i+1))=ops.size by omega] at l2;have hg:(S (i+1)).g=s'.g:=by rw[a2]
 have htm:(S (i+1)).tmps=Ci (S i).tmps o.dst c:=by rw[a2]
 have hn1:(S i).g.n<=(S (i+1)).g.n:=by
  obtain⟨l,_,_⟩:=H.later i 1 (by omega);exact l.grow.n
 have hA1:Agr T s'.g:=by rw[<-hg];exact hA.of l2.grow
 have hob1:AY T s'.g:=by rw[<-hg];exact hob.of l2.grow
 have hgen:∀{a':Act},(∀e∈FH s' (FF R (S i).gls).length,El T ops (S (i+1)).g.n a' e)->∀p∈(S ops.size).gls,p.1=i->El T ops (S (i+1)).g.n a' p.2/\listed.getD p.2.j false=true:=by
  intro a' hges p hp hpi;obtain⟨_,q2⟩:=H.gls ops.size (vr _) p hp;rw[hpi,a2] at q2;rcases wc.1 q2 with h1|h1
  .obtain⟨e,he,rfl⟩:=List.mem_map.1 h1;obtain⟨u1,u2⟩:=a6 e he;exact⟨hges e he,hlR e.j u2⟩
  .have:=(H.gls i (by omega) p h1).1;omega
 have hord:=H.ord i o R ho hR;rcases KZ (qc:=qc) (AL 0 ops.toList) o with⟨k0,kg,⟨x,kx,kx2⟩|hB⟩|kk1
 .
  have I:=I0;obtain⟨lq,_,_⟩:=H.later 0 q (by have:=I.qle;omega);rw[v8] at lq;obtain⟨e1,e2,e3,e4⟩:=YU kg kx a1;obtain⟨M,hM1,hM2,hM3,hM4⟩:∃M,M<=ops.size/\(S i).g.n<=(S M).g.n/\(S q).g.n<=(S M).g.n/\(S 0).g.n<=(S M).g.n:=by
   rcases Nat.le_total q i with h|h
   .obtain⟨l,_,_⟩:=H.later q (i - q) (by omega);rw[show q+(i - q)=i by omega] at l;exact⟨i,by omega,vr _,l.grow.n,l1.grow.n⟩
   .have:=I.qle;obtain⟨l,_,_⟩:=H.later i (q - i) (by omega);rw[show i+(q - i)=q by omega] at l;exact⟨q,by omega,l.grow.n,vr _,lq.grow.n⟩
  obtain⟨lM,_,_⟩:=H.later M (ops.size - M) (by omega);rw[show M+(ops.size - M)=ops.size by omega] at lM;obtain⟨lM0,_,_⟩:=H.later 0 M (by omega);rw[v8] at lM0;have hrd:∀t∈Ap ops o,x= .tmp t:=by
   intro t ht;unfold Ap at ht;rw[kg] at ht;simp only[List.append_nil,List.mem_filterMap] at ht;obtain⟨y,hy,hy2⟩:=ht;have hyx:y=x:=by
    rcases kx with h|h|⟨k,h⟩<;>(rw[h] at hy;simpa [Op.operands] using hy)
   subst hyx;cases y<;>simp at hy2;rw[hy2]
  have hmask:=I.masked (CD:=Ap ops o) (g:=(S M).g) H hiN hun hR hlR (fun t j oj ht hoj hd hj4 _=>by
   obtain⟨_,ty,hty⟩:=Cs hj4;exact absurd (kx2 t (hrd t ht)) (I5 ops.toList 0 j oj t ty (by simpa using hoj) hty hd)) hM2 hM3
  obtain⟨b1,b2⟩:=H4 (T:=T.wf (frO qc T ops listed q A)) (r:=r) (kk:=kk) (H.call _) H.ys (e4 (S q).mem (S M).g);refine b2 (Agr.wf (hA.of lM.grow)) (AY.wf (hob.of lM.grow)) (LD hpc) (A8.wf (hpk.grow lM0.grow)) ρ a w K Q hmask fun ρ' v w' r1 r2 r3=>?_;have r2':AE (T.wf (frO qc T ops listed q A)) (S M).g.n ρ (S q).mem w ρ' (S q).mem w':=r2;have r1m:AD (T.wf (frO qc T ops listed q A)) (S M).g.n ρ' (S q).mem w':=r1.rel.mem;obtain⟨f1,f2⟩:=(r2'.down hM3).forget I.mem r1m (fun _ _=>rfl);have hsm:=r2'.same (I.mem.mono hM3) (fun _ _=>rfl);have st:=AE.any f1 I.mem (fun _ _ _ _ h=>h) (fun _ _ _ ks _ h=>⟨_,ks,h,rfl⟩);have stT:AE T (S 0).g.n ρ (S q).mem w ρ (S q).mem w':=(AE.wf (F:=frO qc T ops listed q A) (F':=T.fr) (st (S 0).g.n):_);refine hK A q ρ v w' (I.next H ho hun hready I.qle (by omega) (fun _ _ _ _ _=>Iff.rfl) stT (I.st.trans hm0 (vr _) stT) (fun c z=>AA.mono0 (st _) (vr _) c z) (fun j oj d c z _ _ _ _=>AA.mono0 (st _) (vr _) c z) f2 ?_ ?_ ?_ ?_ ?_ (hgen ?_)) (fun _=> .inl (r3 (by rcases kx with h|h|⟨k,h⟩<;>(rw[h];rfl)))) (fun h=>by rcases K6 h with h|⟨h,_⟩<;>omega)
  .rw[<-I.asize];cases o.dst<;>simp[Act.put]
  .have:=I.defers.on f1;cases o.dst<;>exact this
  .intro j o' hj ho';rw[Aj _ _ _ hisz];split
   .exact .inl rfl
   .exact I.base j o' hj ho'
  .intro j o' ho' h3;rw[Aj _ _ _ hisz];have hji:j≠i:=fun e=>by subst e;rw[ho] at ho';cases ho';omega
   rw[if_neg hji];exact I.mlist j o' ho' h3
  .intro d c0 hd hc;have hv:AA (T.wf (frO qc T ops listed q A)) (S M).g.n ρ' (S q).mem w' c ((a.put o.dst v).tmps.getD d undef):=by
    have:=r1.rel.at d;rw[a3 d hd];exact this
   have hv2:=AA.backF hsm _ _ (.inr fun id h=>h) hv;have hv3:=AC.nlt_ok _ _ (a5 k0).1 hv2;rw[<-hg] at hv3;exact I.own H ho hun hd htm hn1 (st _) hv3 hc
  .intro e he;unfold FH at he;rw[e3] at he;simp[DS.masked] at he
 .
  obtain⟨bop,bt,x,y,yt,hbo,hbx,hby⟩:=hB;have I:=I0;obtain⟨lq,_,_⟩:=H.later 0 q (by have:=I.qle;omega);rw[v8] at lq;obtain⟨M,hM1,hM2,hM3,hM4⟩:∃M,M<=ops.size/\(S i).g.n<=(S M).g.n/\(S q).g.n<=(S M).g.n/\(S 0).g.n<=(S M).g.n:=by
   rcases Nat.le_total q i with h|h
   .obtain⟨l,_,_⟩:=H.later q (i - q) (by omega);rw[show q+(i - q)=i by omega] at l;exact⟨i,by omega,vr _,l.grow.n,l1.grow.n⟩
   .have:=I.qle;obtain⟨l,_,_⟩:=H.later i (q - i) (by omega);rw[show i+(q - i)=q by omega] at l;exact⟨q,by omega,l.grow.n,vr _,lq.grow.n⟩
  obtain⟨lM,_,_⟩:=H.later M (ops.size - M) (by omega);rw[show M+(ops.size - M)=ops.size by omega] at lM;obtain⟨lM0,_,_⟩:=H.later 0 M (by omega);rw[v8] at lM0;obtain⟨rr,b1,b2,b3,b4,b5⟩:=cD kg hbo a1;have hrd:∀t∈Ap ops o,x= .tmp t\/y= .tmp t:=by
   intro t ht;unfold Ap at ht;rw[kg] at ht;simp only[List.append_nil,List.mem_filterMap] at ht;obtain⟨z,hz,hz2⟩:=ht;have hzx:z=x\/z=y:=by rw[hbo] at hz;simpa [Op.operands] using hz
   rcases hzx with rfl|rfl
   .cases z<;>simp at hz2;exact .inl (by rw[hz2])
   .cases z<;>simp at hz2;exact .inr (by rw[hz2])
  have hmask:=I.masked (CD:=Ap ops o) (g:=(S M).g) H hiN hun hR hlR (fun t j oj ht hoj hd hj4 _=>by
   obtain⟨_,ty,hty⟩:=Cs hj4;rcases hrd t ht with h|h
   .exact absurd (hbx t h) (I5 ops.toList 0 j oj t ty (by simpa using hoj) hty hd)
   .exact absurd (hby t h) (I5 ops.toList 0 j oj t ty (by simpa using hoj) hty hd)) hM2 hM3
  have hflt:=(a5 k0).2;unfold Ph at hflt;rw[hbo] at hflt;simp only[vo] at hflt;obtain⟨⟨⟨⟨f1,f2⟩,f3⟩,f4⟩,f5⟩:=hflt;have hev:∀z:Operand,AA (T.wf (frO qc T ops listed q A)) (S M).g.n ρ (S q).mem w (DF [] ((S i).masked (Ah 0 ops.toList) (okG (AQ ops.toList []) R i) R (Ap ops o)).tmps z) (a.eval z):=fun z=>E8 hmask.rel (fun c hc=>by cases hc) z;have hx1:=AC.nlt_ok _ _ f3 (hev x);have hy1:=AC.nlt_ok _ _ f4 (hev y);have hAg:Agr (T.wf (frO qc T ops listed q A)) (((S i).g.pushAll rr.us).needAll pc rr.ps):=by
   have:=Agr.wf (F:=frO qc T ops listed q A) hA1;rw[b3] at this;exact this
  have hOb:AY (T.wf (frO qc T ops listed q A)) (((S i).g.pushAll rr.us).needAll pc rr.ps):=by
   have:=AY.wf (F:=frO qc T ops listed q A) hob1;rw[b3] at this;exact this
  obtain⟨z,r1,r2,r3⟩:=Nr (ρ := ρ) (w:=w) b1 hAg.need.new (hOb.need (LD hpc)) (AA.intAny f1 hx1) (AA.intAny f2 hy1) x y;have hgn:s'.g.n=(S i).g.n+rr.us.length:=by rw[b3,(Cn _ _ _).1,BQ];rfl
  have hrun:(execOp a.eval o).run P w= .ok (.value z) w:=KH (s:=do eqGuard bop bt x y (a.eval x) (a.eval y);binOp bop bt (a.eval x) (a.eval y)) (by simp only[execOp,hbo]) r1;unfold Ce;rw[if_pos (by simp[Region.wanted,kg])];refine GU (by rw[hbo];exact fun c h=>by cases h) ?_;rw[hrun];have st:∀n,AE (T.wf (frO qc T ops listed q A)) n ρ (S q).mem w ρ (S q).mem w:=fun n=>AE.refl _ _ _ _ _;refine hK A q ρ z w (I.next H ho hun hready I.qle (by omega) (fun _ _ _ _ _=>Iff.rfl) (AE.refl T (S 0).g.n ρ (S q).mem w) I.st (fun c z h=>h) (fun j oj d c z _ _ _ _ h=>h) I.mem ?_ ?_ ?_ ?_ ?_ (hgen ?_)) (fun _=> .inl rfl) (fun h=>by rcases K6 h with h|⟨h,_⟩<;>omega)
  .rw[<-I.asize];cases o.dst<;>simp[Act.put]
  .have:=I.defers;cases o.dst<;>exact this
  .intro j o' hj ho';rw[Aj _ _ _ hisz];split
   .exact .inl rfl
   .exact I.base j o' hj ho'
  .intro j o' ho' h3;rw[Aj _ _ _ hisz];have hji:j≠i:=fun e=>by subst e;rw[ho] at ho';cases ho';omega
   rw[if_neg hji];exact I.mlist j o' ho' h3
  .intro d c0 hd hc;have hcr:c=(s'.tmps.get d).getD .any:=a3 d hd;have hv:AA (T.wf (frO qc T ops listed q A)) (S (i+1)).g.n ρ (S q).mem w c ((a.put o.dst z).tmps.getD d undef):=by
    have hn1':(S (i+1)).g.n=(S i).g.n+rr.us.length:=by rw[hg,hgn]
    have htn:((S i).masked (Ah 0 ops.toList) (okG (AQ ops.toList []) R i) R (Ap ops o)).tmps.n=a.tmps.size:=hmask.rel.size.symm;rw[b5,hd] at hcr;rw[hd];by_cases hdl:d < a.tmps.size
    .have e1:(Ci ((S i).masked (Ah 0 ops.toList) (okG (AQ ops.toList []) R i) R (Ap ops o)).tmps (some d) rr.c).get d=some rr.c:=by
      have hb:Nat.blt d ((S i).masked (Ah 0 ops.toList) (okG (AQ ops.toList []) R i) R (Ap ops o)).tmps.n=true:=by rw[htn,Nat.blt_eq];exact hdl
      simp[Ci,AO.set,hb,AO.get,A6]
     rw[e1] at hcr;have e2:(a.put (some d) z).tmps.getD d undef=z:=by simp[Act.put,vy,hdl]
     rw[e2,hcr,hn1'];rw[hcr] at f5;exact AA.intAny f5 r3
    .have hb:Nat.blt d ((S i).masked (Ah 0 ops.toList) (okG (AQ ops.toList []) R i) R (Ap ops o)).tmps.n=false:=by
      rw[htn];cases hx:Nat.blt d a.tmps.size with
      |false=>rfl
      |true=>rw[Nat.blt_eq] at hx;exact absurd hx hdl
     have e1:Ci ((S i).masked (Ah 0 ops.toList) (okG (AQ ops.toList []) R i) R (Ap ops o)).tmps (some d) rr.c=((S i).masked (Ah 0 ops.toList) (okG (AQ ops.toList []) R i) R (Ap ops o)).tmps:=by
      simp[Ci,AO.set,hb]
     rw[e1] at hcr;have e2:(a.put (some d) z).tmps.getD d undef=a.tmps.getD d undef:=by simp[Act.put,vy,Array.getElem?_setIfInBounds,hdl]
     rw[e2,hg];refine AC.nlt_ok (n':=(S M).g.n) _ _ (a5 k0).1 ?_;rw[hcr];exact hmask.rel.at d
   exact I.own H ho hun hd htm hn1 (st _) hv hc
  .intro e he;unfold FH at he;rw[b4] at he;simp[DS.masked] at he
 by_cases h4:AG qc (AL 0 ops.toList) o=4
 .exact I0.early H hm0 ho hun hready h4 fun A' q' ρ' v w' h1 h2=>hK A' q' ρ' v w' h1 (fun _=> .inr h2) (fun h=>by rcases K6 h with h|⟨h,_⟩<;>omega)
 have h0:AG qc (AL 0 ops.toList) o≠0:=by
  rcases kk1 with⟨h,_⟩|⟨h,_⟩|h|⟨h,_⟩<;>omega
 have hq0:q<=i:=by
  rcases wD i q with h|h
  .rcases I0.base i o h ho with h1|h1
   .rw[hun] at h1;cases h1
   .omega
  .exact h
 obtain⟨q, ρ,I,_,hq,hcv⟩:=I0.reach H ho hR hlR h0 h4 hq0 i (vr _);have hcov:∀t j oj,t∈Ap ops o->ops[j]? =some oj->oj.dst=some t->AG qc (AL 0 ops.toList) oj=4->R.testBit j=true->j < q:=fun t j oj _ hoj _ hj4 hb=>hcv j oj (by have:=hlt j hb;omega) hoj hj4 hb;obtain⟨lq,_,_⟩:=H.later 0 q (by omega);rw[v8] at lq;obtain⟨lqi,_,_⟩:=H.later q (i - q) (by omega);rw[show q+(i - q)=i by omega] at lqi;have same:(∀j oj,q<=j->j < i->ops[j]? =some oj->3<=AG qc (AL 0 ops.toList) oj->R.testBit j=true)->(S i).mem=(S q).mem:=fun hh=>by
  obtain⟨_,_,lm⟩:=H.later q (i - q) (by omega);rw[show q+(i - q)=i by omega] at lm;refine lm fun j oj h1 h2 hoj=>?_;rcases wD (AG qc (AL 0 ops.toList) oj) 3 with h|h
  .exact h
  .exfalso;have hb:=hh j oj h1 h2 hoj h;have h34:=IW (qc:=qc) (D:=AL 0 ops.toList) (o:=oj);rcases wD (AG qc (AL 0 ops.toList) oj) 4 with h5|h5
   .have:=(I.mlist j oj hoj (by omega)).1 (hlR j hb);omega
   .have:=hcv j oj h2 hoj (by omega) hb;omega
 rcases kk1 with⟨k1,kp⟩|⟨k2,kf⟩|k3|⟨h,_⟩
 .
  obtain⟨e1,e2⟩:=ZH kp a1;have hmask:=I.masked (CD:=Ap ops o) (g:=(S i).g) H hiN hun hR hlR hcov (vr _) lqi.grow.n;obtain⟨b1,b2⟩:=H4 (T:=T.wf (frO qc T ops listed q A)) (r:=r) (kk:=kk) (H.call _) H.ys (e2 (S q).mem);refine b2 (Agr.wf hA1) (AY.wf hob1) (LD hpc) (A8.wf (hpk.grow l1.grow)) ρ a w K Q hmask fun ρ' v w' r1 r2 r3=>?_;have r2':AE (T.wf (frO qc T ops listed q A)) (S i).g.n ρ (S q).mem w ρ' (S q).mem w':=r2;have r1m:AD (T.wf (frO qc T ops listed q A)) s'.g.n ρ' (S q).mem w':=r1.rel.mem;obtain⟨f1,f2⟩:=(r2'.down lqi.grow.n).forget I.mem r1m (fun _ _=>rfl);have hsm:=r2'.same (I.mem.mono lqi.grow.n) (fun _ _=>rfl);have st:=AE.any f1 I.mem (fun _ _ _ _ h=>h) (fun _ _ _ ks _ h=>⟨_,ks,h,rfl⟩);have stT:AE T (S 0).g.n ρ (S q).mem w ρ (S q).mem w':=(AE.wf (F:=frO qc T ops listed q A) (F':=T.fr) (st (S 0).g.n):_);refine hK A q ρ v w' (I.next H ho hun hready I.qle h4 (fun _ _ _ _ _=>Iff.rfl) stT (I.st.trans hm0 (vr _) stT) (fun c z=>AA.mono0 (st _) (vr _) c z) (fun j oj d c z _ _ _ _=>AA.mono0 (st _) (vr _) c z) f2 ?_ ?_ ?_ ?_ ?_ (hgen ?_)) (fun _=> .inl (r3 (by cases hop:o.op<;>rw[hop] at kp<;>first|rfl|cases kp))) (fun h=>by rcases K6 h with h|⟨h,_⟩<;>omega)
  .rw[<-I.asize];cases o.dst<;>simp[Act.put]
  .have:=I.defers.on f1;cases o.dst<;>exact this
  .intro j o' hj ho';rw[Aj _ _ _ hisz];split
   .exact .inl rfl
   .exact I.base j o' hj ho'
  .intro j o' ho' h3;rw[Aj _ _ _ hisz];have hji:j≠i:=fun e=>by subst e;rw[ho] at ho';cases ho';omega
   rw[if_neg hji];exact I.mlist j o' ho' h3
  .intro d c0 hd hc;have hv:AA (T.wf (frO qc T ops listed q A)) s'.g.n ρ' (S q).mem w' c ((a.put o.dst v).tmps.getD d undef):=by
    have:=r1.rel.at d;rw[a3 d hd];exact this
   have hv2:=AA.backF hsm _ _ (.inr fun id h=>h) hv;rw[<-hg] at hv2;exact I.own H ho hun hd htm hn1 (st _) hv2 hc
  .intro e he;rw[hg];exact (r1.ges e (a6 e he).1).un
 .
  have hmS:=same fun j oj h1 h2 hoj h3=>((hord j oj hoj h2).2 k2).resolve_right (by omega);have hmask:Bm (T.wf (frO qc T ops listed q A)) ρ ops ((S i).masked (Ah 0 ops.toList) (okG (AQ ops.toList []) R i) R (Ap ops o)) a w:=by
   have:=I.masked (CD:=Ap ops o) (g:=(S i).g) H hiN hun hR hlR hcov (vr _) lqi.grow.n;rw[<-hmS] at this;exact this
  have hkeep:(∀id,(S q).mem.at id≠ .pad->s'.mem.at id=(S q).mem.at id)/\(AC.free c=true\/∀id,s'.mem.at id≠ .pad->(S q).mem.at id≠ .pad):=by
   rw[<-hmS];rcases a9 k2 with kf|hk
   .have hmem2:s'.mem=(S i).mem:=MQ a1 kf (Agr.wf hA1) (AY.wf hob1) (LD hpc) (A8.wf (hpk.grow l1.grow)) hmask;rw[hmem2];exact⟨fun _ _=>rfl,.inr fun _ h=>h⟩
   .exact hk
  obtain⟨b1,b2⟩:=H4 (T:=T.wf (frO qc T ops listed q A)) (r:=r) (kk:=kk) (H.call _) H.ys a1;refine b2 (Agr.wf hA1) (AY.wf hob1) (LD hpc) (A8.wf (hpk.grow l1.grow)) ρ a w K Q hmask fun ρ' v w' r1 r2 r3=>?_;have r2':AE (T.wf (frO qc T ops listed q A)) (S i).g.n ρ (S q).mem w ρ' s'.mem w':=by
   have:AE (T.wf (frO qc T ops listed q A)) (S i).g.n ρ (S i).mem w ρ' s'.mem w':=r2;rw[hmS] at this;exact this
  have r1m:AD (T.wf (frO qc T ops listed q A)) s'.g.n ρ' s'.mem w':=r1.rel.mem;obtain⟨f1,f2⟩:=(r2'.down lqi.grow.n).forget I.mem r1m hkeep.1;have hsm:=r2'.same (I.mem.mono lqi.grow.n) hkeep.1;have st:=AE.any f1 I.mem (fun _ _ _ _ h=>h) (fun _ _ _ ks _ h=>⟨_,ks,h,rfl⟩);have stT:AE T (S 0).g.n ρ (S q).mem w ρ (S q).mem w':=(AE.wf (F:=frO qc T ops listed q A) (F':=T.fr) (st (S 0).g.n):_);refine hK A q ρ v w' (I.next H ho hun hready I.qle h4 (fun _ _ _ _ _=>Iff.rfl) stT (I.st.trans hm0 (vr _) stT) (fun c z=>AA.mono0 (st _) (vr _) c z) (fun j oj d c z _ _ _ _=>AA.mono0 (st _) (vr _) c z) f2 ?_ ?_ ?_ ?_ ?_ (hgen ?_)) (fun hl=> .inl (r3 (by cases hf:BA o.op with|true=>rfl|false=>exact absurd (Z7 hf k2) hl))) (fun _ k ok hk h4k hlk hik=>f1.old (A k) (I.plt hk h4k hlk (by omega)) (I.pend k ok hk h4k hlk (by omega)).2.1)
  .rw[<-I.asize];cases o.dst<;>simp[Act.put]
  .have:=I.defers.on f1;cases o.dst<;>exact this
  .intro j o' hj ho';rw[Aj _ _ _ hisz];split
   .exact .inl rfl
   .exact I.base j o' hj ho'
  .intro j o' ho' h3;rw[Aj _ _ _ hisz];have hji:j≠i:=fun e=>by subst e;rw[ho] at ho';cases ho';omega
   rw[if_neg hji];exact I.mlist j o' ho' h3
  .intro d c0 hd hc;have hv:AA (T.wf (frO qc T ops listed q A)) s'.g.n ρ' s'.mem w' c ((a.put o.dst v).tmps.getD d undef):=by
    have:=r1.rel.at d;rw[a3 d hd];exact this
   have hv2:=AA.backF hsm _ _ hkeep.2 hv;rw[<-hg] at hv2;exact I.own H ho hun hd htm hn1 (st _) hv2 hc
  .intro e he;rw[hg];exact (r1.ges e (a6 e he).1).un
 .
  obtain⟨ρ,I⟩:=A9.acts H (i - q) I (by omega) fun j oj hj1 hj2 hoj=>by
   have hl:=((hord j oj hoj (by omega)).1 k3).imp (hlR j) (fun h=>h);refine⟨hl,fun h3=>?_⟩;rcases hl with h|h
   .have:=(I.mlist j oj hoj h3).1 h;omega
   .omega
  rw[show q+(i - q)=i by omega] at I;clear same hcv hcov lqi lq hq;obtain⟨F,hF⟩:∃F,F=frO qc T ops listed i A:=⟨_,rfl⟩;have hmask:Bm (T.wf (frO qc T ops listed i A)) ρ ops ((S i).masked (Ah 0 ops.toList) (okG (AQ ops.toList []) R i) R (Ap ops o)) a w:=
   I.masked (CD:=Ap ops o) (g:=(S i).g) H hiN hun hR hlR (fun t j oj _ _ _ _ hb=>by have:=hlt j hb;omega) (vr _) (vr _)
  have hmem2:(S (i+1)).mem=s'.mem:=by rw[a2,k3];rfl
  obtain⟨b1,b2⟩:=H4 (T:=T.wf (frO qc T ops listed i A)) (r:=r) (kk:=kk) (H.call _) H.ys a1;refine b2 (Agr.wf hA1) (AY.wf hob1) (LD hpc) (A8.wf (hpk.grow l1.grow)) ρ a w K Q hmask fun ρ' v w' r1 r2 r3=>?_;have r2':AE (T.wf (frO qc T ops listed i A)) (S i).g.n ρ (S i).mem w ρ' (S (i+1)).mem w':=by
   have:AE (T.wf (frO qc T ops listed i A)) (S i).g.n ρ (S i).mem w ρ' s'.mem w':=r2;rw[hmem2];exact this
  have st:∀j oj d c z,listed.getD j false=true->ops[j]? =some oj->oj.dst=some d->(S (j+1)).tmps.get d=some c->AA (T.wf (frO qc T ops listed i A)) (S (j+1)).g.n ρ (S i).mem w c z->AA (T.wf (frO qc T ops listed i A)) (S (j+1)).g.n ρ' (S (i+1)).mem w' c z:=by
   intro j oj d c z hlj hoj hd hc;have hjN:j < ops.size:=(vx.1 hoj).1;rcases wD j i with hji|hji
   .obtain⟨lj,_,_⟩:=H.later (j+1) (i - (j+1)) (by omega);rw[show j+1+(i - (j+1))=i by omega] at lj;exact AA.mono0 (r2'.down lj.grow.n) (vr _) c z
   .have hne:j≠i:=fun e=>by subst e;rw[hun] at hlj;cases hlj
    by_cases hj4:AG qc (AL 0 ops.toList) oj=4
    .
     obtain⟨Rj,_,hsj⟩:=H.step j oj hoj;obtain⟨sj,cj,c1,c2,c3,c4,c5,c7,c6,c8,c9⟩:=C1 hsj;obtain⟨dj,hdj,hdn⟩:=c8 hj4;rw[hd] at hdj;cases hdj;obtain⟨kg,t,kt⟩:=Cs hj4;obtain⟨l,_,q2,_,_,_⟩:=FY kg kt c1;have hcj:cj= .ptr (S j).mem.length 0:=by
      rw[c3 d hd,q2,hd];show ((((S j).masked (Ah 0 ops.toList) (okG (AQ ops.toList []) Rj j) Rj (Ap ops oj)).tmps.set d (.ptr (S j).mem.length 0)).get d).getD .any=_;rw[AO.get_set_self ((S j).masked (Ah 0 ops.toList) (okG (AQ ops.toList []) Rj j) Rj (Ap ops oj)).tmps _ hdn];rfl
     have hcc:c= .ptr (S j).mem.length 0:=by
      rw[c2] at hc;simp only[hd,Ci] at hc;rw[AO.get_set_self _ _ hdn] at hc;cases hc;exact hcj
     rw[hcc];exact AA.monoV r2' _ z rfl
    .cases hmd:md with
     |false=>
      have hts:=Pz (a4 k3 hmd);have hts2:=OW (a4 k3 hmd);rw[<-hmem2] at hts hts2;exact AA.mono0 (AE.any r2' I.mem hts hts2 _) (vr _) c z
     |true=>
      have hisz2:j < (AQ ops.toList []).length:=by rw[CJ];exact hjN
      have hRj:=vt hisz2;have hk:AG qc (AL 0 ops.toList) oj < 2:=by
       rcases wD (AG qc (AL 0 ops.toList) oj) 2 with h|h
       .exact h
       .exfalso;have hb:((AQ ops.toList [])[j]'hisz2).testBit i=true:=by
         have h23:AG qc (AL 0 ops.toList) oj=2\/AG qc (AL 0 ops.toList) oj=3:=by
          have:=IW (qc:=qc) (D:=AL 0 ops.toList) (o:=oj);omega
         have ho3:=H.ord j oj _ hoj hRj i o ho (by omega);rcases h23 with h2|h3
         .exact (ho3.2 h2).resolve_right (by omega)
         .exact (ho3.1 h3).resolve_right (by omega)
        have:=CB I.closed hRj hoj (fun e he hb=>I.closed j oj hoj hlj e he hb) i hb;rw[hun] at this;cases this
      obtain⟨Rj,_,hsj⟩:=H.step j oj hoj;obtain⟨_,_,_,_,_,_,_,hnv,_⟩:=C1 hsj;exact AA.monoV r2' c z (hnv hmd hk d c hd hc)
  have stT:AE T (S 0).g.n ρ (S i).mem w ρ' (S (i+1)).mem w':=(AE.wf (F:=frO qc T ops listed i A) (F':=T.fr) (r2'.down l1.grow.n):_);refine hK A (i+1) ρ' v w' (I.next H ho hun hready (by omega) h4 (fun j oj hoj hj4 hl=>?_) stT (I.st.trans hm0 (vr _) stT) (fun c z=>AA.mono0 (r2'.down l1.grow.n) (vr _) c z) st ?_ ?_ ?_ ?_ ?_ ?_ (hgen ?_)) (fun h=>absurd (by unfold loud;rw[k3];rfl) h) (fun _ k ok hk h4k hlk hik=>r2'.old (A k) (I.plt hk h4k hlk hik) (I.pend k ok hk h4k hlk hik).2.1)
  .have hji:j≠i:=fun e=>by subst e;rw[ho] at hoj;cases hoj;exact h4 hj4
   constructor<;>(intro h;omega)
  .rw[hg,hmem2];exact r1.rel.mem
  .rw[<-I.asize];cases o.dst<;>simp[Act.put]
  .rw[hmem2];exact r1.rel.defers
  .intro j o' hj ho';rw[Aj _ _ _ hisz];split
   .exact .inl rfl
   .rename_i hji;exact ((hord j o' ho' (by omega)).1 k3).imp (hlR j) (fun h=>h)
  .intro j o' ho' h3;rw[Aj _ _ _ hisz];split
   .rename_i hji;subst hji;simp
   .rename_i hji;have hjN:j < ops.size:=(vx.1 ho').1;rcases wD j i with h|h
    .have:=hlR j (((hord j o' ho' h).1 k3).resolve_right (by omega));rw[this];simp;omega
    .constructor
     .intro hl;exfalso;have hisz2:j < (AQ ops.toList []).length:=by rw[CJ];exact hjN
      have hRj:=vt hisz2;have hb:=((H.ord j o' _ ho' hRj i o ho (by omega)).1 h3).resolve_right (by omega);have:=CB I.closed hRj ho' (fun e he hb=>I.closed j o' ho' hl e he hb) i hb;rw[hun] at this;cases this
     .intro h;omega
  .intro d c0 hd hc;have hv:AA (T.wf (frO qc T ops listed i A)) (S (i+1)).g.n ρ' (S (i+1)).mem w' c ((a.put o.dst v).tmps.getD d undef):=by
    have:=r1.rel.at d;rw[a3 d hd,hg,hmem2];exact this
   exact I.own H ho hun hd htm hn1 r2' hv hc
  .intro e he;rw[hg];exact (r1.ges e (a6 e he).1).un
 .omega
theorem A9.comes (H:BL qc md tg P T call ys ops pc S)(hA:Agr T (S ops.size).g)(hob:AY T (S ops.size).g)(hpc:pcv T pc)(hpk:A8 T (S 0).g pc)(hm0:AD T (S 0).g.n ρ0 (S 0).mem w0)(I0:A9 qc P T ops S ρ0 w0 A q listed ρ a w){i:Nat}{o:Oper}(ho:ops[i]? =some o)
  (hun:listed.getD i false=false) (hready:∀e∈o.after,Region.binds .any e=true->listed.getD e.on false=true) {K:Act->World->Prop} {Q:Exit->Act->World->Prop}
  (hK:∀A' q' ρ' v w',A9 qc P T ops S ρ0 w0 A' q' (listed.setIfInBounds i true) ρ' (a.put o.dst v) w'->K (a.put o.dst v) w'):Ce P r kk ops o a w K Q:=by
 exact I0.comesw H hA hob hpc hpk hm0 ho hun hready fun A' q' ρ' v w' h1 _ _=>hK A' q' ρ' v w' h1
end
section
variable {qc md:Bool}{tg:List Tmp}{P:Program}{T:Tab}{call:Ak}{ys:Ys}{r:Option Nat}{kk:Nat}{ops:Array Oper}{pc:PC}
theorem A9.full {S:Nat->DS}(H:BL qc md tg P T call ys ops pc S){ρ0:Nat->Option Nat}{w0:World}{A:Nat->Nat}{q:Nat}{listed:Array Bool}{ρ :Nat->Option Nat}{a:Act}{w:World}(I0:A9 qc P T ops S ρ0 w0 A q listed ρ a w)(hl:∀j,j < ops.size->listed.getD j false=true):
  ∃ ρ',Bm T ρ' ops ⟨(S ops.size).tmps,(S ops.size).mem,(S ops.size).g,(S ops.size).gls.map (·.2)⟩ a w/\AE T (S 0).g.n ρ0 (S 0).mem w0 ρ' (S ops.size).mem w:=by
 have hqle:=I0.qle;obtain⟨ρ,I⟩:=A9.acts H (ops.size - q) I0 (by omega) fun j o h1 h2 ho=>by
  refine⟨.inl (hl j (by omega)),fun h3=>?_⟩;have:=(I0.mlist j o ho h3).1 (hl j (by omega));omega
 rw[show q+(ops.size - q)=ops.size by omega] at I;obtain⟨l1,_,_⟩:=H.later 0 ops.size (by omega);rw[v8] at l1;have hfr:T.wf (frO qc T ops listed ops.size A)=T:=by
  have e:frO qc T ops listed ops.size A=T.fr:=by
   funext b off;apply propext;constructor
   .exact fun h=>h.1
   .exact fun h=>⟨h,fun⟨i,o,ho,_,_,hq,_⟩=>by have:=(vx.1 ho).1;omega⟩
  rw[e];rfl
 have hm:=I.mem;rw[hfr] at hm;refine⟨ρ,⟨⟨I.defers,by rw[I.asize,l1.len],fun t c hc=>?_,hm⟩,fun e he=>?_⟩,I.st⟩
 .have:=I.val H (vr _) hc fun i o ho hd=> .inl (by
   have hiN:i < ops.size:=(vx.1 ho).1;exact⟨hl i hiN,hiN,fun _=>hiN⟩)
  rw[hfr] at this;exact this
 .obtain⟨p,hp,rfl⟩:=List.mem_map.1 he;have hlt:=(H.gls ops.size (vr _) p hp).1;obtain⟨l3,_,_⟩:=H.later (p.1+1) (ops.size - (p.1+1)) (by omega);rw[show p.1+1+(ops.size - (p.1+1))=ops.size by omega] at l3;exact (I.gfacts p hp (hl p.1 hlt)).1.up l3.grow.n
theorem dr {S:Nat->DS}(H:BL qc md tg P T call ys ops pc S)(hA:Agr T (S ops.size).g)(hob:AY T (S ops.size).g)(hpc:pcv T pc)(hpk:A8 T (S 0).g pc){Q:Exit->Act->World->Prop}{ρ0:Nat->Option Nat}{w0:World}(hm0:AD T (S 0).g.n ρ0 (S 0).mem w0)
  (hK:∀ ρ a w,Bm T ρ ops ⟨(S ops.size).tmps,(S ops.size).mem,(S ops.size).g,(S ops.size).gls.map (·.2)⟩ a w->AE T (S 0).g.n ρ0 (S 0).mem w0 ρ (S ops.size).mem w->Q .normal a w):
  ∀(fuel:Nat) (listed:Array Bool) (A:Nat->Nat) (ρ :Nat->Option Nat) (q:Nat) (a:Act) (w:World),A9 qc P T ops S ρ0 w0 A q listed ρ a w->CR listed=fuel->wpAnyIn (fen r) kk P .any ops Q fuel listed a w:=by
 intro fuel;induction fuel with
 |zero=>
  intro listed A ρ q a w I hu;have hall:∀j,j < ops.size->listed.getD j false=true:=fun j hj=>by
   cases hlj:listed.getD j false with
   |true=>rfl
   |false=>
    have:=D1 (listed:=listed) (i:=j) (by rw[I.size];exact hj) hlj;omega
  obtain⟨ρ2,h1,h2⟩:=I.full H hall;refine wpAnyIn_done ?_ (hK ρ2 a w h1 h2) _;refine List.eq_nil_iff_forall_not_mem.2 fun i hi=>?_;obtain⟨h1,o,ho,_⟩:=mem_ready.1 hi;have hiN:i < ops.size:=(vx.1 ho).1;have h2:=hall i hiN;rw[vy] at h1 h2;have hlt:i < listed.size:=by rw[I.size];exact hiN
  rw[Array.getElem?_eq_getElem hlt] at h1 h2;simp only[Option.getD_some] at h1 h2;rw[h1] at h2;cases h2
 |succ fuel ih=>
  intro listed A ρ q a w I hu;by_cases hall:∀j,j < ops.size->listed.getD j false=true
  .have hc:=FL (h:=ops.size) (by rw[I.size];exact vr _) (fun j=>by
    refine⟨fun h=>?_,hall j⟩;rcases wD j ops.size with h1|h1
    .exact h1
    .rw[vy,Array.getElem?_eq_none (by rw[I.size];exact h1)] at h;cases h)
   rw[hu,I.size] at hc;omega
  .simp only[Classical.not_forall] at hall;obtain⟨j,hj,hlj⟩:=hall;have hmin:∃j,j < ops.size/\listed.getD j false=false/\∀i,i < j->listed.getD i false=true:=by
    have key:∀n,(∃j,j < n/\j < ops.size/\listed.getD j false=false)->∃j,j < ops.size/\listed.getD j false=false/\∀i,i < j->listed.getD i false=true:=by
     intro n;induction n with
     |zero=>rintro⟨j,h1,_⟩;omega
     |succ n ihn=>
      rintro⟨j,h1,h2,h3⟩;by_cases hx:∃j,j < n/\j < ops.size/\listed.getD j false=false
      .exact ihn hx
      .have hjn:j=n:=by
        rcases wD j n with h|h
        .exact absurd ⟨j,h,h2,h3⟩ hx
        .omega
       subst hjn;refine⟨j,h2,h3,fun i hi=>?_⟩;cases hli:listed.getD i false with
       |true=>rfl
       |false=>exact absurd ⟨i,hi,by omega,hli⟩ hx
    exact key (j+1) ⟨j,Nat.lt_succ_self _,hj,by simpa using hlj⟩
   obtain⟨j0,h0,hl0,hbelow⟩:=hmin;have toF:∀i,listed.getD i true=false->listed.getD i false=false:=fun i h=>by
    rw[vy] at h⊢;cases hx:listed[i]? with
    |none=>rfl
    |some b=>rw[hx] at h;exact h
   have hr0:j0∈Region.ready .any ops listed:=by
    obtain⟨o,ho⟩:=BL.op (ops:=ops) h0;refine mem_ready.2 ⟨?_,o,ho,fun e he hb=>hbelow e.on (N0 H.masks ho he hb)⟩;have hlt:j0 < listed.size:=by rw[I.size];exact h0
    rw[vy,Array.getElem?_eq_getElem hlt] at hl0⊢;simpa using hl0
   refine⟨(fun hnil=>by rw[hnil] at hr0;cases hr0),fun i hir=>?_⟩;obtain⟨q1,o,q2,q3⟩:=mem_ready.1 hir;have hiN:i < ops.size:=(vx.1 q2).1;refine Fa q2 (I.comes H hA hob hpc hpk hm0 q2 (toF i q1) q3 fun A' q' ρ' v w' I'=>?_);refine ih _ _ _ _ _ w' I' ?_;have:=D1 (listed:=listed) (i:=i) (by rw[I.size];exact hiN) (toF i q1);omega
theorem JF {D DA:List (Tmp × Nat)}{RA:List Nat}:∀{l:List Oper} {Rs:List Nat} {j0:Nat} {S0 Sh:DS},MW qc md tg P call ys ops D DA RA pc Rs l j0 S0=some Sh->
  ∃S:Nat->DS,S j0=S0/\S (j0+l.length)=Sh/\∀i o,l[i]? =some o->∃R,Rs[i]? =some R/\Qi qc md tg P call ys ops D DA RA pc R (j0+i) o (S (j0+i))=some (S (j0+i+1))
 |[],Rs,j0,S0,Sh,h=>by
  have h':some S0=some Sh:=by cases Rs<;>exact h
  cases h';exact⟨fun _=>S0,rfl,rfl,fun i o ho=>by simp at ho⟩
 |o::l,[],j0,S0,Sh,h=>by simp[MW] at h
 |o::l,R::Rs,j0,S0,Sh,h=>by
  simp only[MW,vq,vn] at h;obtain⟨S1,h1,h2⟩:=h;obtain⟨S,q1,q2,q3⟩:=JF h2;refine⟨fun k=>if k=j0 then S0 else S k,by simp,?_,fun i o' ho'=>?_⟩
  .simp only[wQ];rw[if_neg (by omega),<-q2];congr 1;omega
  .cases i with
   |zero=>
    simp at ho';subst ho';refine⟨R,rfl,?_⟩;simp only[Nat.add_zero,if_true];rw[if_neg (by omega),q1];exact h1
   |succ i=>
    obtain⟨R',hR',this⟩:=q3 i o' (by simpa using ho');refine⟨R',by simpa using hR',?_⟩;simp only;rw[if_neg (by omega),if_neg (by omega),show j0+(i+1)=j0+1+i by omega];exact this
theorem bV (hm:P.follows .mixedOrders=true)(hcall:∀T,CS P T call)(hys:CL P T.lp ys){l:Loc}{g:G}{s':RS}(h:Er qc md tg P call ys ops pc l g=some s'):
  AR g s'.g/\s'.tmps.n=l.tmps.n/\(Agr T s'.g->AY T s'.g->pcv T pc->A8 T g pc->∀id ρ a w Q,Rel T g.n ρ l a w->
   (∀ ρ' a' w',Bm T ρ' ops s' a' w'->AE T g.n ρ l.mem w ρ' s'.mem w'->Q .normal a' w')->(Code.region id ops true).wpIn (fen r) kk P Q a w):=by
 unfold Er at h;simp only at h;split at h
 .rename_i hc;rw[vo,vo,vo] at hc;obtain⟨⟨⟨hmask,hnod⟩,hord⟩,hwide⟩:=hc;simp only[vq,vn] at h;obtain⟨Sh,hh,ht⟩:=h;obtain⟨S,q1,q2,q3⟩:=JF hh;rw[v8,Array.length_toList] at q2;have H:BL qc md tg P T call ys ops pc S:=by
   refine⟨fun j o ho=>?_,hmask,hnod,fun i o R ho hR j oj hoj hlt=>?_,fun i o R ho hR n0 n4 j oj hoj hlt h4 hb m om hom hmj=>?_,hcall,hys,by rw[q1]⟩
   .obtain⟨R,hR,this⟩:=q3 j o (by simpa using ho);rw[v8] at this;exact⟨R,hR,this⟩
   .have:=O6 hord i R (AG qc (AL 0 ops.toList) o) hR (by simp[ho]) j (AG qc (AL 0 ops.toList) oj) (by simp[hoj]) (by omega);exact⟨this.1,this.2⟩
   .have hcl:∀(j:Nat) (oj:Oper),ops[j]? =some oj->(ops.toList.map (AG qc (AL 0 ops.toList)))[j]? =some (AG qc (AL 0 ops.toList) oj):=fun j oj h=>by simp[h]
    have hmem:=Iy (j0:=0) (j:=j) (by rw[hcl j oj hoj,h4]);rw[v8] at hmem;have hcv:=PD hwide i R _ hR (hcl i o ho) n0 n4 j hmem (by omega) hb;have:=O4 hcv m _ (hcl m om hom) hmj;rw[v8] at this;exact this
  obtain⟨l1,_,_⟩:=H.later 0 ops.size (by omega);rw[v8] at l1;have g0:(S 0).g=g:=by rw[q1]
  have m0:(S 0).mem=l.mem:=by rw[q1]
  have tm0:(S 0).tmps=l.tmps:=by rw[q1]
  subst q2;injection ht with ht
  subst ht;refine⟨?_,?_,fun hA hob hpc hpk id ρ a w Q hR hK=>?_⟩
  .rw[<-g0];exact l1.grow
  .rw[<-tm0];exact l1.len
  .refine wpIn_region_any hm ?_;have hst:=AE.drawn T (S 0).g.n ρ (S 0).mem w (w.drawn+1);have hm0:AD T (S 0).g.n ρ (S 0).mem { w with drawn:=w.drawn+1 }:=by rw[g0,m0];exact hR.mem.drawn _
   have hun:∀j,(Array.replicate ops.size false).getD j false=false:=fun j=>by
    rw[vy,Array.getElem?_replicate];split<;>rfl
   have hT:T.wf (frO qc T ops (Array.replicate ops.size false) 0 (fun _=>0))=T:=by
    have e:frO qc T ops (Array.replicate ops.size false) 0 (fun _=>0)=T.fr:=by
     funext b off;apply propext;constructor
     .exact fun h=>h.1
     .exact fun h=>⟨h,fun⟨i,o,ho,_,hl,_,_⟩=>by rw[hun] at hl;cases hl⟩
    rw[e];rfl
   have I0:A9 qc P T ops S ρ { w with drawn:=w.drawn+1 } (fun _=>0) 0 (Array.replicate ops.size false) ρ a { w with drawn:=w.drawn+1 }:=by
    refine⟨by simp,fun j o _ hj=>?_,wX _,fun j o hj=>by omega,fun j o _ _=>?_,(by rw[m0];exact hR.defers.on (AE.drawn T g.n ρ l.mem w (w.drawn+1))),by rw[tm0];exact hR.size,by rw[hT];exact hm0,fun t c hc _=>?_,fun i o d c hi=>?_,fun p _ hp=>?_,fun i o _ _ hl=>?_,fun i j oi oj _ _ _ _ hl=>?_,AE.refl _ _ _ _ _⟩
    .rw[hun] at hj;cases hj
    .rw[hun];simp
    .rw[tm0] at hc;have:=hR.tmps t c hc;rw[hT,g0,m0];exact AA.mono0 (by rw[<-g0,<-m0];exact hst) (vr _) _ _ this
    .rw[hun] at hi;cases hi
    .rw[hun] at hp;cases hp
    .rw[hun] at hl;cases hl
    .rw[hun] at hl;cases hl
   have hcount:CR (Array.replicate ops.size false)=ops.size:=by simp[CR,List.countP_replicate]
   refine dr H hA hob hpc (by rw[g0];exact hpk) hm0 (fun ρ2 a2 w2 hi2 hs2=>?_) ops.size _ _ ρ 0 a _ I0 hcount;refine hK ρ2 a2 w2 hi2 ?_;rw[<-g0,<-m0];exact hst.trans (by rw[g0,m0];exact hR.mem) (vr _) hs2
 .cases h
end
section
variable {T:Tab}{n:Nat}{ρ :Nat->Option Nat}{m:Mem}{w w':World}{b:Nat}
def Blk.isRow:Blk->Bool| .tok .. | .mrow .. =>true|_=>false
mutual
theorem AA.frame (hs:∀b off,AS T ρ m w b off->AS T ρ m w' b off/\w'.cell? ⟨b,off,none⟩=w.cell? ⟨b,off,none⟩)(hl:∀id b,(m.at id).isRow=true-> ρ id=some b->w'.heap[b]? =w.heap[b]?):∀(c:AC) (v:Value),AA T n ρ m w c v->AA T n ρ m w' c v
 | .any,_,_=>trivial
 | .anyc,_,hh=>hh
 | .on _ a,v,hh=>⟨hh.1,fun h1=>AA.frame hs hl a v (hh.2 h1)⟩
 | .gd _ a,v,hh=>⟨hh.1,fun h1=>AA.frame hs hl a v (hh.2.1 h1),hh.2.2⟩
 | .cb _,_,hh=>hh
 | .b _,_,hh=>hh
 | .nb _,_,hh=>hh
 | .ci _ _,_,hh=>hh
 | .i _ _ _ _,_,hh=>hh
 | .cv _,_,hh=>hh
 | .v _,_,hh=>hh
 | .s _,_,hh=>hh
 | .ptr _ _,_,hh=>hh
 | .pix _ _ _ _ _ _,_,hh=>hh
 | .ro x ks,v,⟨h0,h2⟩=>⟨h0,AM.mono hs _ _ v h2⟩
 | .rp x t off ks,v,⟨h0,j,b,o,us,h2,h3,h4,h5,h6⟩=>⟨h0,j,b,o,us,h2,h3,h4,h5,AX.mono hs _ _ _ _ h6⟩
 | .vec id x ks,v,⟨h0,hp,h2,h3⟩=>⟨h0,hp,AM.mono hs _ _ v h2,fun ks' e he=>by
   rcases h3 ks' e he with l1|⟨b,cap,vs,l1,l2,l3,l4⟩
   .exact .inl l1
   .exact .inr ⟨b,cap,vs,l1,l2,by rw[hl id b (by rw[he];rfl) l1];exact l3,l4⟩⟩
 | .fn f first cap,v,⟨vs,us,h1,h2,h3⟩=>⟨vs,us,h1,AB.frame hs hl first vs h2,AB.frame hs hl cap us h3⟩
 | .sel x alts,v,⟨h0,j,h1,h2,h3⟩=>⟨h0,j,h1,h2,Aa.frame hs hl alts j.toNat v h3⟩
 | .yl _,_,hh=>hh
 | .asl _ _ _,_,hh=>hh
 | .rsv id x ks,v,⟨h0,hp,h2,h4,h3⟩=>⟨h0,hp,h2,h4,fun ks' e he=>by
   rcases h3 ks' e he with l1|⟨b,len,cap,vs,l1,l2,l0,l3,l4⟩
   .exact .inl l1
   .exact .inr ⟨b,len,cap,vs,l1,l2,l0,by rw[hl id b (by rw[he];rfl) l1];exact l3,l4⟩⟩
 | .mr id y,v,⟨h0,j,a,cap,k1,k2,k3,k4,k5⟩=>⟨h0,j,a,cap,k1,k2,k3,k4,fun x ks e he=>by
   rcases k5 x ks e he with l1|⟨b,vs,l1,l2,l3,l4⟩
   .exact .inl l1
   .exact .inr ⟨b,vs,l1,l2,by rw[hl id b (by rw[he];rfl) l1];exact l3,l4⟩⟩
 | .mp _ _ _ _ _,_,hh=>hh
 | .mv _,_,hh=>hh
 | .agg l,v,⟨vs,h1,h2⟩=>⟨vs,h1,AB.frame hs hl l vs h2⟩
 | .tup l,v,⟨vs,h1,h2⟩=>⟨vs,h1,AB.frame hs hl l vs h2⟩
theorem AB.frame (hs:∀b off,AS T ρ m w b off->AS T ρ m w' b off/\w'.cell? ⟨b,off,none⟩=w.cell? ⟨b,off,none⟩)(hl:∀id b,(m.at id).isRow=true-> ρ id=some b->w'.heap[b]? =w.heap[b]?):∀(l:List AC) (vs:List Value),AB T n ρ m w l vs->AB T n ρ m w' l vs
 |[],_,hh=>hh
 |c::l,_,⟨u,us,h1,h2,h3⟩=>⟨u,us,h1,AA.frame hs hl c u h2,AB.frame hs hl l us h3⟩
theorem Aa.frame (hs:∀b off,AS T ρ m w b off->AS T ρ m w' b off/\w'.cell? ⟨b,off,none⟩=w.cell? ⟨b,off,none⟩)(hl:∀id b,(m.at id).isRow=true-> ρ id=some b->w'.heap[b]? =w.heap[b]?):∀(l:List AC) (j:Nat) (v:Value),Aa T n ρ m w l j v->Aa T n ρ m w' l j v
 |[],_,_,hh=>hh
 |c::_,0,v,hh=>AA.frame hs hl c v hh
 |_::l,j+1,v,hh=>Aa.frame hs hl l j v hh
end
structure Hb (w w':World) (b:Nat):Prop where
 os:w'.os=w.os
 tape:w'.tape=w.tape
 output:w'.output=w.output
 size:w'.heap.size=w.heap.size
 oth:∀k,k≠b->w'.heap[k]? =w.heap[k]?
theorem aw {w:World}{b:Nat}{vs:Array Value}{e:TypeId}(xs:Array Value)(h:w.heap[b]? =some (.cells vs e (0,0))):(w.setRow b xs).heap[b]? =some (.cells xs e (0,0)):=by
 have hlt:=(vx.1 h).1;have h2:=(vx.1 h).2;simp[World.setRow,Array.getElem?_modify,h]
theorem Hb.setRow (w:World)(b:Nat)(xs:Array Value):Hb w (w.setRow b xs) b where
 os:=rfl
 tape:=rfl
 output:=rfl
 size:=by simp[World.setRow]
 oth:=fun k hk=>by
  simp only[World.setRow,Array.getElem?_modify];rw[if_neg (by omega)]
theorem Hb.cell (h:Hb w w' b){k:Nat}(hk:k≠b)(off:Nat):w'.cell? ⟨k,off,none⟩=w.cell? ⟨k,off,none⟩:=BY (h.oth k hk) off
theorem AS.poke (h:Hb w w' b)(hb:∀off,¬AS T ρ m w b off){k off:Nat}(hs:AS T ρ m w k off):AS T ρ m w' k off/\w'.cell? ⟨k,off,none⟩=w.cell? ⟨k,off,none⟩:=by
 have hk:k≠b:=fun e=>hb off (by rw[<-e];exact hs);obtain⟨h1,h2,h3⟩:=hs;exact⟨⟨by rw[h.size];exact h1,h2,h3⟩,h.cell hk off⟩
theorem AD.poke (hm:AD T n ρ m w)(h:Hb w w' b)(hb:∀off,¬AS T ρ m w b off)(ht:∀id,(m.at id).isRow=true-> ρ id≠some b)(hk:∀id,(m.at id).tracked=true-> ρ id=some b->BB T n ρ m w' id (m.at id)):AD T n ρ m w':=by
 have hs:∀k off,AS T ρ m w k off->AS T ρ m w' k off/\w'.cell? ⟨k,off,none⟩=w.cell? ⟨k,off,none⟩:=fun k off hs=>AS.poke h hb hs;have hl:∀id k,(m.at id).isRow=true-> ρ id=some k->w'.heap[k]? =w.heap[k]? :=fun id k he hr=>h.oth k fun e2=>ht id he (by rw[hr,e2]);refine⟨fun id=>?_,hm.inj,fun k off hk=>hm.fr k off (by rw[<-h.size];exact hk)⟩;by_cases hr:(m.at id).tracked=true/\ ρ id=some b
 .exact hk id hr.1 hr.2
 .have hbk:=hm.blk id;have key:∀k,(m.at id).tracked=true-> ρ id=some k->w'.heap[k]? =w.heap[k]? :=fun k h1 h2=>h.oth k fun e=>hr ⟨h1,by rw[h2,e]⟩;cases hx:m.at id with
  |pad=>trivial
  |gone=>trivial
  |cells l e=>
   rw[hx] at hbk key;obtain⟨k,vs,h1,h2,h3⟩:=hbk;exact⟨k,vs,h1,by rw[key k rfl h1];exact h2,AB.frame hs hl l vs h3⟩
  |lp x st=>
   rw[hx] at hbk key;obtain⟨k,q,h1,h2,h3,h4,h5,h9,h6,j,h7,h8⟩:=hbk;exact⟨k,q,h1,by rw[key k rfl h1];exact h2,h3,h4,h5,h9,fun i c hc=>AA.frame hs hl _ _ (h6 i c hc),j,AA.frame hs hl _ _ h7,h8⟩
  |tok x ks e=>
   rw[hx] at hbk key;obtain⟨h0,r,h1,h2⟩:=hbk;refine⟨h0,r,h1,?_⟩;rcases h2 with h2|⟨k,vs,h2,h3,h4,h5⟩
   .exact .inl h2
   .exact .inr ⟨k,vs,h2,by rw[key k rfl h2];exact h3,h4,h5⟩
  |mrow x y ks e=>
   rw[hx] at hbk key;obtain⟨h0,r,h1,h2,h3,h4⟩:=hbk;refine⟨h0,r,h1,h2,h3,?_⟩;rcases h4 with h4|⟨k,vs,us,h4,h5,h6,h7⟩
   .exact .inl h4
   .exact .inr ⟨k,vs,us,h4,by rw[key k rfl h4];exact h5,AU.mono hs h6,h7⟩
  |mapb x kk ka vk va=>
   rw[hx] at hbk key;obtain⟨h0,r,k,es,clock,h1,h2,h3,h4,h5,h6,h7⟩:=hbk;exact⟨h0,r,k,es,clock,h1,h2,by rw[key k rfl h2];exact h3,h4,h5,fun i us e h8 h9=>by
    obtain⟨u1,u2,g1,g2,g3⟩:=h6 i us e h8 h9;exact⟨u1,u2,g1,Bn.mono hs g2,Bn.mono hs g3⟩,h7⟩
theorem Co.poke {B:Nat}{ds:List Deferred}{vs:Array Value}{e:TypeId}(hd:Co B ρ m w ds)(h:Hb w w' b)(hb:w.heap[b]? =some (.cells vs e (0,0))):Co B ρ m w' ds:=by
 obtain⟨h0,Ds,h1,h2,h3⟩:=hd;refine⟨by rw[h.size];exact h0,Ds,h1,h2,fun D hD=>?_⟩;obtain⟨k0,k1,k2⟩:=h3 D hD;refine⟨k0,?_,k2⟩;rw[h.oth D fun e=>by rw[e,hb] at k1;cases k1];exact k1
theorem AE.poke {n0:Nat}{ρ0:Nat->Option Nat}{m0:Mem}{w0:World}(s:AE T n0 ρ0 m0 w0 ρ m w)(h:Hb w w' b)(ho:b < w0.heap.size->∃id,(m0.at id).tracked=true/\ ρ0 id=some b)(ht:∀id,(m0.at id).isRow=true-> ρ0 id≠some b):AE T n0 ρ0 m0 w0 ρ m w' where
 os:=h.os.trans s.os
 tape:=h.tape.trans s.tape
 output:=h.output.trans s.output
 size:=by rw[h.size];exact s.size
 mlen:=s.mlen
 rho:=s.rho
 untr:=s.untr
 fresh:=s.fresh
 old:=fun k hk hno=>by
  rw[h.oth k fun e=>by
   subst e;obtain⟨id,h1,h2⟩:=ho hk;exact hno id h1 h2]
  exact s.old k hk hno
 tok:=fun id x ks e hx=>by
  have hne:∀b', ρ0 id=some b'->b'≠b:=fun b' h1 h2=>ht id (by rw[hx];rfl) (by rw[h1,h2]);rcases s.tok id x ks e hx with⟨a1,a2,a3⟩|⟨a1,a2⟩
  .exact .inl ⟨a1,a2,fun b' hb'=>by rw[h.oth b' (hne b' hb')];exact a3 b' hb'⟩
  .exact .inr ⟨fun b' hb' off ho=>by rw[h.cell (hne b' hb') off];exact a1 b' hb' off ho,a2⟩
 row:=fun id x y ks e hx=>by
  have hne:∀b', ρ0 id=some b'->b'≠b:=fun b' h1 h2=>ht id (by rw[hx];rfl) (by rw[h1,h2]);rcases s.row id x y ks e hx with a1|⟨x',y',ks',a1,a2,⟨a3,a4,a5⟩|a3⟩
  .exact .inl a1
  .exact .inr ⟨x',y',ks',a1,a2,.inl ⟨a3,a4,fun b' vs hb' hv=>by
    rw[h.oth b' (hne b' hb')];exact a5 b' vs hb' hv⟩⟩
  .exact .inr ⟨x',y',ks',a1,a2,.inr a3⟩
end
theorem P7:∀{l:List AC},Eu l=true->∀c∈l,c= .any
 |[],_,c,h=>by cases h
 |a::l,h,c,hc=>by
  cases a<;>first|(cases h;done)|skip
  rcases List.mem_cons.1 hc with h1|h1
  .exact h1
  .exact P7 (l:=l) h c h1
theorem NO {T:Tab}{n:Nat}{ρ :Nat->Option Nat}{m:Mem}{w:World}{l:List AC}(h:Eu l=true){vs:List Value}(hl:vs.length=l.length):AB T n ρ m w l vs:=
 AB.of_get hl fun i c u h1 _=>by
  rw[P7 h c (List.mem_of_getElem? h1)];trivial
section
variable {qc md:Bool}{tg:List Tmp}{P:Program}{T:Tab}{call:Ak}{ys:Ys}{r:Option Nat}{kk:Nat}{ops:Array Oper}{pc:PC}
variable {S:Nat->DS}{ρ0:Nat->Option Nat}{w0:World}{A:Nat->Nat}{q:Nat}{listed:Array Bool}{ρ ρ':Nat->Option Nat}{a:Act}{w w':World}
theorem BL.grows (H:BL qc md tg P T call ys ops pc S){K:Nat}(h3:∀(j:Nat) (o:Oper),K<=j->ops[j]? =some o->AG qc (AL 0 ops.toList) o≠3)(i:Nat)(hKi:K<=i):∀k,i+k<=ops.size->∃m2,(S (i+k)).mem=(S i).mem++m2
 |0,_=>⟨[],by simp⟩
 |k+1,hk=>by
  obtain⟨m2,h2⟩:=H.grows h3 i hKi k (by omega);obtain⟨o,ho⟩:=BL.op (ops:=ops) (j:=i+k) (by omega);obtain⟨R,hR,hs⟩:=H.step (i+k) o ho;obtain⟨s',c,a1,a2,_⟩:=C1 hs;have e:(S (i+(k+1))).mem=(S (i+k+1)).mem:=rfl;by_cases h4:AG qc (AL 0 ops.toList) o=4
  .obtain⟨hg,t,ht⟩:=Cs h4;obtain⟨l,_,_,b3,_,_⟩:=FY hg ht a1;have e2:(S (i+k+1)).mem=Iq tg o.dst (S (i+k)).mem s'.mem:=by rw[a2,h4];rfl
   have e3:((S (i+k)).masked (Ah 0 ops.toList) (okG (AQ ops.toList []) R (i+k)) R (Ap ops o)).mem=(S (i+k)).mem:=rfl;rw[e,e2,b3,e3,h2];unfold Iq;split
   .exact⟨m2++_,by rw[wZ]⟩
   .exact⟨m2++_,by rw[wZ]⟩
  .have hlt:AG qc (AL 0 ops.toList) o < 3:=by
    have:=IW (qc:=qc) (D:=AL 0 ops.toList) (o:=o);have:=h3 (i+k) o (by omega) ho;omega
   have hb:Nat.ble 3 (AG qc (AL 0 ops.toList) o)=false:=by
    cases hx:Nat.ble 3 (AG qc (AL 0 ops.toList) o) with
    |false=>rfl
    |true=>have:=wN hx;omega
   refine⟨m2,?_⟩;rw[e,a2];simp only[hb];exact h2
theorem BL.atN (H:BL qc md tg P T call ys ops pc S){K:Nat}(h3:∀(j:Nat) (o:Oper),K<=j->ops[j]? =some o->AG qc (AL 0 ops.toList) o≠3){i j:Nat}(hKi:K<=i)(hij:i<=j)(hj:j<=ops.size){id:Nat}(hp:(S i).mem.at id≠ .pad):(S j).mem.at id=(S i).mem.at id:=by
 obtain⟨m2,h⟩:=H.grows h3 i hKi (j - i) (by omega);rw[show i+(j - i)=j by omega] at h;rw[h];unfold Mem.at;have hl:id < (S i).mem.length:=by
  rcases wD id (S i).mem.length with h|h
  .exact h
  .exact absurd (Mem.at_ge h) hp
 rw[wE hl]
def U6 (qc:Bool)(ρ0:Nat->Option Nat)(w0:World)(ops:Array Oper)(S:Nat->DS)(A:Nat->Nat)(q:Nat)(listed:Array Bool)(ρ :Nat->Option Nat)(b:Nat):Prop:=
 (∃k o l t,ops[k]? =some o/\AG qc (AL 0 ops.toList) o=4/\listed.getD k false=true/\q<=k/\A k=b/\(S (k+1)).mem=(S k).mem++[.cells l t]/\Eu l=true)\/
 (∃id l e,(S q).mem.at id= .cells l e/\ ρ id=some b/\Eu l=true/\(w0.heap.size<=b\/∃id0,((∃l0 e0,(S 0).mem.at id0= .cells l0 e0)/\ ρ0 id0=some b)))
theorem O2 {b:Blk}(h:b.isRow=true):b.tracked=true:=by cases b<;>first|rfl|cases h
theorem A9.poke (hm0:AD T (S 0).g.n ρ0 (S 0).mem w0)(I:A9 qc P T ops S ρ0 w0 A q listed ρ a w){b:Nat}(hp:U6 qc ρ0 w0 ops S A q listed ρ b)(h:Hb w w' b){vs vs':List Value}{e:TypeId}(hb:w.heap[b]? =some (.cells vs.toArray e (0,0)))(hb':w'.heap[b]? =some (.cells vs'.toArray e (0,0)))
  (hl:vs'.length=vs.length):A9 qc P T ops S ρ0 w0 A q listed ρ a w':=by
 have hns:∀off,¬AS (T.wf (frO qc T ops listed q A)) ρ (S q).mem w b off:=by
  rintro off ⟨s1,s2,s3⟩;rcases hp with⟨k,o,l,t,p1,p2,p3,p4,p5,_,_⟩|⟨id,l,e2,p1,p2,_⟩
  .exact s2.2 ⟨k,o,p1,p2,p3,p4,p5⟩
  .have:=s3 id;rw[p1] at this;exact this p2
 have uniq:∀id,((S q).mem.at id).tracked=true-> ρ id=some b->∃l e,(S q).mem.at id= .cells l e/\Eu l=true:=by
  intro id ht hr;rcases hp with⟨k,o,l,t,p1,p2,p3,p4,p5,_,_⟩|⟨id2,l,e2,p1,p2,p3,_⟩
  .obtain⟨_,c2,_⟩:=I.pend k o p1 p2 p3 p4;exact absurd (by rw[p5];exact hr) (c2 id ht)
  .have:=I.mem.inj id id2 b ht (by rw[p1];rfl) hr p2;subst this;exact⟨l,e2,p1,p3⟩
 have hnt:∀id,((S q).mem.at id).isRow=true-> ρ id≠some b:=by
  intro id he hr;obtain⟨l,e2,h1,_⟩:=uniq id (O2 he) hr;rw[h1] at he;cases he
 have hs:∀k off,AS (T.wf (frO qc T ops listed q A)) ρ (S q).mem w k off->AS (T.wf (frO qc T ops listed q A)) ρ (S q).mem w' k off/\w'.cell? ⟨k,off,none⟩=w.cell? ⟨k,off,none⟩:=fun k off hs=>AS.poke h hns hs;have hlk:∀id k,((S q).mem.at id).isRow=true-> ρ id=some k->w'.heap[k]? =w.heap[k]? :=fun id k he hr=>h.oth k fun e2=>hnt id he (by rw[hr,e2]);have hmem:=AD.poke I.mem h hns hnt fun id ht hr=>by
  obtain⟨l,e2,h1,h2⟩:=uniq id ht hr;have hbk:=I.mem.blk id;rw[h1] at hbk⊢;obtain⟨b2,vs2,k1,k2,k3⟩:=hbk;rw[hr] at k1;cases k1;rw[hb] at k2;injection k2 with k2
  injection k2 with k4 k5
  have e4:vs=vs2:=by simpa using congrArg Array.toList k4
  subst e4;subst k5;exact⟨b,vs',hr,hb',NO h2 (hl.trans k3.length)⟩
 refine⟨I.size,I.closed,I.qle,I.base,I.mlist,I.defers.poke h hb,I.asize,hmem,fun t c hc hno=>AA.frame hs hlk _ _ (I.init t c hc hno),fun i o d c h1 h2 h4 h5 h6=>AA.frame hs hlk _ _ (I.facts i o d c h1 h2 h4 h5 h6),I.gfacts,fun i o ho h4 hli hqi=>?_,I.inj,?_⟩
 .obtain⟨c1,c2,c3,t,l,vs2,c4,c5,c6,c7⟩:=I.pend i o ho h4 hli hqi;refine⟨c1,c2,c3,t,l,?_⟩;by_cases e2:A i=b
  .refine⟨vs',c4,c5,?_,?_⟩
   .rw[e2] at c6⊢;rw[hb] at c6;injection c6 with c6
    injection c6 with c8 c9
    rw[hb',c9]
   .have hvl:vs2.length=vs.length:=by
     rw[e2,hb] at c6;injection c6 with c6
     injection c6 with c8 c9
     have e4:vs=vs2:=by simpa using congrArg Array.toList c8
     rw[e4]
    rcases hp with⟨k,ok,l2,t2,p1,p2,p3,p4,p5,p6,p7⟩|⟨id,l2,e3,p1,p2,_⟩
    .have:=I.inj i k o ok ho p1 h4 p2 hli p3 hqi p4 (by rw[e2,p5]);subst this;rw[p6] at c5;have e5:=List.append_cancel_left c5;injection e5 with e5
     injection e5 with e6 e7
     subst e6;intro T n ρ m w;refine NO p7 ?_;rw[hl,<-hvl];exact (c7 T n ρ m w).length
    .exact absurd (by rw[e2];exact p2) (c2 id (by rw[p1];rfl))
  .exact⟨vs2,c4,c5,by rw[h.oth _ e2];exact c6,c7⟩
 .refine I.st.poke h (fun hlt=>?_) fun id he hr=>?_
  .rcases hp with⟨k,o,l,t,p1,p2,p3,p4,p5,_,_⟩|⟨id,l,e2,p1,p2,p3,p4|⟨id0,⟨l0,e0,p4⟩,p5⟩⟩
   .have:=(I.pend k o p1 p2 p3 p4).1;omega
   .omega
   .exact⟨id0,by rw[p4];rfl,p5⟩
  .have hlt0:=hm0.lt (O2 he) hr;rcases hp with⟨k,o,l,t,p1,p2,p3,p4,p5,_,_⟩|⟨id2,l,e2,p1,p2,p3,p4|⟨id0,⟨l0,e0,p4⟩,p5⟩⟩
   .have:=(I.pend k o p1 p2 p3 p4).1;omega
   .omega
   .have:=hm0.inj id id0 b (O2 he) (by rw[p4];rfl) hr p5;subst this;rw[p4] at he;cases he
end
theorem Fp (o:Oper):(BJ o).after=o.after:=by unfold BJ;split<;>rfl
theorem Hf (o:Oper):(BJ o).dst=o.dst:=by unfold BJ;split<;>rfl
theorem Sq (o:Oper):(BJ o).guard=o.guard:=by unfold BJ;split<;>rfl
theorem Kg {o:Oper}(h:Av o=false):BJ o=o:=by unfold BJ;rw[h];rfl
theorem D2 {o:Oper}(h:Av o=true):∃ty t x,o.op= .store ty (.tmp t) x/\((∃y,x= .tmp y)\/∃v,x= .const v)/\o.guard=none/\o.dst=none:=by
 unfold Av at h;split at h
 .rename_i ty t y ho;rw[vo,Option.isNone_iff_eq_none,Option.isNone_iff_eq_none] at h;exact⟨ty,t,_,ho,.inl ⟨y,rfl⟩,h.1,h.2⟩
 .rename_i ty t v ho;rw[vo,Option.isNone_iff_eq_none,Option.isNone_iff_eq_none] at h;exact⟨ty,t,_,ho,.inr ⟨v,rfl⟩,h.1,h.2⟩
 .cases h
theorem Pp:∀(l:List Oper) (acc:List Nat),AQ (l.map BJ) acc=AQ l acc
 |[],_=>rfl
 |o::l,acc=>by simp only[wG,AQ,Fp,Pp l]
theorem Wx:∀(l:List Oper) (k:Nat),Ah k (l.map BJ)=Ah k l
 |[],_=>rfl
 |o::l,k=>by simp only[wG,Ah,Hf,Wx l]
theorem aA:∀(l:List Oper) (k:Nat),AL k (l.map BJ)=AL k l
 |[],_=>rfl
 |o::l,k=>by
  simp only[wG,AL,aA l];cases hf:Av o with
  |false=>rw[Kg hf]
  |true=>
   obtain⟨ty,t,x,ho,_,_,hd⟩:=D2 hf;rw[Hf,hd,ho];unfold BJ;rw[hf];simp
section
variable {qc md:Bool}{tg:List Tmp}{P:Program}{T:Tab}{call:Ak}{ys:Ys}{r:Option Nat}{kk:Nat}{K:Nat}{ops ops0:Array Oper}{pc:PC}
variable {S:Nat->DS}{ρ0:Nat->Option Nat}{w0:World}{A:Nat->Nat}{q:Nat}{listed:Array Bool}{ρ ρ':Nat->Option Nat}{a:Act}{w w':World}
theorem G4 (h:ops0=(ops.toList.map BJ).toArray)(j:Nat):ops0[j]? =(ops[j]?).map BJ:=by
 subst h;rw[<-Array.getElem?_toList];simp
theorem TW (h:ops0=(ops.toList.map BJ).toArray)(tmps:Array Value)(j:Nat):yielded ops0 tmps j=yielded ops tmps j:=by
 unfold yielded;rw[G4 h j];cases ops[j]? with
 |none=>rfl
 |some o=>simp only[Option.map_some,wT,Hf]
theorem Mf:∀{l:List Oper} {k:Nat} {t:Tmp} {i:Nat},An (Ah k l) t=some i->k<=i/\∃o,l[i - k]? =some o/\o.dst=some t
 |[],k,t,i,h=>by simp[Ah,An] at h
 |o::l,k,t,i,h=>by
  unfold Ah at h;cases hd:o.dst with
  |none=>
   rw[hd] at h;obtain⟨h1,o2,h2,h3⟩:=Mf (l:=l) h;exact⟨by omega,o2,by rw[show i - k=(i - (k+1))+1 by omega];simpa using h2,h3⟩
  |some d=>
   rw[hd] at h;simp only[An] at h;cases hb:Nat.beq d t with
   |true=>
    rw[hb] at h;simp only[cond_true,Option.some.injEq] at h;subst h;exact⟨vr _,o,by simp,by rw[hd,vp hb]⟩
   |false=>
    rw[hb] at h;obtain⟨h1,o2,h2,h3⟩:=Mf (l:=l) h;exact⟨by omega,o2,by rw[show i - k=(i - (k+1))+1 by omega];simpa using h2,h3⟩
theorem ID:∀{l:List Oper} {k:Nat} {t:Tmp},An (Ah k l) t=none->∀(j:Nat) (o:Oper),l[j]? =some o->o.dst≠some t
 |[],k,t,h,j,o,hj=>by simp at hj
 |o0::l,k,t,h,j,o,hj=>by
  unfold Ah at h;cases hd:o0.dst with
  |none=>
   rw[hd] at h;cases j with
   |zero=>simp at hj;subst hj;rw[hd];exact fun h=>by cases h
   |succ j=>exact ID h j o (by simpa using hj)
  |some d=>
   rw[hd] at h;simp only[An] at h;cases hb:Nat.beq d t with
   |true=>rw[hb] at h;cases h
   |false=>
    rw[hb] at h;cases j with
    |zero=>
     simp at hj;subst hj;rw[hd];intro e;cases e;rw[Nat.beq_refl] at hb;cases hb
    |succ j=>exact ID h j o (by simpa using hj)
theorem Ot:∀{l:List Oper} {k:Nat} {t:Tmp} {i:Nat},An (AL k l) t=some i->k<=i/\∃o ty,l[i - k]? =some o/\o.op= .alloc ty/\o.dst=some t
 |[],k,t,i,h=>by simp[AL,An] at h
 |o::l,k,t,i,h=>by
  unfold AL at h;split at h
  .rename_i ty d ho hd;simp only[An] at h;cases hb:Nat.beq d t with
   |true=>
    rw[hb] at h;simp only[cond_true,Option.some.injEq] at h;subst h;exact⟨vr _,o,ty,by simp,ho,by rw[hd,vp hb]⟩
   |false=>
    rw[hb] at h;obtain⟨h1,o2,ty2,h2,h3⟩:=Ot (l:=l) h;exact⟨by omega,o2,ty2,by rw[show i - k=(i - (k+1))+1 by omega];simpa using h2,h3⟩
  .obtain⟨h1,o2,ty2,h2,h3⟩:=Ot (l:=l) h;exact⟨by omega,o2,ty2,by rw[show i - k=(i - (k+1))+1 by omega];simpa using h2,h3⟩
theorem OC {D DA:List (Tmp × Nat)}:∀{Rs:List Nat} {l:List Oper},La D DA Rs l=true->∀(i R:Nat) (o:Oper),Rs[i]? =some R->l[i]? =some o->Nu D DA R o=true
 |[],_,_,i,R,o,h,_=>by simp at h
 |R0::Rs,[],_,i,R,o,_,h=>by simp at h
 |R0::Rs,o0::l,h,i,R,o,h1,h2=>by
  simp only[La,vo] at h;cases i with
  |zero=>simp at h1 h2;subst h1;subst h2;exact h.1
  |succ i=>exact OC h.2 i R o (by simpa using h1) (by simpa using h2)
structure FOk (qc:Bool) (K:Nat) (ops ops0:Array Oper) (S:Nat->DS) (P:Program):Prop where
 eq0:ops0=(ops.toList.map BJ).toArray
 ok:∀(i R:Nat) (o:Oper),(AQ ops.toList [])[i]? =some R->ops[i]? =some o->Nu (Ah 0 ops.toList) (AL 0 ops.toList) R o=true
 loud:∀(j:Nat) (o:Oper),K<=j->ops0[j]? =some o->loud qc (AL 0 ops0.toList) o≠3
 late:∀(i:Nat) (o:Oper) (t:Tmp),ops[i]? =some o->Kx o=some t->K=0\/∃k,An (AL 0 ops.toList) t=some k/\K<=k
 fresh:K=0\/∀(i:Nat) (o:Oper) (id off:Nat) (cs:List AC),ops[i]? =some o->Av o=true->CH P (S ops0.size).tmps o=some (id,off,cs)->(S 0).mem.length<=id
 fin:∀(i:Nat) (o:Oper),ops[i]? =some o->Av o=true->∃id off cs c e,CH P (S ops0.size).tmps o=some (id,off,cs)/\(S ops0.size).mem.at id= .cells c e/\Eu c=true/\off+cs.length<=c.length
 dist:∀(i j:Nat) (oi oj:Oper) (id off:Nat) (cs:List AC) (id' off':Nat) (cs':List AC),ops[i]? =some oi->ops[j]? =some oj->Av oi=true->Av oj=true->i≠j->CH P (S ops0.size).tmps oi=some (id,off,cs)->CH P (S ops0.size).tmps oj=some (id',off',cs')->id≠id'
theorem Xv {qc:Bool}{D:List (Tmp × Nat)}{o:Oper}(h:AG qc D o=3):Go.Eng.loud qc D o=3:=by unfold Go.Eng.loud;rw[h];rfl
theorem FOk.three (F:FOk qc K ops ops0 S P):∀(j:Nat) (o:Oper),K<=j->ops0[j]? =some o->AG qc (AL 0 ops0.toList) o≠3:=fun j o hj ho h=>F.loud j o hj ho (Xv h)
theorem FOk.size (F:FOk qc K ops ops0 S P):ops0.size=ops.size:=by rw[F.eq0];simp
theorem FOk.rs (F:FOk qc K ops ops0 S P):AQ ops0.toList []=AQ ops.toList []:=by rw[F.eq0];simp[Pp]
theorem FOk.ds (F:FOk qc K ops ops0 S P):Ah 0 ops0.toList=Ah 0 ops.toList:=by rw[F.eq0];simp[Wx]
theorem FOk.as (F:FOk qc K ops ops0 S P):AL 0 ops0.toList=AL 0 ops.toList:=by rw[F.eq0];simp[aA]
theorem FOk.parts (F:FOk qc K ops ops0 S P){i:Nat}{o:Oper}(ho:ops[i]? =some o)(hf:Av o=true){ty:TypeId}{t:Tmp}{x:Operand}(hop:o.op= .store ty (.tmp t) x):∃R,(AQ ops.toList [])[i]? =some R/\
  ((An (Ah 0 ops.toList) t=none/\K=0)\/∃k ok tk,An (Ah 0 ops.toList) t=some k/\R.testBit k=true/\ops0[k]? =some ok/\ok.op= .alloc tk/\ok.dst=some t/\K<=k)/\
  (∀y,x= .tmp y->(An (Ah 0 ops.toList) y=none)\/∃k ok,An (Ah 0 ops.toList) y=some k/\R.testBit k=true/\ops0[k]? =some ok/\ok.dst=some y/\An (AL 0 ops.toList) y=none):=by
 have hi:i < (AQ ops.toList []).length:=by rw[CJ];exact (vx.1 ho).1
 refine⟨_,vt hi,?_⟩;have h:=F.ok i _ o (vt hi) ho;unfold Nu at h;rw[hop] at h;simp only[hf,Bool.not_true,Bool.false_or,vo,decide_eq_true_eq] at h;obtain⟨⟨h1,h2⟩,h3⟩:=h;have conv:∀{k:Nat} {ok:Oper},ops[k]? =some ok->Av ok=false->ops0[k]? =some ok:=fun {k ok} hk hn=>by rw[G4 F.eq0,hk,Option.map_some,Kg hn]
 have nf:∀{ok:Oper} {d:Tmp},ok.dst=some d->Av ok=false:=fun {ok d} hd=>by
  cases hx:Av ok with
  |false=>rfl
  |true=>
   obtain⟨_,_,_,_,_,_,e⟩:=D2 hx;rw[hd] at e;cases e
 have hft:Kx o=some t:=by unfold Kx;rw[hf,hop];rfl
 have hlate:=F.late i o t ho hft;constructor
 .cases hm:An (Ah 0 ops.toList) t with
  |none=>
   rw[hm] at h2;rcases hlate with hl|⟨k,hl,_⟩
   .exact .inl ⟨rfl,hl⟩
   .rw[hl] at h2;cases h2
  |some k=>
   right;unfold Qn at h1;rw[hm] at h1 h2;obtain⟨_,ok,tk,e1,e2,e3⟩:=Ot h2.symm;refine⟨k,ok,tk,rfl,h1,conv (by simpa using e1) (nf e3),e2,e3,?_⟩;rcases hlate with hl|⟨k',hl,hk'⟩
   .omega
   .rw[hl] at h2;cases h2;exact hk'
 .intro y hy;subst hy;simp only[vo,Option.isNone_iff_eq_none] at h3;obtain⟨h3,h4⟩:=h3;cases hm:An (Ah 0 ops.toList) y with
  |none=>exact .inl rfl
  |some k=>
   right;unfold Qn at h3;rw[hm] at h3;obtain⟨_,ok,e1,e2⟩:=Mf hm;exact⟨k,ok,rfl,h3,conv (by simpa using e1) (nf e2),e2,h4⟩
def dV (ops:Array Oper)(listed:Array Bool)(a:Act)(w:World):Prop:=
 ∀(i:Nat) (o:Oper) (ty:TypeId) (ta:Tmp) (x:Operand),ops[i]? =some o->Av o=true->o.op= .store ty (.tmp ta) x->listed.getD i false=true->
  ∃b off vs us e,a.tmps.getD ta undef= .pointer (some ⟨b,off,none⟩)/\w.heap[b]? =some (.cells (vs:List Value).toArray e (0,0))/\(a.eval x).cells=(us:List Value).toArray/\off+us.length<=vs.length/\(vs.drop off).take us.length=us
theorem Dx {tmps:AO}{o:Oper}{id off:Nat}{cs:List AC}{ty:TypeId}{t:Tmp}{x:Operand}(ho:o.op= .store ty (.tmp t) x)(h:CH P tmps o=some (id,off,cs)):tmps.get t=some (.ptr id off)/\(DF [] tmps x).cellsOf=some cs/\∃i,P.info? ty=some i/\cs.length=i.size:=by
 unfold CH at h;rw[ho] at h;simp only at h;split at h
 .rename_i id' off' cs' i h1 h2 h3;split at h
  .rename_i h4;cases h;exact⟨h1,h2,i,h3,h4⟩
  .cases h
 .cases h
theorem BL.lastT (H:BL qc md tg P T call ys ops0 pc S){k:Nat}{ok:Oper}(hk:ops0[k]? =some ok){t:Tmp}(hd:ok.dst=some t):(S ops0.size).tmps.get t=(S (k+1)).tmps.get t:=by
 have hkN:k < ops0.size:=(vx.1 hk).1;obtain⟨_,l2,_⟩:=H.later (k+1) (ops0.size - (k+1)) (by omega);rw[show k+1+(ops0.size - (k+1))=ops0.size by omega] at l2;exact l2 t fun j o hj1 hj2 ho hd2=>by
  have:=Cg H.nodup hk ho hd hd2;omega
theorem BL.lastT0 (H:BL qc md tg P T call ys ops0 pc S){t:Tmp}(hno:∀(j:Nat) (o:Oper),ops0[j]? =some o->o.dst≠some t):(S ops0.size).tmps.get t=(S 0).tmps.get t:=by
 obtain⟨_,l2,_⟩:=H.later 0 ops0.size (by omega);rw[v8] at l2;exact l2 t fun j o _ _ ho=>hno j o ho
theorem A9.tgt (H:BL qc md tg P T call ys ops0 pc S)(F:FOk qc K ops ops0 S P)(I:A9 qc P T ops0 S ρ0 w0 A q listed ρ a w){i:Nat}{o:Oper}(ho:ops[i]? =some o)(hf:Av o=true){ty:TypeId}{t:Tmp}{x:Operand}(hop:o.op= .store ty (.tmp t) x)
  (hready:∀R,(AQ ops.toList [])[i]? =some R->∀k,R.testBit k=true->listed.getD k false=true) {id off:Nat} {cs c:List AC} {e:TypeId} (hat:CH P (S ops0.size).tmps o=some (id,off,cs)) (hm:(S ops0.size).mem.at id= .cells c e) (hany:Eu c=true):
  ∃b,a.tmps.getD t undef= .pointer (some ⟨b,off,none⟩)/\U6 qc ρ0 w0 ops0 S A q listed ρ b/\(∃vs:List Value,w.heap[b]? =some (.cells vs.toArray e (0,0))/\vs.length=c.length)/\
   ((∃k ok,ops0[k]? =some ok/\AG qc (AL 0 ops0.toList) ok=4/\listed.getD k false=true/\q<=k/\A k=b/\ok.dst=some t)\/(ρ id=some b/\(S q).mem.at id= .cells c e)):=by
 obtain⟨g1,g2,_⟩:=Dx hop hat;obtain⟨R,hR,p1,_⟩:=F.parts ho hf hop;have desc:∀{n:Nat},K<=q->AA (T.wf (frO qc T ops0 listed q A)) n ρ (S q).mem w (.ptr id off) (a.tmps.getD t undef)->∃b,a.tmps.getD t undef= .pointer (some ⟨b,off,none⟩)/\U6 qc ρ0 w0 ops0 S A q listed ρ b/\(∃vs:List Value,w.heap[b]? =some (.cells vs.toArray e (0,0))/\vs.length=c.length)/\
   ((∃k ok,ops0[k]? =some ok/\AG qc (AL 0 ops0.toList) ok=4/\listed.getD k false=true/\q<=k/\A k=b/\ok.dst=some t)\/(ρ id=some b/\(S q).mem.at id= .cells c e)):=by
  rintro n hKq ⟨b,h1,h2,h3⟩;have hq:(S q).mem.at id= .cells c e:=by rw[<-hm];exact (H.atN F.three hKq I.qle (vr _) (A7 h3)).symm
  have hold:w0.heap.size<=b\/∃id0,((∃l0 e0,(S 0).mem.at id0= .cells l0 e0)/\ ρ0 id0=some b):=by
   by_cases hpad:(S 0).mem.at id= .pad
   .exact .inl (I.st.fresh id b hpad (by rw[hq];rfl) h1)
   .rcases F.fresh with hK|hfr
    .right;have e1:=H.atN F.three (show K<=0 by omega) (wX q) I.qle hpad;rw[hq] at e1;exact⟨id,⟨c,e,e1.symm⟩,by rw[<-(I.st.rho id (by rw[<-e1];rfl)).1];exact h1⟩
    .exact absurd (Mem.at_ge (hfr i o id off cs ho hf hat)) hpad
  have hbk:=I.mem.blk id;rw[hq] at hbk;obtain⟨b2,vs,k1,k2,k3⟩:=hbk;rw[h1] at k1;cases k1;exact⟨b,h2,.inr ⟨id,c,e,hq,h1,hany,hold⟩,⟨vs,k2,k3.length⟩,.inr ⟨h1,hq⟩⟩
 rcases p1 with⟨p1,hK0⟩|⟨k,ok,tk,p1,p2,p3,p4,p5,hKk⟩
 .have hno:∀(j:Nat) (oj:Oper),ops0[j]? =some oj->oj.dst≠some t:=fun j oj hj=>ID (by rw[F.ds];exact p1) j oj (by simpa using hj);rw[H.lastT0 hno] at g1;exact desc (by omega) (I.init t _ g1 fun j oj hj hd=>absurd hd (hno j oj hj))
 .have hlk:=hready R hR k p2;rw[H.lastT p3 p5] at g1;have h4:AG qc (AL 0 ops0.toList) ok=4:=by
   have hg:ok.guard=none:=by
    have h3:=F.three k ok hKk p3;unfold AG at h3;rw[p4] at h3;simp only at h3;cases hx:ok.guard with
    |none=>rfl
    |some g=>rw[hx] at h3;exact absurd rfl h3
   unfold AG;rw[p4,hg];rfl
  rcases wD k q with hkq|hkq
  .exact desc (by omega) (I.facts k ok t _ hlk p3 p5 g1 fun _=>hkq)
  .obtain⟨c1,c2,c3,t2,l2,vs2,c4,c5,c6,c7⟩:=I.pend k ok p3 h4 hlk hkq;obtain⟨Rk,_,hs⟩:=H.step k ok p3;obtain⟨s',cc,a1,a2,a3,_,_,_,_,a8,_⟩:=C1 hs;obtain⟨d,hd,hdn⟩:=a8 h4;rw[p5] at hd;cases hd;obtain⟨hg,_⟩:=Cs h4;obtain⟨l0,b1,b2,b3,_,_⟩:=FY hg c4 a1;have hcc:cc= .ptr (S k).mem.length 0:=by
    rw[a3 t p5,b2,p5];show ((((S k).masked (Ah 0 ops0.toList) (okG (AQ ops0.toList []) Rk k) Rk (Ap ops0 ok)).tmps.set t (.ptr (S k).mem.length 0)).get t).getD .any=_;rw[AO.get_set_self ((S k).masked (Ah 0 ops0.toList) (okG (AQ ops0.toList []) Rk k) Rk (Ap ops0 ok)).tmps _ hdn];rfl
   rw[a2] at g1;simp only[p5,Ci] at g1;rw[AO.get_set_self _ _ hdn,hcc] at g1;cases g1;have hkN:k < ops0.size:=(vx.1 p3).1;have hat1:(S (k+1)).mem.at (S k).mem.length= .cells l2 t2:=by rw[c5,AN,if_pos rfl]
   have hfin:=H.atN F.three (show K<=k+1 by omega) (show k+1<=ops0.size by omega) (vr _) (id:=(S k).mem.length) (by rw[hat1];exact fun h=>by cases h);rw[hm,hat1] at hfin;cases hfin;exact⟨A k,c3 t p5,.inl ⟨k,ok,c,e,p3,h4,hlk,hkq,rfl,c5,hany⟩,⟨vs2,c6,(c7 T 0 ρ (S q).mem w).length⟩,.inl ⟨k,ok,p3,h4,hlk,hkq,rfl,p5⟩⟩
theorem A9.what (H:BL qc md tg P T call ys ops0 pc S)(F:FOk qc K ops ops0 S P)(I:A9 qc P T ops0 S ρ0 w0 A q listed ρ a w){i:Nat}{o:Oper}(ho:ops[i]? =some o)(hf:Av o=true){ty:TypeId}{t:Tmp}{x:Operand}(hop:o.op= .store ty (.tmp t) x)
  (hready:∀R,(AQ ops.toList [])[i]? =some R->∀k,R.testBit k=true->listed.getD k false=true) {id off:Nat} {cs:List AC} (hat:CH P (S ops0.size).tmps o=some (id,off,cs)):
  ∃us:List Value,(a.eval x).cells=us.toArray/\us.length=cs.length/\∀u∈us,u.oneCell'=true:=by
 obtain⟨g1,g2,_⟩:=Dx hop hat;obtain⟨R,hR,_,p2⟩:=F.parts ho hf hop;have main:∃n,AA (T.wf (frO qc T ops0 listed q A)) n ρ (S q).mem w (DF [] (S ops0.size).tmps x) (a.eval x):=by
  obtain⟨_,_,x',e1,e2,_⟩:=D2 hf;rw[hop] at e1;cases e1;rcases e2 with⟨y,rfl⟩|⟨v,rfl⟩
  .have hev:DF [] (S ops0.size).tmps (.tmp y)=((S ops0.size).tmps.get y).getD .any:=by
    show MM [] (((S ops0.size).tmps.get y).getD .any)=_;generalize ((S ops0.size).tmps.get y).getD .any=z;cases z<;>simp[MM]
   rw[hev];cases hx:(S ops0.size).tmps.get y with
   |none=>exact⟨0,trivial⟩
   |some cc=>
    rcases p2 y rfl with p2|⟨k,ok,p2,p3,p4,p5,p6⟩
    .have hno:∀(j:Nat) (oj:Oper),ops0[j]? =some oj->oj.dst≠some y:=fun j oj hj=>ID (by rw[F.ds];exact p2) j oj (by simpa using hj);rw[H.lastT0 hno] at hx;exact⟨_,I.init y _ hx fun j oj hj hd=>absurd hd (hno j oj hj)⟩
    .rw[H.lastT p4 p5] at hx;refine⟨_,I.facts k ok y _ (hready R hR k p3) p4 p5 hx fun h4=>?_⟩;obtain⟨_,ty2,hty⟩:=Cs h4;exact absurd (by rw[F.as];exact p6) (I5 ops0.toList 0 k ok y ty2 (by simpa using p4) hty p5)
  .exact⟨0,GJ v⟩
 obtain⟨n,hn⟩:=main;obtain⟨us,h1,h2,_,h4⟩:=CC g2 hn;exact⟨us,h1,h2.length,h4⟩
theorem FOk.stay (F:FOk qc K ops ops0 S P)(hn:Ej (ops0.toList.filterMap (·.dst))=true){i:Nat}{o:Oper}(ho:ops[i]? =some o)(hf:Av o=true){ty:TypeId}{t:Tmp}{x:Operand}(hop:o.op= .store ty (.tmp t) x)
  (hready:∀R,(AQ ops.toList [])[i]? =some R->∀k,R.testBit k=true->listed.getD k false=true) {j:Nat} {oj:Oper} (hj:ops0[j]? =some oj) (hun:listed.getD j false=false) (a:Act) (v:Value):
  (a.put oj.dst v).tmps.getD t undef=a.tmps.getD t undef/\(a.put oj.dst v).eval x=a.eval x:=by
 obtain⟨R,hR,p1,p2⟩:=F.parts ho hf hop;have key:∀y,((An (Ah 0 ops.toList) y=none)\/∃k ok,R.testBit k=true/\ops0[k]? =some ok/\ok.dst=some y)->oj.dst≠some y:=by
  intro y hy hd;rcases hy with h|⟨k,ok,h1,h2,h3⟩
  .exact ID (by rw[F.ds];exact h) j oj (by simpa using hj) hd
  .have:=Cg hn hj h2 hd h3;subst this;rw[hready R hR j h1] at hun;cases hun
 constructor
 .exact C6 (key t (p1.imp (fun h=>h.1) fun⟨k,ok,tk,_,q2,q3,_,q5,_⟩=>⟨k,ok,q2,q3,q5⟩)) v
 .obtain⟨_,_,x',e1,e2,_⟩:=D2 hf;rw[hop] at e1;cases e1;rcases e2 with⟨y,rfl⟩|⟨c,rfl⟩
  .exact C6 (key y ((p2 y rfl).imp (fun h=>h) fun⟨k,ok,_,q2,q3,q4,_⟩=>⟨k,ok,q2,q3,q4⟩)) v
  .rfl
theorem A9.tgt3 (F:FOk qc K ops ops0 S P)(I:A9 qc P T ops0 S ρ0 w0 A q listed ρ a w){i:Nat}{o:Oper}(ho:ops[i]? =some o)(hf:Av o=true){ty:TypeId}{t:Tmp}{x:Operand}(hop:o.op= .store ty (.tmp t) x)
  (hready:∀R,(AQ ops.toList [])[i]? =some R->∀k,R.testBit k=true->listed.getD k false=true) {j:Nat} {oj:Oper} (hj:ops0[j]? =some oj) (h3:loud qc (AL 0 ops0.toList) oj=3) (hun:listed.getD j false=false):
  ∃k ok,ops0[k]? =some ok/\AG qc (AL 0 ops0.toList) ok=4/\listed.getD k false=true/\j<=k/\a.tmps.getD t undef= .pointer (some ⟨A k,0,none⟩):=by
 have hjK:j < K:=by
  rcases wD j K with h|h
  .exact h
  .exact absurd h3 (F.loud j oj h hj)
 have hqj:q<=j:=by
  rcases wD j q with h|h
  .rcases I.base j oj h hj with h1|h1
   .rw[hun] at h1;cases h1
   .rcases K6 h3 with h2|⟨h2,_⟩<;>omega
  .exact h
 obtain⟨R,hR,p1,_⟩:=F.parts ho hf hop;rcases p1 with⟨p1,hK0⟩|⟨k,ok,tk,p1,p2,p3,p4,p5,hKk⟩
 .omega
 .have hlk:=hready R hR k p2;have h4:AG qc (AL 0 ops0.toList) ok=4:=by
   have hg:ok.guard=none:=by
    have h3:=F.three k ok hKk p3;unfold AG at h3;rw[p4] at h3;simp only at h3;cases hx:ok.guard with
    |none=>rfl
    |some g=>rw[hx] at h3;exact absurd rfl h3
   unfold AG;rw[p4,hg];rfl
  exact⟨k,ok,p3,h4,hlk,by omega,(I.pend k ok p3 h4 hlk (by omega)).2.2.1 t p5⟩
theorem A9.apart (_H:BL qc md tg P T call ys ops0 pc S)(F:FOk qc K ops ops0 S P)(I:A9 qc P T ops0 S ρ0 w0 A q listed ρ a w){i j:Nat}{oi oj:Oper}(hi:ops[i]? =some oi)(hj:ops[j]? =some oj)(fi:Av oi=true)(fj:Av oj=true)(hne:i≠j)
  {id off id' off':Nat} {cs cs' c c':List AC} {e e':TypeId} {b b':Nat} {t t':Tmp} {ty ty':TypeId} {x x':Operand} (oi':oi.op= .store ty (.tmp t) x) (oj':oj.op= .store ty' (.tmp t') x') (hat:CH P (S ops0.size).tmps oi=some (id,off,cs)) (hat':CH P (S ops0.size).tmps oj=some (id',off',cs'))
  (h1:(∃k ok,ops0[k]? =some ok/\AG qc (AL 0 ops0.toList) ok=4/\listed.getD k false=true/\q<=k/\A k=b/\ok.dst=some t)\/(ρ id=some b/\(S q).mem.at id= .cells c e))
  (h2:(∃k ok,ops0[k]? =some ok/\AG qc (AL 0 ops0.toList) ok=4/\listed.getD k false=true/\q<=k/\A k=b'/\ok.dst=some t')\/(ρ id'=some b'/\(S q).mem.at id'= .cells c' e')):b≠b':=by
 have hid:=F.dist i j oi oj id off cs id' off' cs' hi hj fi fj hne hat hat';obtain⟨g1,_⟩:=Dx oi' hat;obtain⟨g1',_⟩:=Dx oj' hat';intro hb;subst hb;rcases h1 with⟨k,ok,k1,k2,k3,k4,k5,k6⟩|⟨k1,k2⟩<;>rcases h2 with⟨j2,ok',m1,m2,m3,m4,m5,m6⟩|⟨m1,m2⟩
 .have:=I.inj k j2 ok ok' k1 m1 k2 m2 k3 m3 k4 m4 (by rw[k5,m5]);subst this;rw[k1] at m1;cases m1;rw[k6] at m6;cases m6;rw[g1] at g1';cases g1';exact hid rfl
 .exact (I.pend k ok k1 k2 k3 k4).2.1 id' (by rw[m2];rfl) (by rw[k5];exact m1)
 .exact (I.pend j2 ok' m1 m2 m3 m4).2.1 id (by rw[k2];rfl) (by rw[m5];exact k1)
 .exact hid (I.mem.inj id id' b (by rw[k2];rfl) (by rw[m2];rfl) k1 m1)
end
section
variable {qc md:Bool}{tg:List Tmp}{P:Program}{T:Tab}{call:Ak}{ys:Ys}{r:Option Nat}{kk:Nat}{K:Nat}{ops ops0:Array Oper}{pc:PC}
variable {S:Nat->DS}{ρ0:Nat->Option Nat}{w0:World}{A:Nat->Nat}{q:Nat}{listed:Array Bool}{ρ ρ':Nat->Option Nat}{a:Act}{w w':World}
theorem A9.skip (H:BL qc md tg P T call ys ops0 pc S)(hA:Agr T (S ops0.size).g)(hob:AY T (S ops0.size).g)(hpc:pcv T pc)(hpk:A8 T (S 0).g pc)(hm0:AD T (S 0).g.n ρ0 (S 0).mem w0)(I:A9 qc P T ops0 S ρ0 w0 A q listed ρ a w){i:Nat}{o:Oper}(ho:ops0[i]? =some o)
  (hun:listed.getD i false=false) (hready:∀e∈o.after,Region.binds .any e=true->listed.getD e.on false=true) (hop:o.op= .move (.const (.bool true))) (hg:o.guard=none) (hd:o.dst=none):
  ∃A' q' ρ',A9 qc P T ops0 S ρ0 w0 A' q' (listed.setIfInBounds i true) ρ' a w:=by
 have h:=I.comesw (r:=none) (kk:=0) (K:=fun a' w'=>∃A' q' ρ',A9 qc P T ops0 S ρ0 w0 A' q' (listed.setIfInBounds i true) ρ' a' w') (Q:=fun _ _ _=>False) H hA hob hpc hpk hm0 ho hun hready fun A' q' ρ' v w' h1 _ _=>⟨A',q', ρ',h1⟩;unfold Ce at h;rw[if_pos (by unfold Region.wanted;rw[hg])] at h;have h2:=h.2;rw[Oper.semAt_eq _ _ _ (by rw[hop];exact fun c h=>by cases h)] at h2;have hrun:(execOp a.eval o).run P w= .ok (.value (.bool true)) w:=by simp[execOp,hop,Act.eval]
 rw[hrun] at h2;rw[Oper.uponIn_value,hd] at h2;exact h2
theorem WQ {vs us:List Value}{off:Nat}(h:off+us.length<=vs.length):((BF vs off us).drop off).take us.length=us/\(BF vs off us).length=vs.length:=by
 unfold BF;have e:(vs.take off).length=off:=by simp;omega
 constructor
 .rw[wZ,List.drop_append,e,List.drop_of_length_le (by omega),Nat.sub_self,List.drop_zero,List.nil_append,List.take_append,Nat.sub_self,List.take_zero,List.append_nil,List.take_of_length_le (vr _)]
 .simp;omega
theorem A9.floats (H:BL qc md tg P T call ys ops0 pc S)(F:FOk qc K ops ops0 S P)(hA:Agr T (S ops0.size).g)(hob:AY T (S ops0.size).g)(hpc:pcv T pc)(hpk:A8 T (S 0).g pc)(hm0:AD T (S 0).g.n ρ0 (S 0).mem w0)(I:A9 qc P T ops0 S ρ0 w0 A q listed ρ a w)(hraw:dV ops listed a w){i:Nat}{o:Oper}(ho:ops[i]? =some o)
  (hf:Av o=true) (hun:listed.getD i false=false) (hready:∀e∈o.after,Region.binds .any e=true->listed.getD e.on false=true) {K:Act->World->Prop} {Q:Exit->Act->World->Prop}
  (hK:∀A' q' ρ' w',A9 qc P T ops0 S ρ0 w0 A' q' (listed.setIfInBounds i true) ρ' a w'->dV ops (listed.setIfInBounds i true) a w'->K a w'):Ce P r kk ops o a w K Q:=by
 have hisz:i < listed.size:=by rw[I.size,F.size];exact (vx.1 ho).1
 have ho0:ops0[i]? =some (BJ o):=by rw[G4 F.eq0,ho];rfl
 obtain⟨ty,t,x,hop,_,hg,hd⟩:=D2 hf;have hn0:(BJ o).op= .move (.const (.bool true)):=by unfold BJ;rw[hf];rfl
 have hr0:∀e∈(BJ o).after,Region.binds .any e=true->listed.getD e.on false=true:=by rw[Fp];exact hready
 have hbits:∀{j:Nat} {oj:Oper},ops[j]? =some oj->(∀e∈oj.after,Region.binds .any e=true->listed.getD e.on false=true)->∀R,(AQ ops.toList [])[j]? =some R->∀k,R.testBit k=true->listed.getD k false=true:=by
  intro j oj hoj hrj R hR;rw[<-F.rs] at hR;exact CB I.closed hR (show ops0[j]? =some (BJ oj) by rw[G4 F.eq0,hoj];rfl) (by rw[Fp];exact hrj)
 have hrd:=hbits ho hready;obtain⟨id,off,cs,c,e,f1,f2,f3,f4⟩:=F.fin i o ho hf;obtain⟨b,t1,t2,⟨vs,t3,t4⟩,t5⟩:=I.tgt H F ho hf hop hrd f1 f2 f3;obtain⟨us,u1,u2,u3⟩:=I.what H F ho hf hop hrd f1;obtain⟨_,_,inf,hinf,hlen⟩:=Dx hop f1;obtain⟨A',q', ρ',I2⟩:=I.skip H hA hob hpc hpk hm0 ho0 hun hr0 hn0 (by rw[Sq];exact hg) (by rw[Hf];exact hd);have hrun:(execOp a.eval o).run P w= .ok .skip (w.setRow b (BF vs off us).toArray):=by
  have:=Fl (P:=P) (w:=w) hinf b off e (vs:=us) (v:=a.eval x) t3 u1 (by rw[u2,hlen]) (by rw[<-hlen,t4];exact f4) u3;have ea:a.eval (.tmp t)= .pointer (some ⟨b,off,none⟩):=t1;simp[execOp,hop,ea,Instr.storeAt,Instr.sureAddr,this]
 unfold Ce;rw[if_pos (by unfold Region.wanted;rw[hg])];refine GU (by rw[hop];exact fun c h=>by cases h) ?_;rw[hrun,Oper.uponIn_skip,hd];show K a _;have hle:off+us.length<=vs.length:=by rw[u2,t4];exact f4
 obtain⟨sp1,sp2⟩:=WQ hle;have hpk2:=Hb.setRow w b (BF vs off us).toArray;have hb2:=aw (BF vs off us).toArray t3;have hrd2:∀{j:Nat} {oj:Oper},ops[j]? =some oj->(listed.setIfInBounds i true).getD j false=true->∀R,(AQ ops.toList [])[j]? =some R->∀k,R.testBit k=true->(listed.setIfInBounds i true).getD k false=true:=by
  intro j oj hoj hlj R hR;rw[<-F.rs] at hR;have hcl:=I2.closed j (BJ oj) (by rw[G4 F.eq0,hoj];rfl) hlj;exact CB I2.closed hR (show ops0[j]? =some (BJ oj) by rw[G4 F.eq0,hoj];rfl) hcl
 have hli:(listed.setIfInBounds i true).getD i false=true:=by rw[Aj _ _ _ hisz,if_pos rfl]
 obtain⟨b2,s1,s2,_,s5⟩:=I2.tgt H F ho hf hop (hrd2 ho hli) f1 f2 f3;have eb:b2=b:=by
  rw[t1] at s1;injection s1 with s1
  injection s1 with s1
  injection s1 with s1
  exact s1.symm
 subst eb;have I3:=I2.poke hm0 s2 hpk2 t3 hb2 sp2;refine hK A' q' ρ' _ I3 ?_;intro j oj ty' t' x' hoj fj hopj hlj;by_cases hji:j=i
 .subst hji;rw[ho] at hoj;cases hoj;rw[hop] at hopj;cases hopj;exact⟨b2,off,BF vs off us,us,e,t1,hb2,u1,by rw[sp2];exact hle,sp1⟩
 .have hlj0:listed.getD j false=true:=by rw[Aj _ _ _ hisz,if_neg hji] at hlj;exact hlj
  obtain⟨b',off',vs',us',e',r1,r2,r3,r4,r5⟩:=hraw j oj ty' t' x' hoj fj hopj hlj0;obtain⟨idj,offj,csj,cj,ej,j1,j2,j3,j4⟩:=F.fin j oj hoj fj;obtain⟨bj,k1,k2,_,k5⟩:=I2.tgt H F hoj fj hopj (hrd2 hoj hlj) j1 j2 j3;have ebj:bj=b':=by
   rw[r1] at k1;injection k1 with k1
   injection k1 with k1
   injection k1 with k1
   exact k1.symm
  subst ebj;have hne:=I2.apart H F hoj ho fj hf hji hopj hop j1 f1 k5 s5;exact⟨bj,off',vs',us',e',r1,by rw[hpk2.oth bj hne];exact r2,r3,r4,r5⟩
theorem eZ (H:BL qc md tg P T call ys ops0 pc S)(F:FOk qc K ops ops0 S P)(hA:Agr T (S ops0.size).g)(hob:AY T (S ops0.size).g)(hpc:pcv T pc)(hpk:A8 T (S 0).g pc){Q:Exit->Act->World->Prop}{ρ0:Nat->Option Nat}{w0:World}(hm0:AD T (S 0).g.n ρ0 (S 0).mem w0)
  (hK:∀ ρ a w,Bm T ρ ops0 ⟨(S ops0.size).tmps,(S ops0.size).mem,(S ops0.size).g,(S ops0.size).gls.map (·.2)⟩ a w->AE T (S 0).g.n ρ0 (S 0).mem w0 ρ (S ops0.size).mem w->
   (∀(i:Nat) (o:Oper) (ty:TypeId) (ta:Tmp) (x:Operand),ops[i]? =some o->Av o=true->o.op= .store ty (.tmp ta) x->∃b off vs us e,a.tmps.getD ta undef= .pointer (some ⟨b,off,none⟩)/\w.heap[b]? =some (.cells (vs:List Value).toArray e (0,0))/\(a.eval x).cells=(us:List Value).toArray/\off+us.length<=vs.length/\(vs.drop off).take us.length=us)->Q .normal a w):
  ∀(fuel:Nat) (listed:Array Bool) (A:Nat->Nat) (ρ :Nat->Option Nat) (q:Nat) (a:Act) (w:World),A9 qc P T ops0 S ρ0 w0 A q listed ρ a w->dV ops listed a w->CR listed=fuel->wpAnyIn (fen r) kk P .any ops Q fuel listed a w:=by
 intro fuel;induction fuel with
 |zero=>
  intro listed A ρ q a w I hraw hu;have hall:∀j,j < ops0.size->listed.getD j false=true:=fun j hj=>by
   cases hlj:listed.getD j false with
   |true=>rfl
   |false=>
    have:=D1 (listed:=listed) (i:=j) (by rw[I.size];exact hj) hlj;omega
  obtain⟨ρ2,h1,h2⟩:=I.full H hall;refine wpAnyIn_done ?_ (hK ρ2 a w h1 h2 fun i o ty ta x hi hf hop=>hraw i o ty ta x hi hf hop (hall i (by rw[F.size];exact (vx.1 hi).1))) _;refine List.eq_nil_iff_forall_not_mem.2 fun i hi=>?_;obtain⟨h1,o,ho,_⟩:=mem_ready.1 hi;have hiN:i < ops0.size:=by rw[F.size];exact (vx.1 ho).1
  have h2:=hall i hiN;rw[vy] at h1 h2;have hlt:i < listed.size:=by rw[I.size];exact hiN
  rw[Array.getElem?_eq_getElem hlt] at h1 h2;simp only[Option.getD_some] at h1 h2;rw[h1] at h2;cases h2
 |succ fuel ih=>
  intro listed A ρ q a w I hraw hu;by_cases hall:∀j,j < ops0.size->listed.getD j false=true
  .have hc:=FL (h:=ops0.size) (by rw[I.size];exact vr _) (fun j=>by
    refine⟨fun h=>?_,hall j⟩;rcases wD j ops0.size with h1|h1
    .exact h1
    .rw[vy,Array.getElem?_eq_none (by rw[I.size];exact h1)] at h;cases h)
   rw[hu,I.size] at hc;omega
  .simp only[Classical.not_forall] at hall;obtain⟨j,hj,hlj⟩:=hall;have hmin:∃j,j < ops0.size/\listed.getD j false=false/\∀i,i < j->listed.getD i false=true:=by
    have key:∀n,(∃j,j < n/\j < ops0.size/\listed.getD j false=false)->∃j,j < ops0.size/\listed.getD j false=false/\∀i,i < j->listed.getD i false=true:=by
     intro n;induction n with
     |zero=>rintro⟨j,h1,_⟩;omega
     |succ n ihn=>
      rintro⟨j,h1,h2,h3⟩;by_cases hx:∃j,j < n/\j < ops0.size/\listed.getD j false=false
      .exact ihn hx
      .have hjn:j=n:=by
        rcases wD j n with h|h
        .exact absurd ⟨j,h,h2,h3⟩ hx
        .omega
       subst hjn;refine⟨j,h2,h3,fun i hi=>?_⟩;cases hli:listed.getD i false with
       |true=>rfl
       |false=>exact absurd ⟨i,hi,by omega,hli⟩ hx
    exact key (j+1) ⟨j,Nat.lt_succ_self _,hj,by simpa using hlj⟩
   obtain⟨j0,h0,hl0,hbelow⟩:=hmin;have toF:∀i,listed.getD i true=false->listed.getD i false=false:=fun i h=>by
    rw[vy] at h⊢;cases hx:listed[i]? with
    |none=>rfl
    |some b=>rw[hx] at h;exact h
   have hr0:j0∈Region.ready .any ops listed:=by
    obtain⟨o,ho⟩:=BL.op (ops:=ops) (j:=j0) (by rw[<-F.size];exact h0);refine mem_ready.2 ⟨?_,o,ho,fun e he hb=>hbelow e.on ?_⟩
    .have hlt:j0 < listed.size:=by rw[I.size];exact h0
     rw[vy,Array.getElem?_eq_getElem hlt] at hl0⊢;simpa using hl0
    .exact N0 H.masks (show ops0[j0]? =some (BJ o) by rw[G4 F.eq0,ho];rfl) (by rw[Fp];exact he) hb
   refine⟨(fun hnil=>by rw[hnil] at hr0;cases hr0),fun i hir=>?_⟩;obtain⟨q1,o,q2,q3⟩:=mem_ready.1 hir;have hiN:i < ops0.size:=by rw[F.size];exact (vx.1 q2).1
   have hcnt:=D1 (listed:=listed) (i:=i) (by rw[I.size];exact hiN) (toF i q1);have ho0:ops0[i]? =some (BJ o):=by rw[G4 F.eq0,q2];rfl
   cases hf:Av o with
   |true=>
    exact Fa q2 (I.floats H F hA hob hpc hpk hm0 hraw q2 hf (toF i q1) q3 fun A' q' ρ' w' I' hr'=>ih _ _ _ _ _ w' I' hr' (by omega))
   |false=>
    rw[Kg hf] at ho0;have hg:=I.comesw (r:=r) (kk:=kk) (K:=wpAnyIn (fen r) kk P .any ops Q fuel (listed.setIfInBounds i true)) (Q:=Q) H hA hob hpc hpk hm0 ho0 (toF i q1) q3 fun A' q' ρ' v w' I' hw hw3=>ih _ _ _ _ _ w' I' (by
     intro j oj ty t x hoj fj hopj hlj;have hji:j≠i:=fun e=>by subst e;rw[q2] at hoj;cases hoj;rw[hf] at fj;cases fj
     have hlj0:listed.getD j false=true:=by rw[Aj _ _ _ (by rw[I.size];exact hiN),if_neg hji] at hlj;exact hlj
     obtain⟨b,off,vs,us,e,r1,r2,r3,r4,r5⟩:=hraw j oj ty t x hoj fj hopj hlj0;have hrdy:∀R,(AQ ops.toList [])[j]? =some R->∀k,R.testBit k=true->listed.getD k false=true:=fun R hR=>by
      rw[<-F.rs] at hR;have hoj0:ops0[j]? =some (BJ oj):=by rw[G4 F.eq0,hoj];rfl
      exact CB I.closed hR hoj0 (I.closed j _ hoj0 hlj0)
     have hst:=F.stay H.nodup hoj fj hopj (listed:=listed) hrdy ho0 (toF i q1) a v;refine⟨b,off,vs,us,e,by rw[hst.1];exact r1,?_,by rw[hst.2];exact r3,r4,r5⟩;by_cases h3:loud qc (AL 0 ops0.toList) o=3
     .obtain⟨k,ok,k1,k2,k3,k4,k5⟩:=I.tgt3 F hoj fj hopj hrdy ho0 h3 (toF i q1);have:=hw3 h3 k ok k1 k2 k3 k4;rw[r1] at k5;injection k5 with k5
      injection k5 with k5
      injection k5 with k5
      rw[k5,this,<-k5];exact r2
     .rcases hw h3 with hw|⟨obj,hw⟩
      .rw[hw];exact r2
      .rw[hw,At w obj b (vx.1 r2).1];exact r2) (by omega)
    refine Fa q2 ?_;unfold Ce at hg⊢;rw[show yielded ops0 a.tmps=yielded ops a.tmps from funext fun j=>TW F.eq0 _ j] at hg;exact hg
theorem AE.recell {n:Nat}{m:Mem}{id:Nat}{c c':List AC}{e:TypeId}(h:m.at id= .cells c e):AE T n ρ m w ρ (m.set id (.cells c' e)) w:=by
 have hat:=DI m id (.cells c' e);have hne:m.at id≠ .pad:=by rw[h];exact fun h=>by cases h
 refine⟨rfl,rfl,rfl,vr _,fun k hk=>?_,fun k hk=>⟨rfl,?_⟩,fun k _ hk=>?_,fun k b hp hk _=>?_,fun _ _ _=>rfl,fun k x ks e2 hx=> .inl ⟨?_,rfl,fun _ _=>rfl⟩,fun k x y ks e2 hx=> .inr ⟨x,y,ks,?_,rfl,.inl ⟨rfl,rfl,fun _ vs _ hv=>⟨vs,hv,rfl⟩⟩⟩⟩
 .rw[hat k hne];split
  .exact fun h=>by cases h
  .exact hk
 .rw[hat k hne];split
  .rfl
  .exact hk
 .rw[hat k hne] at hk;split at hk
  .rename_i e3;rw[e3,h];rfl
  .exact hk
 .rw[hat k hne] at hk;split at hk
  .rename_i e3;rw[e3,h] at hp;cases hp
  .rw[hp] at hk;cases hk
 .rw[hat k hne];split
  .rename_i e3;rw[e3,h] at hx;cases hx
  .exact hx
 .rw[hat k hne];split
  .rename_i e3;rw[e3,h] at hx;cases hx
  .exact hx
theorem AD.recell {n:Nat}{m:Mem}{id b:Nat}{c c':List AC}{e:TypeId}{vs:List Value}(hm:AD T n ρ m w)(h:m.at id= .cells c e)(hr: ρ id=some b)(hb:w.heap[b]? =some (.cells vs.toArray e (0,0)))(hl:AB T n ρ m w c' vs):AD T n ρ (m.set id (.cells c' e)) w:=by
 have hat:=DI m id (.cells c' e);have hne:m.at id≠ .pad:=by rw[h];exact fun h=>by cases h
 have st:AE T n ρ m w ρ (m.set id (.cells c' e)) w:=AE.recell h;have htr:∀k,(Mem.at (m.set id (.cells c' e)) k).tracked=true->(m.at k).tracked=true:=fun k hk=>by
  rw[hat k hne] at hk;split at hk
  .rename_i e3;rw[e3,h];rfl
  .exact hk
 refine⟨fun k=>?_,fun k k' b' h1 h2=>hm.inj k k' b' (htr k h1) (htr k' h2),hm.fr⟩;by_cases hk:k=id
 .rw[hat k hne,if_pos hk];exact⟨b,vs,by rw[hk];exact hr,hb,AB.mono0 st (vr _) _ _ hl⟩
 .exact BB.step st hm (vr _) (by rw[hat k hne,if_neg hk]) rfl (fun _ _=>rfl)
theorem Ji {tmps:AO}:∀{l:List Oper} {seen:List Nat} {m m':Mem},Fw P tmps l seen m=some m'->
  (∀(i:Nat) (o:Oper),l[i]? =some o->Av o=true->∃id off cs c e,CH P tmps o=some (id,off,cs)/\m.at id= .cells c e/\Eu c=true/\off+cs.length<=c.length/\id ∉ seen)/\
  (∀(i j:Nat) (oi oj:Oper) (id off:Nat) (cs:List AC) (id' off':Nat) (cs':List AC),l[i]? =some oi->l[j]? =some oj->Av oi=true->Av oj=true->i≠j->CH P tmps oi=some (id,off,cs)->CH P tmps oj=some (id',off',cs')->id≠id')
 |[],seen,m,m',h=>⟨fun i o hi=>by simp at hi,fun i j oi oj _ _ _ _ _ _ hi=>by simp at hi⟩
 |o::l,seen,m,m',h=>by
  unfold Fw at h;cases hf:Av o with
  |false=>
   rw[hf] at h;simp only[wM,if_false] at h;obtain⟨h1,h2⟩:=Ji h;constructor
   .intro i o2 hi f2;cases i with
    |zero=>simp at hi;subst hi;rw[hf] at f2;cases f2
    |succ i=>exact h1 i o2 (by simpa using hi) f2
   .intro i j oi oj id off cs id' off' cs' hi hj fi fj hne;cases i with
    |zero=>simp at hi;subst hi;rw[hf] at fi;cases fi
    |succ i=>
     cases j with
     |zero=>simp at hj;subst hj;rw[hf] at fj;cases fj
     |succ j=>exact h2 i j oi oj id off cs id' off' cs' (by simpa using hi) (by simpa using hj) fi fj (by omega)
  |true=>
   rw[hf] at h;simp only[if_true] at h;split at h
   .rename_i id off cs hat;split at h
    .rename_i c e hm;split at h
     .rename_i hc;simp only[vo,Bool.not_eq_true',List.contains_eq_mem,decide_eq_false_iff_not] at hc;obtain⟨⟨c1,c2⟩,c3⟩:=hc;have c3:=wN c3;obtain⟨h1,h2⟩:=Ji h;have hne:m.at id≠ .pad:=by rw[hm];exact fun h=>by cases h
      have rest:∀(i:Nat) (o2:Oper),l[i]? =some o2->Av o2=true->∃id' off' cs' c' e',CH P tmps o2=some (id',off',cs')/\m.at id'= .cells c' e'/\Eu c'=true/\off'+cs'.length<=c'.length/\id' ∉ seen/\id'≠id:=by
       intro i o2 hi f2;obtain⟨id',off',cs',c',e',q1,q2,q3,q4,q5⟩:=h1 i o2 hi f2;have hx:id'≠id:=fun e=>q5 (by rw[e];exact wA);rw[DI m id _ id' hne,if_neg hx] at q2;exact⟨id',off',cs',c',e',q1,q2,q3,q4,fun h=>q5 (vz _ h),hx⟩
      constructor
      .intro i o2 hi f2;cases i with
       |zero=>simp at hi;subst hi;exact⟨id,off,cs,c,e,hat,hm,c1,c3,c2⟩
       |succ i=>
        obtain⟨id',off',cs',c',e',q1,q2,q3,q4,q5,_⟩:=rest i o2 (by simpa using hi) f2;exact⟨id',off',cs',c',e',q1,q2,q3,q4,q5⟩
      .intro i j oi oj a1 a2 a3 b1 b2 b3 hi hj fi fj hne2 e1 e2;cases i with
       |zero=>
        simp at hi;subst hi;rw[hat] at e1;cases e1;cases j with
        |zero=>exact absurd rfl hne2
        |succ j=>
         obtain⟨id',off',cs',c',e',q1,_,_,_,_,q6⟩:=rest j oj (by simpa using hj) fj;rw[q1] at e2;cases e2;exact fun h=>q6 h.symm
       |succ i=>
        cases j with
        |zero=>
         simp at hj;subst hj;rw[hat] at e2;cases e2;obtain⟨id',off',cs',c',e',q1,_,_,_,_,q6⟩:=rest i oi (by simpa using hi) fi;rw[q1] at e1;cases e1;exact q6
        |succ j=>exact h2 i j oi oj a1 a2 a3 b1 b2 b3 (by simpa using hi) (by simpa using hj) fi fj (by omega) e1 e2
     .cases h
    .cases h
   .cases h
theorem JX {tmps:AO}{n:Nat}:∀{l:List Oper} {seen:List Nat} {m m':Mem},Fw P tmps l seen m=some m'->AD T n ρ m w->(∀t c,tmps.get t=some c->AA T n ρ m w c (a.tmps.getD t undef))->
  (∀(i:Nat) (o:Oper) (ty:TypeId) (ta:Tmp) (x:Operand),l[i]? =some o->Av o=true->o.op= .store ty (.tmp ta) x->∃b off vs us e,a.tmps.getD ta undef= .pointer (some ⟨b,off,none⟩)/\w.heap[b]? =some (.cells (vs:List Value).toArray e (0,0))/\(a.eval x).cells=(us:List Value).toArray/\off+us.length<=vs.length/\(vs.drop off).take us.length=us)->
  AD T n ρ m' w/\AE T n ρ m w ρ m' w
 |[],seen,m,m',h,hm,ht,hr=>by
  cases h;exact⟨hm,AE.refl _ _ _ _ _⟩
 |o::l,seen,m,m',h,hm,ht,hr=>by
  unfold Fw at h;cases hf:Av o with
  |false=>
   rw[hf] at h;simp only[wM,if_false] at h;exact JX h hm ht fun i o2 ty ta x hi=>hr (i+1) o2 ty ta x (by simpa using hi)
  |true=>
   rw[hf] at h;simp only[if_true] at h;split at h
   .rename_i id off cs hat;split at h
    .rename_i c e hmi;split at h
     .rename_i hc;simp only[vo] at hc;have c3:=wN hc.2;obtain⟨ty,t,x,hop,hx,_,_⟩:=D2 hf;obtain⟨g1,g2,_⟩:=Dx hop hat;obtain⟨b,off',vs,us,e',r1,r2,r3,r4,r5⟩:=hr 0 o ty t x rfl hf hop;obtain⟨b2,k1,k2,_⟩:=ht t _ g1;rw[r1] at k2;injection k2 with k2
      injection k2 with k2
      injection k2 with k2 k3
      subst k2;subst k3;obtain⟨vs2,q1,q2⟩:=BB.get hm hmi k1;rw[r2] at q1;injection q1 with q1
      injection q1 with q3 q4
      have q5:vs=vs2:=by simpa using congrArg Array.toList q3
      subst q5;subst q4;have hev:AA T n ρ m w (DF [] tmps x) (a.eval x):=by
       rcases hx with⟨y,rfl⟩|⟨v,rfl⟩
       .show AA T n ρ m w (MM [] ((tmps.get y).getD .any)) _;refine N7 (fun c hc=>by cases hc) ?_;cases hg:tmps.get y with
        |none=>exact trivial
        |some c=>exact ht y c hg
       .exact GJ v
      obtain⟨us2,z1,z2,_,_⟩:=CC g2 hev;rw[r3] at z1;have z3:us=us2:=by simpa using congrArg Array.toList z1
      subst z3;have hsp:AB T n ρ m w (c.take off'++cs++c.drop (off'+cs.length)) vs:=by
       have hh:=JE q2 z2 off' cs.length rfl;have e1:BF vs off' us=vs:=by
        unfold BF;have h1:=List.take_append_drop off' vs;have h2:=List.take_append_drop us.length (vs.drop off');rw[r5,List.drop_drop] at h2;rw[<-h2,<-wZ] at h1;exact h1
       rw[e1] at hh;exact hh
      have hm2:=AD.recell hm hmi k1 r2 hsp;have st:∀k,AE T k ρ m w ρ (m.set id (.cells (c.take off'++cs++c.drop (off'+cs.length)) e')) w:=fun k=>AE.recell hmi;obtain⟨m1,m2⟩:=JX h hm2 (fun t c hc=>AA.mono0 (st n) (vr _) _ _ (ht t c hc)) fun i o2 ty ta x hi=>hr (i+1) o2 ty ta x (by simpa using hi);exact⟨m1,(st n).trans hm (vr _) m2⟩
     .cases h
    .cases h
   .cases h
end
section
variable {qc md:Bool}{tg:List Tmp}{P:Program}{T:Tab}{call:Ak}{ys:Ys}{r:Option Nat}{kk:Nat}{ops ops0:Array Oper}{pc:PC}
variable {ρ :Nat->Option Nat}{a:Act}{w w':World}
def Wk (m m':Mem):Prop:=∀id,m'.at id=m.at id\/∃l l' e,m.at id= .cells l e/\m'.at id= .cells l' e
theorem Wk.symm {m m':Mem}(h:Wk m m'):Wk m' m:=fun id=>by
 rcases h id with h|⟨l,l',e,h1,h2⟩
 .exact .inl h.symm
 .exact .inr ⟨l',l,e,h2,h1⟩
theorem Wk.step {n:Nat}{m m':Mem}(h:Wk m m'):AE T n ρ m w ρ m' w:=by
 refine⟨rfl,rfl,rfl,vr _,fun id hp=>?_,fun id hp=>⟨rfl,?_⟩,fun id _ ht=>?_,fun id b hp ht _=>?_,fun _ _ _=>rfl,fun id x ks e hx=> .inl ⟨?_,rfl,fun _ _=>rfl⟩,fun id x y ks e hx=> .inr ⟨x,y,ks,?_,rfl,.inl ⟨rfl,rfl,fun _ vs _ hv=>⟨vs,hv,rfl⟩⟩⟩⟩<;>rcases h id with h|⟨l,l',e2,h1,h2⟩
 .rw[h];exact hp
 .rw[h2];exact fun h=>by cases h
 .rw[h];exact hp
 .rw[h2];rfl
 .rw[h] at ht;exact ht
 .rw[h1];rfl
 .rw[h,hp] at ht;cases ht
 .rw[h1] at hp;cases hp
 .rw[h];exact hx
 .rw[h1] at hx;cases hx
 .rw[h];exact hx
 .rw[h1] at hx;cases hx
theorem Ic (tmps:AO):∀(l:List Oper) (m:Mem),Wk m (DB tmps l m)/\∀(n:Nat),AD T n ρ m w->AD T n ρ (DB tmps l m) w
 |[],m=>⟨fun id=> .inl rfl,fun n h=>h⟩
 |o::l,m=>by
  have one:∀id,Wk m (m.set id (Nv (m.at id)))/\∀n,AD T n ρ m w->AD T n ρ (m.set id (Nv (m.at id))) w:=by
   intro id;cases hx:m.at id with
   |cells c e=>
    have hne:m.at id≠ .pad:=by rw[hx];exact fun h=>by cases h
    refine⟨fun k=>?_,fun n hm=>?_⟩
    .rw[DI m id _ k hne];split
     .rename_i e2;right;rw[e2];exact⟨c,_,e,hx,rfl⟩
     .exact .inl rfl
    .have hb:=hm.blk id;rw[hx] at hb;obtain⟨b,vs,h1,h2,h3⟩:=hb;exact AD.recell hm hx h1 h2 (AB.of_get (by simp[h3.length]) fun j c' u q1 _=>by
      simp only[wW,wK] at q1;obtain⟨_,_,rfl⟩:=q1;trivial)
   |_=>
    have e1:m.set id (Nv (m.at id))=m:=by
     have hw:Nv (m.at id)=m.at id:=by rw[hx];rfl
     rw[hw];unfold Mem.at;rcases wD id m.length with h|h
     .rw[vt h,Option.getD_some,List.set_getElem_self]
     .rw[List.set_eq_of_length_le h]
    rw[hx] at e1;rw[e1];exact⟨fun id=> .inl rfl,fun n h=>h⟩
  have tr:∀{m1:Mem},(Wk m m1/\∀n,AD T n ρ m w->AD T n ρ m1 w)->Wk m (DB tmps l m1)/\∀n,AD T n ρ m w->AD T n ρ (DB tmps l m1) w:=by
   intro m1 h;obtain⟨h1,h2⟩:=Ic tmps l m1;refine⟨fun id=>?_,fun n hm=>h2 n (h.2 n hm)⟩;rcases h1 id with k|⟨l1,l2,e,k1,k2⟩
   .rw[k];exact h.1 id
   .rcases h.1 id with k|⟨l3,l4,e',k3,k4⟩
    .right;exact⟨l1,l2,e,by rw[<-k];exact k1,k2⟩
    .rw[k1] at k4;cases k4;exact .inr ⟨l3,l2,e,k3,k2⟩
  unfold DB;split
  .split
   .exact tr (one _)
   .exact Ic tmps l m
  .exact Ic tmps l m
theorem Vw (hcall:∀T,CS P T call)(hys:CL P T.lp ys){l:Loc}{g:G}{s':RS}(h:Er qc md tg P call ys ops pc l g=some s'):
  ∃S:Nat->DS,BL qc md tg P T call ys ops pc S/\S 0=⟨l.tmps,l.mem,g,[]⟩/\s'=⟨(S ops.size).tmps,(S ops.size).mem,(S ops.size).g,(S ops.size).gls.map (·.2)⟩:=by
 unfold Er at h;simp only at h;split at h
 .rename_i hc;rw[vo,vo,vo] at hc;obtain⟨⟨⟨hmask,hnod⟩,hord⟩,hwide⟩:=hc;simp only[vq,vn] at h;obtain⟨Sh,hh,ht⟩:=h;obtain⟨S,q1,q2,q3⟩:=JF hh;rw[v8,Array.length_toList] at q2;refine⟨S,?_,q1,?_⟩
  .refine⟨fun j o ho=>?_,hmask,hnod,fun i o R ho hR j oj hoj hlt=>?_,fun i o R ho hR n0 n4 j oj hoj hlt h4 hb m om hom hmj=>?_,hcall,hys,by rw[q1]⟩
   .obtain⟨R,hR,this⟩:=q3 j o (by simpa using ho);rw[v8] at this;exact⟨R,hR,this⟩
   .have:=O6 hord i R (AG qc (AL 0 ops.toList) o) hR (by simp[ho]) j (AG qc (AL 0 ops.toList) oj) (by simp[hoj]) (by omega);exact⟨this.1,this.2⟩
   .have hcl:∀(j:Nat) (oj:Oper),ops[j]? =some oj->(ops.toList.map (AG qc (AL 0 ops.toList)))[j]? =some (AG qc (AL 0 ops.toList) oj):=fun j oj h=>by simp[h]
    have hmem:=Iy (j0:=0) (j:=j) (by rw[hcl j oj hoj,h4]);rw[v8] at hmem;have hcv:=PD hwide i R _ hR (hcl i o ho) n0 n4 j hmem (by omega) hb;have:=O4 hcv m _ (hcl m om hom) hmj;rw[v8] at this;exact this
  .subst q2;injection ht with ht
   exact ht.symm
 .cases h
theorem Ul:∀(l:List Nat) (j0 K j:Nat),l[j]? =some 3->j0+j < MJ j0 l K
 |[],_,_,_,h=>by simp at h
 |k::l,j0,K,j,h=>by
  have mono:∀(l:List Nat) (j0 K:Nat),K<=j0->K<=MJ j0 l K:=by
   intro l;induction l with
   |nil=>intro j0 K _;exact vr _
   |cons k l ih=>
    intro j0 K h;unfold MJ;split
    .exact wI (by omega) (ih (j0+1) (j0+1) (vr _))
    .exact ih (j0+1) K (by omega)
  unfold MJ;cases j with
  |zero=>
   simp at h;subst h;rw[if_pos (by rfl)];have:=mono l (j0+1) (j0+1) (vr _);omega
  |succ j=>
   have:=Ul l (j0+1) (if Nat.beq k 3 then j0+1 else K) j (by simpa using h);omega
theorem aF (hm:P.follows .mixedOrders=true)(hcall:∀T,CS P T call)(hys:CL P T.lp ys){l:Loc}{g:G}{s':RS}(h:IA qc md P call ys ops pc l g=some s'):
  AR g s'.g/\s'.tmps.n=l.tmps.n/\(Agr T s'.g->AY T s'.g->pcv T pc->A8 T g pc->∀id ρ a w Q,Rel T g.n ρ l a w->
   (∀ ρ' a' w',Bm T ρ' ops s' a' w'->AE T g.n ρ l.mem w ρ' s'.mem w'->Q .normal a' w')->(Code.region id ops true).wpIn (fen r) kk P Q a w):=by
 unfold IA at h;simp only at h;split at h
 .rename_i hc;simp only[vo] at hc;obtain⟨⟨_,hfo⟩,hlate⟩:=hc;simp only[vq,vn] at h;obtain⟨s,hs,m,hfe,h⟩:=h;split at h
  case isFalse=>cases h
  rename_i hnew;cases h;obtain⟨ops0,he0⟩:∃ops0,ops0=(ops.toList.map BJ).toArray:=⟨_,rfl⟩;rw[<-he0] at hs;have hl0:ops0.toList=List.map BJ ops.toList:=by rw[he0]
  rw[<-hl0] at hlate hnew;obtain⟨K,hK⟩:∃K,K=MJ 0 (ops0.toList.map (loud qc (AL 0 ops0.toList))) 0:=⟨_,rfl⟩;rw[<-hK] at hlate hnew;obtain⟨S,H,q1,hs'⟩:=Vw (T:=T) hcall hys hs;subst hs';have hsz:ops0.size=ops.size:=by rw[he0];simp
  obtain⟨hid1,hid2⟩:=Ji hfe;have F:FOk qc K ops ops0 S P:=by
   refine⟨he0,fun i R o hR ho=>OC hfo i R o hR (by simpa using ho),fun j o hKj ho h3=>?_,fun i o t ho ht=>?_,?_,fun i o ho hf=>?_,fun i j oi oj a1 a2 a3 b1 b2 b3 hi hj=>hid2 i j oi oj a1 a2 a3 b1 b2 b3 (by simpa using hi) (by simpa using hj)⟩
   .have:=Ul (ops0.toList.map (loud qc (AL 0 ops0.toList))) 0 0 j (by rw[wW,show ops0.toList[j]? =some o by simpa using ho];simp[h3]);omega
   .have:=wR.1 hlate o (List.mem_of_getElem? (show ops.toList[i]? =some o by simpa using ho));unfold fK at this;rw[ht] at this;simp only[wU] at this;rcases this with h|h
    .exact .inl (vp h)
    .right;cases hm:An (AL 0 ops.toList) t with
     |none=>rw[hm] at h;cases h
     |some k=>rw[hm] at h;exact⟨k,rfl,wN h⟩
   .rw[wU] at hnew;rcases hnew with h|h
    .exact .inl (vp h)
    .right;intro i o id off cs ho hf hat;have:=wR.1 h o (List.mem_of_getElem? (show ops.toList[i]? =some o by simpa using ho));unfold new3 at this;rw[hf] at this;simp only[Bool.not_true,Bool.false_or] at this;change (match CH P (S ops0.size).tmps o with|some (id,_,_)=>Nat.ble (DB l.tmps ops.toList l.mem).length id|none=>false)=true at this;rw[hat] at this;rw[q1];exact wN this
   .obtain⟨id,off,cs,c,e,k1,k2,k3,k4,_⟩:=hid1 i o (by simpa using ho) hf;exact⟨id,off,cs,c,e,k1,k2,k3,k4⟩
  obtain⟨l1,_,_⟩:=H.later 0 ops0.size (by omega);rw[v8] at l1;have g0:(S 0).g=g:=by rw[q1]
  have m0:(S 0).mem=DB l.tmps ops.toList l.mem:=by rw[q1]
  have tm0:(S 0).tmps=l.tmps:=by rw[q1]
  refine⟨?_,?_,fun hA hob hpc hpk id ρ a w Q hR hK=>?_⟩
  .rw[<-g0];exact l1.grow
  .rw[<-tm0];exact l1.len
  .refine wpIn_region_any hm ?_;obtain⟨wk,wm⟩:=Ic (T:=T) (ρ := ρ) (w:=w) l.tmps ops.toList l.mem;have wst:∀n,AE T n ρ l.mem w ρ (DB l.tmps ops.toList l.mem) w:=fun n=>wk.step;have hst:=AE.drawn T (S 0).g.n ρ (S 0).mem w (w.drawn+1);have hm0:AD T (S 0).g.n ρ (S 0).mem { w with drawn:=w.drawn+1 }:=by rw[g0,m0];exact (wm g.n hR.mem).drawn _
   have hun:∀j,(Array.replicate ops.size false).getD j false=false:=fun j=>by
    rw[vy,Array.getElem?_replicate];split<;>rfl
   have hT:T.wf (frO qc T ops0 (Array.replicate ops.size false) 0 (fun _=>0))=T:=by
    have e:frO qc T ops0 (Array.replicate ops.size false) 0 (fun _=>0)=T.fr:=by
     funext b off;apply propext;constructor
     .exact fun h=>h.1
     .exact fun h=>⟨h,fun⟨i,o,ho,_,hl,_,_⟩=>by rw[hun] at hl;cases hl⟩
    rw[e];rfl
   have I0:A9 qc P T ops0 S ρ { w with drawn:=w.drawn+1 } (fun _=>0) 0 (Array.replicate ops.size false) ρ a { w with drawn:=w.drawn+1 }:=by
    refine⟨by simp[hsz],fun j o _ hj=>?_,wX _,fun j o hj=>by omega,fun j o _ _=>?_,(by rw[m0];exact (hR.defers.on (wst g.n)).on (AE.drawn T g.n ρ _ w (w.drawn+1))),by rw[tm0];exact hR.size,by rw[hT];exact hm0,fun t c hc _=>?_,fun i o d c hi=>?_,fun p _ hp=>?_,fun i o _ _ hl=>?_,fun i j oi oj _ _ _ _ hl=>?_,AE.refl _ _ _ _ _⟩
    .rw[hun] at hj;cases hj
    .rw[hun];simp
    .rw[tm0] at hc;have:=AA.mono0 (wst g.n) (vr _) _ _ (hR.tmps t c hc);rw[hT,g0,m0];exact AA.mono0 (by rw[<-g0,<-m0];exact hst) (vr _) _ _ this
    .rw[hun] at hi;cases hi
    .rw[hun] at hp;cases hp
    .rw[hun] at hl;cases hl
    .rw[hun] at hl;cases hl
   have hcount:CR (Array.replicate ops.size false)=ops.size:=by simp[CR,List.countP_replicate]
   refine eZ H F hA hob hpc (by rw[g0];exact hpk) hm0 (fun ρ2 a2 w2 hi2 hs2 hraw=>?_) ops.size _ _ ρ 0 a _ I0 (fun j oj _ _ _ _ _ _ hl=>by rw[hun] at hl;cases hl) hcount;obtain⟨e1,e2⟩:=JX hfe hi2.rel.mem hi2.rel.tmps fun i o ty ta x hi=>hraw i o ty ta x (by simpa using hi);refine hK ρ2 a2 w2 ⟨⟨hi2.rel.defers.on e2,hi2.rel.size,fun t c hc=>AA.mono0 e2 (vr _) _ _ (hi2.rel.tmps t c hc),e1⟩,fun e he=>?_⟩ ?_
   .have hge:=hi2.ges e he;refine⟨hge.lt,hge.bool,?_,hge.imp,hge.ne⟩;rw[<-TW he0];exact hge.iff
   .have s1:AE T g.n ρ l.mem w ρ (S 0).mem { w with drawn:=w.drawn+1 }:=by
     rw[m0];exact (wst g.n).trans hR.mem (vr _) (AE.drawn T g.n ρ _ w (w.drawn+1))
    have s2:AE T g.n ρ l.mem w ρ2 (S ops0.size).mem w2:=s1.trans hR.mem (Nat.le_of_eq (by rw[g0])) hs2;exact s2.trans hR.mem (by rw[<-g0];exact l1.grow.n) e2
 .cases h
end
section
variable {P:Program}{F:Fence}{n:Nat}{Q:Exit->Act->World->Prop}{a:Act}{w:World}
theorem EZ {b:Frame}{k:List Item}{cs:List Frame}{c:Code}:step P (lone (b.atR a (.code (.scope c)::k)) cs w)= .next (lone (b.atR a (.code c:: .inScope c::k)) cs w):=
 step_lone_go (by simp[stepG,stepG.exec,Frame.atR])
theorem Sn {b:Frame}{k:List Item}{cs:List Frame}{c:Code}:step P (lone (b.atR a (.inScope c::k)) cs w)= .next (lone (b.atR a k) cs w):=
 step_lone_go (by simp[stepG,stepG.exec,Frame.atR])
theorem Y0 {c:Code}(h:c.wpIn F n P (Exit.noGoto Q) a w):(Code.scope c).wpIn F n P Q a w:=by
 intro b k cs hro hb hr;have h0:(lone (b.atR a (.code (.scope c)::k)) cs w).fenced P F:=fenced_calm hb hr rfl;obtain⟨e,a₁,w₁,hq,harr⟩:=h b (.inScope c::k) cs hro hb hr;cases e with
 |normal=>exact⟨.normal,a₁,w₁,hq,.head h0 EZ (StepsIn.trans harr (.one (fenced_calm hb hr rfl) Sn))⟩
 |exit id=>
  have hx:exitTo id (.inScope c::k)=exitTo id k:=by simp[exitTo]
  exact⟨.exit id,a₁,w₁,hq,fun k' hk=> .head h0 EZ (harr.1 k' (by rw[hx];exact hk)),
   fun hr' hk=>let⟨k₁,h1,h2⟩:=harr.2 hr' (by rw[hx];exact hk);⟨k₁,h1,.head h0 EZ h2⟩⟩
 |goto l=>exact hq.elim
 |ret=>exact⟨_,a₁,w₁,hq,.of_steps (.one h0 EZ) harr⟩
 |panic ch=>exact⟨_,a₁,w₁,hq,.of_steps (.one h0 EZ) harr⟩
 |outgrown=>exact⟨_,a₁,w₁,hq,.of_steps (.one h0 EZ) harr⟩
end
section
variable {T:Tab}{n:Nat}{ρ :Nat->Option Nat}{m:Mem}{w:World}
def Gs:Blk->Blk| .mrow _ _ _ _=> .gone|b=>b
theorem LI (f:Blk->Blk)(hf:f .pad= .pad)(m:Mem)(id:Nat):Mem.at (m.map f) id=f (m.at id):=by
 unfold Mem.at;rw[wW];cases m[id]? <;>simp[hf]
theorem JN (m:Mem)(id:Nat):Mem.at (m.map Gs) id=Gs (m.at id):=LI _ rfl m id
theorem BM (m:Mem)(id:Nat):Mem.at (m.map Gs) id=m.at id\/Mem.at (m.map Gs) id= .gone:=by
 rw[JN];cases m.at id<;>simp[Gs]
theorem Yk {b off:Nat}(h:AS T ρ m w b off):AS T ρ (m.map Gs) w b off:=
 ⟨h.1,h.2.1,fun id=>by
  have:=h.2.2 id;rw[JN];cases hx:m.at id<;>rw[hx] at this<;>first|exact this|trivial⟩
mutual
theorem N1 (hm:AD T n ρ m w):∀(c:AC) (v:Value),AA T n ρ m w c v->AA T n ρ (m.map Gs) w (Jk m c) v
 | .mr id y,v,h=>by
  have back:AA T n ρ (m.map Gs) w (.mr id y) v:=AA.mono0 (AE.weaken (BM m)) (vr _) _ _ h;unfold Jk;split
  .rename_i x y' ks e hx;split
   .rename_i hy;have hy:=vp hy;subst hy;obtain⟨⟨h0,h1⟩,j,a,cap,k1,k2,k3,⟨k4,k5⟩,k6⟩:=h;have hb:=hm.blk id;rw[hx] at hb;obtain⟨⟨g0,_⟩,l,g1,g2,g3,g4⟩:=hb;have e1:j=l.length:=by rw[k1] at g2;injection g2
    have e2:j.toNat=l.length:=by omega
    refine⟨g0,l,g1,g3.1,fun e=>absurd e g3.2,a,cap,by rw[k3,e2],by omega,fun hpos=>?_⟩;rcases g4 with⟨_,rfl⟩|⟨b2,vs,us,g4,g5,g6,g7⟩
    .simp at hpos
    .rcases k6 _ _ _ hx with⟨q1,_⟩|⟨b3,vs3,q1,q2,_⟩
     .rw[g4] at q1;cases q1
     .rw[g4] at q1;cases q1;refine⟨b2,0,q2,?_⟩;have hlen:=g6.len;refine AU.holds (ok:=AS T ρ m w) (o:=0) (fun b off hs=>⟨Yk hs,rfl⟩) g6 (fun p hp=>⟨⟨(vx.1 g5).1,g7 _,fun id2=>?_⟩,?_⟩)
      .rw[JN];by_cases hid:id2=id
       .rw[hid,hx];trivial
       .have key:(m.at id2).tracked=true-> ρ id2≠some b2:=fun ht he=>hid (hm.inj id2 id b2 ht (by rw[hx];rfl) he g4);cases hx2:m.at id2<;>rw[hx2] at key<;>first|trivial|exact key rfl|exact fun he=>absurd he (key rfl)
      .rw[v8,Ez g5,wE (by omega)]
   .exact back
  .exact back
 | .on c a,v,h=>⟨h.1,fun h1=>N1 hm a v (h.2 h1)⟩
 | .gd c a,v,h=>⟨h.1,fun h1=>N1 hm a v (h.2.1 h1),h.2.2⟩
 | .fn f a b,v,⟨vs,us,h1,h2,h3⟩=>⟨vs,us,h1,Ip hm a vs h2,Ip hm b us h3⟩
 | .agg l,v,⟨vs,h1,h2⟩=>⟨vs,h1,Ip hm l vs h2⟩
 | .tup l,v,⟨vs,h1,h2⟩=>⟨vs,h1,Ip hm l vs h2⟩
 | .any,v,h=>AA.mono0 (AE.weaken (BM m)) (vr _) _ _ h
 | .anyc,v,h=>AA.mono0 (AE.weaken (BM m)) (vr _) _ _ h
 | .cb _,v,h=>AA.mono0 (AE.weaken (BM m)) (vr _) _ _ h
 | .b _,v,h=>AA.mono0 (AE.weaken (BM m)) (vr _) _ _ h
 | .nb _,v,h=>AA.mono0 (AE.weaken (BM m)) (vr _) _ _ h
 | .ci _ _,v,h=>AA.mono0 (AE.weaken (BM m)) (vr _) _ _ h
 | .i _ _ _ _,v,h=>AA.mono0 (AE.weaken (BM m)) (vr _) _ _ h
 | .cv _,v,h=>AA.mono0 (AE.weaken (BM m)) (vr _) _ _ h
 | .v _,v,h=>AA.mono0 (AE.weaken (BM m)) (vr _) _ _ h
 | .s _,v,h=>AA.mono0 (AE.weaken (BM m)) (vr _) _ _ h
 | .ptr _ _,v,h=>AA.mono0 (AE.weaken (BM m)) (vr _) _ _ h
 | .pix _ _ _ _ _ _,v,h=>AA.mono0 (AE.weaken (BM m)) (vr _) _ _ h
 | .ro _ _,v,h=>AA.mono0 (AE.weaken (BM m)) (vr _) _ _ h
 | .rp _ _ _ _,v,h=>AA.mono0 (AE.weaken (BM m)) (vr _) _ _ h
 | .vec _ _ _,v,h=>AA.mono0 (AE.weaken (BM m)) (vr _) _ _ h
 | .sel _ _,v,h=>AA.mono0 (AE.weaken (BM m)) (vr _) _ _ h
 | .yl _,v,h=>AA.mono0 (AE.weaken (BM m)) (vr _) _ _ h
 | .asl _ _ _,v,h=>AA.mono0 (AE.weaken (BM m)) (vr _) _ _ h
 | .rsv _ _ _,v,h=>AA.mono0 (AE.weaken (BM m)) (vr _) _ _ h
 | .mp _ _ _ _ _,v,h=>AA.mono0 (AE.weaken (BM m)) (vr _) _ _ h
 | .mv _,v,h=>AA.mono0 (AE.weaken (BM m)) (vr _) _ _ h
theorem Ip (hm:AD T n ρ m w):∀(l:List AC) (vs:List Value),AB T n ρ m w l vs->AB T n ρ (m.map Gs) w (Mm m l) vs
 |[],_,h=>h
 |c::l,_,⟨u,us,h1,h2,h3⟩=>⟨u,us,h1,N1 hm c u h2,Ip hm l us h3⟩
end
theorem Pw (m:Mem):Wk (m.map Gs) (NH m):=fun id=>by
 unfold NH;rw[JN,LI _ rfl];cases m.at id with
 |cells l e=>exact .inr ⟨l,Mm m l,e,rfl,rfl⟩
 |_=>exact .inl rfl
theorem cQ {k:Nat}(hm:AD T n ρ m w)(hk:n<=k):AE T n ρ m w ρ (NH m) w:=
 (AE.weaken (BM m)).trans hm hk ((Pw m).step (n:=k))
theorem fV (hm:AD T n ρ m w):AD T n ρ (NH m) w:=by
 have hm1:=AD.weaken hm (BM m);have st:AE T n ρ (m.map Gs) w ρ (NH m) w:=(Pw m).step;have eat:∀id,Mem.at (NH m) id=frzB m (m.at id):=fun id=>LI _ rfl m id;have htr:∀id,(Mem.at (NH m) id).tracked=true->(m.at id).tracked=true:=fun id h=>by
  rw[eat] at h;cases hx:m.at id<;>rw[hx] at h<;>first|rfl|exact h
 refine⟨fun id=>?_,fun id id' b h1 h2=>hm.inj id id' b (htr id h1) (htr id' h2),hm.fr⟩;rcases Pw m id with h|⟨l,l',e,h1,h2⟩
 .exact BB.step st hm1 (vr _) h rfl (fun _ _=>rfl)
 .cases hx:m.at id with
  |cells l0 e0=>
   have hb:=hm.blk id;rw[hx] at hb;obtain⟨b,vs,g1,g2,g3⟩:=hb;rw[eat,hx];exact⟨b,vs,g1,g2,AB.mono0 st (vr _) _ _ (Ip hm l0 vs g3)⟩
  |_=>rw[JN,hx] at h1;cases h1
theorem M9 (m:Mem):∀(t:Tr) (i:Nat),(QP m t).get i=(t.get i).map (Jk m)
 | .nil,i=>rfl
 | .node v l r,i=>by
  simp only[QP,Tr.get];rw[M9 m l,M9 m r];cases Nat.beq i 0<;>simp only[cond];cases Nat.beq (i % 2) 1<;>rfl
theorem dw (m:Mem)(s:AO)(i:Nat):(Y4 m s).get i=(s.get i).map (Jk m):=by
 have key:∀l:List (Nat × AC),A6 (l.map fun p=>(p.1,Jk m p.2)) i=(A6 l i).map (Jk m):=by
  intro l;induction l with
  |nil=>rfl
  |cons p l ih=>
   obtain⟨j,c⟩:=p;simp only[wG,A6];cases Nat.beq j i<;>first|exact ih|rfl
 unfold AO.get Y4;simp only[key];cases A6 s.loc i with
 |some c=>rfl
 |none=>exact M9 m s.t i
theorem eA {b:Bool}{l:Loc}{a:Act}(h:Rel T n ρ l a w):AE T n ρ l.mem w ρ (IT b l).mem w/\Rel T n ρ (IT b l) a w/\(IT b l).tmps.n=l.tmps.n:=by
 cases b with
 |false=>exact⟨AE.weaken fun _=> .inl rfl,h,rfl⟩
 |true=>
  have st:=cQ h.mem (vr n);refine⟨st,⟨h.defers.on st,h.size,fun i c hc=>?_,fV h.mem⟩,rfl⟩;have hc:(Y4 l.mem l.tmps).get i=some c:=hc;rw[dw,wK] at hc;obtain⟨c0,hc0,rfl⟩:=hc;exact AA.mono0 (Pw l.mem).step (vr _) _ _ (N1 h.mem _ _ (h.tmps i c0 hc0))
end
section
variable {P:Program}{call:Ak}
theorem aN {T:Tab}(h:Option (Tmp × Int × Int))(pc:PC)(t:AO)(g:G):AR g (By h pc t g).2/\(By h pc t g).2.n=g.n/\(By h pc t g).1.n=t.n/\
  (AY T (By h pc t g).2->pcv T pc->∀n ρ m a w,Rel T n ρ ⟨t,m⟩ a w->Rel T n ρ ⟨(By h pc t g).1,m⟩ a w):=by
 unfold By;split
 .exact⟨AR.refl _,rfl,rfl,fun _ _ _ _ _ _ _ h=>h⟩
 .rename_i i lo hi;split
  .rename_i k lo0 hi0 x hx;dsimp only;refine⟨AR.need _ _ _,(Cn _ _ _).1,AO.set_n _ _ _,fun hob hpc n ρ m a w hR=>?_⟩;have hb:=AY.need hob hpc _ (wY.2 rfl);refine⟨hR.defers,by rw[hR.size];exact (AO.set_n _ _ _).symm,fun j c hc=>?_,hR.mem⟩;rcases AO.get_set _ _ _ _ hc with⟨rfl,_,rfl⟩|⟨_,h2⟩
   .obtain⟨q0,z,q1,q2,_⟩:=hR.tmps _ _ hx;have q3:T.get x= .int z:=q1;simp only[Pr.holds,DH,wG,wa,u0,Rf.eval,q3,U.toI] at hb;exact⟨q0,z,q1,q2,hb.1,hb.2⟩
   .exact hR.tmps j c h2
  .dsimp only;exact⟨AR.refl _,rfl,rfl,fun _ _ _ _ _ _ _ h=>h⟩
theorem U5 {k:XK}:∀{l:List As},noK k l=true->GA k l=none
 |[],_=>rfl
 |o::l,h=>by
  simp only[noK,List.all_cons,vo,Bool.not_eq_true',decide_eq_false_iff_not] at h;unfold GA;rw[if_neg h.1,U5 (l:=l) h.2];rfl
theorem IV (hm:P.follows .mixedOrders=true)(hcall:∀T,CS P T call)(hint:C2):∀(fuel:Nat) (inR:Bool) (ys:Ys) (T:Tab) (r:Option Nat) (kk blk:Nat) (c:Code),(inR=false->r=none)->CL P T.lp ys->
  CP T (Mr P r kk (hint.plan blk).isSome fuel c) (Bd P call hint inR ys fuel blk c)
 |0,_,_,_,_,_,_,_,_,_=>fun pc l g outs g' h=>by simp only[Bd] at h;cases h
 |fuel+1,inR,ys,T,r,kk,blk,c,hr,hys=>by
  have ih0:∀(T':Tab),T'.lp=T.lp->∀blk c,Pj P T' r kk c (Bd P call hint inR ys fuel blk c):=fun T' hT' blk c=>(IV hm hcall hint fuel inR ys T' r kk blk c hr (by rw[hT'];exact hys)).mono fun Q a w h=>Ns h;have ih:∀blk c,Pj P T r kk c (Bd P call hint inR ys fuel blk c):=fun blk c=>ih0 T rfl blk c;have plain:∀{c:Code} {run:PC->Loc->G->Option (List As × G)},(∀b,c≠ .loop b)->Pj P T r kk c run->CP T (Mr P r kk (hint.plan blk).isSome (fuel+1) c) run:=fun hc h=>h.mono fun Q a w hh=>XF (fun b e=>absurd e (hc b)) hh;cases c with
  |skip=>exact plain (fun _ h=>by cases h) (QH .normal fun Q a w h=>wpIn_skip h)
  |label l=>exact plain (fun _ h=>by cases h) (QH .normal fun Q a w h=>wpIn_label h)
  |exit id=>exact plain (fun _ h=>by cases h) (QH (.exit id) fun Q a w h=>wpIn_exit h)
  |ret=>exact plain (fun _ h=>by cases h) (QH .ret fun Q a w h=>wpIn_ret h)
  |seq x y=>exact plain (fun _ h=>by cases h) ((O1 (ih blk x) (ih blk y)).mono fun Q a w h=>wpIn_seq h)
  |loop b=>
   cases hp:hint.plan blk with
   |some p=>
    have h2:CP T (Mr P r kk false fuel (.loop b)) (fun _ _ _=>none):=fun pc l g outs g' h=>by cases h
    have h3:=(O1 (ih blk b) h2).mono (K2:=Mr P r kk false (fuel+1) (.loop b)) fun Q a w h=>h;have h4:=h3.mono (K2:=Mr P r kk true (fuel+1) (.loop b)) fun Q a w h=>XF (fun _ _=>rfl) (Ns h);intro pc l g outs g' h;simp only[Bd,hp] at h;split at h
    .rename_i r1 ho;cases h;unfold fF at ho;split at ho
     .rename_i outs1 g1 hb;split at ho
      .rename_i hn;cases ho;refine h4 pc l g outs g' ?_;simp only[hb,vq,wT];unfold QE;rw[U5 hn]
      .cases ho
     .cases ho
    .exact aM (r:=r) (kk:=kk) (c:=b) (fun T' hT'=>ih0 T' hT' blk b) p pc l g outs g' h
   |none=>
    have h2:=IV hm hcall hint fuel inR ys T r kk blk (.loop b) hr hys;rw[hp] at h2;have:=(O1 (ih blk b) h2).mono (K2:=Mr P r kk false (fuel+1) (.loop b)) fun Q a w h=>h;intro pc l g outs g' h;simp only[Bd,hp] at h;exact this pc l g outs g' h
  |block id b=>
   refine plain (fun _ h=>by cases h) ?_;have:=(bo (id:=id) (ih id b)).mono (K2:=fun Q a w=>(Code.block id b).wpIn (fen r) kk P Q a w) fun Q a w h=>wpIn_block h;intro pc l g outs g' h;simp only[Bd] at h;exact this pc l g outs g' h
  |scope b=>
   refine plain (fun _ h=>by cases h) ?_;intro pc l g outs g' h;simp only[Bd] at h;obtain⟨g1,g2⟩:=ih blk b pc l g outs g' h;refine⟨g1,fun hA hp=>?_⟩;obtain⟨h3,h4,h5⟩:=g2 hA hp;refine⟨h3,h4,fun ho hpc ρ a w Q hR hO=>Y0 (h5 ho hpc ρ a w _ hR fun o hm h1 ρ' a' w' h2 h6=>?_)⟩;have:=hO o hm h1 ρ' a' w' h2 h6;cases hk:o.k<;>(rw[hk] at this;exact this)
  |region id ops draw=>
   refine plain (fun _ h=>by cases h) ?_;intro pc l g outs g' h;simp only[Bd,vq,vn] at h;obtain⟨s,hs,h⟩:=h;cases h;unfold Wz at hs;have fin:AR g s.g->s.tmps.n=l.tmps.n->(Agr T s.g->AY T s.g->pcv T pc->A8 T g pc->∀ ρ a w Q,Rel T g.n ρ l a w->
     (∀ ρ' a' w',Bm T ρ' ops s a' w'->AE T g.n ρ l.mem w ρ' s.mem w'->Q .normal a' w')->(Code.region id ops draw).wpIn (fen r) kk P Q a w)->
     AR g (By (hint.nar id) pc s.tmps s.g).2/\(Agr T (By (hint.nar id) pc s.tmps s.g).2->Cb g pc->DN T (By (hint.nar id) pc s.tmps s.g).2 l.tmps.n [⟨.normal,pc,IT (hint.frz id) ⟨(By (hint.nar id) pc s.tmps s.g).1.commit hint.keep,s.mem⟩⟩]/\(∀o∈([⟨.normal,pc,IT (hint.frz id) ⟨(By (hint.nar id) pc s.tmps s.g).1.commit hint.keep,s.mem⟩⟩]:List As),pcv T o.pc->pcv T pc)/\
      (AY T (By (hint.nar id) pc s.tmps s.g).2->pcv T pc->∀ ρ a w Q,Rel T g.n ρ l a w->UD T g.n ρ l.mem w (By (hint.nar id) pc s.tmps s.g).2.n [⟨.normal,pc,IT (hint.frz id) ⟨(By (hint.nar id) pc s.tmps s.g).1.commit hint.keep,s.mem⟩⟩] Q->(Code.region id ops draw).wpIn (fen r) kk P Q a w)):=by
    intro gr hlen k;obtain⟨n1,n2,n3,n4⟩:=aN (T:=T) (hint.nar id) pc s.tmps s.g;refine⟨gr.trans n1,fun hA hp=>?_⟩;have hN:(IT (hint.frz id) ⟨(By (hint.nar id) pc s.tmps s.g).1.commit hint.keep,s.mem⟩).tmps.n=l.tmps.n:=by
     have h0:((By (hint.nar id) pc s.tmps s.g).1.commit hint.keep).n=l.tmps.n:=by rw[AO.commit_n];exact n3.trans hlen
     cases hint.frz id<;>exact h0
    obtain⟨h1,h2⟩:=DN.one (T:=T) (k:= .normal) (l:=IT (hint.frz id) ⟨(By (hint.nar id) pc s.tmps s.g).1.commit hint.keep,s.mem⟩) (N:=l.tmps.n) (hp.grow (gr.trans n1)) hN;refine⟨h1,h2,fun hob hpc ρ a w Q hR hO=>?_⟩;refine k (hA.of n1) (hob.of n1) hpc (hp.ok hpc) ρ a w Q hR fun ρ' a' w' hi hst=>?_;have hr1:Rel T (By (hint.nar id) pc s.tmps s.g).2.n ρ' ⟨(By (hint.nar id) pc s.tmps s.g).1.commit hint.keep,s.mem⟩ a' w':=
     Rel.less (l:=⟨(By (hint.nar id) pc s.tmps s.g).1,s.mem⟩) (n4 hob hpc _ _ _ _ _ (by rw[n2];exact hi.rel)) (AO.commit_n _ _) fun i c hc=>AO.get_commit _ _ _ hc
    obtain⟨f1,f2,_⟩:=eA (b:=hint.frz id) hr1;exact hO _ (wY.2 rfl) hpc ρ' a' w' (hst.trans hR.mem (gr.trans n1).n f1) f2
   cases draw with
   |true=>
    rw[if_pos rfl] at hs;have hs':TA P call ys ops pc l g=some s\/(∃qc md,Er qc md [] P call ys ops pc l g=some s)\/∃qc md,IA qc md P call ys ops pc l g=some s:=by
     split at hs
     .rename_i s1 h1;injection hs with hs;subst hs;exact .inl h1
     .right;have key:∀ns:List Nat,QB P call ys ops pc l g ns=some s->(∃qc md,Er qc md [] P call ys ops pc l g=some s)\/∃qc md,IA qc md P call ys ops pc l g=some s:=by
       intro ns;induction ns with
       |nil=>intro h;cases h
       |cons n ns ih=>
        intro h;unfold QB at h;split at h
        .rename_i s1 h1;injection h with h
         subst h;split at h1<;>first|exact .inl ⟨_,_,h1⟩|exact .inr ⟨_,_,h1⟩
        .exact ih h
      exact key _ hs
    have hk:AR g s.g/\s.tmps.n=l.tmps.n/\(Agr T s.g->AY T s.g->pcv T pc->A8 T g pc->∀id ρ a w Q,Rel T g.n ρ l a w->
      (∀ ρ' a' w',Bm T ρ' ops s a' w'->AE T g.n ρ l.mem w ρ' s.mem w'->Q .normal a' w')->(Code.region id ops true).wpIn (fen r) kk P Q a w):=by
     rcases hs' with hs|⟨qc,md,hs⟩|⟨qc,md,hs⟩
     .exact ep (T:=T) (r:=r) (kk:=kk) hm (hcall T) hys hs
     .exact bV (T:=T) (r:=r) (kk:=kk) hm hcall hys hs
     .exact aF (T:=T) (r:=r) (kk:=kk) hm hcall hys hs
    obtain⟨gr,hlen,k⟩:=hk;exact fin gr hlen fun hA hob hpc hpk ρ a w Q hR hK=>k hA hob hpc hpk id ρ a w Q hR hK
   |false=>
    rw[if_neg (by simp)] at hs;obtain⟨gr,k⟩:=H8 (T:=T) (r:=r) (kk:=kk) (hcall T) hys hs;refine fin gr (UN hs) fun hA hob hpc hpk ρ a w Q hR hK=>?_;refine wpIn_region ?_;rw[List.range_eq_range',<-Array.length_toList];exact k hA hob hpc hpk 0 ρ a w Q (fun j=>by simp) ⟨hR,fun e he=>by cases he⟩ fun ρ' a' w' hi hst=>hK ρ' a' w' hi hst
  |cond c x y=>
   refine plain (fun _ h=>by cases h) ?_;intro pc l g outs g' h;simp only[Bd] at h;have hev:∀{ρ a w},Rel T g.n ρ l a w->AA T g.n ρ l.mem w (DF [] l.tmps c) (a.eval c):=fun hR=>E8 hR (fun c hc=>by cases hc) c;have two:∀{e:Nat} {x y:Code} {pol:Bool},Pm (Bd P call hint inR ys fuel blk) e x y pc l g=some (outs,g')->
     (∀ ρ a w,Rel T g.n ρ l a w->∃t,T e= .bool t/\a.eval c= .bool (t==pol))->∀(X Y:Code),(pol=true->X=x/\Y=y)->(pol=false->X=y/\Y=x)->
     AR g g'/\(Agr T g'->Cb g pc->DN T g' l.tmps.n outs/\(∀o∈outs,pcv T o.pc->pcv T pc)/\(AY T g'->pcv T pc->∀ ρ a w Q,Rel T g.n ρ l a w->UD T g.n ρ l.mem w g'.n outs Q->(Code.cond c X Y).wpIn (fen r) kk P Q a w)):=by
    intro e x y pol h hval X Y h1 h2;obtain⟨gr,k⟩:=cS (ih blk x) (ih blk y) pc l g outs g' h;refine⟨gr,fun hA hp=>?_⟩;obtain⟨q1,q2,q3⟩:=k hA hp;refine⟨q1,q2,fun hob hpc ρ a w Q hR hO=>?_⟩;obtain⟨t,e1,e2⟩:=hval ρ a w hR;obtain⟨k1,k2⟩:=q3 hob hpc ρ a w Q hR hO;rw[e1] at k1 k2;refine wpIn_cond e2 ?_;cases pol with
    |true=>
     obtain⟨rfl,rfl⟩:=h1 rfl;cases t with
     |true=>exact k1 rfl
     |false=>exact k2 rfl
    |false=>
     obtain⟨rfl,rfl⟩:=h2 rfl;cases t with
     |true=>exact k1 rfl
     |false=>exact k2 rfl
   split at h
   .rename_i t ht;obtain⟨gr,k⟩:=ih blk _ pc l g outs g' h;refine⟨gr,fun hA hp=>?_⟩;obtain⟨q1,q2,q3⟩:=k hA hp;refine⟨q1,q2,fun hob hpc ρ a w Q hR hO=>?_⟩;have:=hev hR;rw[ht] at this;exact wpIn_cond (t:=t) this (by cases t<;>exact q3 hob hpc ρ a w Q hR hO)
   .rename_i e ht;refine two (pol:=true) h (fun ρ a w hR=>?_) x y (fun _=>⟨rfl,rfl⟩) (fun h=>by cases h);have:=hev hR;rw[ht] at this;obtain⟨_,t,h1,h2⟩:=this;exact⟨t,h1,by rw[h2];cases t<;>rfl⟩
   .rename_i e ht;refine two (pol:=false) h (fun ρ a w hR=>?_) x y (fun h=>by cases h) (fun _=>⟨rfl,rfl⟩);have:=hev hR;rw[ht] at this;obtain⟨_,t,h1,h2⟩:=this;exact⟨t,h1,by rw[h2];cases t<;>rfl⟩
   .cases h
  |_=>intro pc l g outs g' h;simp only[Bd] at h;cases h
theorem JT (hm:P.follows .mixedOrders=true)(hcall:∀T,CS P T call)(hint:C2)(fuel:Nat)(ys:Ys)(T:Tab)(kk:Nat)(c:Code)(hys:CL P T.lp ys):Pj P T none kk c (Bd P call hint false ys fuel 0 c):=
 (IV hm hcall hint fuel false ys T none kk 0 c (fun _=>rfl) hys).mono fun _ _ _ h=>Ns h
end
section
variable {P:Program}{T:Tab}{g:G}{n:Nat}{ρ :Nat->Option Nat}{w:World}{a:Act}
theorem MO {α β:Type}(f:α->Sem β)(r:α->β)(w:World):∀(l:List α),(∀x∈l,(f x).run P w= .ok (r x) w)->(l.mapM f).run P w= .ok (l.map r) w
 |[],_=>by simp
 |x::l,h=>by
  have h1:=h x (wA ..);have h2:=MO f r w l (fun y hy=>h y (vz _ hy));simp[List.mapM_cons,h1,h2]
theorem dU {t:TypeId}{v u:Value}(h:(Instr.loadAt t v).run P w= .ok u w):(do loadVar t (<-asAddr v):Sem Value).run P w= .ok u w:=by
 unfold Instr.loadAt at h;cases v with
 |pointer p=>
  cases p with
  |some q=>simpa [Instr.sureAddr,asAddr] using h
  |none=>simp[Instr.sureAddr] at h
 |_=>simp[Instr.sureAddr] at h
def LF (tmps:Array Value):ResultVar->Sem Value
 | .tmp t=>pure (tmps.getD t undef)
 | .cell a t=>do loadVar t (<-asAddr (tmps.getD a undef))
theorem ZM {l:Loc}(hA:Agr T g)(hR:Rel T g.n ρ l a w){x:ResultVar}{c:AC}{us:List Ex}(h:Iv P l g x=some (c,us)):
  ∃v,(LF a.tmps x).run P w= .ok v w/\AA T g.n ρ l.mem w c v:=by
 cases x with
 |tmp t=>
  simp only[Iv,Option.some.injEq,Prod.mk.injEq] at h;obtain⟨rfl,rfl⟩:=h;exact⟨_,rfl,hR.at t⟩
 |cell p t=>
  simp only[Iv,vn] at h;obtain⟨r,hr,h⟩:=h;split at h
  .rename_i hps hus;cases h;obtain⟨u,h1,h2,h3⟩:=LO hr (by rw[hus];exact New.nil _ _) hR.mem (hR.at p);rw[hus] at h3;exact⟨u,dU h1,h3⟩
  .cases h
theorem V6 {l:Loc}{fn:Func}(hA:Agr T g)(hR:Rel T g.n ρ l a w){c:AC}(h:PK P fn l g=some c):∃v,(results fn a.tmps).run P w= .ok v w/\AA T g.n ρ l.mem w c v:=by
 unfold PK at h;simp only[vq,vn] at h;obtain⟨rs,hrs,h⟩:=h;obtain⟨hlen,hget⟩:=Dl _ _ _ hrs;have each:∀x∈fn.results.toList,∃v,(LF a.tmps x).run P w= .ok v w/\∀c us,Iv P l g x=some (c,us)->AA T g.n ρ l.mem w c v:=by
  intro x hx;obtain⟨i,hi⟩:=wP.1 hx;have h1:=hget i x hi;have:i < rs.length:=by rw[hlen];exact (vu.1 hi).1
  rw[vt this] at h1;obtain⟨v,h2,h3⟩:=ZM (c:=rs[i].1) (us:=rs[i].2) hA hR h1.symm;refine⟨v,h2,fun c us hc=>?_⟩;have e2:rs[i]=(c,us):=by
   have:=h1.trans hc;injection this
  rw[e2] at h3;exact h3
 have pick:∃f:ResultVar->Value,∀x∈fn.results.toList,(LF a.tmps x).run P w= .ok (f x) w/\∀c us,Iv P l g x=some (c,us)->AA T g.n ρ l.mem w c (f x):=by
  classical
  refine⟨fun x=>if hx:x∈fn.results.toList then (each x hx).choose else undef,fun x hx=>?_⟩;simp only[hx,dif_pos];exact (each x hx).choose_spec
 obtain⟨f,hf⟩:=pick;have hrun:=MO (P:=P) (LF a.tmps) f w fn.results.toList (fun x hx=>(hf x hx).1);have hval:AB T g.n ρ l.mem w (rs.map (·.1)) (fn.results.toList.map f):=by
  refine AB.of_get (by simp[hlen]) fun i c u hc hu=>?_;simp only[wW,wK] at hc hu;obtain⟨⟨c',us⟩,hc1,rfl⟩:=hc;obtain⟨x,hx1,rfl⟩:=hu;have h1:=hget i x hx1;rw[hc1] at h1;exact (hf x (wP.2 ⟨i,hx1⟩)).2 c' us h1.symm
 have hres:(results fn a.tmps).run P w= .ok (if h:(fn.results.toList.map f).toArray.size=1 then (fn.results.toList.map f).toArray[0] else .tuple (fn.results.toList.map f).toArray) w:=by
  have e:(fn.results.mapM (LF a.tmps)).run P w= .ok (fn.results.toList.map f).toArray w:=by
   rw[Array.mapM_eq_mapM_toList];simp[hrun]
  have h0:results fn a.tmps=(do let vs<-fn.results.mapM (LF a.tmps);pure (if h:vs.size=1 then vs[0] else .tuple vs)):=rfl;rw[h0,Sem.run_bind];rw[e];simp
 refine⟨_,hres,?_⟩;split at h
 .rename_i c0 us0;cases h;obtain⟨u,us,e1,e2,e3⟩:=hval;rw[show us=[] from e3] at e1;simp only[e1];exact e2
 .rename_i hne;cases h;have hsz:(fn.results.toList.map f).toArray.size≠1:=by
   have:=hval.length;simp at this⊢;intro h1;rw[h1] at this;cases rs with
   |nil=>simp at this
   |cons r rs=>
    cases rs with
    |nil=>exact hne _ _ rfl
    |cons=>simp at this
  rw[dif_neg hsz];exact⟨_,rfl,hval⟩
def fC:Obj->Bool| .deferred _=>true| .mapIter .. =>true|_=>false
def NoC (w:World)(D:Nat):Prop:=∃o0,w.heap[D]? =some o0/\fC o0=true
theorem NoC.no {w:World}{D:Nat}{o:Obj}(h:NoC w D)(k:w.heap[D]? =some o)(ho:fC o=false):False:=by
 obtain⟨o0,h1,h2⟩:=h;rw[h1] at k;cases k;rw[ho] at h2;cases h2
theorem aU {D:Nat}{o:Obj}(h:NoC w D)(ho:∀vs e fr,o≠ .cells vs e fr){b off:Nat}{v:Value}(hc:w.cell? ⟨b,off,none⟩=some v):(w.putObj D o).cell? ⟨b,off,none⟩=some v:=by
 have hne:b≠D:=fun e=>by
  subst e;obtain⟨o0,h1,h2⟩:=h;cases o0<;>first|(cases h2;done)|(simp[World.cell?,h1] at hc)
 rw[<-hc];exact BY (World.putObj_heap_other hne) off
mutual
theorem AM.put {D:Nat}{o:Obj}(h:NoC w D)(ho:∀vs e fr,o≠ .cells vs e fr){ok ok':Nat->Nat->Prop}(hok:∀b off,ok b off->ok' b off):∀(k:Kd) (u:U) (v:Value),AM ok w k u v->AM ok' (w.putObj D o) k u v
 | .int _ _ _,_,_,hh=>hh
 | .bool,_,_,hh=>hh
 | .str,_,_,hh=>hh
 | .val,_,_,hh=>hh
 | .any,_,_,hh=>hh
 | .list ks,u,v,⟨l,h0,h1,h2,a,cap,h3,h4,h5⟩=>by
  refine⟨l,h0,h1,h2,a,cap,h3,h4,fun hl=>?_⟩;obtain⟨b,o',hb,hc⟩:=h5 hl;exact⟨b,o',hb,fun i us hi=>AX.put h ho hok ks b _ us (hc i us hi)⟩
theorem AX.put {D:Nat}{o:Obj}(h:NoC w D)(ho:∀vs e fr,o≠ .cells vs e fr){ok ok':Nat->Nat->Prop}(hok:∀b off,ok b off->ok' b off):∀(ks:List Kd) (b off:Nat) (us:List U),AX ok w ks b off us->AX ok' (w.putObj D o) ks b off us
 |[],_,_,_,hh=>hh
 |k::ks,b,off,us,⟨u,us',e,⟨h1,v,h2,h3⟩,h4⟩=>
  ⟨u,us',e,⟨hok b off h1,v,aU h ho h2,AM.put h ho hok k u v h3⟩,AX.put h ho hok ks b _ us' h4⟩
end
theorem AJ.put {D:Nat}{o:Obj}(h:NoC w D)(ho:∀vs e fr,o≠ .cells vs e fr){ok ok':Nat->Nat->Prop}(hok:∀b off,ok b off->ok' b off):∀{ks:List Kd} {us:List U} {vs:List Value},AJ ok w ks us vs->AJ ok' (w.putObj D o) ks us vs
 |[],_,_,hh=>hh
 |k::_,_,_,⟨u,us',v,vs',e1,e2,h1,h2⟩=>⟨u,us',v,vs',e1,e2,AM.put h ho hok k u v h1,AJ.put h ho hok h2⟩
theorem Ao.put {D:Nat}{o:Obj}(h:NoC w D)(ho:∀vs e fr,o≠ .cells vs e fr){ok ok':Nat->Nat->Prop}(hok:∀b off,ok b off->ok' b off){ks:List Kd}:∀{l:List (List U)} {vss:List (List Value)},Ao ok w ks l vss->Ao ok' (w.putObj D o) ks l vss
 |[],_,hh=>hh
 |_::_,_,⟨vs,vss',e,h1,h2⟩=>⟨vs,vss',e,AJ.put h ho hok h1,Ao.put h ho hok h2⟩
theorem AU.put {D:Nat}{o:Obj}(h:NoC w D)(ho:∀vs e fr,o≠ .cells vs e fr){ok ok':Nat->Nat->Prop}(hok:∀b off,ok b off->ok' b off){ks:List Kd}{l:List (List U)}{vs:List Value}(hh:AU ok w ks l vs):AU ok' (w.putObj D o) ks l vs:=by
 obtain⟨vss,h1,h2⟩:=hh;exact⟨vss,h1,Ao.put h ho hok h2⟩
theorem Bn.put {D:Nat}{o:Obj}(h:NoC w D)(ho:∀vs e fr,o≠ .cells vs e fr){ok ok':Nat->Nat->Prop}(hok:∀b off,ok b off->ok' b off){ks:List Kd}{ag:Bool}{us:List U}{v:Value}(hh:Bn ok w ks ag us v):Bn ok' (w.putObj D o) ks ag us v:=by
 obtain⟨vs,h1,h2⟩:=hh;exact⟨vs,AJ.put h ho hok h1,h2⟩
section
variable {m:Mem}{D:Nat}{o:Obj}
theorem AS.put {b off:Nat}(h:AS T ρ m w b off):AS T ρ m (w.putObj D o) b off:=⟨by rw[World.putObj_size];exact h.1,h.2.1,h.2.2⟩
mutual
theorem AA.put (h:NoC w D)(ho:∀vs e fr,o≠ .cells vs e fr):∀(c:AC) (v:Value),AA T n ρ m w c v->AA T n ρ m (w.putObj D o) c v
 | .any,_,_=>trivial
 | .anyc,_,hh=>hh
 | .on _ a,v,hh=>⟨hh.1,fun hc=>AA.put h ho a v (hh.2 hc)⟩
 | .gd _ a,v,hh=>⟨hh.1,fun hc=>AA.put h ho a v (hh.2.1 hc),hh.2.2⟩
 | .cb _,_,hh=>hh
 | .b _,_,hh=>hh
 | .nb _,_,hh=>hh
 | .ci _ _,_,hh=>hh
 | .i _ _ _ _,_,hh=>hh
 | .cv _,_,hh=>hh
 | .v _,_,hh=>hh
 | .s _,_,hh=>hh
 | .ptr _ _,_,hh=>hh
 | .pix _ _ _ _ _ _,_,hh=>hh
 | .ro x ks,v,⟨h0,h1⟩=>⟨h0,AM.put h ho (fun _ _ hs=>AS.put hs) _ _ _ h1⟩
 | .rp x t off ks,v,⟨h0,j,b,o',us,h1,h2,h3,h4,h5⟩=>⟨h0,j,b,o',us,h1,h2,h3,h4,AX.put h ho (fun _ _ hs=>AS.put hs) _ _ _ _ h5⟩
 | .vec id x ks,v,⟨h0,h1,h2,h3⟩=>⟨h0,h1,AM.put h ho (fun _ _ hs=>AS.put hs) _ _ _ h2,fun ks' e he=>by
   rcases h3 ks' e he with⟨l1,l2⟩|⟨b,cap,vs,l1,l2,l3,l4⟩
   .exact .inl ⟨l1,l2⟩
   .have hne:b≠D:=fun e=>by subst e;exact h.no l3 rfl
    exact .inr ⟨b,cap,vs,l1,l2,by rw[World.putObj_heap_other hne];exact l3,l4⟩⟩
 | .fn f first cap,v,⟨vs,us,h1,h2,h3⟩=>⟨vs,us,h1,AB.put h ho first vs h2,AB.put h ho cap us h3⟩
 | .sel x alts,v,⟨h0,j,h1,h2,h3⟩=>⟨h0,j,h1,h2,Aa.put h ho alts j.toNat v h3⟩
 | .yl _,_,hh=>hh
 | .asl _ _ _,_,hh=>hh
 | .rsv id x ks,v,⟨h0,h1,h2,h4,h3⟩=>⟨h0,h1,h2,h4,fun ks' e he=>by
   rcases h3 ks' e he with⟨l1,l2⟩|⟨b,len,cap,vs,l1,l2,l0,l3,l4⟩
   .exact .inl ⟨l1,l2⟩
   .have hne:b≠D:=fun e=>by subst e;exact h.no l3 rfl
    exact .inr ⟨b,len,cap,vs,l1,l2,l0,by rw[World.putObj_heap_other hne];exact l3,l4⟩⟩
 | .mr id y,v,⟨h0,j,a,cap,k1,k2,k3,k4,k5⟩=>⟨h0,j,a,cap,k1,k2,k3,k4,fun x ks e he=>by
   rcases k5 x ks e he with l1|⟨b,vs,l1,l2,l3,l4⟩
   .exact .inl l1
   .have hne:b≠D:=fun e=>by subst e;exact h.no l3 rfl
    exact .inr ⟨b,vs,l1,l2,by rw[World.putObj_heap_other hne];exact l3,l4⟩⟩
 | .mp _ _ _ _ _,_,hh=>hh
 | .mv _,_,hh=>hh
 | .agg l,v,⟨vs,h1,h2⟩=>⟨vs,h1,AB.put h ho l vs h2⟩
 | .tup l,v,⟨vs,h1,h2⟩=>⟨vs,h1,AB.put h ho l vs h2⟩
theorem AB.put (h:NoC w D)(ho:∀vs e fr,o≠ .cells vs e fr):∀(l:List AC) (vs:List Value),AB T n ρ m w l vs->AB T n ρ m (w.putObj D o) l vs
 |[],_,hh=>hh
 |c::l,vs,⟨u,us,h1,h2,h3⟩=>⟨u,us,h1,AA.put h ho c u h2,AB.put h ho l us h3⟩
theorem Aa.put (h:NoC w D)(ho:∀vs e fr,o≠ .cells vs e fr):∀(l:List AC) (j:Nat) (v:Value),Aa T n ρ m w l j v->Aa T n ρ m (w.putObj D o) l j v
 |[],_,_,hh=>hh.elim
 |c::_,0,v,hh=>AA.put h ho c v hh
 |_::l,j+1,v,hh=>Aa.put h ho l j v hh
end
theorem AD.put (h:NoC w D)(ho:∀vs e fr,o≠ .cells vs e fr)(hm:AD T n ρ m w):AD T n ρ m (w.putObj D o):=by
 refine⟨fun id=>?_,hm.inj,fun b off hb=>hm.fr b off (by rw[World.putObj_size] at hb;exact hb)⟩;have hb:=hm.blk id;cases hx:m.at id with
 |pad=>trivial
 |gone=>trivial
 |cells l e=>
  rw[hx] at hb;obtain⟨b,vs,h1,h2,h3⟩:=hb;have hne:b≠D:=fun e=>by subst e;exact h.no h2 rfl
  exact⟨b,vs,h1,by rw[World.putObj_heap_other hne];exact h2,AB.put h ho l vs h3⟩
 |tok x ks e=>
  rw[hx] at hb;obtain⟨h0,l,h1,h2⟩:=hb;refine⟨h0,l,h1,?_⟩;rcases h2 with h2|⟨b,vs,h2,h3,h4⟩
  .exact .inl h2
  .have hne:b≠D:=fun e=>by subst e;exact h.no h3 rfl
   exact .inr ⟨b,vs,h2,by rw[World.putObj_heap_other hne];exact h3,h4⟩
 |lp s st=>
  rw[hx] at hb;obtain⟨b,q,h1,h2,h3,h4,h5,h6,h7,j,h8,h9⟩:=hb;have hne:b≠D:=fun e=>by subst e;exact h.no h2 rfl
  exact⟨b,q,h1,by rw[World.putObj_heap_other hne];exact h2,h3,h4,h5,h6,fun i c hc=>AA.put h ho c _ (h7 i c hc),j,AA.put h ho st _ h8,h9⟩
 |mrow x y ks e=>
  rw[hx] at hb;obtain⟨h0,l,h1,h2,h3,h4⟩:=hb;refine⟨h0,l,h1,h2,h3,?_⟩;rcases h4 with h4|⟨b,vs,us,h4,h5,h6,h7⟩
  .exact .inl h4
  .have hne:b≠D:=fun e=>by subst e;exact h.no h5 rfl
   exact .inr ⟨b,vs,us,h4,by rw[World.putObj_heap_other hne];exact h5,AU.put h ho (fun _ _ hs=>AS.put hs) h6,h7⟩
 |mapb x kk ka vk va=>
  rw[hx] at hb;obtain⟨h0,l,b,es,clock,h1,h2,h3,h4,h5,h6,h7⟩:=hb;have hne:b≠D:=fun e=>by subst e;exact h.no h3 rfl
  exact⟨h0,l,b,es,clock,h1,h2,by rw[World.putObj_heap_other hne];exact h3,h4,h5,fun i us e h8 h9=>by
   obtain⟨u1,u2,g1,g2,g3⟩:=h6 i us e h8 h9;exact⟨u1,u2,g1,Bn.put h ho (fun _ _ hs=>AS.put hs) g2,Bn.put h ho (fun _ _ hs=>AS.put hs) g3⟩,h7⟩
structure Cw (T:Tab) (n:Nat) (ρ :Nat->Option Nat) (m:Mem) (B:Nat) (w w':World):Prop where
 os:w'.os=w.os
 tape:w'.tape=w.tape
 output:w'.output=w.output
 size:w'.heap.size=w.heap.size
 low:∀k,k < B->w'.heap[k]? =w.heap[k]?
 holds:∀c v,AA T n ρ m w c v->AA T n ρ m w' c v
 mem:AD T n ρ m w->AD T n ρ m w'
theorem Cw.refl (T:Tab)(n:Nat)(ρ :Nat->Option Nat)(m:Mem)(B:Nat)(w:World):Cw T n ρ m B w w:=⟨rfl,rfl,rfl,rfl,fun _ _=>rfl,fun _ _ h=>h,fun h=>h⟩
theorem Cw.trans {B:Nat}{w' w'':World}(h:Cw T n ρ m B w w')(k:Cw T n ρ m B w' w''):Cw T n ρ m B w w'':=
 ⟨k.os.trans h.os,k.tape.trans h.tape,k.output.trans h.output,k.size.trans h.size,fun i hi=>(k.low i hi).trans (h.low i hi),fun c v hh=>k.holds c v (h.holds c v hh),fun hh=>k.mem (h.mem hh)⟩
theorem Cw.put {B:Nat}(h:NoC w D)(hB:B<=D)(ho:∀vs e fr,o≠ .cells vs e fr):Cw T n ρ m B w (w.putObj D o):=
 ⟨rfl,rfl,rfl,World.putObj_size,fun k hk=>World.putObj_heap_other (by omega),fun c v hh=>AA.put h ho c v hh,fun hh=>hh.put h ho⟩
theorem AE.after {n0:Nat}{ρ0:Nat->Option Nat}{m0:Mem}{w0 w':World}(h:AE T n0 ρ0 m0 w0 ρ m w)(hm:AD T n0 ρ0 m0 w0)(k:Cw T n ρ m w0.heap.size w w'):AE T n0 ρ0 m0 w0 ρ m w' where
 os:=k.os.trans h.os
 tape:=k.tape.trans h.tape
 output:=k.output.trans h.output
 size:=by rw[k.size];exact h.size
 mlen:=h.mlen
 rho:=h.rho
 untr:=h.untr
 fresh:=h.fresh
 old:=fun i hi hno=>(k.low i hi).trans (h.old i hi hno)
 tok:=fun id x ks e hx=>by
  have lt:∀b, ρ0 id=some b->b < w0.heap.size:=fun b hb=>hm.lt (by rw[hx];rfl) hb;rcases h.tok id x ks e hx with⟨h1,h2,h3⟩|⟨h1,h2⟩
  .exact .inl ⟨h1,h2,fun b hb=>(k.low b (lt b hb)).trans (h3 b hb)⟩
  .exact .inr ⟨fun b hb off ho=>(BY (k.low b (lt b hb)) off).trans (h1 b hb off ho),h2⟩
 row:=fun id x y ks e hx=>by
  have lt:∀b, ρ0 id=some b->b < w0.heap.size:=fun b hb=>hm.lt (by rw[hx];rfl) hb;rcases h.row id x y ks e hx with h1|⟨x',y',ks',h1,h2,⟨h3,h4,h5⟩|h3⟩
  .exact .inl h1
  .exact .inr ⟨x',y',ks',h1,h2,.inl ⟨h3,h4,fun b vs hb hv=>by rw[k.low b (lt b hb)];exact h5 b vs hb hv⟩⟩
  .exact .inr ⟨x',y',ks',h1,h2,.inr h3⟩
theorem Kk {fn:Func}{tmps:Array Value}{R:Ending->World->Prop}{kk B:Nat}:∀(Ds:List Nat) (w:World),Ds.Nodup->(∀D∈Ds,B<=D/\w.heap[D]? =some (.deferred (some [])))->
  (∀w',Cw T n ρ m B w w'->∃v,(results fn tmps).run P w'= .ok v w'/\R (.returned v) w')->
  LeavesInM (fen none) kk P fn tmps R (Ds.map fun D=>{ target:= .collected D,args:= #[] }) .returning w
 |[],w,_,_,hK=>hK w (Cw.refl _ _ _ _ _ _)
 |D::Ds,w,hn,hD,hK=>by
  obtain⟨h1,h2⟩:=hD D (wA ..);have hput:Cw T n ρ m B w (w.putObj D (.deferred none)):=Cw.put ⟨_,h2,rfl⟩ h1 (fun _ _ _ h=>by cases h);refine⟨fun h=>(by cases h),.inl ⟨D,_,rfl,run_takeDeferred h2,?_⟩⟩;refine Kk Ds _ (List.nodup_cons.1 hn).2 (fun D' hD'=>?_) fun w' hw'=>hK w' (hput.trans hw');obtain⟨k1,k2⟩:=hD D' (vz _ hD');refine⟨k1,?_⟩;rw[World.putObj_heap_other (fun e=>(List.nodup_cons.1 hn).1 (by rw[<-e];exact hD'))];exact k2
end
theorem NE:∀(args:List AC) (i:Nat) (t:Tr) (j:Nat) (c:AC),(J5 i args t).get j=some c->(∃k,j=i+k/\args[k]? =some c)\/t.get j=some c
 |[],i,t,j,c,h=> .inr h
 |a::args,i,t,j,c,h=>by
  simp only[J5] at h;rcases NE args (i+1) _ j c h with⟨k,h1,h2⟩|h1
  .exact .inl ⟨k+1,by omega,by simpa using h2⟩
  .rcases Tr.get_setF _ _ _ _ _ _ h1 with⟨k1,k2⟩|⟨_,k2⟩
   .exact .inl ⟨0,by omega,by simpa using k2⟩
   .exact .inr k2
def T3 (P:Program)(fn:Func)(k:XK)(a:Act)(w:World)(v:Value)(w':World):Prop:=(k= .ret\/k= .normal)/\w'=w/\(results fn a.tmps).run P w= .ok v w
theorem Sb {fn:Func}:∀o g c m,Hq P fn o g=some (c,m)->Agr T g->∀ ρ a w,True->Rel T g.n ρ o.l a w->∃v w' ρ',T3 P fn o.k a w v w'/\AE T g.n ρ o.l.mem w ρ' m w'/\AD T g.n ρ' m w'/\AA T g.n ρ' m w' c v:=by
 intro o g c m h hA ρ a w _ hR;unfold Hq at h;split at h
 .rename_i hk;simp only[wK] at h;obtain⟨c0,h1,h2⟩:=h;cases h2;obtain⟨v,h3,h4⟩:=V6 hA hR h1;exact⟨v,w, ρ,⟨hk,rfl,h3⟩,AE.refl _ _ _ _ _,hR.mem,h4⟩
 .cases h
theorem O9 {fn:Func}:∀{outs:List As} {g g':G} {c:AC} {m':Mem},CU (Hq P fn) outs g=some (c,m',g')->∀o∈outs,o.k= .ret\/o.k= .normal
 |[],g,g',c,m',h=>by simp only[CU] at h;cases h
 |[o],g,g',c,m',h=>by
  simp only[CU,vq,vn] at h;obtain⟨⟨c0,m0⟩,h,_⟩:=h;intro o' ho;simp at ho;subst ho;unfold Hq at h;split at h
  .rename_i hk;exact hk
  .cases h
 |o::o2::os,g,g',c,m',h=>by
  simp only[CU,vq,vn] at h;obtain⟨⟨c2,m2,g1⟩,h1,⟨c0,m0⟩,h,_⟩:=h;intro o' ho;cases ho with
  |head=>
   unfold Hq at h;split at h
   .rename_i hk;exact hk
   .cases h
  |tail _ ho=>exact O9 (outs:=o2::os) h1 o' ho
theorem fg {call:Ak}{AW:FuncId->C2}{fuel:Nat}(hm:P.follows .mixedOrders=true)(hcall:∀T,CS P T call)(T:Tab):CS P T (dx P call AW fuel):=by
 intro ys k args pc m g c m' g' hys h;unfold dx at h;simp only[vq,vn] at h;obtain⟨fn,hfn,body,hbody,h⟩:=h;split at h
 .cases h
 rename_i hcond;simp only[wU,not_or,Bool.not_eq_true] at hcond;obtain⟨hname,hargs⟩:=hcond;have hal:args.length<=fn.ntmps:=by
  rcases wD fn.ntmps args.length with hlt|hge
  .rw[<-Nat.blt_eq] at hlt;rw[hlt] at hargs;cases hargs
  .exact hge
 simp only[vn] at h;obtain⟨⟨outs,g1⟩,hc,h⟩:=h;simp only at h;generalize hysm:({ ys with mu:=(AW k).mu }:Ys)=ys1 at hc;have hys:CL P T.lp ys1:=by subst hysm;exact hys
 have gr1:=(JT hm hcall (AW k) fuel ys1 T 0 body hys pc _ g outs g1 hc).1;have gr2:=Gg h;refine⟨gr1.trans gr2,fun hA hob hp hpk ρ w vs hvs hmem=>⟨⟨fn,hfn,by rw[hbody];rfl,hname⟩,?_⟩⟩;let T0:=T.atBase w.heap.size;have S0:=Hc T w.heap.size;have hm0:AD T0 g.n ρ m w:=hmem.tab (S0 _);have hvs0:AB T0 g.n ρ m w args vs:=AB.tab (S0 _) (fun b off hh=>(S0 _).safe hmem hh) _ _ hvs;obtain⟨_,k1⟩:=JT hm hcall (AW k) fuel ys1 T0 0 body hys pc _ g outs g1 hc;obtain⟨q1,q2,q3⟩:=k1 (Ls (hA.of gr2)) hpk.lt;refine (callsIn_wide (n:=0)).1 (callsIn_of_wp_marks (F:=fen none) hfn hbody trivial ?_);have hlen:=hvs.length;have hR:Rel T0 g.n ρ ⟨Fm fn.ntmps args,m⟩ { tmps:=(vs:List Value).toArray++Array.replicate (fn.ntmps - (vs:List Value).toArray.size) undef,defers:=[] } w:=by
  refine⟨Co.nil _ _ _ (vr _),?_,fun i c hi=>?_,hm0⟩
  .simp[Fm,hlen];omega
  .have hi':(J5 0 args .nil).get i=some c:=by
    have:(Fm fn.ntmps args).get i=(J5 0 args .nil).get i:=by simp[Fm,AO.get,A6]
    rw[<-this];exact hi
   rcases NE _ _ _ _ _ hi' with⟨j,h1,h2⟩|h1
   .rw[v8] at h1;subst h1;obtain⟨u,h3,h4⟩:=hvs0.get h2;have:((vs:List Value).toArray++Array.replicate (fn.ntmps - (vs:List Value).toArray.size) undef).getD i undef=u:=by
     have hi2:i < vs.length:=(vu.1 h3).1;simp[vy,Array.getElem?_append,hi2];rw[vt hi2] at h3;cases h3;rfl
    rw[this];exact h4
   .simp[Tr.get] at h1
 refine q3 (Pv (hob.of gr2)) (LK.2 hp) ρ _ w _ hR fun o ho hpo ρ' a' w' hs hr=>?_;have hend:LeavesInM (fen none) 0 P fn a'.tmps (Ed T g ρ m w c m' g') a'.defers .returning w':=by
  obtain⟨d0,Ds,d1,d2,d3⟩:=hr.defers;rw[d1];refine Kk (T:=T0) (n:=g1.n) (ρ := ρ') (m:=o.l.mem) (B:=w.heap.size) Ds w' d2 (fun D hD=>⟨(d3 D hD).1,(d3 D hD).2.1⟩) fun w2 hw2=>?_;have hr2:Rel T0 g1.n ρ' o.l { tmps:=a'.tmps,defers:=[] } w2:=⟨Co.nil _ _ _ (by rw[hw2.size];exact d0),hr.size,fun i c hi=>hw2.holds _ _ (hr.tmps i c hi),hw2.mem hr.mem⟩;obtain⟨v,w3, ρ2,⟨_,rfl,e1⟩,e2,e3,e4⟩:=Lk (T:=T0) (I:=fun _=>True) (E:=T3 P fn) (N:=(Fm fn.ntmps args).n) Sb h (Ls hA) q1 o ho hpo ρ' _ w2 trivial hr2;refine⟨v,e1,v, ρ2,rfl,?_,e3.tab (S0 _).symm,AA.tab (S0 _).symm (fun b off hh=>(S0 _).symm.safe e3 hh) _ _ e4⟩;have st:=(hs.after hm0 hw2).trans hm0 gr1.n e2;exact AE.tab (S0 _).symm hm0 st (fun _ _ _ _ _=>rfl)
 rcases O9 h o ho with hk|hk<;>rw[hk]<;>exact hend
theorem Js {ctx:FuncId->Option Ak}{AW:FuncId->C2}{fuel:Nat}(hm:P.follows .mixedOrders=true)(hctx:∀f c,ctx f=some c->∀T,∀ys k args pc m g c' m' g',k=f->CL P T.lp ys->c ys k args pc m g=some (c',m',g')->AR g g'/\(Agr T g'->AY T g'->pcv T pc->A8 T g pc->∀ ρ w vs,AB T g.n ρ m w args vs->AD T g.n ρ m w->
  (∃fn,P.funcs[k]? =some fn/\fn.body.isSome=true/\(fn.name== "runtime.NumGoroutine")=false)/\Calls P k (vs:List Value).toArray w (Ed T g ρ m w c' m' g'))):
  ∀(d:Nat) (T:Tab),CS P T (EQ P ctx AW fuel d)
 |0,T=>fun ys k args pc m g c m' g' _ h=>by simp only[EQ] at h;cases h
 |d+1,T=>by
  intro ys k args pc m g c m' g' hys h;simp only[EQ] at h;cases hcf:ctx k with
  |some cf=>
   rw[hcf] at h;exact hctx k cf hcf T ys k args pc m g c m' g' rfl hys h
  |none=>
   rw[hcf] at h;exact fg hm (Js hm hctx d) T ys k args pc m g c m' g' hys h
end
end
section
open Go Go.RowKit Go.Deep
def IB (P:Program)(sub:TypeId->Option (List Kd)):List Field->Nat->Option (List Kd)
 |[],_=>some []
 |f::fs,off=>do
  let ks<-sub f.type
  if Nat.beq f.offset off&&Nat.beq ks.length (P.cellsOf f.type) then
   let r<-IB P sub fs (off+ks.length)
   some (ks++r)
  else none
def Dz (P:Program):Nat->TypeId->Option (List Kd)
 |0,_=>none
 |d+1,t=>
  match P.underlying t with
  |some .bool=>some [.bool]
  |some (.int k)=>some [.int k k.min k.max]
  |some .string=>some [.str]
  |some (.slice e)=>do
   let ks<-Dz P d e
   if Nat.beq ks.length (P.cellsOf e)&&Nat.blt 0 ks.length then some [.list ks] else none
  |some (.struct fs)=>do
   let ks<-IB P (Dz P d) fs.toList 0
   if Nat.beq ks.length (P.cellsOf t) then some ks else none
  |some (.array n e)=>do
   let ks<-Dz P d e
   if Nat.beq ks.length (P.cellsOf e)&&Nat.beq (n*ks.length) (P.cellsOf t) then some (List.replicate n ks).flatten else none
  |_=>none
inductive Cv {H:Type} (B:Nat):DataW H->Prop where
 |lit {l:Lit} (h:∀s,l= .string s->s.length<=B):Cv B (.lit l)
 |nil:Cv B .nil
 |slice {l s:List (DataW H)} (hl:l.length<=B) (h:∀d∈l,Cv B d):Cv B (.slice l s)
 |agg {l:List (DataW H)} (h:∀d∈l,Cv B d):Cv B (.agg l)
 |ptr (d:DataW H):Cv B (.ptr d)
 |iface (t:String) (d:DataW H):Cv B (.iface t d)
 |map (es:List (Lit × DataW H)):Cv B (.map es)
 |held (h:H):Cv B (.held h)
mutual
def KdU (B:Nat):Kd->U->Prop
 | .int _ lo hi,u=>∃n,u= .int n/\lo<=n/\n<=hi
 | .bool,u=>∃b,u= .bool b
 | .str,u=>∃s,u= .str s/\s.size<=B
 | .val,_=>True
 | .any,_=>True
 | .list ks,u=>∃l:List (List U),u= .list l/\l.length<=B/\∀(i:Nat) (us:List U),l[i]? =some us->AT B ks us
def AT (B:Nat):List Kd->List U->Prop
 |[],us=>us=[]
 |k::ks,us=>∃u us',us=u::us'/\KdU B k u/\AT B ks us'
end
theorem AT.append {B:Nat}:∀{ks ks':List Kd} {us us':List U},AT B ks us->AT B ks' us'->AT B (ks++ks') (us++us')
 |[],_,us,us',h,h'=>by rw[show us=[] from h];exact h'
 |k::ks,_,us,us',⟨u,us1,e,h1,h2⟩,h'=>by
  subst e;exact⟨u,us1++us',rfl,h1,AT.append h2 h'⟩
def Cm (ok:Nat->Nat->Prop)(w:World):List Kd->List U->List Value->Prop
 |[],[],[]=>True
 |k::ks,u::us,c::cs=>AM ok w k u c/\Cm ok w ks us cs
 |_,_,_=>False
section
variable {ok:Nat->Nat->Prop}{w:World}
theorem Cm.len:∀{ks:List Kd} {us:List U} {cs:List Value},Cm ok w ks us cs->us.length=ks.length/\cs.length=ks.length
 |[],[],[],_=>⟨rfl,rfl⟩
 |_::_,_::_,_::_,h=>by
  obtain⟨h1,h2⟩:=Cm.len h.2;simp[h1,h2]
 |[],_::_,_,h=>by cases h
 |[],[],_::_,h=>by cases h
 |_::_,[],_,h=>by cases h
 |_::_,_::_,[],h=>by cases h
theorem Cm.append:∀{ks ks':List Kd} {us us':List U} {cs cs':List Value},Cm ok w ks us cs->Cm ok w ks' us' cs'->Cm ok w (ks++ks') (us++us') (cs++cs')
 |[],_,[],_,[],_,_,h=>h
 |_::_,_,_::_,_,_::_,_,h,h'=>⟨h.1,Cm.append h.2 h'⟩
 |[],_,_::_,_,_,_,h,_=>by cases h
 |[],_,[],_,_::_,_,h,_=>by cases h
 |_::_,_,[],_,_,_,h,_=>by cases h
 |_::_,_,_::_,_,[],_,h,_=>by cases h
theorem Cm.mem {b:Nat}:∀{ks:List Kd} {us:List U} {cs:List Value} {off:Nat},Cm ok w ks us cs->(∀j c,cs[j]? =some c->ok b (off+j)/\w.cell? ⟨b,off+j,none⟩=some c)->AX ok w ks b off us
 |[],[],[],_,_,_=>rfl
 |k::ks,u::us,c::cs,off,h,hm=>by
  obtain⟨m1,m2⟩:=hm 0 c rfl;refine⟨u,us,rfl,⟨m1,c,m2,h.1⟩,Cm.mem h.2 fun j d hd=>?_⟩;have:=hm (j+1) d (by simpa using hd);rw[show off+(j+1)=off+1+j by omega] at this;exact this
 |[],_::_,_,_,h,_=>by cases h
 |[],[],_::_,_,h,_=>by cases h
 |_::_,[],_,_,h,_=>by cases h
 |_::_,_::_,[],_,h,_=>by cases h
end
theorem QV {w:World}{base n:Nat}{a:Addr}{cs:List Value}(h:w.cells? base a n=some cs):cs.length=n/\∀j,j < n->w.cell? (a.add j)=cs[j]? :=by
 unfold World.cells? at h;split at h
 .obtain⟨h1,h2⟩:=Dl _ _ _ h;rw[List.length_range] at h1;refine⟨h1,fun j hj=>?_⟩;have:=h2 j j (by simp[hj]);exact this.symm
 .cases h
section
variable {H:Type}{enc:TypeId × Value->H}{P:Program}{w:World}{base:Nat}{spare:Nat->Bool}{held:Bool}{B:Nat}
theorem CD (hB:B<=AF):∀(d:Nat) {t:TypeId} {ks:List Kd} {fuel:Nat} {cs:List Value} {x:DataW H × List MemPlace},Dz P d t=some ks->DataW.trod enc P w base spare held fuel t cs=some x->Cv B x.1->
  ∃us,Cm (fun b _=>b < w.heap.size) w ks us cs/\AT B ks us
 |0,t,ks,fuel,cs,x,hk,_,_=>by simp[Dz] at hk
 |d+1,t,ks,fuel,cs,x,hk,h,hs=>by
  simp only[Dz] at hk;split at hk
  .rename_i ht;obtain⟨b,rfl,rfl⟩:=DataW.trod_bool ht h;cases hk;exact⟨[.bool b],⟨⟨b,rfl,rfl⟩,trivial⟩,_,_,rfl,⟨b,rfl⟩,rfl⟩
  .rename_i k ht;obtain⟨n,rfl,rfl,hwf⟩:=DataW.trod_int ht h;cases hk;have hb:k.min<=n/\n<=k.max:=by simpa [Lit.wf] using hwf
   exact⟨[.int n],⟨⟨n,rfl,rfl,hb⟩,trivial⟩,_,_,rfl,⟨n,rfl,hb⟩,rfl⟩
  .rename_i ht;obtain⟨s,rfl,rfl,_⟩:=DataW.trod_string ht h;cases hk;cases hs with
   |lit hs=>
   have hb:=hs _ rfl;have hb2:s.size<=B:=by simpa using hb
   exact⟨[.str s],⟨⟨s,rfl,rfl,wI hb2 hB⟩,trivial⟩,_,_,rfl,⟨s,rfl,hb2⟩,rfl⟩
  .
   rename_i e ht;simp only[vq,vn] at hk;obtain⟨ke,he,hk⟩:=hk;split at hk
   .rename_i hc;rw[vo] at hc;have hlen:=vp hc.1;have hpos:=Au hc.2;cases hk;rcases open_slice ht h with⟨rfl,rfl⟩|⟨a,len,cap,m,n,D,Pl,rfl,_,hle,_,hm,rfl,hel⟩
    .exact⟨[.list []],⟨⟨[],rfl,wX _,fun _=>rfl,none,0,rfl,vr _,fun h=>absurd h (by simp)⟩,trivial⟩,_,_,rfl,⟨[],rfl,wX _,fun i us hi=>by simp at hi⟩,rfl⟩
    .have hmlen:len<=m:=by rw[hm];split<;>omega
     cases hs with
     |slice hl hsh=>
     have each:∀i,i < len->∃us,∃cs',w.cells? base (a.add (i*P.cellsOf e)) (P.cellsOf e)=some cs'/\Cm (fun b _=>b < w.heap.size) w ke us cs'/\AT B ke us:=fun i hi=>by
      obtain⟨cs',h1,h2⟩:=hel i (by omega);obtain⟨us,hus⟩:=CD hB d he h2 (hsh _ (List.mem_map.2 ⟨i,by simp[hi],rfl⟩));exact⟨us,cs',h1,hus⟩
     have pick:∃f:Nat->List U,∀i,i < len->∃cs',w.cells? base (a.add (i*P.cellsOf e)) (P.cellsOf e)=some cs'/\Cm (fun b _=>b < w.heap.size) w ke (f i) cs'/\AT B ke (f i):=by
      classical
      refine⟨fun i=>if hi:i < len then (each i hi).choose else [],fun i hi=>?_⟩;simp only[hi,dif_pos];exact (each i hi).choose_spec
     obtain⟨f,hf⟩:=pick;refine⟨[.list ((List.range len).map f)],⟨⟨(List.range len).map f,rfl,by simp at hl⊢;omega,fun h0=>?_,some a,cap,by simp,by simpa using hle,fun h0=>?_⟩,trivial⟩,_,_,rfl,⟨_,rfl,by simpa using hl,fun i us hi=>?_⟩,rfl⟩
     .rw[h0] at hpos;simp at hpos
     .have h0:0 < len:=by simpa using h0
      have hspot:a.spot=none:=by
       obtain⟨cs',h1,_⟩:=hf 0 h0;obtain⟨k1,k2⟩:=QV h1;have hc0:=k2 0 (by omega);rw[vt (by omega)] at hc0;simp only[Nat.zero_mul,Addr.add,if_true] at hc0;unfold World.cell? at hc0;split at hc0
       .split at hc0
        .cases hc0
        .rename_i hsp;simpa using hsp
       .cases hc0
      obtain⟨ab,ao,asp⟩:=a;simp only at hspot;subst hspot;have haddr:∀i j,((⟨ab,ao,none⟩:Addr).add i).add j=⟨ab,ao+i+j,none⟩:=fun i j=>by
       unfold Addr.add;split<;>split<;>simp_all
      refine⟨ab,ao,rfl,fun i us hi=>?_⟩;rw[wW,wK] at hi;obtain⟨i',hi',rfl⟩:=hi;obtain⟨hlt,rfl⟩:=vu.1 hi';simp only[List.getElem_range];have hil:i < len:=by simpa using hlt
      obtain⟨cs',h1,h2,_⟩:=hf i hil;obtain⟨k1,k2⟩:=QV h1;refine Cm.mem h2 fun j c hj=>?_;have hjl:j < cs'.length:=(vu.1 hj).1;have hc:=k2 j (by omega);rw[hj,haddr,<-hlen] at hc;refine⟨?_,hc⟩;unfold World.cell? at hc;split at hc
      .rename_i hb;exact (vx.1 hb).1
      .cases hc
     .rw[wW,wK] at hi;obtain⟨i',hi',rfl⟩:=hi;obtain⟨hlt,rfl⟩:=vu.1 hi';simp only[List.getElem_range];obtain⟨_,_,_,h3⟩:=hf i (by simpa using hlt);exact h3
   .cases hk
  .
   rename_i fs ht;simp only[vq,vn] at hk;obtain⟨ks',hf,hk⟩:=hk;split at hk
   .rename_i hc;have hlen:=vp hc;cases hk;obtain⟨xs,n,rfl,rfl,hcs,hxl,hxs⟩:=DataW.trod_struct ht h;cases hs with
    |agg hsh=>
    have key:∀(l:List Field) (off i:Nat) (ks:List Kd),IB P (Dz P d) l off=some ks->(∀j f,l[j]? =some f->fs[i+j]? =some f)->off+ks.length<=cs.length->∃us,Cm (fun b _=>b < w.heap.size) w ks us ((cs.drop off).take ks.length)/\AT B ks us:=by
     intro l;induction l with
     |nil=>intro off i ks hk _ _;simp only[IB] at hk;cases hk;exact⟨[],by simp[Cm],rfl⟩
     |cons f l ih=>
      intro off i ks hk hl hle;simp only[IB,vq,vn] at hk;obtain⟨kf,hkf,hk⟩:=hk;split at hk
      .rename_i hc;rw[vo] at hc;have e1:=vp hc.1;have e2:=vp hc.2;simp only[vn] at hk;obtain⟨kr,hkr,hk⟩:=hk;cases hk;rw[wC] at hle;have hfi:=hl 0 f rfl;have hil:i < xs.length:=by rw[hxl];exact (vx.1 (by simpa using hfi)).1
       have hx:=hxs i f (by simpa using hfi);rw[vt hil] at hx;obtain⟨us1,hus1⟩:=CD hB d hkf hx (hsh _ (List.mem_map.2 ⟨_,List.getElem_mem hil,rfl⟩));obtain⟨us2,hus2⟩:=ih (off+kf.length) (i+1) kr hkr (fun j g hg=>by have:=hl (j+1) g (by simpa using hg);rw[show i+(j+1)=i+1+j by omega] at this;exact this) (by omega);refine⟨us1++us2,?_,hus1.2.append hus2.2⟩;have:=hus1.1.append hus2.1;rw[e1,<-e2] at this;have e3:(cs.drop off).take (kf++kr).length=(cs.drop off).take kf.length++(cs.drop (off+kf.length)).take kr.length:=by
        rw[wC,List.take_add,List.drop_drop]
       rw[e3];exact this
      .cases hk
    obtain⟨us,hus⟩:=key fs.toList 0 0 ks hf (fun j f hj=>by simpa using hj) (by omega);refine⟨us,?_,hus.2⟩;have:(cs.drop 0).take ks.length=cs:=by rw[List.drop_zero,List.take_of_length_le (by omega)]
    rw[this] at hus;exact hus.1
   .cases hk
  .
   rename_i n e ht;simp only[vq,vn] at hk;obtain⟨ke,he,hk⟩:=hk;split at hk
   .rename_i hc;rw[vo] at hc;have hlen:=vp hc.1;have htot:=vp hc.2;cases hk;obtain⟨xs,m,rfl,rfl,hcs,hxl,hxs⟩:=DataW.trod_array ht h;cases hs with
    |agg hsh=>
    have key:∀(j i:Nat),i+j<=n->∃us,Cm (fun b _=>b < w.heap.size) w (List.replicate j ke).flatten us ((cs.drop (i*ke.length)).take (j*ke.length))/\AT B (List.replicate j ke).flatten us:=by
     intro j;induction j with
     |zero=>intro i _;exact⟨[],by simp[Cm],rfl⟩
     |succ j ih=>
      intro i hi;have hx:=hxs i (by omega);rw[vt (by omega)] at hx;obtain⟨us1,hus1⟩:=CD hB d he hx (hsh _ (List.mem_map.2 ⟨_,List.getElem_mem (by omega),rfl⟩));obtain⟨us2,hus2⟩:=ih (i+1) (by omega);rw[List.replicate_succ,List.flatten_cons];refine⟨us1++us2,?_,hus1.2.append hus2.2⟩;have:=hus1.1.append hus2.1;rw[<-hlen] at this;have e3:(cs.drop (i*ke.length)).take ((j+1)*ke.length)=(cs.drop (i*ke.length)).take ke.length++(cs.drop ((i+1)*ke.length)).take (j*ke.length):=by
       rw[show (j+1)*ke.length=ke.length+j*ke.length by rw[Nat.succ_mul];omega,List.take_add,List.drop_drop,show (i+1)*ke.length=i*ke.length+ke.length by rw[Nat.succ_mul]]
      rw[e3];exact this
    obtain⟨us,hus⟩:=key n 0 (by omega);refine⟨us,?_,hus.2⟩;have:(cs.drop (0*ke.length)).take (n*ke.length)=cs:=by rw[Nat.zero_mul,List.drop_zero,List.take_of_length_le (by omega)]
    rw[this] at hus;exact hus.1
   .cases hk
  .cases hk
end
end
end Go.Eng
end
