/-
  A part of the proof: the evaluator of code and its soundness.
-/
import Derived.Test.YtmlmcidljiibaaaE3
import Derived.Carry
import Derived.ChangeSame
set_option linter.unusedVariables false
set_option linter.unusedSimpArgs false
noncomputable section
namespace Go.Eng
open Go Go.RowKit
theorem Tz {ren:List (Nat × Nat)}{ma:Mem}:∀{r:List (Nat × Nat)} {m:Mem} {prs:List (Nat × Rf)} {ps:List Pr},Gx ren ma r m=some (prs,ps)→
  r.length=m.length∧∀(i j id:Nat) (b:Blk),r[i]? =some (j,id)→m[i]? =some b→∃p q,OH ren b (ma.at id)=some (p,q)∧(∀x∈p,x∈prs)∧∀x∈q,x∈ps
 |[],[],prs,ps,h=>⟨rfl,fun i j id b hi=>by simp at hi⟩
 |(j0,id0)::r,b0::m,prs,ps,h=>by
  simp only[Gx] at h
  obtain⟨p1,q1,p2,q2,h1,h2,rfl,rfl⟩:=J6 h
  obtain⟨k1,k2⟩:=Tz h2
  refine⟨by simp[k1],fun i j id b hi hb=>?_⟩
  cases i with
  |zero=>
   simp at hi hb
   obtain⟨rfl,rfl⟩:=hi
   subst hb
   exact⟨p1,q1,h1,fun x hx=>List.mem_append_left _ hx,fun x hx=>List.mem_append_left _ hx⟩
  |succ i=>
   obtain⟨p,q,z1,z2,z3⟩:=k2 i j id b (by simpa using hi) (by simpa using hb)
   exact⟨p,q,z1,fun x hx=>List.mem_append_right _ (z2 x hx),fun x hx=>List.mem_append_right _ (z3 x hx)⟩
 |[],_::_,_,_,h=>by simp[Gx] at h
 |_::_,[],_,_,h=>by simp[Gx] at h
theorem HD (B:Nat→Blk→Blk):∀(ren:List (Nat × Nat)) (m:Mem),(DM B ren m).length=m.length
 |[],_=>rfl
 |(j,id)::r,m=>by simp[DM,HD B r m]
theorem PJ (B:Nat→Blk→Blk):∀(ren:List (Nat × Nat)) (m:Mem),(ren.map (·.2)).Nodup→(∀p∈ren,p.2 < m.length)→∀id,(∀j,(j,id)∈ren→(DM B ren m).at id=B j (m.at id))∧((∀j,(j,id) ∉ ren)→(DM B ren m).at id=m.at id)
 |[],m,_,_,id=>⟨(fun j h=>by cases h),fun _=>rfl⟩
 |(j0,id0)::r,m,hn,hl,id=>by
  simp only[List.map_cons,List.nodup_cons] at hn
  obtain⟨k1,k2⟩:=PJ B r m hn.2 (fun p hp=>hl p (List.mem_cons_of_mem _ hp)) id
  have hid0:id0 < (DM B r m).length:=by rw[HD];exact hl (j0,id0) (List.mem_cons_self ..)
  have hat:Mem.at ((DM B r m).set id0 (B j0 (m.at id0))) id=if id=id0 then B j0 (m.at id0) else (DM B r m).at id:=by
   unfold Mem.at
   rw[List.getElem?_set]
   by_cases h:id0=id
   ·subst h;simp[hid0]
   ·rw[if_neg h,if_neg (fun e=>h e.symm)]
  have e:DM B ((j0,id0)::r) m=(DM B r m).set id0 (B j0 (m.at id0)):=rfl
  rw[e,hat]
  refine⟨fun j hj=>?_,fun hno=>?_⟩
  ·cases hj with
   |head=>rw[if_pos rfl]
   |tail _ hj=>
    have hne:id≠id0:=fun h=>hn.1 (List.mem_map.2 ⟨_,hj,h⟩)
    rw[if_neg hne];exact k1 j hj
  ·have hne:id≠id0:=fun h=>hno j0 (by rw[h];exact List.mem_cons_self ..)
   rw[if_neg hne]
   exact k2 fun j hj=>hno j (List.mem_cons_of_mem _ hj)
theorem Tj:∀(bs:List (List Kd × TypeId)) (x j:Nat),j < bs.length→∃l e,(Ju x bs).at j= .cells l e
 |[],_,j,h=>by simp at h
 |(ks,e)::r,x,0,_=>⟨_,_,rfl⟩
 |(ks,e)::r,x,j+1,h=>by
  have:=Tj r (x+ks.length) j (by simpa using h)
  simpa [Ju,Mem.at] using this
theorem NQ:∀(bs:List (List Kd × TypeId)) (x:Nat),(Ju x bs).length=bs.length
 |[],_=>rfl
 |_::r,x=>by simp[Ju,NQ r]
structure VG (T T2:Tab) (n gn gn':Nat) (ren:List (Nat × Nat)) (nt na:Nat) (ρ2 ρ':Nat→Option Nat) (m2 mo:Mem) (w':World) (rs:List Rf):Prop where
 old:∀x r,rs[x]? =some r→T2 x=r.eval T∧Om gn' r
 new:∀x,n≤x→∀k,x < n+k→gn+k=gn'→gn+(x - n) < gn'∧T (gn+(x - n))=T2 x
 safe:∀b off,Ai T2 ρ2 m2 w' b off→Ai T ρ' mo w' b off
 ptr:∀j l e id,m2.at j= .cells l e→TS ren nt na j=some id→ ρ' id= ρ2 j∧(mo.at id).ptrOk=true
section
variable {T T2:Tab}{n k gn gn' nt na:Nat}{ren:List (Nat × Nat)}{ρ2 ρ':Nat→Option Nat}{m2 mo:Mem}{w':World}{rs:List Rf}
mutual
theorem aQ (B:VG T T2 n gn gn' ren nt na ρ2 ρ' m2 mo w' rs)(hk:gn+k=gn'):∀(h:AC) (v:Value),AB T2 (n+k) ρ2 m2 w' h v→AB T gn' ρ' mo w' (up1 n gn ren nt na m2 rs h) v
 | .i kk lo hi x,v,⟨h0,i,h1,h2,h3⟩=>by
  simp only[up1]
  split
  ·rename_i hx
   obtain⟨z1,z2⟩:=B.new x (Nat.le_of_ble_eq_true hx) k h0 hk
   exact⟨z1,i,by rw[z2];exact h1,h2,h3⟩
  ·split
   ·rename_i y hy
    obtain⟨z1,z2⟩:=B.old x _ hy
    exact⟨z2,i,by rw[←h1,z1];rfl,h2,h3⟩
   ·rw[h2];rfl
 | .b x,v,⟨h0,i,h1,h2⟩=>by
  simp only[up1]
  split
  ·rename_i hx
   obtain⟨z1,z2⟩:=B.new x (Nat.le_of_ble_eq_true hx) k h0 hk
   exact⟨z1,i,by rw[z2];exact h1,h2⟩
  ·split
   ·rename_i y hy
    obtain⟨z1,z2⟩:=B.old x _ hy
    exact⟨z2,i,by rw[←h1,z1];rfl,h2⟩
   ·rw[h2];rfl
 | .v x,v,⟨h0,h1,h2⟩=>by
  simp only[up1]
  split
  ·rename_i hx
   obtain⟨z1,z2⟩:=B.new x (Nat.le_of_ble_eq_true hx) k h0 hk
   exact⟨z1,by rw[z2];exact h1,h2⟩
  ·split
   ·rename_i y hy
    obtain⟨z1,z2⟩:=B.old x _ hy
    exact⟨z2,by rw[←h1,z1];rfl,h2⟩
   ·exact h2
 | .s x,v,⟨h0,i,h1,h2⟩=>by
  simp only[up1]
  split
  ·rename_i hx
   obtain⟨z1,z2⟩:=B.new x (Nat.le_of_ble_eq_true hx) k h0 hk
   exact⟨z1,i,by rw[z2];exact h1,h2⟩
  ·split
   ·rename_i y hy
    obtain⟨z1,z2⟩:=B.old x _ hy
    exact⟨z2,i,by rw[←h1,z1];rfl,h2⟩
   ·rw[h2.1];rfl
 | .ro x ks,v,⟨h0,h1⟩=>by
  simp only[up1]
  split
  ·rename_i hx
   obtain⟨z1,z2⟩:=B.new x (Nat.le_of_ble_eq_true hx) k h0 hk
   exact⟨z1,by rw[z2];exact AR.mono (fun b off h=>⟨B.safe b off h,rfl⟩) _ _ _ h1⟩
  ·split
   ·rename_i y hy
    obtain⟨z1,z2⟩:=B.old x _ hy
    exact⟨z2,by rw[show T y=T2 x by rw[z1];rfl];exact AR.mono (fun b off h=>⟨B.safe b off h,rfl⟩) _ _ _ h1⟩
   ·exact h1.one
 | .vec id x ks,v,⟨h0,_,h1,_⟩=>by
  simp only[up1]
  split
  ·rename_i hx
   obtain⟨z1,z2⟩:=B.new x (Nat.le_of_ble_eq_true hx) k h0 hk
   exact⟨z1,by rw[z2];exact AR.mono (fun b off h=>⟨B.safe b off h,rfl⟩) _ _ _ h1⟩
  ·split
   ·rename_i y hy
    obtain⟨z1,z2⟩:=B.old x _ hy
    exact⟨z2,by rw[show T y=T2 x by rw[z1];rfl];exact AR.mono (fun b off h=>⟨B.safe b off h,rfl⟩) _ _ _ h1⟩
   ·exact h1.one
 | .ptr j off,v,⟨b,h1,h2,h3⟩=>by
  simp only[up1]
  split
  ·rename_i l e id hj hr
   obtain⟨z1,z2⟩:=B.ptr j l e id hj hr
   exact⟨b,by rw[z1];exact h1,h2,z2⟩
  ·rw[h2];rfl
 | .cb b,v,h=>h
 | .ci kk i,v,h=>h
 | .cv c,v,h=>h
 | .agg l,v,⟨vs,h1,h2⟩=>⟨vs,h1,T8 B hk l vs h2⟩
 | .tup l,v,⟨vs,h1,h2⟩=>⟨vs,h1,T8 B hk l vs h2⟩
 | .any,_,_=>trivial
 | .anyc,_,_=>trivial
 | .on _ _,_,_=>trivial
 | .gd _ _,_,_=>trivial
 | .nb _,_,_=>trivial
 | .pix ..,_,_=>trivial
 | .rp ..,_,_=>trivial
 | .fn ..,_,_=>trivial
 | .sel ..,_,_=>trivial
 | .yl _,_,_=>trivial
 | .asl ..,_,_=>trivial
 | .rsv ..,_,_=>trivial
 | .mr ..,_,_=>trivial
 | .mp ..,_,_=>trivial
 | .mv _,_,_=>trivial
theorem T8 (B:VG T T2 n gn gn' ren nt na ρ2 ρ' m2 mo w' rs)(hk:gn+k=gn'):∀(l:List AC) (vs:List Value),AD T2 (n+k) ρ2 m2 w' l vs→AD T gn' ρ' mo w' (upL n gn ren nt na m2 rs l) vs
 |[],_,h=>h
 |c::l,vs,⟨u,us,h1,h2,h3⟩=>⟨u,us,h1,aQ B hk c u h2,T8 B hk l us h3⟩
end
end
end Go.Eng
end
noncomputable section
namespace Go.Eng
open Go Go.RowKit
theorem Sk {ren:List (Nat × Nat)}{ma:Mem}:∀{r:List (Nat × Nat)} {m:Mem} {prs:List (Nat × Rf)} {ps:List Pr},Gx ren ma r m=some (prs,ps)→
  ∀x∈prs,∃(i j id:Nat) (b:Blk) (p:List (Nat × Rf)) (q:List Pr),r[i]? =some (j,id)∧m[i]? =some b∧OH ren b (ma.at id)=some (p,q)∧x∈p
 |[],[],prs,ps,h,x,hx=>by simp only[Gx] at h;cases h;cases hx
 |(j0,id0)::r,b0::m,prs,ps,h,x,hx=>by
  simp only[Gx] at h
  obtain⟨p1,q1,p2,q2,h1,h2,rfl,rfl⟩:=J6 h
  rcases List.mem_append.1 hx with hx|hx
  ·exact⟨0,j0,id0,b0,p1,q1,rfl,rfl,h1,hx⟩
  ·obtain⟨i,j,id,b,p,q,z1,z2,z3,z4⟩:=Sk h2 x hx
   exact⟨i+1,j,id,b,p,q,by simpa using z1,by simpa using z2,z3,z4⟩
 |[],_::_,_,_,h,_,_=>by simp[Gx] at h
 |_::_,[],_,_,h,_,_=>by simp[Gx] at h
theorem ij {T2:Tab}{n n':Nat}{ρ2 ρ2':Nat→Option Nat}{m m':Mem}{w w':World}(hr:∀id,(m.at id).ptrOk=true→ ρ2' id= ρ2 id){h:AC}{u u':Value}(hd:det h=true)(h1:AB T2 n ρ2 m w h u)(h2:AB T2 n' ρ2' m' w' h u'):u'=u:=by
 cases h<;>simp only[det] at hd<;>try (cases hd;done)
 case cb b=>rw[show u=_ from h1,show u'=_ from h2]
 case b x=>
  obtain⟨_,b,e1,e2⟩:=h1
  obtain⟨_,b',e3,e4⟩:=h2
  rw[e1] at e3;cases e3
  rw[e2,e4]
 case ci k i=>rw[show u=_ from h1,show u'=_ from h2]
 case i k lo hi x=>
  obtain⟨_,b,e1,e2,_⟩:=h1
  obtain⟨_,b',e3,e4,_⟩:=h2
  rw[e1] at e3;cases e3
  rw[e2,e4]
 case cv c=>rw[show u=_ from h1,show u'=_ from h2]
 case v x=>
  obtain⟨_,e1,_⟩:=h1
  obtain⟨_,e3,_⟩:=h2
  rw[e1] at e3;injection e3 with e3;exact e3.symm
 case s x=>
  obtain⟨_,b,e1,e2⟩:=h1
  obtain⟨_,b',e3,e4⟩:=h2
  rw[e1] at e3;cases e3
  rw[e2.1,e4.1]
 case ptr id off=>
  obtain⟨b,e1,e2,e3⟩:=h1
  obtain⟨b',e4,e5,_⟩:=h2
  rw[hr id e3,e1] at e4
  cases e4
  rw[e2,e5]
theorem Qg {T T2:Tab}{n n' gn gn':Nat}{ρ ρ2 ρ2' ρ':Nat→Option Nat}{ma mt m2 mo:Mem}{w w':World}{up:AC→AC}(hst:AJ T gn ρ ma w ρ' mo w')(hn:gn≤gn')(hr:∀id,(mt.at id).ptrOk=true→ ρ2' id= ρ2 id)
  (hup:∀h v,AB T2 n' ρ2' m2 w' h v→AB T gn' ρ' mo w' (up h) v):∀{l0 l l':List AC} {vs vs':List Value},l0.length=l.length→l.length=l'.length→AD T2 n ρ2 mt w l0 vs→AD T gn ρ ma w l vs→AD T2 n' ρ2' m2 w' l' vs'→AD T gn' ρ' mo w' (Q9 up l0 l l') vs'
 |[],[],[],vs,vs',_,_,_,_,h=>h
 |h0::l0,c::l,h::l',vs,vs',e1,e2,⟨u0,us0,f0,a1,a2⟩,⟨u1,us1,f,b1,b2⟩,⟨u,us,f3,c1,c2⟩=>by
  subst f0;subst f3
  injection f with f1 f2
  subst f1;subst f2
  refine⟨u,us,rfl,?_,Qg hst hn hr hup (by simpa using e1) (by simpa using e2) a2 b2 c2⟩
  split
  ·rename_i hc
   rw[Bool.and_eq_true] at hc
   have e:=AC.beq_eq _ _ hc.2
   subst e
   rw[ij hr hc.1 a1 c1]
   exact AB.mono0 hst hn _ _ b1
  ·exact hup _ _ c1
 |[],_::_,_,_,_,e,_,_,_,_=>by simp at e
 |_::_,[],_,_,_,e,_,_,_,_=>by simp at e
 |[],[],_::_,_,_,_,e,_,_,_=>by simp at e
 |_::_,_::_,[],_,_,_,e,_,_,_=>by simp at e
theorem bt {T T2:Tab}{n' gn':Nat}{ρ2' ρ':Nat→Option Nat}{m2 mo:Mem}{w':World}{up:AC→AC}(hup:∀h v,AB T2 n' ρ2' m2 w' h v→AB T gn' ρ' mo w' (up h) v):∀{l:List AC} {vs:List Value},AD T2 n' ρ2' m2 w' l vs→AD T gn' ρ' mo w' (l.map up) vs
 |[],_,h=>h
 |c::l,vs,⟨u,us,e,h1,h2⟩=>⟨u,us,e,hup _ _ h1,bt hup h2⟩
theorem jM (a b:Mem)(id:Nat):Mem.at (a++b) id=if id < a.length then a.at id else b.at (id - a.length):=by
 unfold Mem.at
 rw[List.getElem?_append]
 split<;>rfl
theorem ia (m:Mem)(nt i:Nat)(f:Blk→Blk):Mem.at ((m.drop nt).map f) i=if nt+i < m.length then f (m.at (nt+i)) else .pad:=by
 unfold Mem.at
 rw[List.getElem?_map,List.getElem?_drop]
 by_cases h:nt+i < m.length
 ·rw[if_pos h,List.getElem?_eq_getElem h];rfl
 ·rw[if_neg h,List.getElem?_eq_none (by omega)];rfl
theorem az {P:Program}{f:FuncId}{t:Ak}(ht:Ao P f t):∀(T:Tab) (ys:Ys) (args:List AC) (pc:PC) (ma:Mem) (g:G) (c':AC) (mo:Mem) (g':G),Un t ys f args pc ma g=some (c',mo,g')→
  AP g g'∧(Agr T g'→An T g'→pcv T pc→BJ T g pc→∀ ρ w vs,AD T g.n ρ ma w args vs→AH T g.n ρ ma w→
   (∃fn,P.funcs[f]? =some fn∧fn.body.isSome=true∧(fn.name== "runtime.NumGoroutine")=false)∧Calls P f (vs:List Value).toArray w (KV T g ρ ma w c' mo g')):=by
 intro T ys args pc ma g c' mo g' hap
 obtain⟨lp0,ht⟩:=ht
 unfold Un at hap
 simp only at hap
 generalize hren:S9 t.args args=ren at hap
 split at hap
 ·rename_i hc
  simp only[Bool.and_eq_true] at hc
  obtain⟨⟨⟨hc1,hc2⟩,hc3⟩,hc4⟩:=hc
  split at hap
  ·rename_i prs ps hb
   split at hap
   ·rename_i hc5
    have hfst:=Lk hc5
    simp only[Option.some.injEq,Prod.mk.injEq] at hap
    obtain⟨e1,e2,e3⟩:=hap
    generalize hrs:prs.map (·.2)=rs at e1 e2 e3
    obtain⟨p1,q1,p2,q2,hb1,hb2,hp12,hq12⟩:=J6 hb
    generalize hg1:g.needAll pc (ps++t.pre.map fun x=>(⟨x.1,x.2,rs⟩:Pr))=g1 at e3
    have n1:g1.n=g.n:=by rw[←hg1];exact (DT _ _ _).1
    have gr1:AP g g1:=by rw[←hg1];exact AP.need _ _ _
    have gr2:AP g1 g':=by rw[←e3];exact AP.push _ _
    refine⟨gr1.trans gr2,fun hA hob hpc hpk ρ w vs hvs hm=>?_⟩
    have hgn':g.n+t.outs.length=g'.n:=by rw[←e3,BY,n1];simp
    have hnew:New T g1.n (t.outs.map fun x=>(⟨x.1,x.2,rs⟩:Ex)):=by rw[←e3] at hA;exact hA.new
    have hps:∀p∈ps++t.pre.map fun x=>(⟨x.1,x.2,rs⟩:Pr),p.holds T:=by
     have:=hob.of gr2
     rw[←hg1] at this
     exact An.need this hpc
    have hplen:prs.length=t.n:=by have:=congrArg List.length hfst;simpa using this
    have hrl:rs.length=t.n:=by rw[←hrs];simpa using hplen
    have hprs:∀p∈prs,p.1 < t.n∧rs[p.1]? =some p.2:=fun p hp=>by
     obtain⟨i,hi⟩:=List.mem_iff_getElem?.1 hp
     have h1:(prs.map (·.1))[i]? =some p.1:=by simp[hi]
     rw[hfst] at h1
     obtain⟨h2,h3⟩:=List.getElem?_eq_some_iff.1 h1
     simp at h2 h3
     subst h3
     exact⟨h2,by rw[←hrs];simp[hi]⟩
    let us:=rs.map (Rf.eval T)
    have husl:us.length=t.n:=by simp[us,hrl]
    let T2:Tab:=⟨fun x=>(t.us us).getD x default,fun b off=>w.heap.size≤b∨Ai T ρ ma w b off,lp0,0⟩
    have hT2:∀j u,(t.us us)[j]? =some u→T2 j=u:=fun j u hj=>by
     show (t.us us).getD j default=u
     simp[List.getD,hj]
    have hT2o:∀x r,rs[x]? =some r→T2 x=r.eval T:=fun x r hx=>hT2 x _ (by
     unfold Ak.us
     have hxl:=(List.getElem?_eq_some_iff.1 hx).1
     rw[List.getElem?_append_left (by omega)]
     simp[us,hx])
    have hT2n:∀i,i < t.outs.length→T2 (t.n+i)=T (g.n+i):=fun i hi=>by
     have h1:=hT2 (t.n+i) (t.outs[i].2 us) (by
      unfold Ak.us
      rw[List.getElem?_append_right (by omega),husl]
      simp[hi])
     have h2:=hnew i ⟨t.outs[i].1,t.outs[i].2,rs⟩ (by simp[hi])
     rw[n1] at h2
     rw[h1,h2]
     rfl
    have hfr:=Lk hc1
    have hnd:=M5 hc2
    have hnd1:(ren.map (·.1)).Nodup:=by rw[hfr];exact List.nodup_range
    have hlt:∀p∈ren,p.2 < ma.length:=fun p hp=>Be (List.all_eq_true.1 hc3 p hp)
    have hix:∀j id,(j,id)∈ren→ren[j]? =some (j,id)∧j < t.m.length:=fun j id hj=>by
     obtain⟨i,hi⟩:=List.mem_iff_getElem?.1 hj
     have h1:(ren.map (·.1))[i]? =some j:=by simp[hi]
     rw[hfr] at h1
     obtain⟨h2,h3⟩:=List.getElem?_eq_some_iff.1 h1
     simp at h2 h3
     subst h3
     exact⟨hi,h2⟩
    have hall:∀j,j < t.m.length→∃id,(j,id)∈ren:=fun j hj=>by
     have:j∈ren.map (·.1):=by rw[hfr];simpa using hj
     obtain⟨p,hp,e⟩:=List.mem_map.1 this
     exact⟨p.2,by rw[←e];exact hp⟩
    obtain⟨_,hbat⟩:=Tz hb2
    have hblk:∀j id,(j,id)∈ren→∃l l' e p q,t.m.at j= .cells l e∧ma.at id= .cells l' e∧HY ren l l'=some (p,q)∧(∀x∈p,x∈prs)∧∀x∈q,x∈ps:=fun j id hj=>by
     obtain⟨h1,h2⟩:=hix j id hj
     obtain⟨l,e,hl⟩:=Tj t.blks (EE t.sh).length j (by have:=NQ t.blks (EE t.sh).length;unfold Ak.m at h2;omega)
     have hl':t.m.at j= .cells l e:=hl
     have hget:t.m[j]? =some (.cells l e):=by
      rw[←hl']
      simp[Mem.at,List.getElem?_eq_getElem h2]
     obtain⟨p,q,h3,h4,h5⟩:=hbat j j id _ h1 hget
     cases hx:ma.at id with
     |cells l' e'=>
      rw[hx] at h3
      simp only[OH] at h3
      split at h3
      ·rename_i he
       rw[←Nat.eq_of_beq_eq_true he]
       exact⟨l,l',e,p,q,hl',rfl,h3,fun x hx=>by rw[hp12];exact List.mem_append_right _ (h4 x hx),fun x hx=>by rw[hq12];exact List.mem_append_right _ (h5 x hx)⟩
      ·cases h3
     |_=>rw[hx] at h3;simp[OH] at h3
    let ρ2:Nat→Option Nat:=fun j=>(Fu ren j).bind ρ
    have hρ2:∀j id,(j,id)∈ren→ ρ2 j= ρ id:=fun j id hj=>by
     show (Fu ren j).bind ρ = ρ id
     rw[dg hnd1 hj];rfl
    have htm:∀j,(t.m.at j).tracked=true→∃id,(j,id)∈ren:=fun j hj=>by
     refine hall j ?_
     rcases Nat.lt_or_ge j t.m.length with h|h
     ·exact h
     ·rw[Mem.at_ge h] at hj;cases hj
    have M:YL T T2 ρ ρ2 ma t.m w ren:=by
     refine⟨fun b off hs=>⟨hs.1,.inr hs,fun j=>?_⟩,fun j id hj=>?_⟩
     ·by_cases hj:j < t.m.length
      ·obtain⟨id,hid⟩:=hall j hj
       obtain⟨l,l',e,_,_,z1,z2,_⟩:=hblk j id hid
       rw[z1]
       have:=hs.2.2 id
       rw[z2] at this
       show ρ2 j≠some b
       rw[hρ2 j id hid]
       exact this
      ·rw[Mem.at_ge (by omega)];trivial
     ·have hmem:=Nb hj
      obtain⟨l,l',e,_,_,z1,_⟩:=hblk j id hmem
      exact⟨hρ2 j id hmem,by rw[z1];rfl⟩
    have hvals:∀p∈prs,p.1 < t.n∧T2 p.1=p.2.eval T:=fun p hp=>⟨(hprs p hp).1,hT2o _ _ (hprs p hp).2⟩
    have hps1:∀p∈ps,p.holds T:=fun p hp=>hps p (List.mem_append_left _ hp)
    obtain⟨hargs2,hlt1⟩:=JF (n:=t.n) M t.args args hb1 (fun p hp=>hvals p (by rw[hp12];exact List.mem_append_left _ hp)) (fun p hp=>hps1 p (by rw[hq12];exact List.mem_append_left _ hp)) hvs
    have hcell:∀j id,(j,id)∈ren→∃l l' e b vs0,t.m.at j= .cells l e∧ma.at id= .cells l' e∧ ρ id=some b∧w.heap[b]? =some (.cells (vs0:List Value).toArray e (0,0))∧AD T g.n ρ ma w l' vs0∧AD T2 t.n ρ2 t.m w l vs0:=fun j id hj=>by
     obtain⟨l,l',e,p,q,z1,z2,z3,z4,z5⟩:=hblk j id hj
     have:=hm.blk id
     rw[z2] at this
     obtain⟨b,vs0,y1,y2,y3⟩:=this
     exact⟨l,l',e,b,vs0,z1,z2,y1,y2,y3,(JF (n:=t.n) M l l' z3 (fun x hx=>hvals x (z4 x hx)) (fun x hx=>hps1 x (z5 x hx)) y3).1⟩
    have hrlt:∀p∈prs,Om g.n p.2:=fun p hp=>by
     rw[hp12] at hp
     rcases List.mem_append.1 hp with h|h
     ·exact hlt1 p h
     ·obtain⟨i,j,id,b,pp,qq,z1,z2,z3,z4⟩:=Sk hb2 p h
      have hj:(j,id)∈ren:=List.mem_iff_getElem?.2 ⟨i,z1⟩
      obtain⟨w1,w2⟩:=hix j id hj
      obtain⟨l,l',e,pb,qb,y1,y2,y3,y4,y5⟩:=hblk j id hj
      have hij:i=j:=by
       have h1:(ren.map (·.1))[i]? =some j:=by simp[z1]
       rw[hfr] at h1
       obtain⟨_,h3⟩:=List.getElem?_eq_some_iff.1 h1
       simpa using h3
      subst hij
      have hbe:b= .cells l e:=by
       have:t.m.at i=b:=by simp[Mem.at,z2]
       rw[←this,y1]
      rw[hbe,y2] at z3
      simp only[OH,(DI e e).2 rfl,if_true] at z3
      rw[y3] at z3
      cases z3
      have:=hm.blk id
      rw[y2] at this
      obtain⟨bb,vs0,_,_,x3⟩:=this
      exact (JF (n:=t.n) M l l' y3 (fun x hx=>hvals x (y4 x hx)) (fun x hx=>hps1 x (y5 x hx)) x3).2 p z4
    have hmem2:AH T2 t.n ρ2 t.m w:=by
     refine⟨fun j=>?_,fun j j' b h1 h2 h3 h4=>?_,fun b off hb=> .inl hb⟩
     ·by_cases hj:j < t.m.length
      ·obtain⟨id,hid⟩:=hall j hj
       obtain⟨l,l',e,b,vs0,z1,z2,z3,z4,z5,z6⟩:=hcell j id hid
       rw[z1]
       exact⟨b,vs0,by rw[hρ2 j id hid];exact z3,z4,z6⟩
      ·rw[Mem.at_ge (by omega)];trivial
     ·obtain⟨id,hid⟩:=htm j h1
      obtain⟨id',hid'⟩:=htm j' h2
      rw[hρ2 j id hid] at h3
      rw[hρ2 j' id' hid'] at h4
      obtain⟨_,_,_,_,_,_,z2,_⟩:=hcell j id hid
      obtain⟨_,_,_,_,_,_,z2',_⟩:=hcell j' id' hid'
      have e:=hm.inj id id' b (by rw[z2];rfl) (by rw[z2'];rfl) h3 h4
      subst e
      obtain⟨i1,k1⟩:=List.mem_iff_getElem?.1 hid
      obtain⟨i2,k2⟩:=List.mem_iff_getElem?.1 hid'
      have a1:(ren.map (·.2))[i1]? =some id:=by simp[k1]
      have a2:(ren.map (·.2))[i2]? =some id:=by simp[k2]
      have:=(List.getElem?_inj (List.getElem?_eq_some_iff.1 a1).1 hnd).1 (a1.trans a2.symm)
      subst this
      rw[k1] at k2
      cases k2
      rfl
    have hpre:∀p∈t.pre,p.2 us:=fun p hp=>hps ⟨p.1,p.2,rs⟩ (List.mem_append_right _ (List.mem_map.2 ⟨p,hp,rfl⟩))
    obtain⟨hfn,hcalls⟩:=ht T2 us rfl husl hT2 hpre ρ2 w vs hargs2 hmem2
    refine⟨hfn,hcalls.mono fun ee w' hh=>?_⟩
    obtain⟨v, ρ2',rfl,S2,M2,H2⟩:=hh
    have hnt:t.m.length≤t.m'.length:=Nat.le_of_ble_eq_true hc4
    have hr2:∀j,(t.m.at j).ptrOk=true→ ρ2' j= ρ2 j:=fun j hj=>(S2.rho j hj).1
    let ρ':Nat→Option Nat:=fun id=>if id < ma.length then ρ id else ρ2' (t.m.length+(id - ma.length))
    have hρlt:∀id,id < ma.length→ ρ' id= ρ id:=fun id h=>if_pos h
    have hρge:∀id,ma.length≤id→ ρ' id= ρ2' (t.m.length+(id - ma.length)):=fun id h=>if_neg (by omega)
    obtain hup:∃up,up=up1 t.n g.n ren t.m.length ma.length t.m' rs:=⟨_,rfl⟩
    obtain⟨up,hup⟩:=hup
    rw[←hup] at e1 e2
    have hlen:=HD (fun j b=>L4 up (t.m.at j) b (t.m'.at j)) ren ma
    have hput:=fun id=>PJ (fun j b=>L4 up (t.m.at j) b (t.m'.at j)) ren ma hnd hlt id
    have hmo:∀id,mo.at id=if id < ma.length then Mem.at (DM (fun j b=>L4 up (t.m.at j) b (t.m'.at j)) ren ma) id else if t.m.length+(id - ma.length) < t.m'.length then T9 up (t.m'.at (t.m.length+(id - ma.length))) else .pad:=fun id=>by
     rw[←e2,jM,hlen,ia]
    have touch:∀j id,(j,id)∈ren→mo.at id=L4 up (t.m.at j) (ma.at id) (t.m'.at j):=fun j id hj=>by
     rw[hmo,if_pos (hlt _ hj)]
     exact (hput id).1 j hj
    have keep:∀id,id < ma.length→(∀j,(j,id) ∉ ren)→mo.at id=ma.at id:=fun id h hno=>by
     rw[hmo,if_pos h]
     exact (hput id).2 hno
    have fresh:∀id,ma.length≤id→mo.at id=if t.m.length+(id - ma.length) < t.m'.length then T9 up (t.m'.at (t.m.length+(id - ma.length))) else .pad:=fun id h=>by
     rw[hmo,if_neg (by omega)]
    have upB:∀j id,(j,id)∈ren→(∃l e,mo.at id= .cells l e)∨mo.at id= .gone:=fun j id hj=>by
     obtain⟨l,l',e,b,vs0,z1,z2,_⟩:=hcell j id hj
     rw[touch j id hj,z1,z2]
     cases t.m'.at j with
     |cells l3 e3=>
      simp only[L4]
      split
      ·exact .inl ⟨_,_,rfl⟩
      ·exact .inr rfl
     |_=>exact .inr rfl
    have newB:∀id,ma.length≤id→(mo.at id).tracked=true→∃l e,t.m'.at (t.m.length+(id - ma.length))= .cells l e∧mo.at id= .cells (l.map up) e:=fun id h htr=>by
     rw[fresh id h] at htr⊢
     split at htr
     ·rename_i hx
      rw[if_pos hx]
      cases hy:t.m'.at (t.m.length+(id - ma.length)) with
      |cells l e=>exact⟨l,e,rfl,rfl⟩
      |_=>rw[hy] at htr;cases htr
     ·cases htr
    have newGe:∀id b,ma.length≤id→(mo.at id).tracked=true→ ρ' id=some b→w.heap.size≤b:=fun id b h htr hb=>by
     obtain⟨l,e,h1,_⟩:=newB id h htr
     rw[hρge id h] at hb
     exact S2.fresh _ b (Mem.at_ge (by omega)) (by rw[h1];rfl) hb
    have trOld:∀id,id < ma.length→(mo.at id).tracked=true→(ma.at id).tracked=true:=fun id h htr=>by
     by_cases hex:∃j,(j,id)∈ren
     ·obtain⟨j,hj⟩:=hex
      obtain⟨l,l',e,b,vs0,z1,z2,_⟩:=hcell j id hj
      rw[z2];rfl
     ·rw[keep id h (fun j hj=>hex ⟨j,hj⟩)] at htr;exact htr
    have unt2:∀k,(∀id,(ma.at id).tracked=true→ ρ id≠some k)→∀j,(t.m.at j).tracked=true→ ρ2 j≠some k:=fun k hno j hj=>by
     obtain⟨id,hid⟩:=htm j hj
     obtain⟨l,l',e,b,vs0,z1,z2,_⟩:=hcell j id hid
     rw[hρ2 j id hid]
     exact hno id (by rw[z2];rfl)
    have keepHeap:∀id b,(ma.at id).tracked=true→(∀j,(j,id) ∉ ren)→ ρ id=some b→w'.heap[b]? =w.heap[b]? :=fun id b htr hno hb=>by
     refine S2.old b (hm.lt htr hb) fun j hj he=>?_
     obtain⟨id',hid'⟩:=htm j hj
     obtain⟨l,l',e,b',vs0,z1,z2,_⟩:=hcell j id' hid'
     rw[hρ2 j id' hid'] at he
     have:=hm.inj id id' b htr (by rw[z2];rfl) hb he
     subst this
     exact hno j hid'
    have idlt:∀id,ma.at id≠ .pad→id < ma.length:=fun id h=>by
     rcases Nat.lt_or_ge id ma.length with hh|hh
     ·exact hh
     ·exact absurd (Mem.at_ge hh) h
    have hst:AJ T g.n ρ ma w ρ' mo w':={
     os:=S2.os
     tape:=S2.tape
     output:=S2.output
     size:=S2.size
     mlen:=fun id h=>by
      by_cases hex:∃j,(j,id)∈ren
      ·obtain⟨j,hj⟩:=hex
       rcases upB j id hj with⟨l,e,h1⟩|h1<;>rw[h1]<;>exact fun h=>by cases h
      ·rw[keep id (idlt id h) (fun j hj=>hex ⟨j,hj⟩)];exact h
     rho:=fun id h=>by
      have hil:=idlt id (BV h)
      refine⟨hρlt id hil,?_⟩
      by_cases hex:∃j,(j,id)∈ren
      ·obtain⟨j,hj⟩:=hex
       rcases upB j id hj with⟨l,e,h1⟩|h1<;>rw[h1]<;>rfl
      ·rw[keep id hil (fun j hj=>hex ⟨j,hj⟩)];exact h
     untr:=fun id h htr=>trOld id (idlt id h) htr
     fresh:=fun id b h htr hb=>by
      rcases Nat.lt_or_ge id ma.length with hil|hil
      ·have:=trOld id hil htr
       rw[h] at this;cases this
      ·exact newGe id b hil htr hb
     old:=fun k hk hno=>S2.old k hk (unt2 k hno)
     tok:=fun id x ks e hx=>by
      have hil:=idlt id (by rw[hx];exact fun h=>by cases h)
      have hno:∀j,(j,id) ∉ ren:=fun j hj=>by
       obtain⟨l,l',e,b,vs0,z1,z2,_⟩:=hcell j id hj
       rw[hx] at z2;cases z2
      exact .inl ⟨by rw[keep id hil hno];exact hx,hρlt id hil,fun b hb=>keepHeap id b (by rw[hx];rfl) hno hb⟩
     row:=fun id x y ks e hx=>by
      have hil:=idlt id (by rw[hx];exact fun h=>by cases h)
      have hno:∀j,(j,id) ∉ ren:=fun j hj=>by
       obtain⟨l,l',e,b,vs0,z1,z2,_⟩:=hcell j id hj
       rw[hx] at z2;cases z2
      exact .inr ⟨x,y,ks,by rw[keep id hil hno];exact hx,rfl,.inl ⟨rfl,hρlt id hil,fun b vs hb hv=>⟨vs,by rw[keepHeap id b (by rw[hx];rfl) hno hb];exact hv,rfl⟩⟩⟩ }
    have hgle:g.n≤g'.n:=by omega
    have B:VG T T2 t.n g.n g'.n ren t.m.length ma.length ρ2' ρ' t.m' mo w' rs:=by
     refine⟨fun x r hx=>⟨hT2o x r hx,?_⟩,fun x hx k hxk hkk=>?_,fun b off hs=>?_,fun j l e id hj hr=>?_⟩
     ·rw[←hrs,List.getElem?_map,Option.map_eq_some_iff] at hx
      obtain⟨p,hp,rfl⟩:=hx
      have:=hrlt p (List.mem_iff_getElem?.2 ⟨x,hp⟩)
      revert this
      cases p.2 with
      |c u=>exact fun _=>trivial
      |e y=>exact fun h=>Nat.lt_of_lt_of_le h hgle
      |n y=>exact fun h=>Nat.lt_of_lt_of_le h hgle
     ·have hkk':k=t.outs.length:=by omega
      have:=hT2n (x - t.n) (by omega)
      rw[show t.n+(x - t.n)=x by omega] at this
      exact⟨by omega,this.symm⟩
     ·obtain⟨s1,s2,s3⟩:=hs
      have s2':w.heap.size≤b∨Ai T ρ ma w b off:=s2
      refine⟨s1,?_,fun id=>?_⟩
      ·rcases s2' with h|h
       ·exact hm.fr b off h
       ·exact h.2.1
      ·rcases Nat.lt_or_ge id ma.length with hil|hil
       ·have base:match ma.at id with| .pad| .gone=>True| .cells _ _| .lp _ _| .mrow _ _ _ _| .mapb _ _ _ _ _=> ρ id≠some b| .tok x ks _=> ρ id=some b→off < B4 T x ks:=by
         rcases s2' with h|h
         ·have no:(ma.at id).tracked=true→ ρ id≠some b:=fun htr he=>by have:=hm.lt htr he;omega
          cases hx:ma.at id with
          |pad=>trivial
          |gone=>trivial
          |cells=>exact no (by rw[hx];rfl)
          |lp=>exact no (by rw[hx];rfl)
          |mrow=>exact no (by rw[hx];rfl)
          |mapb=>exact no (by rw[hx];rfl)
          |tok=>exact fun he=>absurd he (no (by rw[hx];rfl))
         ·exact h.2.2 id
        by_cases hex:∃j,(j,id)∈ren
        ·obtain⟨j,hj⟩:=hex
         obtain⟨l,l',e,b',vs0,z1,z2,_⟩:=hcell j id hj
         rw[z2] at base
         rcases upB j id hj with⟨l3,e3,h1⟩|h1
         ·rw[h1];show ρ' id≠some b;rw[hρlt id hil];exact base
         ·rw[h1];trivial
        ·rw[keep id hil (fun j hj=>hex ⟨j,hj⟩),hρlt id hil]
         exact base
       ·by_cases htr:(mo.at id).tracked=true
        ·obtain⟨l,e,h1,h2⟩:=newB id hil htr
         have:=s3 (t.m.length+(id - ma.length))
         rw[h1] at this
         rw[h2]
         show ρ' id≠some b
         rw[hρge id hil]
         exact this
        ·cases hx:mo.at id with
         |pad=>trivial
         |gone=>trivial
         |cells=>rw[hx] at htr;exact absurd rfl htr
         |lp=>rw[hx] at htr;exact absurd rfl htr
         |tok=>rw[hx] at htr;exact absurd rfl htr
         |mrow=>rw[hx] at htr;exact absurd rfl htr
         |mapb=>rw[hx] at htr;exact absurd rfl htr
     ·unfold TS at hr
      split at hr
      ·have hmem:=Nb hr
       obtain⟨l0,l',e0,b',vs0,z1,z2,_⟩:=hcell j id hmem
       have hil:=hlt _ hmem
       refine⟨by rw[hρlt id hil,hr2 j (by rw[z1];rfl),hρ2 j id hmem],?_⟩
       rcases upB j id hmem with⟨l3,e3,h1⟩|h1<;>rw[h1]<;>rfl
      ·rename_i hge
       cases hr
       have hge':t.m.length≤j:=by
        rcases Nat.lt_or_ge j t.m.length with h|h
        ·exact absurd (by rw[Nat.blt_eq];exact h) hge
        ·exact h
       have hj':t.m.length+(ma.length+(j - t.m.length) - ma.length)=j:=by omega
       refine⟨by rw[hρge _ (by omega),hj'],?_⟩
       rw[fresh _ (by omega),hj']
       have hjl:j < t.m'.length:=by
        rcases Nat.lt_or_ge j t.m'.length with h|h
        ·exact h
        ·rw[Mem.at_ge h] at hj;cases hj
       rw[if_pos hjl,hj]
       rfl
    have hupok:∀h v,AB T2 (t.n+t.outs.length) ρ2' t.m' w' h v→AB T g'.n ρ' mo w' (up h) v:=fun h v hh=>by
     rw[hup]
     exact aQ B hgn' h v hh
    refine⟨v, ρ',rfl,hst,⟨fun id=>?_,fun id id' b t1 t2 h1 h2=>?_,fun b off hb=>hm.fr b off (Nat.le_trans S2.size hb)⟩,by rw[←e1];exact hupok _ _ H2⟩
    ·rcases Nat.lt_or_ge id ma.length with hil|hil
     ·by_cases hex:∃j,(j,id)∈ren
      ·obtain⟨j,hj⟩:=hex
       obtain⟨l,l',e,b,vs0,z1,z2,z3,z4,z5,z6⟩:=hcell j id hj
       rw[touch j id hj,z1,z2]
       have hb2:=M2.blk j
       cases hx:t.m'.at j with
       |cells l3 e3=>
        simp only[L4]
        split
        ·rename_i hcc
         simp only[Bool.and_eq_true] at hcc
         obtain⟨⟨c1,c2⟩,c3⟩:=hcc
         rw[hx] at hb2
         obtain⟨b2,vs2,y1,y2,y3⟩:=hb2
         have hbb:b2=b:=by
          rw[hr2 j (by rw[z1];rfl),hρ2 j id hj,z3] at y1
          injection y1 with y1;exact y1.symm
         rw[←Nat.eq_of_beq_eq_true c3] at y2
         rw[hbb] at y2
         exact⟨b,vs2,by rw[hρlt id hil];exact z3,y2,Qg hst hgle hr2 hupok (Nat.eq_of_beq_eq_true c1) (Nat.eq_of_beq_eq_true c2) z6 z5 y3⟩
        ·trivial
       |_=>trivial
      ·have hno:∀j,(j,id) ∉ ren:=fun j hj=>hex ⟨j,hj⟩
       by_cases htr:(ma.at id).tracked=true
       ·exact BU.step hst hm hgle (keep id hil hno) (hρlt id hil) (fun b hb=>keepHeap id b htr hno hb)
       ·rw[keep id hil hno]
        cases hx:ma.at id with
        |pad=>trivial
        |gone=>trivial
        |cells=>rw[hx] at htr;exact absurd rfl htr
        |lp=>rw[hx] at htr;exact absurd rfl htr
        |tok=>rw[hx] at htr;exact absurd rfl htr
        |mrow=>rw[hx] at htr;exact absurd rfl htr
        |mapb=>rw[hx] at htr;exact absurd rfl htr
     ·by_cases htr:(mo.at id).tracked=true
      ·obtain⟨l,e,h1,h2⟩:=newB id hil htr
       have hb2:=M2.blk (t.m.length+(id - ma.length))
       rw[h1] at hb2
       obtain⟨b2,vs2,y1,y2,y3⟩:=hb2
       rw[h2]
       exact⟨b2,vs2,by rw[hρge id hil];exact y1,y2,bt hupok y3⟩
      ·cases hx:mo.at id with
       |pad=>trivial
       |gone=>trivial
       |cells=>rw[hx] at htr;exact absurd rfl htr
       |lp=>rw[hx] at htr;exact absurd rfl htr
       |tok=>rw[hx] at htr;exact absurd rfl htr
       |mrow=>rw[hx] at htr;exact absurd rfl htr
       |mapb=>rw[hx] at htr;exact absurd rfl htr
    ·rcases Nat.lt_or_ge id ma.length with hil|hil
     ·rcases Nat.lt_or_ge id' ma.length with hil'|hil'
      ·rw[hρlt id hil] at h1
       rw[hρlt id' hil'] at h2
       exact hm.inj id id' b (trOld id hil t1) (trOld id' hil' t2) h1 h2
      ·have:=newGe id' b hil' t2 h2
       rw[hρlt id hil] at h1
       have:=hm.lt (trOld id hil t1) h1
       omega
     ·rcases Nat.lt_or_ge id' ma.length with hil'|hil'
      ·have:=newGe id b hil t1 h1
       rw[hρlt id' hil'] at h2
       have:=hm.lt (trOld id' hil' t2) h2
       omega
      ·obtain⟨l,e,k1,_⟩:=newB id hil t1
       obtain⟨l',e',k2,_⟩:=newB id' hil' t2
       rw[hρge id hil] at h1
       rw[hρge id' hil'] at h2
       have:=M2.inj _ _ b (by rw[k1];rfl) (by rw[k2];rfl) h1 h2
       omega
   ·cases hap
  ·cases hap
 ·cases hap
end Go.Eng
end
noncomputable section
namespace Go.Eng
open Go Go.RowKit
mutual
theorem aX {ok:Nat→Nat→Prop}{w:World}:∀(k:Kd) {u:U} {v:Value},AR ok w k u v→KdU BF k u
 | .int _ _ _,_,_,⟨n,h1,_,h3⟩=>⟨n,h1,h3⟩
 | .bool,_,_,⟨b,h1,_⟩=>⟨b,h1⟩
 | .str,_,_,⟨s,h1,_,h2⟩=>⟨s,h1,h2⟩
 | .val,_,_,_=>trivial
 | .any,_,_,_=>trivial
 | .list ks,_,_,⟨l,h0,h1,h2,a,cap,_,_,h5⟩=>by
  refine⟨l,h0,h1,fun i us hi=>?_⟩
  have hl:0 < l.length:=by have:=(List.getElem?_eq_some_iff.1 hi).1;omega
  obtain⟨b,o,_,hc⟩:=h5 hl
  exact XX ks (hc i us hi)
theorem XX {ok:Nat→Nat→Prop}{w:World}:∀(ks:List Kd) {b off:Nat} {us:List U},AW ok w ks b off us→CO BF ks us
 |[],_,_,_,h=>h
 |k::ks,_,_,_,⟨u,us',e,⟨_,v,_,h3⟩,h4⟩=>⟨u,us',e,aX k h3,XX ks h4⟩
end
section
variable {T:Tab}{n:Nat}{ρ :Nat→Option Nat}{m:Mem}{w:World}
theorem Zl {k:Kd}{x:Nat}{v:Value}(h:AB T n ρ m w (ND k x) v):KdU BF k (T x):=by
 cases k with
 |int k lo hi=>obtain⟨_,i,h1,_,h3⟩:=h;exact⟨i,h1,h3⟩
 |bool=>obtain⟨_,b,h1,_⟩:=h;exact⟨b,h1⟩
 |str=>obtain⟨_,s,h1,_,h2⟩:=h;exact⟨s,h1,h2⟩
 |val=>trivial
 |any=>trivial
 |list ks=>exact aX (.list ks) h.2
def TY (ks:List Kd)(us:List U):Prop:=∀(j:Nat) (k:Kd) (u:U),ks[j]? =some k→us[j]? =some u→KdU BF k u
theorem Qw:∀{ks:List Kd} {x:Nat} {cs:List Value},AD T n ρ m w (OI x ks) cs→∀(j:Nat) (k:Kd),ks[j]? =some k→KdU BF k (T (x+j))
 |[],_,_,_,j,k,hj=>by simp at hj
 |k0::ks,x,cs,⟨u,us,_,h1,h2⟩,j,k,hj=>by
  cases j with
  |zero=>simp at hj;subst hj;exact Zl h1
  |succ j=>
   have:=Qw h2 j k (by simpa using hj)
   rw[show x+(j+1)=x+1+j by omega]
   exact this
theorem Lj:∀{sh:List TG} {x:Nat} {vs:List Value},AD T n ρ m w (NR x sh) vs→∀(j:Nat) (k:Kd),(EE sh)[j]? =some k→KdU BF k (T (x+j))
 |[],_,_,_,j,k,hj=>by simp[EE] at hj
 | .one k0::r,x,vs,⟨u,us,_,h1,h2⟩,j,k,hj=>by
  simp only[EE] at hj
  cases j with
  |zero=>simp at hj;subst hj;exact Zl h1
  |succ j=>
   have:=Lj h2 j k (by simpa using hj)
   rw[show x+(j+1)=x+1+j by omega]
   exact this
 | .agg ks::r,x,vs,⟨u,us,_,h1,h2⟩,j,k,hj=>by
  simp only[EE] at hj
  rw[List.getElem?_append] at hj
  split at hj
  ·obtain⟨cs,_,h3⟩:=h1
   exact Qw h3 j k hj
  ·rename_i hge
   have:=Lj h2 (j - ks.length) k hj
   rw[show x+ks.length+(j - ks.length)=x+j by omega] at this
   exact this
 | .ptr j0 off::r,x,vs,⟨u,us,_,h1,h2⟩,j,k,hj=>Lj h2 j k hj
theorem XJ:∀{bs:List (List Kd × TypeId)} {x i0:Nat},(∀i,i < bs.length→BU T n ρ m w (i0+i) ((Ju x bs).at i))→∀(j:Nat) (k:Kd),(M9 bs)[j]? =some k→KdU BF k (T (x+j))
 |[],_,_,_,j,k,hj=>by simp[M9] at hj
 |(ks,e)::r,x,i0,hb,j,k,hj=>by
  have e1:M9 ((ks,e)::r)=ks++M9 r:=rfl
  rw[e1,List.getElem?_append] at hj
  split at hj
  ·obtain⟨b,vs,_,_,h3⟩:=hb 0 (by simp)
   exact Qw h3 j k hj
  ·rename_i hge
   have:=XJ (bs:=r) (x:=x+ks.length) (i0:=i0+1) (fun i hi=>by
    have:=hb (i+1) (by simpa using hi)
    rw[show i0+(i+1)=i0+1+i by omega] at this
    simpa [Ju,Mem.at] using this) (j - ks.length) k hj
   rw[show x+ks.length+(j - ks.length)=x+j by omega] at this
   exact this
end
def Ps (nh nm:Nat)(rs:List Rf)(mh m:Mem)(h c:AC):Option (List Pr):=
 match h,c with
 | .agg l,.agg l'=>JW nh nm rs mh m l l'
 |h,c=>JI nh nm rs mh m h c
def Ip (nh nm:Nat)(rs:List Rf)(mh m:Mem):List AC→List AC→Option (List Pr)
 |[],[]=>some []
 |h::l,c::l'=>L7 (Ps nh nm rs mh m h c) (Ip nh nm rs mh m l l')
 |_,_=>none
def Tv (nh nm:Nat)(rs:List Rf)(mh m:Mem)(h c:AC):Option (List Pr):=
 match h,c with
 | .tup l,.tup l'=>Ip nh nm rs mh m l l'
 |h,c=>Ps nh nm rs mh m h c
section
variable {T1 T2:Tab}{ρ :Nat→Option Nat}{m mh:Mem}{w:World}{nh n1 n2:Nat}{rs:List Rf}
theorem Ry (M:HT T1 T2 ρ m mh w nh mh.length)(hn:nh≤n2)(H:Eb T1 T2 nh n2 rs)(S:Db T1 T2 nh mh m){h c:AC}{ps:List Pr}(hm:Ps nh mh.length rs mh m h c=some ps)(hps:∀p∈ps,p.holds T1){v:Value}
  (hv:AB T1 n1 ρ m w c v):AB T2 n2 ρ mh w h v:=by
 unfold Ps at hm
 split at hm
 ·obtain⟨vs,e,h1⟩:=hv
  exact⟨vs,e,NP M hn H S hm hps vs h1⟩
 ·exact Je hm M hn H S hps hv
theorem QZ (M:HT T1 T2 ρ m mh w nh mh.length)(hn:nh≤n2)(H:Eb T1 T2 nh n2 rs)(S:Db T1 T2 nh mh m):∀{l l':List AC} {ps:List Pr},Ip nh mh.length rs mh m l l'=some ps→(∀p∈ps,p.holds T1)→
  ∀vs,AD T1 n1 ρ m w l' vs→AD T2 n2 ρ mh w l vs
 |[],[],ps,_,_,vs,h=>h
 |[],_::_,ps,h,_,_,_=>by simp[Ip] at h
 |_::_,[],ps,h,_,_,_=>by simp[Ip] at h
 |a::l,c::l',ps,h,hps,vs,⟨u,us,h1,h2,h3⟩=>by
  simp only[Ip] at h
  obtain⟨ps1,ps2,e1,e2,rfl⟩:=Eo h
  exact⟨u,us,h1,Ry M hn H S e1 (fun p hp=>hps p (List.mem_append_left _ hp)) h2,QZ M hn H S e2 (fun p hp=>hps p (List.mem_append_right _ hp)) us h3⟩
theorem bz (M:HT T1 T2 ρ m mh w nh mh.length)(hn:nh≤n2)(H:Eb T1 T2 nh n2 rs)(S:Db T1 T2 nh mh m){h c:AC}{ps:List Pr}(hm:Tv nh mh.length rs mh m h c=some ps)(hps:∀p∈ps,p.holds T1){v:Value}
  (hv:AB T1 n1 ρ m w c v):AB T2 n2 ρ mh w h v:=by
 unfold Tv at hm
 split at hm
 ·obtain⟨vs,e,h1⟩:=hv
  exact⟨vs,e,QZ M hn H S hm hps vs h1⟩
 ·exact Ry M hn H S hm hps hv
end
def U4 (t:Ak)(rs:List Rf)(c0:AC)(m0:Mem)(g0:G):Option (List Pr):=
 if QT t.n g0&&Nat.beq rs.length t.outs.length&&Nat.ble t.m.length t.m'.length then
  L7 (JQ [] t.n t.m'.length rs t.m' m0 t.m' m0) (Tv t.n t.m'.length rs t.m' m0 t.c c0)
 else none
theorem gf {P:Program}{f:FuncId}{t:Ak}(hm:P.follows .mixedOrders=true){ctx:FuncId→Option A8}{Ag:FuncId→G4}{fuel depth:Nat}(hctx:∀f c,ctx f=some c→∀T,∀ys k args pc m g c' m' g',k=f→CN P T.lp ys→c ys k args pc m g=some (c',m',g')→AP g g'∧(Agr T g'→An T g'→pcv T pc→BJ T g pc→∀ ρ w vs,AD T g.n ρ m w args vs→AH T g.n ρ m w→
   (∃fn,P.funcs[k]? =some fn∧fn.body.isSome=true∧(fn.name== "runtime.NumGoroutine")=false)∧Calls P k (vs:List Value).toArray w (KV T g ρ m w c' m' g')))
  {c0:AC} {m0:Mem} {g0:G} {rs:List Rf} {ps:List Pr} (hrun:Hw P ctx Ag fuel depth Ys.none f t.args none t.m { n:=t.n,eqs:=[],obs:=[] }=some (c0,m0,g0)) (hok:U4 t rs c0 m0 g0=some ps)
  (hne:∀id,id < t.m.length→t.m'.at id≠ .pad)
  (hplain:∀(T:Tab) (us:List U),us.length=t.n→TY t.ks us→(∀p∈t.pre,p.2 us)→(∀j u,us[j]? =some u→T j=u)→(∀p∈g0.eqs,T p.1=p.2.eval T)→An T g0∧(∀p∈ps,p.holds T)∧rs.map (Rf.eval T)=t.outs.map fun o=>o.2 us):Ao P f t:=by
 refine⟨fun s=>(E7 g0.lps s).getD YB,fun T us hlp hul hT hpre ρ w vs hvs hmem=>?_⟩
 unfold U4 at hok
 split at hok
 ·rename_i hc
  simp only[Bool.and_eq_true] at hc
  obtain⟨⟨hc1,hc2⟩,hc3⟩:=hc
  obtain⟨ps1,ps2,hm1,hm2,rfl⟩:=Eo hok
  unfold QT at hc1
  rw[Bool.and_eq_true] at hc1
  have hrl:=Nat.eq_of_beq_eq_true hc2
  obtain⟨r1,r2,r3⟩:=IU g0.eqs T
  have hout:=(DR (T:=T) hc1.1).2.2
  have hlt:∀x,x < t.n→BW T g0.eqs x=T x:=fun x hx=>hout x (.inl hx)
  have hlow:∀j u,us[j]? =some u→T j=u:=fun j u hj=>hT j u (by unfold Ak.us;rw[List.getElem?_append_left (List.getElem?_eq_some_iff.1 hj).1];exact hj)
  have S:Ec T (BW T g0.eqs) t.n:=⟨hlt,r1,r2⟩
  have hA:Agr (BW T g0.eqs) g0:=⟨fun p hp=>IE (fv:=[]) (nh:=0) (fun x hx=>by cases hx) (Nat.zero_le _) hc1.1 p hp,fun p hp=>by
   rw[r2,hlp]
   show (E7 g0.lps p.1).getD YB=p.2
   rw[Mg hc1.2 p hp];rfl⟩
  have hin:TY t.ks us:=fun j k u hk hu=>by
   have hTj:=hlow j u hu
   rw[←hTj]
   unfold Ak.ks at hk
   rw[List.getElem?_append] at hk
   split at hk
   ·have:=Lj hvs j k hk
    rw[Nat.zero_add] at this;exact this
   ·rename_i hge
    have:=XJ (bs:=t.blks) (x:=(EE t.sh).length) (i0:=0) (fun i hi=>by rw[Nat.zero_add];exact hmem.blk i) (j - (EE t.sh).length) k hk
    rw[show (EE t.sh).length+(j - (EE t.sh).length)=j by omega] at this
    exact this
  obtain⟨hob,hps,hrs⟩:=hplain (BW T g0.eqs) us hul hin hpre (fun j u hj=>by
   have:=(List.getElem?_eq_some_iff.1 hj).1
   rw[hlt j (by omega)];exact hlow j u hj) hA.eqs
  obtain⟨_,hsound⟩:=M7 (Ag:=Ag) (fuel:=fuel) hm hctx depth (BW T g0.eqs) Ys.none f t.args none t.m _ c0 m0 g0 (fun T' _ s y hy=>by cases hy) hrun
  have hm':=hmem.tab S
  obtain⟨hfn,hcalls⟩:=hsound hA hob trivial trivial ρ w vs (AD.tab S (fun b off h=>S.safe hmem h) _ _ hvs) hm'
  refine⟨hfn,hcalls.mono fun e w' hh=>?_⟩
  obtain⟨v, ρ',rfl,q1,q2,q3⟩:=hh
  have H:Eb (BW T g0.eqs) T t.n (t.n+t.outs.length) rs:=fun j r hj=>by
   have hjl:=(List.getElem?_eq_some_iff.1 hj).1
   refine⟨by omega,?_⟩
   have h1:(rs.map (Rf.eval (BW T g0.eqs)))[j]? =some (r.eval (BW T g0.eqs)):=by simp[hj]
   rw[hrs] at h1
   exact hT (t.n+j) _ (by
    unfold Ak.us
    rw[List.getElem?_append_right (by omega),hul,show t.n+j - t.n=j by omega]
    exact h1)
  obtain⟨Sh,hpad⟩:=MY (T1:=BW T g0.eqs) (T2:=T) hm1 H
  have heq:∀x,x < t.n→T x=BW T g0.eqs x:=fun x hx=>(hlt x hx).symm
  have hne':∀id,t.m.at id≠ .pad→t.m'.at id≠ .pad:=fun id h=>by
   rcases Nat.lt_or_ge id t.m.length with hl|hl
   ·exact hne id hl
   ·exact absurd (Mem.at_ge hl) h
  have hnk:t.n≤t.n+t.outs.length:=Nat.le_add_right _ _
  have M:HT (BW T g0.eqs) T ρ' m0 t.m' w' t.n t.m'.length:=Sh.move hpad heq r1.symm
  refine⟨v, ρ',rfl,AJ.matched Sh heq (Nat.le_refl _) hm' hne' q1,?_,bz M hnk H Sh hm2 (fun p hp=>hps p (List.mem_append_right _ hp)) q3⟩
  have hmatch:Es [] t.n rs ⟨⟨0,[],.nil⟩,t.m'⟩ ⟨⟨0,[],.nil⟩,m0⟩=some (ps1++[]):=by
   simp only[Es,Iu,List.isEmpty_nil,Bool.true_and,(DI 0 0).2 rfl,if_true]
   rw[hm1];rfl
  have hR:Rel ((BW T g0.eqs).atBase 0) g0.n ρ' ⟨⟨0,[],.nil⟩,m0⟩ { tmps:= #[],defers:=[] } w':=⟨DU.nil _ _ _ (Nat.zero_le _),rfl,(fun i c hc=>by simp[AQ.get,BR,Tr.get] at hc),q2.tab (Bz _ 0 _)⟩
  obtain⟨z1,_,_⟩:=Hb (T1:=(BW T g0.eqs).atBase 0) (T2:=T.atBase 0) hmatch (fun p hp=>by cases hp) r1.symm r2.symm rfl heq hnk H (fun p hp=>Rz.2 (hps p (by rw[List.append_nil] at hp;exact List.mem_append_left _ hp))) hR
  exact z1.mem.tab (Bz T 0 _).symm
 ·cases hok
end Go.Eng
end
noncomputable section
namespace Go.Eng
open Go Go.RowKit
def Lv:List (FuncId × Ak)→FuncId→Option A8
 |[],_=>none
 |(f,t)::r,k=>if Nat.beq f k then some (Un t) else Lv r k
theorem Oq {P:Program}:∀{l:List (FuncId × Ak)},(∀p∈l,Ao P p.1 p.2)→∀f c,Lv l f=some c→∀T,∀ys k args pc m g c' m' g',k=f→CN P T.lp ys→c ys k args pc m g=some (c',m',g')→AP g g'∧(Agr T g'→An T g'→pcv T pc→BJ T g pc→∀ ρ w vs,AD T g.n ρ m w args vs→AH T g.n ρ m w→
  (∃fn,P.funcs[k]? =some fn∧fn.body.isSome=true∧(fn.name== "runtime.NumGoroutine")=false)∧Calls P k (vs:List Value).toArray w (KV T g ρ m w c' m' g'))
 |[],_,f,c,h=>by simp[Lv] at h
 |(f0,t)::r,hl,f,c,h=>by
  simp only[Lv] at h
  split at h
  ·rename_i hb
   cases h
   have e:=Nat.eq_of_beq_eq_true hb
   subst e
   intro T ys k args pc m g c' m' g' hk _ hap
   subst hk
   exact az (hl (k,t) (List.mem_cons_self ..)) T ys args pc m g c' m' g' hap
  ·exact Oq (fun p hp=>hl p (List.mem_cons_of_mem _ hp)) f c h
section
variable {P:Program}{w:World}{B:Nat}
theorem ip {H:Type}{enc:TypeId × Value→H}{sp:Nat→Bool}{held:Bool}{base:Nat}(hB:B≤BF)(hm:P.follows .mixedOrders=true){l:List (FuncId × Ak)}(hl:∀p∈l,Ao P p.1 p.2){Ag:FuncId→G4}{fuel depth dd:Nat}{f:FuncId}{ts:List TypeId}{as:List AC}{ks:List Kd}{c:AC}{m':Mem}{g':G}
  (hargs:Fj P dd ts 0=some (as,ks)) (hrun:Hw P (Lv l) Ag fuel depth Ys.none f as none [] { n:=ks.length,eqs:=[],obs:=[] }=some (c,m',g')) (hchk:QT ks.length g'=true)
  (hplain:∀(T:Tab) (us:List U),CO B ks us→us.length=ks.length→(∀j u,us[j]? =some u→T j=u)→(∀p∈g'.eqs,T p.1=p.2.eval T)→An T g'∧jN T c)
  {vs:List Value} {ds:List (DataW H)} {ps:List MemPlace} (ht:DataW.TrodAll enc P w 0 sp held ts vs ds ps) (hv:∀(j:Nat) t v,ts[j]? =some t→vs[j]? =some v→Value.okWide P w .any base t v) (hs:∀d∈ds,Cs B d):
  Calls P f (vs:List Value).toArray w fun e W'=>e= .returned (.bool true)∧Below w.heap.size w W':=by
 obtain⟨us,u1,u2,u3⟩:=X5 hB ts hargs ht hv hs
 unfold QT at hchk
 rw[Bool.and_eq_true] at hchk
 generalize hT:BW (Uz g'.lps us) g'.eqs=T
 obtain⟨r1,r2,r3⟩:=IU g'.eqs (Uz g'.lps us)
 rw[hT] at r1 r2 r3
 have hlow:∀j u,us[j]? =some u→T (0+j)=u:=fun j u hj=>by
  have hjl:=(List.getElem?_eq_some_iff.1 hj).1
  rw[Nat.zero_add,←hT,(DR hchk.1).2.2 j (.inl (by omega))]
  show us.getD j default=u
  simp[List.getD,hj]
 have hA:Agr T g':=by
  refine⟨fun p hp=>?_,fun p hp=>?_⟩
  ·rw[←hT]
   exact IE (fv:=[]) (nh:=0) (fun x hx=>by cases hx) (Nat.zero_le _) hchk.1 p hp
  ·rw[r2]
   show (E7 g'.lps p.1).getD YB=p.2
   rw[Mg hchk.2 p hp];rfl
 obtain⟨p1,p2⟩:=hplain T us u1 u2 (fun j u hj=>by have:=hlow j u hj;rw[Nat.zero_add] at this;exact this) hA.eqs
 have hsafe:∀b off,b < w.heap.size→Ai T (fun _=>none) [] w b off:=fun b off hb=>⟨hb,by rw[r1];trivial,fun id=>trivial⟩
 have hmem:AH T ks.length (fun _=>none) [] w:=⟨fun id=>trivial,(fun id id' b h=>by cases h),fun b off _=>by rw[r1];trivial⟩
 obtain⟨_,hsound⟩:=M7 (Ag:=Ag) (fuel:=fuel) hm (Oq hl) depth T Ys.none f as none [] _ c m' g' (fun T' _ s y hy=>by cases hy) hrun
 obtain⟨_,hc⟩:=hsound hA p1 trivial trivial (fun _=>none) w vs (u3 T _ hsafe hlow ks.length (by omega)) hmem
 refine hc.mono fun e W' ⟨v, ρ',e1,e2,e3,e4⟩=>?_
 refine⟨?_,e2.os,e2.tape,e2.output,e2.size,fun k hk=>e2.old k hk (fun id h=>by cases h)⟩
 rw[e1]
 congr 1
 cases c with
 |cb b=>rw[show b=true from p2] at e4;exact e4
 |b x=>
  obtain⟨_,b,h1,h2⟩:=e4
  rw[show T x=_ from p2] at h1
  cases h1
  exact h2
 |nb x=>
  obtain⟨_,b,h1,h2⟩:=e4
  rw[show T x=_ from p2] at h1
  cases h1
  exact h2
 |_=>exact p2.elim
end
end Go.Eng
end
noncomputable section
namespace Go.Eng
open Go Go.RowKit
theorem MW {H:Type}{enc:TypeId × Value→H}{P:Program}(hl:laidOutB P=true){W W':World}(hb:Below W.heap.size W W'){sp:Nat→Bool}:∀{ts:List TypeId} {vs:List Value} {ds:List (DataW H)} {ps:List MemPlace},
  (∀t∈ts,P.readableRec t=true∧t < P.types.size)→DataW.TrodAll enc P W 0 (fun _=>true) true ts vs ds ps→(∀x∈ps,x.block < W.heap.size)→(∀x∈ps,sp x.block=true)→DataW.TrodAll enc P W' 0 sp true ts vs ds ps
 |[],[],[],_,_,h,_,_=>h
 |t::ts,v::vs,d::ds,ps,ht,⟨p,q,h1,h2,e⟩,hlt,hs=>by
  subst e
  obtain⟨r1,r2⟩:=ht t (List.mem_cons_self ..)
  exact⟨p,q,WideElems.Trod_stays hl r1 r2 h1 (fun x hx=>hb.same (hlt x (List.mem_append_left _ hx))) (fun x hx=>hs x (List.mem_append_left _ hx)),
   MW hl hb (fun t h=>ht t (List.mem_cons_of_mem _ h)) h2 (fun x hx=>hlt x (List.mem_append_right _ hx)) (fun x hx=>hs x (List.mem_append_right _ hx)),rfl⟩
 |[],_::_,_,_,_,h,_,_=>h.elim
 |[],[],_::_,_,_,h,_,_=>h.elim
 |_::_,[],_,_,_,h,_,_=>h.elim
 |_::_,_::_,[],_,_,h,_,_=>h.elim
end Go.Eng
end
noncomputable section
namespace Go.Eng
open Go Go.RowKit Go.ChangeShapes Go.WideShapes
theorem eG {H:Type}{enc:TypeId × Value→H}{P:Program}{f:Func}{s:ChangeSpec}{apart fresh handsOn again:Bool}{W W':World}{args:Array Value}{ds gs:List (DataW H)}{before:List MemPlace}{tb:TypeId}
  (hl:laidOutB P=true) (hrec:∀t∈f.params.toList,P.readableRec t=true∧t < P.types.size) (hres:f.resultTypes= #[tb]) (htb:P.underlying tb=some .bool) (hvs:s.vars=[])
  (hfn:s.fn H (ds++gs)={ results:=[.lit (.bool true)],args:=ds })
  (hW:DataW.Whole enc P f.params.toList s.vars apart W args.toList ds gs before) (hb:Below W.heap.size W W'):s.post enc P f apart fresh handsOn again W args (.bool true) W':=by
 have hlt:∀p∈before,p.block < W.heap.size:=hW.lt
 have hW0:=hW
 obtain⟨p,q,hA,hV,rfl,hz,hn⟩:=hW
 have hq:q=[]:=by
  rw[hvs] at hV
  cases gs with
  |nil=>exact hV
  |cons=>exact hV.elim
 subst hq
 have hold:∀x∈p++[],(fun b=>decide (b < W.heap.size)) x.block=true:=fun x hx=>by simpa using hlt x hx
 have hargs:∀sp:Nat→Bool,(∀x∈p++[],sp x.block=true)→DataW.TrodAll enc P W' 0 sp true f.params.toList args.toList (s.fn H (ds++gs)).args p:=fun sp hsp=>by
  rw[hfn]
  exact MW hl hb hrec hA (fun x hx=>hlt x (by simp[hx])) (fun x hx=>hsp x (by simp[hx]))
 have hvars:∀sp:Nat→Bool,DataW.TrodVars enc P W' sp s.vars (s.fn H (ds++gs)).vars []:=fun sp=>by rw[hfn,hvs];rfl
 have hr:∀(b:Nat) (sp:Nat→Bool) (hd:Bool),DataW.TrodAll enc P W' b sp hd f.resultTypes.toList ((Value.bool true).resultList f.resultTypes.size) (s.fn H (ds++gs)).results []:=fun b sp hd=>by
  rw[hfn,hres]
  exact⟨[],[],⟨1,by simp[DataW.trod,htb,Value.cells]⟩,rfl,rfl⟩
 refine⟨ds,gs,p++[],[],p,[],hW0,hr _ _ _,hargs _ hold,hvars _,World.keptBut_mono (fun x hx=>⟨hx,.inr (by simpa using hx)⟩) (hb.frame (· ∈p++[])),fun _=>?_⟩
 refine⟨fun j t r h1 h2=>?_,_,_,([]++p)++[],⟨[]++p,[],trodAll_append (hargs _ (fun _ _=>rfl)) (hr _ _ _),hvars _,rfl,?_,?_⟩,?_⟩
 ·exact ok_one hres (by rfl) (by simp[Value.okWide,htb,Cell.okWide,Cell.ok]) j t r h1 h2
 ·intro b off hp
  rw[hb.frozen (hlt _ (by simpa using hp))]
  exact hz b off (by simpa using hp)
 ·intro ha
  simpa using hn ha
 ·intro x hx _
  simpa using hx
end Go.Eng
end
noncomputable section
namespace Go.Eng
open Go
inductive Ty where
 |i|b|l|r (c:Nat)|s
 deriving DecidableEq
def I (T:Tab)(x:Nat):Int:=(T.get x).toI
def B (T:Tab)(x:Nat):Bool:=(T.get x).toB
def L (T:Tab)(x:Nat):List (List U):=(T.get x).toL
def S (T:Tab)(x:Nat):ByteArray:=(T.get x).toS
def iR (T:Tab)(r:Rf):Int:=(r.eval T).toI
def bR (T:Tab)(r:Rf):Bool:=(r.eval T).toB
def lR (T:Tab)(r:Rf):List (List U):=(r.eval T).toL
def stR (T:Tab)(r:Rf):ByteArray:=(r.eval T).toS
def uR (T:Tab):Ty→Rf→U
 | .i,r=> .int (iR T r)
 | .b,r=> .bool (bR T r)
 | .l,r=> .list (lR T r)
 | .r _,r=>r.eval T
 | .s,r=> .str (stR T r)
theorem iR_c {T:Tab}{n:Int}:iR T (.c (.int n))=n:=Eq.trans rfl rfl
theorem iR_e {T:Tab}{x:Nat}:iR T (.e x)=I T x:=Eq.trans rfl rfl
theorem bR_c {T:Tab}{n:Bool}:bR T (.c (.bool n))=n:=Eq.trans rfl rfl
theorem AG {T:Tab}{x:Nat}:bR T (.e x)=B T x:=Eq.trans rfl rfl
theorem bR_n {T:Tab}{x:Nat}:bR T (.n x)= !B T x:=Eq.trans rfl rfl
theorem lR_c {T:Tab}:lR T (.c (.list []))=[]:=Eq.trans rfl rfl
theorem lR_e {T:Tab}{x:Nat}:lR T (.e x)=L T x:=Eq.trans rfl rfl
theorem jh {T:Tab}{s:ByteArray}:stR T (.c (.str s))=s:=Eq.trans rfl rfl
theorem ju {T:Tab}{x:Nat}:stR T (.e x)=S T x:=Eq.trans rfl rfl
def Pg (T:Tab):List Rf→Int→Int
 |[],_=>0
 |a::l,n=>if n≤0 then iR T a else Pg T l (n - 1)
def PK (T:Tab):List Rf→Int→Prop
 |[],_=>False
 |a::l,n=>(n≤0∧bR T a=true)∨(¬n≤0∧PK T l (n - 1))
def AA (l:List (List U))(i c:Nat):Int:=((l.getD i []).getD c default).toI
def Ll (l:List (List U))(i c:Nat):Bool:=((l.getD i []).getD c default).toB
def FK (l:List (List U))(i c:Nat):List (List U):=((l.getD i []).getD c default).toL
inductive Op2 where
 |add|sub|mul|div|mod|tdiv|tmod|min|max
def Op2.f:Op2→Int→Int→Int
 | .add=>eK| .sub=>dJ| .mul=>Yf| .div=>eN| .mod=>VS| .tdiv=>QO| .tmod=>ZI| .min=>RF| .max=>RN
inductive Opn where
 |id (t:Ty)|not|and|or|lt|le|eq|ne
 |eqs (ts:List Ty)|nes (ts:List Ty)|eqb|neb
 |ite (t:Ty)|ifb
 |o2 (o:Op2)|w2 (k:IntKind) (o:Op2)|w1 (k:IntKind)|wneg (k:IntKind)|neg|bits (o:BinOp) (k:IntKind)
 |take|drop|sub|slen|sat
 |len|app|get (t:Ty) (c:Nat)|pick (t:Ty)|row (k s:Nat) (ts:List Ty)|rset (c:Nat) (ts:List Ty)|rep (ts:List Ty)
 |outI (tg:String) (f:List U→Int)|outB (tg:String) (f:List U→Bool)|outL (tg:String) (f:List U→List (List U))|res (t:Ty) (D:Ae) (j:Nat)
def Bi (f:List U→Int)(us:List U):U:= .int (f us)
def DF (f:List U→Bool)(us:List U):U:= .bool (f us)
def LQ (f:List U→List (List U))(us:List U):U:= .list (f us)
def opF:Opn→List U→U
 | .id _=>oId| .not=>Qt| .and=>NF| .or=>oOr| .lt=>oLt| .le=>oLe| .eq=>oEq| .ne=>oNe
 | .eqs _=>Y3| .nes _=>Zg| .eqb=>dI| .neb=>dX
 | .ite _=>oIf| .ifb=>ZE
 | .o2 o=>Go.Eng.o2 o.f| .w2 k o=>If k (Go.Eng.o2 o.f)| .w1 k=>If k oId| .wneg k=>If k T6| .neg=>T6| .bits o k=>Go.Eng.o2 (Cq o k)
 | .take=>ZR| .drop=>Y6| .sub=>cq| .slen=>YX| .sat=>cR
 | .len=>dr| .app=>UV| .get _ c=>Yr c| .pick _=>QD| .row k s _=>U3 k s| .rset c _=>nM c| .rep _=>nX
 | .outI _ f=>Bi f| .outB _ f=>DF f| .outL _ f=>LQ f| .res _ D j=>D.res j
structure En where
 x:Nat
 op:Opn
 rs:List Rf
def En.be (e:En):Nat × (List U→U) × List Rf:=(e.x,opF e.op,e.rs)
def Bd (T:Tab):List Ty→List Rf→Prop
 | .i::ts,a::b::r=>iR T a=iR T b∧Bd T ts r
 | .b::ts,a::b::r=>(bR T a=true↔bR T b=true)∧Bd T ts r
 |_,_=>True
def AS (o:Op2)(c a b:Int):Prop:=match o with
 | .add=>c=a+b| .sub=>c=a - b| .mul=>c=a*b| .div=>c=a / b| .mod=>c=a % b
 | .tdiv=>c=if 0≤a then a / b else -(-a / b)
 | .tmod=>c=if 0≤a then a % b else -(-a % b)
 | .min=>c=if a≤b then a else b
 | .max=>c=if a≤b then b else a
def w2P (k:IntKind)(o:Op2)(c a b:Int):Prop:=match k,o with
 | .i64,.add=> -9223372036854775808≤a+b→a+b≤9223372036854775807→c=a+b
 | .i64,.sub=> -9223372036854775808≤a - b→a - b≤9223372036854775807→c=a - b
 | .i64,.mul=> -9223372036854775808≤a*b→a*b≤9223372036854775807→c=a*b
 |k,o=>c=k.wrap (o.f a b)
def wnP (k:IntKind)(c a:Int):Prop:=match k with
 | .i64=>(-9223372036854775807≤a→a≤9223372036854775808→c= -a)∧(a= -9223372036854775808→c=a)
 |k=>c=k.wrap (0 - a)
def AE (T:Tab)(e:En):Prop:=
 match e with
 |⟨x,.id .i,[a]⟩=>I T x=iR T a
 |⟨x,.id .b,[a]⟩=>(B T x=true↔bR T a=true)
 |⟨x,.id .l,[a]⟩=>L T x=lR T a
 |⟨x,.not,[a]⟩=>(B T x=true↔¬bR T a=true)
 |⟨x,.and,[a,b]⟩=>(B T x=true↔(bR T a=true∧bR T b=true))
 |⟨x,.or,[a,b]⟩=>(B T x=true↔(bR T a=true∨bR T b=true))
 |⟨x,.lt,[a,b]⟩=>(B T x=true↔iR T a < iR T b)
 |⟨x,.le,[a,b]⟩=>(B T x=true↔iR T a≤iR T b)
 |⟨x,.eq,[a,b]⟩=>(B T x=true↔iR T a=iR T b)
 |⟨x,.ne,[a,b]⟩=>(B T x=true↔¬iR T a=iR T b)
 |⟨x,.eqs ts,r⟩=>(B T x=true↔Bd T ts r)
 |⟨x,.nes ts,r⟩=>(B T x=true↔¬Bd T ts r)
 |⟨x,.eqb,[a,b]⟩=>(B T x=true↔(bR T a=true↔bR T b=true))
 |⟨x,.neb,[a,b]⟩=>(B T x=true↔¬(bR T a=true↔bR T b=true))
 |⟨x,.ite .i,[a,b,c]⟩=>I T x=if bR T a=true then iR T b else iR T c
 |⟨x,.ite .b,[a,b,c]⟩=>(B T x=true↔((bR T a=true∧bR T b=true)∨(¬bR T a=true∧bR T c=true)))
 |⟨x,.ite .l,[a,b,c]⟩=>L T x=if bR T a=true then lR T b else lR T c
 |⟨x,.ifb,[a,b,c]⟩=>(B T x=true↔((bR T a=true∧bR T b=true)∨(¬bR T a=true∧bR T c=true)))
 |⟨x,.o2 o,[a,b]⟩=>AS o (I T x) (iR T a) (iR T b)
 |⟨x,.w2 k o,[a,b]⟩=>w2P k o (I T x) (iR T a) (iR T b)
 |⟨x,.w1 k,[a]⟩=>I T x=k.wrap (iR T a)
 |⟨x,.wneg k,[a]⟩=>wnP k (I T x) (iR T a)
 |⟨x,.neg,[a]⟩=>I T x= -iR T a
 |⟨x,.bits o k,[a,b]⟩=>I T x=Cq o k (iR T a) (iR T b)
 |⟨x,.len,[a]⟩=>I T x=(lR T a).length
 |⟨x,.app,[a,b]⟩=>L T x=lR T a++lR T b
 |⟨x,.take,[a,b]⟩=>L T x=(lR T a).take (iR T b).toNat
 |⟨x,.drop,[a,b]⟩=>L T x=(lR T a).drop (iR T b).toNat
 |⟨x,.sub,[a,b,c]⟩=>L T x=((lR T a).take (iR T c).toNat).drop (iR T b).toNat
 |⟨x,.slen,[a]⟩=>I T x=(stR T a).size
 |⟨x,.sat,[a,b]⟩=>I T x=Bm (stR T a) (iR T b).toNat
 |⟨x,.get .i c,[a,b]⟩=>I T x=AA (lR T a) (iR T b).toNat c
 |⟨x,.get .b c,[a,b]⟩=>B T x=Ll (lR T a) (iR T b).toNat c
 |⟨x,.get .l c,[a,b]⟩=>L T x=FK (lR T a) (iR T b).toNat c
 |⟨x,.pick .i,a::r⟩=>I T x=Pg T r (iR T a)
 |⟨x,.pick .b,a::r⟩=>(B T x=true↔PK T r (iR T a))
 |⟨x,.row k s ts,r⟩=>L T x=AY s k (List.zipWith (uR T) ts r)
 |⟨x,.rset c ts,a::b::r⟩=>L T x=kW (lR T a) (iR T b).toNat c (List.zipWith (uR T) ts r)
 |⟨x,.rep ts,a::r⟩=>L T x=List.replicate (iR T a).toNat (List.zipWith (uR T) ts r)
 |⟨x,.outI _ f,r⟩=>I T x=f (r.map (Rf.eval T))
 |⟨x,.outB _ f,r⟩=>B T x=f (r.map (Rf.eval T))
 |⟨x,.outL _ f,r⟩=>L T x=f (r.map (Rf.eval T))
 |_=>True
def Ov:Ty→Bool| .i=>true| .b=>true|_=>false
abbrev Bx:=List (Nat × Ty)
def Or:Ty→Ty→Bool| .i,.i=>true| .b,.b=>true| .l,.l=>true| .r c,.r d=>Nat.beq c d| .s,.s=>true|_,_=>false
def MS:Bx→Nat→Ty→Bool
 |[],_,_=>false
 |(y,t)::r,x,u=>if Nat.beq y x&&Or t u then true else MS r x u
def tyR (env:Bx)(t:Ty):Rf→Bool
 | .c (.int _)=>Or t .i
 | .c (.bool _)=>Or t .b
 | .c (.list _)=>Or t .l
 | .c (.str _)=>Or t .s
 | .c _=>false
 | .n _=>Or t .b
 | .e x=>MS env x t
def IH (env:Bx):List Ty→List Rf→Bool
 |[],[]=>true
 |t::ts,r::rs=>tyR env t r&&IH env ts rs
 |_,_=>false
def DN:List Ty→List Ty
 |[]=>[]
 |t::ts=>t::t::DN ts
def uV (T:Tab)(t:Ty)(x:Nat):U:=uR T t (.e x)
def ZW (T:Tab)(x c:Nat):Prop:=∀i:Nat,∃n,((L T x).getD i []).getD c default= .int n
def Sty (T:Tab)(x:Nat):Ty→Prop
 | .r c=>ZW T x c
 |t=>T.get x=uV T t x
def AL (T:Tab):Bx→Prop
 |[]=>True
 |(x,t)::r=>Sty T x t∧AL T r
theorem Sty.get {T:Tab}{x:Nat}:∀{t:Ty},Sty T x t→T.get x=uV T t x
 | .i,h=>h
 | .b,h=>h
 | .l,h=>h
 | .r _,_=>rfl
 | .s,h=>h
def Oi (env:Bx)(e:En):Option (Option Ty):=
 match e.op,e.rs with
 | .id t,[a]=>some (if tyR env t a then some t else none)
 | .ite t,[_,b,c]=>some (if tyR env t b&&tyR env t c then some t else none)
 | .eqs ts,r=>if IH env (DN ts) r&&ts.all Ov then some (some .b) else none
 | .nes ts,r=>if IH env (DN ts) r&&ts.all Ov then some (some .b) else none
 | .row _ _ ts,r=>if IH env ts r then some (some .l) else none
 | .rset _ ts,_::_::r=>if IH env ts r then some (some .l) else none
 | .rep ts,_::r=>if IH env ts r then some (some .l) else none
 | .not,_| .and,_| .or,_| .lt,_| .le,_| .eq,_| .ne,_| .ifb,_| .eqb,_| .neb,_=>some (some .b)
 | .o2 _,_| .w2 _ _,_| .w1 _,_| .wneg _,_| .neg,_| .bits _ _,_| .len,_| .slen,_| .sat,_=>some (some .i)
 | .app,_| .take,_| .drop,_| .sub,_=>some (some .l)
 | .pick .i,_::r=>some (if r.all (tyR env .i) then some .i else none)
 | .pick .i,[]=>some none
 | .pick .b,_::b::r=>some (if (b::r).all (tyR env .b) then some .b else none)
 | .outI _ _,_=>some (some .i)
 | .outB _ _,_=>some (some .b)
 | .outL _ _,_=>some (some .l)
 | .get .i c,[.e x,_]=>some (if MS env x (.r c) then some .i else none)
 | .get _ _,_| .pick _,_| .res _ _ _,_=>some none
 |_,_=>none
def noR:Ty→Bool| .r _=>false|_=>true
def chk:Bx→List En→Option Bx
 |env,[]=>some env
 |env,e::r=>match Oi env e with
  |none=>none
  |some none=>chk env r
  |some (some t)=>if noR t then chk ((e.x,t)::env) r else none
section
variable {T:Tab}
theorem Nm {t u:Ty}(h:Or t u=true):t=u:=by cases t<;>cases u<;>first|rfl|(cases h;done)|(rw[Nat.eq_of_beq_eq_true h])
theorem Um:∀{env:Bx} {x:Nat} {t:Ty},AL T env→MS env x t=true→T.get x=uV T t x
 |[],_,_,_,h=>by cases h
 |(y,u)::r,x,t,hs,h=>by
  simp only[MS] at h
  split at h
  ·rename_i hb
   rw[Bool.and_eq_true] at hb
   have e:=Nat.eq_of_beq_eq_true hb.1
   subst e
   rw[←Nm hb.2];exact hs.1.get
  ·exact Um hs.2 h
theorem bV:∀{env:Bx} {x c:Nat},AL T env→MS env x (.r c)=true→ZW T x c
 |[],_,_,_,h=>by cases h
 |(y,u)::r,x,c,hs,h=>by
  simp only[MS] at h
  split at h
  ·rename_i hb
   rw[Bool.and_eq_true] at hb
   have e:=Nat.eq_of_beq_eq_true hb.1
   subst e
   have e2:=Nm hb.2
   subst e2
   exact hs.1
  ·exact bV hs.2 h
theorem Ho {env:Bx}{t:Ty}{r:Rf}(hs:AL T env)(h:tyR env t r=true):r.eval T=uR T t r:=by
 cases r with
 |c u=>cases u<;>simp only[tyR] at h<;>first|(have e:=Nm h;subst e;rfl)|cases h
 |e x=>exact Um hs h
 |n x=>have e:=Nm h;subst e;rfl
theorem FU {env:Bx}(hs:AL T env):∀{ts:List Ty} {rs:List Rf},IH env ts rs=true→rs.map (Rf.eval T)=List.zipWith (uR T) ts rs
 |[],[],_=>rfl
 |t::ts,r::rs,h=>by
  simp only[IH,Bool.and_eq_true] at h
  simp only[List.map_cons,List.zipWith_cons_cons]
  rw[Ho hs h.1,FU hs h.2]
 |[],_::_,h=>by cases h
 |_::_,[],h=>by cases h
theorem T7 {env:Bx}:∀{ts:List Ty} {rs:List Rf},IH env ts rs=true→rs.length=ts.length
 |[],[],_=>rfl
 |_::_,_::_,h=>by
  simp only[IH,Bool.and_eq_true] at h
  simp[T7 h.2]
 |[],_::_,h=>by cases h
 |_::_,[],h=>by cases h
theorem XP:∀{ts:List Ty} {rs:List Rf},rs.length=(DN ts).length→ts.all Ov=true→(E5 (List.zipWith (uR T) (DN ts) rs)=true↔Bd T ts rs)
 |[],[],_,_=>by simp[E5,DN,Bd]
 |t::ts,a::b::r,hl,hn=>by
  simp only[List.all_cons,Bool.and_eq_true] at hn
  have ih:=XP (ts:=ts) (rs:=r) (by simpa [DN] using hl) hn.2
  simp only[DN,List.zipWith_cons_cons,E5,Bool.and_eq_true]
  rw[ih]
  cases t with
  |i=>simp[uR,U.eqv,Bd]
  |b=>
   simp only[uR,U.eqv,Bd]
   cases bR T a<;>cases bR T b<;>simp
  |l=>exact absurd hn.1 (by simp[Ov])
  |r c=>exact absurd hn.1 (by simp[Ov])
  |s=>exact absurd hn.1 (by simp[Ov])
 |[],_::_,hl,_=>by simp[DN] at hl
 |_::_,[],hl,_=>by simp[DN] at hl
 |_::_,[_],hl,_=>by simp[DN] at hl
theorem TM {env:Bx}(hs:AL T env){ts:List Ty}{rs:List Rf}{c:Bool}(h:(IH env (DN ts) rs&&ts.all Ov)=true):E5 (rs.map (Rf.eval T))=true↔Bd T ts rs:=by
 rw[Bool.and_eq_true] at h
 rw[FU hs h.1]
 exact XP (T7 h.1) h.2
theorem bw (l:List U):(FW l).toI=0:=by
 unfold FW;split<;>rfl
theorem bq (l:List U):(FW l).toB=false:=by
 unfold FW;split<;>rfl
theorem Sa {d:U}(hd:d.toI=0):∀(l:List Rf) (n:Int),((l.map (Rf.eval T)).getD n.toNat d).toI=Pg T l n
 |[],n=>by simp[Pg,hd]
 |a::l,n=>by
  simp only[Pg]
  split
  ·rename_i h
   have:n.toNat=0:=by omega
   simp[this,iR]
  ·rename_i h
   have e:n.toNat=(n - 1).toNat+1:=by omega
   rw[e,←Sa hd l (n - 1)]
   simp
theorem Rg {d:U}(hd:d.toB=false):∀(l:List Rf) (n:Int),((l.map (Rf.eval T)).getD n.toNat d).toB=true↔PK T l n
 |[],n=>by simp[PK,hd]
 |a::l,n=>by
  simp only[PK]
  by_cases h:n≤0
  ·have:n.toNat=0:=by omega
   simp[this,h,bR]
  ·have e:n.toNat=(n - 1).toNat+1:=by omega
   rw[e,←Rg hd l (n - 1)]
   simp[h]
theorem vB {x:Nat}{v:Bool}(h:T.get x= .bool v):B T x=v:=by unfold B;rw[h];rfl
theorem vI {x:Nat}{v:Int}(h:T.get x= .int v):I T x=v:=by unfold I;rw[h];rfl
theorem vL {x:Nat}{v:List (List U)}(h:T.get x= .list v):L T x=v:=by unfold L;rw[h];rfl
theorem sB {x:Nat}{v:Bool}(h:T.get x= .bool v):T.get x=uV T .b x:=by rw[h];show _=U.bool (T.get x).toB;rw[h];rfl
theorem sI {x:Nat}{v:Int}(h:T.get x= .int v):T.get x=uV T .i x:=by rw[h];show _=U.int (T.get x).toI;rw[h];rfl
theorem vS {x:Nat}{v:ByteArray}(h:T.get x= .str v):S T x=v:=by unfold S;rw[h];rfl
theorem sS {x:Nat}{v:ByteArray}(h:T.get x= .str v):T.get x=uV T .s x:=by rw[h];show _=U.str (T.get x).toS;rw[h];rfl
theorem sL {x:Nat}{v:List (List U)}(h:T.get x= .list v):T.get x=uV T .l x:=by rw[h];show _=U.list (T.get x).toL;rw[h];rfl
theorem jD (o:Op2)(a b:Int):AS o (o.f a b) a b:=by
 cases o<;>simp only[AS,Op2.f]<;>first|rfl|exact tdiv_eq_if a b|exact tmod_eq_if a b|exact Int.min_def a b|exact Int.max_def a b
theorem jQ (k:IntKind)(o:Op2)(a b:Int):w2P k o (k.wrap (o.f a b)) a b:=by
 cases k<;>cases o<;>simp only[w2P,Op2.f]<;>exact fun h1 h2=>EU .i64 _ h1 h2
theorem jY (k:IntKind)(a:Int):wnP k (k.wrap (0 - a)) a:=by
 cases k<;>simp only[wnP]
 refine⟨fun h1 h2=>?_,fun h=>by subst h;decide⟩
 rw[EU .i64 _ (by show (-9223372036854775808:Int)≤_;omega) (by show _≤(9223372036854775807:Int);omega)]
 omega
theorem XU {env:Bx}(hs:AL T env):∀(e:En) {o:Option Ty},Oi env e=some o→T.get e.x=opF e.op (e.rs.map (Rf.eval T))→AE T e:=by
 intro e o ht h
 unfold AE
 split<;>(try simp only at ht h)
 ·exact congrArg U.toI h
 ·exact Bool.eq_iff_iff.1 (congrArg U.toB h)
 ·exact congrArg U.toL h
 ·have:=vB h;rw[this];simp[u0,bR]
 ·have:=vB h;rw[this];simp[u0,u1,bR]
 ·have:=vB h;rw[this];simp[u0,u1,bR]
 ·have:=vB h;rw[this];simp[u0,u1,iR]
 ·have:=vB h;rw[this];simp[u0,u1,iR]
 ·have:=vB h;rw[this];simp[u0,u1,iR]
 ·have:=vB h;rw[this];simp[u0,u1,iR]
 ·rename_i x ts r
  simp only[Oi] at ht
  split at ht
  ·rename_i hc
   rw[vB h];exact TM (c:=true) hs hc
  ·cases ht
 ·rename_i x ts r
  simp only[Oi] at ht
  split at ht
  ·rename_i hc
   rw[vB h,←TM (c:=true) hs hc];simp
  ·cases ht
 ·have:=vB h;rw[this];simp only[u0,u1,bR,List.map_cons,List.map_nil,List.getD_cons_zero,List.getD_cons_succ];rename_i a b;cases (a.eval T).toB<;>cases (b.eval T).toB<;>simp
 ·have:=vB h;rw[this];simp only[u0,u1,bR,List.map_cons,List.map_nil,List.getD_cons_zero,List.getD_cons_succ];rename_i a b;cases (a.eval T).toB<;>cases (b.eval T).toB<;>simp
 ·rename_i x a b c
  have h1:=congrArg U.toI h
  show (T.get x).toI=_
  rw[h1]
  show (bif (a.eval T).toB then b.eval T else c.eval T).toI=_
  unfold bR iR
  cases (a.eval T).toB<;>rfl
 ·rename_i x a b c
  have h1:=congrArg U.toB h
  show ((T.get x).toB=true↔_)
  rw[h1]
  show ((bif (a.eval T).toB then b.eval T else c.eval T).toB=true↔_)
  unfold bR
  cases (a.eval T).toB<;>simp
 ·rename_i x a b c
  have h1:=congrArg U.toL h
  show (T.get x).toL=_
  rw[h1]
  show (bif (a.eval T).toB then b.eval T else c.eval T).toL=_
  unfold bR lR
  cases (a.eval T).toB<;>rfl
 ·rename_i x a b c
  rw[vB h]
  show ((bif (a.eval T).toB then (b.eval T).toB else (c.eval T).toB)=true↔_)
  unfold bR
  cases (a.eval T).toB<;>simp
 ·rw[vI h];exact jD _ _ _
 ·rw[vI h];exact jQ _ _ _ _
 ·rw[vI h];rfl
 ·rw[vI h];exact jY _ _
 ·rw[vI h];show 0 - _=_;rw[Int.zero_sub];rfl
 ·rw[vI h];rfl
 ·rw[vI h];rfl
 ·rw[vL h];rfl
 ·rw[vL h];rfl
 ·rw[vL h];rfl
 ·rw[vL h];rfl
 ·rw[vI h];rfl
 ·rw[vI h];rfl
 ·exact congrArg U.toI h
 ·exact congrArg U.toB h
 ·exact congrArg U.toL h
 ·exact (congrArg U.toI h).trans (Sa (bw _) _ _)
 ·have h1:=congrArg U.toB h
  refine Iff.trans (b:=((_:U).toB=true)) (by rw[show B T _=_ from h1];exact Iff.rfl) (Rg (bq _) _ _)
 ·rename_i x k s ts r
  simp only[Oi] at ht
  split at ht
  ·rename_i hc
   rw[vL h,FU hs hc]
  ·cases ht
 ·rename_i x c ts a b r
  simp only[Oi] at ht
  split at ht
  ·rename_i hc
   rw[←FU hs hc]
   exact vL h
  ·cases ht
 ·rename_i x ts a r
  simp only[Oi] at ht
  split at ht
  ·rename_i hc
   rw[←FU hs hc]
   exact vL h
  ·cases ht
 ·exact congrArg U.toI h
 ·exact congrArg U.toB h
 ·exact congrArg U.toL h
 ·trivial
theorem Rx {env:Bx}(hs:AL T env):∀{r:List Rf} (n:Nat),r.all (tyR env .i)=true→∃v,(r.map (Rf.eval T)).getD n (.int 0)= .int v
 |[],n,_=>⟨0,by simp⟩
 |a::r,n,h=>by
  simp only[List.all_cons,Bool.and_eq_true] at h
  cases n with
  |zero=>exact⟨iR T a,by simpa [uR] using Ho hs h.1⟩
  |succ n=>simpa using Rx hs (r:=r) n h.2
theorem P6 {env:Bx}(hs:AL T env):∀{r:List Rf} (n:Nat),r.all (tyR env .b)=true→∃v,(r.map (Rf.eval T)).getD n (.bool false)= .bool v
 |[],n,_=>⟨false,by simp⟩
 |a::r,n,h=>by
  simp only[List.all_cons,Bool.and_eq_true] at h
  cases n with
  |zero=>exact⟨bR T a,by simpa [uR] using Ho hs h.1⟩
  |succ n=>simpa using P6 hs (r:=r) n h.2
theorem cm {env:Bx}(hs:AL T env){r:List Rf}(n:Nat)(h:r.all (tyR env .i)=true):∃v,(r.map (Rf.eval T)).getD n (FW (r.map (Rf.eval T)))= .int v:=by
 have e:FW (r.map (Rf.eval T))= .int 0:=by
  cases r with
  |nil=>rfl
  |cons a r=>
   simp only[List.all_cons,Bool.and_eq_true] at h
   have h1:a.eval T= .int (iR T a):=by simpa [uR] using Ho hs h.1
   rw[List.map_cons,h1];rfl
 rw[e];exact Rx hs n h
theorem b9 {env:Bx}(hs:AL T env){b:Rf}{r:List Rf}(n:Nat)(h:(b::r).all (tyR env .b)=true):∃v,((b::r).map (Rf.eval T)).getD n (FW ((b::r).map (Rf.eval T)))= .bool v:=by
 have e:FW ((b::r).map (Rf.eval T))= .bool false:=by
  have h0:=h
  simp only[List.all_cons,Bool.and_eq_true] at h0
  have h1:b.eval T= .bool (bR T b):=by simpa [uR] using Ho hs h0.1
  rw[List.map_cons,h1];rfl
 rw[e];exact P6 hs n h
theorem jm {env:Bx}(hs:AL T env):∀(e:En) {t:Ty},Oi env e=some (some t)→T.get e.x=opF e.op (e.rs.map (Rf.eval T))→T.get e.x=uV T t e.x:=by
 intro e t ht h
 unfold Oi at ht
 split at ht
 ·rename_i a e1 e2
  split at ht
  ·rename_i hc
   cases ht
   rw[e1,e2] at h
   have h2:T.get e.x=a.eval T:=h
   rw[Ho hs hc] at h2
   cases t
   ·exact sI h2
   ·exact sB h2
   ·exact sL h2
   ·rfl
   ·exact sS h2
  ·cases ht
 ·rename_i a b c e1 e2
  split at ht
  ·rename_i hc
   cases ht
   rw[Bool.and_eq_true] at hc
   rw[e1,e2] at h
   have h2:T.get e.x=bif (a.eval T).toB then b.eval T else c.eval T:=h
   rw[Ho hs hc.1,Ho hs hc.2] at h2
   cases t<;>cases hb:(a.eval T).toB<;>rw[hb] at h2<;>first|exact sI h2|exact sB h2|exact sL h2|exact sS h2|rfl
  ·cases ht
 all_goals first
  |(rename_i c x a e1 e2;split at ht<;>cases ht;rename_i hc;rw[e1,e2] at h;obtain⟨n,hn⟩:=bV hs hc (a.eval T).toI.toNat;exact sI (h.trans hn))
  |(rename_i a b2 r e1 e2;split at ht<;>cases ht;rename_i hc;rw[e1,e2] at h;obtain⟨v,hv⟩:=b9 hs (a.eval T).toI.toNat hc;exact sB (h.trans hv))
  |(rename_i a r e1 e2;split at ht<;>cases ht;rename_i hc;rw[e1,e2] at h;obtain⟨v,hv⟩:=cm hs (a.eval T).toI.toNat hc;exact sI (h.trans hv))
  |(rename_i e1 e2;split at ht<;>cases ht;rw[e1,e2] at h;exact sL h)
  |(rename_i e1;split at ht<;>cases ht;rw[e1] at h;first|exact sI h|exact sB h|exact sL h)
  |(rename_i e1;cases ht;rw[e1] at h;first|exact sI h|exact sB h|exact sL h)
  |(cases ht)
  |skip
def AI (T:Tab):List En→Prop
 |[]=>True
 |e::r=>AE T e∧AI T r
theorem AI.left:∀{a b:List En},AI T (a++b)→AI T a
 |[],_,_=>trivial
 |_::_,_,h=>⟨h.1,AI.left h.2⟩
theorem AI.right:∀{a b:List En},AI T (a++b)→AI T b
 |[],_,h=>h
 |_::_,_,h=>AI.right h.2
end
abbrev BE:=Nat × (List U→U) × List Rf
abbrev BO:=PC × (List U→Prop) × List Rf
abbrev BP:=(List U→Prop) × List Rf
def IN (l:List (Nat × Ex)):List BE:=l.map fun p=>(p.1,p.2.f,p.2.args)
def Lm (l:List Ob):List BO:=l.map fun o=>(o.pc,o.p.f,o.p.args)
def fI (l:List Pr):List BP:=l.map fun p=>(p.f,p.args)
def AX (T:Tab):List BE→Prop
 |[]=>True
 |(x,f,rs)::r=>T x=f (rs.map (Rf.eval T))∧AX T r
def VC (T:Tab):List BO→Prop
 |[]=>True
 |(pc,f,rs)::r=>(pcv T pc→f (rs.map (Rf.eval T)))∧VC T r
def AllP (T:Tab):List BP→Prop
 |[]=>True
 |(f,rs)::r=>f (rs.map (Rf.eval T))∧AllP T r
section
variable {T:Tab}
theorem N4:∀{l:List (Nat × Ex)},(∀p∈l,T p.1=p.2.eval T)→AX T (IN l)
 |[],_=>trivial
 |p::_,h=>⟨h p (List.mem_cons_self ..),N4 fun q hq=>h q (List.mem_cons_of_mem _ hq)⟩
theorem O1:∀{l:List (Nat × Ex)},AX T (IN l)→∀p∈l,T p.1=p.2.eval T
 |[],_,p,hp=>by cases hp
 |e::r,h,p,hp=>by
  cases hp with
  |head=>exact h.1
  |tail _ hp=>exact O1 (l:=r) h.2 p hp
theorem AX.left:∀{a b:List BE},AX T (a++b)→AX T a
 |[],_,_=>trivial
 |_::_,_,h=>⟨h.1,AX.left h.2⟩
theorem AX.right:∀{a b:List BE},AX T (a++b)→AX T b
 |[],_,h=>h
 |_::_,_,h=>AX.right h.2
theorem N7:∀{l:List Ob},VC T (Lm l)→∀o∈l,o.holds T
 |[],_,o,ho=>by cases ho
 |o'::_,h,o,ho=>by
  cases ho with
  |head=>exact h.1
  |tail _ ho=>exact N7 h.2 o ho
theorem XQ:∀{l:List Pr},AllP T (fI l)→∀o∈l,o.holds T
 |[],_,o,ho=>by cases ho
 |o'::_,h,o,ho=>by
  cases ho with
  |head=>exact h.1
  |tail _ ho=>exact XQ h.2 o ho
theorem cB {x:Nat}:∀(t:Ty),T.get x=uV T t x→(∀c,t≠ .r c)→Sty T x t
 | .i,h,_=>h
 | .b,h,_=>h
 | .l,h,_=>h
 | .r c,_,h=>absurd rfl (h c)
 | .s,h,_=>h
theorem PI:∀{l:List En} {env env':Bx},AL T env→chk env l=some env'→AX T (l.map En.be)→AI T l∧AL T env'
 |[],env,env',hs,h,_=>by
  simp only[chk] at h;cases h;exact⟨trivial,hs⟩
 |e::r,env,env',hs,h,hb=>by
  simp only[chk] at h
  split at h
  ·cases h
  ·rename_i ht
   obtain⟨h1,h2⟩:=PI hs h hb.2
   exact⟨⟨XU hs e ht hb.1,h1⟩,h2⟩
  ·rename_i t ht
   split at h
   ·rename_i hn
    obtain⟨h1,h2⟩:=PI (env:=(e.x,t)::env) ⟨cB t (jm hs e ht hb.1) (fun c hc=>by rw[hc] at hn;cases hn),hs⟩ h hb.2
    exact⟨⟨XU hs e ht hb.1,h1⟩,h2⟩
   ·cases h
def Am (env:Bx)(l:List En):Bx:=(chk env l).getD []
theorem AV {l:List En}{env:Bx}(hs:AL T env)(hc:(chk env l).isSome=true)(hb:AX T (l.map En.be)):AI T l∧AL T (Am env l):=by
 obtain⟨env',h⟩:=Option.isSome_iff_exists.1 hc
 have:=PI hs h hb
 unfold Am
 rw[h];exact this
def cd (env:Bx)(l:List En)(tys:List Ty)(rs:List Rf):Bool:=match chk env l with
 |some env'=>IH env' tys rs
 |none=>false
theorem Ap {l:List En}{env:Bx}{tys:List Ty}{rs:List Rf}(hs:AL T env)(hc:cd env l tys rs=true)(hb:AX T (l.map En.be)):AI T l∧rs.map (Rf.eval T)=List.zipWith (uR T) tys rs:=by
 unfold cd at hc
 split at hc
 ·rename_i env' h
  obtain⟨h1,h2⟩:=PI hs h hb
  exact⟨h1,FU h2 hc⟩
 ·cases hc
theorem AL.append:∀{a b:Bx},AL T a→AL T b→AL T (a++b)
 |[],_,_,h=>h
 |_::_,_,h,h'=>⟨h.1,AL.append h.2 h'⟩
def tyKd:Kd→Option Ty
 | .int _ _ _=>some .i
 | .bool=>some .b
 | .list _=>some .l
 | .str=>some .s
 |_=>none
def P8 (x:Nat):Nat→List Kd→Bx
 |_,[]=>[]
 |c,.int _ _ _::es=>(x,.r c)::P8 x (c+1) es
 |c,_::es=>P8 x (c+1) es
def BG:Nat→List Kd→Bx
 |_,[]=>[]
 |x,.list es::ks=>(x,.l)::(P8 x 0 es++BG (x+1) ks)
 |x,k::ks=>match tyKd k with
  |some t=>(x,t)::BG (x+1) ks
  |none=>BG (x+1) ks
def Bnd (T:Tab):Nat→List Kd→Prop
 |_,[]=>True
 |x,.int _ lo hi::ks=>(lo≤I T x∧I T x≤hi)∧Bnd T (x+1) ks
 |x,.list es::ks=>((L T x).length≤140737488355328∧∀(i:Nat) (us:List U),(L T x)[i]? =some us→CO BF es us)∧Bnd T (x+1) ks
 |x,.str::ks=>(S T x).size≤140737488355328∧Bnd T (x+1) ks
 |x,_::ks=>Bnd T (x+1) ks
theorem AL.append0:∀{a b:Bx},AL T a→AL T b→AL T (a++b)
 |[],_,_,h=>h
 |_::_,_,h,h'=>⟨h.1,AL.append0 h.2 h'⟩
theorem TX:∀{es:List Kd} {us:List U} {c:Nat} {k:Kd},CO BF es us→es[c]? =some k→∃u,us[c]? =some u∧KdU BF k u
 |[],_,_,_,_,h=>by simp at h
 |e::es,us,c,k,⟨u,us',e1,h1,h2⟩,h=>by
  subst e1
  cases c with
  |zero=>simp at h;subst h;exact⟨u,rfl,h1⟩
  |succ c=>simpa using TX h2 (by simpa using h)
theorem iM {x c:Nat}{es:List Kd}{kk:IntKind}{lo hi:Int}(h:∀(i:Nat) (us:List U),(L T x)[i]? =some us→CO BF es us)(hc:es[c]? =some (.int kk lo hi)):ZW T x c:=fun i=>by
 rcases Nat.lt_or_ge i (L T x).length with hi|hi
 ·obtain⟨u,h1,⟨n,e,_⟩⟩:=TX (h i _ (List.getElem?_eq_getElem hi)) hc
  refine⟨n,?_⟩
  simp only[List.getD,List.getElem?_eq_getElem hi,Option.getD_some,h1]
  exact e
 ·exact⟨0,by simp only[List.getD,List.getElem?_eq_none hi,Option.getD_none];simp;rfl⟩
theorem Xr {x:Nat}{all:List Kd}(h:∀(i:Nat) (us:List U),(L T x)[i]? =some us→CO BF all us):∀(es:List Kd) (c:Nat),(∀j k,es[j]? =some k→all[c+j]? =some k)→AL T (P8 x c es)
 |[],_,_=>trivial
 |e::es,c,ha=>by
  have ih:=Xr h es (c+1) fun j k hj=>by
   have:=ha (j+1) k (by simpa using hj)
   rw[show c+(j+1)=c+1+j by omega] at this
   exact this
  cases e with
  |int kk lo hi=>exact⟨iM h (ha 0 _ rfl),ih⟩
  |_=>exact ih
theorem Uj:∀{ks:List Kd} {us:List U} {x:Nat},CO BF ks us→(∀j u,us[j]? =some u→T (x+j)=u)→AL T (BG x ks)∧Bnd T x ks
 |[],us,x,_,_=>⟨trivial,trivial⟩
 |k::ks,us,x,⟨u,us',e,h1,h2⟩,hT=>by
  subst e
  have ih:=Uj (x:=x+1) h2 fun j v hj=>by
   have:=hT (j+1) v (by simpa using hj)
   rw[show x+(j+1)=x+1+j by omega] at this
   exact this
  have h0:T.get x=u:=hT 0 u rfl
  cases k with
  |int kk lo hi=>
   obtain⟨n,e1,e2⟩:=h1
   rw[e1] at h0
   refine⟨⟨sI h0,ih.1⟩,?_,ih.2⟩
   rw[vI h0];exact e2
  |bool=>
   obtain⟨n,e1⟩:=h1
   rw[e1] at h0
   exact⟨⟨sB h0,ih.1⟩,ih.2⟩
  |str=>
   obtain⟨n,e1,e2⟩:=h1
   rw[e1] at h0
   exact⟨⟨sS h0,ih.1⟩,by rw[vS h0];exact e2,ih.2⟩
  |val=>exact ih
  |any=>exact ih
  |list es=>
   obtain⟨n,e1,e2,e3⟩:=h1
   rw[e1] at h0
   have e3':∀(i:Nat) (us:List U),(L T x)[i]? =some us→CO BF es us:=by rw[vL h0];exact e3
   refine⟨⟨sL h0,(Xr e3' es 0 (fun j k hj=>by rw[Nat.zero_add];exact hj)).append0 ih.1⟩,?_,ih.2⟩
   exact⟨by rw[vL h0];exact e2,e3'⟩
end
inductive PO where
 |take|sub|nez|t|inr|inl|ins|btw (lo hi:Int)|fits (b:Nat)|ready|ne|pre (tg:String) (p:List U→Prop)|owes (D:Ae)
structure ObE where
 pc:PC
 po:PO
 rs:List Rf
def poF:PO→List U→Prop
 | .take=>QY| .sub=>dQ| .nez=>PD| .t=>pT| .inr=>pIn| .inl=>Qm| .ins=>YZ| .btw lo hi=>D8 lo hi| .fits b=>Nt b| .ready=>TI| .ne=>pNe| .pre _ p=>p| .owes D=>D.owes
def ObE.be (o:ObE):PC × (List U→Prop) × List Rf:=(o.pc,poF o.po,o.rs)
def pcP (T:Tab):PC→Prop
 |none=>True
 |some c=>B T c=true
def YH (T:Tab)(o:ObE):Prop:=
 match o with
 |⟨pc,.take,[a,b]⟩=>pcP T pc→(0≤iR T b∧iR T b≤(lR T a).length)
 |⟨pc,.sub,[a,b,c]⟩=>pcP T pc→(0≤iR T b∧iR T b≤iR T c∧iR T c≤(lR T a).length)
 |⟨pc,.nez,[a]⟩=>pcP T pc→¬iR T a=0
 |⟨pc,.t,[a]⟩=>pcP T pc→bR T a=true
 |⟨pc,.inr,[a,b]⟩=>pcP T pc→(0≤iR T a∧iR T a < iR T b)
 |⟨pc,.inl,[a,b]⟩=>pcP T pc→(0≤iR T a∧iR T a < (lR T b).length)
 |⟨pc,.ins,[a,b]⟩=>pcP T pc→(0≤iR T b∧iR T b < (stR T a).size)
 |⟨pc,.btw lo hi,[a]⟩=>pcP T pc→(lo≤iR T a∧iR T a≤hi)
 |⟨pc,.fits b,[a,c]⟩=>pcP T pc→((lR T a).length+(lR T c).length)*b≤140737488355328
 |⟨pc,.ready,[a]⟩=>pcP T pc→iR T a=0
 |⟨pc,.ne,[a,b]⟩=>pcP T pc→¬iR T a=iR T b
 |⟨pc,.pre _ p,rs⟩=>pcP T pc→p (rs.map (Rf.eval T))
 |⟨pc,.owes D,rs⟩=>pcP T pc→D.owes (rs.map (Rf.eval T))
 |_=>False
def Ng (T:Tab):List ObE→Prop
 |[]=>True
 |o::r=>YH T o∧Ng T r
section
variable {T:Tab}
theorem VR {pc:PC}(h:pcv T pc):pcP T pc:=by
 cases pc with
 |none=>trivial
 |some c=>show (T.get c).toB=true;rw[show T.get c= .bool true from h];rfl
theorem VD {pc:PC}(h:pcP T pc):pcv T pc:=by
 cases pc with
 |none=>trivial
 |some c=>exact FY.2 h
theorem dM:∀{o:ObE},YH T o→(pcv T o.pc→poF o.po (o.rs.map (Rf.eval T))):=by
 intro o h hp
 have hp':=VR hp
 unfold YH at h
 split at h<;>first|exact h hp'|exact h.elim
theorem LG:∀{l:List ObE},Ng T l→VC T (l.map ObE.be)
 |[],_=>trivial
 |_::_,h=>⟨dM h.1,LG h.2⟩
end
def Ak.sees (t:Ak)(rs:List Rf)(r:Option (AC × Mem × G)):Option (List BE × List BO × List BP):=
 match r with
 |some (c0,m0,g0)=>match U4 t rs c0 m0 g0 with
  |some ps=>some (IN g0.eqs.reverse,Lm g0.obs,fI ps)
  |none=>none
 |none=>none
theorem Pc:∀{ks:List Kd} {us:List U},us.length=ks.length→TY ks us→CO BF ks us
 |[],[],_,_=>rfl
 |k::ks,u::us,hl,h=>⟨u,us,rfl,h 0 k u rfl rfl,Pc (by simpa using hl) fun j k' u' h1 h2=>h (j+1) k' u' (by simpa using h1) (by simpa using h2)⟩
 |[],_::_,hl,_=>by simp at hl
 |_::_,[],hl,_=>by simp at hl
def Ak.run (P:Program)(l:List (FuncId × Ak))(Ag:FuncId→G4)(fuel depth:Nat)(f:FuncId)(t:Ak):Option (AC × Mem × G):=
 Hw P (Lv l) Ag fuel depth Ys.none f t.args none t.m { n:=t.n,eqs:=[],obs:=[] }
def gL (t:Ak):Bool:=(List.range t.m.length).all fun id=>match t.m'.at id with| .pad=>false|_=>true
theorem AZ {P:Program}{f:FuncId}{t:Ak}(hm:P.follows .mixedOrders=true){l:List (FuncId × Ak)}(hl:∀p∈l,Ao P p.1 p.2){Ag:FuncId→G4}{fuel depth:Nat}{rs:List Rf}{es:List En}{os:List ObE}
  (hrun:t.sees rs (t.run P l Ag fuel depth f)=some (es.map En.be,os.map ObE.be,[])) (hne:gL t=true)
  (hplain:∀(T:Tab) (us:List U),(∀p∈t.pre,p.2 us)→(∀j u,us[j]? =some u→T j=u)→us.length=t.n→AL T (BG 0 t.ks)→Bnd T 0 t.ks→AX T (es.map En.be)→Ng T os∧rs.map (Rf.eval T)=t.outs.map fun o=>o.2 us):Ao P f t:=by
 unfold Ak.sees at hrun
 split at hrun
 ·rename_i c0 m0 g0 hr
  split at hrun
  ·rename_i ps hok
   injection hrun with hrun
   injection hrun with e1 hrun
   injection hrun with e2 e3
   refine gf hm (Oq hl) hr hok (fun id hid e=>?_) fun T us hul hin hpre hlow heqs=>?_
   ·have:=List.all_eq_true.1 hne id (List.mem_range.2 hid)
    rw[e] at this;cases this
   ·have hb:AX T (IN g0.eqs.reverse):=N4 fun p hp=>heqs p (List.mem_reverse.1 hp)
    rw[e1] at hb
    obtain⟨i1,i2⟩:=Uj (x:=0) (Pc hul hin) fun j u hj=>by rw[Nat.zero_add];exact hlow j u hj
    obtain⟨h1,h3⟩:=hplain T us hpre hlow hul i1 i2 hb
    have h2:=LG h1
    rw[←e2] at h2
    exact⟨N7 h2,XQ (by rw[e3];trivial),h3⟩
  ·cases hrun
 ·cases hrun
theorem lc {α:Type}{a b:α}{l m:List α}(h:a=b)(h':l=m):a::l=b::m:=by rw[h,h']
def aI (us:List U)(j:Nat):Int:=(us.getD j default).toI
def aB (us:List U)(j:Nat):Bool:=(us.getD j default).toB
def aL (us:List U)(j:Nat):List (List U):=(us.getD j default).toL
def aS (us:List U)(j:Nat):ByteArray:=(us.getD j default).toS
theorem inI {T:Tab}{us:List U}{j n:Nat}(h:∀j u,us[j]? =some u→T j=u)(hl:us.length=n)(hj:j < n):aI us j=I T j:=by
 have:=h j us[j] (List.getElem?_eq_getElem (by omega))
 unfold aI I
 rw[show T.get j=us[j] from this]
 simp[List.getD,List.getElem?_eq_getElem (show j < us.length by omega)]
theorem inB {T:Tab}{us:List U}{j n:Nat}(h:∀j u,us[j]? =some u→T j=u)(hl:us.length=n)(hj:j < n):aB us j=B T j:=by
 have:=h j us[j] (List.getElem?_eq_getElem (by omega))
 unfold aB B
 rw[show T.get j=us[j] from this]
 simp[List.getD,List.getElem?_eq_getElem (show j < us.length by omega)]
theorem inL {T:Tab}{us:List U}{j n:Nat}(h:∀j u,us[j]? =some u→T j=u)(hl:us.length=n)(hj:j < n):aL us j=L T j:=by
 have:=h j us[j] (List.getElem?_eq_getElem (by omega))
 unfold aL L
 rw[show T.get j=us[j] from this]
 simp[List.getD,List.getElem?_eq_getElem (show j < us.length by omega)]
theorem inS {T:Tab}{us:List U}{j n:Nat}(h:∀j u,us[j]? =some u→T j=u)(hl:us.length=n)(hj:j < n):aS us j=S T j:=by
 have:=h j us[j] (List.getElem?_eq_getElem (by omega))
 unfold aS S
 rw[show T.get j=us[j] from this]
 simp[List.getD,List.getElem?_eq_getElem (show j < us.length by omega)]
theorem Mm {a b:Bool}(h:a=true↔b=true):a=b:=Bool.eq_iff_iff.2 h
end Go.Eng
end
noncomputable section
namespace Go.Eng
open Go
theorem Sx {D:Ae}{top:Nat}(h:D.inScope top=true):DO D.fv D.nh (D.nh+D.k) top D.eqs=true∧FD D.fv D.nh top (pcL D.pcn)=true∧∀x∈D.fv,x < D.nh:=by
 simp only[Ae.inScope,Bool.and_eq_true] at h
 obtain⟨⟨⟨⟨s1,s2⟩,_⟩,_⟩,s5⟩:=h
 exact⟨s1,s2,fun x hx=>Be (List.all_eq_true.1 s5 x hx)⟩
theorem PZ {D:Ae}{T:Tab}{top:Nat}{inits:List U}(hsc:D.inScope top=true)(hk:inits.length=D.k)(hnl:D.nxt.length=D.k)(hH:∀j,j < D.k→T (D.nh+j)=D.res j (D.fv.map T.get++inits))(hE:∀p∈D.eqs,T p.1=p.2.eval T)
  (Inv:List U→Prop) (μ:List U→Nat) (h0:Inv inits)
  (hstep:∀(T':Tab) (s:List U),s.length=D.k→(∀x∈D.fv,T' x=T x)→(∀j u,s[j]? =some u→T' (D.nh+j)=u)→AX T' (IN D.eqs.reverse)→Inv s→VC T' (Lm D.obs)∧(pcv T' D.pcn→Inv (D.nxt.map (Rf.eval T'))∧μ (D.nxt.map (Rf.eval T')) < μ s)):
  D.owes (D.fv.map T.get++inits)∧(∃t,Inv t∧t.length=D.k∧∀j u,t[j]? =some u→T (D.nh+j)=u)∧¬pcv T D.pcn:=by
 obtain⟨sc1,sc2,hfv⟩:=Sx hsc
 have hlo:D.nh≤D.nh+D.k:=Nat.le_add_right _ _
 generalize hus:D.fv.map T.get=us at*
 have hfl:us.length=D.fv.length:=by rw[←hus];simp
 have e1:(us++inits).take D.fv.length=us:=by rw[←hfl];simp
 have e2:(us++inits).drop D.fv.length=inits:=by rw[←hfl];simp
 have key:∀s:List U,s.length=D.k→Inv s→VC (D.tab us s) (Lm D.obs)∧(pcv (D.tab us s) D.pcn→Inv (D.nxt.map (Rf.eval (D.tab us s)))∧μ (D.nxt.map (Rf.eval (D.tab us s))) < μ s):=fun s hs hi=>by
  refine hstep (D.tab us s) s hs (fun x hx=>?_) (fun j u hj=>?_) (N4 fun p hp=>?_) hi
  ·have:=hfv x hx
   unfold Ae.tab
   rw[(DR sc1).2.2 x (.inl (by omega)),GT _ _ _ _ this,←hus]
   exact KQ D.fv x hx
  ·have hjl:=(List.getElem?_eq_some_iff.1 hj).1
   unfold Ae.tab
   rw[(DR sc1).2.2 _ (.inl (by omega))]
   exact GA _ _ _ _ _ hj
  ·exact IE hfv hlo sc1 p (List.mem_reverse.1 hp)
 have stepE:∀s,D.step us s=(bif pcB (D.tab us s) D.pcn then some (D.nxt.map (Rf.eval (D.tab us s))) else none):=fun s=>rfl
 have go:∀(n:Nat) (s:List U),μ s≤n→s.length=D.k→Inv s→∃m t,El (D.step us) m s=some t∧D.step us t=none∧Inv t∧t.length=D.k:=by
  intro n
  induction n with
  |zero=>
   intro s hm hs hi
   cases hp:pcB (D.tab us s) D.pcn with
   |true=>have:=((key s hs hi).2 (Io.1 hp)).2;omega
   |false=>exact⟨0,s,rfl,by rw[stepE,hp];rfl,hi,hs⟩
  |succ n ih=>
   intro s hm hs hi
   cases hp:pcB (D.tab us s) D.pcn with
   |true=>
    obtain⟨k1,k2⟩:=(key s hs hi).2 (Io.1 hp)
    obtain⟨m,t,q1,q2,q3,q4⟩:=ih (D.nxt.map (Rf.eval (D.tab us s))) (by omega) (by simp[hnl]) k1
    refine⟨m+1,t,?_,q2,q3,q4⟩
    simp only[El,stepE,hp,cond_true,Option.bind_some]
    exact q1
   |false=>exact⟨0,s,rfl,by rw[stepE,hp];rfl,hi,hs⟩
 obtain⟨m,t,q1,q2,q3,q4⟩:=go (μ inits) inits (Nat.le_refl _) hk h0
 have hreach:∀s,De (D.step us) inits s→Inv s∧s.length=D.k:=by
  intro s hr
  induction hr with
  |zero=>exact⟨h0,hk⟩
  |succ hr hst ih=>
   rename_i s1 s2
   rw[stepE] at hst
   cases hp:pcB (D.tab us s1) D.pcn with
   |true=>
    rw[hp] at hst
    cases hst
    exact⟨((key s1 ih.2 ih.1).2 (Io.1 hp)).1,by simp[hnl]⟩
   |false=>rw[hp] at hst;cases hst
 have hlast:=XE q1 q2
 have hT:∀j u,t[j]? =some u→T (D.nh+j)=u:=fun j u hj=>by
  have hjl:=(List.getElem?_eq_some_iff.1 hj).1
  rw[hH j (by omega)]
  unfold Ae.res
  rw[e1,e2,hlast]
  simp[List.getD,hj]
 refine⟨⟨by rw[e1,e2];exact⟨m,t,q1,q2⟩,fun s hr=>?_⟩,⟨t,q3,q4,hT⟩,fun hp=>?_⟩
 ·rw[e1,e2] at hr
  rw[e1]
  obtain⟨i1,i2⟩:=hreach s hr
  exact N7 (key s i2 i1).1
 ·have hag:∀x,x∈D.fv∨(D.nh≤x∧x < top)→T x=D.tab us t x:=fun x hx=>by
   have:=Kj (T1:=T) (T2:=(KW D.fv us).upds D.nh t) hfv hlo (fun y hy=>?_) sc1 x hx
   ·rw[MP hE] at this
    exact this
   ·rcases hy with hy|hy
    ·rw[GT _ _ _ _ (hfv y hy),←hus]
     exact (KQ D.fv y hy).symm
    ·have hj:y - D.nh < t.length:=by omega
     have h1:=GA t (KW D.fv us) D.nh (y - D.nh) t[y - D.nh] (List.getElem?_eq_getElem hj)
     have h2:=hT (y - D.nh) t[y - D.nh] (List.getElem?_eq_getElem hj)
     rw[show D.nh+(y - D.nh)=y by omega] at h1 h2
     rw[h1,h2]
  have:pcB (D.tab us t) D.pcn=true:=by
   cases hc:D.pcn with
   |none=>rfl
   |some c=>
    rw[hc] at hp sc2
    have hcs:=EO sc2 c (by simp[pcL])
    rw[Io]
    show D.tab us t c= .bool true
    rw[←hag c hcs]
    exact hp
  rw[stepE,this] at q2
  cases q2
def bG:Op2→String
 | .add=> "add" | .sub=> "sub" | .mul=> "mul" | .div=> "div" | .mod=> "mod" | .tdiv=> "tdiv" | .tmod=> "tmod" | .min=> "min" | .max=> "max"
def gE:BinOp→String
 | .and=> "and" | .or=> "or" | .xor=> "xor" |_=> "andNot"
def jO:Opn→Tg
 | .take=> "take" | .drop=> "drop" | .sub=> "cut" | .slen=> "slen" | .sat=> "sat"
 | .id _=> "id" | .not=> "not" | .and=> "and" | .or=> "or" | .lt=> "lt" | .le=> "le" | .eq=> "eq" | .ne=> "ne"
 | .eqs _=> "eqs" | .nes _=> "nes" | .eqb=> "eqb" | .neb=> "neb" | .ite _=> "if" | .ifb=> "ifb"
 | .o2 o=>bG o| .w2 k o=>Dt k++ " " ++bG o| .w1 k=>Dt k++ " id" | .wneg k=>Dt k++ " neg" | .neg=> "neg" | .bits o k=>Dt k++ " " ++gE o
 | .len=> "len" | .app=> "app" | .get _ c=> "get " ++toString c| .pick _=> "pick" | .row _ s _=> "row " ++toString s| .rset c _=> "rset " ++toString c| .rep _=> "rep"
 | .outI tg _=>tg| .outB tg _=>tg| .outL tg _=>tg| .res _ D j=>D.tg j
def jS:PO→Tg
 | .take=> "take" | .sub=> "cut" | .nez=> "nez" | .t=> "t" | .inr=> "in" | .inl=> "inl" | .ins=> "ins" | .btw lo hi=> "between " ++toString lo++ " " ++toString hi| .fits b=> "fits " ++toString b| .ready=> "ready" | .ne=> "ne" | .pre tg _=>tg| .owes D=>D.tg 0
def En.ex (e:En):Nat × Ex:=(e.x,⟨jO e.op,opF e.op,e.rs⟩)
def ObE.ob (o:ObE):Ob:=⟨o.pc,⟨jS o.po,poF o.po,o.rs⟩⟩
def mkD (nh k:Nat)(bes:List En)(pcn:Nat)(nxt:List Rf)(bos:List ObE)(fv:List Nat):Ae:=
 {nh,k,eqs:=(bes.map En.ex).reverse,pcn:=some pcn,nxt,obs:=bos.map ObE.ob,fv }
def hds:Nat→List Ty→Bx
 |_,[]=>[]
 |x,t::ts=>(x,t)::hds (x+1) ts
def hdU (T:Tab):Nat→List Ty→List U
 |_,[]=>[]
 |x,t::ts=>uV T t x::hdU T (x+1) ts
def uOf:Ty→U→U
 | .i,u=> .int u.toI
 | .b,u=> .bool u.toB
 | .l,u=> .list u.toL
 | .r _,u=>u
 | .s,u=> .str u.toS
def TyU:List Ty→List U→Prop
 |[],[]=>True
 |t::ts,u::us=>(u=uOf t u∧noR t=true)∧TyU ts us
 |_,_=>False
def Gm (fv:List Nat)(env:Bx):Bx:=env.filter fun p=>fv.contains p.1
section
variable {T:Tab}
theorem K8:∀{ts:List Ty} {rs:List Rf},ts.all noR=true→ts.length=rs.length→TyU ts (List.zipWith (uR T) ts rs)
 |[],[],_,_=>trivial
 |t::ts,r::rs,h0,h=>by
  simp only[List.all_cons,Bool.and_eq_true] at h0
  exact⟨⟨by cases t<;>rfl,h0.1⟩,K8 h0.2 (by simpa using h)⟩
 |[],_::_,_,h=>by simp at h
 |_::_,[],_,h=>by simp at h
theorem M6:∀{ts:List Ty} {us:List U} {x:Nat},TyU ts us→(∀j u,us[j]? =some u→T (x+j)=u)→AL T (hds x ts)∧hdU T x ts=us
 |[],[],_,_,_=>⟨trivial,rfl⟩
 |t::ts,u::us,x,h,hT=>by
  obtain⟨h1,h2⟩:=M6 (x:=x+1) h.2 fun j v hj=>by
   have:=hT (j+1) v (by simpa using hj)
   rw[show x+(j+1)=x+1+j by omega] at this
   exact this
  have h0:T.get x=u:=hT 0 u rfl
  have e:u=uV T t x:=by
   have:=h.1.1
   cases t<;>(simp only[uV,uR,iR,bR,lR,stR,Rf.eval];rw[show T x=u from h0];try exact this)
  exact⟨⟨cB t (h0.trans e) (fun c hc=>by have:=h.1.2;rw[hc] at this;cases this),h1⟩,by simp only[hdU];rw[h2,←e]⟩
 |[],_::_,_,h,_=>h.elim
 |_::_,[],_,h,_=>h.elim
theorem Dj {T2:Tab}{fv:List Nat}(hfv:∀x∈fv,T2.get x=T.get x):∀{env:Bx},AL T env→AL T2 (Gm fv env)
 |[],_=>trivial
 |(x,t)::r,h=>by
  unfold Gm
  rw[List.filter_cons]
  split
  ·rename_i hc
   have e:=hfv x (List.contains_iff_mem.1 hc)
   refine⟨?_,Dj hfv h.2⟩
   cases t with
   |r c=>
    have h1:ZW T x c:=h.1
    intro i
    obtain⟨n,hn⟩:=h1 i
    exact⟨n,by unfold L at hn⊢;rw[e];exact hn⟩
   |_=>
    have h1:=Sty.get h.1
    show T2.get x=_
    rw[e,h1]
    simp only[uV,uR,iR,bR,lR,stR,Rf.eval];rw[show T2 x=T x from e]
  ·exact Dj hfv h.2
theorem LU (bes:List En):IN (((bes.map En.ex).reverse).reverse)=bes.map En.be:=by
 rw[List.reverse_reverse];unfold IN;rw[List.map_map];rfl
theorem UX (bos:List ObE):Lm (bos.map ObE.ob)=bos.map ObE.be:=by
 unfold Lm;rw[List.map_map];rfl
def LA (D:Ae)(args:List Rf):Nat→Nat→List BE
 |_,0=>[]
 |j,k+1=>(D.nh+j,D.res j,args)::LA D args (j+1) k
theorem Lc {D:Ae}{args:List Rf}:∀{k j0:Nat},AX T (LA D args j0 k)→∀j,j < k→T (D.nh+(j0+j))=D.res (j0+j) (args.map (Rf.eval T))
 |0,_,_,j,hj=>by omega
 |k+1,j0,h,j,hj=>by
  cases j with
  |zero=>exact h.1
  |succ j=>
   have:=Lc h.2 j (by omega)
   rw[show j0+1+j=j0+(j+1) by omega] at this
   exact this
theorem BS {env:Bx}{nh k pcn top:Nat}{bes:List En}{bos:List ObE}{nxt inits:List Rf}{fv:List Nat}{tys:List Ty}(hsc:(mkD nh k bes pcn nxt bos fv).inScope top=true)(hn:inits.length=k)(hn2:nxt.length=k)(hn3:tys.length=k)(hnr:tys.all noR=true)
  (hS:AL T env) (hini:IH env tys inits=true) (hchk:cd (hds nh tys++Gm fv env) bes tys nxt=true)
  (hB:AX T (bes.map En.be)) (hH:AX T (LA (mkD nh k bes pcn nxt bos fv) (fv.map Rf.e++inits) 0 k))
  (Inv:List U→Prop) (μ:List U→Nat) (h0:Inv (List.zipWith (uR T) tys inits))
  (hstep:∀T2:Tab,(∀x∈fv,T2.get x=T.get x)→AI T2 bes→Inv (hdU T2 nh tys)→
   Ng T2 bos∧(B T2 pcn=true→Inv (List.zipWith (uR T2) tys nxt)∧μ (List.zipWith (uR T2) tys nxt) < μ (hdU T2 nh tys))):
  (mkD nh k bes pcn nxt bos fv).owes ((fv.map Rf.e++inits).map (Rf.eval T))∧AL T (hds nh tys)∧Inv (hdU T nh tys)∧¬B T pcn=true:=by
 have hI:inits.map (Rf.eval T)=List.zipWith (uR T) tys inits:=FU hS hini
 have hA:(fv.map Rf.e++inits).map (Rf.eval T)=fv.map T.get++List.zipWith (uR T) tys inits:=by
  rw[List.map_append,hI,List.map_map];rfl
 have hH':=fun j (hj:j < k)=>Lc hH j hj
 simp only[Nat.zero_add] at hH'
 rw[hA] at hH'
 rw[hA]
 have key:=PZ (D:=mkD nh k bes pcn nxt bos fv) (T:=T) (top:=top) (inits:=List.zipWith (uR T) tys inits) hsc (by simp[hn,hn3];rfl) hn2 (fun j hj=>hH' j hj)
  (fun p hp=>O1 (l:=((mkD nh k bes pcn nxt bos fv).eqs).reverse) (by rw[show (mkD nh k bes pcn nxt bos fv).eqs=(bes.map En.ex).reverse from rfl,LU];exact hB) p (List.mem_reverse.2 hp))
  (fun s=>TyU tys s∧Inv s) μ ⟨K8 hnr (by omega),h0⟩ (fun T2 s hs hfv hhd hb hi=>by
   obtain⟨i1,i2⟩:=hi
   obtain⟨s1,s2⟩:=M6 i1 hhd
   rw[show (mkD nh k bes pcn nxt bos fv).eqs=(bes.map En.ex).reverse from rfl,LU] at hb
   obtain⟨f1,f2⟩:=Ap (s1.append (Dj hfv hS)) hchk hb
   obtain⟨g1,g2⟩:=hstep T2 hfv f1 (by rw[show hdU T2 nh tys=s from s2];exact i2)
   refine⟨by rw[show (mkD nh k bes pcn nxt bos fv).obs=bos.map ObE.ob from rfl,UX];exact LG g1,fun hp=>?_⟩
   obtain⟨g3,g4⟩:=g2 (VR (pc:=some pcn) hp)
   show (TyU tys (nxt.map (Rf.eval T2))∧Inv (nxt.map (Rf.eval T2)))∧μ (nxt.map (Rf.eval T2)) < μ s
   rw[f2]
   rw[show hdU T2 nh tys=s from s2] at g4
   exact⟨⟨K8 hnr (by omega),g3⟩,g4⟩)
 obtain⟨q1,⟨t,⟨q2,q3⟩,q4,q5⟩,q6⟩:=key
 obtain⟨s1,s2⟩:=M6 q2 q5
 exact⟨q1,s1,by rw[show hdU T nh tys=t from s2];exact q3,fun h=>q6 (VD (pc:=some pcn) h)⟩
end
open Go
theorem O8 {T:Tab}{env:Bx}{nh k pcn top:Nat}{bes:List En}{bos:List ObE}{nxt inits:List Rf}{fv:List Nat}{tys:List Ty}(hsc:(mkD nh k bes pcn nxt bos fv).inScope top=true)(hn:inits.length=k)(hn2:nxt.length=k)(hn3:tys.length=k)(hnr:tys.all noR=true)
  (hS:AL T env) (hini:IH env tys inits=true)
  (hB:AX T (bes.map En.be)) (hH:AX T (LA (mkD nh k bes pcn nxt bos fv) (fv.map Rf.e++inits) 0 k))
  (Inv:List U→Prop) (μ:List U→Nat) (h0:Inv (List.zipWith (uR T) tys inits))
  (hstep:∀T2:Tab,(∀x∈fv,T2.get x=T.get x)→AL T2 (hds nh tys++Gm fv env)→AX T2 (bes.map En.be)→Inv (hdU T2 nh tys)→
   nxt.map (Rf.eval T2)=List.zipWith (uR T2) tys nxt∧Ng T2 bos∧(B T2 pcn=true→Inv (List.zipWith (uR T2) tys nxt)∧μ (List.zipWith (uR T2) tys nxt) < μ (hdU T2 nh tys))):
  (mkD nh k bes pcn nxt bos fv).owes ((fv.map Rf.e++inits).map (Rf.eval T))∧AL T (hds nh tys)∧Inv (hdU T nh tys)∧¬B T pcn=true:=by
 have hI:inits.map (Rf.eval T)=List.zipWith (uR T) tys inits:=FU hS hini
 have hA:(fv.map Rf.e++inits).map (Rf.eval T)=fv.map T.get++List.zipWith (uR T) tys inits:=by
  rw[List.map_append,hI,List.map_map];rfl
 have hH':=fun j (hj:j < k)=>Lc hH j hj
 simp only[Nat.zero_add] at hH'
 rw[hA] at hH'
 rw[hA]
 have key:=PZ (D:=mkD nh k bes pcn nxt bos fv) (T:=T) (top:=top) (inits:=List.zipWith (uR T) tys inits) hsc (by simp[hn,hn3];rfl) hn2 (fun j hj=>hH' j hj)
  (fun p hp=>O1 (l:=((mkD nh k bes pcn nxt bos fv).eqs).reverse) (by rw[show (mkD nh k bes pcn nxt bos fv).eqs=(bes.map En.ex).reverse from rfl,LU];exact hB) p (List.mem_reverse.2 hp))
  (fun s=>TyU tys s∧Inv s) μ ⟨K8 hnr (by omega),h0⟩ (fun T2 s hs hfv hhd hb hi=>by
   obtain⟨i1,i2⟩:=hi
   obtain⟨s1,s2⟩:=M6 i1 hhd
   rw[show (mkD nh k bes pcn nxt bos fv).eqs=(bes.map En.ex).reverse from rfl,LU] at hb
   obtain⟨f2,g1,g2⟩:=hstep T2 hfv (s1.append (Dj hfv hS)) hb (by rw[show hdU T2 nh tys=s from s2];exact i2)
   refine⟨by rw[show (mkD nh k bes pcn nxt bos fv).obs=bos.map ObE.ob from rfl,UX];exact LG g1,fun hp=>?_⟩
   obtain⟨g3,g4⟩:=g2 (VR (pc:=some pcn) hp)
   show (TyU tys (nxt.map (Rf.eval T2))∧Inv (nxt.map (Rf.eval T2)))∧μ (nxt.map (Rf.eval T2)) < μ s
   rw[f2]
   rw[show hdU T2 nh tys=s from s2] at g4
   exact⟨⟨K8 hnr (by omega),g3⟩,g4⟩)
 obtain⟨q1,⟨t,⟨q2,q3⟩,q4,q5⟩,q6⟩:=key
 obtain⟨s1,s2⟩:=M6 q2 q5
 exact⟨q1,s1,by rw[show hdU T nh tys=t from s2];exact q3,fun h=>q6 (VD (pc:=some pcn) h)⟩
def TV (D:Ae)(rs:List Rf):Nat→Nat→List Ty→List En
 |_,_,[]=>[]
 |j,x,t::ts=>⟨x,.res t D j,rs⟩::TV D rs (j+1) (x+1) ts
def Ax (D:Ae)(tys:List Ty)(rs:List Rf):List En:=TV D rs 0 D.nh tys
theorem SD {T:Tab}{D:Ae}{rs:List Rf}:∀{tys:List Ty} {j:Nat},AX T ((TV D rs j (D.nh+j) tys).map En.be)→AX T (LA D rs j tys.length)
 |[],_,_=>trivial
 |_::_,_,h=>⟨h.1,SD h.2⟩
theorem Ay {T:Tab}{D:Ae}{rs:List Rf}{tys:List Ty}(h:AX T ((Ax D tys rs).map En.be)):AX T (LA D rs 0 tys.length):=SD (j:=0) h
theorem fvI {T T2:Tab}{x:Nat}(h:T2.get x=T.get x):I T2 x=I T x:=by unfold I;rw[h]
theorem fvB {T T2:Tab}{x:Nat}(h:T2.get x=T.get x):B T2 x=B T x:=by unfold B;rw[h]
theorem fvL {T T2:Tab}{x:Nat}(h:T2.get x=T.get x):L T2 x=L T x:=by unfold L;rw[h]
theorem fvS {T T2:Tab}{x:Nat}(h:T2.get x=T.get x):S T2 x=S T x:=by unfold S;rw[h]
abbrev k64:Kd:= .int .i64 IntKind.i64.min IntKind.i64.max
abbrev CP (x:Nat):AC:= .i .i64 IntKind.i64.min IntKind.i64.max x
end Go.Eng
end
noncomputable section
namespace Go.Eng
open Go Go.RowKit
mutual
theorem KdU.up {B:Nat}(hB:B≤BF):∀{k:Kd} {u:U},KdU B k u→KdU BF k u
 | .int _ _ _,_,h=>h
 | .bool,_,h=>h
 | .str,_,⟨s,e,h⟩=>⟨s,e,Nat.le_trans h hB⟩
 | .val,_,_=>trivial
 | .any,_,_=>trivial
 | .list _,_,⟨l,e,h1,h2⟩=>⟨l,e,Nat.le_trans h1 hB,fun i us hi=>CO.up hB (h2 i us hi)⟩
theorem CO.up {B:Nat}(hB:B≤BF):∀{ks:List Kd} {us:List U},CO B ks us→CO BF ks us
 |[],_,h=>h
 |_::_,_,⟨u,us',e,h1,h2⟩=>⟨u,us',e,KdU.up hB h1,CO.up hB h2⟩
end
def Qn (B:Nat)(T:Tab):Nat→List Kd→Prop
 |_,[]=>True
 |x,.list _::ks=>(L T x).length≤B∧Qn B T (x+1) ks
 |x,_::ks=>Qn B T (x+1) ks
theorem W9 {B:Nat}{T:Tab}:∀{ks:List Kd} {us:List U} {x:Nat},CO B ks us→(∀j u,us[j]? =some u→T (x+j)=u)→Qn B T x ks
 |[],us,x,_,_=>trivial
 |k::ks,us,x,⟨u,us',e,h1,h2⟩,hT=>by
  subst e
  have ih:=W9 (x:=x+1) h2 fun j v hj=>by
   have:=hT (j+1) v (by simpa using hj)
   rw[show x+(j+1)=x+1+j by omega] at this
   exact this
  have h0:T.get x=u:=hT 0 u rfl
  cases k with
  |list es=>
   obtain⟨n,e1,e2,_⟩:=h1
   rw[e1] at h0
   exact⟨by rw[vL h0];exact e2,ih⟩
  |_=>exact ih
def TC (n:Nat)(r:Option (AC × Mem × G)):Option (Nat × List BE × List BO):=
 match r with
 |some (.b x,_,g)=>if QT n g then some (x,IN g.eqs.reverse,Lm g.obs) else none
 |_=>none
def Tw (P:Program)(l:List (FuncId × Ak))(Ag:FuncId→G4)(fuel depth:Nat)(f:FuncId)(as:List AC)(n:Nat):Option (AC × Mem × G):=
 Hw P (Lv l) Ag fuel depth Ys.none f as none [] { n,eqs:=[],obs:=[] }
theorem UR {P:Program}{w:World}{B:Nat}{H:Type}{enc:TypeId × Value→H}{sp:Nat→Bool}{held:Bool}{base:Nat}(hB:B≤BF)(hm:P.follows .mixedOrders=true){l:List (FuncId × Ak)}(hl:∀p∈l,Ao P p.1 p.2){Ag:FuncId→G4}{fuel depth dd:Nat}{f:FuncId}{ts:List TypeId}{as:List AC}{ks:List Kd}{x:Nat}{es:List En}{os:List ObE}
  (hargs:Fj P dd ts 0=some (as,ks)) (hrun:TC ks.length (Tw P l Ag fuel depth f as ks.length)=some (x,es.map En.be,os.map ObE.be))
  (hplain:∀T:Tab,AL T (BG 0 ks)→Bnd T 0 ks→Qn B T 0 ks→AX T (es.map En.be)→Ng T os∧Go.Eng.B T x=true)
  {vs:List Value} {ds:List (DataW H)} {ps:List MemPlace} (ht:DataW.TrodAll enc P w 0 sp held ts vs ds ps) (hv:∀(j:Nat) t v,ts[j]? =some t→vs[j]? =some v→Value.okWide P w .any base t v) (hs:∀d∈ds,Cs B d):
  Calls P f (vs:List Value).toArray w fun e W'=>e= .returned (.bool true)∧Below w.heap.size w W':=by
 unfold TC at hrun
 split at hrun
 ·rename_i x0 m' g' hr
  split at hrun
  ·rename_i hchk
   injection hrun with hrun
   injection hrun with e0 hrun
   injection hrun with e1 e2
   refine ip hB hm hl hargs hr hchk (fun T us hk hlen hT heqs=>?_) ht hv hs
   have hb:AX T (IN g'.eqs.reverse):=N4 fun p hp=>heqs p (List.mem_reverse.1 hp)
   rw[e1] at hb
   have hT0:∀j u,us[j]? =some u→T (0+j)=u:=fun j u hj=>by rw[Nat.zero_add];exact hT j u hj
   obtain⟨i1,i2⟩:=Uj (x:=0) (CO.up hB hk) hT0
   obtain⟨h1,h2⟩:=hplain T i1 i2 (W9 hk hT0) hb
   have h3:=LG h1
   rw[←e2] at h3
   refine⟨N7 h3,?_⟩
   rw[e0]
   exact VD (pc:=some x) h2
  ·cases hrun
 ·cases hrun
end Go.Eng
end
noncomputable section
namespace Go.Eng
open Go
inductive SE where
 |k (t:Ty) (r:Rf)
 |q (op:Opn) (rs:List Rf)
open Go
end Go.Eng
end
noncomputable section
namespace Go.Eng
open Go
theorem AI.cut {T:Tab}{a b:List En}(h:AI T (a++b)):AI T a∧AI T b:=⟨h.left,h.right⟩
theorem zN:(∀(T:Tab) (x:Nat),bR T (.n x)= !B T x)∧(∀b:Bool,((!b)=true)=(b=false))∧(∀b:Bool,(¬b=true)=(b=false)):=
 ⟨fun T x=>bR_n,fun b=>Bool.not_eq_true' b,fun b=>Bool.not_eq_true b⟩
theorem zC:(∀(T:Tab) (b:Bool),bR T (.c (.bool b))=b)∧((false=true)=False)∧(∀{α:Sort 1} (a:α),(a=a)=True)∧(∀p:Prop,(p∧True)=p)∧(∀p:Prop,(p∧False)=False)∧(∀p:Prop,(p∨False)=p)∧(∀p:Prop,(False∨p)=p)∧(∀p:Prop,(True∧p)=p)∧(∀p:Prop,(False∧p)=False):=
 ⟨fun T b=>bR_c,Bool.false_eq_true,fun a=>eq_self a,and_true,and_false,or_false,false_or,true_and,false_and⟩
theorem zB:(∀a b:Bool,((a&&b)=true)=(a=true∧b=true))∧(∀a b:Bool,((a||b)=true)=(a=true∨b=true))∧(∀b:Bool,(¬b=true)=(b=false))∧(∀b:Bool,((!b)=true)=(b=false))∧(∀a b:Bool,((!a)=b)=(a= !b))∧((!true)=false)∧((!false)=true)∧(∀(p:Prop) [Decidable p],(decide p=true)=p)∧(∀(p:Prop) [Decidable p],(decide p=false)=¬p):=
 ⟨fun a b=>Bool.and_eq_true a b,fun a b=>Bool.or_eq_true a b,fun b=>Bool.not_eq_true b,fun b=>Bool.not_eq_true' b,fun a b=>propext Bool.not_eq_eq_eq_not,Bool.not_true,Bool.not_false,fun p=>decide_eq_true_eq,fun p=>propext decide_eq_false_iff_not⟩
open Go
open Go
theorem zR:(∀(T:Tab) (x:Nat),iR T (.e x)=I T x)∧(∀(T:Tab) (n:Int),iR T (.c (.int n))=n):=
 ⟨fun T x=>iR_e,fun T n=>iR_c⟩
theorem zL:(∀(T:Tab) (x:Nat),lR T (.e x)=L T x)∧(∀T:Tab,lR T (.c (.list []))=[]):=
 ⟨fun T x=>lR_e,fun T=>lR_c⟩
theorem zS:(∀(T:Tab) (x:Nat),stR T (.e x)=S T x)∧(∀(T:Tab) (s:ByteArray),stR T (.c (.str s))=s):=
 ⟨fun T x=>ju,fun T s=>jh⟩
theorem zW:(∀(f:Ty→Rf→U) (a:Ty) (b:Rf) (l:List Ty) (r:List Rf),List.zipWith f (a::l) (b::r)=f a b::List.zipWith f l r)∧(∀(f:Ty→Rf→U) (r:List Rf),List.zipWith f [] r=[])∧(∀(a:U) (l:List U) (n:Nat),List.take (n+1) (a::l)=a::List.take n l)∧(∀l:List U,List.take 0 l=[])∧(∀(a:U) (l:List U) (n:Nat),List.drop (n+1) (a::l)=List.drop n l)∧(∀l:List U,List.drop 0 l=l):=
 ⟨fun _ _ _ _ _=>rfl,fun _ _=>rfl,fun _ _ _=>rfl,fun _=>rfl,fun _ _ _=>rfl,fun _=>rfl⟩
end Go.Eng
end
noncomputable section
namespace Go.Eng
structure Ln where
 name:ByteArray
 wide:Int
 long:Int
 yard:Int
 hoops:List (List U)
 px:Int
 py:Int
 pr:Int
 nx:Int
 ny:Int
 cells:List (List U)
def gAt (k:Nat)(us:List U):Ln:=⟨aS us k,aI us (k+1),aI us (k+2),aI us (k+3),aL us (k+4),aI us (k+5),aI us (k+6),aI us (k+7),aI us (k+8),aI us (k+9),aL us (k+10)⟩
theorem Cu {T:Tab}{us:List U}{k n:Nat}(h:∀j u,us[j]? =some u→T j=u)(hl:us.length=n)(hk:k+11≤n):
  gAt k us=Ln.mk (S T k) (I T (k+1)) (I T (k+2)) (I T (k+3)) (L T (k+4)) (I T (k+5)) (I T (k+6)) (I T (k+7)) (I T (k+8)) (I T (k+9)) (L T (k+10)):=by
 unfold gAt
 rw[inS h hl (by omega),inI h hl (by omega),inI h hl (by omega),inI h hl (by omega),inL h hl (by omega),inI h hl (by omega),inI h hl (by omega),inI h hl (by omega),inI h hl (by omega),inI h hl (by omega),inL h hl (by omega)]
def Cx (x lo hi:Int):Bool:=decide (lo≤x)&&decide (x≤hi)
theorem Bo {x lo hi:Int}:Cx x lo hi=true↔(lo≤x∧x≤hi):=by simp[Cx]
def Gp (b:UInt8):Bool:=(decide (97≤b.toNat)&&decide (b.toNat≤122))||(decide (48≤b.toNat)&&decide (b.toNat≤57))
def BC (s:ByteArray):Bool:=decide (1≤s.size)&&decide (s.size≤20)&&s.data.toList.all Gp
def uI (u:List U)(c:Nat):Int:=(u.getD c default).toI
def uB (u:List U)(c:Nat):Bool:=(u.getD c default).toB
def BI (x y gap wire:Int):Bool:=Cx x 0 4194304&&Cx y 0 4194304&&Cx gap 2 32768&&decide (gap % 2=0)&&Cx wire 1 8192
def Yh (u:List U):Bool:=BI (uI u 0) (uI u 1) (uI u 2) (uI u 3)
def BT (d x y:Int):Bool:=Cx d 0 65536&&Cx x (-4096) 4096&&Cx y (-4096) 4096
def G5 (u:List U):Bool:=BT (uI u 0) (uI u 1) (uI u 2)
def MJ (x y r:Int):List U:=[.int x,.int y,.int r]
def IY (x y gap wire:Int)(along:Bool):List (List U):=
 if along=true then [MJ x (y - (gap / 2+wire)) wire,MJ x (y+(gap / 2+wire)) wire] else [MJ (x - (gap / 2+wire)) y wire,MJ (x+(gap / 2+wire)) y wire]
def Bv (u:List U):List (List U):=IY (uI u 0) (uI u 1) (uI u 2) (uI u 3) (uB u 4)
def CS (h:List (List U))(px py pr:Int):List (List U):=h.flatMap Bv++[MJ px py pr]
def AN (l:Ln):List (List U):=CS l.hoops l.px l.py l.pr
def sq (ax ay bx by_:Int):Int:=(ax - bx)*(ax - bx)+(ay - by_)*(ay - by_)
def Ua (wide long:Int)(u:List U):Bool:=Cx (uI u 0) (uI u 2) (wide - uI u 2)&&Cx (uI u 1) (uI u 2) (long - uI u 2)
def Yw (u v:List U):Bool:=decide (sq (uI u 0) (uI u 1) (uI v 0) (uI v 1) < (uI u 2+uI v 2)*(uI u 2+uI v 2))
def RO (p:List (List U))(u:List U)(k:Nat):Bool:=(p.take k).all fun v=> !Yw u v
def Dm (wide long:Int)(p:List (List U)):Bool:=(List.range p.length).all fun i=>Ua wide long (p.getD i [])&&RO p (p.getD i []) i
def Jk (l:Ln):Bool:=decide (l.hoops.length < 1)||decide (12 < l.hoops.length)||decide (256 < l.cells.length)
def UA (l:Ln):Bool:=
 BC l.name&&Cx l.wide 65536 4194304&&Cx l.long 65536 4194304&&Cx l.yard 0 ((if l.wide≤l.long then l.wide else l.long) / 4)&&Cx l.pr 1 8192&&Cx l.nx 1 16&&Cx l.ny 1 16&&decide ((l.cells.length:Int)=l.nx*l.ny)
def MA (l:Ln):Bool:=UA l&&l.hoops.all Yh&&l.cells.all G5&&Dm l.wide l.long (AN l)
def AO (l:Ln):Int:=if Jk l=true then 6 else if MA l=true then 0 else 2
def AF (x y:Int):Bool:=Cx x (-4194304) 4194304&&Cx y (-4194304) 4194304
def A7 (l:Ln)(x y:Int):Int:=if¬AO l=0 then AO l else if AF x y=true then 0 else 2
def Bn (r:Int):Bool:=Cx r 1 16384
def Aq (u:List U):Bool:=AF (uI u 0) (uI u 1)&&Bn (uI u 2)
def AT (r:Int)(others:List (List U)):Int:=if¬Bn r=true then 3 else if 12 < others.length then 6 else if others.all Aq=true then 0 else 2
def CR (ax ay bx by_ cx cy s:Int):Bool:=
 let dot:=(bx - ax)*(cx - ax)+(by_ - ay)*(cy - ay)
 let long:=(bx - ax)*(bx - ax)+(by_ - ay)*(by_ - ay)
 let cross:=(bx - ax)*(cy - ay) - (by_ - ay)*(cx - ax)
 if dot≤0 then decide (sq ax ay cx cy < s*s) else if long≤dot then decide (sq bx by_ cx cy < s*s) else decide (cross*cross < long*(s*s))
def Av (ax ay bx by_ r:Int)(d:List (List U))(n:Nat):List (List U):=
 (List.range n).filterMap fun i=>if CR ax ay bx by_ (uI (d.getD i []) 0) (uI (d.getD i []) 1) (r+uI (d.getD i []) 2)=true then some [U.int i] else none
def Cf (l:Ln)(ax ay bx by_ r:Int)(others:List (List U)):Int:=
 if¬A7 l ax ay=0 then A7 l ax ay else if¬AF bx by_=true then 2 else AT r others
def E3 (l:Ln)(ax ay bx by_ r:Int)(others:List (List U)):List (List U):=
 if Cf l ax ay bx by_ r others=0 then Av ax ay bx by_ r (AN l++others) (AN l++others).length else []
theorem aN (a b:Int):a*b=(a / 4294967296)*(b / 4294967296)*18446744073709551616+((a % 4294967296)*(b / 4294967296)+(a / 4294967296)*(b % 4294967296))*4294967296+(a % 4294967296)*(b % 4294967296):=by
 have h1:a=a / 4294967296*4294967296+a % 4294967296:=by omega
 have h2:b=b / 4294967296*4294967296+b % 4294967296:=by omega
 generalize a / 4294967296=x at*
 generalize a % 4294967296=y at*
 generalize b / 4294967296=u at*
 generalize b % 4294967296=v at*
 subst h1 h2
 grind
theorem OF {a b:Int}(h1:0≤a)(h2:a≤4294967295)(h3:0≤b)(h4:b≤4294967295):0≤a*b∧a*b≤18446744065119617025:=
 ⟨Int.mul_nonneg h1 h3,Int.mul_le_mul h2 h4 h3 (by omega)⟩
theorem dD {a b:Int}(h1:0≤a)(h2:a≤18446744073709551615)(h3:0≤b)(h4:b≤18446744073709551615):
  (0≤(a % 4294967296)*(b % 4294967296)∧(a % 4294967296)*(b % 4294967296)≤18446744065119617025)∧
  (0≤(a % 4294967296)*(b / 4294967296)∧(a % 4294967296)*(b / 4294967296)≤18446744065119617025)∧
  (0≤(a / 4294967296)*(b % 4294967296)∧(a / 4294967296)*(b % 4294967296)≤18446744065119617025)∧
  (0≤(a / 4294967296)*(b / 4294967296)∧(a / 4294967296)*(b / 4294967296)≤18446744065119617025):=
 ⟨OF (by omega) (by omega) (by omega) (by omega),OF (by omega) (by omega) (by omega) (by omega),OF (by omega) (by omega) (by omega) (by omega),OF (by omega) (by omega) (by omega) (by omega)⟩
theorem fA (n:Int):IntKind.u64.wrap n=n % 18446744073709551616:=by simp[IntKind.wrap,IntKind.signed,IntKind.bits]
theorem CX {p:List U→Bool}:∀{l:List (List U)},l.all p=true↔∀j:Nat,j < l.length→p (l.getD j [])=true:=by
 intro l
 rw[List.all_eq_true]
 constructor
 ·intro h j hj
  rw[List.getD_eq_getElem?_getD,List.getElem?_eq_getElem hj]
  exact h _ (List.getElem_mem hj)
 ·intro h x hx
  obtain⟨j,hj,rfl⟩:=List.getElem_of_mem hx
  have:=h j hj
  rwa [List.getD_eq_getElem?_getD,List.getElem?_eq_getElem hj] at this
theorem Mp {p:List U→Bool}{l:List (List U)}{j:Nat}(hj:j < l.length)(h:¬p (l.getD j [])=true):¬l.all p=true:=fun q=>h (CX.1 q j hj)
def B6 (l:List (List U)):Bool:=l.all fun u=>AF (uI u 0) (uI u 1)
theorem Up {l:List (List U)}:B6 l=true↔∀j:Nat,j < l.length→AF (AA l j 0) (AA l j 1)=true:=CX
theorem Af {x y:Int}:AF x y=true↔((-4194304≤x∧x≤4194304)∧(-4194304≤y∧y≤4194304)):=by simp only[AF,Bo,Bool.and_eq_true]
theorem TF (x y:Int):B6 [[.int x,.int y]]=AF x y:=by simp[B6,uI,U.toI]
theorem Cp {a b A B:Int}(ha: -A≤a∧a≤A)(hb: -B≤b∧b≤B): -(A*B)≤a*b∧a*b≤A*B:=by
 obtain⟨a1,a2⟩:=ha
 obtain⟨b1,b2⟩:=hb
 have hA:0≤A:=by omega
 have hB:0≤B:=by omega
 have key:∀x y:Int,x≤A→ -A≤x→0≤y→y≤B→x*y≤A*B∧ -(A*B)≤x*y:=by
  intro x y h1 h2 h3 h4
  have p1:=Int.mul_le_mul_of_nonneg_right h1 h3
  have p2:=Int.mul_le_mul_of_nonneg_left h4 hA
  have p3:=Int.mul_le_mul_of_nonneg_right h2 h3
  rw[Int.neg_mul] at p3
  omega
 rcases Int.le_total 0 b with h|h
 ·have:=key a b a2 a1 h b2
  omega
 ·have:=key a (-b) a2 a1 (by omega) (by omega)
  rw[Int.mul_neg] at this
  omega
theorem sqB {a A:Int}(ha: -A≤a∧a≤A):0≤a*a∧a*a≤A*A:=by
 refine⟨?_,(Cp ha ha).2⟩
 rcases Int.le_total 0 a with h|h
 ·exact Int.mul_nonneg h h
 ·have:=Int.mul_nonneg (a:= -a) (b:= -a) (by omega) (by omega)
  rwa [Int.neg_mul_neg] at this
theorem I4 {ax ay bx by_ cx cy s dot long cross qa qb ss:Int}(h1:dot=(bx - ax)*(cx - ax)+(by_ - ay)*(cy - ay))(h2:long=(bx - ax)*(bx - ax)+(by_ - ay)*(by_ - ay))
  (h3:cross=(bx - ax)*(cy - ay) - (by_ - ay)*(cx - ax)) (h4:qa=(ax - cx)*(ax - cx)+(ay - cy)*(ay - cy)) (h5:qb=(bx - cx)*(bx - cx)+(by_ - cy)*(by_ - cy)) (h6:ss=s*s):
  CR ax ay bx by_ cx cy s=if dot≤0 then decide (qa < ss) else if long≤dot then decide (qb < ss) else decide (cross*cross < long*ss):=by
 subst h1 h2 h3 h4 h5 h6
 rfl
theorem iY {m n:Int}(h:n=if m≤ -m then -m else m):n*n=m*m:=by
 subst h
 split
 ·exact Int.neg_mul_neg m m
 ·rfl
def orS:List (List U)→Int
 |[]=>0
 |u::r=>if uI u 0=0 then orS r else uI u 0
theorem fo {l:List (List U)}{i:Nat}(h:i < l.length):l.drop i=l.getD i []::l.drop (i+1):=by
 rw[List.drop_eq_getElem_cons h,List.getD_eq_getElem?_getD,List.getElem?_eq_getElem h]
 rfl
theorem TP {l:List (List U)}{i:Nat}(h:i < l.length):orS (l.drop i)=if AA l i 0=0 then orS (l.drop (i+1)) else AA l i 0:=by
 rw[fo h]
 rfl
def EY (x y:Int):Int:=if x < y then -1 else if y < x then 1 else 0
def Hi (ax ay bx by_ cx cy s:Int):Int:=
 let dot:=(bx - ax)*(cx - ax)+(by_ - ay)*(cy - ay)
 let long:=(bx - ax)*(bx - ax)+(by_ - ay)*(by_ - ay)
 let cross:=(bx - ax)*(cy - ay) - (cx - ax)*(by_ - ay)
 let qa:=(cx - ax)*(cx - ax)+(cy - ay)*(cy - ay)
 let qb:=(cx - bx)*(cx - bx)+(cy - by_)*(cy - by_)
 if dot≤0∨long≤dot then EY (if qa≤qb then qa else qb) (s*s) else EY (cross*cross) (s*s*long)
theorem Xj {ax ay bx by_ cx cy s dot long cross qa qb ss:Int}(h1:dot=(bx - ax)*(cx - ax)+(by_ - ay)*(cy - ay))(h2:long=(bx - ax)*(bx - ax)+(by_ - ay)*(by_ - ay))
  (h3:cross=(bx - ax)*(cy - ay) - (cx - ax)*(by_ - ay)) (h4:qa=(cx - ax)*(cx - ax)+(cy - ay)*(cy - ay)) (h5:qb=(cx - bx)*(cx - bx)+(cy - by_)*(cy - by_)) (h6:ss=s*s):
  Hi ax ay bx by_ cx cy s=if dot≤0∨long≤dot then EY (if qa≤qb then qa else qb) ss else EY (cross*cross) (ss*long):=by
 subst h1 h2 h3 h4 h5 h6
 rfl
theorem or2 (a b:Int):orS [[.int a],[.int b]]=if a=0 then b else a:=by
 show (if a=0 then (if b=0 then 0 else b) else a)=_
 split
 ·split
  ·rename_i h;exact h.symm
  ·rfl
 ·rfl
theorem eB (x y:Int):(if x / 18446744073709551616=y / 18446744073709551616∧x % 18446744073709551616=y % 18446744073709551616 then 0 else if EY (x / 18446744073709551616) (y / 18446744073709551616)=0 then EY (x % 18446744073709551616) (y % 18446744073709551616) else EY (x / 18446744073709551616) (y / 18446744073709551616))=EY x y:=by
 unfold EY
 repeat' split
 all_goals first|rfl|omega
theorem cP (ax ay bx by_ cx cy s:Int):Hi ax ay bx by_ cx cy s < 0↔CR ax ay bx by_ cx cy s=true:=by
 rw[Xj rfl rfl rfl rfl rfl rfl,I4 rfl rfl rfl rfl rfl rfl]
 have hq:(cx - bx)*(cx - bx)+(cy - by_)*(cy - by_)=((cx - ax)*(cx - ax)+(cy - ay)*(cy - ay)) - 2*((bx - ax)*(cx - ax)+(by_ - ay)*(cy - ay))+((bx - ax)*(bx - ax)+(by_ - ay)*(by_ - ay)):=by grind
 have hl:0≤(bx - ax)*(bx - ax)+(by_ - ay)*(by_ - ay):=by
  have q1:∀z:Int,0≤z*z:=fun z=>by
   rcases Int.le_total 0 z with h|h
   ·exact Int.mul_nonneg h h
   ·have:=Int.mul_nonneg (a:= -z) (b:= -z) (by omega) (by omega)
    rwa [Int.neg_mul_neg] at this
  have:=q1 (bx - ax)
  have:=q1 (by_ - ay)
  omega
 have ha:(ax - cx)*(ax - cx)+(ay - cy)*(ay - cy)=(cx - ax)*(cx - ax)+(cy - ay)*(cy - ay):=by grind
 have hb:(bx - cx)*(bx - cx)+(by_ - cy)*(by_ - cy)=(cx - bx)*(cx - bx)+(cy - by_)*(cy - by_):=by grind
 have hc:(bx - ax)*(cy - ay) - (by_ - ay)*(cx - ax)=(bx - ax)*(cy - ay) - (cx - ax)*(by_ - ay):=by grind
 rw[ha,hb,hc,Int.mul_comm (s*s)]
 generalize (bx - ax)*(cx - ax)+(by_ - ay)*(cy - ay)=dot at*
 generalize (bx - ax)*(bx - ax)+(by_ - ay)*(by_ - ay)=long at*
 generalize (cx - ax)*(cx - ax)+(cy - ay)*(cy - ay)=qa at*
 generalize (cx - bx)*(cx - bx)+(cy - by_)*(cy - by_)=qb at*
 unfold EY
 repeat' split
 all_goals simp only[decide_eq_true_eq]
 all_goals omega
theorem fM (a b c d:Int):B6 [[.int a,.int b],[.int c,.int d]]=true↔(AF a b=true∧AF c d=true):=by simp[B6,uI,U.toI]
theorem jV (a b c d e f:Int):B6 [[.int a,.int b],[.int c,.int d],[.int e,.int f]]=true↔(AF a b=true∧AF c d=true∧AF e f=true):=by simp[B6,uI,U.toI]
def Cv (ax ay ar bx by_ br:Int):Int:=
 if AF ax ay=true∧AF bx by_=true∧1≤ar∧ar≤65536∧1≤br∧br≤65536 then EY ((bx - ax)*(bx - ax)+(by_ - ay)*(by_ - ay)) ((ar+br)*(ar+br)) else 0
theorem MR {h:List (List U)}{i:Nat}(hi:i < h.length):(h.take (i+1)).flatMap Bv=(h.take i).flatMap Bv++Bv (h.getD i []):=by
 rw[List.take_add_one,List.getElem?_eq_getElem hi,List.flatMap_append,List.getD_eq_getElem?_getD,List.getElem?_eq_getElem hi]
 simp
theorem aa (u:List U):(Bv u).length=2:=by
 unfold Bv IY
 split<;>rfl
theorem DQ (h:List (List U)):(h.flatMap Bv).length=2*h.length:=by
 induction h with
 |nil=>rfl
 |cons u h ih=>rw[List.flatMap_cons,List.length_append,aa,ih,List.length_cons];omega
def BN (h:List (List U)):Bool:=h.all Yh
theorem Gc {h:List (List U)}:BN h=true↔∀j:Nat,j < h.length→BI (AA h j 0) (AA h j 1) (AA h j 2) (AA h j 3)=true:=CX
theorem JR {x y gap wire:Int}:BI x y gap wire=true↔((0≤x∧x≤4194304)∧(0≤y∧y≤4194304)∧(2≤gap∧gap≤32768)∧gap % 2=0∧(1≤wire∧wire≤8192)):=by
 simp only[BI,Bo,Bool.and_eq_true,decide_eq_true_eq,and_assoc]
def Bs (l:List (List U)):List (List U):=l.flatMap fun u=>(u.getD 0 default).toL
theorem OW {l:List (List U)}{i:Nat}(hi:i < l.length):Bs (l.take (i+1))=Bs (l.take i)++FK l i 0:=by
 unfold Bs FK
 have e:l.getD i []=l[i]:=by rw[List.getD_eq_getElem?_getD,List.getElem?_eq_getElem hi];rfl
 rw[List.take_add_one,List.getElem?_eq_getElem hi,List.flatMap_append,e]
 simp
theorem QE {l:List (List U)}(h:∀j:Nat,(FK l j 0).length≤1000):∀i:Nat,i≤l.length→(Bs (l.take i)).length≤1000*i
 |0,_=>by simp[Bs]
 |i+1,hi=>by
  rw[OW (by omega),List.length_append]
  have:=QE h i (by omega)
  have:=h i
  omega
theorem gq (a b:List (List U)):Bs [[.list a],[.list b]]=a++b:=by simp[Bs,U.toL]
theorem Bp {r:Int}:Bn r=true↔(1≤r∧r≤16384):=by simp only[Bn,Bo]
theorem DB {l:List (List U)}{j:Nat}:Aq (l.getD j [])=true↔(AF (AA l j 0) (AA l j 1)=true∧1≤AA l j 2∧AA l j 2≤16384):=by
 show (AF (AA l j 0) (AA l j 1)&&Bn (AA l j 2))=true↔_
 rw[Bool.and_eq_true,Bp]
end Go.Eng
end
noncomputable section
namespace Go.Eng
open Go Go.RowKit
theorem AJ.below {T:Tab}{n:Nat}{ρ :Nat→Option Nat}{w w':World}(h:Below w.heap.size w w'):AJ T n ρ [] w ρ [] w' where
 os:=h.os
 tape:=h.tape
 output:=h.output
 size:=h.size
 mlen:=fun _ h=>h
 rho:=fun id h=>by simp[Mem.at,Blk.ptrOk] at h
 untr:=fun _ _ h=>h
 fresh:=fun id b _ h _=>by simp[Mem.at,Blk.tracked] at h
 old:=fun k hk _=>h.block k hk
 tok:=fun id x ks e h=>by simp[Mem.at] at h
 row:=fun id x y ks e h=>by simp[Mem.at] at h
theorem AH.below {T:Tab}{n n':Nat}{ρ ρ':Nat→Option Nat}{w w':World}(hm:AH T n ρ [] w)(h:Below w.heap.size w w'):AH T n' ρ' [] w' where
 blk:=fun id=>by simp[Mem.at,BU]
 inj:=fun id id' b h=>by simp[Mem.at,Blk.tracked] at h
 fr:=fun b off hb=>hm.fr b off (Nat.le_trans h.size hb)
theorem Yk {P:Program}{f:FuncId}{t:Ak}(hb:t.blks=[])(hm':t.m'=[])(hlook:∃fn,P.funcs[f]? =some fn∧fn.body.isSome=true∧(fn.name== "runtime.NumGoroutine")=false)
  (h:∀(T:Tab) (us:List U),us.length=t.n→(∀j u,(t.us us)[j]? =some u→T j=u)→(∀p∈t.pre,p.2 us)→∀ ρ w vs,AD T t.n ρ [] w t.args vs→
   Calls P f (vs:List Value).toArray w fun e w'=>∃v,e= .returned v∧Below w.heap.size w w'∧AB T (t.n+t.outs.length) ρ [] w' t.c v):Ao P f t:=by
 refine⟨fun _=>⟨⟨0,[],.nil⟩, #[],.skip,.skip,[]⟩,fun T us _ hl hT hp ρ w vs hv hm=>⟨hlook,?_⟩⟩
 have em:t.m=[]:=by unfold Ak.m;rw[hb];rfl
 rw[em] at hv hm⊢
 rw[hm']
 exact (h T us hl hT hp ρ w vs hv).mono fun e w' ⟨v,e1,e2,e3⟩=>⟨v, ρ,e1,AJ.below e2,hm.below e2,e3⟩
end Go.Eng
end
