/-
  A part of the proof: the evaluator of code and its soundness.
-/
import Derived.Test.YtcinpabggaepfaaE2
import Derived.Carry
import Derived.ChangeSame
set_option linter.unusedVariables false
set_option linter.unusedSimpArgs false
noncomputable section
namespace Go.Eng
open Go Go.RowKit
theorem Tk {ren:List (Nat × Nat)}{ma:Mem}:∀{r:List (Nat × Nat)} {m:Mem} {prs:List (Nat × Rf)} {ps:List Pr},IX ren ma r m=some (prs,ps)→
  ∀x∈prs,∃(i j id:Nat) (b:Blk) (p:List (Nat × Rf)) (q:List Pr),r[i]? =some (j,id)∧m[i]? =some b∧O0 ren b (ma.at id)=some (p,q)∧x∈p
 |[],[],prs,ps,h,x,hx=>by simp only[IX] at h;cases h;cases hx
 |(j0,id0)::r,b0::m,prs,ps,h,x,hx=>by
  simp only[IX] at h
  obtain⟨p1,q1,p2,q2,h1,h2,rfl,rfl⟩:=KZ h
  rcases List.mem_append.1 hx with hx|hx
  ·exact⟨0,j0,id0,b0,p1,q1,rfl,rfl,h1,hx⟩
  ·obtain⟨i,j,id,b,p,q,z1,z2,z3,z4⟩:=Tk h2 x hx
   exact⟨i+1,j,id,b,p,q,by simpa using z1,by simpa using z2,z3,z4⟩
 |[],_::_,_,_,h,_,_=>by simp[IX] at h
 |_::_,[],_,_,h,_,_=>by simp[IX] at h
theorem kV {T2:Tab}{n n':Nat}{ρ2 ρ2':Nat→Option Nat}{m m':Mem}{w w':World}(hr:∀id,(m.at id).ptrOk=true→ ρ2' id= ρ2 id){h:AC}{u u':Value}(hd:det h=true)(h1:AB T2 n ρ2 m w h u)(h2:AB T2 n' ρ2' m' w' h u'):u'=u:=by
 cases h<;>simp only[det] at hd<;>try (cases hd;done)
 case cb b=>rw[show u=_ from h1,show u'=_ from h2]
 case b x=>
  obtain⟨_,b,e1,e2⟩:=h1
  obtain⟨_,b',e3,e4⟩:=h2
  rw[e1] at e3;cases e3
  rw[e2,e4]
 case ci k i=>rw[show u=_ from h1,show u'=_ from h2]
 case i k lo hi x=>
  obtain⟨_,b,e1,e2,_⟩:=h1
  obtain⟨_,b',e3,e4,_⟩:=h2
  rw[e1] at e3;cases e3
  rw[e2,e4]
 case cv c=>rw[show u=_ from h1,show u'=_ from h2]
 case v x=>
  obtain⟨_,e1,_⟩:=h1
  obtain⟨_,e3,_⟩:=h2
  rw[e1] at e3;injection e3 with e3;exact e3.symm
 case s x=>
  obtain⟨_,b,e1,e2⟩:=h1
  obtain⟨_,b',e3,e4⟩:=h2
  rw[e1] at e3;cases e3
  rw[e2,e4]
 case ptr id off=>
  obtain⟨b,e1,e2,e3⟩:=h1
  obtain⟨b',e4,e5,_⟩:=h2
  rw[hr id e3,e1] at e4
  cases e4
  rw[e2,e5]
theorem QM {T T2:Tab}{n n' gn gn':Nat}{ρ ρ2 ρ2' ρ':Nat→Option Nat}{ma mt m2 mo:Mem}{w w':World}{up:AC→AC}(hst:AO T gn ρ ma w ρ' mo w')(hn:gn≤gn')(hr:∀id,(mt.at id).ptrOk=true→ ρ2' id= ρ2 id)
  (hup:∀h v,AB T2 n' ρ2' m2 w' h v→AB T gn' ρ' mo w' (up h) v):∀{l0 l l':List AC} {vs vs':List Value},l0.length=l.length→l.length=l'.length→AE T2 n ρ2 mt w l0 vs→AE T gn ρ ma w l vs→AE T2 n' ρ2' m2 w' l' vs'→AE T gn' ρ' mo w' (Sv up l0 l l') vs'
 |[],[],[],vs,vs',_,_,_,_,h=>h
 |h0::l0,c::l,h::l',vs,vs',e1,e2,⟨u0,us0,f0,a1,a2⟩,⟨u1,us1,f,b1,b2⟩,⟨u,us,f3,c1,c2⟩=>by
  subst f0;subst f3
  injection f with f1 f2
  subst f1;subst f2
  refine⟨u,us,rfl,?_,QM hst hn hr hup (by simpa using e1) (by simpa using e2) a2 b2 c2⟩
  split
  ·rename_i hc
   rw[Bool.and_eq_true] at hc
   have e:=AC.beq_eq _ _ hc.2
   subst e
   rw[kV hr hc.1 a1 c1]
   exact AB.mono0 hst hn _ _ b1
  ·exact hup _ _ c1
 |[],_::_,_,_,_,e,_,_,_,_=>by simp at e
 |_::_,[],_,_,_,e,_,_,_,_=>by simp at e
 |[],[],_::_,_,_,_,e,_,_,_=>by simp at e
 |_::_,_::_,[],_,_,_,e,_,_,_=>by simp at e
theorem gE {T T2:Tab}{n' gn':Nat}{ρ2' ρ':Nat→Option Nat}{m2 mo:Mem}{w':World}{up:AC→AC}(hup:∀h v,AB T2 n' ρ2' m2 w' h v→AB T gn' ρ' mo w' (up h) v):∀{l:List AC} {vs:List Value},AE T2 n' ρ2' m2 w' l vs→AE T gn' ρ' mo w' (l.map up) vs
 |[],_,h=>h
 |c::l,vs,⟨u,us,e,h1,h2⟩=>⟨u,us,e,hup _ _ h1,gE hup h2⟩
theorem kL (a b:Mem)(id:Nat):Mem.at (a++b) id=if id < a.length then a.at id else b.at (id - a.length):=by
 unfold Mem.at
 rw[List.getElem?_append]
 split<;>rfl
theorem kK (m:Mem)(nt i:Nat)(f:Blk→Blk):Mem.at ((m.drop nt).map f) i=if nt+i < m.length then f (m.at (nt+i)) else .pad:=by
 unfold Mem.at
 rw[List.getElem?_map,List.getElem?_drop]
 by_cases h:nt+i < m.length
 ·rw[if_pos h,List.getElem?_eq_getElem h];rfl
 ·rw[if_neg h,List.getElem?_eq_none (by omega)];rfl
theorem gS {P:Program}{f:FuncId}{t:Bc}(ht:CA P f t):∀(T:Tab) (ys:Ys) (args:List AC) (pc:PC) (ma:Mem) (g:G) (c':AC) (mo:Mem) (g':G),X0 t ys f args pc ma g=some (c',mo,g')→
  Aa g g'∧(Agr T g'→BH T g'→pcv T pc→CG T g pc→∀ ρ w vs,AE T g.n ρ ma w args vs→AP T g.n ρ ma w→
   (∃fn,P.funcs[f]? =some fn∧fn.body.isSome=true∧(fn.name== "runtime.NumGoroutine")=false)∧Calls P f (vs:List Value).toArray w (Km T g ρ ma w c' mo g')):=by
 intro T ys args pc ma g c' mo g' hap
 obtain⟨lp0,ht⟩:=ht
 unfold X0 at hap
 simp only at hap
 generalize hren:WC t.args args=ren at hap
 split at hap
 ·rename_i hc
  simp only[Bool.and_eq_true] at hc
  obtain⟨⟨⟨hc1,hc2⟩,hc3⟩,hc4⟩:=hc
  split at hap
  ·rename_i prs ps hb
   split at hap
   ·rename_i hc5
    have hfst:=Ls hc5
    simp only[Option.some.injEq,Prod.mk.injEq] at hap
    obtain⟨e1,e2,e3⟩:=hap
    generalize hrs:prs.map (·.2)=rs at e1 e2 e3
    obtain⟨p1,q1,p2,q2,hb1,hb2,hp12,hq12⟩:=KZ hb
    generalize hg1:g.needAll pc (ps++t.pre.map fun x=>(⟨x.1,x.2,rs⟩:Pr))=g1 at e3
    have n1:g1.n=g.n:=by rw[←hg1];exact (D1 _ _ _).1
    have gr1:Aa g g1:=by rw[←hg1];exact Aa.need _ _ _
    have gr2:Aa g1 g':=by rw[←e3];exact Aa.push _ _
    refine⟨gr1.trans gr2,fun hA hob hpc hpk ρ w vs hvs hm=>?_⟩
    have hgn':g.n+t.outs.length=g'.n:=by rw[←e3,CF,n1];simp
    have hnew:New T g1.n (t.outs.map fun x=>(⟨x.1,x.2,rs⟩:Ex)):=by rw[←e3] at hA;exact hA.new
    have hps:∀p∈ps++t.pre.map fun x=>(⟨x.1,x.2,rs⟩:Pr),p.holds T:=by
     have:=hob.of gr2
     rw[←hg1] at this
     exact BH.need this hpc
    have hplen:prs.length=t.n:=by have:=congrArg List.length hfst;simpa using this
    have hrl:rs.length=t.n:=by rw[←hrs];simpa using hplen
    have hprs:∀p∈prs,p.1 < t.n∧rs[p.1]? =some p.2:=fun p hp=>by
     obtain⟨i,hi⟩:=List.mem_iff_getElem?.1 hp
     have h1:(prs.map (·.1))[i]? =some p.1:=by simp[hi]
     rw[hfst] at h1
     obtain⟨h2,h3⟩:=List.getElem?_eq_some_iff.1 h1
     simp at h2 h3
     subst h3
     exact⟨h2,by rw[←hrs];simp[hi]⟩
    let us:=rs.map (Rf.eval T)
    have husl:us.length=t.n:=by simp[us,hrl]
    let T2:Tab:=⟨fun x=>(t.us us).getD x default,fun b off=>w.heap.size≤b∨BN T ρ ma w b off,lp0,0⟩
    have hT2:∀j u,(t.us us)[j]? =some u→T2 j=u:=fun j u hj=>by
     show (t.us us).getD j default=u
     simp[List.getD,hj]
    have hT2o:∀x r,rs[x]? =some r→T2 x=r.eval T:=fun x r hx=>hT2 x _ (by
     unfold Bc.us
     have hxl:=(List.getElem?_eq_some_iff.1 hx).1
     rw[List.getElem?_append_left (by omega)]
     simp[us,hx])
    have hT2n:∀i,i < t.outs.length→T2 (t.n+i)=T (g.n+i):=fun i hi=>by
     have h1:=hT2 (t.n+i) (t.outs[i].2 us) (by
      unfold Bc.us
      rw[List.getElem?_append_right (by omega),husl]
      simp[hi])
     have h2:=hnew i ⟨t.outs[i].1,t.outs[i].2,rs⟩ (by simp[hi])
     rw[n1] at h2
     rw[h1,h2]
     rfl
    have hfr:=Ls hc1
    have hnd:=OY hc2
    have hnd1:(ren.map (·.1)).Nodup:=by rw[hfr];exact List.nodup_range
    have hlt:∀p∈ren,p.2 < ma.length:=fun p hp=>CX (List.all_eq_true.1 hc3 p hp)
    have hix:∀j id,(j,id)∈ren→ren[j]? =some (j,id)∧j < t.m.length:=fun j id hj=>by
     obtain⟨i,hi⟩:=List.mem_iff_getElem?.1 hj
     have h1:(ren.map (·.1))[i]? =some j:=by simp[hi]
     rw[hfr] at h1
     obtain⟨h2,h3⟩:=List.getElem?_eq_some_iff.1 h1
     simp at h2 h3
     subst h3
     exact⟨hi,h2⟩
    have hall:∀j,j < t.m.length→∃id,(j,id)∈ren:=fun j hj=>by
     have:j∈ren.map (·.1):=by rw[hfr];simpa using hj
     obtain⟨p,hp,e⟩:=List.mem_map.1 this
     exact⟨p.2,by rw[←e];exact hp⟩
    obtain⟨_,hbat⟩:=Yn hb2
    have hblk:∀j id,(j,id)∈ren→∃l l' e p q,t.m.at j= .cells l e∧ma.at id= .cells l' e∧JE ren l l'=some (p,q)∧(∀x∈p,x∈prs)∧∀x∈q,x∈ps:=fun j id hj=>by
     obtain⟨h1,h2⟩:=hix j id hj
     obtain⟨l,e,hl⟩:=Xh t.blks (Ei t.sh).length j (by have:=N0 t.blks (Ei t.sh).length;unfold Bc.m at h2;omega)
     have hl':t.m.at j= .cells l e:=hl
     have hget:t.m[j]? =some (.cells l e):=by
      rw[←hl']
      simp[Mem.at,List.getElem?_eq_getElem h2]
     obtain⟨p,q,h3,h4,h5⟩:=hbat j j id _ h1 hget
     cases hx:ma.at id with
     |cells l' e'=>
      rw[hx] at h3
      simp only[O0] at h3
      split at h3
      ·rename_i he
       rw[←Nat.eq_of_beq_eq_true he]
       exact⟨l,l',e,p,q,hl',rfl,h3,fun x hx=>by rw[hp12];exact List.mem_append_right _ (h4 x hx),fun x hx=>by rw[hq12];exact List.mem_append_right _ (h5 x hx)⟩
      ·cases h3
     |_=>rw[hx] at h3;simp[O0] at h3
    let ρ2:Nat→Option Nat:=fun j=>(HY ren j).bind ρ
    have hρ2:∀j id,(j,id)∈ren→ ρ2 j= ρ id:=fun j id hj=>by
     show (HY ren j).bind ρ = ρ id
     rw[iv hnd1 hj];rfl
    have htm:∀j,(t.m.at j).tracked=true→∃id,(j,id)∈ren:=fun j hj=>by
     refine hall j ?_
     rcases Nat.lt_or_ge j t.m.length with h|h
     ·exact h
     ·rw[Mem.at_ge h] at hj;cases hj
    have M:d9 T T2 ρ ρ2 ma t.m w ren:=by
     refine⟨fun b off hs=>⟨hs.1,.inr hs,fun j=>?_⟩,fun j id hj=>?_⟩
     ·by_cases hj:j < t.m.length
      ·obtain⟨id,hid⟩:=hall j hj
       obtain⟨l,l',e,_,_,z1,z2,_⟩:=hblk j id hid
       rw[z1]
       have:=hs.2.2 id
       rw[z2] at this
       show ρ2 j≠some b
       rw[hρ2 j id hid]
       exact this
      ·rw[Mem.at_ge (by omega)];trivial
     ·have hmem:=N5 hj
      obtain⟨l,l',e,_,_,z1,_⟩:=hblk j id hmem
      exact⟨hρ2 j id hmem,by rw[z1];rfl⟩
    have hvals:∀p∈prs,p.1 < t.n∧T2 p.1=p.2.eval T:=fun p hp=>⟨(hprs p hp).1,hT2o _ _ (hprs p hp).2⟩
    have hps1:∀p∈ps,p.holds T:=fun p hp=>hps p (List.mem_append_left _ hp)
    obtain⟨hargs2,hlt1⟩:=KI (n:=t.n) M t.args args hb1 (fun p hp=>hvals p (by rw[hp12];exact List.mem_append_left _ hp)) (fun p hp=>hps1 p (by rw[hq12];exact List.mem_append_left _ hp)) hvs
    have hcell:∀j id,(j,id)∈ren→∃l l' e b vs0,t.m.at j= .cells l e∧ma.at id= .cells l' e∧ ρ id=some b∧w.heap[b]? =some (.cells (vs0:List Value).toArray e (0,0))∧AE T g.n ρ ma w l' vs0∧AE T2 t.n ρ2 t.m w l vs0:=fun j id hj=>by
     obtain⟨l,l',e,p,q,z1,z2,z3,z4,z5⟩:=hblk j id hj
     have:=hm.blk id
     rw[z2] at this
     obtain⟨b,vs0,y1,y2,y3⟩:=this
     exact⟨l,l',e,b,vs0,z1,z2,y1,y2,y3,(KI (n:=t.n) M l l' z3 (fun x hx=>hvals x (z4 x hx)) (fun x hx=>hps1 x (z5 x hx)) y3).1⟩
    have hrlt:∀p∈prs,Pw g.n p.2:=fun p hp=>by
     rw[hp12] at hp
     rcases List.mem_append.1 hp with h|h
     ·exact hlt1 p h
     ·obtain⟨i,j,id,b,pp,qq,z1,z2,z3,z4⟩:=Tk hb2 p h
      have hj:(j,id)∈ren:=List.mem_iff_getElem?.2 ⟨i,z1⟩
      obtain⟨w1,w2⟩:=hix j id hj
      obtain⟨l,l',e,pb,qb,y1,y2,y3,y4,y5⟩:=hblk j id hj
      have hij:i=j:=by
       have h1:(ren.map (·.1))[i]? =some j:=by simp[z1]
       rw[hfr] at h1
       obtain⟨_,h3⟩:=List.getElem?_eq_some_iff.1 h1
       simpa using h3
      subst hij
      have hbe:b= .cells l e:=by
       have:t.m.at i=b:=by simp[Mem.at,z2]
       rw[←this,y1]
      rw[hbe,y2] at z3
      simp only[O0,(Dp e e).2 rfl,if_true] at z3
      rw[y3] at z3
      cases z3
      have:=hm.blk id
      rw[y2] at this
      obtain⟨bb,vs0,_,_,x3⟩:=this
      exact (KI (n:=t.n) M l l' y3 (fun x hx=>hvals x (y4 x hx)) (fun x hx=>hps1 x (y5 x hx)) x3).2 p z4
    have hmem2:AP T2 t.n ρ2 t.m w:=by
     refine⟨fun j=>?_,fun j j' b h1 h2 h3 h4=>?_,fun b off hb=> .inl hb⟩
     ·by_cases hj:j < t.m.length
      ·obtain⟨id,hid⟩:=hall j hj
       obtain⟨l,l',e,b,vs0,z1,z2,z3,z4,z5,z6⟩:=hcell j id hid
       rw[z1]
       exact⟨b,vs0,by rw[hρ2 j id hid];exact z3,z4,z6⟩
      ·rw[Mem.at_ge (by omega)];trivial
     ·obtain⟨id,hid⟩:=htm j h1
      obtain⟨id',hid'⟩:=htm j' h2
      rw[hρ2 j id hid] at h3
      rw[hρ2 j' id' hid'] at h4
      obtain⟨_,_,_,_,_,_,z2,_⟩:=hcell j id hid
      obtain⟨_,_,_,_,_,_,z2',_⟩:=hcell j' id' hid'
      have e:=hm.inj id id' b (by rw[z2];rfl) (by rw[z2'];rfl) h3 h4
      subst e
      obtain⟨i1,k1⟩:=List.mem_iff_getElem?.1 hid
      obtain⟨i2,k2⟩:=List.mem_iff_getElem?.1 hid'
      have a1:(ren.map (·.2))[i1]? =some id:=by simp[k1]
      have a2:(ren.map (·.2))[i2]? =some id:=by simp[k2]
      have:=(List.getElem?_inj (List.getElem?_eq_some_iff.1 a1).1 hnd).1 (a1.trans a2.symm)
      subst this
      rw[k1] at k2
      cases k2
      rfl
    have hpre:∀p∈t.pre,p.2 us:=fun p hp=>hps ⟨p.1,p.2,rs⟩ (List.mem_append_right _ (List.mem_map.2 ⟨p,hp,rfl⟩))
    obtain⟨hfn,hcalls⟩:=ht T2 us rfl husl hT2 hpre ρ2 w vs hargs2 hmem2
    refine⟨hfn,hcalls.mono fun ee w' hh=>?_⟩
    obtain⟨v, ρ2',rfl,S2,M2,H2⟩:=hh
    have hnt:t.m.length≤t.m'.length:=Nat.le_of_ble_eq_true hc4
    have hr2:∀j,(t.m.at j).ptrOk=true→ ρ2' j= ρ2 j:=fun j hj=>(S2.rho j hj).1
    let ρ':Nat→Option Nat:=fun id=>if id < ma.length then ρ id else ρ2' (t.m.length+(id - ma.length))
    have hρlt:∀id,id < ma.length→ ρ' id= ρ id:=fun id h=>if_pos h
    have hρge:∀id,ma.length≤id→ ρ' id= ρ2' (t.m.length+(id - ma.length)):=fun id h=>if_neg (by omega)
    obtain hup:∃up,up=up1 t.n g.n ren t.m.length ma.length t.m' rs:=⟨_,rfl⟩
    obtain⟨up,hup⟩:=hup
    rw[←hup] at e1 e2
    have hlen:=Ir (fun j b=>Mf up (t.m.at j) b (t.m'.at j)) ren ma
    have hput:=fun id=>Rm (fun j b=>Mf up (t.m.at j) b (t.m'.at j)) ren ma hnd hlt id
    have hmo:∀id,mo.at id=if id < ma.length then Mem.at (Do (fun j b=>Mf up (t.m.at j) b (t.m'.at j)) ren ma) id else if t.m.length+(id - ma.length) < t.m'.length then Xo up (t.m'.at (t.m.length+(id - ma.length))) else .pad:=fun id=>by
     rw[←e2,kL,hlen,kK]
    have touch:∀j id,(j,id)∈ren→mo.at id=Mf up (t.m.at j) (ma.at id) (t.m'.at j):=fun j id hj=>by
     rw[hmo,if_pos (hlt _ hj)]
     exact (hput id).1 j hj
    have keep:∀id,id < ma.length→(∀j,(j,id) ∉ ren)→mo.at id=ma.at id:=fun id h hno=>by
     rw[hmo,if_pos h]
     exact (hput id).2 hno
    have fresh:∀id,ma.length≤id→mo.at id=if t.m.length+(id - ma.length) < t.m'.length then Xo up (t.m'.at (t.m.length+(id - ma.length))) else .pad:=fun id h=>by
     rw[hmo,if_neg (by omega)]
    have upB:∀j id,(j,id)∈ren→(∃l e,mo.at id= .cells l e)∨mo.at id= .gone:=fun j id hj=>by
     obtain⟨l,l',e,b,vs0,z1,z2,_⟩:=hcell j id hj
     rw[touch j id hj,z1,z2]
     cases t.m'.at j with
     |cells l3 e3=>
      simp only[Mf]
      split
      ·exact .inl ⟨_,_,rfl⟩
      ·exact .inr rfl
     |_=>exact .inr rfl
    have newB:∀id,ma.length≤id→(mo.at id).tracked=true→∃l e,t.m'.at (t.m.length+(id - ma.length))= .cells l e∧mo.at id= .cells (l.map up) e:=fun id h htr=>by
     rw[fresh id h] at htr⊢
     split at htr
     ·rename_i hx
      rw[if_pos hx]
      cases hy:t.m'.at (t.m.length+(id - ma.length)) with
      |cells l e=>exact⟨l,e,rfl,rfl⟩
      |_=>rw[hy] at htr;cases htr
     ·cases htr
    have newGe:∀id b,ma.length≤id→(mo.at id).tracked=true→ ρ' id=some b→w.heap.size≤b:=fun id b h htr hb=>by
     obtain⟨l,e,h1,_⟩:=newB id h htr
     rw[hρge id h] at hb
     exact S2.fresh _ b (Mem.at_ge (by omega)) (by rw[h1];rfl) hb
    have trOld:∀id,id < ma.length→(mo.at id).tracked=true→(ma.at id).tracked=true:=fun id h htr=>by
     by_cases hex:∃j,(j,id)∈ren
     ·obtain⟨j,hj⟩:=hex
      obtain⟨l,l',e,b,vs0,z1,z2,_⟩:=hcell j id hj
      rw[z2];rfl
     ·rw[keep id h (fun j hj=>hex ⟨j,hj⟩)] at htr;exact htr
    have unt2:∀k,(∀id,(ma.at id).tracked=true→ ρ id≠some k)→∀j,(t.m.at j).tracked=true→ ρ2 j≠some k:=fun k hno j hj=>by
     obtain⟨id,hid⟩:=htm j hj
     obtain⟨l,l',e,b,vs0,z1,z2,_⟩:=hcell j id hid
     rw[hρ2 j id hid]
     exact hno id (by rw[z2];rfl)
    have keepHeap:∀id b,(ma.at id).tracked=true→(∀j,(j,id) ∉ ren)→ ρ id=some b→w'.heap[b]? =w.heap[b]? :=fun id b htr hno hb=>by
     refine S2.old b (hm.lt htr hb) fun j hj he=>?_
     obtain⟨id',hid'⟩:=htm j hj
     obtain⟨l,l',e,b',vs0,z1,z2,_⟩:=hcell j id' hid'
     rw[hρ2 j id' hid'] at he
     have:=hm.inj id id' b htr (by rw[z2];rfl) hb he
     subst this
     exact hno j hid'
    have idlt:∀id,ma.at id≠ .pad→id < ma.length:=fun id h=>by
     rcases Nat.lt_or_ge id ma.length with hh|hh
     ·exact hh
     ·exact absurd (Mem.at_ge hh) h
    have hst:AO T g.n ρ ma w ρ' mo w':={
     os:=S2.os
     tape:=S2.tape
     output:=S2.output
     size:=S2.size
     mlen:=fun id h=>by
      by_cases hex:∃j,(j,id)∈ren
      ·obtain⟨j,hj⟩:=hex
       rcases upB j id hj with⟨l,e,h1⟩|h1<;>rw[h1]<;>exact fun h=>by cases h
      ·rw[keep id (idlt id h) (fun j hj=>hex ⟨j,hj⟩)];exact h
     rho:=fun id h=>by
      have hil:=idlt id (CY h)
      refine⟨hρlt id hil,?_⟩
      by_cases hex:∃j,(j,id)∈ren
      ·obtain⟨j,hj⟩:=hex
       rcases upB j id hj with⟨l,e,h1⟩|h1<;>rw[h1]<;>rfl
      ·rw[keep id hil (fun j hj=>hex ⟨j,hj⟩)];exact h
     untr:=fun id h htr=>trOld id (idlt id h) htr
     fresh:=fun id b h htr hb=>by
      rcases Nat.lt_or_ge id ma.length with hil|hil
      ·have:=trOld id hil htr
       rw[h] at this;cases this
      ·exact newGe id b hil htr hb
     old:=fun k hk hno=>S2.old k hk (unt2 k hno)
     tok:=fun id x ks e hx=>by
      have hil:=idlt id (by rw[hx];exact fun h=>by cases h)
      have hno:∀j,(j,id) ∉ ren:=fun j hj=>by
       obtain⟨l,l',e,b,vs0,z1,z2,_⟩:=hcell j id hj
       rw[hx] at z2;cases z2
      exact .inl ⟨by rw[keep id hil hno];exact hx,hρlt id hil,fun b hb=>keepHeap id b (by rw[hx];rfl) hno hb⟩ }
    have hgle:g.n≤g'.n:=by omega
    have B:Xa T T2 t.n g.n g'.n ren t.m.length ma.length ρ2' ρ' t.m' mo w' rs:=by
     refine⟨fun x r hx=>⟨hT2o x r hx,?_⟩,fun x hx k hxk hkk=>?_,fun b off hs=>?_,fun j l e id hj hr=>?_⟩
     ·rw[←hrs,List.getElem?_map,Option.map_eq_some_iff] at hx
      obtain⟨p,hp,rfl⟩:=hx
      have:=hrlt p (List.mem_iff_getElem?.2 ⟨x,hp⟩)
      revert this
      cases p.2 with
      |c u=>exact fun _=>trivial
      |e y=>exact fun h=>Nat.lt_of_lt_of_le h hgle
      |n y=>exact fun h=>Nat.lt_of_lt_of_le h hgle
     ·have hkk':k=t.outs.length:=by omega
      have:=hT2n (x - t.n) (by omega)
      rw[show t.n+(x - t.n)=x by omega] at this
      exact⟨by omega,this.symm⟩
     ·obtain⟨s1,s2,s3⟩:=hs
      have s2':w.heap.size≤b∨BN T ρ ma w b off:=s2
      refine⟨s1,?_,fun id=>?_⟩
      ·rcases s2' with h|h
       ·exact hm.fr b off h
       ·exact h.2.1
      ·rcases Nat.lt_or_ge id ma.length with hil|hil
       ·have base:match ma.at id with| .pad| .gone=>True| .cells _ _| .lp _ _=> ρ id≠some b| .tok x ks _=> ρ id=some b→off < Ci T x ks:=by
         rcases s2' with h|h
         ·have no:(ma.at id).tracked=true→ ρ id≠some b:=fun htr he=>by have:=hm.lt htr he;omega
          cases hx:ma.at id with
          |pad=>trivial
          |gone=>trivial
          |cells=>exact no (by rw[hx];rfl)
          |lp=>exact no (by rw[hx];rfl)
          |tok=>exact fun he=>absurd he (no (by rw[hx];rfl))
         ·exact h.2.2 id
        by_cases hex:∃j,(j,id)∈ren
        ·obtain⟨j,hj⟩:=hex
         obtain⟨l,l',e,b',vs0,z1,z2,_⟩:=hcell j id hj
         rw[z2] at base
         rcases upB j id hj with⟨l3,e3,h1⟩|h1
         ·rw[h1];show ρ' id≠some b;rw[hρlt id hil];exact base
         ·rw[h1];trivial
        ·rw[keep id hil (fun j hj=>hex ⟨j,hj⟩),hρlt id hil]
         exact base
       ·by_cases htr:(mo.at id).tracked=true
        ·obtain⟨l,e,h1,h2⟩:=newB id hil htr
         have:=s3 (t.m.length+(id - ma.length))
         rw[h1] at this
         rw[h2]
         show ρ' id≠some b
         rw[hρge id hil]
         exact this
        ·cases hx:mo.at id with
         |pad=>trivial
         |gone=>trivial
         |cells=>rw[hx] at htr;exact absurd rfl htr
         |lp=>rw[hx] at htr;exact absurd rfl htr
         |tok=>rw[hx] at htr;exact absurd rfl htr
     ·unfold WK at hr
      split at hr
      ·have hmem:=N5 hr
       obtain⟨l0,l',e0,b',vs0,z1,z2,_⟩:=hcell j id hmem
       have hil:=hlt _ hmem
       refine⟨by rw[hρlt id hil,hr2 j (by rw[z1];rfl),hρ2 j id hmem],?_⟩
       rcases upB j id hmem with⟨l3,e3,h1⟩|h1<;>rw[h1]<;>rfl
      ·rename_i hge
       cases hr
       have hge':t.m.length≤j:=by
        rcases Nat.lt_or_ge j t.m.length with h|h
        ·exact absurd (by rw[Nat.blt_eq];exact h) hge
        ·exact h
       have hj':t.m.length+(ma.length+(j - t.m.length) - ma.length)=j:=by omega
       refine⟨by rw[hρge _ (by omega),hj'],?_⟩
       rw[fresh _ (by omega),hj']
       have hjl:j < t.m'.length:=by
        rcases Nat.lt_or_ge j t.m'.length with h|h
        ·exact h
        ·rw[Mem.at_ge h] at hj;cases hj
       rw[if_pos hjl,hj]
       rfl
    have hupok:∀h v,AB T2 (t.n+t.outs.length) ρ2' t.m' w' h v→AB T g'.n ρ' mo w' (up h) v:=fun h v hh=>by
     rw[hup]
     exact fB B hgn' h v hh
    refine⟨v, ρ',rfl,hst,⟨fun id=>?_,fun id id' b t1 t2 h1 h2=>?_,fun b off hb=>hm.fr b off (Nat.le_trans S2.size hb)⟩,by rw[←e1];exact hupok _ _ H2⟩
    ·rcases Nat.lt_or_ge id ma.length with hil|hil
     ·by_cases hex:∃j,(j,id)∈ren
      ·obtain⟨j,hj⟩:=hex
       obtain⟨l,l',e,b,vs0,z1,z2,z3,z4,z5,z6⟩:=hcell j id hj
       rw[touch j id hj,z1,z2]
       have hb2:=M2.blk j
       cases hx:t.m'.at j with
       |cells l3 e3=>
        simp only[Mf]
        split
        ·rename_i hcc
         simp only[Bool.and_eq_true] at hcc
         obtain⟨⟨c1,c2⟩,c3⟩:=hcc
         rw[hx] at hb2
         obtain⟨b2,vs2,y1,y2,y3⟩:=hb2
         have hbb:b2=b:=by
          rw[hr2 j (by rw[z1];rfl),hρ2 j id hj,z3] at y1
          injection y1 with y1;exact y1.symm
         rw[←Nat.eq_of_beq_eq_true c3] at y2
         rw[hbb] at y2
         exact⟨b,vs2,by rw[hρlt id hil];exact z3,y2,QM hst hgle hr2 hupok (Nat.eq_of_beq_eq_true c1) (Nat.eq_of_beq_eq_true c2) z6 z5 y3⟩
        ·trivial
       |_=>trivial
      ·have hno:∀j,(j,id) ∉ ren:=fun j hj=>hex ⟨j,hj⟩
       by_cases htr:(ma.at id).tracked=true
       ·exact CO.step hst hm hgle (keep id hil hno) (hρlt id hil) (fun b hb=>keepHeap id b htr hno hb)
       ·rw[keep id hil hno]
        cases hx:ma.at id with
        |pad=>trivial
        |gone=>trivial
        |cells=>rw[hx] at htr;exact absurd rfl htr
        |lp=>rw[hx] at htr;exact absurd rfl htr
        |tok=>rw[hx] at htr;exact absurd rfl htr
     ·by_cases htr:(mo.at id).tracked=true
      ·obtain⟨l,e,h1,h2⟩:=newB id hil htr
       have hb2:=M2.blk (t.m.length+(id - ma.length))
       rw[h1] at hb2
       obtain⟨b2,vs2,y1,y2,y3⟩:=hb2
       rw[h2]
       exact⟨b2,vs2,by rw[hρge id hil];exact y1,y2,gE hupok y3⟩
      ·cases hx:mo.at id with
       |pad=>trivial
       |gone=>trivial
       |cells=>rw[hx] at htr;exact absurd rfl htr
       |lp=>rw[hx] at htr;exact absurd rfl htr
       |tok=>rw[hx] at htr;exact absurd rfl htr
    ·rcases Nat.lt_or_ge id ma.length with hil|hil
     ·rcases Nat.lt_or_ge id' ma.length with hil'|hil'
      ·rw[hρlt id hil] at h1
       rw[hρlt id' hil'] at h2
       exact hm.inj id id' b (trOld id hil t1) (trOld id' hil' t2) h1 h2
      ·have:=newGe id' b hil' t2 h2
       rw[hρlt id hil] at h1
       have:=hm.lt (trOld id hil t1) h1
       omega
     ·rcases Nat.lt_or_ge id' ma.length with hil'|hil'
      ·have:=newGe id b hil t1 h1
       rw[hρlt id' hil'] at h2
       have:=hm.lt (trOld id' hil' t2) h2
       omega
      ·obtain⟨l,e,k1,_⟩:=newB id hil t1
       obtain⟨l',e',k2,_⟩:=newB id' hil' t2
       rw[hρge id hil] at h1
       rw[hρge id' hil'] at h2
       have:=M2.inj _ _ b (by rw[k1];rfl) (by rw[k2];rfl) h1 h2
       omega
   ·cases hap
  ·cases hap
 ·cases hap
end Go.Eng
end
noncomputable section
namespace Go.Eng
open Go Go.RowKit
mutual
theorem eQ {ok:Nat→Nat→Prop}{w:World}:∀(k:Kd) {u:U} {v:Value},Ak ok w k u v→KdU B8 k u
 | .int _ _ _,_,_,⟨n,h1,_,h3⟩=>⟨n,h1,h3⟩
 | .bool,_,_,⟨b,h1,_⟩=>⟨b,h1⟩
 | .str,_,_,⟨s,h1,_⟩=>⟨s,h1,.inr rfl⟩
 | .val,_,_,_=>trivial
 | .any,_,_,_=>trivial
 | .list ks,_,_,⟨l,h0,h1,h2,a,cap,_,_,h5⟩=>by
  refine⟨l,h0,h1,fun i us hi=>?_⟩
  have hl:0 < l.length:=by have:=(List.getElem?_eq_some_iff.1 hi).1;omega
  obtain⟨b,o,_,hc⟩:=h5 hl
  exact bd ks (hc i us hi)
theorem bd {ok:Nat→Nat→Prop}{w:World}:∀(ks:List Kd) {b off:Nat} {us:List U},Aq ok w ks b off us→DC B8 ks us
 |[],_,_,_,h=>h
 |k::ks,_,_,_,⟨u,us',e,⟨_,v,_,h3⟩,h4⟩=>⟨u,us',e,eQ k h3,bd ks h4⟩
end
section
variable {T:Tab}{n:Nat}{ρ :Nat→Option Nat}{m:Mem}{w:World}
theorem eW {k:Kd}{x:Nat}{v:Value}(h:AB T n ρ m w (Od k x) v):KdU B8 k (T x):=by
 cases k with
 |int k lo hi=>obtain⟨_,i,h1,_,h3⟩:=h;exact⟨i,h1,h3⟩
 |bool=>obtain⟨_,b,h1,_⟩:=h;exact⟨b,h1⟩
 |str=>obtain⟨_,s,h1,_⟩:=h;exact⟨s,h1,.inr rfl⟩
 |val=>trivial
 |any=>trivial
 |list ks=>exact eQ (.list ks) h.2
def XV (ks:List Kd)(us:List U):Prop:=∀(j:Nat) (k:Kd) (u:U),ks[j]? =some k→us[j]? =some u→KdU B8 k u
theorem SO:∀{ks:List Kd} {x:Nat} {cs:List Value},AE T n ρ m w (Or x ks) cs→∀(j:Nat) (k:Kd),ks[j]? =some k→KdU B8 k (T (x+j))
 |[],_,_,_,j,k,hj=>by simp at hj
 |k0::ks,x,cs,⟨u,us,_,h1,h2⟩,j,k,hj=>by
  cases j with
  |zero=>simp at hj;subst hj;exact eW h1
  |succ j=>
   have:=SO h2 j k (by simpa using hj)
   rw[show x+(j+1)=x+1+j by omega]
   exact this
theorem Mg:∀{sh:List V0} {x:Nat} {vs:List Value},AE T n ρ m w (NU x sh) vs→∀(j:Nat) (k:Kd),(Ei sh)[j]? =some k→KdU B8 k (T (x+j))
 |[],_,_,_,j,k,hj=>by simp[Ei] at hj
 | .one k0::r,x,vs,⟨u,us,_,h1,h2⟩,j,k,hj=>by
  simp only[Ei] at hj
  cases j with
  |zero=>simp at hj;subst hj;exact eW h1
  |succ j=>
   have:=Mg h2 j k (by simpa using hj)
   rw[show x+(j+1)=x+1+j by omega]
   exact this
 | .agg ks::r,x,vs,⟨u,us,_,h1,h2⟩,j,k,hj=>by
  simp only[Ei] at hj
  rw[List.getElem?_append] at hj
  split at hj
  ·obtain⟨cs,_,h3⟩:=h1
   exact SO h3 j k hj
  ·rename_i hge
   have:=Mg h2 (j - ks.length) k hj
   rw[show x+ks.length+(j - ks.length)=x+j by omega] at this
   exact this
 | .ptr j0 off::r,x,vs,⟨u,us,_,h1,h2⟩,j,k,hj=>Mg h2 j k hj
theorem ay:∀{bs:List (List Kd × TypeId)} {x i0:Nat},(∀i,i < bs.length→CO T n ρ m w (i0+i) ((KY x bs).at i))→∀(j:Nat) (k:Kd),(N6 bs)[j]? =some k→KdU B8 k (T (x+j))
 |[],_,_,_,j,k,hj=>by simp[N6] at hj
 |(ks,e)::r,x,i0,hb,j,k,hj=>by
  have e1:N6 ((ks,e)::r)=ks++N6 r:=rfl
  rw[e1,List.getElem?_append] at hj
  split at hj
  ·obtain⟨b,vs,_,_,h3⟩:=hb 0 (by simp)
   exact SO h3 j k hj
  ·rename_i hge
   have:=ay (bs:=r) (x:=x+ks.length) (i0:=i0+1) (fun i hi=>by
    have:=hb (i+1) (by simpa using hi)
    rw[show i0+(i+1)=i0+1+i by omega] at this
    simpa [KY,Mem.at] using this) (j - ks.length) k hj
   rw[show x+ks.length+(j - ks.length)=x+j by omega] at this
   exact this
end
def Qc (nh nm:Nat)(rs:List Rf)(mh m:Mem)(h c:AC):Option (List Pr):=
 match h,c with
 | .agg l,.agg l'=>J0 nh nm rs mh m l l'
 |h,c=>KK nh nm rs mh m h c
def Ju (nh nm:Nat)(rs:List Rf)(mh m:Mem):List AC→List AC→Option (List Pr)
 |[],[]=>some []
 |h::l,c::l'=>L6 (Qc nh nm rs mh m h c) (Ju nh nm rs mh m l l')
 |_,_=>none
def Yp (nh nm:Nat)(rs:List Rf)(mh m:Mem)(h c:AC):Option (List Pr):=
 match h,c with
 | .tup l,.tup l'=>Ju nh nm rs mh m l l'
 |h,c=>Qc nh nm rs mh m h c
section
variable {T1 T2:Tab}{ρ :Nat→Option Nat}{m mh:Mem}{w:World}{nh n1 n2:Nat}{rs:List Rf}
theorem U0 (M:It T1 T2 ρ m mh w nh mh.length)(hn:nh≤n2)(H:Fb T1 T2 nh n2 rs)(S:Du T1 T2 nh mh m){h c:AC}{ps:List Pr}(hm:Qc nh mh.length rs mh m h c=some ps)(hps:∀p∈ps,p.holds T1){v:Value}
  (hv:AB T1 n1 ρ m w c v):AB T2 n2 ρ mh w h v:=by
 unfold Qc at hm
 split at hm
 ·obtain⟨vs,e,h1⟩:=hv
  exact⟨vs,e,M9 M hn H S hm hps vs h1⟩
 ·exact KU hm M hn H S hps hv
theorem Qq (M:It T1 T2 ρ m mh w nh mh.length)(hn:nh≤n2)(H:Fb T1 T2 nh n2 rs)(S:Du T1 T2 nh mh m):∀{l l':List AC} {ps:List Pr},Ju nh mh.length rs mh m l l'=some ps→(∀p∈ps,p.holds T1)→
  ∀vs,AE T1 n1 ρ m w l' vs→AE T2 n2 ρ mh w l vs
 |[],[],ps,_,_,vs,h=>h
 |[],_::_,ps,h,_,_,_=>by simp[Ju] at h
 |_::_,[],ps,h,_,_,_=>by simp[Ju] at h
 |a::l,c::l',ps,h,hps,vs,⟨u,us,h1,h2,h3⟩=>by
  simp only[Ju] at h
  obtain⟨ps1,ps2,e1,e2,rfl⟩:=Fj h
  exact⟨u,us,h1,U0 M hn H S e1 (fun p hp=>hps p (List.mem_append_left _ hp)) h2,Qq M hn H S e2 (fun p hp=>hps p (List.mem_append_right _ hp)) us h3⟩
theorem eR (M:It T1 T2 ρ m mh w nh mh.length)(hn:nh≤n2)(H:Fb T1 T2 nh n2 rs)(S:Du T1 T2 nh mh m){h c:AC}{ps:List Pr}(hm:Yp nh mh.length rs mh m h c=some ps)(hps:∀p∈ps,p.holds T1){v:Value}
  (hv:AB T1 n1 ρ m w c v):AB T2 n2 ρ mh w h v:=by
 unfold Yp at hm
 split at hm
 ·obtain⟨vs,e,h1⟩:=hv
  exact⟨vs,e,Qq M hn H S hm hps vs h1⟩
 ·exact U0 M hn H S hm hps hv
end
def Yl (t:Bc)(rs:List Rf)(c0:AC)(m0:Mem)(g0:G):Option (List Pr):=
 if RI t.n g0&&Nat.beq rs.length t.outs.length&&Nat.ble t.m.length t.m'.length then
  L6 (J8 [] t.n t.m'.length rs t.m' m0 t.m' m0) (Yp t.n t.m'.length rs t.m' m0 t.c c0)
 else none
theorem j5 {P:Program}{f:FuncId}{t:Bc}(hm:P.follows .mixedOrders=true){ctx:FuncId→Option By}{Ba:FuncId→Ht}{fuel depth:Nat}(hctx:∀f c,ctx f=some c→∀T,∀ys k args pc m g c' m' g',k=f→DQ P T.lp ys→c ys k args pc m g=some (c',m',g')→Aa g g'∧(Agr T g'→BH T g'→pcv T pc→CG T g pc→∀ ρ w vs,AE T g.n ρ m w args vs→AP T g.n ρ m w→
   (∃fn,P.funcs[k]? =some fn∧fn.body.isSome=true∧(fn.name== "runtime.NumGoroutine")=false)∧Calls P k (vs:List Value).toArray w (Km T g ρ m w c' m' g')))
  {c0:AC} {m0:Mem} {g0:G} {rs:List Rf} {ps:List Pr} (hrun:JW P ctx Ba fuel depth (fun _=>none) f t.args none t.m { n:=t.n,eqs:=[],obs:=[] }=some (c0,m0,g0)) (hok:Yl t rs c0 m0 g0=some ps)
  (hne:∀id,id < t.m.length→t.m'.at id≠ .pad)
  (hplain:∀(T:Tab) (us:List U),us.length=t.n→XV t.ks us→(∀p∈t.pre,p.2 us)→(∀j u,us[j]? =some u→T j=u)→(∀p∈g0.eqs,T p.1=p.2.eval T)→BH T g0∧(∀p∈ps,p.holds T)∧rs.map (Rf.eval T)=t.outs.map fun o=>o.2 us):CA P f t:=by
 refine⟨fun s=>(Gk g0.lps s).getD eG,fun T us hlp hul hT hpre ρ w vs hvs hmem=>?_⟩
 unfold Yl at hok
 split at hok
 ·rename_i hc
  simp only[Bool.and_eq_true] at hc
  obtain⟨⟨hc1,hc2⟩,hc3⟩:=hc
  obtain⟨ps1,ps2,hm1,hm2,rfl⟩:=Fj hok
  unfold RI at hc1
  rw[Bool.and_eq_true] at hc1
  have hrl:=Nat.eq_of_beq_eq_true hc2
  obtain⟨r1,r2,r3⟩:=Jf g0.eqs T
  have hout:=(Dw (T:=T) hc1.1).2.2
  have hlt:∀x,x < t.n→CC T g0.eqs x=T x:=fun x hx=>hout x (.inl hx)
  have hlow:∀j u,us[j]? =some u→T j=u:=fun j u hj=>hT j u (by unfold Bc.us;rw[List.getElem?_append_left (List.getElem?_eq_some_iff.1 hj).1];exact hj)
  have S:FZ T (CC T g0.eqs) t.n:=⟨hlt,r1,r2⟩
  have hA:Agr (CC T g0.eqs) g0:=⟨fun p hp=>JJ (fv:=[]) (nh:=0) (fun x hx=>by cases hx) (Nat.zero_le _) hc1.1 p hp,fun p hp=>by
   rw[r2,hlp]
   show (Gk g0.lps p.1).getD eG=p.2
   rw[OQ hc1.2 p hp];rfl⟩
  have hin:XV t.ks us:=fun j k u hk hu=>by
   have hTj:=hlow j u hu
   rw[←hTj]
   unfold Bc.ks at hk
   rw[List.getElem?_append] at hk
   split at hk
   ·have:=Mg hvs j k hk
    rw[Nat.zero_add] at this;exact this
   ·rename_i hge
    have:=ay (bs:=t.blks) (x:=(Ei t.sh).length) (i0:=0) (fun i hi=>by rw[Nat.zero_add];exact hmem.blk i) (j - (Ei t.sh).length) k hk
    rw[show (Ei t.sh).length+(j - (Ei t.sh).length)=j by omega] at this
    exact this
  obtain⟨hob,hps,hrs⟩:=hplain (CC T g0.eqs) us hul hin hpre (fun j u hj=>by
   have:=(List.getElem?_eq_some_iff.1 hj).1
   rw[hlt j (by omega)];exact hlow j u hj) hA.eqs
  obtain⟨_,hsound⟩:=Nc (Ba:=Ba) (fuel:=fuel) hm hctx depth (CC T g0.eqs) (fun _=>none) f t.args none t.m _ c0 m0 g0 (fun T' _ s y hy=>by cases hy) hrun
  have hm':=hmem.tab S
  obtain⟨hfn,hcalls⟩:=hsound hA hob trivial trivial ρ w vs (AE.tab S (fun b off h=>S.safe hmem h) _ _ hvs) hm'
  refine⟨hfn,hcalls.mono fun e w' hh=>?_⟩
  obtain⟨v, ρ',rfl,q1,q2,q3⟩:=hh
  have H:Fb (CC T g0.eqs) T t.n (t.n+t.outs.length) rs:=fun j r hj=>by
   have hjl:=(List.getElem?_eq_some_iff.1 hj).1
   refine⟨by omega,?_⟩
   have h1:(rs.map (Rf.eval (CC T g0.eqs)))[j]? =some (r.eval (CC T g0.eqs)):=by simp[hj]
   rw[hrs] at h1
   exact hT (t.n+j) _ (by
    unfold Bc.us
    rw[List.getElem?_append_right (by omega),hul,show t.n+j - t.n=j by omega]
    exact h1)
  obtain⟨Sh,hpad⟩:=Mr (T1:=CC T g0.eqs) (T2:=T) hm1 H
  have heq:∀x,x < t.n→T x=CC T g0.eqs x:=fun x hx=>(hlt x hx).symm
  have hne':∀id,t.m.at id≠ .pad→t.m'.at id≠ .pad:=fun id h=>by
   rcases Nat.lt_or_ge id t.m.length with hl|hl
   ·exact hne id hl
   ·exact absurd (Mem.at_ge hl) h
  have hnk:t.n≤t.n+t.outs.length:=Nat.le_add_right _ _
  have M:It (CC T g0.eqs) T ρ' m0 t.m' w' t.n t.m'.length:=Sh.move hpad heq r1.symm
  refine⟨v, ρ',rfl,AO.matched Sh heq (Nat.le_refl _) hm' hne' q1,?_,eR M hnk H Sh hm2 (fun p hp=>hps p (List.mem_append_right _ hp)) q3⟩
  have hmatch:Fv [] t.n rs ⟨⟨0,[],.nil⟩,t.m'⟩ ⟨⟨0,[],.nil⟩,m0⟩=some (ps1++[]):=by
   simp only[Fv,Jw,List.isEmpty_nil,Bool.true_and,(Dp 0 0).2 rfl,if_true]
   rw[hm1];rfl
  have hR:Rel ((CC T g0.eqs).atBase 0) g0.n ρ' ⟨⟨0,[],.nil⟩,m0⟩ { tmps:= #[],defers:=[] } w':=⟨FY.nil _ _ _ (Nat.zero_le _),rfl,(fun i c hc=>by simp[Al.get,B6,Tr.get] at hc),q2.tab (Cb _ 0 _)⟩
  obtain⟨z1,_,_⟩:=JB (T1:=(CC T g0.eqs).atBase 0) (T2:=T.atBase 0) hmatch (fun p hp=>by cases hp) r1.symm r2.symm rfl heq hnk H (fun p hp=>UV.2 (hps p (by rw[List.append_nil] at hp;exact List.mem_append_left _ hp))) hR
  exact z1.mem.tab (Cb T 0 _).symm
 ·cases hok
end Go.Eng
end
noncomputable section
namespace Go.Eng
open Go Go.RowKit
def Lg:List (FuncId × Bc)→FuncId→Option By
 |[],_=>none
 |(f,t)::r,k=>if Nat.beq f k then some (X0 t) else Lg r k
theorem P9 {P:Program}:∀{l:List (FuncId × Bc)},(∀p∈l,CA P p.1 p.2)→∀f c,Lg l f=some c→∀T,∀ys k args pc m g c' m' g',k=f→DQ P T.lp ys→c ys k args pc m g=some (c',m',g')→Aa g g'∧(Agr T g'→BH T g'→pcv T pc→CG T g pc→∀ ρ w vs,AE T g.n ρ m w args vs→AP T g.n ρ m w→
  (∃fn,P.funcs[k]? =some fn∧fn.body.isSome=true∧(fn.name== "runtime.NumGoroutine")=false)∧Calls P k (vs:List Value).toArray w (Km T g ρ m w c' m' g'))
 |[],_,f,c,h=>by simp[Lg] at h
 |(f0,t)::r,hl,f,c,h=>by
  simp only[Lg] at h
  split at h
  ·rename_i hb
   cases h
   have e:=Nat.eq_of_beq_eq_true hb
   subst e
   intro T ys k args pc m g c' m' g' hk _ hap
   subst hk
   exact gS (hl (k,t) (List.mem_cons_self ..)) T ys args pc m g c' m' g' hap
  ·exact P9 (fun p hp=>hl p (List.mem_cons_of_mem _ hp)) f c h
section
variable {P:Program}{w:World}{B:Nat}
theorem kH {H:Type}{enc:TypeId × Value→H}{sp:Nat→Bool}{held:Bool}{base:Nat}(hB:B≤B8)(hm:P.follows .mixedOrders=true){l:List (FuncId × Bc)}(hl:∀p∈l,CA P p.1 p.2){Ba:FuncId→Ht}{fuel depth dd:Nat}{f:FuncId}{ts:List TypeId}{as:List AC}{ks:List Kd}{c:AC}{m':Mem}{g':G}
  (hargs:JQ P dd ts 0=some (as,ks)) (hrun:JW P (Lg l) Ba fuel depth (fun _=>none) f as none [] { n:=ks.length,eqs:=[],obs:=[] }=some (c,m',g')) (hchk:RI ks.length g'=true)
  (hplain:∀(T:Tab) (us:List U),DC B ks us→us.length=ks.length→(∀j u,us[j]? =some u→T j=u)→(∀p∈g'.eqs,T p.1=p.2.eval T)→BH T g'∧lT T c)
  {vs:List Value} {ds:List (DataW H)} {ps:List MemPlace} (ht:DataW.TrodAll enc P w 0 sp held ts vs ds ps) (hv:∀(j:Nat) t v,ts[j]? =some t→vs[j]? =some v→Value.okWide P w .any base t v) (hs:∀d∈ds,DX B d):
  Calls P f (vs:List Value).toArray w fun e W'=>e= .returned (.bool true)∧Below w.heap.size w W':=by
 obtain⟨us,u1,u2,u3⟩:=bg hB ts hargs ht hv hs
 unfold RI at hchk
 rw[Bool.and_eq_true] at hchk
 generalize hT:CC (Y2 g'.lps us) g'.eqs=T
 obtain⟨r1,r2,r3⟩:=Jf g'.eqs (Y2 g'.lps us)
 rw[hT] at r1 r2 r3
 have hlow:∀j u,us[j]? =some u→T (0+j)=u:=fun j u hj=>by
  have hjl:=(List.getElem?_eq_some_iff.1 hj).1
  rw[Nat.zero_add,←hT,(Dw hchk.1).2.2 j (.inl (by omega))]
  show us.getD j default=u
  simp[List.getD,hj]
 have hA:Agr T g':=by
  refine⟨fun p hp=>?_,fun p hp=>?_⟩
  ·rw[←hT]
   exact JJ (fv:=[]) (nh:=0) (fun x hx=>by cases hx) (Nat.zero_le _) hchk.1 p hp
  ·rw[r2]
   show (Gk g'.lps p.1).getD eG=p.2
   rw[OQ hchk.2 p hp];rfl
 obtain⟨p1,p2⟩:=hplain T us u1 u2 (fun j u hj=>by have:=hlow j u hj;rw[Nat.zero_add] at this;exact this) hA.eqs
 have hsafe:∀b off,b < w.heap.size→BN T (fun _=>none) [] w b off:=fun b off hb=>⟨hb,by rw[r1];trivial,fun id=>trivial⟩
 have hmem:AP T ks.length (fun _=>none) [] w:=⟨fun id=>trivial,(fun id id' b h=>by cases h),fun b off _=>by rw[r1];trivial⟩
 obtain⟨_,hsound⟩:=Nc (Ba:=Ba) (fuel:=fuel) hm (P9 hl) depth T (fun _=>none) f as none [] _ c m' g' (fun T' _ s y hy=>by cases hy) hrun
 obtain⟨_,hc⟩:=hsound hA p1 trivial trivial (fun _=>none) w vs (u3 T _ hsafe hlow ks.length (by omega)) hmem
 refine hc.mono fun e W' ⟨v, ρ',e1,e2,e3,e4⟩=>?_
 refine⟨?_,e2.os,e2.tape,e2.output,e2.size,fun k hk=>e2.old k hk (fun id h=>by cases h)⟩
 rw[e1]
 congr 1
 cases c with
 |cb b=>rw[show b=true from p2] at e4;exact e4
 |b x=>
  obtain⟨_,b,h1,h2⟩:=e4
  rw[show T x=_ from p2] at h1
  cases h1
  exact h2
 |nb x=>
  obtain⟨_,b,h1,h2⟩:=e4
  rw[show T x=_ from p2] at h1
  cases h1
  exact h2
 |_=>exact p2.elim
end
end Go.Eng
end
noncomputable section
namespace Go.Eng
open Go Go.RowKit
theorem Mp {H:Type}{enc:TypeId × Value→H}{P:Program}(hl:laidOutB P=true){W W':World}(hb:Below W.heap.size W W'){sp:Nat→Bool}:∀{ts:List TypeId} {vs:List Value} {ds:List (DataW H)} {ps:List MemPlace},
  (∀t∈ts,P.readableRec t=true∧t < P.types.size)→DataW.TrodAll enc P W 0 (fun _=>true) true ts vs ds ps→(∀x∈ps,x.block < W.heap.size)→(∀x∈ps,sp x.block=true)→DataW.TrodAll enc P W' 0 sp true ts vs ds ps
 |[],[],[],_,_,h,_,_=>h
 |t::ts,v::vs,d::ds,ps,ht,⟨p,q,h1,h2,e⟩,hlt,hs=>by
  subst e
  obtain⟨r1,r2⟩:=ht t (List.mem_cons_self ..)
  exact⟨p,q,WideElems.Trod_stays hl r1 r2 h1 (fun x hx=>hb.same (hlt x (List.mem_append_left _ hx))) (fun x hx=>hs x (List.mem_append_left _ hx)),
   Mp hl hb (fun t h=>ht t (List.mem_cons_of_mem _ h)) h2 (fun x hx=>hlt x (List.mem_append_right _ hx)) (fun x hx=>hs x (List.mem_append_right _ hx)),rfl⟩
 |[],_::_,_,_,_,h,_,_=>h.elim
 |[],[],_::_,_,_,h,_,_=>h.elim
 |_::_,[],_,_,_,h,_,_=>h.elim
 |_::_,_::_,[],_,_,h,_,_=>h.elim
end Go.Eng
end
noncomputable section
namespace Go.Eng
open Go Go.RowKit Go.ChangeShapes Go.WideShapes
theorem gg {H:Type}{enc:TypeId × Value→H}{P:Program}{f:Func}{s:ChangeSpec}{apart fresh handsOn again:Bool}{W W':World}{args:Array Value}{ds gs:List (DataW H)}{before:List MemPlace}{tb:TypeId}
  (hl:laidOutB P=true) (hrec:∀t∈f.params.toList,P.readableRec t=true∧t < P.types.size) (hres:f.resultTypes= #[tb]) (htb:P.underlying tb=some .bool) (hvs:s.vars=[])
  (hfn:s.fn H (ds++gs)={ results:=[.lit (.bool true)],args:=ds })
  (hW:DataW.Whole enc P f.params.toList s.vars apart W args.toList ds gs before) (hb:Below W.heap.size W W'):s.post enc P f apart fresh handsOn again W args (.bool true) W':=by
 have hlt:∀p∈before,p.block < W.heap.size:=hW.lt
 have hW0:=hW
 obtain⟨p,q,hA,hV,rfl,hz,hn⟩:=hW
 have hq:q=[]:=by
  rw[hvs] at hV
  cases gs with
  |nil=>exact hV
  |cons=>exact hV.elim
 subst hq
 have hold:∀x∈p++[],(fun b=>decide (b < W.heap.size)) x.block=true:=fun x hx=>by simpa using hlt x hx
 have hargs:∀sp:Nat→Bool,(∀x∈p++[],sp x.block=true)→DataW.TrodAll enc P W' 0 sp true f.params.toList args.toList (s.fn H (ds++gs)).args p:=fun sp hsp=>by
  rw[hfn]
  exact Mp hl hb hrec hA (fun x hx=>hlt x (by simp[hx])) (fun x hx=>hsp x (by simp[hx]))
 have hvars:∀sp:Nat→Bool,DataW.TrodVars enc P W' sp s.vars (s.fn H (ds++gs)).vars []:=fun sp=>by rw[hfn,hvs];rfl
 have hr:∀(b:Nat) (sp:Nat→Bool) (hd:Bool),DataW.TrodAll enc P W' b sp hd f.resultTypes.toList ((Value.bool true).resultList f.resultTypes.size) (s.fn H (ds++gs)).results []:=fun b sp hd=>by
  rw[hfn,hres]
  exact⟨[],[],⟨1,by simp[DataW.trod,htb,Value.cells]⟩,rfl,rfl⟩
 refine⟨ds,gs,p++[],[],p,[],hW0,hr _ _ _,hargs _ hold,hvars _,World.keptBut_mono (fun x hx=>⟨hx,.inr (by simpa using hx)⟩) (hb.frame (· ∈p++[])),fun _=>?_⟩
 refine⟨fun j t r h1 h2=>?_,_,_,([]++p)++[],⟨[]++p,[],trodAll_append (hargs _ (fun _ _=>rfl)) (hr _ _ _),hvars _,rfl,?_,?_⟩,?_⟩
 ·exact ok_one hres (by rfl) (by simp[Value.okWide,htb,Cell.okWide,Cell.ok]) j t r h1 h2
 ·intro b off hp
  rw[hb.frozen (hlt _ (by simpa using hp))]
  exact hz b off (by simpa using hp)
 ·intro ha
  simpa using hn ha
 ·intro x hx _
  simpa using hx
end Go.Eng
end
noncomputable section
namespace Go.Eng
open Go
inductive Ty where
 |i|b|l|r (c:Nat)
 deriving DecidableEq
def I (T:Tab)(x:Nat):Int:=(T.get x).toI
def B (T:Tab)(x:Nat):Bool:=(T.get x).toB
def L (T:Tab)(x:Nat):List (List U):=(T.get x).toL
def iR (T:Tab)(r:Rf):Int:=(r.eval T).toI
def bR (T:Tab)(r:Rf):Bool:=(r.eval T).toB
def lR (T:Tab)(r:Rf):List (List U):=(r.eval T).toL
def uR (T:Tab):Ty→Rf→U
 | .i,r=> .int (iR T r)
 | .b,r=> .bool (bR T r)
 | .l,r=> .list (lR T r)
 | .r _,r=>r.eval T
theorem Ax {T:Tab}{n:Int}:iR T (.c (.int n))=n:=Eq.trans rfl rfl
theorem BD {T:Tab}{x:Nat}:iR T (.e x)=I T x:=Eq.trans rfl rfl
theorem BG {T:Tab}{n:Bool}:bR T (.c (.bool n))=n:=Eq.trans rfl rfl
theorem AD {T:Tab}{x:Nat}:bR T (.e x)=B T x:=Eq.trans rfl rfl
theorem CW {T:Tab}{x:Nat}:bR T (.n x)= !B T x:=Eq.trans rfl rfl
theorem Bn {T:Tab}:lR T (.c (.list []))=[]:=Eq.trans rfl rfl
theorem Bt {T:Tab}{x:Nat}:lR T (.e x)=L T x:=Eq.trans rfl rfl
def AN (T:Tab):List Rf→Int→Int
 |[],_=>0
 |a::l,n=>if n≤0 then iR T a else AN T l (n - 1)
def AM (T:Tab):List Rf→Int→Prop
 |[],_=>False
 |a::l,n=>(n≤0∧bR T a=true)∨(¬n≤0∧AM T l (n - 1))
def At (l:List (List U))(i c:Nat):Int:=((l.getD i []).getD c default).toI
def C8 (l:List (List U))(i c:Nat):Bool:=((l.getD i []).getD c default).toB
def EF (l:List (List U))(i c:Nat):List (List U):=((l.getD i []).getD c default).toL
inductive Op2 where
 |add|sub|mul|div|mod|tdiv|tmod|min|max
def Op2.f:Op2→Int→Int→Int
 | .add=>iw| .sub=>iu| .mul=>mulI| .div=>divI| .mod=>modI| .tdiv=>Rl| .tmod=>bt| .min=>SC| .max=>SW
inductive Opn where
 |id (t:Ty)|not|and|or|lt|le|eq|ne
 |eqs (ts:List Ty)|nes (ts:List Ty)|eqb|neb
 |ite (t:Ty)|ifb
 |o2 (o:Op2)|w2 (k:IntKind) (o:Op2)|w1 (k:IntKind)|neg|bits (o:BinOp) (k:IntKind)
 |len|app|get (t:Ty) (c:Nat)|pick (t:Ty)|row (k s:Nat) (ts:List Ty)
 |outI (tg:String) (f:List U→Int)|outB (tg:String) (f:List U→Bool)|outL (tg:String) (f:List U→List (List U))|res (t:Ty) (D:BW) (j:Nat)
def AI (f:List U→Int)(us:List U):U:= .int (f us)
def AQ (f:List U→Bool)(us:List U):U:= .bool (f us)
def jD (f:List U→List (List U))(us:List U):U:= .list (f us)
def opF:Opn→List U→U
 | .id _=>oId| .not=>SR| .and=>Oc| .or=>oOr| .lt=>oLt| .le=>oLe| .eq=>oEq| .ne=>oNe
 | .eqs _=>ce| .nes _=>bv| .eqb=>i5| .neb=>iW
 | .ite _=>oIf| .ifb=>dn
 | .o2 o=>Go.Eng.o2 o.f| .w2 k o=>Kl k (Go.Eng.o2 o.f)| .w1 k=>Kl k oId| .neg=>cO| .bits o k=>Go.Eng.o2 (ED o k)
 | .len=>iK| .app=>Xt| .get _ c=>df c| .pick _=>Qk| .row k s _=>iY k s
 | .outI _ f=>AI f| .outB _ f=>AQ f| .outL _ f=>jD f| .res _ D j=>D.res j
structure En where
 x:Nat
 op:Opn
 rs:List Rf
def En.be (e:En):Nat × (List U→U) × List Rf:=(e.x,opF e.op,e.rs)
def BL (T:Tab):List Ty→List Rf→Prop
 | .i::ts,a::b::r=>iR T a=iR T b∧BL T ts r
 | .b::ts,a::b::r=>(bR T a=true↔bR T b=true)∧BL T ts r
 |_,_=>True
def Af (o:Op2)(c a b:Int):Prop:=match o with
 | .add=>c=a+b| .sub=>c=a - b| .mul=>c=a*b| .div=>c=a / b| .mod=>c=a % b
 | .tdiv=>c=if 0≤a then a / b else -(-a / b)
 | .tmod=>c=if 0≤a then a % b else -(-a % b)
 | .min=>c=if a≤b then a else b
 | .max=>c=if a≤b then b else a
def w2P (k:IntKind)(o:Op2)(c a b:Int):Prop:=match k,o with
 | .i64,.add=> -9223372036854775808≤a+b→a+b≤9223372036854775807→c=a+b
 | .i64,.sub=> -9223372036854775808≤a - b→a - b≤9223372036854775807→c=a - b
 | .i64,.mul=> -9223372036854775808≤a*b→a*b≤9223372036854775807→c=a*b
 |k,o=>c=k.wrap (o.f a b)
def AA (T:Tab)(e:En):Prop:=
 match e with
 |⟨x,.id .i,[a]⟩=>I T x=iR T a
 |⟨x,.id .b,[a]⟩=>(B T x=true↔bR T a=true)
 |⟨x,.id .l,[a]⟩=>L T x=lR T a
 |⟨x,.not,[a]⟩=>(B T x=true↔¬bR T a=true)
 |⟨x,.and,[a,b]⟩=>(B T x=true↔(bR T a=true∧bR T b=true))
 |⟨x,.or,[a,b]⟩=>(B T x=true↔(bR T a=true∨bR T b=true))
 |⟨x,.lt,[a,b]⟩=>(B T x=true↔iR T a < iR T b)
 |⟨x,.le,[a,b]⟩=>(B T x=true↔iR T a≤iR T b)
 |⟨x,.eq,[a,b]⟩=>(B T x=true↔iR T a=iR T b)
 |⟨x,.ne,[a,b]⟩=>(B T x=true↔¬iR T a=iR T b)
 |⟨x,.eqs ts,r⟩=>(B T x=true↔BL T ts r)
 |⟨x,.nes ts,r⟩=>(B T x=true↔¬BL T ts r)
 |⟨x,.eqb,[a,b]⟩=>(B T x=true↔(bR T a=true↔bR T b=true))
 |⟨x,.neb,[a,b]⟩=>(B T x=true↔¬(bR T a=true↔bR T b=true))
 |⟨x,.ite .i,[a,b,c]⟩=>I T x=if bR T a=true then iR T b else iR T c
 |⟨x,.ite .b,[a,b,c]⟩=>(B T x=true↔((bR T a=true∧bR T b=true)∨(¬bR T a=true∧bR T c=true)))
 |⟨x,.ite .l,[a,b,c]⟩=>L T x=if bR T a=true then lR T b else lR T c
 |⟨x,.ifb,[a,b,c]⟩=>(B T x=true↔((bR T a=true∧bR T b=true)∨(¬bR T a=true∧bR T c=true)))
 |⟨x,.o2 o,[a,b]⟩=>Af o (I T x) (iR T a) (iR T b)
 |⟨x,.w2 k o,[a,b]⟩=>w2P k o (I T x) (iR T a) (iR T b)
 |⟨x,.w1 k,[a]⟩=>I T x=k.wrap (iR T a)
 |⟨x,.neg,[a]⟩=>I T x= -iR T a
 |⟨x,.bits o k,[a,b]⟩=>I T x=ED o k (iR T a) (iR T b)
 |⟨x,.len,[a]⟩=>I T x=(lR T a).length
 |⟨x,.app,[a,b]⟩=>L T x=lR T a++lR T b
 |⟨x,.get .i c,[a,b]⟩=>I T x=At (lR T a) (iR T b).toNat c
 |⟨x,.get .b c,[a,b]⟩=>B T x=C8 (lR T a) (iR T b).toNat c
 |⟨x,.get .l c,[a,b]⟩=>L T x=EF (lR T a) (iR T b).toNat c
 |⟨x,.pick .i,a::r⟩=>I T x=AN T r (iR T a)
 |⟨x,.pick .b,a::r⟩=>(B T x=true↔AM T r (iR T a))
 |⟨x,.row k s ts,r⟩=>L T x=Aj s k (List.zipWith (uR T) ts r)
 |⟨x,.outI _ f,r⟩=>I T x=f (r.map (Rf.eval T))
 |⟨x,.outB _ f,r⟩=>B T x=f (r.map (Rf.eval T))
 |⟨x,.outL _ f,r⟩=>L T x=f (r.map (Rf.eval T))
 |_=>True
def Ks:Ty→Bool| .i=>true| .b=>true|_=>false
abbrev Cd:=List (Nat × Ty)
def M4:Ty→Ty→Bool| .i,.i=>true| .b,.b=>true| .l,.l=>true| .r c,.r d=>Nat.beq c d|_,_=>false
def Lu:Cd→Nat→Ty→Bool
 |[],_,_=>false
 |(y,t)::r,x,u=>if Nat.beq y x&&M4 t u then true else Lu r x u
def tyR (env:Cd)(t:Ty):Rf→Bool
 | .c (.int _)=>M4 t .i
 | .c (.bool _)=>M4 t .b
 | .c (.list _)=>M4 t .l
 | .c _=>false
 | .n _=>M4 t .b
 | .e x=>Lu env x t
def KJ (env:Cd):List Ty→List Rf→Bool
 |[],[]=>true
 |t::ts,r::rs=>tyR env t r&&KJ env ts rs
 |_,_=>false
def Dn:List Ty→List Ty
 |[]=>[]
 |t::ts=>t::t::Dn ts
def uV (T:Tab)(t:Ty)(x:Nat):U:=uR T t (.e x)
def cE (T:Tab)(x c:Nat):Prop:=∀i:Nat,∃n,((L T x).getD i []).getD c default= .int n
def Sty (T:Tab)(x:Nat):Ty→Prop
 | .r c=>cE T x c
 |t=>T.get x=uV T t x
def Ay (T:Tab):Cd→Prop
 |[]=>True
 |(x,t)::r=>Sty T x t∧Ay T r
theorem Sty.get {T:Tab}{x:Nat}:∀{t:Ty},Sty T x t→T.get x=uV T t x
 | .i,h=>h
 | .b,h=>h
 | .l,h=>h
 | .r _,_=>rfl
def QC (env:Cd)(e:En):Option (Option Ty):=
 match e.op,e.rs with
 | .id t,[a]=>some (if tyR env t a then some t else none)
 | .ite t,[_,b,c]=>some (if tyR env t b&&tyR env t c then some t else none)
 | .eqs ts,r=>if KJ env (Dn ts) r&&ts.all Ks then some (some .b) else none
 | .nes ts,r=>if KJ env (Dn ts) r&&ts.all Ks then some (some .b) else none
 | .row _ _ ts,r=>if KJ env ts r then some (some .l) else none
 | .not,_| .and,_| .or,_| .lt,_| .le,_| .eq,_| .ne,_| .ifb,_| .eqb,_| .neb,_=>some (some .b)
 | .o2 _,_| .w2 _ _,_| .w1 _,_| .neg,_| .bits _ _,_| .len,_=>some (some .i)
 | .app,_=>some (some .l)
 | .pick .i,_::r=>some (if r.all (tyR env .i) then some .i else none)
 | .pick .i,[]=>some none
 | .pick .b,_::b::r=>some (if (b::r).all (tyR env .b) then some .b else none)
 | .outI _ _,_=>some (some .i)
 | .outB _ _,_=>some (some .b)
 | .outL _ _,_=>some (some .l)
 | .get .i c,[.e x,_]=>some (if Lu env x (.r c) then some .i else none)
 | .get _ _,_| .pick _,_| .res _ _ _,_=>some none
 |_,_=>none
def noR:Ty→Bool| .r _=>false|_=>true
def chk:Cd→List En→Option Cd
 |env,[]=>some env
 |env,e::r=>match QC env e with
  |none=>none
  |some none=>chk env r
  |some (some t)=>if noR t then chk ((e.x,t)::env) r else none
section
variable {T:Tab}
theorem LO {t u:Ty}(h:M4 t u=true):t=u:=by cases t<;>cases u<;>first|rfl|(cases h;done)|(rw[Nat.eq_of_beq_eq_true h])
theorem Ws:∀{env:Cd} {x:Nat} {t:Ty},Ay T env→Lu env x t=true→T.get x=uV T t x
 |[],_,_,_,h=>by cases h
 |(y,u)::r,x,t,hs,h=>by
  simp only[Lu] at h
  split at h
  ·rename_i hb
   rw[Bool.and_eq_true] at hb
   have e:=Nat.eq_of_beq_eq_true hb.1
   subst e
   rw[←LO hb.2];exact hs.1.get
  ·exact Ws hs.2 h
theorem eg:∀{env:Cd} {x c:Nat},Ay T env→Lu env x (.r c)=true→cE T x c
 |[],_,_,_,h=>by cases h
 |(y,u)::r,x,c,hs,h=>by
  simp only[Lu] at h
  split at h
  ·rename_i hb
   rw[Bool.and_eq_true] at hb
   have e:=Nat.eq_of_beq_eq_true hb.1
   subst e
   have e2:=LO hb.2
   subst e2
   exact hs.1
  ·exact eg hs.2 h
theorem JI {env:Cd}{t:Ty}{r:Rf}(hs:Ay T env)(h:tyR env t r=true):r.eval T=uR T t r:=by
 cases r with
 |c u=>cases u<;>simp only[tyR] at h<;>first|(have e:=LO h;subst e;rfl)|cases h
 |e x=>exact Ws hs h
 |n x=>have e:=LO h;subst e;rfl
theorem LN {env:Cd}(hs:Ay T env):∀{ts:List Ty} {rs:List Rf},KJ env ts rs=true→rs.map (Rf.eval T)=List.zipWith (uR T) ts rs
 |[],[],_=>rfl
 |t::ts,r::rs,h=>by
  simp only[KJ,Bool.and_eq_true] at h
  simp only[List.map_cons,List.zipWith_cons_cons]
  rw[JI hs h.1,LN hs h.2]
 |[],_::_,h=>by cases h
 |_::_,[],h=>by cases h
theorem Wk {env:Cd}:∀{ts:List Ty} {rs:List Rf},KJ env ts rs=true→rs.length=ts.length
 |[],[],_=>rfl
 |_::_,_::_,h=>by
  simp only[KJ,Bool.and_eq_true] at h
  simp[Wk h.2]
 |[],_::_,h=>by cases h
 |_::_,[],h=>by cases h
theorem az:∀{ts:List Ty} {rs:List Rf},rs.length=(Dn ts).length→ts.all Ks=true→(Ge (List.zipWith (uR T) (Dn ts) rs)=true↔BL T ts rs)
 |[],[],_,_=>by simp[Ge,Dn,BL]
 |t::ts,a::b::r,hl,hn=>by
  simp only[List.all_cons,Bool.and_eq_true] at hn
  have ih:=az (ts:=ts) (rs:=r) (by simpa [Dn] using hl) hn.2
  simp only[Dn,List.zipWith_cons_cons,Ge,Bool.and_eq_true]
  rw[ih]
  cases t with
  |i=>simp[uR,U.eqv,BL]
  |b=>
   simp only[uR,U.eqv,BL]
   cases bR T a<;>cases bR T b<;>simp
  |l=>exact absurd hn.1 (by simp[Ks])
  |r c=>exact absurd hn.1 (by simp[Ks])
 |[],_::_,hl,_=>by simp[Dn] at hl
 |_::_,[],hl,_=>by simp[Dn] at hl
 |_::_,[_],hl,_=>by simp[Dn] at hl
theorem YT {env:Cd}(hs:Ay T env){ts:List Ty}{rs:List Rf}{c:Bool}(h:(KJ env (Dn ts) rs&&ts.all Ks)=true):Ge (rs.map (Rf.eval T))=true↔BL T ts rs:=by
 rw[Bool.and_eq_true] at h
 rw[LN hs h.1]
 exact az (Wk h.1) h.2
theorem ea (l:List U):(Gy l).toI=0:=by
 unfold Gy;split<;>rfl
theorem eu (l:List U):(Gy l).toB=false:=by
 unfold Gy;split<;>rfl
theorem Tt {d:U}(hd:d.toI=0):∀(l:List Rf) (n:Int),((l.map (Rf.eval T)).getD n.toNat d).toI=AN T l n
 |[],n=>by simp[AN,hd]
 |a::l,n=>by
  simp only[AN]
  split
  ·rename_i h
   have:n.toNat=0:=by omega
   simp[this,iR]
  ·rename_i h
   have e:n.toNat=(n - 1).toNat+1:=by omega
   rw[e,←Tt hd l (n - 1)]
   simp
theorem Tj {d:U}(hd:d.toB=false):∀(l:List Rf) (n:Int),((l.map (Rf.eval T)).getD n.toNat d).toB=true↔AM T l n
 |[],n=>by simp[AM,hd]
 |a::l,n=>by
  simp only[AM]
  by_cases h:n≤0
  ·have:n.toNat=0:=by omega
   simp[this,h,bR]
  ·have e:n.toNat=(n - 1).toNat+1:=by omega
   rw[e,←Tj hd l (n - 1)]
   simp[h]
theorem vB {x:Nat}{v:Bool}(h:T.get x= .bool v):B T x=v:=by unfold B;rw[h];rfl
theorem vI {x:Nat}{v:Int}(h:T.get x= .int v):I T x=v:=by unfold I;rw[h];rfl
theorem vL {x:Nat}{v:List (List U)}(h:T.get x= .list v):L T x=v:=by unfold L;rw[h];rfl
theorem sB {x:Nat}{v:Bool}(h:T.get x= .bool v):T.get x=uV T .b x:=by rw[h];show _=U.bool (T.get x).toB;rw[h];rfl
theorem sI {x:Nat}{v:Int}(h:T.get x= .int v):T.get x=uV T .i x:=by rw[h];show _=U.int (T.get x).toI;rw[h];rfl
theorem sL {x:Nat}{v:List (List U)}(h:T.get x= .list v):T.get x=uV T .l x:=by rw[h];show _=U.list (T.get x).toL;rw[h];rfl
theorem kI (o:Op2)(a b:Int):Af o (o.f a b) a b:=by
 cases o<;>simp only[Af,Op2.f]<;>first|rfl|exact tdiv_eq_if a b|exact tmod_eq_if a b|exact Int.min_def a b|exact Int.max_def a b
theorem lP (k:IntKind)(o:Op2)(a b:Int):w2P k o (k.wrap (o.f a b)) a b:=by
 cases k<;>cases o<;>simp only[w2P,Op2.f]<;>exact fun h1 h2=>Jq .i64 _ h1 h2
theorem aw {env:Cd}(hs:Ay T env):∀(e:En) {o:Option Ty},QC env e=some o→T.get e.x=opF e.op (e.rs.map (Rf.eval T))→AA T e:=by
 intro e o ht h
 unfold AA
 split<;>(try simp only at ht h)
 ·exact congrArg U.toI h
 ·exact Bool.eq_iff_iff.1 (congrArg U.toB h)
 ·exact congrArg U.toL h
 ·have:=vB h;rw[this];simp[u0,bR]
 ·have:=vB h;rw[this];simp[u0,u1,bR]
 ·have:=vB h;rw[this];simp[u0,u1,bR]
 ·have:=vB h;rw[this];simp[u0,u1,iR]
 ·have:=vB h;rw[this];simp[u0,u1,iR]
 ·have:=vB h;rw[this];simp[u0,u1,iR]
 ·have:=vB h;rw[this];simp[u0,u1,iR]
 ·rename_i x ts r
  simp only[QC] at ht
  split at ht
  ·rename_i hc
   rw[vB h];exact YT (c:=true) hs hc
  ·cases ht
 ·rename_i x ts r
  simp only[QC] at ht
  split at ht
  ·rename_i hc
   rw[vB h,←YT (c:=true) hs hc];simp
  ·cases ht
 ·have:=vB h;rw[this];simp only[u0,u1,bR,List.map_cons,List.map_nil,List.getD_cons_zero,List.getD_cons_succ];rename_i a b;cases (a.eval T).toB<;>cases (b.eval T).toB<;>simp
 ·have:=vB h;rw[this];simp only[u0,u1,bR,List.map_cons,List.map_nil,List.getD_cons_zero,List.getD_cons_succ];rename_i a b;cases (a.eval T).toB<;>cases (b.eval T).toB<;>simp
 ·rename_i x a b c
  have h1:=congrArg U.toI h
  show (T.get x).toI=_
  rw[h1]
  show (bif (a.eval T).toB then b.eval T else c.eval T).toI=_
  unfold bR iR
  cases (a.eval T).toB<;>rfl
 ·rename_i x a b c
  have h1:=congrArg U.toB h
  show ((T.get x).toB=true↔_)
  rw[h1]
  show ((bif (a.eval T).toB then b.eval T else c.eval T).toB=true↔_)
  unfold bR
  cases (a.eval T).toB<;>simp
 ·rename_i x a b c
  have h1:=congrArg U.toL h
  show (T.get x).toL=_
  rw[h1]
  show (bif (a.eval T).toB then b.eval T else c.eval T).toL=_
  unfold bR lR
  cases (a.eval T).toB<;>rfl
 ·rename_i x a b c
  rw[vB h]
  show ((bif (a.eval T).toB then (b.eval T).toB else (c.eval T).toB)=true↔_)
  unfold bR
  cases (a.eval T).toB<;>simp
 ·rw[vI h];exact kI _ _ _
 ·rw[vI h];exact lP _ _ _ _
 ·rw[vI h];rfl
 ·rw[vI h];show 0 - _=_;rw[Int.zero_sub];rfl
 ·rw[vI h];rfl
 ·rw[vI h];rfl
 ·rw[vL h];rfl
 ·exact congrArg U.toI h
 ·exact congrArg U.toB h
 ·exact congrArg U.toL h
 ·exact (congrArg U.toI h).trans (Tt (ea _) _ _)
 ·have h1:=congrArg U.toB h
  refine Iff.trans (b:=((_:U).toB=true)) (by rw[show B T _=_ from h1];exact Iff.rfl) (Tj (eu _) _ _)
 ·rename_i x k s ts r
  simp only[QC] at ht
  split at ht
  ·rename_i hc
   rw[vL h,LN hs hc]
  ·cases ht
 ·exact congrArg U.toI h
 ·exact congrArg U.toB h
 ·exact congrArg U.toL h
 ·trivial
theorem Uh {env:Cd}(hs:Ay T env):∀{r:List Rf} (n:Nat),r.all (tyR env .i)=true→∃v,(r.map (Rf.eval T)).getD n (.int 0)= .int v
 |[],n,_=>⟨0,by simp⟩
 |a::r,n,h=>by
  simp only[List.all_cons,Bool.and_eq_true] at h
  cases n with
  |zero=>exact⟨iR T a,by simpa [uR] using JI hs h.1⟩
  |succ n=>simpa using Uh hs (r:=r) n h.2
theorem Rh {env:Cd}(hs:Ay T env):∀{r:List Rf} (n:Nat),r.all (tyR env .b)=true→∃v,(r.map (Rf.eval T)).getD n (.bool false)= .bool v
 |[],n,_=>⟨false,by simp⟩
 |a::r,n,h=>by
  simp only[List.all_cons,Bool.and_eq_true] at h
  cases n with
  |zero=>exact⟨bR T a,by simpa [uR] using JI hs h.1⟩
  |succ n=>simpa using Rh hs (r:=r) n h.2
theorem ib {env:Cd}(hs:Ay T env){r:List Rf}(n:Nat)(h:r.all (tyR env .i)=true):∃v,(r.map (Rf.eval T)).getD n (Gy (r.map (Rf.eval T)))= .int v:=by
 have e:Gy (r.map (Rf.eval T))= .int 0:=by
  cases r with
  |nil=>rfl
  |cons a r=>
   simp only[List.all_cons,Bool.and_eq_true] at h
   have h1:a.eval T= .int (iR T a):=by simpa [uR] using JI hs h.1
   rw[List.map_cons,h1];rfl
 rw[e];exact Uh hs n h
theorem eZ {env:Cd}(hs:Ay T env){b:Rf}{r:List Rf}(n:Nat)(h:(b::r).all (tyR env .b)=true):∃v,((b::r).map (Rf.eval T)).getD n (Gy ((b::r).map (Rf.eval T)))= .bool v:=by
 have e:Gy ((b::r).map (Rf.eval T))= .bool false:=by
  have h0:=h
  simp only[List.all_cons,Bool.and_eq_true] at h0
  have h1:b.eval T= .bool (bR T b):=by simpa [uR] using JI hs h0.1
  rw[List.map_cons,h1];rfl
 rw[e];exact Rh hs n h
theorem lS {env:Cd}(hs:Ay T env):∀(e:En) {t:Ty},QC env e=some (some t)→T.get e.x=opF e.op (e.rs.map (Rf.eval T))→T.get e.x=uV T t e.x:=by
 intro e t ht h
 unfold QC at ht
 split at ht
 ·rename_i a e1 e2
  split at ht
  ·rename_i hc
   cases ht
   rw[e1,e2] at h
   have h2:T.get e.x=a.eval T:=h
   rw[JI hs hc] at h2
   cases t
   ·exact sI h2
   ·exact sB h2
   ·exact sL h2
   ·rfl
  ·cases ht
 ·rename_i a b c e1 e2
  split at ht
  ·rename_i hc
   cases ht
   rw[Bool.and_eq_true] at hc
   rw[e1,e2] at h
   have h2:T.get e.x=bif (a.eval T).toB then b.eval T else c.eval T:=h
   rw[JI hs hc.1,JI hs hc.2] at h2
   cases t<;>cases hb:(a.eval T).toB<;>rw[hb] at h2<;>first|exact sI h2|exact sB h2|exact sL h2|rfl
  ·cases ht
 all_goals first
  |(rename_i c x a e1 e2;split at ht<;>cases ht;rename_i hc;rw[e1,e2] at h;obtain⟨n,hn⟩:=eg hs hc (a.eval T).toI.toNat;exact sI (h.trans hn))
  |(rename_i a b2 r e1 e2;split at ht<;>cases ht;rename_i hc;rw[e1,e2] at h;obtain⟨v,hv⟩:=eZ hs (a.eval T).toI.toNat hc;exact sB (h.trans hv))
  |(rename_i a r e1 e2;split at ht<;>cases ht;rename_i hc;rw[e1,e2] at h;obtain⟨v,hv⟩:=ib hs (a.eval T).toI.toNat hc;exact sI (h.trans hv))
  |(rename_i e1;split at ht<;>cases ht;rw[e1] at h;first|exact sI h|exact sB h|exact sL h)
  |(rename_i e1;cases ht;rw[e1] at h;first|exact sI h|exact sB h|exact sL h)
  |(cases ht)
  |skip
def AK (T:Tab):List En→Prop
 |[]=>True
 |e::r=>AA T e∧AK T r
theorem AK.left:∀{a b:List En},AK T (a++b)→AK T a
 |[],_,_=>trivial
 |_::_,_,h=>⟨h.1,AK.left h.2⟩
theorem AK.right:∀{a b:List En},AK T (a++b)→AK T b
 |[],_,h=>h
 |_::_,_,h=>AK.right h.2
end
abbrev BE:=Nat × (List U→U) × List Rf
abbrev BO:=PC × (List U→Prop) × List Rf
abbrev BP:=(List U→Prop) × List Rf
def Je (l:List (Nat × Ex)):List BE:=l.map fun p=>(p.1,p.2.f,p.2.args)
def Lb (l:List Ob):List BO:=l.map fun o=>(o.pc,o.p.f,o.p.args)
def jC (l:List Pr):List BP:=l.map fun p=>(p.f,p.args)
def CJ (T:Tab):List BE→Prop
 |[]=>True
 |(x,f,rs)::r=>T x=f (rs.map (Rf.eval T))∧CJ T r
def Y4 (T:Tab):List BO→Prop
 |[]=>True
 |(pc,f,rs)::r=>(pcv T pc→f (rs.map (Rf.eval T)))∧Y4 T r
def AllP (T:Tab):List BP→Prop
 |[]=>True
 |(f,rs)::r=>f (rs.map (Rf.eval T))∧AllP T r
section
variable {T:Tab}
theorem Og:∀{l:List (Nat × Ex)},(∀p∈l,T p.1=p.2.eval T)→CJ T (Je l)
 |[],_=>trivial
 |p::_,h=>⟨h p (List.mem_cons_self ..),Og fun q hq=>h q (List.mem_cons_of_mem _ hq)⟩
theorem Yv:∀{l:List (Nat × Ex)},CJ T (Je l)→∀p∈l,T p.1=p.2.eval T
 |[],_,p,hp=>by cases hp
 |e::r,h,p,hp=>by
  cases hp with
  |head=>exact h.1
  |tail _ hp=>exact Yv (l:=r) h.2 p hp
theorem CJ.left:∀{a b:List BE},CJ T (a++b)→CJ T a
 |[],_,_=>trivial
 |_::_,_,h=>⟨h.1,CJ.left h.2⟩
theorem CJ.right:∀{a b:List BE},CJ T (a++b)→CJ T b
 |[],_,h=>h
 |_::_,_,h=>CJ.right h.2
theorem Ou:∀{l:List Ob},Y4 T (Lb l)→∀o∈l,o.holds T
 |[],_,o,ho=>by cases ho
 |o'::_,h,o,ho=>by
  cases ho with
  |head=>exact h.1
  |tail _ ho=>exact Ou h.2 o ho
theorem bN:∀{l:List Pr},AllP T (jC l)→∀o∈l,o.holds T
 |[],_,o,ho=>by cases ho
 |o'::_,h,o,ho=>by
  cases ho with
  |head=>exact h.1
  |tail _ ho=>exact bN h.2 o ho
theorem gW {x:Nat}:∀(t:Ty),T.get x=uV T t x→(∀c,t≠ .r c)→Sty T x t
 | .i,h,_=>h
 | .b,h,_=>h
 | .l,h,_=>h
 | .r c,_,h=>absurd rfl (h c)
theorem Qf:∀{l:List En} {env env':Cd},Ay T env→chk env l=some env'→CJ T (l.map En.be)→AK T l∧Ay T env'
 |[],env,env',hs,h,_=>by
  simp only[chk] at h;cases h;exact⟨trivial,hs⟩
 |e::r,env,env',hs,h,hb=>by
  simp only[chk] at h
  split at h
  ·cases h
  ·rename_i ht
   obtain⟨h1,h2⟩:=Qf hs h hb.2
   exact⟨⟨aw hs e ht hb.1,h1⟩,h2⟩
  ·rename_i t ht
   split at h
   ·rename_i hn
    obtain⟨h1,h2⟩:=Qf (env:=(e.x,t)::env) ⟨gW t (lS hs e ht hb.1) (fun c hc=>by rw[hc] at hn;cases hn),hs⟩ h hb.2
    exact⟨⟨aw hs e ht hb.1,h1⟩,h2⟩
   ·cases h
def J7 (env:Cd)(l:List En):Cd:=(chk env l).getD []
theorem Cp {l:List En}{env:Cd}(hs:Ay T env)(hc:(chk env l).isSome=true)(hb:CJ T (l.map En.be)):AK T l∧Ay T (J7 env l):=by
 obtain⟨env',h⟩:=Option.isSome_iff_exists.1 hc
 have:=Qf hs h hb
 unfold J7
 rw[h];exact this
def iN (env:Cd)(l:List En)(tys:List Ty)(rs:List Rf):Bool:=match chk env l with
 |some env'=>KJ env' tys rs
 |none=>false
theorem CK {l:List En}{env:Cd}{tys:List Ty}{rs:List Rf}(hs:Ay T env)(hc:iN env l tys rs=true)(hb:CJ T (l.map En.be)):AK T l∧rs.map (Rf.eval T)=List.zipWith (uR T) tys rs:=by
 unfold iN at hc
 split at hc
 ·rename_i env' h
  obtain⟨h1,h2⟩:=Qf hs h hb
  exact⟨h1,LN h2 hc⟩
 ·cases hc
theorem Ay.append:∀{a b:Cd},Ay T a→Ay T b→Ay T (a++b)
 |[],_,_,h=>h
 |_::_,_,h,h'=>⟨h.1,Ay.append h.2 h'⟩
def tyKd:Kd→Option Ty
 | .int _ _ _=>some .i
 | .bool=>some .b
 | .list _=>some .l
 |_=>none
def Rg (x:Nat):Nat→List Kd→Cd
 |_,[]=>[]
 |c,.int _ _ _::es=>(x,.r c)::Rg x (c+1) es
 |c,_::es=>Rg x (c+1) es
def EE:Nat→List Kd→Cd
 |_,[]=>[]
 |x,.list es::ks=>(x,.l)::(Rg x 0 es++EE (x+1) ks)
 |x,k::ks=>match tyKd k with
  |some t=>(x,t)::EE (x+1) ks
  |none=>EE (x+1) ks
def Bnd (T:Tab):Nat→List Kd→Prop
 |_,[]=>True
 |x,.int _ lo hi::ks=>(lo≤I T x∧I T x≤hi)∧Bnd T (x+1) ks
 |x,.list es::ks=>((L T x).length≤140737488355328∧∀(i:Nat) (us:List U),(L T x)[i]? =some us→DC B8 es us)∧Bnd T (x+1) ks
 |x,_::ks=>Bnd T (x+1) ks
theorem Ay.append0:∀{a b:Cd},Ay T a→Ay T b→Ay T (a++b)
 |[],_,_,h=>h
 |_::_,_,h,h'=>⟨h.1,Ay.append0 h.2 h'⟩
theorem XE:∀{es:List Kd} {us:List U} {c:Nat} {k:Kd},DC B8 es us→es[c]? =some k→∃u,us[c]? =some u∧KdU B8 k u
 |[],_,_,_,_,h=>by simp at h
 |e::es,us,c,k,⟨u,us',e1,h1,h2⟩,h=>by
  subst e1
  cases c with
  |zero=>simp at h;subst h;exact⟨u,rfl,h1⟩
  |succ c=>simpa using XE h2 (by simpa using h)
theorem jl {x c:Nat}{es:List Kd}{kk:IntKind}{lo hi:Int}(h:∀(i:Nat) (us:List U),(L T x)[i]? =some us→DC B8 es us)(hc:es[c]? =some (.int kk lo hi)):cE T x c:=fun i=>by
 rcases Nat.lt_or_ge i (L T x).length with hi|hi
 ·obtain⟨u,h1,⟨n,e,_⟩⟩:=XE (h i _ (List.getElem?_eq_getElem hi)) hc
  refine⟨n,?_⟩
  simp only[List.getD,List.getElem?_eq_getElem hi,Option.getD_some,h1]
  exact e
 ·exact⟨0,by simp only[List.getD,List.getElem?_eq_none hi,Option.getD_none];simp;rfl⟩
theorem bE {x:Nat}{all:List Kd}(h:∀(i:Nat) (us:List U),(L T x)[i]? =some us→DC B8 all us):∀(es:List Kd) (c:Nat),(∀j k,es[j]? =some k→all[c+j]? =some k)→Ay T (Rg x c es)
 |[],_,_=>trivial
 |e::es,c,ha=>by
  have ih:=bE h es (c+1) fun j k hj=>by
   have:=ha (j+1) k (by simpa using hj)
   rw[show c+(j+1)=c+1+j by omega] at this
   exact this
  cases e with
  |int kk lo hi=>exact⟨jl h (ha 0 _ rfl),ih⟩
  |_=>exact ih
theorem Y0:∀{ks:List Kd} {us:List U} {x:Nat},DC B8 ks us→(∀j u,us[j]? =some u→T (x+j)=u)→Ay T (EE x ks)∧Bnd T x ks
 |[],us,x,_,_=>⟨trivial,trivial⟩
 |k::ks,us,x,⟨u,us',e,h1,h2⟩,hT=>by
  subst e
  have ih:=Y0 (x:=x+1) h2 fun j v hj=>by
   have:=hT (j+1) v (by simpa using hj)
   rw[show x+(j+1)=x+1+j by omega] at this
   exact this
  have h0:T.get x=u:=hT 0 u rfl
  cases k with
  |int kk lo hi=>
   obtain⟨n,e1,e2⟩:=h1
   rw[e1] at h0
   refine⟨⟨sI h0,ih.1⟩,?_,ih.2⟩
   rw[vI h0];exact e2
  |bool=>
   obtain⟨n,e1⟩:=h1
   rw[e1] at h0
   exact⟨⟨sB h0,ih.1⟩,ih.2⟩
  |str=>exact ih
  |val=>exact ih
  |any=>exact ih
  |list es=>
   obtain⟨n,e1,e2,e3⟩:=h1
   rw[e1] at h0
   have e3':∀(i:Nat) (us:List U),(L T x)[i]? =some us→DC B8 es us:=by rw[vL h0];exact e3
   refine⟨⟨sL h0,(bE e3' es 0 (fun j k hj=>by rw[Nat.zero_add];exact hj)).append0 ih.1⟩,?_,ih.2⟩
   exact⟨by rw[vL h0];exact e2,e3'⟩
end
inductive PO where
 |nez|t|inr|inl|btw (lo hi:Int)|fits (b:Nat)|ready|ne|pre (tg:String) (p:List U→Prop)|owes (D:BW)
structure ObE where
 pc:PC
 po:PO
 rs:List Rf
def poF:PO→List U→Prop
 | .nez=>Pp| .t=>pT| .inr=>pIn| .inl=>SL| .btw lo hi=>J6 lo hi| .fits b=>Om b| .ready=>WB| .ne=>pNe| .pre _ p=>p| .owes D=>D.owes
def ObE.be (o:ObE):PC × (List U→Prop) × List Rf:=(o.pc,poF o.po,o.rs)
def pcP (T:Tab):PC→Prop
 |none=>True
 |some c=>B T c=true
def d5 (T:Tab)(o:ObE):Prop:=
 match o with
 |⟨pc,.nez,[a]⟩=>pcP T pc→¬iR T a=0
 |⟨pc,.t,[a]⟩=>pcP T pc→bR T a=true
 |⟨pc,.inr,[a,b]⟩=>pcP T pc→(0≤iR T a∧iR T a < iR T b)
 |⟨pc,.inl,[a,b]⟩=>pcP T pc→(0≤iR T a∧iR T a < (lR T b).length)
 |⟨pc,.btw lo hi,[a]⟩=>pcP T pc→(lo≤iR T a∧iR T a≤hi)
 |⟨pc,.fits b,[a,c]⟩=>pcP T pc→((lR T a).length+(lR T c).length)*b≤140737488355328
 |⟨pc,.ready,[a]⟩=>pcP T pc→iR T a=0
 |⟨pc,.ne,[a,b]⟩=>pcP T pc→¬iR T a=iR T b
 |⟨pc,.pre _ p,rs⟩=>pcP T pc→p (rs.map (Rf.eval T))
 |⟨pc,.owes D,rs⟩=>pcP T pc→D.owes (rs.map (Rf.eval T))
 |_=>False
def Sp (T:Tab):List ObE→Prop
 |[]=>True
 |o::r=>d5 T o∧Sp T r
section
variable {T:Tab}
theorem gD {pc:PC}(h:pcv T pc):pcP T pc:=by
 cases pc with
 |none=>trivial
 |some c=>show (T.get c).toB=true;rw[show T.get c= .bool true from h];rfl
theorem fm {pc:PC}(h:pcP T pc):pcv T pc:=by
 cases pc with
 |none=>trivial
 |some c=>exact HM.2 h
theorem iz:∀{o:ObE},d5 T o→(pcv T o.pc→poF o.po (o.rs.map (Rf.eval T))):=by
 intro o h hp
 have hp':=gD hp
 unfold d5 at h
 split at h<;>first|exact h hp'|exact h.elim
theorem On:∀{l:List ObE},Sp T l→Y4 T (l.map ObE.be)
 |[],_=>trivial
 |_::_,h=>⟨iz h.1,On h.2⟩
end
def Bc.sees (t:Bc)(rs:List Rf)(r:Option (AC × Mem × G)):Option (List BE × List BO × List BP):=
 match r with
 |some (c0,m0,g0)=>match Yl t rs c0 m0 g0 with
  |some ps=>some (Je g0.eqs.reverse,Lb g0.obs,jC ps)
  |none=>none
 |none=>none
theorem Qo:∀{ks:List Kd} {us:List U},us.length=ks.length→XV ks us→DC B8 ks us
 |[],[],_,_=>rfl
 |k::ks,u::us,hl,h=>⟨u,us,rfl,h 0 k u rfl rfl,Qo (by simpa using hl) fun j k' u' h1 h2=>h (j+1) k' u' (by simpa using h1) (by simpa using h2)⟩
 |[],_::_,hl,_=>by simp at hl
 |_::_,[],hl,_=>by simp at hl
def Bc.run (P:Program)(l:List (FuncId × Bc))(Ba:FuncId→Ht)(fuel depth:Nat)(f:FuncId)(t:Bc):Option (AC × Mem × G):=
 JW P (Lg l) Ba fuel depth (fun _=>none) f t.args none t.m { n:=t.n,eqs:=[],obs:=[] }
def jq (t:Bc):Bool:=(List.range t.m.length).all fun id=>match t.m'.at id with| .pad=>false|_=>true
theorem Bu {P:Program}{f:FuncId}{t:Bc}(hm:P.follows .mixedOrders=true){l:List (FuncId × Bc)}(hl:∀p∈l,CA P p.1 p.2){Ba:FuncId→Ht}{fuel depth:Nat}{rs:List Rf}{es:List En}{os:List ObE}
  (hrun:t.sees rs (t.run P l Ba fuel depth f)=some (es.map En.be,os.map ObE.be,[])) (hne:jq t=true)
  (hplain:∀(T:Tab) (us:List U),(∀p∈t.pre,p.2 us)→(∀j u,us[j]? =some u→T j=u)→us.length=t.n→Ay T (EE 0 t.ks)→Bnd T 0 t.ks→CJ T (es.map En.be)→Sp T os∧rs.map (Rf.eval T)=t.outs.map fun o=>o.2 us):CA P f t:=by
 unfold Bc.sees at hrun
 split at hrun
 ·rename_i c0 m0 g0 hr
  split at hrun
  ·rename_i ps hok
   injection hrun with hrun
   injection hrun with e1 hrun
   injection hrun with e2 e3
   refine j5 hm (P9 hl) hr hok (fun id hid e=>?_) fun T us hul hin hpre hlow heqs=>?_
   ·have:=List.all_eq_true.1 hne id (List.mem_range.2 hid)
    rw[e] at this;cases this
   ·have hb:CJ T (Je g0.eqs.reverse):=Og fun p hp=>heqs p (List.mem_reverse.1 hp)
    rw[e1] at hb
    obtain⟨i1,i2⟩:=Y0 (x:=0) (Qo hul hin) fun j u hj=>by rw[Nat.zero_add];exact hlow j u hj
    obtain⟨h1,h3⟩:=hplain T us hpre hlow hul i1 i2 hb
    have h2:=On h1
    rw[←e2] at h2
    exact⟨Ou h2,bN (by rw[e3];trivial),h3⟩
  ·cases hrun
 ·cases hrun
theorem lc {α:Type}{a b:α}{l m:List α}(h:a=b)(h':l=m):a::l=b::m:=by rw[h,h']
def aI (us:List U)(j:Nat):Int:=(us.getD j default).toI
def aB (us:List U)(j:Nat):Bool:=(us.getD j default).toB
def aL (us:List U)(j:Nat):List (List U):=(us.getD j default).toL
theorem inI {T:Tab}{us:List U}{j n:Nat}(h:∀j u,us[j]? =some u→T j=u)(hl:us.length=n)(hj:j < n):aI us j=I T j:=by
 have:=h j us[j] (List.getElem?_eq_getElem (by omega))
 unfold aI I
 rw[show T.get j=us[j] from this]
 simp[List.getD,List.getElem?_eq_getElem (show j < us.length by omega)]
theorem inB {T:Tab}{us:List U}{j n:Nat}(h:∀j u,us[j]? =some u→T j=u)(hl:us.length=n)(hj:j < n):aB us j=B T j:=by
 have:=h j us[j] (List.getElem?_eq_getElem (by omega))
 unfold aB B
 rw[show T.get j=us[j] from this]
 simp[List.getD,List.getElem?_eq_getElem (show j < us.length by omega)]
theorem inL {T:Tab}{us:List U}{j n:Nat}(h:∀j u,us[j]? =some u→T j=u)(hl:us.length=n)(hj:j < n):aL us j=L T j:=by
 have:=h j us[j] (List.getElem?_eq_getElem (by omega))
 unfold aL L
 rw[show T.get j=us[j] from this]
 simp[List.getD,List.getElem?_eq_getElem (show j < us.length by omega)]
theorem AU {a b:Bool}(h:a=true↔b=true):a=b:=Bool.eq_iff_iff.2 h
end Go.Eng
end
noncomputable section
namespace Go.Eng
open Go
theorem VA {D:BW}{top:Nat}(h:D.inScope top=true):Dr D.fv D.nh (D.nh+D.k) top D.eqs=true∧G9 D.fv D.nh top (pcL D.pcn)=true∧∀x∈D.fv,x < D.nh:=by
 simp only[BW.inScope,Bool.and_eq_true] at h
 obtain⟨⟨⟨⟨s1,s2⟩,_⟩,_⟩,s5⟩:=h
 exact⟨s1,s2,fun x hx=>CX (List.all_eq_true.1 s5 x hx)⟩
theorem dR {D:BW}{T:Tab}{top:Nat}{inits:List U}(hsc:D.inScope top=true)(hk:inits.length=D.k)(hnl:D.nxt.length=D.k)(hH:∀j,j < D.k→T (D.nh+j)=D.res j (D.fv.map T.get++inits))(hE:∀p∈D.eqs,T p.1=p.2.eval T)
  (Inv:List U→Prop) (μ:List U→Nat) (h0:Inv inits)
  (hstep:∀(T':Tab) (s:List U),s.length=D.k→(∀x∈D.fv,T' x=T x)→(∀j u,s[j]? =some u→T' (D.nh+j)=u)→CJ T' (Je D.eqs.reverse)→Inv s→Y4 T' (Lb D.obs)∧(pcv T' D.pcn→Inv (D.nxt.map (Rf.eval T'))∧μ (D.nxt.map (Rf.eval T')) < μ s)):
  D.owes (D.fv.map T.get++inits)∧(∃t,Inv t∧t.length=D.k∧∀j u,t[j]? =some u→T (D.nh+j)=u)∧¬pcv T D.pcn:=by
 obtain⟨sc1,sc2,hfv⟩:=VA hsc
 have hlo:D.nh≤D.nh+D.k:=Nat.le_add_right _ _
 generalize hus:D.fv.map T.get=us at*
 have hfl:us.length=D.fv.length:=by rw[←hus];simp
 have e1:(us++inits).take D.fv.length=us:=by rw[←hfl];simp
 have e2:(us++inits).drop D.fv.length=inits:=by rw[←hfl];simp
 have key:∀s:List U,s.length=D.k→Inv s→Y4 (D.tab us s) (Lb D.obs)∧(pcv (D.tab us s) D.pcn→Inv (D.nxt.map (Rf.eval (D.tab us s)))∧μ (D.nxt.map (Rf.eval (D.tab us s))) < μ s):=fun s hs hi=>by
  refine hstep (D.tab us s) s hs (fun x hx=>?_) (fun j u hj=>?_) (Og fun p hp=>?_) hi
  ·have:=hfv x hx
   unfold BW.tab
   rw[(Dw sc1).2.2 x (.inl (by omega)),H9 _ _ _ _ this,←hus]
   exact Kf D.fv x hx
  ·have hjl:=(List.getElem?_eq_some_iff.1 hj).1
   unfold BW.tab
   rw[(Dw sc1).2.2 _ (.inl (by omega))]
   exact Ho _ _ _ _ _ hj
  ·exact JJ hfv hlo sc1 p (List.mem_reverse.1 hp)
 have stepE:∀s,D.step us s=(bif pcB (D.tab us s) D.pcn then some (D.nxt.map (Rf.eval (D.tab us s))) else none):=fun s=>rfl
 have go:∀(n:Nat) (s:List U),μ s≤n→s.length=D.k→Inv s→∃m t,GK (D.step us) m s=some t∧D.step us t=none∧Inv t∧t.length=D.k:=by
  intro n
  induction n with
  |zero=>
   intro s hm hs hi
   cases hp:pcB (D.tab us s) D.pcn with
   |true=>have:=((key s hs hi).2 (Jt.1 hp)).2;omega
   |false=>exact⟨0,s,rfl,by rw[stepE,hp];rfl,hi,hs⟩
  |succ n ih=>
   intro s hm hs hi
   cases hp:pcB (D.tab us s) D.pcn with
   |true=>
    obtain⟨k1,k2⟩:=(key s hs hi).2 (Jt.1 hp)
    obtain⟨m,t,q1,q2,q3,q4⟩:=ih (D.nxt.map (Rf.eval (D.tab us s))) (by omega) (by simp[hnl]) k1
    refine⟨m+1,t,?_,q2,q3,q4⟩
    simp only[GK,stepE,hp,cond_true,Option.bind_some]
    exact q1
   |false=>exact⟨0,s,rfl,by rw[stepE,hp];rfl,hi,hs⟩
 obtain⟨m,t,q1,q2,q3,q4⟩:=go (μ inits) inits (Nat.le_refl _) hk h0
 have hreach:∀s,Dv (D.step us) inits s→Inv s∧s.length=D.k:=by
  intro s hr
  induction hr with
  |zero=>exact⟨h0,hk⟩
  |succ hr hst ih=>
   rename_i s1 s2
   rw[stepE] at hst
   cases hp:pcB (D.tab us s1) D.pcn with
   |true=>
    rw[hp] at hst
    cases hst
    exact⟨((key s1 ih.2 ih.1).2 (Jt.1 hp)).1,by simp[hnl]⟩
   |false=>rw[hp] at hst;cases hst
 have hlast:=bX q1 q2
 have hT:∀j u,t[j]? =some u→T (D.nh+j)=u:=fun j u hj=>by
  have hjl:=(List.getElem?_eq_some_iff.1 hj).1
  rw[hH j (by omega)]
  unfold BW.res
  rw[e1,e2,hlast]
  simp[List.getD,hj]
 refine⟨⟨by rw[e1,e2];exact⟨m,t,q1,q2⟩,fun s hr=>?_⟩,⟨t,q3,q4,hT⟩,fun hp=>?_⟩
 ·rw[e1,e2] at hr
  rw[e1]
  obtain⟨i1,i2⟩:=hreach s hr
  exact Ou (key s i2 i1).1
 ·have hag:∀x,x∈D.fv∨(D.nh≤x∧x < top)→T x=D.tab us t x:=fun x hx=>by
   have:=Ky (T1:=T) (T2:=(KV D.fv us).upds D.nh t) hfv hlo (fun y hy=>?_) sc1 x hx
   ·rw[L5 hE] at this
    exact this
   ·rcases hy with hy|hy
    ·rw[H9 _ _ _ _ (hfv y hy),←hus]
     exact (Kf D.fv y hy).symm
    ·have hj:y - D.nh < t.length:=by omega
     have h1:=Ho t (KV D.fv us) D.nh (y - D.nh) t[y - D.nh] (List.getElem?_eq_getElem hj)
     have h2:=hT (y - D.nh) t[y - D.nh] (List.getElem?_eq_getElem hj)
     rw[show D.nh+(y - D.nh)=y by omega] at h1 h2
     rw[h1,h2]
  have:pcB (D.tab us t) D.pcn=true:=by
   cases hc:D.pcn with
   |none=>rfl
   |some c=>
    rw[hc] at hp sc2
    have hcs:=FJ sc2 c (by simp[pcL])
    rw[Jt]
    show D.tab us t c= .bool true
    rw[←hag c hcs]
    exact hp
  rw[stepE,this] at q2
  cases q2
theorem cW (v:BitVec 64):(v &&& ~~~(1#64))=(v >>> 1) <<< 1:=by
 ext i hi
 simp only[BitVec.getElem_and,BitVec.getElem_not,BitVec.getElem_shiftLeft,BitVec.getElem_ushiftRight,BitVec.getElem_one]
 by_cases h:i=0
 ·subst h;simp
 ·simp[h]
  rw[show 1+(i - 1)=i by omega]
  simp[BitVec.getLsbD_eq_getElem hi]
theorem jZ {x:Int}(h1: -9223372036854775808≤x)(h2:x≤9223372036854775807):ED .andNot .i64 x 1=x - x % 2:=by
 have e1:(BitVec.ofInt IntKind.i64.bits x &&& ~~~(BitVec.ofInt IntKind.i64.bits 1)).toNat=(x % 18446744073709551616).toNat / 2*2:=by
  show (BitVec.ofInt 64 x &&& ~~~(1#64)).toNat=_
  rw[cW]
  simp only[BitVec.toNat_shiftLeft,BitVec.toNat_ushiftRight,BitVec.toNat_ofInt,Nat.shiftLeft_eq,Nat.shiftRight_eq_div_pow]
  have e:((2 ^ 64:Nat):Int)=18446744073709551616:=rfl
  rw[e,Nat.pow_one]
  omega
 unfold ED
 simp only[e1]
 generalize hv:(x % 18446744073709551616).toNat / 2*2=v
 have hv':(v:Int)=x % 18446744073709551616 / 2*2:=by omega
 clear e1 hv
 simp[IntKind.wrap,IntKind.signed,IntKind.bits]
 split<;>omega
def gB:Op2→String
 | .add=> "add" | .sub=> "sub" | .mul=> "mul" | .div=> "div" | .mod=> "mod" | .tdiv=> "tdiv" | .tmod=> "tmod" | .min=> "min" | .max=> "max"
def jx:BinOp→String
 | .and=> "and" | .or=> "or" | .xor=> "xor" |_=> "andNot"
def lf:Opn→Tg
 | .id _=> "id" | .not=> "not" | .and=> "and" | .or=> "or" | .lt=> "lt" | .le=> "le" | .eq=> "eq" | .ne=> "ne"
 | .eqs _=> "eqs" | .nes _=> "nes" | .eqb=> "eqb" | .neb=> "neb" | .ite _=> "if" | .ifb=> "ifb"
 | .o2 o=>gB o| .w2 k o=>G8 k++ " " ++gB o| .w1 k=>G8 k++ " id" | .neg=> "neg" | .bits o k=>G8 k++ " " ++jx o
 | .len=> "len" | .app=> "app" | .get _ c=> "get " ++toString c| .pick _=> "pick" | .row _ s _=> "row " ++toString s
 | .outI tg _=>tg| .outB tg _=>tg| .outL tg _=>tg| .res _ D j=>D.tg j
def ld:PO→Tg
 | .nez=> "nez" | .t=> "t" | .inr=> "in" | .inl=> "inl" | .btw lo hi=> "between " ++toString lo++ " " ++toString hi| .fits b=> "fits " ++toString b| .ready=> "ready" | .ne=> "ne" | .pre tg _=>tg| .owes D=>D.tg 0
def En.ex (e:En):Nat × Ex:=(e.x,⟨lf e.op,opF e.op,e.rs⟩)
def ObE.ob (o:ObE):Ob:=⟨o.pc,⟨ld o.po,poF o.po,o.rs⟩⟩
def mkD (nh k:Nat)(bes:List En)(pcn:Nat)(nxt:List Rf)(bos:List ObE)(fv:List Nat):BW:=
 {nh,k,eqs:=(bes.map En.ex).reverse,pcn:=some pcn,nxt,obs:=bos.map ObE.ob,fv }
def hds:Nat→List Ty→Cd
 |_,[]=>[]
 |x,t::ts=>(x,t)::hds (x+1) ts
def hdU (T:Tab):Nat→List Ty→List U
 |_,[]=>[]
 |x,t::ts=>uV T t x::hdU T (x+1) ts
def uOf:Ty→U→U
 | .i,u=> .int u.toI
 | .b,u=> .bool u.toB
 | .l,u=> .list u.toL
 | .r _,u=>u
def TyU:List Ty→List U→Prop
 |[],[]=>True
 |t::ts,u::us=>(u=uOf t u∧noR t=true)∧TyU ts us
 |_,_=>False
def ig (fv:List Nat)(env:Cd):Cd:=env.filter fun p=>fv.contains p.1
section
variable {T:Tab}
theorem Sm:∀{ts:List Ty} {rs:List Rf},ts.all noR=true→ts.length=rs.length→TyU ts (List.zipWith (uR T) ts rs)
 |[],[],_,_=>trivial
 |t::ts,r::rs,h0,h=>by
  simp only[List.all_cons,Bool.and_eq_true] at h0
  exact⟨⟨by cases t<;>rfl,h0.1⟩,Sm h0.2 (by simpa using h)⟩
 |[],_::_,_,h=>by simp at h
 |_::_,[],_,h=>by simp at h
theorem Wv:∀{ts:List Ty} {us:List U} {x:Nat},TyU ts us→(∀j u,us[j]? =some u→T (x+j)=u)→Ay T (hds x ts)∧hdU T x ts=us
 |[],[],_,_,_=>⟨trivial,rfl⟩
 |t::ts,u::us,x,h,hT=>by
  obtain⟨h1,h2⟩:=Wv (x:=x+1) h.2 fun j v hj=>by
   have:=hT (j+1) v (by simpa using hj)
   rw[show x+(j+1)=x+1+j by omega] at this
   exact this
  have h0:T.get x=u:=hT 0 u rfl
  have e:u=uV T t x:=by
   have:=h.1.1
   cases t<;>(simp only[uV,uR,iR,bR,lR,Rf.eval];rw[show T x=u from h0];try exact this)
  exact⟨⟨gW t (h0.trans e) (fun c hc=>by have:=h.1.2;rw[hc] at this;cases this),h1⟩,by simp only[hdU];rw[h2,←e]⟩
 |[],_::_,_,h,_=>h.elim
 |_::_,[],_,h,_=>h.elim
theorem LA {T2:Tab}{fv:List Nat}(hfv:∀x∈fv,T2.get x=T.get x):∀{env:Cd},Ay T env→Ay T2 (ig fv env)
 |[],_=>trivial
 |(x,t)::r,h=>by
  unfold ig
  rw[List.filter_cons]
  split
  ·rename_i hc
   have e:=hfv x (List.contains_iff_mem.1 hc)
   refine⟨?_,LA hfv h.2⟩
   cases t with
   |r c=>
    have h1:cE T x c:=h.1
    intro i
    obtain⟨n,hn⟩:=h1 i
    exact⟨n,by unfold L at hn⊢;rw[e];exact hn⟩
   |_=>
    have h1:=Sty.get h.1
    show T2.get x=_
    rw[e,h1]
    simp only[uV,uR,iR,bR,lR,Rf.eval];rw[show T2 x=T x from e]
  ·exact LA hfv h.2
theorem XY (bes:List En):Je (((bes.map En.ex).reverse).reverse)=bes.map En.be:=by
 rw[List.reverse_reverse];unfold Je;rw[List.map_map];rfl
theorem iU (bos:List ObE):Lb (bos.map ObE.ob)=bos.map ObE.be:=by
 unfold Lb;rw[List.map_map];rfl
def NW (D:BW)(args:List Rf):Nat→Nat→List BE
 |_,0=>[]
 |j,k+1=>(D.nh+j,D.res j,args)::NW D args (j+1) k
theorem Ry {D:BW}{args:List Rf}:∀{k j0:Nat},CJ T (NW D args j0 k)→∀j,j < k→T (D.nh+(j0+j))=D.res (j0+j) (args.map (Rf.eval T))
 |0,_,_,j,hj=>by omega
 |k+1,j0,h,j,hj=>by
  cases j with
  |zero=>exact h.1
  |succ j=>
   have:=Ry h.2 j (by omega)
   rw[show j0+1+j=j0+(j+1) by omega] at this
   exact this
theorem Gx {env:Cd}{nh k pcn top:Nat}{bes:List En}{bos:List ObE}{nxt inits:List Rf}{fv:List Nat}{tys:List Ty}(hsc:(mkD nh k bes pcn nxt bos fv).inScope top=true)(hn:inits.length=k)(hn2:nxt.length=k)(hn3:tys.length=k)(hnr:tys.all noR=true)
  (hS:Ay T env) (hini:KJ env tys inits=true) (hchk:iN (hds nh tys++ig fv env) bes tys nxt=true)
  (hB:CJ T (bes.map En.be)) (hH:CJ T (NW (mkD nh k bes pcn nxt bos fv) (fv.map Rf.e++inits) 0 k))
  (Inv:List U→Prop) (μ:List U→Nat) (h0:Inv (List.zipWith (uR T) tys inits))
  (hstep:∀T2:Tab,(∀x∈fv,T2.get x=T.get x)→AK T2 bes→Inv (hdU T2 nh tys)→
   Sp T2 bos∧(B T2 pcn=true→Inv (List.zipWith (uR T2) tys nxt)∧μ (List.zipWith (uR T2) tys nxt) < μ (hdU T2 nh tys))):
  (mkD nh k bes pcn nxt bos fv).owes ((fv.map Rf.e++inits).map (Rf.eval T))∧Ay T (hds nh tys)∧Inv (hdU T nh tys)∧¬B T pcn=true:=by
 have hI:inits.map (Rf.eval T)=List.zipWith (uR T) tys inits:=LN hS hini
 have hA:(fv.map Rf.e++inits).map (Rf.eval T)=fv.map T.get++List.zipWith (uR T) tys inits:=by
  rw[List.map_append,hI,List.map_map];rfl
 have hH':=fun j (hj:j < k)=>Ry hH j hj
 simp only[Nat.zero_add] at hH'
 rw[hA] at hH'
 rw[hA]
 have key:=dR (D:=mkD nh k bes pcn nxt bos fv) (T:=T) (top:=top) (inits:=List.zipWith (uR T) tys inits) hsc (by simp[hn,hn3];rfl) hn2 (fun j hj=>hH' j hj)
  (fun p hp=>Yv (l:=((mkD nh k bes pcn nxt bos fv).eqs).reverse) (by rw[show (mkD nh k bes pcn nxt bos fv).eqs=(bes.map En.ex).reverse from rfl,XY];exact hB) p (List.mem_reverse.2 hp))
  (fun s=>TyU tys s∧Inv s) μ ⟨Sm hnr (by omega),h0⟩ (fun T2 s hs hfv hhd hb hi=>by
   obtain⟨i1,i2⟩:=hi
   obtain⟨s1,s2⟩:=Wv i1 hhd
   rw[show (mkD nh k bes pcn nxt bos fv).eqs=(bes.map En.ex).reverse from rfl,XY] at hb
   obtain⟨f1,f2⟩:=CK (s1.append (LA hfv hS)) hchk hb
   obtain⟨g1,g2⟩:=hstep T2 hfv f1 (by rw[show hdU T2 nh tys=s from s2];exact i2)
   refine⟨by rw[show (mkD nh k bes pcn nxt bos fv).obs=bos.map ObE.ob from rfl,iU];exact On g1,fun hp=>?_⟩
   obtain⟨g3,g4⟩:=g2 (gD (pc:=some pcn) hp)
   show (TyU tys (nxt.map (Rf.eval T2))∧Inv (nxt.map (Rf.eval T2)))∧μ (nxt.map (Rf.eval T2)) < μ s
   rw[f2]
   rw[show hdU T2 nh tys=s from s2] at g4
   exact⟨⟨Sm hnr (by omega),g3⟩,g4⟩)
 obtain⟨q1,⟨t,⟨q2,q3⟩,q4,q5⟩,q6⟩:=key
 obtain⟨s1,s2⟩:=Wv q2 q5
 exact⟨q1,s1,by rw[show hdU T nh tys=t from s2];exact q3,fun h=>q6 (fm (pc:=some pcn) h)⟩
end
open Go
def XO (D:BW)(rs:List Rf):Nat→Nat→List Ty→List En
 |_,_,[]=>[]
 |j,x,t::ts=>⟨x,.res t D j,rs⟩::XO D rs (j+1) (x+1) ts
def Ek (D:BW)(tys:List Ty)(rs:List Rf):List En:=XO D rs 0 D.nh tys
theorem Ue {T:Tab}{D:BW}{rs:List Rf}:∀{tys:List Ty} {j:Nat},CJ T ((XO D rs j (D.nh+j) tys).map En.be)→CJ T (NW D rs j tys.length)
 |[],_,_=>trivial
 |_::_,_,h=>⟨h.1,Ue h.2⟩
theorem Ec {T:Tab}{D:BW}{rs:List Rf}{tys:List Ty}(h:CJ T ((Ek D tys rs).map En.be)):CJ T (NW D rs 0 tys.length):=Ue (j:=0) h
theorem fvI {T T2:Tab}{x:Nat}(h:T2.get x=T.get x):I T2 x=I T x:=by unfold I;rw[h]
theorem fvB {T T2:Tab}{x:Nat}(h:T2.get x=T.get x):B T2 x=B T x:=by unfold B;rw[h]
theorem fvL {T T2:Tab}{x:Nat}(h:T2.get x=T.get x):L T2 x=L T x:=by unfold L;rw[h]
abbrev k64:Kd:= .int .i64 IntKind.i64.min IntKind.i64.max
abbrev AG (x:Nat):AC:= .i .i64 IntKind.i64.min IntKind.i64.max x
end Go.Eng
end
noncomputable section
namespace Go.Eng
open Go Go.RowKit
mutual
theorem KdU.up {B:Nat}(hB:B≤B8):∀{k:Kd} {u:U},KdU B k u→KdU B8 k u
 | .int _ _ _,_,h=>h
 | .bool,_,h=>h
 | .str,_,⟨s,e,_⟩=>⟨s,e,.inr rfl⟩
 | .val,_,_=>trivial
 | .any,_,_=>trivial
 | .list _,_,⟨l,e,h1,h2⟩=>⟨l,e,Nat.le_trans h1 hB,fun i us hi=>DC.up hB (h2 i us hi)⟩
theorem DC.up {B:Nat}(hB:B≤B8):∀{ks:List Kd} {us:List U},DC B ks us→DC B8 ks us
 |[],_,h=>h
 |_::_,_,⟨u,us',e,h1,h2⟩=>⟨u,us',e,KdU.up hB h1,DC.up hB h2⟩
end
def Y5 (B:Nat)(T:Tab):Nat→List Kd→Prop
 |_,[]=>True
 |x,.list _::ks=>(L T x).length≤B∧Y5 B T (x+1) ks
 |x,_::ks=>Y5 B T (x+1) ks
theorem bl {B:Nat}{T:Tab}:∀{ks:List Kd} {us:List U} {x:Nat},DC B ks us→(∀j u,us[j]? =some u→T (x+j)=u)→Y5 B T x ks
 |[],us,x,_,_=>trivial
 |k::ks,us,x,⟨u,us',e,h1,h2⟩,hT=>by
  subst e
  have ih:=bl (x:=x+1) h2 fun j v hj=>by
   have:=hT (j+1) v (by simpa using hj)
   rw[show x+(j+1)=x+1+j by omega] at this
   exact this
  have h0:T.get x=u:=hT 0 u rfl
  cases k with
  |list es=>
   obtain⟨n,e1,e2,_⟩:=h1
   rw[e1] at h0
   exact⟨by rw[vL h0];exact e2,ih⟩
  |_=>exact ih
def d8 (n:Nat)(r:Option (AC × Mem × G)):Option (Nat × List BE × List BO):=
 match r with
 |some (.b x,_,g)=>if RI n g then some (x,Je g.eqs.reverse,Lb g.obs) else none
 |_=>none
def ed (P:Program)(l:List (FuncId × Bc))(Ba:FuncId→Ht)(fuel depth:Nat)(f:FuncId)(as:List AC)(n:Nat):Option (AC × Mem × G):=
 JW P (Lg l) Ba fuel depth (fun _=>none) f as none [] { n,eqs:=[],obs:=[] }
theorem gf {P:Program}{w:World}{B:Nat}{H:Type}{enc:TypeId × Value→H}{sp:Nat→Bool}{held:Bool}{base:Nat}(hB:B≤B8)(hm:P.follows .mixedOrders=true){l:List (FuncId × Bc)}(hl:∀p∈l,CA P p.1 p.2){Ba:FuncId→Ht}{fuel depth dd:Nat}{f:FuncId}{ts:List TypeId}{as:List AC}{ks:List Kd}{x:Nat}{es:List En}{os:List ObE}
  (hargs:JQ P dd ts 0=some (as,ks)) (hrun:d8 ks.length (ed P l Ba fuel depth f as ks.length)=some (x,es.map En.be,os.map ObE.be))
  (hplain:∀T:Tab,Ay T (EE 0 ks)→Bnd T 0 ks→Y5 B T 0 ks→CJ T (es.map En.be)→Sp T os∧Go.Eng.B T x=true)
  {vs:List Value} {ds:List (DataW H)} {ps:List MemPlace} (ht:DataW.TrodAll enc P w 0 sp held ts vs ds ps) (hv:∀(j:Nat) t v,ts[j]? =some t→vs[j]? =some v→Value.okWide P w .any base t v) (hs:∀d∈ds,DX B d):
  Calls P f (vs:List Value).toArray w fun e W'=>e= .returned (.bool true)∧Below w.heap.size w W':=by
 unfold d8 at hrun
 split at hrun
 ·rename_i x0 m' g' hr
  split at hrun
  ·rename_i hchk
   injection hrun with hrun
   injection hrun with e0 hrun
   injection hrun with e1 e2
   refine kH hB hm hl hargs hr hchk (fun T us hk hlen hT heqs=>?_) ht hv hs
   have hb:CJ T (Je g'.eqs.reverse):=Og fun p hp=>heqs p (List.mem_reverse.1 hp)
   rw[e1] at hb
   have hT0:∀j u,us[j]? =some u→T (0+j)=u:=fun j u hj=>by rw[Nat.zero_add];exact hT j u hj
   obtain⟨i1,i2⟩:=Y0 (x:=0) (DC.up hB hk) hT0
   obtain⟨h1,h2⟩:=hplain T i1 i2 (bl hk hT0) hb
   have h3:=On h1
   rw[←e2] at h3
   refine⟨Ou h3,?_⟩
   rw[e0]
   exact fm (pc:=some x) h2
  ·cases hrun
 ·cases hrun
end Go.Eng
end
noncomputable section
namespace Go.Eng
open Go
abbrev Knw:=List (Nat × Ty × Rf)
def MC:Knw→Nat→Ty→Option Rf
 |[],_,_=>none
 |(y,t,r)::l,x,u=>bif Nat.beq y x&&M4 t u then some r else MC l x u
def K4:Rf→Rf
 | .e x=> .n x
 | .n x=> .e x
 | .c (.bool b)=> .c (.bool !b)
 |r=>r
def DN:Rf→Bool
 | .e _| .n _| .c (.bool _)=>true
 |_=>false
def sR (K:Knw):Ty→Rf→Rf
 |t,.e x=>(MC K x t).getD (.e x)
 | .b,.n x=>match MC K x .b with
  |some r=>bif DN r then K4 r else .n x
  |none=> .n x
 |_,r=>r
def CZ (T:Tab):Nat × Ty × Rf→Prop
 |(x,.i,r)=>I T x=iR T r
 |(x,.b,r)=>B T x=bR T r
 |(x,.l,r)=>L T x=lR T r
 |_=>True
def KOk (T:Tab):Knw→Prop
 |[]=>True
 |p::l=>CZ T p∧KOk T l
def Dl:Rf→Rf→Bool
 | .e x,.e y=>Nat.beq x y
 | .n x,.n y=>Nat.beq x y
 | .c (.int a),.c (.int b)=>decide (a=b)
 | .c (.bool a),.c (.bool b)=>a==b
 |_,_=>false
def V4:Ty→Rf→Rf→Option Bool
 | .i,.c (.int m),.c (.int n)=>some (decide (m=n))
 | .b,.c (.bool m),.c (.bool n)=>some (m==n)
 | .i,a,b=>bif Dl a b then some true else none
 | .b,a,b=>bif Dl a b then some true else none
 |_,_,_=>none
def Ja (K:Knw):List Ty→List Rf→Option (List Ty × List Rf)
 |t::ts,a::b::r=>bif Ks t then (match V4 t (sR K t a) (sR K t b) with
  |some true=>Ja K ts r
  |some false=>none
  |none=>(Ja K ts r).map fun p=>(t::p.1,sR K t a::sR K t b::p.2)) else some (t::ts,a::b::r)
 |ts,r=>some (ts,r)
def op2C:Op2→Int→Int→Int
 | .add,a,b=>a+b| .sub,a,b=>a - b| .mul,a,b=>a*b| .div,a,b=>a / b| .mod,a,b=>a % b
 | .tdiv,a,b=>if 0≤a then a / b else -(-a / b)
 | .tmod,a,b=>if 0≤a then a % b else -(-a % b)
 | .min,a,b=>if a≤b then a else b
 | .max,a,b=>if a≤b then b else a
inductive SE where
 |k (t:Ty) (r:Rf)
 |q (op:Opn) (rs:List Rf)
def SK (op:Opn)(f:Int→Int→Bool)(refl:Bool)(a b:Rf):SE:=
 match a,b with
 | .c (.int m),.c (.int n)=> .k .b (.c (.bool (f m n)))
 |a,b=>bif Dl a b then .k .b (.c (.bool refl)) else .q op [a,b]
def YG (a b:Rf):SE:=
 match a,b with
 | .c (.bool false),_=> .k .b (.c (.bool false))
 |_,.c (.bool false)=> .k .b (.c (.bool false))
 | .c (.bool true),r=> .k .b r
 |r,.c (.bool true)=> .k .b r
 |a,b=>bif Dl a b then .k .b a else .q .and [a,b]
def orE (a b:Rf):SE:=
 match a,b with
 | .c (.bool true),_=> .k .b (.c (.bool true))
 |_,.c (.bool true)=> .k .b (.c (.bool true))
 | .c (.bool false),r=> .k .b r
 |r,.c (.bool false)=> .k .b r
 |a,b=>bif Dl a b then .k .b a else .q .or [a,b]
def WA (op:Opn)(c a b:Rf):SE:=
 match c,a,b with
 | .c (.bool true),a,_=> .k .b a
 | .c (.bool false),_,b=> .k .b b
 |c,.c (.bool true),b=>orE c b
 |c,.c (.bool false),b=>bif DN c then YG (K4 c) b else .q op [c,a,b]
 |c,a,.c (.bool false)=>YG c a
 |c,a,.c (.bool true)=>bif DN c then orE (K4 c) a else .q op [c,a,b]
 |c,a,b=>bif Dl a b then .k .b a else .q op [c,a,b]
def im (a b:Rf):SE:=
 match a with
 | .c (.bool k)=>bif k then .k .b b else bif DN b then .k .b (K4 b) else .q .eqb [.c (.bool k),b]
 |a=>match b with
  | .c (.bool k)=>bif k then .k .b a else bif DN a then .k .b (K4 a) else .q .eqb [a,.c (.bool k)]
  |b=>bif Dl a b then .k .b (.c (.bool true)) else .q .eqb [a,b]
def iq (a b:Rf):SE:=
 match a with
 | .c (.bool k)=>bif k then (bif DN b then .k .b (K4 b) else .q .neb [.c (.bool k),b]) else .k .b b
 |a=>match b with
  | .c (.bool k)=>bif k then (bif DN a then .k .b (K4 a) else .q .neb [a,.c (.bool k)]) else .k .b a
  |b=>bif Dl a b then .k .b (.c (.bool false)) else .q .neb [a,b]
def Id (K:Knw)(t:Ty):List Rf→Int→Option Rf
 |[],_=>none
 |a::l,n=>if n≤0 then some (sR K t a) else Id K t l (n - 1)
def sEn (K:Knw)(op:Opn)(rs:List Rf):SE:=
 match op,rs with
 | .id t,[a]=> .k t (sR K t a)
 | .not,[a]=>let r:=sR K .b a;bif DN r then .k .b (K4 r) else .q .not [r]
 | .and,[a,b]=>YG (sR K .b a) (sR K .b b)
 | .or,[a,b]=>orE (sR K .b a) (sR K .b b)
 | .lt,[a,b]=>SK .lt (fun m n=>decide (m < n)) false (sR K .i a) (sR K .i b)
 | .le,[a,b]=>SK .le (fun m n=>decide (m≤n)) true (sR K .i a) (sR K .i b)
 | .eq,[a,b]=>SK .eq (fun m n=>decide (m=n)) true (sR K .i a) (sR K .i b)
 | .ne,[a,b]=>SK .ne (fun m n=> !decide (m=n)) false (sR K .i a) (sR K .i b)
 | .eqs ts,r=>match Ja K ts r with
  |none=> .k .b (.c (.bool false))
  |some ([],[])=> .k .b (.c (.bool true))
  |some (ts,r)=> .q (.eqs ts) r
 | .nes ts,r=>match Ja K ts r with
  |none=> .k .b (.c (.bool true))
  |some ([],[])=> .k .b (.c (.bool false))
  |some (ts,r)=> .q (.nes ts) r
 | .eqb,[a,b]=>im (sR K .b a) (sR K .b b)
 | .neb,[a,b]=>iq (sR K .b a) (sR K .b b)
 | .ite .i,[c,a,b]=>match sR K .b c,sR K .i a,sR K .i b with
  | .c (.bool true),a,_=> .k .i a
  | .c (.bool false),_,b=> .k .i b
  |c,a,b=>bif Dl a b then .k .i a else .q (.ite .i) [c,a,b]
 | .ite .l,[c,a,b]=>match sR K .b c,sR K .l a,sR K .l b with
  | .c (.bool true),a,_=> .k .l a
  | .c (.bool false),_,b=> .k .l b
  |c,a,b=>bif Dl a b then .k .l a else .q (.ite .l) [c,a,b]
 | .ite .b,[c,a,b]=>WA (.ite .b) (sR K .b c) (sR K .b a) (sR K .b b)
 | .ifb,[c,a,b]=>WA .ifb (sR K .b c) (sR K .b a) (sR K .b b)
 | .o2 o,[a,b]=>match sR K .i a,sR K .i b with
  | .c (.int m),.c (.int n)=> .k .i (.c (.int (op2C o m n)))
  |a,b=> .q (.o2 o) [a,b]
 | .w2 .i64 o,[a,b]=>match o,sR K .i a,sR K .i b with
  | .add,.c (.int m),.c (.int n)=>bif decide (-9223372036854775808≤m+n)&&decide (m+n≤9223372036854775807) then .k .i (.c (.int (m+n))) else .q (.w2 .i64 .add) [.c (.int m),.c (.int n)]
  | .sub,.c (.int m),.c (.int n)=>bif decide (-9223372036854775808≤m - n)&&decide (m - n≤9223372036854775807) then .k .i (.c (.int (m - n))) else .q (.w2 .i64 .sub) [.c (.int m),.c (.int n)]
  |o,a,b=> .q (.w2 .i64 o) [a,b]
 | .neg,[a]=>match sR K .i a with
  | .c (.int m)=> .k .i (.c (.int (-m)))
  |a=> .q .neg [a]
 | .len,[a]=>match sR K .l a with
  | .c (.list [])=> .k .i (.c (.int 0))
  |a=> .q .len [a]
 | .app,[a,b]=>match sR K .l a,sR K .l b with
  | .c (.list []),b=> .k .l b
  |a,.c (.list [])=> .k .l a
  |a,b=> .q .app [a,b]
 | .get .i c,[a,b]=> .q (.get .i c) [sR K .l a,sR K .i b]
 | .get .b c,[a,b]=> .q (.get .b c) [sR K .l a,sR K .i b]
 | .get .l c,[a,b]=> .q (.get .l c) [sR K .l a,sR K .i b]
 | .pick .i,a::r=>match sR K .i a with
  | .c (.int n)=>match Id K .i r n with
   |some x=> .k .i x
   |none=> .k .i (.c (.int 0))
  |a=> .q (.pick .i) (a::r.map (sR K .i))
 | .pick .b,a::r=>match sR K .i a with
  | .c (.int n)=>match Id K .b r n with
   |some x=> .k .b x
   |none=> .k .b (.c (.bool false))
  |a=> .q (.pick .b) (a::r.map (sR K .b))
 |op,rs=> .q op rs
def red:Knw→List En→Knw × List En
 |K,[]=>(K,[])
 |K,e::es=>bif K.any (fun p=>Nat.beq p.1 e.x) then red K es else
  match sEn K e.op e.rs with
  | .k t r=>red ((e.x,t,r)::K) es
  | .q op rs=>let p:=red K es;(p.1,⟨e.x,op,rs⟩::p.2)
section
variable {T:Tab}
theorem LP:∀{K:Knw} {x:Nat} {t:Ty} {r:Rf},KOk T K→MC K x t=some r→CZ T (x,t,r)
 |[],_,_,_,_,h=>by cases h
 |(y,u,r0)::l,x,t,r,hk,h=>by
  simp only[MC] at h
  cases hb:(Nat.beq y x&&M4 u t) with
  |true=>
   rw[hb] at h
   rw[Bool.and_eq_true] at hb
   have e:=Nat.eq_of_beq_eq_true hb.1
   have e2:=LO hb.2
   subst e;subst e2
   cases h
   exact hk.1
  |false=>rw[hb] at h;exact LP hk.2 h
theorem H8 {r:Rf}(h:DN r=true):bR T (K4 r)= !bR T r:=by
 cases r with
 |e x=>rfl
 |n x=>simp[K4,bR,Rf.eval,U.toB]
 |c u=>cases u<;>first|rfl|cases h
theorem sRi {K:Knw}(hk:KOk T K)(r:Rf):iR T (sR K .i r)=iR T r:=by
 cases r with
 |c u=>rfl
 |n x=>rfl
 |e x=>
  simp only[sR]
  cases h:MC K x .i with
  |none=>rfl
  |some r=>exact (LP hk h).symm
theorem sRl {K:Knw}(hk:KOk T K)(r:Rf):lR T (sR K .l r)=lR T r:=by
 cases r with
 |c u=>rfl
 |n x=>rfl
 |e x=>
  simp only[sR]
  cases h:MC K x .l with
  |none=>rfl
  |some r=>exact (LP hk h).symm
theorem sRb {K:Knw}(hk:KOk T K)(r:Rf):bR T (sR K .b r)=bR T r:=by
 cases r with
 |c u=>rfl
 |e x=>
  simp only[sR]
  cases h:MC K x .b with
  |none=>rfl
  |some r=>exact (LP hk h).symm
 |n x=>
  simp only[sR]
  cases h:MC K x .b with
  |none=>rfl
  |some r=>
   simp only
   cases hn:DN r with
   |false=>rfl
   |true=>
    have h1:B T x=bR T r:=LP hk h
    simp only[cond_true]
    rw[H8 hn,←h1];rfl
theorem HR {a b:Rf}(h:Dl a b=true):iR T a=iR T b∧bR T a=bR T b∧lR T a=lR T b:=by
 unfold Dl at h
 split at h<;>first
  |(have e:=Nat.eq_of_beq_eq_true h;subst e;exact⟨rfl,rfl,rfl⟩)
  |(have e:=of_decide_eq_true h;subst e;exact⟨rfl,rfl,rfl⟩)
  |(have e:=eq_of_beq h;subst e;exact⟨rfl,rfl,rfl⟩)
  |cases h
def JZ (T:Tab)(x:Nat):SE→Prop
 | .k t r=>CZ T (x,t,r)
 | .q op rs=>AA T ⟨x,op,rs⟩
theorem kB {x:Nat}{r:Rf}(h:B T x=true↔bR T r=true):JZ T x (.k .b r):=Bool.eq_iff_iff.2 h
theorem SN {x:Nat}{a b:Rf}(h:B T x=true↔(bR T a=true∧bR T b=true)):JZ T x (YG a b):=by
 unfold YG
 split
 ·refine kB ?_;rw[h,BG];simp
 ·refine kB ?_;rw[h,BG];simp
 ·refine kB ?_;rw[h,BG];simp
 ·refine kB ?_;rw[h,BG];simp
 ·cases he:Dl a b with
  |true=>refine kB ?_;rw[h,←(HR he).2.1];simp
  |false=>exact h
theorem Ye {x:Nat}{a b:Rf}(h:B T x=true↔(bR T a=true∨bR T b=true)):JZ T x (orE a b):=by
 unfold orE
 split
 ·refine kB ?_;rw[h,BG];simp
 ·refine kB ?_;rw[h,BG];simp
 ·refine kB ?_;rw[h,BG];simp
 ·refine kB ?_;rw[h,BG];simp
 ·cases he:Dl a b with
  |true=>refine kB ?_;rw[h,←(HR he).2.1];simp
  |false=>exact h
theorem Wq {x:Nat}{op:Opn}{c a b:Rf}(hop:AA T ⟨x,op,[c,a,b]⟩)(h:B T x=true↔((bR T c=true∧bR T a=true)∨(¬bR T c=true∧bR T b=true))):JZ T x (WA op c a b):=by
 unfold WA
 split
 ·refine kB ?_;rw[h,BG];simp
 ·refine kB ?_;rw[h,BG];simp
 ·refine Ye ?_;rw[h,BG];cases bR T c<;>simp
 ·cases hn:DN c with
  |true=>refine SN ?_;rw[h,BG,H8 hn];cases bR T c<;>simp
  |false=>exact hop
 ·refine SN ?_;rw[h,BG];cases bR T c<;>simp
 ·cases hn:DN c with
  |true=>refine Ye ?_;rw[h,BG,H8 hn];cases bR T c<;>simp
  |false=>exact hop
 ·cases he:Dl a b with
  |true=>refine kB ?_;rw[h,←(HR he).2.1];cases bR T c<;>simp
  |false=>exact hop
theorem jR {x:Nat}{a b:Rf}(h:B T x=true↔(bR T a=true↔bR T b=true)):JZ T x (im a b):=by
 unfold im
 split
 ·rename_i k
  cases k with
  |true=>refine kB ?_;rw[h,BG];simp
  |false=>
   show JZ T x (bif DN b then _ else _)
   cases hn:DN b with
   |true=>refine kB ?_;rw[h,BG,H8 hn];cases bR T b<;>simp
   |false=>exact h
 ·rename_i hne
  clear hne
  split
  ·rename_i k
   cases k with
   |true=>refine kB ?_;rw[h,BG];simp
   |false=>
    show JZ T x (bif DN a then _ else _)
    cases hn:DN a with
    |true=>refine kB ?_;rw[h,BG,H8 hn];cases bR T a<;>simp
    |false=>exact h
  ·cases he:Dl a b with
   |true=>refine kB ?_;rw[h,BG,←(HR he).2.1];simp
   |false=>exact h
theorem jt {x:Nat}{a b:Rf}(h:B T x=true↔¬(bR T a=true↔bR T b=true)):JZ T x (iq a b):=by
 unfold iq
 split
 ·rename_i k
  cases k with
  |false=>refine kB ?_;rw[h,BG];simp
  |true=>
   show JZ T x (bif DN b then _ else _)
   cases hn:DN b with
   |true=>refine kB ?_;rw[h,BG,H8 hn];cases bR T b<;>simp
   |false=>exact h
 ·rename_i hne
  clear hne
  split
  ·rename_i k
   cases k with
   |false=>refine kB ?_;rw[h,BG];simp
   |true=>
    show JZ T x (bif DN a then _ else _)
    cases hn:DN a with
    |true=>refine kB ?_;rw[h,BG,H8 hn];cases bR T a<;>simp
    |false=>exact h
  ·cases he:Dl a b with
   |true=>refine kB ?_;rw[h,BG,←(HR he).2.1];simp
   |false=>exact h
def Ny (T:Tab):Ty→Rf→Rf→Prop
 | .i,a,b=>iR T a=iR T b
 | .b,a,b=>bR T a=true↔bR T b=true
 |_,_,_=>False
theorem iJ {t:Ty}{a b:Rf}{k:Bool}(h:V4 t a b=some k):Ny T t a b↔k=true:=by
 unfold V4 at h
 split at h
 ·injection h with h;rw[←h];show _=_↔_;rw[Ax,Ax];simp
 ·injection h with h;rw[←h];rename_i m n;show (_↔_)↔_;rw[BG,BG];cases m<;>cases n<;>simp
 ·cases he:Dl a b with
  |true=>rw[he] at h;cases h;have:=(HR (T:=T) he).1;simp[Ny,this]
  |false=>rw[he] at h;cases h
 ·cases he:Dl a b with
  |true=>rw[he] at h;cases h;have:=(HR (T:=T) he).2.1;simp[Ny,this]
  |false=>rw[he] at h;cases h
 ·cases h
theorem kE {K:Knw}(hk:KOk T K){t:Ty}{a b:Rf}:Ny T t (sR K t a) (sR K t b)↔Ny T t a b:=by
 cases t with
 |i=>simp only[Ny,sRi hk]
 |b=>simp only[Ny,sRb hk]
 |l=>exact Iff.rfl
 |r c=>exact Iff.rfl
theorem T6 {t:Ty}{ts:List Ty}{a b:Rf}{r:List Rf}(ht:Ks t=true):BL T (t::ts) (a::b::r)↔(Ny T t a b∧BL T ts r):=by
 cases t with
 |i=>exact Iff.rfl
 |b=>exact Iff.rfl
 |l=>cases ht
 |r c=>cases ht
theorem SI {K:Knw}(hk:KOk T K):∀{ts:List Ty} {rs:List Rf},(match Ja K ts rs with|none=>¬BL T ts rs|some (ts',rs')=>(BL T ts rs↔BL T ts' rs'))
 |[],_=>by simp[Ja]
 |_::_,[]=>by simp[Ja]
 |_::_,[_]=>by simp[Ja]
 |t::ts,a::b::r=>by
  have ih:=SI hk (ts:=ts) (rs:=r)
  by_cases ht:Ks t=true
  ·rw[T6 ht,←kE hk]
   simp only[Ja,ht,cond_true]
   cases hp:V4 t (sR K t a) (sR K t b) with
   |none=>
    simp only
    cases hs:Ja K ts r with
    |none=>rw[hs] at ih;simp only[Option.map_none];exact fun h=>ih h.2
    |some p=>
     obtain⟨ts',rs'⟩:=p
     rw[hs] at ih
     simp only[Option.map_some]
     rw[T6 ht]
     exact and_congr_right fun _=>ih
   |some k=>
    have hc:=iJ (T:=T) hp
    cases k with
    |true=>
     simp only
     have hc':=hc.2 rfl
     cases hs:Ja K ts r with
     |none=>rw[hs] at ih;exact fun h=>ih h.2
     |some p=>
      obtain⟨ts',rs'⟩:=p
      rw[hs] at ih
      simp only[hc',true_and]
      exact ih
    |false=>
     simp only
     exact fun h=>absurd (hc.1 h.1) (by simp)
  ·have ht':Ks t=false:=by simpa using ht
   simp only[Ja,ht',cond_false]
theorem au {K:Knw}(hk:KOk T K):∀{l:List Rf} {n:Int},AN T l n=match Id K .i l n with|some r=>iR T r|none=>0
 |[],_=>rfl
 |a::l,n=>by
  simp only[AN,Id]
  split
  ·simp only[sRi hk]
  ·exact au hk
theorem bC {K:Knw}(hk:KOk T K):∀{l:List Rf} {n:Int},AM T l n↔match Id K .b l n with|some r=>bR T r=true|none=>False
 |[],_=>Iff.rfl
 |a::l,n=>by
  simp only[AM]
  by_cases h:n≤0
  ·have e:Id K .b (a::l) n=some (sR K .b a):=by simp only[Id,if_pos h]
   rw[e]
   simp only[sRb hk]
   simp[h]
  ·have e:Id K .b (a::l) n=Id K .b l (n - 1):=by simp only[Id,if_neg h]
   rw[e,←bC hk]
   simp[h]
theorem bZ {K:Knw}(hk:KOk T K):∀{l:List Rf} {n:Int},AN T (l.map (sR K .i)) n=AN T l n
 |[],_=>rfl
 |a::l,n=>by simp only[List.map_cons,AN,sRi hk,bZ hk]
theorem bW {K:Knw}(hk:KOk T K):∀{l:List Rf} {n:Int},AM T (l.map (sR K .b)) n↔AM T l n
 |[],_=>Iff.rfl
 |a::l,n=>by simp only[List.map_cons,AM,sRb hk,bW hk]
theorem Oy {x:Nat}{op:Opn}{f:Int→Int→Bool}{P:Int→Int→Prop}{refl:Bool}{a b:Rf}(hf:∀m n,f m n=true↔P m n)(hr:∀m,P m m↔refl=true)(hop:AA T ⟨x,op,[a,b]⟩)(h:B T x=true↔P (iR T a) (iR T b)):JZ T x (SK op f refl a b):=by
 unfold SK
 split
 ·refine kB ?_;rw[h,Ax,Ax,BG,hf]
 ·cases he:Dl a b with
  |true=>refine kB ?_;rw[h,(HR he).1,BG,hr]
  |false=>exact hop
theorem kJ {K:Knw}(hk:KOk T K){x:Nat}{op:Opn}{rs:List Rf}(h:AA T ⟨x,op,rs⟩):JZ T x (sEn K op rs):=by
 unfold sEn
 split
 ·
  rename_i t a
  cases t with
  |i=>show I T x=_;rw[sRi hk];exact h
  |b=>refine kB ?_;rw[sRb hk];exact h
  |l=>show L T x=_;rw[sRl hk];exact h
  |r c=>exact trivial
 ·
  rename_i a
  have h':B T x=true↔¬bR T a=true:=h
  simp only
  cases hn:DN (sR K .b a) with
  |true=>refine kB ?_;rw[H8 hn,sRb hk,h'];simp
  |false=>show B T x=true↔_;rw[sRb hk];exact h
 ·refine SN ?_;rw[sRb hk,sRb hk];exact h
 ·refine Ye ?_;rw[sRb hk,sRb hk];exact h
 ·refine Oy (P:=fun m n=>m < n) (by simp) (by simp) (show B T x=true↔_ by rw[sRi hk,sRi hk];exact h) ?_;rw[sRi hk,sRi hk];exact h
 ·refine Oy (P:=fun m n=>m≤n) (by simp) (by simp) (show B T x=true↔_ by rw[sRi hk,sRi hk];exact h) ?_;rw[sRi hk,sRi hk];exact h
 ·refine Oy (P:=fun m n=>m=n) (by simp) (by simp) (show B T x=true↔_ by rw[sRi hk,sRi hk];exact h) ?_;rw[sRi hk,sRi hk];exact h
 ·refine Oy (P:=fun m n=>¬m=n) (by simp) (by simp) (show B T x=true↔_ by rw[sRi hk,sRi hk];exact h) ?_;rw[sRi hk,sRi hk];exact h
 ·
  rename_i ts
  have h':B T x=true↔BL T ts rs:=h
  have:=SI hk (ts:=ts) (rs:=rs)
  split<;>rename_i he<;>rw[he] at this
  ·refine kB ?_;rw[h',BG];simp[this]
  ·refine kB ?_;rw[h',BG];simp only[this];simp[BL]
  ·show B T x=true↔_;rw[h'];exact this
 ·
  rename_i ts
  have h':B T x=true↔¬BL T ts rs:=h
  have:=SI hk (ts:=ts) (rs:=rs)
  split<;>rename_i he<;>rw[he] at this
  ·refine kB ?_;rw[h',BG];simp[this]
  ·refine kB ?_;rw[h',BG];simp only[this];simp[BL]
  ·show B T x=true↔_;rw[h'];exact not_congr this
 ·refine jR ?_;rw[sRb hk,sRb hk];exact h
 ·refine jt ?_;rw[sRb hk,sRb hk];exact h
 ·
  rename_i c a b
  have h':I T x=if bR T c=true then iR T a else iR T b:=h
  rw[←sRb hk,←sRi hk a,←sRi hk b] at h'
  split
  ·rename_i e;rw[e,BG,if_pos rfl] at h';exact h'
  ·rename_i e;rw[e,BG,if_neg (by decide)] at h';exact h'
  ·cases he:Dl (sR K .i a) (sR K .i b) with
   |true=>show I T x=_;rw[h',(HR (T:=T) he).1];simp
   |false=>exact h'
 ·
  rename_i c a b
  have h':L T x=if bR T c=true then lR T a else lR T b:=h
  rw[←sRb hk,←sRl hk a,←sRl hk b] at h'
  split
  ·rename_i e;rw[e,BG,if_pos rfl] at h';exact h'
  ·rename_i e;rw[e,BG,if_neg (by decide)] at h';exact h'
  ·cases he:Dl (sR K .l a) (sR K .l b) with
   |true=>show L T x=_;rw[h',(HR (T:=T) he).2.2];simp
   |false=>exact h'
 ·refine Wq (show B T x=true↔_ by rw[sRb hk,sRb hk,sRb hk];exact h) ?_;rw[sRb hk,sRb hk,sRb hk];exact h
 ·refine Wq (show B T x=true↔_ by rw[sRb hk,sRb hk,sRb hk];exact h) ?_;rw[sRb hk,sRb hk,sRb hk];exact h
 ·
  rename_i o a b
  have h':Af o (I T x) (iR T a) (iR T b):=h
  rw[←sRi hk a,←sRi hk b] at h'
  split
  ·rename_i e1 e2
   rw[e1,e2,Ax,Ax] at h'
   show I T x=_
   rw[Ax]
   cases o<;>exact h'
  ·exact h'
 ·
  rename_i o a b
  have h':w2P .i64 o (I T x) (iR T a) (iR T b):=h
  rw[←sRi hk a,←sRi hk b] at h'
  split
  ·rename_i m n e1 e2
   rw[e1,e2] at h'
   cases hc:(decide (-9223372036854775808≤m+n)&&decide (m+n≤9223372036854775807)) with
   |true=>
    rw[Bool.and_eq_true,decide_eq_true_eq,decide_eq_true_eq] at hc
    show I T x=_
    rw[Ax]
    exact h' hc.1 hc.2
   |false=>exact h'
  ·rename_i m n e1 e2
   rw[e1,e2] at h'
   cases hc:(decide (-9223372036854775808≤m - n)&&decide (m - n≤9223372036854775807)) with
   |true=>
    rw[Bool.and_eq_true,decide_eq_true_eq,decide_eq_true_eq] at hc
    show I T x=_
    rw[Ax]
    exact h' hc.1 hc.2
   |false=>exact h'
  ·exact h'
 ·
  rename_i a
  have h':I T x= -iR T a:=h
  rw[←sRi hk a] at h'
  split
  ·rename_i e;rw[e,Ax] at h';exact h'
  ·exact h'
 ·
  rename_i a
  have h':I T x=(lR T a).length:=h
  rw[←sRl hk a] at h'
  split
  ·rename_i e;rw[e,Bn] at h';exact h'
  ·exact h'
 ·
  rename_i a b
  have h':L T x=lR T a++lR T b:=h
  rw[←sRl hk a,←sRl hk b] at h'
  split
  ·rename_i e;rw[e,Bn] at h';exact h'
  ·rename_i e _;rw[e,Bn,List.append_nil] at h';exact h'
  ·exact h'
 ·rename_i c a b
  show I T x=At _ _ _
  rw[sRl hk,sRi hk];exact h
 ·rename_i c a b
  show B T x=C8 _ _ _
  rw[sRl hk,sRi hk];exact h
 ·rename_i c a b
  show L T x=EF _ _ _
  rw[sRl hk,sRi hk];exact h
 ·
  rename_i a r
  have h':I T x=AN T r (iR T a):=h
  rw[←sRi hk a] at h'
  split
  ·rename_i n e
   rw[e,Ax,au hk] at h'
   split<;>rename_i e2<;>rw[e2] at h'<;>exact h'
  ·show I T x=AN T _ _
   rw[bZ hk];exact h'
 ·rename_i a r
  have h':B T x=true↔AM T r (iR T a):=h
  rw[←sRi hk a] at h'
  split
  ·rename_i n e
   rw[e,Ax,bC hk] at h'
   split<;>rename_i e2<;>rw[e2] at h'
   ·exact kB h'
   ·refine kB ?_;rw[h',BG];simp
  ·show B T x=true↔AM T _ _
   rw[bW hk];exact h'
 ·exact h
theorem Rq:∀{es:List En} {K:Knw},KOk T K→AK T es→KOk T (red K es).1∧AK T (red K es).2
 |[],_,hk,_=>⟨hk,trivial⟩
 |e::es,K,hk,h=>by
  simp only[red]
  cases ha:K.any (fun p=>Nat.beq p.1 e.x) with
  |true=>exact Rq hk h.2
  |false=>
   have h1:=kJ hk (x:=e.x) (op:=e.op) (rs:=e.rs) h.1
   simp only[cond_false]
   cases hs:sEn K e.op e.rs with
   |k t r=>rw[hs] at h1;exact Rq (K:=(e.x,t,r)::K) ⟨h1,hk⟩ h.2
   |q op rs=>
    rw[hs] at h1
    have ih:=Rq hk h.2
    exact⟨ih.1,h1,ih.2⟩
end
open Go
def N4:List Rf→List Nat
 |[]=>[]
 | .e x::r=>x::N4 r
 | .n x::r=>x::N4 r
 | .c _::r=>N4 r
def R4:List En→List Nat→List En→List En
 |[],_,acc=>acc
 |e::r,need,acc=>bif need.any (Nat.beq e.x) then R4 r (N4 e.rs++need) (e::acc) else R4 r need acc
def cd (K:Knw)(es:List En)(outs:List (Nat × Ty)):List Rf × List En:=
 let p:=red K es
 let os:=outs.map fun o=>sR p.1 o.2 (.e o.1)
 (os,R4 p.2.reverse (N4 os) [])
def CD (T:Tab):List (Nat × Ty)→List Rf→Prop
 |(x,t)::l,r::rs=>CZ T (x,t,r)∧CD T l rs
 |_,_=>True
section
variable {T:Tab}
theorem OW:∀{l:List En},AK T l↔∀e∈l,AA T e
 |[]=>⟨fun _ _ h=>(by cases h),fun _=>trivial⟩
 |e::l=>by
  rw[List.forall_mem_cons,←OW (l:=l)];exact Iff.rfl
theorem P1:∀{l:List En} {need:List Nat} {acc:List En},(∀e∈l,AA T e)→(∀e∈acc,AA T e)→∀e∈R4 l need acc,AA T e
 |[],_,_,_,h=>h
 |e::l,need,acc,h1,h2=>by
  simp only[R4]
  rw[List.forall_mem_cons] at h1
  cases need.any (Nat.beq e.x) with
  |true=>exact P1 h1.2 (List.forall_mem_cons.2 ⟨h1.1,h2⟩)
  |false=>exact P1 h1.2 h2
theorem ax {K:Knw}(hk:KOk T K):∀{outs:List (Nat × Ty)},CD T outs (outs.map fun o=>sR K o.2 (.e o.1))
 |[]=>trivial
 |(x,t)::l=>by
  refine⟨?_,ax hk⟩
  cases t with
  |i=>exact (sRi hk (.e x)).symm
  |b=>exact (sRb hk (.e x)).symm
  |l=>exact (sRl hk (.e x)).symm
  |r c=>exact trivial
theorem Be {K:Knw}{es es':List En}{outs:List (Nat × Ty)}{os:List Rf}(hk:KOk T K)(h:AK T es)(hr:cd K es outs=(os,es')):CD T outs os∧AK T es':=by
 have h1:=Rq hk h
 unfold cd at hr
 injection hr with h2 h3
 subst h2;subst h3
 exact⟨ax h1.1,OW.2 (P1 (fun e he=>OW.1 h1.2 e (List.mem_reverse.1 he)) (fun e he=>by cases he))⟩
end
end Go.Eng
end
noncomputable section
namespace Go.Eng
def AX (c:Int):Int:=if c=2 then 6 else 12
def Ac (c:Int):Int:=if c=1 then 7 else 0
def Ab (c:Int):Int:=if c=1 then 10 else 0
def Aw (c:Int):Bool:= !decide (c=3)
def Ao (c:Int):Bool:= !decide (c=1)&& !decide (c=3)
def BI (c:Int):Bool:=decide (c=3)
def DD (c h0 h1:Int):Bool:=decide (0≤h0)&&decide (h0≤40)&&decide (0≤h1)&&decide (h1≤40)&&(Ao c||(decide (h0=0)&&decide (h1=0)))
structure Gm where
 code:Int
 phase:Int
 side:Int
 ball:Int
 taken:Int
 p0:Int
 p1:Int
 p2:Int
 p3:Int
 n0:Bool
 n1:Bool
 n2:Bool
 n3:Bool
 d0:Bool
 d1:Bool
 d2:Bool
 d3:Bool
 h0:Int
 h1:Int
 l0:Bool
 l1:Bool
 half:Bool
 turns:Int
 began:Int
 lastb:Int
 winner:Int
def CE (hoops p:Int)(n d:Bool):Bool:=
 (decide (p=13)&& !n&& !d)||(!decide (p=13)&&decide (0≤p)&&decide (p≤hoops)&&(n||(decide (p=0)&& !d)))
def BU (g:Gm):Bool:=
 decide (0≤g.code)&&decide (g.code≤3)&&decide (0≤g.phase)&&decide (g.phase≤4)&&decide (0≤g.side)&&decide (g.side≤1)&&decide (0≤g.turns)&&decide (g.turns≤1073741824)&&DD g.code g.h0 g.h1&&
  CE (AX g.code) g.p0 g.n0 g.d0&&CE (AX g.code) g.p1 g.n1 g.d1&&CE (AX g.code) g.p2 g.n2 g.d2&&CE (AX g.code) g.p3 g.n3 g.d3&&(decide (g.code=1)||(!g.l0&& !g.l1))
def C5 (g:Gm):Bool:=decide (g.p0=13)&&decide (g.p2=13)
def Cz (g:Gm):Bool:=decide (g.p1=13)&&decide (g.p3=13)
def Ag (g:Gm):Bool:=decide (g.phase=1)||decide (g.phase=2)||decide (g.phase=3)
def bit (b:Bool):Int:=if b=true then 1 else 0
def Cj (n n':Bool)(p p':Int):Int:=bit (n||decide (p=13))+bit (n'||decide (p'=13))
def CQ (t:Int):Int:=if t≤4 then t else 4
def AY (b:Int)(x y z u:Bool):Bool:=(decide (b=0)&&x)||(decide (b=1)&&y)||(decide (b=2)&&z)||(decide (b=3)&&u)
def AS (b x y z u:Int):Int:=if b=0 then x else if b=1 then y else if b=2 then z else u
def inS (g:Gm)(b:Int):Bool:=AY b g.n0 g.n1 g.n2 g.n3
def Dk (g:Gm)(b:Int):Bool:=AY b g.d0 g.d1 g.d2 g.d3
def AJ (g:Gm)(b:Int):Int:=AS b g.p0 g.p1 g.p2 g.p3
def Cm (g:Gm):Bool:=
 decide (g.ball= -1)&&decide (g.taken= -1)&& !g.d0&& !g.d1&& !g.d2&& !g.d3&& !g.half&&decide (g.began=0)&&
  (decide (g.lastb= -1)||(decide (g.phase=0)&&Ao g.code&&decide (4≤g.turns)&&inS g g.lastb&& !decide (g.lastb % 2=g.side)))
def Ct (g:Gm):Bool:=
 inS g g.ball&&decide (g.ball % 2=g.side)&& !Dk g g.ball&&decide (0≤g.began)&&decide (g.began≤AJ g g.ball)&&decide (g.lastb= -1)&&(!g.half||Ao g.code)&&
  ((decide (g.phase=2)&&inS g g.taken&& !decide (g.taken=g.ball)&& !Dk g g.taken)||(!decide (g.phase=2)&&decide (g.taken= -1)))
def DR (g:Gm):Bool:=
 decide (Cj g.n0 g.n2 g.p0 g.p2=(CQ g.turns+1) / 2)&&decide (Cj g.n1 g.n3 g.p1 g.p3=CQ g.turns / 2)&& !(C5 g&&Cz g)&&
  ((C5 g&&decide (g.phase=4)&&decide (g.winner=0))||(Cz g&&decide (g.phase=4)&&decide (g.winner=1))||(!C5 g&& !Cz g&& !decide (g.phase=4)&&decide (g.winner= -1)))
def CI (g:Gm):Bool:=
 (Ao g.code&&decide (4≤g.turns))||((!Ag g||decide (g.side=(g.turns+1) % 2))&&(!decide (g.phase=0)||decide (g.side=g.turns % 2)))
def AR (g:Gm):Bool:=BU g&&DR g&&CI g&&((Ag g&&Ct g)||(!Ag g&&Cm g))
theorem DB {g:Gm}(h:BU g=true):0≤g.code∧g.code≤3∧0≤g.phase∧g.phase≤4∧0≤g.side∧g.side≤1∧0≤g.turns∧g.turns≤1073741824:=by
 simp only[BU,Bool.and_eq_true,decide_eq_true_eq] at h
 simp only[h,and_self]
def mvU (k b:Int)(l:Bool):List U:=[.int k,.int b,.bool l,.list []]
def Ke (g:Gm)(s:Int):Bool:=(decide (s=0)&&g.l0)||(decide (s=1)&&g.l1)
def HO (g:Gm)(s:Int):Int:=if s=0 then g.h0 else g.h1
def MK (g:Gm)(b:Int):Bool:=(decide (g.turns < 4)&& !inS g b&& !decide (AJ g b=13))||(decide (4≤g.turns)&&inS g b)
def Co (g:Gm)(b:Int):List (List U):=
 if MK g b=true then (if inS g b=true∧Ke g g.side=true then [mvU 1 b false,mvU 1 b true] else [mvU 1 b false]) else []
def Ij (g:Gm):List (List U):=if 4≤g.turns then [mvU 3 0 false] else []
def C1 (g:Gm):List (List U):=if¬g.lastb= -1∧2≤HO g (g.lastb % 2) then [mvU 4 g.lastb false] else []
def C0 (g:Gm):List (List U):=if¬g.lastb= -1∧1≤HO g (g.lastb % 2) then [mvU 5 g.lastb false] else []
def C2 (g:Gm):List (List U):=
 if Ag g=true then [mvU 2 0 false,mvU 3 0 false] else if g.phase=4 then [] else
 Co g g.side++Co g (g.side+2)++Ij g++C1 g++C0 g
theorem Bs {g:Gm}(h:AR g=true):BU g=true∧(g.lastb= -1∨(0≤g.lastb∧g.lastb≤3))∧(Ag g=true→0≤g.ball∧g.ball≤3)∧(g.phase=2→0≤g.taken∧g.taken≤3)∧(Ag g=false→g.ball= -1):=by
 simp only[AR,Cm,Ct,inS,AY,Ag,Bool.and_eq_true,Bool.or_eq_true,Bool.not_eq_true',decide_eq_true_eq,decide_eq_false_iff_not] at h⊢
 grind
def Kw (g:Gm)(n i k b:Int):Prop:=1≤k∧k≤5∧(k=5→¬i+1 < n)∧(¬k=5→inS g b=true∧¬(k=1∧b=g.ball))
def DF (g:Gm)(l:List (List U))(i:Int):Prop:=∀j:Nat,(j:Int) < i→Kw g l.length j (At l j 0) (At l j 1)
instance (g:Gm)(n i k b:Int):Decidable (Kw g n i k b):=by unfold Kw;infer_instance
def BX (g:Gm)(l:List (List U)):Bool:=(List.range l.length).all fun j=>decide (Kw g l.length j (At l j 0) (At l j 1))
theorem HU {g:Gm}{l:List (List U)}:BX g l=true↔DF g l l.length:=by
 simp only[BX,DF,List.all_eq_true,List.mem_range,decide_eq_true_eq,Int.ofNat_lt]
def Ae (t:Int):Int:=if t=1073741824 then 1073741823 else t+1
def BJ (g:Gm):Bool:= !decide (g.ball= -1)&&((decide (0 < Ac g.code)&&decide (g.began < Ac g.code)&&decide (Ac g.code≤AJ g g.ball))||(decide (0 < Ab g.code)&&decide (g.began < Ab g.code)&&decide (Ab g.code≤AJ g g.ball)))
def A9 (g:Gm):Int:=if g.ball= -1 then -1 else if Ao g.code=true∧inS g g.ball=true∧4≤g.turns then g.ball else -1
def AW (g:Gm):Gm:=
 {g with phase:=0,side:=1 - g.side,ball:= -1,taken:= -1,d0:=false,d1:=false,d2:=false,d3:=false,l0:=g.l0||(BJ g&&decide (g.side=1)),l1:=g.l1||(BJ g&&decide (g.side=0)),half:=false,began:=0,lastb:=A9 g }
def AH (g:Gm)(b:Int):Gm:=
 {g with phase:=1,side:=b % 2,ball:=b,taken:= -1,n0:=g.n0||decide (b=0),n1:=g.n1||decide (b=1),n2:=g.n2||decide (b=2),n3:=g.n3||decide (b=3),d0:=false,d1:=false,d2:=false,d3:=false,half:=false,turns:=Ae g.turns,began:=AJ g b,lastb:= -1 }
structure St where
 over:Bool
 run:Bool
 roquet:Int
 gone:Bool
 p0:Int
 p1:Int
 p2:Int
 p3:Int
 n0:Bool
 n1:Bool
 n2:Bool
 n3:Bool
 d0:Bool
 d1:Bool
 d2:Bool
 d3:Bool
def Cn (g:Gm):Int:=if g.phase=2 then g.taken else -1
def Au (g:Gm)(b:Int):Bool:=g.half&&decide (b % 2=g.side)
def Bp (s:St)(b:Int):Int:=AS b s.p0 s.p1 s.p2 s.p3
def sIn (s:St)(b:Int):Bool:=AY b s.n0 s.n1 s.n2 s.n3
def Bm (s:St)(b:Int):Bool:=AY b s.d0 s.d1 s.d2 s.d3
def B5 (s:St):Bool:=(decide (s.p0=13)&&decide (s.p2=13))||(decide (s.p1=13)&&decide (s.p3=13))
def CM (s:St)(b:Int):Bool:=sIn s b&& !B5 s
def CT (g:Gm)(s:St)(k b:Int):Bool:=CM s b&&decide (k=1)&&decide (s.roquet= -1)&& !s.gone&&sIn s g.ball&& !Bm s b
def CH (g:Gm)(s:St)(k b:Int):Bool:=CM s b&&decide (k=2)&& !decide (Bp s b=AX g.code)&& !Au g b&&decide (b=g.ball)&&decide (s.roquet= -1)
def Bx (g:Gm)(s:St)(k b:Int):Bool:=CM s b&&decide (k=2)&& !decide (Bp s b=AX g.code)&& !Au g b&& !decide (b=g.ball)&&Aw g.code
def Bz (b:Int):Int:=if b=0 then 2 else if b=1 then 3 else if b=2 then 0 else 1
def Bw (g:Gm)(s:St)(k b:Int):Bool:=
 CM s b&&decide (k=3)&&decide (Bp s b=AX g.code)&& !Au g b&& !(BI g.code&& !decide (Bp s (Bz b)=AX g.code)&& !decide (Bp s (Bz b)=13))&& !(decide (b=g.ball)&& !decide (s.roquet= -1))&& !(!decide (b=g.ball)&& !decide (Bp s g.ball=AX g.code))
def Ce (g:Gm)(s:St)(k b:Int):Bool:=CM s b&&decide (k=4)&& !decide (Cn g= -1)&&(decide (b=Cn g)||(decide (b=g.ball)&&decide (s.roquet= -1)&& !s.run))
def Br (g:Gm)(s:St)(k b:Int):St:=
 {over:=s.over||Ce g s k b
  run:=s.run||CH g s k b||(Bw g s k b&&decide (b=s.roquet))
  roquet:=if CT g s k b=true then b else if Bw g s k b=true∧b=s.roquet then -1 else s.roquet
  gone:=s.gone||(Bw g s k b&&decide (b=s.roquet))
  p0:=if b=0 then (if CH g s k b=true∨Bx g s k b=true then s.p0+1 else if Bw g s k b=true then 13 else s.p0) else s.p0
  p1:=if b=1 then (if CH g s k b=true∨Bx g s k b=true then s.p1+1 else if Bw g s k b=true then 13 else s.p1) else s.p1
  p2:=if b=2 then (if CH g s k b=true∨Bx g s k b=true then s.p2+1 else if Bw g s k b=true then 13 else s.p2) else s.p2
  p3:=if b=3 then (if CH g s k b=true∨Bx g s k b=true then s.p3+1 else if Bw g s k b=true then 13 else s.p3) else s.p3
  n0:=s.n0&& !(Bw g s k b&&decide (b=0))
  n1:=s.n1&& !(Bw g s k b&&decide (b=1))
  n2:=s.n2&& !(Bw g s k b&&decide (b=2))
  n3:=s.n3&& !(Bw g s k b&&decide (b=3))
  d0:=s.d0&& !CH g s k b&& !(Bw g s k b&&decide (b=0))
  d1:=s.d1&& !CH g s k b&& !(Bw g s k b&&decide (b=1))
  d2:=s.d2&& !CH g s k b&& !(Bw g s k b&&decide (b=2))
  d3:=s.d3&& !CH g s k b&& !(Bw g s k b&&decide (b=3)) }
def EL (g:Gm):St:=
 {over:=false,run:=false,roquet:= -1,gone:=false,p0:=g.p0,p1:=g.p1,p2:=g.p2,p3:=g.p3,n0:=g.n0,n1:=g.n1,n2:=g.n2,n3:=g.n3,
  d0:=g.d0||decide (Cn g=0),d1:=g.d1||decide (Cn g=1),d2:=g.d2||decide (Cn g=2),d3:=g.d3||decide (Cn g=3) }
def Cw (g:Gm)(l:List (List U)):Nat→St
 |0=>EL g
 |n+1=>Br g (Cw g l n) (At l n 0) (At l n 1)
def C9 (g:Gm)(s:St):Gm:={ g with p0:=s.p0,p1:=s.p1,p2:=s.p2,p3:=s.p3,n0:=s.n0,n1:=s.n1,n2:=s.n2,n3:=s.n3,d0:=s.d0,d1:=s.d1,d2:=s.d2,d3:=s.d3 }
def Hg (g:Gm)(s:St):Gm:=
 if B5 s=true then { C9 g s with phase:=4,winner:=if s.p0=13∧s.p2=13 then 0 else 1,ball:= -1,taken:= -1,d0:=false,d1:=false,d2:=false,d3:=false,half:=false,began:=0,lastb:= -1 }
 else if s.over=true∨¬sIn s g.ball=true then AW (C9 g s)
 else if¬s.roquet= -1 then { C9 g s with taken:=s.roquet,phase:=2 }
 else if¬s.run=true∧Cn g= -1 then AW (C9 g s)
 else { C9 g s with taken:= -1,phase:=3 }
def Ck (l:List (List U)):Bool:=decide (0 < l.length)&&decide (At l (l.length - 1) 0=5)
def Ch (g:Gm)(l:List (List U)):Gm:=if Ck l=true then AW g else Hg g (Cw g l l.length)
def gAt (k:Nat)(us:List U):Gm:=
 ⟨aI us k,aI us (k+1),aI us (k+2),aI us (k+3),aI us (k+4),aI us (k+5),aI us (k+6),aI us (k+7),aI us (k+8),aB us (k+9),aB us (k+10),aB us (k+11),aB us (k+12),aB us (k+13),aB us (k+14),aB us (k+15),aB us (k+16),aI us (k+17),aI us (k+18),aB us (k+19),aB us (k+20),aB us (k+21),aI us (k+22),aI us (k+23),aI us (k+24),aI us (k+25)⟩
theorem R8 {k:Nat}{us:List U}{c0 c1 c2 c3 c4 c5 c6 c7 c8:Int}{c9 c10 c11 c12 c13 c14 c15 c16:Bool}{c17 c18:Int}{c19 c20 c21:Bool}{c22 c23 c24 c25:Int}
  (h0:aI us k=c0) (h1:aI us (k+1)=c1) (h2:aI us (k+2)=c2) (h3:aI us (k+3)=c3) (h4:aI us (k+4)=c4) (h5:aI us (k+5)=c5) (h6:aI us (k+6)=c6) (h7:aI us (k+7)=c7) (h8:aI us (k+8)=c8)
  (h9:aB us (k+9)=c9) (h10:aB us (k+10)=c10) (h11:aB us (k+11)=c11) (h12:aB us (k+12)=c12) (h13:aB us (k+13)=c13) (h14:aB us (k+14)=c14) (h15:aB us (k+15)=c15) (h16:aB us (k+16)=c16)
  (h17:aI us (k+17)=c17) (h18:aI us (k+18)=c18) (h19:aB us (k+19)=c19) (h20:aB us (k+20)=c20) (h21:aB us (k+21)=c21) (h22:aI us (k+22)=c22) (h23:aI us (k+23)=c23) (h24:aI us (k+24)=c24) (h25:aI us (k+25)=c25):
  gAt k us=⟨c0,c1,c2,c3,c4,c5,c6,c7,c8,c9,c10,c11,c12,c13,c14,c15,c16,c17,c18,c19,c20,c21,c22,c23,c24,c25⟩:=by
 unfold gAt;rw[h0,h1,h2,h3,h4,h5,h6,h7,h8,h9,h10,h11,h12,h13,h14,h15,h16,h17,h18,h19,h20,h21,h22,h23,h24,h25]
theorem Jl {g:Gm}(h:AR g=true):(0≤g.p0∧g.p0≤13)∧(0≤g.p1∧g.p1≤13)∧(0≤g.p2∧g.p2≤13)∧(0≤g.p3∧g.p3≤13):=by
 have h:=(Bs h).1
 have hh:AX g.code≤12:=by unfold AX;split<;>omega
 simp only[BU,CE,Bool.and_eq_true,Bool.or_eq_true,Bool.not_eq_true',decide_eq_true_eq,decide_eq_false_iff_not] at h
 grind
def Iw (g:Gm):Gm:={ g with l0:=g.l0&& !decide (g.side=0),l1:=g.l1&& !decide (g.side=1) }
def Gw (n:Int)(g:Gm):Gm:={ g with h0:=if g.side=0 then g.h0 - n else g.h0,h1:=if g.side=1 then g.h1 - n else g.h1 }
def G1 (g:Gm):Gm:={ g with turns:=if g.phase=0 then Ae g.turns else g.turns }
def Bv (g:Gm)(k b:Int)(l:List (List U)):Gm:=
 if k=1 then Iw (AH g b) else if k=2 then Ch g l else if k=3 then AW (G1 g) else if k=4 then Gw 2 (AH g b) else { Gw 1 (AH g b) with half:=true }
def C3 (g:Gm)(k b:Int)(f:Bool):Bool:=(C2 g).any fun u=>decide ((u.getD 0 default).toI=k)&&decide ((u.getD 1 default).toI=b)&&((u.getD 2 default).toB==f)
def Jm:Gm:=⟨0,0,0,0,0,0,0,0,0,false,false,false,false,false,false,false,false,0,0,false,false,false,0,0,0,0⟩
def B9 (g:Gm)(k b:Int)(f:Bool)(l:List (List U)):Int:=
 if AR g=false then 2 else if C3 g k b f=false then 10 else if 24 < l.length then 6 else if (¬k=2∧0 < l.length)∨BX g l=false then 21 else 0
def D2 (g:Gm)(k b:Int)(f:Bool)(l:List (List U)):Gm:=if B9 g k b f l=0 then Bv g k b l else Jm
theorem IK {g:Gm}(h:AR g=true):0≤g.began:=by
 simp only[AR,Cm,Ct,Bool.and_eq_true,Bool.or_eq_true,Bool.not_eq_true',decide_eq_true_eq,decide_eq_false_iff_not] at h
 grind
abbrev gT (T:Tab)(n:Nat):Gm:=Gm.mk (I T n) (I T (n+1)) (I T (n+2)) (I T (n+3)) (I T (n+4)) (I T (n+5)) (I T (n+6)) (I T (n+7)) (I T (n+8)) (B T (n+9)) (B T (n+10)) (B T (n+11)) (B T (n+12)) (B T (n+13)) (B T (n+14)) (B T (n+15)) (B T (n+16)) (I T (n+17)) (I T (n+18)) (B T (n+19)) (B T (n+20)) (B T (n+21)) (I T (n+22)) (I T (n+23)) (I T (n+24)) (I T (n+25))
theorem Bk {acode bcode:Int}{aphase bphase:Int}{aside bside:Int}{aball bball:Int}{ataken btaken:Int}{ap0 bp0:Int}{ap1 bp1:Int}{ap2 bp2:Int}{ap3 bp3:Int}{an0 bn0:Bool}{an1 bn1:Bool}{an2 bn2:Bool}{an3 bn3:Bool}{ad0 bd0:Bool}{ad1 bd1:Bool}{ad2 bd2:Bool}{ad3 bd3:Bool}{ah0 bh0:Int}{ah1 bh1:Int}{al0 bl0:Bool}{al1 bl1:Bool}{ahalf bhalf:Bool}{aturns bturns:Int}{abegan bbegan:Int}{alastb blastb:Int}{awinner bwinner:Int}
  (hcode:acode=bcode) (hphase:aphase=bphase) (hside:aside=bside) (hball:aball=bball) (htaken:ataken=btaken) (hp0:ap0=bp0) (hp1:ap1=bp1) (hp2:ap2=bp2) (hp3:ap3=bp3) (hn0:an0=bn0) (hn1:an1=bn1) (hn2:an2=bn2) (hn3:an3=bn3) (hd0:ad0=bd0) (hd1:ad1=bd1) (hd2:ad2=bd2) (hd3:ad3=bd3) (hh0:ah0=bh0) (hh1:ah1=bh1) (hl0:al0=bl0) (hl1:al1=bl1) (hhalf:ahalf=bhalf) (hturns:aturns=bturns) (hbegan:abegan=bbegan) (hlastb:alastb=blastb) (hwinner:awinner=bwinner):
  Gm.mk acode aphase aside aball ataken ap0 ap1 ap2 ap3 an0 an1 an2 an3 ad0 ad1 ad2 ad3 ah0 ah1 al0 al1 ahalf aturns abegan alastb awinner=Gm.mk bcode bphase bside bball btaken bp0 bp1 bp2 bp3 bn0 bn1 bn2 bn3 bd0 bd1 bd2 bd3 bh0 bh1 bl0 bl1 bhalf bturns bbegan blastb bwinner:=by
 subst hcode hphase hside hball htaken hp0 hp1 hp2 hp3 hn0 hn1 hn2 hn3 hd0 hd1 hd2 hd3 hh0 hh1 hl0 hl1 hhalf hturns hbegan hlastb hwinner;rfl
end Go.Eng
end
noncomputable section
namespace Go.Eng
open Go
theorem AK.cut {T:Tab}{a b:List En}(h:AK T (a++b)):AK T a∧AK T b:=⟨h.left,h.right⟩
theorem Ap {T:Tab}{K:Knw}{es:List En}{outs:List (Nat × Ty)}{os:List Rf}(hk:KOk T K)(h:AK T es)(hr:(cd K es outs).1=os):CD T outs os:=
 (Be (es':=(cd K es outs).2) hk h (by rw[←hr])).1
theorem zN:(∀(T:Tab) (x:Nat),bR T (.n x)= !B T x)∧(∀b:Bool,((!b)=true)=(b=false))∧(∀b:Bool,(¬b=true)=(b=false)):=
 ⟨fun T x=>CW,fun b=>Bool.not_eq_true' b,fun b=>Bool.not_eq_true b⟩
theorem zC:(∀(T:Tab) (b:Bool),bR T (.c (.bool b))=b)∧((false=true)=False)∧(∀{α:Sort 1} (a:α),(a=a)=True)∧(∀p:Prop,(p∧True)=p)∧(∀p:Prop,(p∧False)=False)∧(∀p:Prop,(p∨False)=p)∧(∀p:Prop,(False∨p)=p)∧(∀p:Prop,(True∧p)=p)∧(∀p:Prop,(False∧p)=False):=
 ⟨fun T b=>BG,Bool.false_eq_true,fun a=>eq_self a,and_true,and_false,or_false,false_or,true_and,false_and⟩
theorem zB:(∀a b:Bool,((a&&b)=true)=(a=true∧b=true))∧(∀a b:Bool,((a||b)=true)=(a=true∨b=true))∧(∀b:Bool,(¬b=true)=(b=false))∧(∀b:Bool,((!b)=true)=(b=false))∧(∀a b:Bool,((!a)=b)=(a= !b))∧((!true)=false)∧((!false)=true)∧(∀(p:Prop) [Decidable p],(decide p=true)=p)∧(∀(p:Prop) [Decidable p],(decide p=false)=¬p):=
 ⟨fun a b=>Bool.and_eq_true a b,fun a b=>Bool.or_eq_true a b,fun b=>Bool.not_eq_true b,fun b=>Bool.not_eq_true' b,fun a b=>propext Bool.not_eq_eq_eq_not,Bool.not_true,Bool.not_false,fun p=>decide_eq_true_eq,fun p=>propext decide_eq_false_iff_not⟩
open Go
theorem DV {T:Tab}{us:List U}{k n:Nat}(h:∀j u,us[j]? =some u→T j=u)(hl:us.length=n)(hk:k+26≤n):
  gAt k us=Gm.mk (I T k) (I T (k+1)) (I T (k+2)) (I T (k+3)) (I T (k+4)) (I T (k+5)) (I T (k+6)) (I T (k+7)) (I T (k+8)) (B T (k+9)) (B T (k+10)) (B T (k+11)) (B T (k+12)) (B T (k+13)) (B T (k+14)) (B T (k+15)) (B T (k+16)) (I T (k+17)) (I T (k+18)) (B T (k+19)) (B T (k+20)) (B T (k+21)) (I T (k+22)) (I T (k+23)) (I T (k+24)) (I T (k+25)):=
 R8 (inI h hl (by omega)) (inI h hl (by omega)) (inI h hl (by omega)) (inI h hl (by omega)) (inI h hl (by omega)) (inI h hl (by omega)) (inI h hl (by omega)) (inI h hl (by omega)) (inI h hl (by omega))
  (inB h hl (by omega)) (inB h hl (by omega)) (inB h hl (by omega)) (inB h hl (by omega)) (inB h hl (by omega)) (inB h hl (by omega)) (inB h hl (by omega)) (inB h hl (by omega))
  (inI h hl (by omega)) (inI h hl (by omega)) (inB h hl (by omega)) (inB h hl (by omega)) (inB h hl (by omega)) (inI h hl (by omega)) (inI h hl (by omega)) (inI h hl (by omega)) (inI h hl (by omega))
theorem Ka {g:Gm}{c0 c1 c2 c3 c4 c5 c6 c7 c8:Int}{c9 c10 c11 c12 c13 c14 c15 c16:Bool}{c17 c18:Int}{c19 c20 c21:Bool}{c22 c23 c24 c25:Int}{l l':List U}
  (h:Gm.mk c0 c1 c2 c3 c4 c5 c6 c7 c8 c9 c10 c11 c12 c13 c14 c15 c16 c17 c18 c19 c20 c21 c22 c23 c24 c25=g) (hl:l=l'):
  U.int c0:: .int c1:: .int c2:: .int c3:: .int c4:: .int c5:: .int c6:: .int c7:: .int c8:: .bool c9:: .bool c10:: .bool c11:: .bool c12:: .bool c13:: .bool c14:: .bool c15:: .bool c16:: .int c17:: .int c18:: .bool c19:: .bool c20:: .bool c21:: .int c22:: .int c23:: .int c24:: .int c25::l=
  U.int g.code:: .int g.phase:: .int g.side:: .int g.ball:: .int g.taken:: .int g.p0:: .int g.p1:: .int g.p2:: .int g.p3:: .bool g.n0:: .bool g.n1:: .bool g.n2:: .bool g.n3:: .bool g.d0:: .bool g.d1:: .bool g.d2:: .bool g.d3:: .int g.h0:: .int g.h1:: .bool g.l0:: .bool g.l1:: .bool g.half:: .int g.turns:: .int g.began:: .int g.lastb:: .int g.winner::l':=by
 subst h;subst hl;rfl
open Go
theorem zR:(∀(T:Tab) (x:Nat),iR T (.e x)=I T x)∧(∀(T:Tab) (n:Int),iR T (.c (.int n))=n):=
 ⟨fun T x=>BD,fun T n=>Ax⟩
theorem zL:(∀(T:Tab) (x:Nat),lR T (.e x)=L T x)∧(∀T:Tab,lR T (.c (.list []))=[]):=
 ⟨fun T x=>Bt,fun T=>Bn⟩
theorem zW:(∀(f:Ty→Rf→U) (a:Ty) (b:Rf) (l:List Ty) (r:List Rf),List.zipWith f (a::l) (b::r)=f a b::List.zipWith f l r)∧(∀(f:Ty→Rf→U) (r:List Rf),List.zipWith f [] r=[])∧(∀(a:U) (l:List U) (n:Nat),List.take (n+1) (a::l)=a::List.take n l)∧(∀l:List U,List.take 0 l=[])∧(∀(a:U) (l:List U) (n:Nat),List.drop (n+1) (a::l)=List.drop n l)∧(∀l:List U,List.drop 0 l=l):=
 ⟨fun _ _ _ _ _=>rfl,fun _ _=>rfl,fun _ _ _=>rfl,fun _=>rfl,fun _ _ _=>rfl,fun _=>rfl⟩
theorem Mc {T:Tab}{x:Nat}{a b:List (List U)}{m n k:Nat}(h:L T x=a++b)(ha:a.length≤m)(hb:b.length≤n)(hk:m+n≤k):(L T x).length≤k:=by
 rw[h,List.length_append];omega
theorem Of {T:Tab}{x k:Nat}{p:Prop} [Decidable p] {a b:List (List U)}(h:L T x=if p then a else b)(ha:a.length≤k)(hb:b.length≤k):(L T x).length≤k:=by
 rw[h];split
 ·exact ha
 ·exact hb
theorem BC {T:Tab}{a0 a1 a2 a3 a4 a5 a6 a7 a8 a9 a10 a11 a12 a13 a14 a15 a16 a17 a18 a19 a20 a21 a22 a23 a24 a25:Nat}{r0 r1 r2 r3 r4 r5 r6 r7 r8 r9 r10 r11 r12 r13 r14 r15 r16 r17 r18 r19 r20 r21 r22 r23 r24 r25:Rf}
  (h:CD T [(a0,.i),(a1,.i),(a2,.i),(a3,.i),(a4,.i),(a5,.i),(a6,.i),(a7,.i),(a8,.i),(a9,.b),(a10,.b),(a11,.b),(a12,.b),(a13,.b),(a14,.b),(a15,.b),(a16,.b),(a17,.i),(a18,.i),(a19,.b),(a20,.b),(a21,.b),(a22,.i),(a23,.i),(a24,.i),(a25,.i)] [r0,r1,r2,r3,r4,r5,r6,r7,r8,r9,r10,r11,r12,r13,r14,r15,r16,r17,r18,r19,r20,r21,r22,r23,r24,r25]):
  Gm.mk (I T a0) (I T a1) (I T a2) (I T a3) (I T a4) (I T a5) (I T a6) (I T a7) (I T a8) (B T a9) (B T a10) (B T a11) (B T a12) (B T a13) (B T a14) (B T a15) (B T a16) (I T a17) (I T a18) (B T a19) (B T a20) (B T a21) (I T a22) (I T a23) (I T a24) (I T a25)=Gm.mk (iR T r0) (iR T r1) (iR T r2) (iR T r3) (iR T r4) (iR T r5) (iR T r6) (iR T r7) (iR T r8) (bR T r9) (bR T r10) (bR T r11) (bR T r12) (bR T r13) (bR T r14) (bR T r15) (bR T r16) (iR T r17) (iR T r18) (bR T r19) (bR T r20) (bR T r21) (iR T r22) (iR T r23) (iR T r24) (iR T r25):=
 Bk h.1 h.2.1 h.2.2.1 h.2.2.2.1 h.2.2.2.2.1 h.2.2.2.2.2.1 h.2.2.2.2.2.2.1 h.2.2.2.2.2.2.2.1 h.2.2.2.2.2.2.2.2.1 h.2.2.2.2.2.2.2.2.2.1 h.2.2.2.2.2.2.2.2.2.2.1 h.2.2.2.2.2.2.2.2.2.2.2.1 h.2.2.2.2.2.2.2.2.2.2.2.2.1 h.2.2.2.2.2.2.2.2.2.2.2.2.2.1 h.2.2.2.2.2.2.2.2.2.2.2.2.2.2.1 h.2.2.2.2.2.2.2.2.2.2.2.2.2.2.2.1 h.2.2.2.2.2.2.2.2.2.2.2.2.2.2.2.2.1 h.2.2.2.2.2.2.2.2.2.2.2.2.2.2.2.2.2.1 h.2.2.2.2.2.2.2.2.2.2.2.2.2.2.2.2.2.2.1 h.2.2.2.2.2.2.2.2.2.2.2.2.2.2.2.2.2.2.2.1 h.2.2.2.2.2.2.2.2.2.2.2.2.2.2.2.2.2.2.2.2.1 h.2.2.2.2.2.2.2.2.2.2.2.2.2.2.2.2.2.2.2.2.2.1 h.2.2.2.2.2.2.2.2.2.2.2.2.2.2.2.2.2.2.2.2.2.2.1 h.2.2.2.2.2.2.2.2.2.2.2.2.2.2.2.2.2.2.2.2.2.2.2.1 h.2.2.2.2.2.2.2.2.2.2.2.2.2.2.2.2.2.2.2.2.2.2.2.2.1 h.2.2.2.2.2.2.2.2.2.2.2.2.2.2.2.2.2.2.2.2.2.2.2.2.2.1
theorem zT:(∀h:Decidable True,@decide True h=true)∧(∀h:Decidable False,@decide False h=false)∧(∀b:Bool,(true&&b)=b)∧(∀b:Bool,(b&&true)=b)∧(∀b:Bool,(false&&b)=false)∧(∀b:Bool,(b&&false)=false)∧(∀b:Bool,(b||false)=b)∧(∀b:Bool,(false||b)=b)∧((!false)=true)∧((!true)=false)∧(∀p:Prop,(p∨False)=p)∧(∀p:Prop,(False∨p)=p)∧(∀p:Prop,(p∧True)=p)∧(∀p:Prop,(True∧p)=p)∧((false=true)=False)∧(∀p:Prop,(False∧p)=False)∧(∀p:Prop,(p∧False)=False):=
 ⟨fun h=>decide_true h,fun h=>decide_false h,Bool.true_and,Bool.and_true,Bool.false_and,Bool.and_false,Bool.or_false,Bool.false_or,Bool.not_false,Bool.not_true,or_false,false_or,and_true,true_and,Bool.false_eq_true,false_and,and_false⟩
end Go.Eng
end
noncomputable section
namespace Go.Eng
def Fd (h p:Int)(n d:Bool)(p0:Int)(n0:Bool):Prop:=
 p0≤p∧((p=13∧n=false∧d=false)∨(¬p=13∧0≤p∧p≤h∧(n=true∨(p=0∧d=false))))∧((n=true∨p=13)↔(n0=true∨p0=13))∧(p0=13→p=13)
structure Nq (g:Gm) (s:St):Prop where
 b0:Fd (AX g.code) s.p0 s.n0 s.d0 g.p0 g.n0
 b1:Fd (AX g.code) s.p1 s.n1 s.d1 g.p1 g.n1
 b2:Fd (AX g.code) s.p2 s.n2 s.d2 g.p2 g.n2
 b3:Fd (AX g.code) s.p3 s.n3 s.d3 g.p3 g.n3
 won:¬((s.p0=13∧s.p2=13)∧(s.p1=13∧s.p3=13))
 roq:s.roquet= -1∨(0≤s.roquet∧s.roquet≤3∧sIn s s.roquet=true∧¬Bm s s.roquet=true∧¬s.roquet=g.ball)
 alive:¬Bm s g.ball=true
 half:g.half=true→(g.side=0→s.p0=g.p0∧s.p2=g.p2)∧(g.side=1→s.p1=g.p1∧s.p3=g.p3)
theorem gR (c:Int):6≤AX c∧AX c≤12:=by unfold AX;split<;>omega
theorem Jd {h p p0 i b:Int}{n d n0 own peel peg:Bool}(H:Fd h p n d p0 n0)(hh:6≤h∧h≤12)(hu:b=i→(own=true∨peel=true)→n=true∧¬p=h)(hg:b=i→peg=true→n=true∧p=h):
  Fd h (if b=i then (if own=true∨peel=true then p+1 else if peg=true then 13 else p) else p) (n&& !(peg&&decide (b=i))) (d&& !own&& !(peg&&decide (b=i))) p0 n0:=by
 unfold Fd at*
 by_cases hb:b=i
 ·simp only[hb,if_true,decide_true,Bool.and_true] at*
  cases own<;>cases peel<;>cases peg<;>simp at hu hg⊢ <;>grind
 ·simp only[hb,if_false,decide_false,Bool.and_false,Bool.not_false,Bool.and_true] at*
  cases own<;>simp<;>grind
section
variable {g:Gm}{s:St}{k b:Int}
theorem km (h:CH g s k b=true):CM s b=true∧k=2∧¬Bp s b=AX g.code∧Au g b=false∧b=g.ball∧s.roquet= -1:=by
 simp only[CH,Bool.and_eq_true,decide_eq_true_eq,Bool.not_eq_true',decide_eq_false_iff_not] at h;grind
theorem jW (h:Bx g s k b=true):CM s b=true∧k=2∧¬Bp s b=AX g.code∧Au g b=false∧¬b=g.ball:=by
 simp only[Bx,Bool.and_eq_true,decide_eq_true_eq,Bool.not_eq_true',decide_eq_false_iff_not] at h;grind
theorem kY (h:Bw g s k b=true):CM s b=true∧k=3∧Bp s b=AX g.code∧Au g b=false∧¬(b=g.ball∧¬s.roquet= -1):=by
 simp only[Bw,Bool.and_eq_true,decide_eq_true_eq,Bool.not_eq_true',decide_eq_false_iff_not,Bool.and_eq_false_iff,Bool.not_eq_false'] at h;grind
theorem gA (h:CT g s k b=true):CM s b=true∧k=1∧s.roquet= -1∧Bm s b=false:=by
 simp only[CT,Bool.and_eq_true,decide_eq_true_eq,Bool.not_eq_true'] at h;grind
theorem Ra (h:CM s b=true):sIn s b=true∧B5 s=false:=by
 simp only[CM,Bool.and_eq_true,Bool.not_eq_true'] at h;exact h
theorem lZ (h:CH g s k b=true∨Bx g s k b=true):sIn s b=true∧¬Bp s b=AX g.code∧B5 s=false∧Au g b=false∧k=2:=by
 rcases h with h|h
 ·have:=km h;have:=Ra this.1;grind
 ·have:=jW h;have:=Ra this.1;grind
theorem lX (h:Bw g s k b=true):sIn s b=true∧Bp s b=AX g.code∧B5 s=false∧Au g b=false∧k=3:=by
 have:=kY h;have:=Ra this.1;grind
end
theorem fw {g:Gm}{s:St}(h:Nq g s){k b:Int}(hb:0≤g.ball∧g.ball≤3)(hk:k=1→¬b=g.ball)(hb2:0≤b∧b≤3):Nq g (Br g s k b):=by
 have hh:=gR g.code
 have hu:(CH g s k b=true∨Bx g s k b=true)→sIn s b=true∧¬Bp s b=AX g.code∧B5 s=false∧Au g b=false∧k=2:=lZ
 have hp:Bw g s k b=true→sIn s b=true∧Bp s b=AX g.code∧B5 s=false∧Au g b=false∧k=3:=lX
 have hi:CT g s k b=true→CM s b=true∧k=1∧s.roquet= -1∧Bm s b=false:=gA
 have hi2:CT g s k b=true→sIn s b=true:=fun h=>(Ra (gA h).1).1
 obtain⟨h0,h1,h2,h3,hw,hr,ha,hf⟩:=h
 unfold Br
 generalize ho:CH g s k b=own at*
 generalize hpe:Bx g s k b=peel at*
 generalize hpg:Bw g s k b=peg at*
 generalize hht:CT g s k b=hit at*
 generalize hof:Ce g s k b=off at*
 clear ho hpe hpg hht hof
 refine⟨Jd h0 hh ?_ ?_,Jd h1 hh ?_ ?_,Jd h2 hh ?_ ?_,Jd h3 hh ?_ ?_,?_,?_,?_,?_⟩
 ·rintro rfl h;have:=hu h;have z:=And.intro this.1 this.2.1;simpa [sIn,Bp,AY,AS] using z
 ·rintro rfl h;have:=hp h;have z:=And.intro this.1 this.2.1;simpa [sIn,Bp,AY,AS] using z
 ·rintro rfl h;have:=hu h;have z:=And.intro this.1 this.2.1;simpa [sIn,Bp,AY,AS] using z
 ·rintro rfl h;have:=hp h;have z:=And.intro this.1 this.2.1;simpa [sIn,Bp,AY,AS] using z
 ·rintro rfl h;have:=hu h;have z:=And.intro this.1 this.2.1;simpa [sIn,Bp,AY,AS] using z
 ·rintro rfl h;have:=hp h;have z:=And.intro this.1 this.2.1;simpa [sIn,Bp,AY,AS] using z
 ·rintro rfl h;have:=hu h;have z:=And.intro this.1 this.2.1;simpa [sIn,Bp,AY,AS] using z
 ·rintro rfl h;have:=hp h;have z:=And.intro this.1 this.2.1;simpa [sIn,Bp,AY,AS] using z
 ·clear hr ha hf h0 h1 h2 h3 hi hi2
  have hu':(own=true∨peel=true)→B5 s=false:=fun h=>(hu h).2.2.1
  have hp':peg=true→B5 s=false:=fun h=>(hp h).2.2.1
  clear hu hp
  simp only[B5,Bool.or_eq_false_iff,Bool.and_eq_false_iff,decide_eq_false_iff_not] at hu' hp'
  by_cases hU:own=true∨peel=true
  ·have:=hu' hU;simp only[hU,if_true];grind
  ·simp only[hU,if_false]
   by_cases hP:peg=true
   ·have:=hp' hP;simp only[hP,if_true];grind
   ·simp only[hP];simpa using hw
 ·clear hu hw hf ha h0 h1 h2 h3
  simp only[sIn,Bm,AY,Bool.and_eq_true,Bool.or_eq_true,decide_eq_true_eq,Bool.and_eq_false_iff,Bool.or_eq_false_iff,decide_eq_false_iff_not,Bool.not_eq_true'] at*
  cases hit with
  |true=>
   have e1:=hi rfl
   have e2:=hi2 rfl
   have e3:peg=false:=by cases peg with|false=>rfl|true=>have:=hp rfl;omega
   subst e3
   simp only[if_true,Bool.false_eq_true]
   right
   clear hp hi hi2
   grind
  |false=>
   simp only[Bool.false_eq_true,if_false]
   clear hi hi2
   by_cases hP:peg=true∧b=s.roquet
   ·left;rw[if_pos hP]
   ·rw[if_neg hP]
    rcases hr with hr|hr
    ·left;exact hr
    ·right;clear hp;grind
 ·clear hu hp hi hi2 hw hr hf h0 h1 h2 h3 hk hb2 hh
  simp only[Bm,AY,Bool.and_eq_true,Bool.or_eq_true,decide_eq_true_eq] at*
  grind
 ·intro hhf
  have e:=hf hhf
  have hn:Au g b=false→¬b % 2=g.side:=by intro h;simp only[Au,hhf,Bool.true_and,decide_eq_false_iff_not] at h;exact h
  have hu':(own=true∨peel=true)→¬b % 2=g.side:=fun h=>hn (hu h).2.2.2.1
  have hp':peg=true→¬b % 2=g.side:=fun h=>hn (hp h).2.2.2.1
  clear hu hp hi hi2 hw hr ha h0 h1 h2 h3 hn hf
  by_cases hU:own=true∨peel=true
  ·have:=hu' hU;simp only[hU,if_true];grind
  ·simp only[hU,if_false]
   by_cases hP:peg=true
   ·have:=hp' hP;simp only[hP,if_true];grind
   ·simp only[hP];simpa using e
end Go.Eng
end
noncomputable section
namespace Go.Eng
set_option maxHeartbeats 1000000
structure SY (g:Gm):Prop where
 code:0≤g.code∧g.code≤3
 side:0≤g.side∧g.side≤1
 turns:0≤g.turns∧g.turns≤1073741824
 halves:DD g.code g.h0 g.h1=true
 b0:CE (AX g.code) g.p0 g.n0 g.d0=true
 b1:CE (AX g.code) g.p1 g.n1 g.d1=true
 b2:CE (AX g.code) g.p2 g.n2 g.d2=true
 b3:CE (AX g.code) g.p3 g.n3 g.d3=true
 lift:g.code=1∨(g.l0=false∧g.l1=false)
 ca:Cj g.n0 g.n2 g.p0 g.p2=(CQ g.turns+1) / 2
 cb:Cj g.n1 g.n3 g.p1 g.p3=CQ g.turns / 2
structure Xf (g:Gm):Prop where
 a:¬(g.p0=13∧g.p2=13)
 b:¬(g.p1=13∧g.p3=13)
 win:g.winner= -1
theorem CS {g:Gm}(h:AR g=true):SY g:=by
 simp only[AR,BU,DR,Bool.and_eq_true,Bool.or_eq_true,Bool.not_eq_true',decide_eq_true_eq] at h
 obtain⟨⟨⟨⟨⟨⟨⟨⟨⟨⟨⟨⟨⟨⟨⟨⟨h1,h2⟩,h3⟩,h4⟩,h5⟩,h6⟩,h7⟩,h8⟩,h9⟩,h10⟩,h11⟩,h12⟩,h13⟩,h14⟩,⟨⟨⟨c1,c2⟩,c3⟩,c4⟩⟩,s⟩,t⟩:=h
 exact⟨⟨h1,h2⟩,⟨h5,h6⟩,⟨h7,h8⟩,h9,h10,h11,h12,h13,h14,c1,c2⟩
theorem Lc {g:Gm}(h:AR g=true)(hp:¬g.phase=4):Xf g:=by
 simp only[AR,DR,C5,Cz,Bool.and_eq_true,Bool.or_eq_true,Bool.not_eq_true',decide_eq_true_eq,Bool.and_eq_false_iff,decide_eq_false_iff_not] at h
 constructor<;>grind
theorem Pa {g:Gm}(h:AR g=true):0≤g.phase∧g.phase≤4:=by
 have:=DB (Bs h).1;omega
theorem MO {g:Gm}(h:AR g=true):CI g=true:=by
 simp only[AR,Bool.and_eq_true] at h;exact h.1.2
theorem dx {g:Gm}(h:AR g=true)(ht:Ag g=true):Ct g=true:=by
 simp only[AR,Bool.and_eq_true,Bool.or_eq_true,Bool.not_eq_true'] at h;grind
theorem cp {g:Gm}(h:AR g=true)(ht:Ag g=false):Cm g=true:=by
 simp only[AR,Bool.and_eq_true,Bool.or_eq_true,Bool.not_eq_true'] at h;grind
theorem LX {g:Gm}(hb:SY g)(hp:0≤g.phase∧g.phase≤4)(hc:(¬g.phase=4∧Xf g)∨(g.phase=4∧¬((g.p0=13∧g.p2=13)∧(g.p1=13∧g.p3=13))∧((g.p0=13∧g.p2=13∧g.winner=0)∨(g.p1=13∧g.p3=13∧g.winner=1))))(hs:CI g=true)(ht:Ag g=true→Ct g=true)(hr:Ag g=false→Cm g=true):AR g=true:=by
 have e1:BU g=true:=by
  obtain⟨h1,h2,h3,h4,h5,h6,h7,h8,h9,h10,h11⟩:=hb
  simp only[BU,Bool.and_eq_true,Bool.or_eq_true,Bool.not_eq_true',decide_eq_true_eq]
  exact⟨⟨⟨⟨⟨⟨⟨⟨⟨⟨⟨⟨⟨h1.1,h1.2⟩,hp.1⟩,hp.2⟩,h2.1⟩,h2.2⟩,h3.1⟩,h3.2⟩,h4⟩,h5⟩,h6⟩,h7⟩,h8⟩,h9⟩
 have e2:DR g=true:=by
  simp only[DR,C5,Cz,Bool.and_eq_true,Bool.or_eq_true,Bool.not_eq_true',decide_eq_true_eq,Bool.and_eq_false_iff,decide_eq_false_iff_not]
  refine⟨⟨⟨hb.ca,hb.cb⟩,?_⟩,?_⟩
  ·rcases hc with⟨_,h⟩|h
   ·have:=h.a;grind
   ·grind
  ·rcases hc with⟨h0,h⟩|h
   ·have:=h.a;have:=h.b;have:=h.win;grind
   ·grind
 simp only[AR,e1,e2,hs,Bool.true_and,Bool.and_eq_true,Bool.or_eq_true,Bool.not_eq_true']
 cases h:Ag g with
 |true=>exact .inl ⟨rfl,ht h⟩
 |false=>exact .inr ⟨rfl,hr h⟩
theorem DW {h p:Int}{n d:Bool}(hb:CE h p n d=true):CE h p n false=true:=by
 simp only[CE,Bool.and_eq_true,Bool.or_eq_true,Bool.not_eq_true',decide_eq_true_eq] at*; grind
theorem KS {g:Gm}(hb:SY g)(ho:Xf g)(hs:(Ao g.code=true∧4≤g.turns)∨g.side=(g.turns+1) % 2)(hl:g.ball= -1∨(0≤g.ball∧g.ball≤3∧g.ball % 2=g.side)):AR (AW g)=true:=by
 have hb':=hb
 obtain⟨h1,h2,h3,h4,h5,h6,h7,h8,h9,h10,h11⟩:=hb
 refine LX ⟨h1,?_,h3,h4,DW h5,DW h6,DW h7,DW h8,?_,h10,h11⟩ ?_ ?_ ?_ (fun h=>?_) (fun _=>?_)
 ·simp only[AW];omega
 ·simp only[AW,BJ,Ac,Ab]
  by_cases hc:g.code=1
  ·exact .inl hc
  ·right;rcases h9 with h9|h9
   ·exact absurd h9 hc
   ·simp[hc,h9]
 ·simp[AW]
 ·left;exact⟨by simp[AW],ho.a,ho.b,ho.win⟩
 ·simp only[CI,Ag,Bool.and_eq_true,Bool.or_eq_true,Bool.not_eq_true',decide_eq_true_eq,decide_eq_false_iff_not]
  simp only[AW]
  rcases hs with hs|hs
  ·left;exact hs
  ·right;simp;omega
 ·simp[AW,Ag] at h
 ·have hL:A9 g= -1∨(A9 g=g.ball∧Ao g.code=true∧inS g g.ball=true∧4≤g.turns∧¬g.ball= -1):=by
   unfold A9
   by_cases h:g.ball= -1
   ·rw[if_pos h];exact .inl rfl
   ·rw[if_neg h]
    by_cases h':Ao g.code=true∧inS g g.ball=true∧4≤g.turns
    ·rw[if_pos h'];exact .inr ⟨rfl,h'.1,h'.2.1,h'.2.2,h⟩
    ·rw[if_neg h'];exact .inl rfl
  simp only[Cm,Bool.and_eq_true,Bool.or_eq_true,Bool.not_eq_true',decide_eq_true_eq,decide_eq_false_iff_not]
  refine⟨by simp[AW],?_⟩
  show A9 g= -1∨((((0:Int)=0∧Ao g.code=true)∧4≤g.turns)∧inS g (A9 g)=true)∧¬A9 g % 2=1 - g.side
  rcases hL with h|⟨h,h1,h2,h3,h4⟩
  ·exact .inl h
  ·rw[h];right;exact⟨⟨⟨⟨rfl,h1⟩,h3⟩,h2⟩,by omega⟩
theorem HC {g:Gm}(h:AR g=true)(ht:Ag g=true):Xf g∧((Ao g.code=true∧4≤g.turns)∨g.side=(g.turns+1) % 2)∧(0≤g.ball∧g.ball≤3∧g.ball % 2=g.side)∧inS g g.ball=true∧Dk g g.ball=false∧0≤g.began∧g.began≤AJ g g.ball∧g.lastb= -1∧(g.half=true→Ao g.code=true)∧(g.phase=2→inS g g.taken=true∧¬g.taken=g.ball∧Dk g g.taken=false)∧(¬g.phase=2→g.taken= -1):=by
 have hp:¬g.phase=4:=by intro e;simp[Ag,e] at ht
 have h1:=dx h ht
 have h2:=MO h
 have h3:=(Bs h).2.2.1 ht
 simp only[Ct,Bool.and_eq_true,Bool.or_eq_true,Bool.not_eq_true',decide_eq_true_eq,decide_eq_false_iff_not] at h1
 simp only[CI,ht,Bool.and_eq_true,Bool.or_eq_true,Bool.not_eq_true',decide_eq_true_eq,decide_eq_false_iff_not] at h2
 refine⟨Lc h hp,?_,?_,?_,?_,?_,?_,?_,?_,?_,?_⟩<;>grind
theorem JC {h p i c:Int}{n d:Bool}(hb:CE h p n d=true)(hc:c=i→n=true):Fd h p n (d||decide (c=i)) p n:=by
 simp only[CE,Bool.and_eq_true,Bool.or_eq_true,Bool.not_eq_true',decide_eq_true_eq,Bool.not_eq_true,decide_eq_false_iff_not] at hb
 unfold Fd
 by_cases e:c=i
 ·have:=hc e;simp only[e,decide_true,Bool.or_true];grind
 ·simp only[e,decide_false,Bool.or_false];grind
theorem gk {g:Gm}(h:AR g=true)(ht:Ag g=true):Nq g (EL g):=by
 obtain⟨ho,hs,hb,hi,hd,-,-,-,-,h2,h3⟩:=HC h ht
 obtain⟨-,-,-,-,b0,b1,b2,b3,-⟩:=CS h
 have hc:∀i:Int,0≤i→Cn g=i→inS g i=true∧¬i=g.ball∧Dk g i=false:=by
  intro i hi e
  unfold Cn at e
  by_cases hp:g.phase=2
  ·rw[if_pos hp] at e;rw[←e];exact h2 hp
  ·rw[if_neg hp] at e;omega
 refine⟨JC b0 ?_,JC b1 ?_,JC b2 ?_,JC b3 ?_,?_,.inl rfl,?_,?_⟩
 ·intro e;have:=(hc 0 (by omega) e).1;show g.n0=true;simpa [inS,AY] using this
 ·intro e;have:=(hc 1 (by omega) e).1;show g.n1=true;simpa [inS,AY] using this
 ·intro e;have:=(hc 2 (by omega) e).1;show g.n2=true;simpa [inS,AY] using this
 ·intro e;have:=(hc 3 (by omega) e).1;show g.n3=true;simpa [inS,AY] using this
 ·rintro⟨h,-⟩;exact ho.a h
 ·have e0:=hc 0 (by omega)
  have e1:=hc 1 (by omega)
  have e2:=hc 2 (by omega)
  have e3:=hc 3 (by omega)
  clear hc
  simp only[EL,Bm,Dk,AY,Bool.and_eq_true,Bool.or_eq_true,Bool.or_eq_false_iff,Bool.and_eq_false_iff,decide_eq_true_eq,decide_eq_false_iff_not] at*
  grind
 ·intro _;exact⟨fun _=>⟨rfl,rfl⟩,fun _=>⟨rfl,rfl⟩⟩
theorem bp {g:Gm}(h:AR g=true)(ht:Ag g=true){l:List (List U)}:∀n:Nat,(∀j:Nat,j < n→inS g (At l j 1)=true∧¬(At l j 0=1∧At l j 1=g.ball))→Nq g (Cw g l n)
 |0,_=>gk h ht
 |n+1,he=>by
  have hb:=(HC h ht).2.2.1
  have e:=he n (by omega)
  refine fw (bp h ht n fun j hj=>he j (by omega)) ⟨hb.1,hb.2.1⟩ (fun h1 h2=>e.2 ⟨h1,h2⟩) ?_
  have:=e.1
  simp only[inS,AY,Bool.and_eq_true,Bool.or_eq_true,decide_eq_true_eq] at this
  omega
theorem fl {g:Gm}{l:List (List U)}(he:BX g l=true)(hf:Ck l=false)(j:Nat)(hj:j < l.length):inS g (At l j 1)=true∧¬(At l j 0=1∧At l j 1=g.ball):=by
 have h:=HU.1 he j (by omega)
 obtain⟨h1,h2,h3,h4⟩:=h
 have h5:¬At l j 0=5:=by
  intro e
  have:=h3 e
  have e2:j=l.length - 1:=by omega
  simp only[Ck,Bool.and_eq_false_iff,decide_eq_false_iff_not] at hf
  rcases hf with hf|hf
  ·omega
  ·rw[←e2] at hf;exact hf e
 exact h4 h5
theorem ft {g:Gm}{l:List (List U)}(h:AR g=true)(ht:Ag g=true)(he:BX g l=true)(hf:Ck l=false):Nq g (Cw g l l.length):=
 bp h ht _ fun j hj=>fl he hf j hj
theorem MB {h p p0:Int}{n d n0:Bool}(hb:Fd h p n d p0 n0):CE h p n d=true:=by
 unfold Fd at hb
 simp only[CE,Bool.and_eq_true,Bool.or_eq_true,Bool.not_eq_true',decide_eq_true_eq,Bool.not_eq_true,decide_eq_false_iff_not]
 grind
theorem bK {n m n0 m0:Bool}{p q p0 q0 h:Int}{d e:Bool}(h1:Fd h p n d p0 n0)(h2:Fd h q m e q0 m0):Cj n m p q=Cj n0 m0 p0 q0:=by
 have e1:(n||decide (p=13))=(n0||decide (p0=13)):=by
  refine Bool.eq_iff_iff.2 ?_
  simp only[Bool.or_eq_true,decide_eq_true_eq];exact h1.2.2.1
 have e2:(m||decide (q=13))=(m0||decide (q0=13)):=by
  refine Bool.eq_iff_iff.2 ?_
  simp only[Bool.or_eq_true,decide_eq_true_eq];exact h2.2.2.1
 unfold Cj;rw[e1,e2]
theorem ic {g:Gm}{s:St}(h:SY g)(ho:Nq g s):SY (C9 g s):=
 ⟨h.code,h.side,h.turns,h.halves,MB ho.b0,MB ho.b1,MB ho.b2,MB ho.b3,h.lift,(bK ho.b0 ho.b2).trans h.ca,(bK ho.b1 ho.b3).trans h.cb⟩
theorem bQ {s:St}:B5 s=true↔((s.p0=13∧s.p2=13)∨(s.p1=13∧s.p3=13)):=by
 simp only[B5,Bool.or_eq_true,Bool.and_eq_true,decide_eq_true_eq]
theorem fu {g:Gm}{s:St}(ho:Nq g s)(b:Int):AJ g b≤Bp s b:=by
 have:=ho.b0.1;have:=ho.b1.1;have:=ho.b2.1;have:=ho.b3.1
 unfold AJ Bp AS
 split<;>(try split)<;>(try split)<;>assumption
theorem fN {g:Gm}{s:St}(h:AR g=true)(ht:Ag g=true)(ho:Nq g s):AR (Hg g s)=true:=by
 obtain⟨hop,hs,hb,hi,hd,hb0,hb1,hl,hh,h2,h3⟩:=HC h ht
 have hbase:=ic (CS h) ho
 have hbase':=hbase
 obtain⟨c1,c2,c3,c4,c5,c6,c7,c8,c9,c10,c11⟩:=hbase'
 have hside:CI g=true:=MO h
 unfold Hg
 by_cases hw:B5 s=true
 ·rw[if_pos hw]
  have hw':=bQ.1 hw
  refine LX ⟨c1,c2,c3,c4,DW c5,DW c6,DW c7,DW c8,c9,c10,c11⟩ (by simp) (.inr ⟨rfl,ho.won,?_⟩) ?_ (fun ht=>?_) (fun _=>?_)
  ·show (s.p0=13∧s.p2=13∧_=(0:Int))∨(s.p1=13∧s.p3=13∧_=(1:Int))
   have:=ho.won
   simp only[C9]
   by_cases hx:s.p0=13∧s.p2=13
   ·rw[if_pos hx];left;exact⟨hx.1,hx.2,rfl⟩
   ·rw[if_neg hx];right;rcases hw' with h'|h'
    ·exact absurd h' hx
    ·exact⟨h'.1,h'.2,rfl⟩
  ·simp only[CI,Bool.or_eq_true,Bool.and_eq_true];right;exact⟨.inl rfl,.inl rfl⟩
  ·simp[Ag] at ht
  ·simp[Cm]
 ·rw[if_neg hw]
  have hopen:Xf (C9 g s):=by
   have:=fun z=>hw (bQ.2 z)
   exact⟨fun h=>this (.inl h),fun h=>this (.inr h),hop.win⟩
  have hend:AR (AW (C9 g s))=true:=KS hbase hopen hs (.inr hb)
  by_cases hov:s.over=true∨¬sIn s g.ball=true
  ·rw[if_pos hov];exact hend
  ·rw[if_neg hov]
   have hin:sIn s g.ball=true:=by
    cases e:sIn s g.ball with
    |true=>rfl
    |false=>exact absurd (.inr (by rw[e];decide)) hov
   have hal:Bm s g.ball=false:=by
    cases e:Bm s g.ball with
    |false=>rfl
    |true=>exact absurd e ho.alive
   have hpl:=fu ho g.ball
   have hsid:∀p t:Int,(p=2∨p=3)→CI { C9 g s with phase:=p,taken:=t }=true:=by
    intro p t hp
    simp only[CI,Bool.or_eq_true,Bool.and_eq_true,decide_eq_true_eq,Bool.not_eq_true',decide_eq_false_iff_not]
    rcases hs with hs|hs
    ·left;exact hs
    ·right
     exact⟨.inr hs,.inl (by rcases hp with rfl|rfl<;>decide)⟩
   have htu:∀p t:Int,(p=2∧sIn s t=true∧¬t=g.ball∧Bm s t=false)∨(p=3∧t= -1)→Ct { C9 g s with phase:=p,taken:=t }=true:=by
    intro p t hp
    have hh':(!g.half||Ao g.code)=true:=by cases e:g.half with|false=>rfl|true=>rw[hh e];rfl
    simp only[Ct,Bool.or_eq_true,Bool.and_eq_true,decide_eq_true_eq,Bool.not_eq_true',decide_eq_false_iff_not]
    refine⟨⟨⟨⟨⟨⟨⟨hin,hb.2.2⟩,hal⟩,hb0⟩,Int.le_trans hb1 hpl⟩,hl⟩,by show g.half=false∨Ao g.code=true;simpa [Bool.or_eq_true,Bool.not_eq_true'] using hh'⟩,?_⟩
    rcases hp with⟨rfl,p1,p2,p3⟩|⟨rfl,rfl⟩
    ·left;exact⟨⟨⟨rfl,p1⟩,p2⟩,p3⟩
    ·right;exact⟨by decide,rfl⟩
   have key:∀p t:Int,((p=2∧sIn s t=true∧¬t=g.ball∧Bm s t=false)∨(p=3∧t= -1))→AR { C9 g s with phase:=p,taken:=t }=true:=by
    intro p t hp
    have hp':p=2∨p=3:=by rcases hp with h|h;exact .inl h.1;exact .inr h.1
    refine LX ⟨c1,c2,c3,c4,c5,c6,c7,c8,c9,c10,c11⟩ (by show 0≤p∧p≤4;omega) (.inl ⟨by show¬p=4;omega,hopen.a,hopen.b,hopen.win⟩) (hsid p t hp') (fun _=>htu p t hp) (fun hx=>?_)
    have:Ag { C9 g s with phase:=p,taken:=t }=true:=by
     simp only[Ag,Bool.or_eq_true,decide_eq_true_eq];rcases hp' with h|h
     ·exact .inl (.inr h)
     ·exact .inr h
    rw[this] at hx;cases hx
   by_cases hr:¬s.roquet= -1
   ·rw[if_pos hr]
    have e:=key 2 s.roquet
    rcases ho.roq with h'|⟨_,_,h1,h2,h3⟩
    ·exact absurd h' hr
    ·refine e (.inl ⟨rfl,h1,h3,?_⟩)
     cases e:Bm s s.roquet with
     |false=>rfl
     |true=>exact absurd e h2
   ·rw[if_neg hr]
    by_cases hn:¬s.run=true∧Cn g= -1
    ·rw[if_pos hn];exact hend
    ·rw[if_neg hn];exact key 3 (-1) (.inr ⟨rfl,rfl⟩)
theorem Wf {g:Gm}{l:List (List U)}(h:AR g=true)(ht:Ag g=true)(he:BX g l=true):AR (Ch g l)=true:=by
 unfold Ch
 cases hf:Ck l with
 |true=>
  obtain⟨hop,hs,hb,_⟩:=HC h ht
  exact KS (CS h) hop hs (.inr hb)
 |false=>exact fN h ht (ft h ht he hf)
theorem fD {l:List (List U)}{k b:Int}{f:Bool}:(l.any fun u=>decide ((u.getD 0 default).toI=k)&&decide ((u.getD 1 default).toI=b)&&((u.getD 2 default).toB==f))=true↔
  ∃j:Nat,j < l.length∧At l j 0=k∧At l j 1=b∧C8 l j 2=f:=by
 simp only[List.any_eq_true,Bool.and_eq_true,decide_eq_true_eq,beq_iff_eq]
 constructor
 ·rintro⟨u,hu,h⟩
  obtain⟨j,hj,rfl⟩:=List.mem_iff_getElem.1 hu
  refine⟨j,hj,?_⟩
  have e:l.getD j []=l[j]:=by simp[List.getD,List.getElem?_eq_getElem hj]
  unfold At C8
  rw[e];exact⟨h.1.1,h.1.2,h.2⟩
 ·rintro⟨j,hj,h1,h2,h3⟩
  refine⟨l[j],List.getElem_mem hj,?_⟩
  have e:l.getD j []=l[j]:=by simp[List.getD,List.getElem?_eq_getElem hj]
  unfold At C8 at*
  rw[e] at h1 h2 h3
  exact⟨⟨h1,h2⟩,h3⟩
theorem UA {g:Gm}{k b:Int}{f:Bool}:C3 g k b f=true↔∃j:Nat,j < (C2 g).length∧At (C2 g) j 0=k∧At (C2 g) j 1=b∧C8 (C2 g) j 2=f:=fD
theorem RG (g:Gm)(b:Int):(Co g b).length≤2:=by
 unfold Co;split<;>(try split)<;>simp
theorem Uo (g:Gm):(C2 g).length≤7:=by
 have h1:=RG g g.side
 have h2:=RG g (g.side+2)
 have h3:(Ij g).length≤1:=by unfold Ij;split<;>simp
 have h4:(C1 g).length≤1:=by unfold C1;split<;>simp
 have h5:(C0 g).length≤1:=by unfold C0;split<;>simp
 unfold C2
 split
 ·simp
 ·split
  ·simp
  ·simp only[List.length_append];omega
def QB (k b:Int)(f:Bool)(u:List U):Bool:=decide ((u.getD 0 default).toI=k)&&decide ((u.getD 1 default).toI=b)&&((u.getD 2 default).toB==f)
theorem Jn {k b k' b':Int}{f f':Bool}:QB k b f (mvU k' b' f')=true↔(k'=k∧b'=b∧f'=f):=by
 simp[QB,mvU,U.toI,U.toB,and_assoc]
theorem cY {g:Gm}{c k b:Int}{f:Bool}:(Co g c).any (QB k b f)=true↔(k=1∧b=c∧MK g c=true∧(f=true→inS g c=true∧Ke g g.side=true)):=by
 unfold Co
 by_cases h:MK g c=true
 ·rw[if_pos h]
  by_cases h2:inS g c=true∧Ke g g.side=true
  ·rw[if_pos h2]
   simp only[List.any_cons,List.any_nil,Bool.or_false,Bool.or_eq_true,Jn]
   cases f<;>grind (splits:=40)
  ·rw[if_neg h2]
   simp only[List.any_cons,List.any_nil,Bool.or_false,Jn]
   cases f<;>grind (splits:=40)
 ·rw[if_neg h]
  simp[h]
theorem dY {g:Gm}(h:AR g=true)(ht:Ag g=false)(hp:¬g.phase=4):g.phase=0:=by
 have h1:=Pa h
 simp only[Ag,Bool.or_eq_false_iff,decide_eq_false_iff_not] at ht
 omega
theorem Ii {g:Gm}(h:AR g=true)(ht:Ag g=false):g.ball= -1∧g.taken= -1∧g.d0=false∧g.d1=false∧g.d2=false∧g.d3=false∧g.half=false∧g.began=0∧(g.lastb= -1∨(g.phase=0∧Ao g.code=true∧4≤g.turns∧inS g g.lastb=true∧¬g.lastb % 2=g.side)):=by
 have:=cp h ht
 simp only[Cm,Bool.and_eq_true,Bool.or_eq_true,Bool.not_eq_true',decide_eq_true_eq,decide_eq_false_iff_not,and_assoc] at this
 obtain⟨h1,h2,h3,h4,h5,h6,h7,h8,h9⟩:=this
 exact⟨h1,h2,h3,h4,h5,h6,h7,h8,h9⟩
theorem Ko {g:Gm}(h:AR g=true){k b:Int}{f:Bool}:C3 g k b f=true↔
  ((k=2∧b=0∧f=false∧Ag g=true)∨(k=3∧b=0∧f=false∧(Ag g=true∨(Ag g=false∧g.phase=0∧4≤g.turns)))∨
   (k=1∧Ag g=false∧g.phase=0∧(b=g.side∨b=g.side+2)∧MK g b=true∧(f=true→inS g b=true∧Ke g g.side=true))∨
   (k=4∧f=false∧Ag g=false∧g.phase=0∧b=g.lastb∧¬g.lastb= -1∧2≤HO g (g.lastb % 2))∨
   (k=5∧f=false∧Ag g=false∧g.phase=0∧b=g.lastb∧¬g.lastb= -1∧1≤HO g (g.lastb % 2))):=by
 show (C2 g).any (QB k b f)=true↔_
 unfold C2
 cases ht:Ag g with
 |true=>
  simp only[if_true,List.any_cons,List.any_nil,Bool.or_false,Bool.or_eq_true,Jn]
  grind
 |false=>
  simp only[Bool.false_eq_true,if_false]
  by_cases hp:g.phase=4
  ·rw[if_pos hp]
   simp[hp]
  ·rw[if_neg hp]
   have h0:=dY h ht hp
   simp only[List.any_append,Bool.or_eq_true,cY]
   have e1:(Ij g).any (QB k b f)=true↔(4≤g.turns∧k=3∧b=0∧f=false):=by
    unfold Ij;split
    ·simp only[List.any_cons,List.any_nil,Bool.or_false,Jn];grind
    ·simp;grind
   have e2:(C1 g).any (QB k b f)=true↔((¬g.lastb= -1∧2≤HO g (g.lastb % 2))∧k=4∧b=g.lastb∧f=false):=by
    unfold C1;split
    ·simp only[List.any_cons,List.any_nil,Bool.or_false,Jn];grind
    ·simp;grind
   have e3:(C0 g).any (QB k b f)=true↔((¬g.lastb= -1∧1≤HO g (g.lastb % 2))∧k=5∧b=g.lastb∧f=false):=by
    unfold C0;split
    ·simp only[List.any_cons,List.any_nil,Bool.or_false,Jn];grind
    ·simp;grind
   rw[e1,e2,e3]
   clear e1 e2 e3
   grind (splits:=60)
theorem KP {g:Gm}(h:AR g=true):(g.n0=true→¬g.p0=13)∧(g.n1=true→¬g.p1=13)∧(g.n2=true→¬g.p2=13)∧(g.n3=true→¬g.p3=13):=by
 obtain⟨-,-,-,-,h5,h6,h7,h8,-,-,-⟩:=CS h
 simp only[CE,Bool.and_eq_true,Bool.or_eq_true,Bool.not_eq_true',decide_eq_true_eq,decide_eq_false_iff_not] at h5 h6 h7 h8
 refine⟨?_,?_,?_,?_⟩<;>grind
theorem L9 {g:Gm}(h:AR g=true){k b:Int}{f:Bool}(ha:C3 g k b f=true):1≤k∧k≤5∧(¬k=2→¬k=3→0≤b∧b≤3)∧(k=2→Ag g=true):=by
 have hs:=(CS h).side
 have hl:=(Bs h).2.1
 have:=(Ko h).1 ha
 grind
theorem iX {h p:Int}{n d:Bool}(hb:CE h p n d=true)(hp:¬p=13)(d':Bool):CE h p true d'=true:=by
 simp only[CE,Bool.and_eq_true,Bool.or_eq_true,Bool.not_eq_true',decide_eq_true_eq] at*; grind
theorem Nl {t:Int}(h:0≤t∧t≤1073741824):0≤Ae t∧Ae t≤1073741824∧(4≤t→4≤Ae t)∧(t < 4→Ae t=t+1)∧(Ae t+1) % 2=t % 2:=by
 unfold Ae;split<;>omega
theorem cR {g:Gm}(h:AR g=true)(ht:Ag g=false){b:Int}(hb:0≤b∧b≤3)(hm:(inS g b=true∧4≤g.turns)∨(g.turns < 4∧inS g b=false∧¬AJ g b=13∧b % 2=g.turns % 2)):SY (AH g b):=by
 obtain⟨h1,h2,h3,h4,h5,h6,h7,h8,h9,h10,h11⟩:=CS h
 obtain⟨q0,q1,q2,q3⟩:=KP h
 have hf:=Nl h3
 have key:∀{i p:Int} {n d:Bool},CE (AX g.code) p n d=true→(b=i→¬p=13)→CE (AX g.code) p (n||decide (b=i)) false=true:=by
  intro i p n d hB hi
  by_cases e:b=i
  ·simp only[e,decide_true,Bool.or_true];exact iX hB (hi e) false
  ·simp only[e,decide_false,Bool.or_false];exact DW hB
 have hnp:(b=0→¬g.p0=13)∧(b=1→¬g.p1=13)∧(b=2→¬g.p2=13)∧(b=3→¬g.p3=13):=by
  simp only[inS,AY,AJ,AS,Bool.and_eq_true,Bool.or_eq_true,decide_eq_true_eq] at hm
  grind
 refine⟨h1,by show 0≤b % 2∧b % 2≤1;omega,⟨hf.1,hf.2.1⟩,h4,key h5 hnp.1,key h6 hnp.2.1,key h7 hnp.2.2.1,key h8 hnp.2.2.2,h9,?_,?_⟩
 ·show Cj (g.n0||decide (b=0)) (g.n2||decide (b=2)) g.p0 g.p2=(CQ (Ae g.turns)+1) / 2
  simp only[inS,AY,AJ,AS,Bool.and_eq_true,Bool.or_eq_true,Bool.or_eq_false_iff,Bool.and_eq_false_iff,decide_eq_true_eq,decide_eq_false_iff_not] at hm
  unfold Cj bit CQ at*
  obtain rfl|rfl|rfl|rfl:b=0∨b=1∨b=2∨b=3:=by omega
  all_goals simp at hm hnp⊢
  all_goals rcases hm with hm|hm
  all_goals grind
 ·show Cj (g.n1||decide (b=1)) (g.n3||decide (b=3)) g.p1 g.p3=CQ (Ae g.turns) / 2
  simp only[inS,AY,AJ,AS,Bool.and_eq_true,Bool.or_eq_true,Bool.or_eq_false_iff,Bool.and_eq_false_iff,decide_eq_true_eq,decide_eq_false_iff_not] at hm
  unfold Cj bit CQ at*
  obtain rfl|rfl|rfl|rfl:b=0∨b=1∨b=2∨b=3:=by omega
  all_goals simp at hm hnp⊢
  all_goals rcases hm with hm|hm
  all_goals grind
theorem U2 {g:Gm}(h:AR g=true)(b:Int):0≤AJ g b:=by
 obtain⟨⟨h0,_⟩,⟨h1,_⟩,⟨h2,_⟩,⟨h3,_⟩⟩:=Jl h
 unfold AJ AS
 split<;>(try split)<;>(try split)<;>assumption
theorem K9 {g:Gm}(h:AR g=true)(ht:Ag g=false)(hp:¬g.phase=4){b:Int}(hb:0≤b∧b≤3)(hm:(inS g b=true∧4≤g.turns)∨(g.turns < 4∧inS g b=false∧¬AJ g b=13∧b % 2=g.turns % 2))
  (hs:(Ao g.code=true∧4≤g.turns)∨b % 2=g.turns % 2) {e0 e1:Int} {l0 l1 hf:Bool} (he:DD g.code e0 e1=true) (hl:g.code=1∨(l0=false∧l1=false)) (hh:hf=true→Ao g.code=true):
  AR { AH g b with h0:=e0,h1:=e1,l0:=l0,l1:=l1,half:=hf }=true:=by
 obtain⟨c1,c2,c3,c4,c5,c6,c7,c8,c9,c10,c11⟩:=cR h ht hb hm
 have ho:=Lc h hp
 have hfl:=Nl (CS h).turns
 have hpn:=U2 h b
 refine LX ⟨c1,c2,c3,he,c5,c6,c7,c8,hl,c10,c11⟩ (by show (0:Int)≤1∧(1:Int)≤4;decide) (.inl ⟨by show¬(1:Int)=4;decide,ho.a,ho.b,ho.win⟩) ?_ (fun _=>?_) (fun hx=>?_)
 ·simp only[CI,Bool.or_eq_true,Bool.and_eq_true,decide_eq_true_eq]
  rcases hs with hs|hs
  ·left;exact⟨hs.1,hfl.2.2.1 hs.2⟩
  ·right;refine⟨.inr ?_,.inl rfl⟩
   show b % 2=(Ae g.turns+1) % 2
   rw[hfl.2.2.2.2];exact hs
 ·simp only[Ct,Bool.or_eq_true,Bool.and_eq_true,decide_eq_true_eq,Bool.not_eq_true']
  refine⟨⟨⟨⟨⟨⟨⟨?_,rfl⟩,?_⟩,hpn⟩,Int.le_refl _⟩,rfl⟩,?_⟩,.inr ⟨rfl,rfl⟩⟩
  ·show AY b (g.n0||decide (b=0)) (g.n1||decide (b=1)) (g.n2||decide (b=2)) (g.n3||decide (b=3))=true
   simp only[AY,Bool.or_eq_true,Bool.and_eq_true,decide_eq_true_eq];omega
  ·show AY b false false false false=false
   simp[AY]
  ·show hf=false∨Ao g.code=true
   cases hf with
   |false=>exact .inl rfl
   |true=>exact .inr (hh rfl)
 ·simp[Ag,AH] at hx
theorem Td {c a b x y:Int}(h:DD c a b=true)(hx:0≤x∧x≤a)(hy:0≤y∧y≤b):DD c x y=true:=by
 simp only[DD,Bool.and_eq_true,Bool.or_eq_true,decide_eq_true_eq] at*
 obtain⟨⟨⟨⟨h1,h2⟩,h3⟩,h4⟩,h5⟩:=h
 refine⟨⟨⟨⟨by omega,by omega⟩,by omega⟩,by omega⟩,?_⟩
 rcases h5 with h5|h5
 ·exact .inl h5
 ·right;omega
theorem Q3 {c a b:Int}(h:DD c a b=true):0≤a∧0≤b∧(0 < a→Ao c=true)∧(0 < b→Ao c=true):=by
 simp only[DD,Bool.and_eq_true,Bool.or_eq_true,decide_eq_true_eq] at h
 obtain⟨⟨⟨⟨h1,h2⟩,h3⟩,h4⟩,h5⟩:=h
 refine⟨h1,h3,fun p=>?_,fun p=>?_⟩<;>(rcases h5 with h5|h5;exact h5;omega)
theorem cn {g:Gm}{k b:Int}{f:Bool}{l:List (List U)}(h:AR g=true)(ha:C3 g k b f=true)(he:k=2→BX g l=true):AR (Bv g k b l)=true:=by
 have hB:=CS h
 have hball:=L9 h ha
 have hin:=KP h
 have hsd:=MO h
 rcases (Ko h).1 ha with⟨rfl,-,-,ht⟩|⟨rfl,-,-,ht⟩|⟨rfl,ht,h0,hbs,hm,-⟩|⟨rfl,-,ht,h0,rfl,hl,hh⟩|⟨rfl,-,ht,h0,rfl,hl,hh⟩
 ·exact Wf h ht (he rfl)
 ·show AR (AW (G1 g))=true
  rcases ht with ht|⟨ht,h0,h4⟩
  ·obtain⟨hop,hs,hb,_⟩:=HC h ht
   have e:G1 g=g:=by
    have:¬g.phase=0:=by intro e;simp[Ag,e] at ht
    unfold G1;rw[if_neg this]
   rw[e];exact KS hB hop hs (.inr hb)
  ·have hfl:=Nl hB.turns
   have e:G1 g={ g with turns:=Ae g.turns }:=by unfold G1;rw[if_pos h0]
   have hr:=Ii h ht
   rw[e]
   obtain⟨c1,c2,c3,c4,c5,c6,c7,c8,c9,c10,c11⟩:=hB
   have ho:=Lc h (by omega)
   refine KS ⟨c1,c2,⟨hfl.1,hfl.2.1⟩,c4,c5,c6,c7,c8,c9,?_,?_⟩ ⟨ho.a,ho.b,ho.win⟩ ?_ (.inl hr.1)
   ·show _=(CQ (Ae g.turns)+1) / 2
    rw[c10];have:=hfl.2.2.1 h4;unfold CQ;split<;>split<;>omega
   ·show _=CQ (Ae g.turns) / 2
    rw[c11];have:=hfl.2.2.1 h4;unfold CQ;split<;>split<;>omega
   ·simp only[CI,Bool.and_eq_true,Bool.or_eq_true,Bool.not_eq_true',decide_eq_true_eq,decide_eq_false_iff_not] at hsd
    rcases hsd with hsd|⟨-,hsd⟩
    ·left;exact⟨hsd.1,hfl.2.2.1 hsd.2⟩
    ·right;show g.side=(Ae g.turns+1) % 2
     rw[hfl.2.2.2.2];rcases hsd with hsd|hsd
     ·exact absurd h0 hsd
     ·exact hsd
 ·show AR (Iw (AH g b))=true
  have hb:0≤b∧b≤3:=hball.2.2.1 (by decide) (by decide)
  have hs:(Ao g.code=true∧4≤g.turns)∨b % 2=g.turns % 2:=by
   have h2:=hB.side
   have e:b % 2=g.side:=by omega
   simp only[CI,Bool.and_eq_true,Bool.or_eq_true,Bool.not_eq_true',decide_eq_true_eq,decide_eq_false_iff_not] at hsd
   rcases hsd with hsd|⟨-,hsd⟩
   ·exact .inl hsd
   ·right;rcases hsd with hsd|hsd
    ·exact absurd h0 hsd
    ·omega
  have hm':(inS g b=true∧4≤g.turns)∨(g.turns < 4∧inS g b=false∧¬AJ g b=13∧b % 2=g.turns % 2):=by
   simp only[MK,Bool.or_eq_true,Bool.and_eq_true,Bool.not_eq_true',decide_eq_true_eq,decide_eq_false_iff_not] at hm
   rcases hm with hm|hm
   ·right;refine⟨hm.1.1,hm.1.2,hm.2,?_⟩
    rcases hs with hs|hs
    ·have:=hs.2;omega
    ·exact hs
   ·left;exact⟨hm.2,hm.1⟩
  have hl:=hB.lift
  exact K9 h ht (by omega) hb hm' hs hB.halves (l0:=g.l0&& !decide (b % 2=0)) (l1:=g.l1&& !decide (b % 2=1)) (hf:=false) (by rcases hl with hl|hl;exact .inl hl;right;simp[hl]) (fun h=>by cases h)
 ·show AR (Gw 2 (AH g g.lastb))=true
  have hb:0≤g.lastb∧g.lastb≤3:=hball.2.2.1 (by decide) (by decide)
  obtain⟨-,-,-,-,-,-,-,-,hr⟩:=Ii h ht
  rcases hr with hr|⟨-,hq,h4,hi,-⟩
  ·exact absurd hr hl
  have hp:=Q3 hB.halves
  refine K9 h ht (by omega) hb (.inl ⟨hi,h4⟩) (.inl ⟨hq,h4⟩) (e0:=if g.lastb % 2=0 then g.h0 - 2 else g.h0) (e1:=if g.lastb % 2=1 then g.h1 - 2 else g.h1) (hf:=false) (Td hB.halves ?_ ?_) hB.lift (fun h=>by cases h)
  ·unfold HO at hh;split<;>(try split at hh)<;>omega
  ·unfold HO at hh;split<;>(try split at hh)<;>omega
 ·show AR { Gw 1 (AH g g.lastb) with half:=true }=true
  have hb:0≤g.lastb∧g.lastb≤3:=hball.2.2.1 (by decide) (by decide)
  obtain⟨-,-,-,-,-,-,-,-,hr⟩:=Ii h ht
  rcases hr with hr|⟨-,hq,h4,hi,-⟩
  ·exact absurd hr hl
  have hp:=Q3 hB.halves
  refine K9 h ht (by omega) hb (.inl ⟨hi,h4⟩) (.inl ⟨hq,h4⟩) (e0:=if g.lastb % 2=0 then g.h0 - 1 else g.h0) (e1:=if g.lastb % 2=1 then g.h1 - 1 else g.h1) (hf:=true) (Td hB.halves ?_ ?_) hB.lift (fun _=>hq)
  ·unfold HO at hh;split<;>(try split at hh)<;>omega
  ·unfold HO at hh;split<;>(try split at hh)<;>omega
theorem QI {g:Gm}(h:AR g=true):g.lastb= -1∨(0≤g.lastb∧g.lastb≤3∧4≤g.turns∧g.phase=0):=by
 have h1:=(Bs h).2.1
 cases ht:Ag g with
 |true=>exact .inl (HC h ht).2.2.2.2.2.2.2.1
 |false=>
  obtain⟨-,-,-,-,-,-,-,-,hr⟩:=Ii h ht
  rcases hr with hr|⟨h0,-,h4,-⟩
  ·exact .inl hr
  ·rcases h1 with h1|h1
   ·exact .inl h1
   ·exact .inr ⟨h1.1,h1.2,h4,h0⟩
theorem hM {g:Gm}(h:AR g=true):(g.ball= -1∨(0≤g.ball∧g.ball≤3))∧0≤g.side∧g.side≤1∧0≤g.began:=by
 have h2:=IK h;have h3:=Bs h;have h4:=(CS h).side
 refine⟨?_,h4.1,h4.2,h2⟩
 cases hb:Ag g with
 |true=>exact .inr (h3.2.2.1 hb)
 |false=>exact .inl (h3.2.2.2.2 hb)
theorem Yo {g:Gm}(h:AR g=true):(0≤g.h0∧g.h0≤40)∧(0≤g.h1∧g.h1≤40):=by
 have h:=(CS h).halves
 simp only[DD,Bool.and_eq_true,decide_eq_true_eq] at h;omega
end Go.Eng
end
noncomputable section
namespace Go.Eng
theorem WH {g:Gm}{k b:Int}{f:Bool}{l:List (List U)}(h:B9 g k b f l=0):AR g=true∧C3 g k b f=true∧l.length≤24∧(¬k=2→l.length=0)∧BX g l=true:=by
 unfold B9 at h
 split at h
 ·omega
 ·rename_i h1
  split at h
  ·omega
  ·rename_i h2
   split at h
   ·omega
   ·rename_i h3
    split at h
    ·omega
    ·rename_i h4
     refine⟨by simpa using h1,by simpa using h2,by omega,fun hk=>?_,?_⟩
     ·by_cases hz:0 < l.length
      ·exact absurd (.inl ⟨hk,hz⟩) h4
      ·omega
     ·cases he:BX g l with
      |true=>rfl
      |false=>exact absurd (.inr he) h4
theorem gU {g:Gm}{k b:Int}{f:Bool}{l:List (List U)}(he:B9 g k b f l=0):AR (Bv g k b l)=true:=by
 obtain⟨hl,ha,-,-,hv⟩:=WH he
 exact cn hl ha fun _=>hv
theorem dr {g:Gm}{s:St}:(Hg g s).code=g.code∧(Hg g s).p0=s.p0∧(Hg g s).p1=s.p1∧(Hg g s).p2=s.p2∧(Hg g s).p3=s.p3∧(Hg g s).n0=s.n0∧(Hg g s).n1=s.n1∧(Hg g s).n2=s.n2∧(Hg g s).n3=s.n3:=by
 unfold Hg
 split
 ·simp[C9]
 ·split
  ·simp[AW,C9]
  ·split
   ·simp[C9]
   ·split
    ·simp[AW,C9]
    ·simp[C9]
theorem KW {h p p0:Int}{n d n0:Bool}(hb:Fd h p n d p0 n0)(h0:n0=true→¬p0=13):p0≤p∧(n=n0∨p=13):=by
 obtain⟨a,b,c,e⟩:=hb
 refine⟨a,?_⟩
 cases n<;>cases n0<;>simp at* <;>grind
structure lU (g n:Gm) (k:Int) (flt:Bool):Prop where
 code:n.code=g.code
 a0:g.p0≤n.p0∧(n.n0=g.n0∨k=1∨n.p0=13)
 a1:g.p1≤n.p1∧(n.n1=g.n1∨k=1∨n.p1=13)
 a2:g.p2≤n.p2∧(n.n2=g.n2∨k=1∨n.p2=13)
 a3:g.p3≤n.p3∧(n.n3=g.n3∨k=1∨n.p3=13)
 same:¬k=2∨flt=true→n.p0=g.p0∧n.p1=g.p1∧n.p2=g.p2∧n.p3=g.p3
 ins:flt=true→n.n0=g.n0∧n.n1=g.n1∧n.n2=g.n2∧n.n3=g.n3
 half:g.half=true→(g.side=0→n.p0=g.p0∧n.p2=g.p2)∧(g.side=1→n.p1=g.p1∧n.p3=g.p3)
theorem lW {g:Gm}{b:Int}(h:inS g b=true):(g.n0||decide (b=0))=g.n0∧(g.n1||decide (b=1))=g.n1∧(g.n2||decide (b=2))=g.n2∧(g.n3||decide (b=3))=g.n3:=by
 simp only[inS,AY,Bool.or_eq_true,Bool.and_eq_true,decide_eq_true_eq] at h
 refine⟨?_,?_,?_,?_⟩<;>(rcases h with ((h|h)|h)|h<;>simp[h.1,h.2])
theorem am {g:Gm}{k b:Int}{f:Bool}{l:List (List U)}{n:Gm}(he:B9 g k b f l=0)(hn:n=Bv g k b l):lU g n k (Ck l):=by
 obtain⟨hl,ha,-,h0,hv⟩:=WH he
 have hf:¬k=2→Ck l=false:=fun h=>by simp[Ck,h0 h]
 subst hn
 rcases (Ko hl).1 ha with⟨rfl,-,-,ht⟩|⟨rfl,-,-,ht⟩|⟨rfl,ht,h3,hbs,hm,-⟩|⟨rfl,-,ht,h3,rfl,hll,hh⟩|⟨rfl,-,ht,h3,rfl,hll,hh⟩
 ·simp only[Bv,show¬(2:Int)=1 by omega,if_false,if_true]
  cases hc:Ck l with
  |true=>
   unfold Ch
   rw[if_pos hc]
   constructor<;>simp[AW]
  |false=>
   unfold Ch
   rw[if_neg (by rw[hc];decide)]
   have ok:=ft hl ht hv hc
   obtain⟨f1,f2,f3,f4,f5,f6,f7,f8,f9⟩:=dr (g:=g) (s:=Cw g l l.length)
   obtain⟨i0,i1,i2,i3⟩:=KP hl
   have q0:=KW ok.b0 i0
   have q1:=KW ok.b1 i1
   have q2:=KW ok.b2 i2
   have q3:=KW ok.b3 i3
   have q4:=ok.half
   constructor
   ·exact f1
   ·rw[f2,f6];exact⟨q0.1,q0.2.elim .inl (.inr∘ .inr)⟩
   ·rw[f3,f7];exact⟨q1.1,q1.2.elim .inl (.inr∘ .inr)⟩
   ·rw[f4,f8];exact⟨q2.1,q2.2.elim .inl (.inr∘ .inr)⟩
   ·rw[f5,f9];exact⟨q3.1,q3.2.elim .inl (.inr∘ .inr)⟩
   ·rintro (h|h)
    ·exact absurd rfl h
    ·cases h
   ·intro h;cases h
   ·rw[f2,f3,f4,f5];exact q4
 ·have hf:=hf (by omega)
  simp only[Bv,show¬(3:Int)=1 by omega,show¬(3:Int)=2 by omega,if_false,if_true]
  constructor<;>simp[AW,G1]
 ·simp only[Bv,if_true]
  have hf:=hf (by omega)
  constructor<;>simp[Iw,AH,hf]
 all_goals
  have hf:=hf (by omega)
  have hin:inS g g.lastb=true:=by
   obtain⟨-,-,-,-,-,-,-,-,h⟩:=Ii hl ht
   rcases h with h|h
   ·exact absurd h hll
   ·exact h.2.2.2.1
  obtain⟨o0,o1,o2,o3⟩:=lW hin
  first|simp only[Bv,show¬(4:Int)=1 by omega,show¬(4:Int)=2 by omega,show¬(4:Int)=3 by omega,if_false,if_true]|simp only[Bv,show¬(5:Int)=1 by omega,show¬(5:Int)=2 by omega,show¬(5:Int)=3 by omega,show¬(5:Int)=4 by omega,if_false]
  constructor<;>simp[Gw,AH,hf,o0,o1,o2,o3]
def CB (g:Gm)(n:Int):List (List U)→Gm × Int × Int
 |[]=>(g,n,0)
 |m::t=>if B9 g (m.getD 0 default).toI (m.getD 1 default).toI (m.getD 2 default).toB (m.getD 3 default).toL=0 then CB (Bv g (m.getD 0 default).toI (m.getD 1 default).toI (m.getD 3 default).toL) (n+1) t else (g,n,B9 g (m.getD 0 default).toI (m.getD 1 default).toI (m.getD 2 default).toB (m.getD 3 default).toL)
def Cu (g:Gm)(l:List (List U)):Gm × Int × Int:=if AR g=false then (Jm,0,2) else if 1000 < l.length then (Jm,0,6) else CB g 0 l
def V8 (l:List (List U)):Bool:=(decide (100 < l.length)&&decide (l.length≤1000))||decide (1100 < l.length)||l.any fun m=>decide (40 < ((m.getD 3 default).toL).length)
theorem T5 {l:List (List U)}{i:Nat}(h:i < l.length):l.drop i=l.getD i []::l.drop (i+1):=by
 rw[List.drop_eq_getElem_cons h,List.getD_eq_getElem?_getD,List.getElem?_eq_getElem h];rfl
theorem TU {g:Gm}{n:Int}{l:List (List U)}{i:Nat}(h:l.length≤i):CB g n (l.drop i)=(g,n,0):=by
 rw[List.drop_eq_nil_of_le h];rfl
theorem Ww {g:Gm}{n:Int}{l:List (List U)}{i:Nat}(h:i < l.length)(he:B9 g (At l i 0) (At l i 1) (C8 l i 2) (EF l i 3)=0):
  CB g n (l.drop i)=CB (Bv g (At l i 0) (At l i 1) (EF l i 3)) (n+1) (l.drop (i+1)):=by
 rw[T5 h]
 exact if_pos he
theorem RQ {g:Gm}{n:Int}{l:List (List U)}{i:Nat}(h:i < l.length)(he:¬B9 g (At l i 0) (At l i 1) (C8 l i 2) (EF l i 3)=0):
  CB g n (l.drop i)=(g,n,B9 g (At l i 0) (At l i 1) (C8 l i 2) (EF l i 3)):=by
 rw[T5 h]
 exact if_neg he
theorem ii {l:List (List U)}{j:Nat}(h:j < l.length):l.getD j []∈l:=by
 rw[List.getD_eq_getElem?_getD,List.getElem?_eq_getElem h];exact List.getElem_mem h
theorem fx {l:List (List U)}:V8 l=true↔((100 < l.length∧l.length≤1000)∨1100 < l.length)∨∃j:Nat,j < l.length∧40 < (EF l j 3).length:=by
 unfold V8
 simp only[Bool.or_eq_true,Bool.and_eq_true,decide_eq_true_eq,List.any_eq_true]
 refine or_congr Iff.rfl ⟨?_,?_⟩
 ·rintro⟨u,hu,h⟩
  obtain⟨j,hj,rfl⟩:=List.mem_iff_getElem.1 hu
  refine⟨j,hj,?_⟩
  have e:l.getD j []=l[j]:=by simp[List.getD,List.getElem?_eq_getElem hj]
  unfold EF;rw[e];exact h
 ·rintro⟨j,hj,h⟩
  exact⟨_,ii hj,h⟩
theorem W5 {g:Gm}{l:List (List U)}(h:¬AR g=true):Cu g l=(Jm,0,2):=by
 unfold Cu;rw[if_pos (by simpa using h)]
theorem TB {g:Gm}{l:List (List U)}(h:AR g=true)(hl:1000 < l.length):Cu g l=(Jm,0,6):=by
 unfold Cu;rw[if_neg (by simp[h]),if_pos hl]
theorem bB {g:Gm}{l:List (List U)}(h:AR g=true)(hl:¬1000 < l.length):Cu g l=CB g 0 l:=by
 unfold Cu;rw[if_neg (by simp[h]),if_neg hl]
theorem j8 {g:Gm}{k b:Int}{f:Bool}{l:List (List U)}(h:B9 g k b f l=0):D2 g k b f l=Bv g k b l:=if_pos h
end Go.Eng
end
